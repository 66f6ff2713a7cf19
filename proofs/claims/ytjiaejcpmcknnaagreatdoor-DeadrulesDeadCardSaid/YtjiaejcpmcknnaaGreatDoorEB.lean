/-
  The engine: a part of the proof that trees of values are carried along by the program: no condition.
-/
import Derived.Test.YtjiaejcpmcknnaaGreatDoorEA
import Derived.Orders
open Array renaming getD_eq_getD_getElem?->eac,getElem?_eq_getElem->eab,getElem?_replicate->Pac,length_toList->Kab,range->Tac,replicate->mab
open Bool renaming and_eq_true->paa,or_eq_true->Eac
open List renaming all_eq_true->Uaa,append_nil->Kaa,drop_eq_getElem_cons->Taa,drop_eq_nil_of_le->xac,getD_cons_succ->Yab,getD_eq_getElem?_getD->pac,getElem?_eq_getElem->faa,getElem?_eq_some_iff->Haa,getElem?_set->Sac,headD_nil->Pad,length_append->Oaa,length_take->Cac,map_cons->Maa,mem_append->tab,mem_cons->oab,mem_range->iad,range->yaa,replicate->jaa,set_comm->Rad,size_toArray->nac,tail_nil->Sad,take_succ_cons->Vaa
open Nat renaming beq->Kad,le_refl->saa,le_total->Uad,le_trans->yab,lt_of_lt_of_le->Paa,lt_or_ge->zab,strongRecOn->lac,zero_add->jab
open Option renaming bind_eq_some_iff->xab,map_eq_some_iff->haa
open Option.some renaming injEq->Laa
open Prod.mk renaming injEq->Baa
set_option linter.all false
namespace Go.Tm
open Go.RowKit (Below)
section
variable {P:Program}
structure StepN (N:Nat) (G:Gh) (w:World) (m:List Ent) (G':Gh) (w':World) (m':List Ent):Prop where
 F:∀b,G.F b->G'.F b
 heap:∀b,G.F b->w'.heap[b]?=w.heap[b]?
 n:N<=G'.n
 id:∀i,i<N->(G'.V i=G.V i/\G'.B i=G.B i/\G'.S i=G.S i/\G'.N i=G.N i/\G'.C i=G.C i)\/G.V i<G'.V i
 os:w'.os=w.os
 tape:w'.tape=w.tape
 output:w'.output=w.output
 size:w.heap.size<=w'.heap.size
 keep:∀b,b<w.heap.size->¬Xd G m b->w'.heap[b]?=w.heap[b]?
 newF:∀b,b<w.heap.size->G'.F b->G.F b\/Xd G m b
 newB:∀b,b<w.heap.size->Xd G' m' b->Xd G m b
theorem Step.BV{N:Nat}{G G':Gh}{w w':World}{m m':List Ent}(h:Step G w m G' w' m') (hN:N<=G.n):StepN N G w m G' w' m':=
 ⟨h.le.F,h.le.heap,yab hN h.le.n,λi hi=>h.le.id i (Paa hi hN),h.os,h.tape,h.output,h.size,h.keep,h.newF,h.newB⟩
theorem StepN.toStep{G G':Gh}{w w':World}{m m':List Ent}(h:StepN G.n G w m G' w' m'):Step G w m G' w' m':=
 ⟨⟨h.F,h.heap,h.n,h.id⟩,h.os,h.tape,h.output,h.size,h.keep,h.newF,h.newB⟩
theorem StepN.refl{N:Nat}(G:Gh) (w:World) (m:List Ent) (hN:N<=G.n):StepN N G w m G w m:=(Step.refl G w m).BV hN
theorem StepN.trans{N:Nat}{G G' G'':Gh}{w w' w'':World}{m m' m'':List Ent}(h:StepN N G w m G' w' m') (k:StepN N G' w' m' G'' w'' m''):StepN N G w m G'' w'' m'' where
 F b hb:=k.F b (h.F b hb)
 heap b hb:=(k.heap b (h.F b hb)).trans (h.heap b hb)
 n:=k.n
 id i hi:=by
  have h1:=h.id i hi;have h2:=k.id i hi
  grind
 os:=k.os.trans h.os
 tape:=k.tape.trans h.tape
 output:=k.output.trans h.output
 size:=yab h.size k.size
 keep b hb ho:=(k.keep b (Paa hb h.size) λh'=>ho (h.newB b hb h')).trans (h.keep b hb ho)
 newF b hb hF:=by
  rcases k.newF b (Paa hb h.size) hF with h'|h'
  .exact h.newF b hb h'
  .exact .inr (h.newB b hb h')
 newB b hb h':=h.newB b hb (k.newB b (Paa hb h.size) h')
def T(P:Program) (N:Nat) (c:C) (K:Exit->St->Prop) (s:St):Prop:=
 ∀code,comp P code=some c->∀(G:Gh) (w:World) (a:Act),N<=G.n->Rel G w a s->
  code.wp P (λe a' w'=>∃s' G',K e s'/\Rel G' w' a' s'/\StepN N G w s.m G' w' s'.m) a w
variable {N:Nat}
theorem T.mono{c:C}{K K':Exit->St->Prop}{s:St}(h:T P N c K s) (hK:∀e s',K e s'->K' e s'):T P N c K' s:=
 λcode hc G w a hN hr=>Code.wp_mono (λ_ _ _ ⟨s',G',h1,h2⟩=>⟨s',G',hK _ _ h1,h2⟩) (h code hc G w a hN hr)
theorem T.ghost{c:C}{K:Exit->St->Prop}{s s':St}(hg:∀(G:Gh) (w:World) (a:Act),N<=G.n->Rel G w a s->∃G',Rel G' w a s'/\StepN N G w s.m G' w s'.m) (h:T P N c K s'):T P N c K s:=by
 intro code hc G w a hN hr;obtain⟨G',hr',hs'⟩:=hg G w a hN hr;exact Code.wp_mono (λ_ _ _ ⟨s'',G'',h1,h2,h3⟩=>⟨s'',G'',h1,h2,hs'.trans h3⟩) (h code hc G' w a hs'.n hr')
theorem mM{code:Code}(h:comp P code=some .skip):code=.skip\/∃l,code=.label l:=by
 cases code with
 |region id ops draw=>
  cases draw with
  |false=>simp[comp]at h
  |true=>grind[comp]
 |seq a b=>grind[comp]
 |cond c a b=>grind[comp]
 |skip=>simp
 |label l=>simp
 |_=>simp[comp]at h
theorem AO{code:Code}(h:comp P code=some .ret):code=.ret:=by
 cases code with
 |region id ops draw=>
  cases draw with
  |false=>simp[comp]at h
  |true=>grind[comp]
 |seq a b=>grind[comp]
 |cond c a b=>grind[comp]
 |ret=>rfl
 |_=>simp[comp]at h
theorem kM{code:Code}{i:Nat}(h:comp P code=some (.exit i)):code=.exit i:=by
 cases code with
 |region id ops draw=>
  cases draw with
  |false=>simp[comp]at h
  |true=>grind[comp]
 |seq a b=>grind[comp]
 |cond c a b=>grind[comp]
 |exit j=>grind[comp]
 |_=>simp[comp]at h
theorem zO{code:Code}{l:List RI}(h:comp P code=some (.mJ l)):∃id ops,code=.region id ops false/\nh P ops ops.toList=some l:=by
 cases code with
 |region id ops draw=>
  cases draw with
  |true=>grind[comp]
  |false=>simp[comp]at h;grind
 |seq a b=>grind[comp]
 |cond c a b=>grind[comp]
 |_=>simp[comp]at h
theorem nA{code:Code}{q:Nat}{l:List RI}(h:comp P code=some (.draw q l)):∃id ops,code=.region id ops true/\nh P ops ops.toList=some l/\rA (mb ops) l q=true:=by
 cases code with
 |region id ops draw=>
  cases draw with
  |false=>simp[comp]at h
  |true=>
   simp only[comp]at h
   grind
 |seq a b=>grind[comp]
 |cond c a b=>grind[comp]
 |_=>simp[comp]at h
theorem yO{code:Code}{cuts:List Nat}{q:Nat}{bs:List (List Nat)}{l:List RI}(h:comp P code=some (.any cuts q bs l)):∃id ops,code=.region id ops true/\bs=mb ops/\nh P ops ops.toList=some l/\qH (mb ops) l cuts q=true:=by
 cases code with
 |region id ops draw=>
  cases draw with
  |false=>simp[comp]at h
  |true=>
   simp only[comp]at h
   grind
 |seq a b=>grind[comp]
 |cond c a b=>grind[comp]
 |_=>simp[comp]at h
theorem BO{code:Code}{c d:C}(h:comp P code=some (.seq c d)):∃x y,code=.seq x y/\comp P x=some c/\comp P y=some d:=by
 cases code with
 |region id ops draw=>
  cases draw with
  |false=>simp[comp]at h
  |true=>grind[comp]
 |seq a b=>
  simp only[comp]at h
  grind
 |cond c a b=>grind[comp]
 |_=>simp[comp]at h
theorem jM{code:Code}{t:Operand}{c d:C}(h:comp P code=some (.cond t c d)):∃x y,code=.cond t x y/\comp P x=some c/\comp P y=some d:=by
 cases code with
 |region id ops draw=>
  cases draw with
  |false=>simp[comp]at h
  |true=>grind[comp]
 |seq a b=>grind[comp]
 |cond t' a b=>
  grind[comp]
 |_=>simp[comp]at h
theorem AJ{code:Code}{i:Nat}{c:C}(h:comp P code=some (.block i c)):∃x,code=.block i x/\comp P x=some c:=by
 cases code with
 |region id ops draw=>
  cases draw with
  |false=>simp[comp]at h
  |true=>grind[comp]
 |seq a b=>grind[comp]
 |cond c a b=>grind[comp]
 |block j b=>simp_all[comp]
 |_=>simp[comp]at h
theorem lM{code:Code}{c:C}(h:comp P code=some (.loop c)):∃x,code=.loop x/\comp P x=some c:=by
 cases code with
 |region id ops draw=>
  cases draw with
  |false=>simp[comp]at h
  |true=>grind[comp]
 |seq a b=>grind[comp]
 |cond c a b=>grind[comp]
 |loop b=>simp[comp]at h;simp_all
 |_=>simp[comp]at h
theorem T.skip{K:Exit->St->Prop}{s:St}(h:K .normal s):T P N .skip K s:=by
 intro code hc G w a hN hr;rcases mM hc with rfl|⟨l,rfl⟩
 all_goals grind[wp_skip,StepN.refl,wp_label]
theorem T.ret{K:Exit->St->Prop}{s:St}(h:K .ret s):T P N .ret K s:=by
 intro code hc G w a hN hr;obtain rfl:=AO hc
 grind[wp_ret,StepN.refl]
theorem T.exit{id:Nat}{K:Exit->St->Prop}{s:St}(h:K (.exit id) s):T P N (.exit id) K s:=by
 intro code hc G w a hN hr;obtain rfl:=kM hc
 grind[wp_exit,StepN.refl]
theorem T.mJ{l:List RI}{K:Exit->St->Prop}{s:St}(h:fj P l (K .normal) s):T P N (.mJ l) K s:=by
 intro code hc G w a hN hr;obtain⟨id,ops,rfl,hc'⟩:=zO hc;exact wp_region_list (bE hc' h hr λs' G' w' a' h1 h2 h3=>⟨s',G',h1,h2,h3.BV hN⟩)
theorem T.seq{c d:C}{K:Exit->St->Prop}{s:St}(h:T P N c (λe s'=>match e with|.normal=>T P N d K s'|e=>K e s') s):T P N (.seq c d) K s:=by
 intro code hc G w a hN hr;obtain⟨x,y,rfl,h1,h2⟩:=BO hc;refine wp_seq (Code.wp_mono ?_ (h x h1 G w a hN hr));rintro e a' w' ⟨s',G',hK,hr',hs'⟩
 cases e with
 |normal=>exact Code.wp_mono (λ_ _ _ ⟨s'',G'',k1,k2,k3⟩=>⟨s'',G'',k1,k2,hs'.trans k3⟩) (hK y h2 G' w' a' hs'.n hr')
 |_=>exact⟨s',G',hK,hr',hs'⟩
theorem T.cond{c:Operand}{x y:C}{t:Bool}{K:Exit->St->Prop}{s:St}(ht:s.ev c=.v (.bool t)) (h1:t=true->T P N x K s) (h2:t=false->T P N y K s):T P N (.cond c x y) K s:=by
 intro code hc G w a hN hr;obtain⟨x',y',rfl,e1,e2⟩:=jM hc;have hv:=hr.ev c;rw[ht]at hv;simp only[VRel]at hv;exact wp_cond_split hv (λe=>h1 e x' e1 G w a hN hr) (λe=>h2 e y' e2 G w a hN hr)
theorem T.block{id:Nat}{x:C}{K:Exit->St->Prop}{s:St}(h:T P N x (λe s'=>match e with|.exit id'=>if id'=id then K .normal s' else K (.exit id') s'|e=>K e s') s):T P N (.block id x) K s:=by
 intro code hc G w a hN hr;obtain⟨b,rfl,hx⟩:=AJ hc;refine wp_block (Code.wp_mono ?_ (h b hx G w a hN hr));rintro e a' w' ⟨s',G',hK,hr',hs'⟩
 cases e with
 |exit j=>
  simp only[Exit.inBlock]
  grind
 |_=>exact⟨s',G',hK,hr',hs'⟩
theorem wp_loop_ghost{c:Code}{Q:Exit->Act->World->Prop}{X:Type}(J:X->Act->World->Prop) (μ:X->Nat)
 (round:∀x a w,J x a w->c.wp P (Exit.then (λa' w'=>∃y,J y a' w'/\μ y<μ x) Q) a w):∀(x:X) (a:Act) (w:World),J x a w->(Code.loop c).wp P Q a w:=by
 intro x₀ a₀ w₀ h₀ b k cs;have key:∀n (x:X) a w,μ x=n->J x a w->
  ∃e a' w',Q e a' w'/\Arrives P (lone (b.at a (.code c::.inLoop c::k)) cs w) b k cs e a' w':=by
  intro n
  induction n using lac with
  |_ n ih=>
   intro x a w hn hI;obtain⟨e,a₁,w₁,hq,harr⟩:=round x a w hI b (.inLoop c::k) cs
   cases e with
   |normal=>
    obtain⟨y,hI₁,hlt⟩:=hq;obtain⟨e₂,a₂,w₂,hq₂,harr₂⟩:=ih (μ y) (hn▸hlt) y a₁ w₁ rfl hI₁;exact⟨e₂,a₂,w₂,hq₂,.of_steps (Steps.trans harr (.one step_inLoop)) harr₂⟩
   |exit id=>exact⟨_,a₁,w₁,hq,.pass (x:=.inLoop c) rfl (λ_ _=>.inl (by simp)) harr⟩
   |goto l=>exact⟨_,a₁,w₁,hq,.pass (x:=.inLoop c) rfl (λ_ _=>.inl (by simp)) harr⟩
   |ret=>exact⟨_,a₁,w₁,hq,.pass (x:=.inLoop c) rfl (λ_ _=>.inl (by simp)) harr⟩
   |panic ch=>exact⟨_,a₁,w₁,hq,.pass (x:=.inLoop c) rfl (λ_ _=>.inl (by simp)) harr⟩
   |outgrown=>exact⟨_,a₁,w₁,hq,.pass (x:=.inLoop c) rfl (λ_ _=>.inl (by simp)) harr⟩
 obtain⟨e,a',w',hq,harr⟩:=key _ x₀ a₀ w₀ rfl h₀;exact⟨e,a',w',hq,.of_steps (.one step_loop) harr⟩
theorem T.uW{x:C}{K:Exit->St->Prop}{s:St}{X:Type}(J:X->St->Prop) (μ:X->Nat) (x₀:X) (h0:J x₀ s)
 (round:∀y s,J y s->T P N x (λe s'=>match e with|.normal=>∃z,J z s'/\μ z<μ y|e=>K e s') s):T P N (.loop x) K s:=by
 intro code hc G w a hN hr;obtain⟨b,rfl,hx⟩:=lM hc;refine wp_loop_ghost (J:=λ(y:X) a' w'=>∃s' G',J y s'/\Rel G' w' a' s'/\StepN N G w s.m G' w' s'.m) μ ?_ x₀ a w ⟨s,G,h0,hr,StepN.refl _ _ _ hN⟩;rintro y a1 w1 ⟨s1,G1,hI,hr1,hs1⟩;refine Code.wp_mono ?_ (round y s1 hI b hx G1 w1 a1 hs1.n hr1);rintro e a' w' ⟨s',G',hK,hr',hs'⟩
 cases e with
 |normal=>obtain⟨z,h1,h2⟩:=hK;exact⟨z,⟨s',G',h1,hr',hs1.trans hs'⟩,h2⟩
 |_=>exact⟨s',G',hK,hr',hs1.trans hs'⟩
def Ks(s:St):RV->Option D
 |.tmp t=>some (s.t.getD t .dead)
 |.cell A n a=>
  match ia s (.load A n (.tmp a))with
  |some (d,_)=>some d
  |none=>none
def qb(s:St):List RV->Option (List D)
 |[]=>some []
 |r::l=>
  match Ks s r,qb s l with
  |some d,some ds=>some (d::ds)
  |_,_=>none
def um:List D->D
 |[d]=>d
 |l=>.tup l
def cH(tmps:Array Value):ResultVar->Sem Value
 |.tmp t=>pure (tmps.getD t undef)
 |.cell a t=>do loadVar t (←asAddr (tmps.getD a undef))
theorem tK(fn:Func) (tmps:Array Value):results fn tmps=(do let vs←fn.results.mapM (cH tmps);pure (if h:vs.size=1 then vs[0]else .tuple vs)):=by
 unfold results;rfl
theorem XI:∀{l:List ResultVar}{rl:List RV}{s:St}{G:Gh}{w:World}{a:Act}{ds:List D},Gu P l=some rl->Rel G w a s->qb s rl=some ds->
 ∃us:List Value,(l.mapM (cH a.tmps)).run P w=.ok us w/\VsRel G w ds us
 |[],rl,s,G,w,a,ds,hc,hr,hd=>by
  simp only[Gu]at hc;injection hc with hc;subst hc;simp only[qb]at hd;injection hd with hd;subst hd;exact⟨[],by simp,by simp[VsRel]⟩
 |r::l,rl,s,G,w,a,ds,hc,hr,hd=>by
  simp only[Gu]at hc;split at hc
  .rename_i x y h1 h2;injection hc with hc;subst hc;simp only[qb]at hd;split at hd
   .rename_i d ds' h3 h4;injection hd with hd;subst hd;obtain⟨us,hrun,hv⟩:=XI h2 hr h4
    cases r with
    |tmp t=>
     simp only[zJ]at h1;injection h1 with h1;subst h1;simp only[Ks]at h3;injection h3 with h3;subst h3;have hx:=hr.ev (.tmp t);simp only[St.ev,Act.eval]at hx;refine⟨a.tmps.getD t undef::us,?_,by simp only[VsRel];grind⟩
     grind[cH,Sem.run_bind,Sem.run_pure,Result.andThen_ok]
    |cell p t=>
     simp only[zJ,haa]at h1;obtain⟨q,hq,rfl⟩:=h1;simp only[Ks]at h3;split at h3
     .rename_i e m0 he;injection h3 with h3;subst h3;obtain⟨ad,u,hp,hrl,hvd,-⟩:=AD (P:=P) hr hq he;simp only[Act.eval]at hp;refine⟨u::us,?_,by simp only[VsRel];grind⟩
      grind[cH,asAddr,Sem.run_bind,Sem.run_pure,Result.andThen_ok]
     simp_all
   simp_all
  simp_all
def Nx(rs:List RV) (R:D->List Ent->Prop):Exit->St->Prop
 |.normal,s=>∃ds,qb s rs=some ds/\R (um ds) s.m
 |.ret,s=>∃ds,qb s rs=some ds/\R (um ds) s.m
 |_,_=>False
theorem LV{G:Gh}{w:World}{ds:List D}{us:List Value}(h:VsRel G w ds us):VRel G w (um ds) (if h:us.toArray.size=1 then us.toArray[0]else .tuple us.toArray):=by
 match ds,h with
 |[],h=>
  simp only[VsRel]at h;subst h;simp only[nac,List.length_nil,um];rw[dif_neg (by decide)];simp only[VRel,VsRel];simp
 |[d],h=>
  simp only[VsRel]at h;obtain⟨u,r,rfl,hv,rfl⟩:=h
  grind[um]
 |d::e::l,h=>
  have hl:=h.length;rw[dif_neg (by simp_all)];simp only[um,VRel]
  simp_all
theorem EB{fn:Func}{F:Fun}{s:St}{G:Gh}{w:World}{a:Act}{ds:List D}(hc:Gu P fn.results.toList=some F.results) (hr:Rel G w a s) (hd:qb s F.results=some ds) :
 ∃v,(results fn a.tmps).run P w=.ok v w/\VRel G w (um ds) v:=by
 obtain⟨us,hrun,hv⟩:=XI hc hr hd;refine⟨_,?_,LV hv⟩
 grind[tK,Array.mapM_eq_mapM_toList,Sem.run_bind,Sem.run_map,Result.andThen_ok,Sem.run_pure]
theorem tH(G:Gh) (w:World):∀n,VsRel G w (jaa n .dead) (jaa n undef)
 |0=>by simp[VsRel]
 |n+1=>by simp only[List.replicate_succ,VsRel];exact⟨_,_,rfl,by simp[VRel],tH G w n⟩
theorem Ry{f:FuncId}{F:Fun}{ds:List D}{m:List Ent}{R:D->List Ent->Prop}(hF:Vt P f=some F) (hname:((P.funcs[f]?).map λfn=>fn.name == "runtime.NumGoroutine")=some false)
 (h:T P m.length F.code (Nx F.results R) ⟨ds++jaa (F.ntmps-ds.length) .dead,m⟩):CallT P f ds m R:=by
 unfold Vt at hF;split at hF
 .rename_i fn hfn;split at hF
  .rename_i b r hb hres;simp only[haa]at hF;obtain⟨c,hc,rfl⟩:=hF;refine⟨⟨fn,hfn,by simp_all,by simp_all⟩,λG w vs hv hi=>?_⟩;refine calls_of_wp hfn hb ?_;have hlen:=hv.length;have hr:Rel G w { tmps:=vs.toArray++mab (fn.ntmps-vs.toArray.size) undef,defers:=[] } ⟨ds++jaa (fn.ntmps-ds.length) .dead,m⟩:=by
    refine⟨?_,hi,rfl⟩;simp only[Array.toList_append,Array.toList_replicate,nac,hlen];exact hv.append (tH _ _ _)
   refine Code.wp_mono ?_ (h b hc G w _ (by rw[hi.n];omega) hr);rintro e a' w' ⟨s',G',hK,hr',hs0⟩;have hs':Step G w m G' w' s'.m:=by rw[←hi.n]at hs0;exact hs0.toStep
   have fin:(∃ds,qb s' r=some ds/\R (um ds) s'.m)->a'.defers=[]/\∃v,(results fn a'.tmps).run P w'=.ok v w'/\∃v_1 d m' G',Ending.returned v=.returned v_1/\R d m'/\VRel G' w' d v_1/\Inv G' w' m'/\Step G w m G' w' m':=by
    rintro⟨es,hes,hR⟩;obtain⟨v,hrun,hv'⟩:=EB (F:=⟨fn.ntmps,r,c⟩) hres hr' hes;exact⟨hr'.defers,v,hrun,v,_,_,G',rfl,hR,hv',hr'.inv,hs'⟩
   cases e with
   |normal=>exact fin hK
   |ret=>exact fin hK
   |_=>exact hK.elim
  simp_all
 simp_all
end
structure SubF (G:Gh) (w:World) (G':Gh) (w':World):Prop where
 F:∀b,G.F b->G'.F b
 heap:∀b,G.F b->w'.heap[b]?=w.heap[b]?
mutual
theorem VRel.free{G G':Gh}{w w':World}(hle:SubF G w G' w'):∀{d:D}{u:Value},na d=true->VRel G w d u->VRel G' w' d u
 |.v x,u,_,h=>by simpa [VRel] using h
 |.agg l,u,hf,h=>by
  simp only[VRel,na]at h hf⊢;obtain⟨cs,rfl,h,h1⟩:=h;exact⟨cs,rfl,VsRel.free hle hf h,h1⟩
 |.tup l,u,hf,h=>by
  simp only[VRel,na]at h hf⊢;obtain⟨cs,rfl,h⟩:=h;exact⟨cs,rfl,VsRel.free hle hf h⟩
 |.sl S l,u,hf,h=>by
  simp only[VRel,na]at h hf⊢;obtain⟨a,n,cap,rfl,hn,hc,h⟩:=h;refine⟨a,n,cap,rfl,hn,hc,?_⟩;rcases h with h|⟨b,off,rfl,hF,hr⟩
  .simp_all
  .exact .inr ⟨b,off,rfl,hle.F b hF,Qa.free hle (hle.heap b hF) hf hr⟩
 |.pt d,u,hf,h=>by
  simp only[VRel,na]at h hf⊢;obtain⟨b,off,x,rfl,hF,hd,hh⟩:=h;exact⟨b,off,x,rfl,hle.F b hF,VRel.free hle hf hd,hh.mono (hle.heap b hF)⟩
 |.fn f first caps,u,hf,h=>by
  simp only[VRel,na,paa]at h hf⊢;obtain⟨fs,cs,rfl,h1,h2⟩:=h;exact⟨fs,cs,rfl,VsRel.free hle hf.1 h1,VsRel.free hle hf.2 h2⟩
 |.ifc t d,u,hf,h=>by
  simp only[VRel,na]at h hf⊢;obtain⟨x,rfl,h⟩:=h;exact⟨x,rfl,VRel.free hle hf h⟩
 |.dead,u,_,h=>by simp[VRel]
 |.ref ..,_,hf,_=>by grind[na]
 |.own ..,_,hf,_=>by grind[na]
 |.view ..,_,hf,_=>by grind[na]
 |.mp _,_,hf,_=>by grind[na]
theorem VsRel.free{G G':Gh}{w w':World}(hle:SubF G w G' w'):∀{l:List D}{us:List Value},la l=true->VsRel G w l us->VsRel G' w' l us
 |[],us,_,h=>by simpa [VsRel] using h
 |d::l,us,hf,h=>by
  simp only[VsRel,la,paa]at h hf⊢;obtain⟨u,r,rfl,h1,h2⟩:=h;exact⟨u,r,rfl,VRel.free hle hf.1 h1,VsRel.free hle hf.2 h2⟩
theorem Qa.free{G G':Gh}{w w':World}(hle:SubF G w G' w') {b S:Nat}(hb:w'.heap[b]?=w.heap[b]?) :
 ∀{l:List D} {off:Nat},la l=true->Qa G w b S l off->Qa G' w' b S l off
 |[],off,_,h=>by simp[Qa]
 |d::l,off,hf,h=>by
  simp only[Qa,la,paa]at h hf⊢;obtain⟨⟨u,h1,h2,h3⟩,h4⟩:=h;exact⟨⟨u,VRel.free hle hf.1 h1,h2,h3.mono hb⟩,Qa.free hle hb hf.2 h4⟩
end
def Wd:Nat->List Ent->D->D
 |0,_,_=>.dead
 |k+1,m,d=>
  match d with
  |.agg l=>.agg (l.map (Wd k m))
  |.tup l=>.tup (l.map (Wd k m))
  |.sl S l=>if la l then d else .sl S (l.map (Wd k m))
  |.pt d=>.pt (Wd k m d)
  |.own id Ja=>
   match m[id]? with
   |some (.live S ver' l)=>if ver'=Ja then .sl S (if la l then l else l.map (Wd k m))else .dead
   |_=>.dead
  |.view id Ja lo n=>
   match m[id]? with
   |some (.live S ver' l)=>if ver'=Ja/\lo+n<=l.length then .sl S (((if la l then l else l.map (Wd k m)).drop lo).take n)else .dead
   |_=>.dead
  |.ref id Ja x s=>
   match m[id]? with
   |some (.live _ ver' l)=>if ver'=Ja/\s=0 then(match l[x]? with|some e=>.pt (Wd k m e)|none=>.dead)else .dead
   |_=>.dead
  |.fn f a b=>.fn f (a.map (Wd k m)) (b.map (Wd k m))
  |.v x=>.v x
  |_=>.dead
theorem pB{f:D->D}(h:∀d,na (f d)=true):∀l:List D,la (l.map f)=true
 |[]=>rfl
 |d::l=>by simp[la,h d,pB h l]
theorem Zk:∀{l:List D},la l=true↔∀d∈l,na d=true
 |[]=>by simp[la]
 |d::l=>by simp[la,Zk (l:=l)]
theorem Lw:∀(k:Nat) (m:List Ent) (d:D),na (Wd k m d)=true
 |0,m,d=>rfl
 |k+1,m,d=>by
  have ih:=pB (Lw k m)
  cases d with
  |agg l=>grind[Wd,na]
  |tup l=>grind[Wd,na]
  |sl S l=>
   grind[Wd,na]
  |pt d=>simpa [Wd,na] using Lw k m d
  |own id Ja=>
   grind[Wd,na]
  |view id Ja lo n=>
   grind[Wd,na,Zk]
  |ref id Ja x s=>
   simp only[Wd];split
   .split
    .split
     .simpa [na] using Lw k m _
     .rfl
    .rfl
   .rfl
  |fn f a b=>grind[Wd,na]
  |_=>rfl
def Gh.Wd(G:Gh) (m:List Ent):Gh:={ G with F:=λb=>G.F b\/Xd G m b }
theorem Vv{G:Gh}{w:World}{m:List Ent}:SubF G w (G.Wd m) w:=⟨λ_ h=>.inl h,λ_ _=>rfl⟩
theorem yp{G:Gh}{w:World}{G':Gh}{f:D->D}(h:∀d u,VRel G w d u->VRel G' w (f d) u):∀{l:List D}{us:List Value},VsRel G w l us->VsRel G' w (l.map f) us
 |[],us,hv=>by simpa [VsRel] using hv
 |d::l,us,hv=>by
  simp only[VsRel,Maa]at hv⊢;obtain⟨u,r,rfl,h1,h2⟩:=hv;exact⟨u,r,rfl,h d u h1,yp h h2⟩
theorem oq{G:Gh}{w:World}{G':Gh}{f:D->D}(h:∀d u,VRel G w d u->VRel G' w (f d) u) {b S:Nat}:∀{l:List D}{off:Nat},Qa G w b S l off->Qa G' w b S (l.map f) off
 |[],off,hv=>by simp[Qa]
 |d::l,off,hv=>by
  simp only[Qa,Maa]at hv⊢;obtain⟨⟨u,h1,h2,h3⟩,h4⟩:=hv;exact⟨⟨u,h d u h1,h2,h3⟩,oq h h4⟩
theorem oI{G:Gh}{w:World}{m:List Ent}(hi:Inv G w m):∀(k:Nat) (d:D) (u:Value),VRel G w d u->VRel (G.Wd m) w (Wd k m d) u
 |0,d,u,_=>by simp[Wd,VRel]
 |k+1,d,u,hv=>by
  have ih:=oI hi k
  cases d with
  |v x=>simpa [Wd,VRel] using hv
  |agg l=>
   simp only[Wd,VRel]at hv⊢;obtain⟨cs,rfl,h1,h2⟩:=hv;exact⟨cs,rfl,yp ih h1,h2⟩
  |tup l=>
   simp only[Wd,VRel]at hv⊢;obtain⟨cs,rfl,h1⟩:=hv;exact⟨cs,rfl,yp ih h1⟩
  |sl S l=>
   simp only[Wd];split
   .rename_i hf;exact hv.free Vv (by grind[na])
   .simp only[VRel]at hv⊢;obtain⟨a,n,cap,rfl,hn,hc,h⟩:=hv;refine⟨a,n,cap,rfl,by simp_all,hc,?_⟩;rcases h with h|⟨b,off,rfl,hF,hr⟩
    .simp_all
    .exact .inr ⟨b,off,rfl,.inl hF,oq ih hr⟩
  |pt d=>
   simp only[Wd,VRel]at hv⊢;obtain⟨b,off,x,rfl,hF,hd,hh⟩:=hv;exact⟨b,off,x,rfl,.inl hF,ih d x hd,hh⟩
  |own id Ja=>
   simp only[Wd];split
   .rename_i S ver' l hm;split
    .rename_i hvr;subst hvr;simp only[VRel]at hv⊢;obtain⟨p,n,c,rfl,hid,hver,hx⟩:=hv;obtain⟨a1,a2,a3,a4,a5⟩:=hi.ent _ _ hm;obtain⟨rfl,rfl,rfl⟩:=hx a1;have hlen:(if la l=true then l else l.map (Wd k m)).length=l.length:=by grind
     refine⟨_,_,_,rfl,by omega,by omega,?_⟩
     .rcases a5 with a5|⟨b',cs,T,hb',hF,hblk,hsz,hrow⟩
      .simp_all
      .refine .inr ⟨b',(G.C id).2,by simp_all,.inr ⟨id,_,hm,rfl,hb'⟩,?_⟩;split
       .rename_i hf;exact hrow.free Vv rfl hf
       grind[oq]
    .simp[VRel]
   .simp[VRel]
  |view id Ja lo n=>
   simp only[Wd];split
   .rename_i S ver' l hm;split
    .rename_i hvr;obtain⟨rfl,hle⟩:=hvr;simp only[VRel]at hv⊢;obtain⟨p,c,rfl,hnc,hid,hver,hx⟩:=hv;obtain⟨a1,a2,a3,a4,a5⟩:=hi.ent _ _ hm;have hlen:(if la l=true then l else l.map (Wd k m)).length=l.length:=by grind
     have hlen2:(((if la l=true then l else l.map (Wd k m)).drop lo).take n).length=n:=by
      grind
     refine⟨p,n,c,rfl,hlen2.symm,hnc,?_⟩
     .rcases hx a1 with rfl|⟨b,hb,rfl⟩
      .simp
      .rcases a5 with a5|⟨b',cs,T,hb',hF,hblk,hsz,hrow⟩
       .simp_all
       .rw[hb]at hb';injection hb' with hb';subst hb';refine .inr ⟨b,lo*S+(G.C id).2,by rw[a2],.inr ⟨id,_,hm,rfl,hb⟩,?_⟩;have:Qa (G.Wd m) w b S (if la l=true then l else l.map (Wd k m)) (G.C id).2:=by
         split
         .rename_i hf;exact hrow.free Vv rfl hf
         grind[oq]
        grind[js,Zr]
    .simp[VRel]
   .simp[VRel]
  |ref id Ja x s=>
   simp only[Wd];split
   .rename_i S ver' l hm;split
    .rename_i hvr;obtain⟨rfl,rfl⟩:=hvr;split
     .rename_i e he;simp only[VRel]at hv⊢;obtain⟨p,rfl,hid,hver,hx⟩:=hv;obtain⟨a1,a2,a3,a4,a5⟩:=hi.ent _ _ hm;obtain⟨b,hb,rfl⟩:=hx a1;rcases a5 with a5|⟨b',cs,T,hb',hF,hblk,hsz,hrow⟩
      .simp_all
      .rw[hb]at hb';injection hb' with hb';subst hb';obtain⟨u',g1,g2,g3⟩:=td.1 hrow x e he;refine⟨b,_,u',rfl,.inr ⟨id,_,hm,rfl,hb⟩,ih e u' g1,?_⟩
       grind
     .simp[VRel]
    .simp[VRel]
   .simp[VRel]
  |fn f a b=>
   simp only[Wd,VRel]at hv⊢;obtain⟨fs,cs,rfl,h1,h2⟩:=hv;exact⟨fs,cs,rfl,yp ih h1,yp ih h2⟩
  |_=>simp[Wd,VRel]
def Gh.bare(F:Nat->Prop):Gh:=⟨F,0,λ_=>none,λ_=>0,λ_=>0,λ_=>0,λ_=>(0,0)⟩
theorem MM{g:Nat}{d:D}(h:gtab g=some d):na d=true:=by
 unfold gtab at h;split at h
 .injection h with h;subst h;rfl
 .cases h
theorem GOK.bare{G G':Gh}{w:World}(h:GOK G w) (hF:∀b,G.F b->G'.F b):GOK G' w:=λg d hd=>
 VRel.free (G:=G) (G':=G') ⟨hF,λ_ _=>rfl⟩ (d:=.pt d) (by grind[na,MM]) (h g d hd)
theorem uz{F:Nat->Prop}{w:World}(h:∀b,F b->b<w.heap.size) (hg:GOK (Gh.bare F) w):Inv (Gh.bare F) w []:=
 ⟨rfl,h,λi e he=>by simp at he,λi j e e' he=>by simp,hg⟩
theorem Mw{G:Gh}{b:Nat}:¬Xd G [] b:=λ⟨i,e,he,_⟩=>by simp at he
theorem uF{G G':Gh}{F:Nat->Prop}{w w':World}{m m':List Ent}(hi:Inv G w m) (hs:Step (Gh.bare F) w [] G' w' m') (hi':Inv G' w' m') (hF:∀b,G.F b->F b) :
 (∀b,b<w.heap.size->w'.heap[b]?=w.heap[b]?)/\
 (Inv G w' m/\Step G w m G w' m)/\
 ((∀b,F b->G.F b)->Inv { G with F:=λb=>G'.F b\/Xd G' m' b } w' m/\Step G w m { G with F:=λb=>G'.F b\/Xd G' m' b } w' m):=by
 have hkeep:∀b,b<w.heap.size->w'.heap[b]?=w.heap[b]?:=λb hb=>hs.keep b hb Mw;have hold:∀i x,m[i]?=some x->x.isLive=true->∀k,G.B i=some k->k<w.heap.size:=λi x hx hl k hk=>((hi.ent i x hx).lt hl hk).1;refine⟨hkeep,?_,λhF'=>?_⟩
 .have hle:Le G w G w':=⟨λ_ h=>h,λb hb=>hkeep b (hi.F b hb),saa _,λ_ _=>.inl ⟨rfl,rfl,rfl,rfl,rfl⟩⟩;refine⟨⟨hi.n,λb hb=>Paa (hi.F b hb) hs.size,λi e he=>?_,hi.apart,hi.gl.mono hle⟩,⟨hle,hs.os,hs.tape,hs.output,hs.size,λb hb _=>hkeep b hb,λ_ _ h=>.inl h,λ_ _ h=>h⟩⟩;by_cases hl:e.isLive=true
  .exact(hi.ent i e he).mono hle ⟨rfl,rfl,rfl,rfl,rfl⟩ (λb hb=>hkeep b (hold i e he hl b hb)) (λ_ _ _ h=>h)
  .cases e with
   |gone=>trivial
   |_=>grind[Ent.isLive]
 .have hle:Le G w { G with F:=λb=>G'.F b\/Xd G' m' b } w':=⟨λb h=>.inl (hs.le.F b (hF b h)),λb hb=>hkeep b (hi.F b hb),saa _,λ_ _=>.inl ⟨rfl,rfl,rfl,rfl,rfl⟩⟩;have hold':∀b,b<w.heap.size->(G'.F b\/Xd G' m' b)->G.F b:=by
   intro b hb h;rcases h with h|h
   .rcases hs.newF b hb h with h|h
    .exact hF' b h
    grind[Mw]
   .exact(Mw (hs.newB b hb h)).elim
  refine⟨⟨hi.n,?_,λi e he=>?_,hi.apart,hi.gl.mono hle⟩,⟨hle,hs.os,hs.tape,hs.output,hs.size,λb hb _=>hkeep b hb,λb hb h=>.inl (hold' b hb h),λ_ _ h=>h⟩⟩
  .rintro b (h|h)
   .exact hi'.F b h
   grind[Xd.lt]
  .by_cases hl:e.isLive=true
   .exact(hi.ent i e he).mono hle ⟨rfl,rfl,rfl,rfl,rfl⟩ (λb hb=>hkeep b (hold i e he hl b hb)) (λb hb _ h=>hold' b (hold i e he hl b hb) h)
   .cases e with
    |gone=>trivial
    |_=>grind[Ent.isLive]
mutual
def flat:D->Bool
 |.v _=>true
 |.agg l=>LF l
 |.tup l=>LF l
 |.dead=>true
 |_=>false
def LF:List D->Bool
 |[]=>true
 |d::l=>flat d&&LF l
end
mutual
theorem VRel.flat{G G':Gh}{w w':World}:∀{d:D}{u:Value},flat d=true->VRel G w d u->VRel G' w' d u
 |.v x,u,_,h=>by simpa [VRel] using h
 |.agg l,u,hf,h=>by
  simp only[VRel,Tm.flat]at h hf⊢;obtain⟨cs,rfl,h,h1⟩:=h;exact⟨cs,rfl,VsRel.flat hf h,h1⟩
 |.tup l,u,hf,h=>by
  simp only[VRel,Tm.flat]at h hf⊢;obtain⟨cs,rfl,h⟩:=h;exact⟨cs,rfl,VsRel.flat hf h⟩
 |.dead,u,_,h=>by simp[VRel]
 |.sl ..,_,hf,_=>by grind[Tm.flat]
 |.pt ..,_,hf,_=>by grind[Tm.flat]
 |.fn ..,_,hf,_=>by grind[Tm.flat]
 |.ref ..,_,hf,_=>by grind[Tm.flat]
 |.own ..,_,hf,_=>by grind[Tm.flat]
 |.view ..,_,hf,_=>by grind[Tm.flat]
 |.mp _,_,hf,_=>by grind[Tm.flat]
 |.ifc ..,_,hf,_=>by grind[Tm.flat]
theorem VsRel.flat{G G':Gh}{w w':World}:∀{l:List D}{us:List Value},LF l=true->VsRel G w l us->VsRel G' w' l us
 |[],us,_,h=>by simpa [VsRel] using h
 |d::l,us,hf,h=>by
  simp only[VsRel,LF,paa]at h hf⊢;obtain⟨u,r,rfl,h1,h2⟩:=h;exact⟨u,r,rfl,VRel.flat hf.1 h1,VsRel.flat hf.2 h2⟩
end
open Go.RowKit (Below)
mutual
def Sub:D->D->Prop
 |_,.dead=>True
 |.v x,.sl _ l=>x=.slice none 0 0/\l=[]
 |.agg l,.agg r=>Ka l r
 |.tup l,.tup r=>Ka l r
 |.sl S l,.sl S' r=>S=S'/\Ka l r
 |d,e=>d=e
def Ka:List D->List D->Prop
 |[],r=>r=[]
 |d::l,r=>∃e r',r=e::r'/\Sub d e/\Ka l r'
end
theorem Ka.length:∀{l r:List D},Ka l r->l.length=r.length
 |[],r,h=>by simp[Ka]at h;simp[h]
 |d::l,r,h=>by
  simp only[Ka]at h;obtain⟨e,r',rfl,_,h2⟩:=h;simp[Ka.length h2]
mutual
theorem Sub.rel{G:Gh}{w:World}:∀{d e:D}{u:Value},Sub d e->VRel G w d u->VRel G w e u
 |d,.dead,u,_,_=>by simp[VRel]
 |.v x,.sl S l,u,hs,h=>by
  simp only[Sub]at hs;obtain⟨rfl,rfl⟩:=hs;simp only[VRel]at h⊢
  grind
 |.agg l,.agg r,u,hs,h=>by
  simp only[Sub]at hs;simp only[VRel]at h⊢;obtain⟨cs,rfl,h,h1⟩:=h;exact⟨cs,rfl,Ka.rel hs h,h1⟩
 |.tup l,.tup r,u,hs,h=>by
  simp only[Sub]at hs;simp only[VRel]at h⊢;obtain⟨cs,rfl,h⟩:=h;exact⟨cs,rfl,Ka.rel hs h⟩
 |.sl S l,.sl S' r,u,hs,h=>by
  simp only[Sub]at hs;obtain⟨rfl,hs⟩:=hs;simp only[VRel]at h⊢;obtain⟨a,n,cap,rfl,hn,hc,h⟩:=h;refine⟨a,n,cap,rfl,by rw[←hs.length];omega,hc,?_⟩;rcases h with rfl|⟨b,off,rfl,hF,hr⟩
  .simp only[Ka]at hs;simp_all
  .exact .inr ⟨b,off,rfl,hF,Ka.row hs hr⟩
 |.v x,.v y,u,hs,h=>by simp only[Sub]at hs;simp_all
 |.v x,.agg y,u,hs,h=>by simp only[Sub]at hs;grind
 |.v x,.tup y,u,hs,h=>by simp only[Sub]at hs;grind
 |.v x,.pt y,u,hs,h=>by simp only[Sub]at hs;grind
 |.v x,.ref ..,u,hs,h=>by simp only[Sub]at hs;grind
 |.v x,.own ..,u,hs,h=>by simp only[Sub]at hs;grind
 |.v x,.view ..,u,hs,h=>by simp only[Sub]at hs;grind
 |.v x,.fn ..,u,hs,h=>by simp only[Sub]at hs;grind
 |.v x,.mp ..,u,hs,h=>by simp only[Sub]at hs;grind
 |.v x,.ifc ..,u,hs,h=>by simp only[Sub]at hs;grind
 |.agg l,.v y,u,hs,h=>by simp only[Sub]at hs;grind
 |.agg l,.tup y,u,hs,h=>by simp only[Sub]at hs;grind
 |.agg l,.sl ..,u,hs,h=>by simp only[Sub]at hs;grind
 |.agg l,.pt y,u,hs,h=>by simp only[Sub]at hs;grind
 |.agg l,.ref ..,u,hs,h=>by simp only[Sub]at hs;grind
 |.agg l,.own ..,u,hs,h=>by simp only[Sub]at hs;grind
 |.agg l,.view ..,u,hs,h=>by simp only[Sub]at hs;grind
 |.agg l,.fn ..,u,hs,h=>by simp only[Sub]at hs;grind
 |.agg l,.mp ..,u,hs,h=>by simp only[Sub]at hs;grind
 |.agg l,.ifc ..,u,hs,h=>by simp only[Sub]at hs;grind
 |.tup l,.v y,u,hs,h=>by simp only[Sub]at hs;grind
 |.tup l,.agg y,u,hs,h=>by simp only[Sub]at hs;grind
 |.tup l,.sl ..,u,hs,h=>by simp only[Sub]at hs;grind
 |.tup l,.pt y,u,hs,h=>by simp only[Sub]at hs;grind
 |.tup l,.ref ..,u,hs,h=>by simp only[Sub]at hs;grind
 |.tup l,.own ..,u,hs,h=>by simp only[Sub]at hs;grind
 |.tup l,.view ..,u,hs,h=>by simp only[Sub]at hs;grind
 |.tup l,.fn ..,u,hs,h=>by simp only[Sub]at hs;grind
 |.tup l,.mp ..,u,hs,h=>by simp only[Sub]at hs;grind
 |.tup l,.ifc ..,u,hs,h=>by simp only[Sub]at hs;grind
 |.sl S l,.v y,u,hs,h=>by simp only[Sub]at hs;grind
 |.sl S l,.agg y,u,hs,h=>by simp only[Sub]at hs;grind
 |.sl S l,.tup ..,u,hs,h=>by simp only[Sub]at hs;grind
 |.sl S l,.pt y,u,hs,h=>by simp only[Sub]at hs;grind
 |.sl S l,.ref ..,u,hs,h=>by simp only[Sub]at hs;grind
 |.sl S l,.own ..,u,hs,h=>by simp only[Sub]at hs;grind
 |.sl S l,.view ..,u,hs,h=>by simp only[Sub]at hs;grind
 |.sl S l,.fn ..,u,hs,h=>by simp only[Sub]at hs;grind
 |.sl S l,.mp ..,u,hs,h=>by simp only[Sub]at hs;grind
 |.sl S l,.ifc ..,u,hs,h=>by simp only[Sub]at hs;grind
 |.pt x,e,u,hs,h=>by cases e<;>simp only[Sub]at hs<;>first|(simp[VRel];done)|(rw[←hs];exact h)|cases hs
 |.ref a b c d,e,u,hs,h=>by cases e<;>simp only[Sub]at hs<;>first|(simp[VRel];done)|(rw[←hs];exact h)|cases hs
 |.own a b,e,u,hs,h=>by cases e<;>simp only[Sub]at hs<;>first|(simp[VRel];done)|(rw[←hs];exact h)|cases hs
 |.view a b c d,e,u,hs,h=>by cases e<;>simp only[Sub]at hs<;>first|(simp[VRel];done)|(rw[←hs];exact h)|cases hs
 |.fn a b c,e,u,hs,h=>by cases e<;>simp only[Sub]at hs<;>first|(simp[VRel];done)|(rw[←hs];exact h)|cases hs
 |.mp a,e,u,hs,h=>by cases e<;>simp only[Sub]at hs<;>first|(simp[VRel];done)|(rw[←hs];exact h)|cases hs
 |.ifc a b,e,u,hs,h=>by cases e<;>simp only[Sub]at hs<;>first|(simp[VRel];done)|(rw[←hs];exact h)|cases hs
 |.dead,e,u,hs,h=>by cases e<;>simp only[Sub]at hs<;>first|(simp[VRel];done)|(rw[←hs];exact h)|cases hs
theorem Ka.rel{G:Gh}{w:World}:∀{l r:List D}{us:List Value},Ka l r->VsRel G w l us->VsRel G w r us
 |[],r,us,hs,h=>by simp only[Ka]at hs;subst hs;exact h
 |d::l,r,us,hs,h=>by
  simp only[Ka]at hs;obtain⟨e,r',rfl,h1,h2⟩:=hs;simp only[VsRel]at h⊢;obtain⟨u,us',rfl,g1,g2⟩:=h;exact⟨u,us',rfl,Sub.rel h1 g1,Ka.rel h2 g2⟩
theorem Ka.row{G:Gh}{w:World}{b S:Nat}:∀{l r:List D}{off:Nat},Ka l r->Qa G w b S l off->Qa G w b S r off
 |[],r,off,hs,h=>by simp only[Ka]at hs;subst hs;exact h
 |d::l,r,off,hs,h=>by
  simp only[Ka]at hs;obtain⟨e,r',rfl,h1,h2⟩:=hs;simp only[Qa]at h⊢;obtain⟨⟨u,g1,g2,g3⟩,g4⟩:=h;exact⟨⟨u,Sub.rel h1 g1,g2,g3⟩,Ka.row h2 g4⟩
end
mutual
theorem Sub.refl:∀d:D,Sub d d
 |.v x=>by simp[Sub]
 |.agg l=>by simp only[Sub];exact Ka.Yj l
 |.tup l=>by simp only[Sub];exact Ka.Yj l
 |.sl S l=>by simp only[Sub,true_and];exact Ka.Yj l
 |.pt d=>by simp[Sub]
 |.ref ..=>by simp[Sub]
 |.own ..=>by simp[Sub]
 |.view ..=>by simp[Sub]
 |.fn ..=>by simp[Sub]
 |.mp ..=>by simp[Sub]
 |.ifc ..=>by simp[Sub]
 |.dead=>by simp[Sub]
theorem Ka.Yj:∀l:List D,Ka l l
 |[]=>by simp[Ka]
 |d::l=>by simp only[Ka];exact⟨d,l,rfl,Sub.refl d,Ka.Yj l⟩
end
section
variable {P:Program} {N:Nat}
theorem T.sub{c:C}{K:Exit->St->Prop}{s:St}(t':List D) (hs:Ka s.t t') (h:T P N c K ⟨t',s.m⟩):T P N c K s:=
 T.ghost (s':=⟨t',s.m⟩) (λG w _ hN hr=>⟨G,⟨hs.rel hr.t,hr.inv,hr.defers⟩,StepN.refl _ _ _ hN⟩) h
mutual
def below(k:Nat):D->Bool
 |.agg l=>belows k l
 |.tup l=>belows k l
 |.sl _ l=>belows k l
 |.pt d=>below k d
 |.ref i _ _ _=>decide (i<k)
 |.own i _=>decide (i<k)
 |.view i _ _ _=>decide (i<k)
 |.fn _ a b=>belows k a&&belows k b
 |.mp i=>decide (i<k)
 |.ifc _ d=>below k d
 |_=>true
def belows(k:Nat):List D->Bool
 |[]=>true
 |d::l=>below k d&&belows k l
end
mutual
theorem di(k:Nat):∀d:D,na d=true->below k d=true
 |.v _,_=>by simp[below]
 |.agg l,h=>by simp only[below];exact mh k l (by grind[na])
 |.tup l,h=>by simp only[below];exact mh k l (by grind[na])
 |.sl _ l,h=>by simp only[below];exact mh k l (by grind[na])
 |.pt d,h=>by simp only[below];exact di k d (by grind[na])
 |.ifc _ d,h=>by simp only[below];exact di k d (by grind[na])
 |.fn _ a b,h=>by
  simp only[na,paa]at h;simp only[below,paa];exact⟨mh k a h.1,mh k b h.2⟩
 |.dead,_=>by simp[below]
 |.ref ..,h=>by grind[na]
 |.own ..,h=>by grind[na]
 |.view ..,h=>by grind[na]
 |.mp _,h=>by grind[na]
theorem mh(k:Nat):∀l:List D,la l=true->belows k l=true
 |[],_=>by simp[belows]
 |d::l,h=>by
  simp only[la,paa]at h;simp only[belows,paa];exact⟨di k d h.1,mh k l h.2⟩
end
def Ent.below(k:Nat):Ent->Bool
 |.live _ _ l=>belows k l
 |.mp es=>es.all λe=>Tm.below k e.2
 |.gone=>true
def Gh.trim(G:Gh) (k:Nat):Gh:={ G with n:=k }
mutual
theorem VRel.trim{G:Gh}{w:World}{k:Nat}:∀{d:D}{u:Value},below k d=true->VRel G w d u->VRel (G.trim k) w d u
 |.v x,u,_,h=>by simpa [VRel] using h
 |.agg l,u,hb,h=>by
  simp only[VRel,below]at h hb⊢;obtain⟨cs,rfl,h,h1⟩:=h;exact⟨cs,rfl,VsRel.trim hb h,h1⟩
 |.tup l,u,hb,h=>by
  simp only[VRel,below]at h hb⊢;obtain⟨cs,rfl,h⟩:=h;exact⟨cs,rfl,VsRel.trim hb h⟩
 |.sl S l,u,hb,h=>by
  simp only[VRel,below]at h hb⊢;obtain⟨a,n,cap,rfl,hn,hc,h⟩:=h;refine⟨a,n,cap,rfl,hn,hc,?_⟩;rcases h with h|⟨b,off,rfl,hF,hr⟩
  .simp_all
  .exact .inr ⟨b,off,rfl,hF,Qa.trim hb hr⟩
 |.pt d,u,hb,h=>by
  simp only[VRel,below]at h hb⊢;obtain⟨b,off,x,rfl,hF,hd,hh⟩:=h;exact⟨b,off,x,rfl,hF,VRel.trim hb hd,hh⟩
 |.ref ..,u,hb,h=>by
  simp only[VRel,below,decide_eq_true_eq]at h hb⊢;obtain⟨a,hu,_,h⟩:=h;exact⟨a,hu,hb,h⟩
 |.own ..,u,hb,h=>by
  simp only[VRel,below,decide_eq_true_eq]at h hb⊢;obtain⟨a,n,c,hu,_,h⟩:=h;exact⟨a,n,c,hu,hb,h⟩
 |.view ..,u,hb,h=>by
  simp only[VRel,below,decide_eq_true_eq]at h hb⊢;obtain⟨a,c,hu,hn,_,h⟩:=h;exact⟨a,c,hu,hn,hb,h⟩
 |.mp _,u,hb,h=>by
  simp only[VRel,below,decide_eq_true_eq]at h hb⊢;obtain⟨b,hu,_,h⟩:=h;exact⟨b,hu,hb,h⟩
 |.ifc t d,u,hb,h=>by
  simp only[VRel,below]at h hb⊢;obtain⟨x,rfl,h⟩:=h;exact⟨x,rfl,VRel.trim hb h⟩
 |.fn f first caps,u,hb,h=>by
  simp only[VRel,below,paa]at h hb⊢;obtain⟨fs,cs,rfl,h1,h2⟩:=h;exact⟨fs,cs,rfl,VsRel.trim hb.1 h1,VsRel.trim hb.2 h2⟩
 |.dead,u,_,h=>by simp[VRel]
theorem VsRel.trim{G:Gh}{w:World}{k:Nat}:∀{l:List D}{us:List Value},belows k l=true->VsRel G w l us->VsRel (G.trim k) w l us
 |[],us,_,h=>by simpa [VsRel] using h
 |d::l,us,hb,h=>by
  simp only[VsRel,belows,paa]at h hb⊢;obtain⟨u,r,rfl,h1,h2⟩:=h;exact⟨u,r,rfl,VRel.trim hb.1 h1,VsRel.trim hb.2 h2⟩
theorem Qa.trim{G:Gh}{w:World}{k b S:Nat}:∀{l:List D}{off:Nat},belows k l=true->Qa G w b S l off->Qa (G.trim k) w b S l off
 |[],off,_,h=>by simp[Qa]
 |d::l,off,hb,h=>by
  simp only[Qa,belows,paa]at h hb⊢;obtain⟨⟨u,h1,h2,h3⟩,h4⟩:=h;exact⟨⟨u,VRel.trim hb.1 h1,h2,h3⟩,Qa.trim hb.2 h4⟩
end
theorem nd.trim{G:Gh}{w:World}{k:Nat}:∀{l:List (Value×D)}{es:List MapEntry},(l.all λe=>below k e.2)=true->nd G w l es->nd (G.trim k) w l es
 |[],es,_,h=>h
 |(q,d)::l,es,hb,h=>by
  simp only[List.all_cons,paa]at hb;obtain⟨e,r,h0,h1,h2,h3⟩:=h;exact⟨e,r,h0,h1,h2.trim hb.1,h3.trim hb.2⟩
theorem T.trim{c:C}{K:Exit->St->Prop}{s:St}(k:Nat) (hN:N<=k) (hk:k<=s.m.length) (ht:belows k s.t=true) (hm:(s.m.take k).all (Ent.below k)=true) (h:T P N c K ⟨s.t,s.m.take k⟩):T P N c K s:=by
 refine T.ghost (λG w a hN' hr=>?_) h;have hi:=hr.inv;have hget:∀(i:Nat) e,(s.m.take k)[i]?=some e->i<k/\s.m[i]?=some e:=by
  grind
 have hinv:Inv (G.trim k) w (s.m.take k):=by
  refine⟨by grind[Gh.trim],hi.F,λi e he=>?_,λi j e e' he he' hl hl' b hb hb'=>hi.apart i j e e' (hget i e he).2 (hget j e' he').2 hl hl' b hb hb',hi.gl.bare λ_ h=>h⟩;have hbe:e.below k=true:=Uaa.1 hm e (List.mem_of_getElem? he);have hent:=hi.ent i e (hget i e he).2
  cases e with
  |live S Ja l=>
   obtain⟨a1,a2,a3,a4,a5⟩:=hent;refine⟨a1,a2,a3,a4,?_⟩;rcases a5 with a5|⟨b',cs,T,hb',hF,hblk,hsz,hrow⟩
   .exact .inl a5
   .exact .inr ⟨b',cs,T,hb',hF,hblk,hsz,hrow.trim (by grind[Ent.below])⟩
  |mp es=>
   obtain⟨a1,b,en,cl,a2,a3,a4,a5⟩:=hent;exact⟨a1,b,en,cl,a2,a3,a4,a5.trim (by grind[Ent.below])⟩
  |gone=>trivial
 refine⟨G.trim k,⟨hr.t.trim ht,hinv,hr.defers⟩,⟨λ_ h=>h,λ_ _=>rfl,hN,λi hi'=>.inl ⟨rfl,rfl,rfl,rfl,rfl⟩,rfl,rfl,rfl,saa _,λ_ _ _=>rfl,λ_ _ h=>.inl h,?_⟩⟩;rintro b hb ⟨i,e,he,hl,hB⟩;exact⟨i,e,(hget i e he).2,hl,hB⟩
theorem T.N8{x:C}{K:Exit->St->Prop}{s:St}{X:Type}(S:X->St) (Gr:X->Prop) (μ:X->Nat) (x₀:X) (h0:Gr x₀) (ht:Ka s.t (S x₀).t) (hm:s.m=(S x₀).m)
 (hb:∀y,Gr y->N<=(S y).m.length/\belows (S y).m.length (S y).t=true/\(S y).m.all (Ent.below (S y).m.length)=true)
 (round:∀y,Gr y->T P N x (λe s'=>match e with|.normal=>∃z,Gr z/\μ z<μ y/\Ka s'.t (S z).t/\∃g,s'.m=(S z).m++g|e=>K e s') (S y)):T P N (.loop x) K s:=by
 refine T.uW (J:=λy s'=>Gr y/\Ka s'.t (S y).t/\∃g,s'.m=(S y).m++g) μ x₀ ⟨h0,ht,[],by grind⟩ ?_;rintro y s1 ⟨hg,hs1,g,hm1⟩;obtain⟨b1,b2,b3⟩:=hb y hg;refine T.sub (S y).t hs1 ?_;refine T.trim (S y).m.length b1 (by simp[hm1]) b2 (by simp_all) ?_;have hst:(⟨(S y).t,s1.m.take (S y).m.length⟩:St)=S y:=by
  simp_all
 grind
end
open Go.RowKit (Below)
theorem wa{s s':St}{x:Operand}(h:∀t∈Od x,s'.t.getD t .dead=s.t.getD t .dead):s'.ev x=s.ev x:=by
 cases x<;>simp[St.ev]
 simp_all[Od]
theorem KC{s s':St}{f:Cal}(h:∀t∈f.tmps,s'.t.getD t .dead=s.t.getD t .dead):s'.cv f=s.cv f:=by
 cases f with
 |tmp t=>exact wa (x:=.tmp t) λt' h'=>h t' (by grind[Cal.tmps,Od])
 |_=>rfl
theorem qn{s s':St}{d:Nat}{x:Option Operand}(h:∀t∈AB x,s'.t.getD t .dead=s.t.getD t .dead):bound s' d x=bound s d x:=by
 cases x with
 |none=>rfl
 |some y=>simp only[bound,wa (s:=s) (s':=s') (x:=y) (λt ht=>h t ht)]
theorem Qy{s s':St}:∀{ps:List (Nat×Nat×Operand)}{l:List D},(∀t∈ps.flatMap (λp=>Od p.2.2),s'.t.getD t .dead=s.t.getD t .dead)->uq s' ps l=uq s ps l
 |[],l,h=>rfl
 |(o,n,x)::ps,l,h=>by
  simp only[uq,wa (s:=s) (s':=s') (x:=x) (λt ht=>h t (by simp_all))];split
  .exact Qy λt ht=>h t (by simp_all)
  .rfl
theorem zp{s s':St}{S:Nat}:∀{ps:List (Nat×Operand)}{l:List D},(∀t∈ps.flatMap (λp=>Od p.2),s'.t.getD t .dead=s.t.getD t .dead)->Yb s' S ps l=Yb s S ps l
 |[],l,h=>rfl
 |(o,x)::ps,l,h=>by
  simp only[Yb,wa (s:=s) (s':=s') (x:=x) (λt ht=>h t (by simp_all))];split
  .exact zp λt ht=>h t (by simp_all)
  .rfl
theorem map_congr{s s':St}:∀{l:List Operand},(∀t∈l.flatMap Od,s'.t.getD t .dead=s.t.getD t .dead)->l.map s'.ev=l.map s.ev
 |[],h=>rfl
 |x::l,h=>by
  simp only[Maa,wa (s:=s) (s':=s') (x:=x) (λt ht=>h t (by simp_all))];rw[map_congr λt ht=>h t (by simp_all)]
theorem mD{s s':St}{g:Option (Tmp×Bool)}(h:∀t∈NG g,s'.t.getD t .dead=s.t.getD t .dead):gate s' g=gate s g:=by
 cases g with
 |none=>rfl
 |some p=>grind[gate,NG]
def ld:D->Option Nat
 |.ref i _ _ _=>some i
 |.own i _=>some i
 |.view i _ _ _=>some i
 |.mp i=>some i
 |_=>none
def I.dW:I->Option Operand
 |.load _ _ x|.slice _ x _ _ _|.iaddr _ x _|.len x|.mlook _ _ _ x _|.mlen x|.Mr _ x=>some x
 |_=>none
theorem BD{m m':List Ent}{d:D}(h:∀i,ld d=some i->m'[i]?=m[i]?):Bc m' d=Bc m d:=by
 unfold Bc;split<;>first|rfl|(rename_i id Ja;rw[h id rfl])|(rename_i id _ _ _;rw[h id rfl])
theorem fK{S:Nat}{m m':List Ent}{d:D}{lo hi:Nat}(h:∀i,ld d=some i->m'[i]?=m[i]?):Iq S m' d lo hi=Iq S m d lo hi:=by
 unfold Iq;split<;>first|rfl|(rename_i id Ja;rw[h id rfl])|(rename_i id Ja l0 n;rw[h id rfl])
theorem xn{s s':St}{i:I}{d:D}(hc:i.cls<=1) (ht:∀t∈i.reads,s'.t.getD t .dead=s.t.getD t .dead) (hm:∀x id,i.dW=some x->ld (s.ev x)=some id->s'.m[id]?=s.m[id]?)
 {m1:List Ent} (he:ia s i=some (d,m1)):m1=s.m/\ia s' i=some (d,s'.m):=by
 cases i with
 |mv x=>
  grind[ia,I.reads,wa]
 |pick c a b=>
  simp only[ia]at he⊢;rw[wa (s:=s) (s':=s') (x:=c) (λt h=>ht t (by grind[I.reads])),wa (s:=s) (s':=s') (x:=a) (λt h=>ht t (by grind[I.reads])),wa (s:=s) (s':=s') (x:=b) (λt h=>ht t (by grind[I.reads]))];split at he
  all_goals simp_all
 |bin op x y=>
  simp only[ia]at he⊢;rw[wa (s:=s) (s':=s') (x:=x) (λt h=>ht t (by grind[I.reads])),wa (s:=s) (s':=s') (x:=y) (λt h=>ht t (by grind[I.reads]))];split at he
  all_goals first|(simp_all;done)|(simp only[haa,Baa]at he⊢;grind)|(simp_all;obtain⟨_,h1,h2,h3⟩:=he;exact⟨h3.symm,_,h1,h2⟩)
 |beq n x y=>
  simp only[ia]at he⊢;rw[wa (s:=s) (s':=s') (x:=x) (λt h=>ht t (by grind[I.reads])),wa (s:=s) (s':=s') (x:=y) (λt h=>ht t (by grind[I.reads]))];split at he
  all_goals simp_all
 |un op x=>
  simp only[ia]at he⊢;rw[wa (s:=s) (s':=s') (x:=x) (λt h=>ht t (by grind[I.reads]))];split at he
  all_goals first|(simp_all;done)|(simp only[haa,Baa]at he⊢;grind)|(simp_all;obtain⟨_,h1,h2,h3⟩:=he;exact⟨h3.symm,_,h1,h2⟩)
 |conv k x=>
  simp only[ia]at he⊢;rw[wa (s:=s) (s':=s') (x:=x) (λt h=>ht t (by grind[I.reads]))];split at he
  all_goals simp_all
 |build z ps=>
  simp only[ia]at he⊢;rw[Qy (s:=s) (s':=s') (λt h=>ht t (by grind[I.reads]))]
  cases hb:uq s ps z with
  |none=>simp_all
  |some l=>grind
 |mkifc t x=>
  grind[ia,I.reads,wa]
 |tassert ok t z x=>
  simp only[ia]at he⊢;rw[wa (s:=s) (s':=s') (x:=x) (λt h=>ht t (by grind[I.reads]))]
  repeat' split at he
  all_goals simp_all
 |capn x=>
  simp only[ia]at he⊢;rw[wa (s:=s) (s':=s') (x:=x) (λt h=>ht t (by grind[I.reads]))]
  grind
 |Mr neg x=>
  simp only[ia]at he⊢;rw[wa (s:=s) (s':=s') (x:=x) (λt h=>ht t (by grind[I.reads]))];split at he
  .simp_all
  .simp_all
  .rename_i id Ja hx;rw[hm x id rfl (by rw[hx];rfl)];split at he
   all_goals simp_all
  simp_all
 |clr S z x=>grind[I.cls]
 |mkapp S b z x n=>grind[I.cls]
 |nilc x=>
  simp only[ia]at he⊢;rw[wa (s:=s) (s':=s') (x:=x) (λt h=>ht t (by grind[I.reads]))]
  grind
 |faddr A n o x=>
  simp only[ia]at he⊢;rw[wa (s:=s) (s':=s') (x:=x) (λt h=>ht t (by grind[I.reads]))];split at he
  all_goals first|(simp_all;done)|(simp only[haa,Baa]at he⊢;grind)|(simp_all;obtain⟨_,h1,h2,h3⟩:=he;exact⟨h3.symm,_,h1,h2⟩)
 |field A n o x=>
  simp only[ia]at he⊢;rw[wa (s:=s) (s':=s') (x:=x) (λt h=>ht t (by grind[I.reads]))];split at he
  all_goals first|(simp_all;done)|(simp only[haa,Baa]at he⊢;grind)|(simp_all;obtain⟨_,h1,h2,h3⟩:=he;exact⟨h3.symm,_,h1,h2⟩)
 |extract x k=>
  simp only[ia]at he⊢;rw[wa (s:=s) (s':=s') (x:=x) (λt h=>ht t (by grind[I.reads]))];split at he
  all_goals first|(simp_all;done)|(simp only[haa,Baa]at he⊢;grind)|(simp_all;obtain⟨_,h1,h2,h3⟩:=he;exact⟨h3.symm,_,h1,h2⟩)
 |mkfunc f a b=>
  grind[ia,I.reads,map_congr]
 |aaddr A S n x y=>
  simp only[ia]at he⊢;rw[wa (s:=s) (s':=s') (x:=x) (λt h=>ht t (by grind[I.reads])),wa (s:=s) (s':=s') (x:=y) (λt h=>ht t (by grind[I.reads]))]
  repeat' split at he
  all_goals first|(simp_all;done)|(simp only[haa,Baa]at he⊢;obtain⟨_,h1,rfl,rfl⟩:=he;exact⟨rfl,_,h1,by simp⟩)|(simp_all;grind)
 |index A S n x y=>
  simp only[ia]at he⊢;rw[wa (s:=s) (s':=s') (x:=x) (λt h=>ht t (by grind[I.reads])),wa (s:=s) (s':=s') (x:=y) (λt h=>ht t (by grind[I.reads]))];split at he
  .split at he
   .rename_i hk;rw[if_pos hk];split at he
    .simp only[haa,Baa]at he⊢
     grind
    simp_all
   simp_all
  simp_all
 |slen x=>
  simp only[ia]at he⊢;rw[wa (s:=s) (s':=s') (x:=x) (λt h=>ht t (by grind[I.reads]))];split at he
  all_goals simp_all
 |len x=>
  simp only[ia]at he⊢;rw[wa (s:=s) (s':=s') (x:=x) (λt h=>ht t (by grind[I.reads])),BD (λid h=>hm x id rfl h)]
  cases hb:Bc s.m (s.ev x)with
  |none=>simp_all
  |some l=>grind
 |slice S x lo hi mx=>
  simp only[ia]at he⊢;rw[wa (s:=s) (s':=s') (x:=x) (λt h=>ht t (by grind[I.reads])),BD (λid h=>hm x id rfl h)]
  cases hb:Bc s.m (s.ev x)with
  |none=>simp_all
  |some n=>
   simp only[hb]at he⊢;rw[qn (s:=s) (s':=s') (x:=lo) (λt h=>ht t (by grind[I.reads])),qn (s:=s) (s':=s') (x:=hi) (λt h=>ht t (by grind[I.reads])),qn (s:=s) (s':=s') (x:=mx) (λt h=>ht t (by grind[I.reads]))];split at he
   .rename_i l h k h1 h2 h3;(try simp only);rw[fK (λid h=>hm x id rfl h)];split at he
    .rename_i hc;rw[if_pos hc]
     cases hs:Iq S s.m (s.ev x) l h with
     |none=>simp_all
     |some r=>grind
    simp_all
   simp_all
 |iaddr S x y=>
  simp only[ia]at he⊢;rw[wa (s:=s) (s':=s') (x:=x) (λt h=>ht t (by grind[I.reads])),wa (s:=s) (s':=s') (x:=y) (λt h=>ht t (by grind[I.reads]))];split at he
  .split at he
   .rename_i k hk;rw[if_pos hk];split at he
    .repeat' split at he
     all_goals first|(simp_all;done)|(simp only[haa,Baa]at he⊢;obtain⟨_,h1,rfl,rfl⟩:=he;exact⟨rfl,_,h1,by simp⟩)|(simp_all;grind)
    .rename_i id Ja hx;(try simp only);rw[hm x id rfl (by rw[hx];rfl)]
     repeat' split at he
     all_goals simp_all
    .rename_i id Ja lo n hx;(try simp only);rw[hm x id rfl (by rw[hx];rfl)]
     repeat' split at he
     all_goals simp_all
    simp_all
   simp_all
  simp_all
 |load A n x=>
  simp only[ia]at he⊢;rw[wa (s:=s) (s':=s') (x:=x) (λt h=>ht t (by grind[I.reads]))];split at he
  .repeat' split at he
   all_goals grind
  .rename_i id Ja idx sub hx;(try simp only);rw[hm x id rfl (by rw[hx];rfl)];split at he
   .rename_i S ver' l hml;(try simp only);split at he
    .rename_i hv;rw[if_pos hv];simp only[xab]at he⊢;obtain⟨e,hl,he⟩:=he;split at he
     .rename_i hok;simp only[haa,Baa]at he
      grind
     simp_all
    simp_all
   simp_all
  simp_all
 |alloc S z=>grind[I.cls]
 |box S x=>grind[I.cls]
 |bslice S n z ps=>grind[I.cls]
 |mkslice S b z l c=>grind[I.cls]
 |store n x y=>grind[I.cls]
 |append S b x y=>grind[I.cls]
 |fail=>grind[ia]
 |mm b xs=>
  simp only[ia]at he⊢;rw[map_congr (s:=s) (s':=s') (l:=xs) (λt h=>ht t (by grind[I.reads]))];split at he
  all_goals first|(simp_all;done)|(simp only[haa,Baa]at he⊢;grind)|(simp_all;obtain⟨_,h1,h2,h3⟩:=he;exact⟨h3.symm,_,h1,h2⟩)
 |ceq n ks x y=>
  simp only[ia]at he⊢;rw[wa (s:=s) (s':=s') (x:=x) (λt h=>ht t (by grind[I.reads])),wa (s:=s) (s':=s') (x:=y) (λt h=>ht t (by grind[I.reads]))];split at he
  all_goals first|(simp_all;done)|(simp only[haa,Baa]at he⊢;grind)|(simp_all;obtain⟨_,h1,h2,h3⟩:=he;exact⟨h3.symm,_,h1,h2⟩)
 |strb S x=>grind[I.cls]
 |trunc S x lo hi=>grind[I.cls]
 |Cs x y=>
  simp only[ia]at he⊢;rw[wa (s:=s) (s':=s') (x:=x) (λt h=>ht t (by grind[I.reads])),wa (s:=s) (s':=s') (x:=y) (λt h=>ht t (by grind[I.reads]))];split at he
  all_goals simp_all
 |sslice x lo hi=>
  simp only[ia]at he⊢;rw[wa (s:=s) (s':=s') (x:=x) (λt h=>ht t (by grind[I.reads]))];split at he
  all_goals grind[I.reads,qn]
 |mkmap=>grind[I.cls]
 |mput K m k x=>grind[I.cls]
 |mlook K ok z x k=>
  simp only[ia]at he⊢;rw[wa (s:=s) (s':=s') (x:=x) (λt h=>ht t (by grind[I.reads])),wa (s:=s) (s':=s') (x:=k) (λt h=>ht t (by grind[I.reads]))];split at he
  .split at he
   .rename_i hk;rw[if_pos hk];split at he
    .grind
    .rename_i id hx;(try simp only);rw[hm x id rfl (by rw[hx];rfl)];split at he
     all_goals grind
    simp_all
   simp_all
  simp_all
 |mlen x=>
  simp only[ia]at he⊢;rw[wa (s:=s) (s':=s') (x:=x) (λt h=>ht t (by grind[I.reads]))];split at he
  .grind
  .rename_i id hx;(try simp only);rw[hm x id rfl (by rw[hx];rfl)];split at he
   all_goals simp_all
  simp_all
theorem aD{s s':St}{i:I}{d:D}(hc:i.cls=2) (ht:∀t∈i.reads,s'.t.getD t .dead=s.t.getD t .dead) (hm:s'.m=s.m) {m1:List Ent}(he:ia s i=some (d,m1)):ia s' i=some (d,m1)/\∃e,m1=s.m++[e]:=by
 cases i with
 |alloc S z=>grind[ia]
 |box S x=>
  simp only[ia]at he⊢;rw[wa (s:=s) (s':=s') (x:=x) (λt h=>ht t (by grind[I.reads])),hm]
  grind
 |bslice S n z ps=>
  grind[ia,I.reads,zp,haa]
 |mkslice S b z l c=>
  grind[ia,I.reads,wa]
 |mkmap=>
  grind[ia]
 |_=>simp[I.cls]at hc
def Closed(bs:List (List Nat)) (L:Nat->Bool):Prop:=∀i b,bs[i]?=some b->L i=true->∀e∈b,L e=true
theorem ED(acc:List Nat) {L:Nat->Bool}(hacc:∀e,L e=true->∀j,(acc.getD e 0).testBit j=true->L j=true) :
 ∀(b:List Nat) (s:Nat),(∀e∈b,L e=true)->(∀j,s.testBit j=true->L j=true)->∀j,(b.foldl (λs e=>s ||| 2 ^ e ||| acc.getD e 0) s).testBit j=true->L j=true
 |[],s,_,hs,j,h=>hs j h
 |e::b,s,hb,hs,j,h=>by
  simp only[List.foldl_cons]at h;refine ED acc hacc b _ (λx hx=>hb x (by grind)) (λk hk=>?_) j h
  grind
theorem UE{bs:List (List Nat)}{L:Nat->Bool}(hL:Closed bs L):∀(k:Nat) (acc:List Nat),acc.length=k->(∀e,L e=true->∀j,(acc.getD e 0).testBit j=true->L j=true)->
 ∀e,L e=true->∀j,((lu acc (bs.drop k)).getD e 0).testBit j=true->L j=true:=by
 intro k;have main:∀(n k:Nat) (acc:List Nat),bs.length-k=n->acc.length=k->(∀e,L e=true->∀j,(acc.getD e 0).testBit j=true->L j=true)->
  ∀e,L e=true->∀j,((lu acc (bs.drop k)).getD e 0).testBit j=true->L j=true:=by
  intro n
  induction n with
  |zero=>
   intro k acc hn hl hacc e he j hj;rw[xac (by omega)]at hj;exact hacc e he j hj
  |succ n ih=>
   intro k acc hn hl hacc e he j hj;have hk:k<bs.length:=by omega
   rw[Taa hk]at hj;simp only[lu]at hj;refine ih (k+1) (acc++[NP acc bs[k]]) (by omega) (by grind) ?_ e he j hj;intro x hx y hy;rw[pac,List.getElem?_append]at hy;split at hy
   .exact hacc x hx y (by simp_all)
   .rename_i hlt;by_cases hxk:x=k
    .subst hxk;rw[hl,Nat.sub_self]at hy;simp only[List.getElem?_cons_zero,Option.getD_some]at hy;exact ED acc hacc _ 0 (λe' he'=>hL x _ (faa hk) hx e' he') (λj h=>by grind) y hy
    grind
 grind
theorem kr{bs:List (List Nat)}{L:Nat->Bool}(hL:Closed bs L) {e j:Nat}(he:L e=true) (hj:((uv bs).getD e 0).testBit j=true):L j=true:=by
 have:=UE hL 0 [] rfl (λe _ j h=>by grind) e he j;simp only[List.drop_zero]at this;exact this hj
open Go.RowKit (Below)
theorem TM{m:List Ent}{d:D}{n:Nat}(h:Bc m d=some n) {id:Nat}(ht:ld d=some id):∃e,m[id]?=some e:=by
 unfold Bc at h
 grind[ld]
theorem jB{s:St}{i:I}{d:D}{m1:List Ent}(he:ia s i=some (d,m1)) {x:Operand}{id:Nat}(hx:i.dW=some x) (ht:ld (s.ev x)=some id):∃e,s.m[id]?=some e:=by
 cases i<;>simp only[I.dW,reduceCtorEq,Laa]at hx<;>subst hx
 .grind[ia,ld]
 all_goals grind[ia,ld,TM,haa]
section
variable (dst:Nat->Option Tmp) (dd:Nat->D) (xx:Nat->List Ent) (L:Nat->Bool)
def tS(t0:List D):Nat->List D
 |0=>t0
 |n+1=>if L n then(match dst n with|some y=>(tS t0 n).set y (dd n)|none=>tS t0 n)else tS t0 n
def mS(m0:List Ent):Nat->List Ent
 |0=>m0
 |n+1=>if L n then mS m0 n++xx n else mS m0 n
end
section
variable {dst:Nat->Option Tmp} {dd:Nat->D} {xx:Nat->List Ent} {L:Nat->Bool}
theorem zu(t0:List D):∀n,(tS dst dd L t0 n).length=t0.length
 |0=>rfl
 |n+1=>by
  simp only[tS];split
  .split
   .simp[zu t0 n]
   .exact zu t0 n
  .exact zu t0 n
theorem wR(t0:List D) (n y:Nat):(tS dst dd L t0 (n+1)).getD y .dead=if L n=true/\dst n=some y/\y<t0.length then dd n else(tS dst dd L t0 n).getD y .dead:=by
 simp only[tS];by_cases hL:L n=true
 .rw[if_pos hL]
  cases hd:dst n with
  |none=>simp
  |some z=>
   simp only;rw[pac,Sac];by_cases hz:z=y
   .subst hz;rw[if_pos rfl,zu]
    grind[zu]
   simp_all
 simp_all
theorem cJ(t0:List D) {i y:Nat}:∀{q:Nat},i<=q->(∀j,j<q->dst j=some y->(L j=true↔j<i))->(tS dst dd L t0 q).getD y .dead=(tS dst dd (λ_=>true) t0 i).getD y .dead:=by
 have h1:∀n,n<=i->(∀j,j<n->dst j=some y->L j=true)->(tS dst dd L t0 n).getD y .dead=(tS dst dd (λ_=>true) t0 n).getD y .dead:=by
  intro n
  induction n with
  |zero=>intro _ _;rfl
  |succ n ih=>
   grind[wR]
 intro q
 induction q with
 |zero=>simp_all
 |succ q ih=>
  intro hi h;by_cases hq:i=q+1
  .simp_all
  .rw[wR,if_neg ?_]
   all_goals grind
theorem FA(m0:List Ent):∀(q:Nat),(∀i j,i<j->j<q->xx i≠[]->xx j≠[]->L j=true->L i=true)->∃k,k<=q/\mS xx L m0 q=mS xx (λ_=>true) m0 k
 |0,_=>⟨0,saa _,rfl⟩
 |q+1,h=>by
  obtain⟨k,hk,he⟩:=FA m0 q λi j hij hj=>h i j hij (by omega);by_cases hx:xx q=[]
  .grind[mS]
  .by_cases hL:L q=true
   .refine⟨q+1,saa _,?_⟩;have hall:∀n,n<=q->mS xx L m0 n=mS xx (λ_=>true) m0 n:=by
     intro n
     induction n with
     |zero=>intro _;rfl
     |succ n ih=>
      grind[mS]
    simp_all[mS]
   grind[mS]
theorem rC(m0:List Ent) {k i:Nat}(h:k<=i):∃r,mS xx (λ_=>true) m0 i=mS xx (λ_=>true) m0 k++r:=by
 induction i with
 |zero=>simp_all
 |succ i ih=>
  by_cases hk:k=i+1
  .simp_all
  grind[mS]
theorem FI(m0:List Ent) {i:Nat}:∀{q:Nat},i<=q->(∀j,j<q->xx j≠[]->(L j=true↔j<i))->mS xx L m0 q=mS xx (λ_=>true) m0 i:=by
 have h1:∀n,n<=i->(∀j,j<n->xx j≠[]->L j=true)->mS xx L m0 n=mS xx (λ_=>true) m0 n:=by
  intro n
  induction n with
  |zero=>intro _ _;rfl
  |succ n ih=>
   grind[mS]
 intro q
 induction q with
 |zero=>simp_all
 |succ q ih=>
  grind[mS]
theorem GL(t0:List D) {L':Nat->Bool}{i:Nat}(hi:L i=false) (hL':∀j,L' j=(L j || j==i)):∀{q:Nat},i<q->(∀j,i<j->j<q->∀y,dst i=some y->dst j=some y->L j=false)->
 tS dst dd L' t0 q=(match dst i with|some y=>(tS dst dd L t0 q).set y (dd i)|none=>tS dst dd L t0 q):=by
 have hlow:∀n,n<=i->tS dst dd L' t0 n=tS dst dd L t0 n:=by
  intro n
  induction n with
  |zero=>intro _;rfl
  |succ n ih=>
   grind[tS]
 intro q
 induction q with
 |zero=>omega
 |succ q ih=>
  intro hq hw;by_cases hqi:q=i
  .simp_all[tS]
  .have h1:L' q=L q:=by simp_all
   have ih':=ih (by omega) λj hj hjq=>hw j hj (by omega);simp only[tS,h1,ih']
   cases hdi:dst i with
   |none=>simp
   |some y=>
    simp only;split
    .rename_i hLq;split
     .rename_i z hz;have hne:y≠z:=by
       grind
      grind[Rad]
     .rfl
    .rfl
theorem nL(m0:List Ent) {L':Nat->Bool}{i:Nat}(hi:L i=false) (hL':∀j,L' j=(L j || j==i)):∀{q:Nat},i<q->(∀j,i<j->j<q->xx i≠[]->xx j≠[]->L j=false)->
 mS xx L' m0 q=mS xx L m0 q++xx i:=by
 have hlow:∀n,n<=i->mS xx L' m0 n=mS xx L m0 n:=by
  intro n
  induction n with
  |zero=>intro _;rfl
  |succ n ih=>
   grind[mS]
 intro q
 induction q with
 |zero=>omega
 |succ q ih=>
  intro hq hw;by_cases hqi:q=i
  .simp_all[mS]
  .have h1:L' q=L q:=by simp_all
   have ih':=ih (by omega) λj hj hjq=>hw j hj (by omega);simp only[mS,h1,ih'];split
   .rename_i hLq;by_cases hxi:xx i=[]
    all_goals grind
   .rfl
end
def Ly(P:Program) (r:RI) (s:St) (d:D) (x:List Ent):Prop:=
 match r with
 |.op _ g i=>((gate s g=some none\/∃c,gate s g=some (some (c,c)))/\ia s i=some (d,s.m++x))\/((∃c b,gate s g=some (some (c,b))/\c≠b)/\d=.v undef/\x=[])
 |.call _ g f args=>∃k first caps,s.cv f=.fn k first caps/\x=[]/\
  (((gate s g=some none\/∃c,gate s g=some (some (c,c)))/\∀m,CallT P k (first++args.map s.ev++caps) m λd' m'=>d'=d/\m'=m)\/((∃c b,gate s g=some (some (c,b))/\c≠b)/\d=.v undef))
def after(s:St) (r:RI) (d:D) (x:List Ent):St:=({ s with m:=s.m++x }:St).put r.dst d
def zH(P:Program):List RI->St->List (D×List Ent)->St->Prop
 |[],s,os,s'=>os=[]/\s'=s
 |r::l,s,os,s'=>∃d x os',os=(d,x)::os'/\Ly P r s d x/\zH P l (after s r d x) os' s'
section
variable {P:Program}
theorem zH.length:∀{l:List RI}{s s':St}{os:List (D×List Ent)},zH P l s os s'->os.length=l.length
 |[],s,s',os,h=>by simp[h.1]
 |r::l,s,s',os,h=>by
  obtain⟨d,x,os',rfl,_,h⟩:=h;simp[zH.length h]
def Ky(rl:List RI) (os:List (D×List Ent)) (s:St) (L:Nat->Bool) (n:Nat):St:=
 ⟨tS (λi=>(rl.getD i (.op none none (.mv (.const undef)))).dst) (λi=>(os.getD i (.dead,[])).1) L s.t n,mS (λi=>(os.getD i (.dead,[])).2) L s.m n⟩
theorem lG(s:St) (r:RI) (d:D) (x:List Ent):(after s r d x).t=(match r.dst with|some y=>s.t.set y d|none=>s.t)/\(after s r d x).m=s.m++x:=by
 unfold after St.put
 grind
theorem zH.get{rl:List RI}{os:List (D×List Ent)}{s0:St}:∀{l:List RI}{k:Nat}{s':St}{os':List (D×List Ent)},l=(rl.drop k).take l.length->os'=(os.drop k).take os'.length->zH P l (Ky rl os s0 (λ_=>true) k) os' s'->
 (∀i,i<l.length->Ly P (rl.getD (k+i) (.op none none (.mv (.const undef)))) (Ky rl os s0 (λ_=>true) (k+i)) (os.getD (k+i) (.dead,[])).1 (os.getD (k+i) (.dead,[])).2)/\s'=Ky rl os s0 (λ_=>true) (k+l.length)
 |[],k,s',os',_,_,h=>⟨λi hi=>by grind,by simpa using h.2⟩
 |r::l,k,s',os',h1,h2,h=>by
  obtain⟨d,x,os'',rfl,hs,h⟩:=h;have hr:rl[k]?=some r:=by
   have:=congrArg (λl=>l[0]?) h1
   grind
  have ho:os[k]?=some (d,x):=by
   have:=congrArg (λl=>l[0]?) h2
   grind
  have hr':rl.getD k (.op none none (.mv (.const undef)))=r:=by simp_all
  have ho':os.getD k (.dead,[])=(d,x):=by simp_all
  have hnext:after (Ky rl os s0 (λ_=>true) k) r d x=Ky rl os s0 (λ_=>true) (k+1):=by
   have ha:=lG (Ky rl os s0 (λ_=>true) k) r d x;have:after (Ky rl os s0 (λ_=>true) k) r d x=⟨(after (Ky rl os s0 (λ_=>true) k) r d x).t,(after (Ky rl os s0 (λ_=>true) k) r d x).m⟩:=rfl
   simp_all[Ky,tS,mS]
  rw[hnext]at h;have t1:l=(rl.drop (k+1)).take l.length:=by
   grind[Taa]
  have t2:os''=(os.drop (k+1)).take os''.length:=by
   grind[Taa]
  obtain⟨g1,g2⟩:=zH.get t1 t2 h;refine⟨λi hi=>?_,by grind⟩
  cases i with
  |zero=>grind
  |succ i=>
   have:=g1 i (by grind)
   grind
theorem filter_lt{L L':Nat->Bool}{i:Nat}(hi:L i=false) (hL':∀j,L' j=(L j || j==i)):∀{l:List Nat},i∈l->(l.filter λj=>!L' j).length<(l.filter λj=>!L j).length
 |[],h=>by cases h
 |a::l,h=>by
  have mono:∀l:List Nat,(l.filter λj=>!L' j).length<=(l.filter λj=>!L j).length:=by
   intro l
   induction l with
   |nil=>simp
   |cons b l ih=>
    grind
  by_cases ha:a=i
  .grind
  .have hin:i∈l:=by
    grind
   have ih:=filter_lt hi hL' hin
   grind
theorem Ps{ops:Array Oper}:∀{l:List Oper}{rl:List RI},nh P ops l=some rl->rl.length=l.length/\∀(i:Nat) o,l[i]?=some o->∃r,rl[i]?=some r/\Ln P ops o=some r
 |[],rl,h=>by grind[nh]
 |o::l,rl,h=>by
  simp only[nh]at h;split at h
  .rename_i r rs h1 h2;injection h with h;subst h;obtain⟨g1,g2⟩:=Ps h2
   grind
  .cases h
theorem Fu{ops:Array Oper}{o:Oper}{r:RI}(h:Ln P ops o=some r):r.dst=o.dst:=by
 unfold Ln at h;split at h
 .cases h
 .split at h
  .injection h with h;subst h;rfl
  .simp only[haa]at h;obtain⟨i,-,rfl⟩:=h;rfl
theorem aY{ops:Array Oper}{o:Oper}{r:RI}(hc:Ln P ops o=some r) {sc s:St}{d:D}{x:List Ent}(hf:Ly P r sc d x) (ht:∀t∈r.reads,s.t.getD t .dead=sc.t.getD t .dead)
 (hm:r.cls=2->s.m=sc.m) (hm1:∀(id:Nat),(∃e,sc.m[id]?=some e)->id<s.m.length->s.m[id]?=sc.m[id]?) (hcls:r.cls<=2)
 {G:Gh} {w:World} {a:Act} (hr:Rel G w a s) {i:Nat} (hi:ops[i]?=some o) {Q:Exit->Act->World->Prop} {K:Act->World->Prop}
 (hK:∀G' w' a',Rel G' w' a' (after s r d x)->Step G w s.m G' w' (s.m++x)->K a' w'):wpOp P ops Q i K a w:=by
 have hdst:=Fu hc;unfold wpOp;simp only[hi];unfold Ln at hc;split at hc
 .grind
 .rename_i g hg;obtain⟨hgate1,hgate2⟩:=An hr hg;have hgt:gate s g=gate sc g:=mD (λt h=>ht t (by
   split at hc
   .grind[RI.reads]
   .simp only[haa]at hc;obtain⟨i,-,rfl⟩:=hc
    grind[RI.reads]))
  have won:(gate sc g=some none\/∃c,gate sc g=some (some (c,c)))->Region.wanted o (yielded ops a.tmps)=true:=by
   grind
  have woff:(∃c b,gate sc g=some (some (c,b))/\c≠b)->Region.wanted o (yielded ops a.tmps)=false:=by
   grind
  have skip:d=.v undef->x=[]->K (a.put o.dst undef) w:=by
   rintro rfl rfl;refine hK G w _ ?_ (by grind[Step.refl])
   simp_all[after,Oz]
  split at hc
  .rename_i f args ho;injection hc with hc;subst hc;obtain⟨k,first,caps,hfe,rfl,hf⟩:=hf;have hfe':s.cv f=.fn k first caps:=by grind[RI.reads,KC]
   have hargs:args.map s.ev=args.map sc.ev:=map_congr (λt h=>ht t (by grind[RI.reads]));rcases hf with⟨hon,hcall⟩|⟨hoff,hd⟩
   .rw[if_pos (won hon)];refine .inl ?_;obtain⟨⟨fn,e1,e2,e3⟩,hcc⟩:=hcall s.m;obtain⟨fs,cs,hrun,hv1,hv2⟩:=Aw hr ho (EO hfe') e1 e2 e3;rw[←hargs]at hcc;have hcalls:=hcc G w (fs++args.map a.eval++cs) ((hv1.append (Cw hr _)).append hv2) hr.inv;unfold Oper.wp;rw[hrun,Oper.upon_enter];refine hcalls.mono ?_;rintro e w' ⟨v,d',m',G',rfl,⟨rfl,rfl⟩,hvd,hi',hs'⟩;refine hK G' w' _ ?_ (by simp_all);unfold after;rw[Kaa];exact(hr.step hs'.le hi').put o.dst hvd
   simp_all
  .rename_i hno;simp only[haa]at hc;obtain⟨j,hj,rfl⟩:=hc;rcases hf with⟨hon,hev⟩|⟨hoff,hd,hx⟩
   .rw[if_pos (won hon)];refine .inl ?_;have hev':ia s j=some (d,s.m++x):=by
     simp only[RI.cls]at hcls hm;have htj:∀t∈j.reads,s.t.getD t .dead=sc.t.getD t .dead:=λt h=>ht t (by grind[RI.reads]);by_cases h2:j.cls=2
     .grind[aD]
     .have h1:j.cls<=1:=by omega
      obtain⟨hxm,hres⟩:=xn (s:=sc) (s':=s) h1 htj (λy id hy hid=>by
       refine hm1 id (jB hev hy hid) ?_;have hvy:=hr.ev y;have hevy:s.ev y=sc.ev y:=wa (λt h=>htj t (by
        cases j<;>simp only[I.dW,reduceCtorEq,Laa]at hy<;>subst hy<;>simp[I.reads,h]))
       rw[hevy]at hvy;have hn:=hr.inv.n;generalize sc.ev y=dy at *;cases dy<;>simp only[ld,reduceCtorEq,Laa]at hid
       .subst hid;simp only[VRel]at hvy;omega
       .subst hid;simp only[VRel]at hvy;omega
       .subst hid;simp only[VRel]at hvy;omega
       .subst hid;simp only[VRel]at hvy;omega) hev
      simp_all
    exact hr.Gr (Xz hj hr hev') λG' w' u hr' hs'=>hK G' w' _ hr' hs'
   simp_all
end
open Go.RowKit (Below)
section
variable {P:Program}
theorem OU{ops:Array Oper}{Q:Exit->Act->World->Prop}{K:St->Prop}{o:Oper}{r:RI}{rs:List RI}{s:St}{G:Gh}{w:World}{a:Act}(h1:Ln P ops o=some r) (hK:fj P (r::rs) K s) (hr:Rel G w a s)
 {i:Nat} (hi:ops[i]?=some o) {Kx:Act->World->Prop} (rest:∀{G':Gh} {w':World} {a':Act} {s':St},fj P rs K s'->Rel G' w' a' s'->Step G w s.m G' w' s'.m->Kx a' w'):wpOp P ops Q i Kx a w:=by
 unfold wpOp;simp only[hi];unfold Ln at h1;split at h1
 .grind
 .rename_i g hg;obtain⟨hgate1,hgate2⟩:=An hr hg;have doI:∀{i:I} {d:D} {m':List Ent},xr P ops o o.op=some i->ia s i=some (d,m')->fj P rs K ({ s with m:=m' }.put o.dst d)->o.wp P a w Kx Q:=by
   intro i d m' hi he hK';exact hr.Gr (Xz hi hr he) λG' w' u hr' hs'=>rest hK' hr' (by grind[TF])
  have skip:fj P rs K (s.put o.dst (.v undef))->Kx (a.put o.dst undef) w:=λhK'=>rest hK' (Oz hr o.dst) (by grind[TF,Step.refl]);split at h1
  .rename_i f args ho;injection h1 with h1;subst h1;simp only[fj]at hK;split at hK
   .rename_i k first caps hfe
    have doC:CallT P k (first++args.map s.ev++caps) s.m (λd m'=>fj P rs K ({ s with m:=m' }.put o.dst d))->o.wp P a w Kx Q:=by
     rintro⟨⟨fn,e1,e2,e3⟩,hcall⟩;obtain⟨fs,cs,hrun,hv1,hv2⟩:=Aw hr ho hfe e1 e2 e3;have hcalls:=hcall G w (fs++args.map a.eval++cs) ((hv1.append (Cw hr _)).append hv2) hr.inv;unfold Oper.wp;rw[hrun,Oper.upon_enter];refine hcalls.mono ?_;rintro e w' ⟨v,d,m',G',rfl,hK',hvd,hi',hs'⟩;exact rest hK' ((hr.step hs'.le hi').put o.dst hvd) (by grind[TF])
    grind
   grind
  .rename_i hno;simp only[haa]at h1;obtain⟨i,hi,rfl⟩:=h1;simp only[fj]at hK
   grind
theorem yP{listed:Array Bool}{i j:Nat}(hi:i<listed.size) (d:Bool):(listed.setIfInBounds i true).getD j d=if j=i then true else listed.getD j d:=by
 simp only[eac,Array.getElem?_setIfInBounds]
 grind
theorem bB{ops:Array Oper}{i:Nat}{o:Oper}(h:ops[i]?=some o):(mb ops)[i]?=some ((o.after.toList.filter λe=>Region.binds .any e).map (·.on)):=by
 grind[mb]
structure TailFacts (bs:List (List Nat)) (rl:List RI) (q:Nat):Prop where
 len:bs.length=rl.length
 hq:q<=rl.length
 back:∀(i:Nat) b,bs[i]?=some b->∀e∈b,e<i
 tail:∀(i j:Nat),i<j->q<=j->j<rl.length->((uv bs).getD j 0).testBit i=true
theorem rH{bs:List (List Nat)}{rl:List RI}{cuts:List Nat}{q:Nat}(h:qH bs rl cuts q=true) :
 TailFacts bs rl q/\∀p∈cuts,∀(i j:Nat),i<p->p<=j->j<rl.length->((uv bs).getD j 0).testBit i=true:=by
 unfold qH at h;simp only[paa,beq_iff_eq,decide_eq_true_eq,Uaa,iad,Eac]at h;obtain⟨⟨⟨⟨h0,h1⟩,h2⟩,h3⟩,h4⟩:=h;refine⟨⟨h1,h2,?_,?_⟩,?_⟩
 .simp_all[Haa]
 all_goals grind
structure DrawFacts (bs:List (List Nat)) (rl:List RI) (q:Nat):Prop extends TailFacts bs rl q where
 cls:∀(j:Nat) y,j<q->rl[j]?=some y->y.cls<=2
 apart:∀(i j:Nat) x y,i<j->j<q->rl[i]?=some x->rl[j]?=some y->Ax x y=true->((uv bs).getD j 0).testBit i=true
theorem Uq{bs:List (List Nat)}{rl:List RI}{q:Nat}(h:rA bs rl q=true):DrawFacts bs rl q:=by
 unfold rA at h;simp only[paa,beq_iff_eq,decide_eq_true_eq,Uaa,iad]at h;obtain⟨⟨⟨h1,h2⟩,h3⟩,h4⟩:=h;have hy:∀(j:Nat) y,rl[j]?=some y->j<rl.length:=λj y hj=>(Haa.1 hj).1;refine⟨⟨h1,h2,?_,?_⟩,?_,?_⟩
 rotate_left
 .grind
 rotate_right
 .simp_all[Haa]
 all_goals grind
section
variable {ops:Array Oper} {Q:Exit->Act->World->Prop} {K:St->Prop} {rl:List RI} {q:Nat}
def Jc(listed:Array Bool):Nat->Bool:=λi=>listed.getD i false
theorem bt(hf:TailFacts (mb ops) rl q) {listed:Array Bool}(hsz:listed.size=ops.size) (hcl:Closed (mb ops) (Jc listed)) {i:Nat}(hi:i∈Region.ready .any ops listed) :
 i<ops.size/\Jc listed i=false/\(∀j,j≠i->((uv (mb ops)).getD i 0).testBit j=true->Jc listed j=true)/\Closed (mb ops) (Jc (listed.setIfInBounds i true))/\
 (∀j,Jc (listed.setIfInBounds i true) j=(Jc listed j || j==i)):=by
 obtain⟨h0,o,ho,hall⟩:=mem_ready.1 hi;have hlt:i<ops.size:=(Array.getElem?_eq_some_iff.1 ho).1;have hnot:Jc listed i=false:=by
  grind[Jc]
 have hset:∀j,Jc (listed.setIfInBounds i true) j=(Jc listed j || j==i):=by
  intro j;unfold Jc;rw[yP (by omega)]
  grind
 have hcl':Closed (mb ops) (Jc (listed.setIfInBounds i true)):=by
  intro j b hb hj e he;rw[hset]at hj⊢;simp only[Eac,beq_iff_eq]at hj⊢;rcases hj with hj|hj
  .exact .inl (hcl j b hb hj e he)
  .subst hj;have hbo:=bB ho;rw[hb]at hbo;injection hbo with hbo;subst hbo;simp only[List.mem_map,List.mem_filter,Array.mem_toList_iff]at he;obtain⟨ed,⟨h1,h2⟩,rfl⟩:=he;exact .inl (hall ed h1 h2)
 refine⟨hlt,hnot,λj hne hj=>?_,hcl',hset⟩;have:=kr hcl' (e:=i) (by simp_all) hj
 simp_all
theorem dw(hf:TailFacts (mb ops) rl q) {listed:Array Bool}(hsz:listed.size=ops.size) (hno:Region.ready .any ops listed=[]):∀i,i<ops.size->Jc listed i=true:=by
 intro i
 induction i using lac with
 |_ i ih=>
  intro hi;rcases hb:Jc listed i with _|_
  .exfalso;have:i∈Region.ready .any ops listed:=by
    refine mem_ready.2 ⟨?_,ops[i],eab hi,λe he hbi=>?_⟩
    .grind[Jc]
    .have hbo:=bB (eab hi);have hlt:=hf.back i _ hbo e.on (by
      grind)
     exact ih e.on hlt (by omega)
   simp_all
  .rfl
theorem Gw(hc:nh P ops ops.toList=some rl) (hf:TailFacts (mb ops) rl q) :
 ∀(n r:Nat) (fuel:Nat) (listed:Array Bool) (s:St) (G:Gh) (w:World) (a:Act),ops.size-r=n->n<=fuel->q<=r->r<=ops.size->listed.size=ops.size->(∀i,Jc listed i=decide (i<r))->
  fj P (rl.drop r) K s->Rel G w a s->(∀s' G' w' a',K s'->Rel G' w' a' s'->Step G w s.m G' w' s'.m->Q .normal a' w')->wpAny P .any ops Q fuel listed a w:=by
 obtain⟨hlen,hget⟩:=Ps hc;simp only[Kab]at hlen;have hclosed:∀(r:Nat) (L:Nat->Bool),(∀i,L i=decide (i<r))->Closed (mb ops) L:=by
  intro r L hL i b hb hi e he;have:=hf.back i b hb e he
  grind
 intro n
 induction n with
 |zero=>
  intro r fuel listed s G w a hn hfuel hq hr hsz hL hK hrel hQ;have hrn:r=ops.size:=by omega
  have hnone:Region.ready .any ops listed=[]:=by
   cases hre:Region.ready .any ops listed with
   |nil=>rfl
   |cons i l=>
    obtain⟨h1,h2,-⟩:=bt hf hsz (hclosed r _ hL) (i:=i) (by simp_all)
    simp_all
  rw[xac (by omega)]at hK;have hend:=hQ s G w a hK hrel (Step.refl _ _ _)
  cases fuel with
  |zero=>exact⟨hnone,hend⟩
  |succ fuel=>exact⟨λ_=>hend,λi hi=>by simp_all⟩
 |succ n ih=>
  intro r fuel listed s G w a hn hfuel hq hr hsz hL hK hrel hQ
  cases fuel with
  |zero=>omega
  |succ fuel=>
   have hrlt:r<ops.size:=by omega
   refine⟨λhno=>?_,λi hi=>?_⟩
   .have:=dw hf hsz hno r hrlt
    simp_all
   .obtain⟨h1,h2,h3,h4,h5⟩:=bt hf hsz (hclosed r _ hL) hi;have hir:i=r:=by
     rw[hL]at h2;simp at h2;rcases zab r i with h|h
     .have:=h3 r (by omega) (hf.tail r i h (by omega) (by omega))
      simp_all
     omega
    subst hir;have ho:ops[i]?=some ops[i]:=eab h1;obtain⟨ri,hri,hco⟩:=hget i ops[i] (by simp);have hri':rl.drop i=ri::rl.drop (i+1):=by
     grind[Taa]
    rw[hri']at hK;refine OU hco hK hrel ho λhK' hrel' hs'=>?_;refine ih (i+1) fuel (listed.setIfInBounds i true) _ _ _ _ (by omega) (by omega) (by omega) (by omega) (by simp[hsz]) (λj=>?_) hK' hrel' λs'' G'' w'' a'' k1 k2 k3=>hQ s'' G'' w'' a'' k1 k2 (hs'.trans k3)
    grind
theorem sE{dst:Nat->Option Tmp}{dd:Nat->D}{L L':Nat->Bool}(t0:List D):∀n,(∀j,j<n->L j=L' j)->tS dst dd L t0 n=tS dst dd L' t0 n
 |0,_=>rfl
 |n+1,h=>by simp only[tS,h n (by omega),sE t0 n λj hj=>h j (by omega)]
theorem DD{xx:Nat->List Ent}{L L':Nat->Bool}(m0:List Ent):∀n,(∀j,j<n->L j=L' j)->mS xx L m0 n=mS xx L' m0 n
 |0,_=>rfl
 |n+1,h=>by simp only[mS,h n (by omega),DD m0 n λj hj=>h j (by omega)]
theorem cG{os:List (D×List Ent)}{s0:St}{L L':Nat->Bool}(n:Nat) (h:∀j,j<n->L j=L' j):Ky rl os s0 L n=Ky rl os s0 L' n:=by
 grind[Ky,sE,DD]
theorem count_tail(q:Nat):∀n,((yaa n).filter λj=>!decide (j<q)).length=n-q
 |0=>by simp
 |n+1=>by
  rw[List.range_succ,List.filter_append,Oaa,count_tail q n]
  grind
theorem getD_some{l:List RI}{i:Nat}(h:i<l.length) (d:RI):l[i]?=some (l.getD i d):=by
 simp_all
theorem qM(hc:nh P ops ops.toList=some rl) (hf:DrawFacts (mb ops) rl q) {os:List (D×List Ent)}{s0:St}
 (hflo:∀i,i<q->Ly P (rl.getD i (.op none none (.mv (.const undef)))) (Ky rl os s0 (λ_=>true) i) (os.getD i (.dead,[])).1 (os.getD i (.dead,[])).2)
 (hmake:∀i,i<q->(os.getD i (.dead,[])).2≠[]->(rl.getD i (.op none none (.mv (.const undef)))).cls=2)
 (hT:fj P (rl.drop q) K (Ky rl os s0 (λ_=>true) q)) :
 ∀(fuel:Nat) (listed:Array Bool) (G:Gh) (w:World) (a:Act),((yaa ops.size).filter λj=>!Jc listed j).length<=fuel->listed.size=ops.size->Closed (mb ops) (Jc listed)->
  (∀j,q<=j->Jc listed j=false)->Rel G w a (Ky rl os s0 (Jc listed) q)->
  (∀s' G' w' a',K s'->Rel G' w' a' s'->Step G w (Ky rl os s0 (Jc listed) q).m G' w' s'.m->Q .normal a' w')->wpAny P .any ops Q fuel listed a w:=by
 obtain⟨hlen,hget⟩:=Ps hc;simp only[Kab]at hlen;have hq:=hf.hq;intro fuel
 induction fuel with
 |zero=>
  intro listed G w a hcard hsz hcl htail hrel hQ;have hall:∀i,i<ops.size->Jc listed i=true:=by
   simp_all
  have hqn:q=ops.size:=by
   rcases zab q ops.size with h|h
   all_goals grind
  have hst:Ky rl os s0 (Jc listed) q=Ky rl os s0 (λ_=>true) q:=cG q λj hj=>hall j (by omega);refine Gw hc hf.toTailFacts 0 q 0 listed _ G w a (by omega) (saa _) (saa _) (by omega) hsz (λi=>?_) hT (by simp_all) (by grind)
  grind
 |succ fuel ih=>
  intro listed G w a hcard hsz hcl htail hrel hQ;by_cases hdone:∀j,j<q->Jc listed j=true
  ·
    have hst:Ky rl os s0 (Jc listed) q=Ky rl os s0 (λ_=>true) q:=cG q λj hj=>hdone j hj;have hL:∀i,Jc listed i=decide (i<q):=λi=>by
     grind
    have hcnt:=count_tail q ops.size;simp only[hL]at hcard;exact Gw hc hf.toTailFacts (ops.size-q) q (fuel+1) listed _ G w a rfl (by omega) (saa _) (by omega) hsz hL hT (by simp_all) (by grind)
  .refine⟨λhno=>(hdone λj hj=>dw hf.toTailFacts hsz hno j (by omega)).elim,λi hi=>?_⟩;obtain⟨h1,h2,h3,h4,h5⟩:=bt hf.toTailFacts hsz hcl hi;have hiq:i<q:=by
    rcases zab i q with h|h
    .exact h
    .exact(hdone λj hj=>h3 j (by omega) (hf.tail j i (by omega) h (by omega))).elim
   have hri:=getD_some (l:=rl) (i:=i) (by omega) (.op none none (.mv (.const undef)));obtain⟨r,hr,hco⟩:=hget i ops[i] (by simp);have hrr:rl.getD i (.op none none (.mv (.const undef)))=r:=by simp_all
   have early:∀j x,j<i->rl[j]?=some x->Ax x r=true->Jc listed j=true:=λj x hj hx hcl'=>h3 j (by omega) (hf.apart j i x r hj hiq hx hr hcl');have late:∀j y,i<j->j<q->rl[j]?=some y->Ax r y=true->Jc listed j=false:=by
    intro j y hj hjq hy hcl';rcases hb:Jc listed j with _|_
    .rfl
    .have:=kr hcl hb (hf.apart i j r y hj hjq hr hy hcl')
     simp_all
   have hgetj:∀j,j<q->rl[j]?=some (rl.getD j (.op none none (.mv (.const undef)))):=λj hj=>getD_some (by omega) _;have hF:=hflo i hiq;rw[hrr]at hF;have hclsr:r.cls<=2:=hf.cls i r hiq hr;have hmk:∀j,j<q->(os.getD j (.dead,[])).2≠[]->(rl.getD j (.op none none (.mv (.const undef)))).cls=2:=hmake;have hclash2:∀x y:RI,x.cls=2->y.cls=2->Ax x y=true:=λx y hx hy=>by grind[Ax]
   refine aY hco hF (s:=Ky rl os s0 (Jc listed) q) ?_ ?_ ?_ hclsr hrel (eab h1) ?_
   ·
     intro y hy;refine cJ s0.t (by omega) λj hj hd=>?_
     grind[Ax]
   ·
     intro hcls;refine FI s0.m (by omega) λj hj hx=>?_
     grind
   ·
     rintro id ⟨e,he⟩ hid;obtain⟨k,hk,hmk'⟩:=FA (xx:=λi=>(os.getD i (.dead,[])).2) (L:=Jc listed) s0.m q λi1 j1 hij hj hx1 hx2 hL1=>
      kr hcl hL1 (hf.apart i1 j1 _ _ hij hj (hgetj i1 (by omega)) (hgetj j1 hj) (hclash2 _ _ (hmk i1 (by omega) hx1) (hmk j1 hj hx2)))
     simp only[Ky]at he hid⊢;rw[hmk']at hid⊢;rcases Uad i k with h|h
     .obtain⟨rr,hrr'⟩:=rC (xx:=λi=>(os.getD i (.dead,[])).2) s0.m h
      grind
     .obtain⟨rr,hrr'⟩:=rC (xx:=λi=>(os.getD i (.dead,[])).2) s0.m h
      grind
   ·
     intro G' w' a' hrel' hs';have hst:after (Ky rl os s0 (Jc listed) q) r (os.getD i (.dead,[])).1 (os.getD i (.dead,[])).2=Ky rl os s0 (Jc (listed.setIfInBounds i true)) q:=by
      obtain⟨ha1,ha2⟩:=lG (Ky rl os s0 (Jc listed) q) r (os.getD i (.dead,[])).1 (os.getD i (.dead,[])).2;have heta:∀z:St,z=⟨z.t,z.m⟩:=λz=>rfl;rw[heta (after _ _ _ _),ha1,ha2];simp only[Ky,St.mk.injEq];constructor
      .rw[GL s0.t h2 h5 hiq ?_]
       all_goals grind[Ax]
      .rw[nL s0.m h2 h5 hiq ?_]
       grind
     rw[hst]at hrel';refine ih (listed.setIfInBounds i true) G' w' a' ?_ (by grind) h4 ?_ hrel' ?_
     .have:=filter_lt h2 h5 (l:=yaa ops.size) (by grind);omega
     .grind
     .intro s'' G'' w'' a'' k1 k2 k3;refine hQ s'' G'' w'' a'' k1 k2 (hs'.trans ?_)
      grind[lG]
theorem MG{r:RI}{s:St}{d:D}{x:List Ent}(h:Ly P r s d x) (hcl:r.cls<=2) (hx:x≠[]):r.cls=2:=by
 cases r with
 |call dst g f args=>
  obtain⟨_,_,_,_,h,_⟩:=h
  simp_all
 |op dst g i=>
  rcases h with⟨-,h⟩|⟨-,-,h⟩
  .simp only[RI.cls]at hcl⊢;rcases zab i.cls 2 with h2|h2
   .obtain⟨hm,-⟩:=xn (s:=s) (s':=s) (by omega) (λ_ _=>rfl) (λ_ _ _ _=>rfl) h
    simp_all
   omega
  simp_all
theorem FJ(gn:P.follows .mixedOrders=true) (hc:nh P ops ops.toList=some rl) (hok:rA (mb ops) rl q=true) {s s1:St}{os:List (D×List Ent)}(hF:zH P (rl.take q) s os s1) (hT:fj P (rl.drop q) K s1)
 {id:Nat} {G:Gh} {w:World} {a:Act} (hr:Rel G w a s) (hQ:∀s' G' w' a',K s'->Rel G' w' a' s'->Step G w s.m G' w' s'.m->Q .normal a' w'):(Code.region id ops true).wp P Q a w:=by
 have hf:=Uq hok;have hlenT:(rl.take q).length=q:=by rw[Cac];have:=hf.hq;omega
 have hlenO:=hF.length;rw[hlenT]at hlenO;have h0:Ky rl os s (λ_=>true) 0=s:=rfl;obtain⟨g1,g2⟩:=zH.get (rl:=rl) (os:=os) (s0:=s) (k:=0) (l:=rl.take q) (os':=os) (s':=s1) (by simp) (by simp) (by rw[h0];omega);simp only[hlenT,jab]at g1 g2;subst g2;have hL0:∀j,Jc (mab ops.size false) j=false:=by
  intro j;unfold Jc;simp only[eac,Pac]
  grind
 have hst0:Ky rl os s (Jc (mab ops.size false)) q=s:=by
  have ht:∀n,tS (λi=>(rl.getD i (.op none none (.mv (.const undef)))).dst) (λi=>(os.getD i (.dead,[])).1) (Jc (mab ops.size false)) s.t n=s.t:=by
   intro n
   induction n with
   |zero=>rfl
   |succ n ih=>simp_all[tS]
  have hm:∀n,mS (λi=>(os.getD i (.dead,[])).2) (Jc (mab ops.size false)) s.m n=s.m:=by
   intro n
   induction n with
   |zero=>rfl
   |succ n ih=>simp_all[mS]
  grind[Ky]
 refine wp_region_any gn ?_;have hs:=Same.drew w;refine qM hc hf g1 (λi hi hx=>MG (g1 i hi) (hf.cls i _ hi (getD_some (by grind) _)) hx) hT ops.size _ G _ a ?_ (by simp) ?_ (λj _=>hL0 j) ?_ ?_
 .grind
 .intro i b _ hi
  simp_all
 .rw[hst0];exact⟨hr.t.mono (hs.le G),hs.inv hr.inv,hr.defers⟩
 .intro s' G' w' a' k1 k2 k3;rw[hst0]at k3;exact hQ s' G' w' a' k1 k2 ((hs.step G s.m).trans k3)
end
end
section
variable {P:Program} {N:Nat}
def yH(P:Program):Nat->List RI->(St->Prop)->St->Prop
 |0,l,K,s=>fj P l K s
 |_+1,[],_,_=>False
 |q+1,.op dst g i::l,K,s=>
  match gate s g with
  |none=>False
  |some none=>∃d m',ia s i=some (d,m')/\yH P q l K ({ s with m:=m' }.put dst d)
  |some (some (c,b))=>(c=b->∃d m',ia s i=some (d,m')/\yH P q l K ({ s with m:=m' }.put dst d))/\(c≠b->yH P q l K (s.put dst (.v undef)))
 |q+1,.call dst g f args::l,K,s=>
  match s.cv f with
  |.fn k first caps=>
   match gate s g with
   |none=>False
   |some none=>∃d,(∀m,CallT P k (first++args.map s.ev++caps) m λd' m'=>d'=d/\m'=m)/\yH P q l K (s.put dst d)
   |some (some (c,b))=>(c=b->∃d,(∀m,CallT P k (first++args.map s.ev++caps) m λd' m'=>d'=d/\m'=m)/\yH P q l K (s.put dst d))/\(c≠b->yH P q l K (s.put dst (.v undef)))
  |_=>False
section
variable {ops:Array Oper} {Q:Exit->Act->World->Prop} {K:St->Prop} {rl:List RI} {q:Nat}
end
theorem Fw:∀{q:Nat}{l:List RI}{K:St->Prop}{s:St},yH P q l K s->(∀(j:Nat) y,j<q->l[j]?=some y->y.cls<=2)->∃os s1,zH P (l.take q) s os s1/\fj P (l.drop q) K s1
 |0,l,K,s,h,_=>⟨[],s,by simp[zH],by simpa [yH] using h⟩
 |q+1,[],K,s,h,_=>by simp[yH]at h
 |q+1,.op dst g i::l,K,s,h,hc=>by
  have hci:i.cls<=2:=hc 0 _ (by omega) rfl;have hc':∀(j:Nat) y,j<q->l[j]?=some y->y.cls<=2:=λj y hj hy=>hc (j+1) y (by omega) (by simp_all);have ext:∀{d:D} {m':List Ent},ia s i=some (d,m')->∃x,m'=s.m++x:=λ{d m'} he=>by
   rcases zab i.cls 2 with h2|h2
   .exact⟨[],by rw[Kaa];exact(xn (s:=s) (s':=s) (by omega) (λ_ _=>rfl) (λ_ _ _ _=>rfl) he).1⟩
   .obtain⟨-,e,h⟩:=aD (s:=s) (s':=s) (by omega) (λ_ _=>rfl) rfl he
    simp_all
  have on:∀{d:D} {m':List Ent},ia s i=some (d,m')->(gate s g=some none\/∃c,gate s g=some (some (c,c)))->yH P q l K ({ s with m:=m' }.put dst d)->
   ∃os s1,zH P ((RI.op dst g i::l).take (q+1)) s os s1/\fj P ((RI.op dst g i::l).drop (q+1)) K s1:=by
   intro d m' he hg hD;obtain⟨x,rfl⟩:=ext he;obtain⟨os,s1,h1,h2⟩:=Fw hD hc';exact⟨(d,x)::os,s1,by simp only[Vaa,zH];exact⟨d,x,os,rfl,.inl ⟨hg,he⟩,h1⟩,by simp_all⟩
  simp only[yH]at h;split at h
  .simp_all
  .grind
  .rename_i c b hg;by_cases hcb:c=b
   .subst hcb;obtain⟨d,m',he,hD⟩:=h.1 rfl
    simp_all
   .obtain⟨os,s1,h1,h2⟩:=Fw (h.2 hcb) hc';refine⟨(.v undef,[])::os,s1,?_,by simp_all⟩;simp only[Vaa,zH];refine⟨_,_,os,rfl,.inr ⟨⟨c,b,hg,hcb⟩,rfl,rfl⟩,?_⟩;have:after s (.op dst g i) (.v undef) []=s.put dst (.v undef):=by unfold after;rw[Kaa];rfl
    simp_all
 |q+1,.call dst g f args::l,K,s,h,hc=>by
  have hc':∀(j:Nat) y,j<q->l[j]?=some y->y.cls<=2:=λj y hj hy=>hc (j+1) y (by omega) (by simp_all);have haf:∀d,after s (.call dst g f args) d []=s.put dst d:=λd=>by unfold after;rw[Kaa];rfl
  simp only[yH]at h;split at h
  .rename_i k first caps hf
   split at h
   .simp_all
   .rename_i hg;obtain⟨d,hcall,hD⟩:=h;obtain⟨os,s1,h1,h2⟩:=Fw hD hc';refine⟨(d,[])::os,s1,?_,by simp_all⟩;simp only[Vaa,zH];exact⟨d,[],os,rfl,⟨k,first,caps,hf,rfl,.inl ⟨.inl hg,hcall⟩⟩,by simp_all⟩
   .rename_i c b hg;by_cases hcb:c=b
    .subst hcb;obtain⟨d,hcall,hD⟩:=h.1 rfl;obtain⟨os,s1,h1,h2⟩:=Fw hD hc';refine⟨(d,[])::os,s1,?_,by simp_all⟩;simp only[Vaa,zH];exact⟨d,[],os,rfl,⟨k,first,caps,hf,rfl,.inl ⟨.inr ⟨c,hg⟩,hcall⟩⟩,by simp_all⟩
    .obtain⟨os,s1,h1,h2⟩:=Fw (h.2 hcb) hc';refine⟨(.v undef,[])::os,s1,?_,by simp_all⟩;simp only[Vaa,zH];exact⟨_,[],os,rfl,⟨k,first,caps,hf,rfl,.inr ⟨⟨c,b,hg,hcb⟩,rfl⟩⟩,by simp_all⟩
  simp_all
theorem T.draw{q:Nat}{l:List RI}{K:Exit->St->Prop}{s:St}(hm:P.follows .mixedOrders=true) (h:yH P q l (K .normal) s):T P N (.draw q l) K s:=by
 intro code hc G w a hN hr;obtain⟨id,ops,rfl,hc',hok⟩:=nA hc;obtain⟨os,s1,h1,h2⟩:=Fw h (Uq hok).cls;exact FJ hm hc' hok h1 h2 hr λs' G' w' a' k1 k2 k3=>⟨s',G',k1,k2,k3.BV hN⟩
end
section
variable (ww:Nat->Option (Nat×Ent)) (L:Nat->Bool)
def sS(m:List Ent):Nat->List Ent
 |0=>m
 |n+1=>if L n then(match ww n with|some (id,e)=>(sS m n).set id e|none=>sS m n)else sS m n
def bw(id:Nat):Nat->Option Ent
 |0=>none
 |n+1=>if L n then(match ww n with|some (j,e)=>if j=id then some e else bw id n|none=>bw id n)else bw id n
end
section
variable {ww:Nat->Option (Nat×Ent)} {L:Nat->Bool}
theorem om(m:List Ent):∀n,(sS ww L m n).length=m.length
 |0=>rfl
 |n+1=>by
  simp only[sS]
  repeat' split
  all_goals simp[om m n]
theorem lE(m:List Ent) (id:Nat):∀n,id<m.length->(sS ww L m n)[id]?=(match bw ww L id n with|some e=>some e|none=>m[id]?)
 |0,h=>rfl
 |n+1,h=>by
  simp only[sS,bw];split
  .split
   .rename_i j e hw;rw[Sac];by_cases hj:j=id
    .subst hj;rw[if_pos rfl,if_pos rfl,if_pos (by grind[om])]
    .rw[if_neg hj,if_neg hj];exact lE m id n h
   .exact lE m id n h
  .exact lE m id n h
theorem eK{id i:Nat}:∀{q:Nat},i<=q->(∀j,j<q->∀e,ww j=some (id,e)->(L j=true↔j<i))->bw ww L id q=bw ww (λ_=>true) id i:=by
 have h1:∀n,n<=i->(∀j,j<n->∀e,ww j=some (id,e)->L j=true)->bw ww L id n=bw ww (λ_=>true) id n:=by
  intro n
  induction n with
  |zero=>intro _ _;rfl
  |succ n ih=>
   grind[bw]
 intro q
 induction q with
 |zero=>
  simp_all
 |succ q ih=>
  grind[bw]
theorem xK(m x:List Ent):∀n,(∀j,j<n->L j=true->∀id e,ww j=some (id,e)->id<m.length)->sS ww L (m++x) n=sS ww L m n++x
 |0,_=>rfl
 |n+1,h=>by
  have ih:=xK m x n λj hj=>h j (by omega);simp only[sS];split
  .rename_i hL;split
   all_goals grind[om]
  omega
theorem RU(m:List Ent) {L':Nat->Bool}{i:Nat}(hi:L i=false) (hL':∀j,L' j=(L j || j==i)):∀{q:Nat},i<q->(∀j,i<j->j<q->L j=true->∀id e e',ww i=some (id,e)->ww j≠some (id,e'))->
 sS ww L' m q=(match ww i with|some (id,e)=>(sS ww L m q).set id e|none=>sS ww L m q):=by
 have hlow:∀n,n<=i->sS ww L' m n=sS ww L m n:=by
  intro n
  induction n with
  |zero=>intro _;rfl
  |succ n ih=>
   grind[sS]
 intro q
 induction q with
 |zero=>omega
 |succ q ih=>
  intro hq hw;by_cases hqi:q=i
  .simp_all[sS]
  .have h1:L' q=L q:=by simp_all
   have ih':=ih (by omega) λj hj hjq=>hw j hj (by omega);simp only[sS,h1,ih']
   cases hdi:ww i with
   |none=>simp
   |some p=>
    obtain⟨id,e⟩:=p;simp only;split
    .rename_i hLq;split
     .rename_i id' e' hz;have hne:id≠id':=by
       grind
      grind[Rad]
     .rfl
    .rfl
end
def I.DN:I->Option Operand
 |.store _ x _=>some x
 |.trunc _ x _ _=>some x
 |.append _ _ x _=>some x
 |_=>none
def I.src:I->Option Operand
 |.append _ _ _ y=>some y
 |_=>none
def xe(s:St):I->Bool
 |.trunc _ x _ _=>match s.ev x with|.own ..=>true|_=>false
 |.append _ _ x _=>match s.ev x with|.own ..=>true|_=>false
 |_=>true
theorem wC{i:I}{x:Operand}(h:i.DN=some x):i.cls=3/\((∃n y,i=.store n x y)\/(∃S lo hi,i=.trunc S x lo hi)\/∃S b y,i=.append S b x y):=by
 cases i<;>simp[I.DN]at h
 .subst h;exact⟨rfl,.inl ⟨_,_,rfl⟩⟩
 .subst h;exact⟨rfl,.inr (.inr ⟨_,_,_,rfl⟩)⟩
 .subst h;exact⟨rfl,.inr (.inl ⟨_,_,_,rfl⟩)⟩
theorem SJ{s:St}{n:Nat}{x y:Operand}{d:D}{m1:List Ent}(he:ia s (.store n x y)=some (d,m1)) :
 ∃id e,ld (s.ev x)=some id/\m1=s.m.set id e/\(∃e0,s.m[id]?=some e0)/\
  ∀s':St,(∀t∈(I.store n x y).reads,s'.t.getD t .dead=s.t.getD t .dead)->s'.m[id]?=s.m[id]?->ia s' (.store n x y)=some (d,s'.m.set id e):=by
 simp only[ia]at he;split at he
 .rename_i id Ja ix sub hx;split at he
  .rename_i S ver' l hm;split at he
   .rename_i hc;simp only[xab]at he;obtain⟨d0,h0,he⟩:=he;split at he
    .rename_i hc2;injection he with he;injection he with h1 h2;subst h1;subst h2;refine⟨id,_,by rw[hx];rfl,rfl,⟨_,hm⟩,λs' ht hm'=>?_⟩;have ex:s'.ev x=s.ev x:=wa (λt h=>ht t (by grind[I.reads]));have ey:s'.ev y=s.ev y:=wa (λt h=>ht t (by grind[I.reads]))
     simp_all[ia]
    simp_all
   simp_all
  simp_all
 simp_all
theorem TJ{s:St}{S:Nat}{x:Operand}{lo hi:Option Operand}{d:D}{m1:List Ent}(hb:xe s (.trunc S x lo hi)=true) (he:ia s (.trunc S x lo hi)=some (d,m1)) :
 ∃id e,ld (s.ev x)=some id/\m1=s.m.set id e/\(∃e0,s.m[id]?=some e0)/\
  ∀s':St,(∀t∈(I.trunc S x lo hi).reads,s'.t.getD t .dead=s.t.getD t .dead)->s'.m[id]?=s.m[id]?->ia s' (.trunc S x lo hi)=some (d,s'.m.set id e):=by
 simp only[xe]at hb;split at hb
 .rename_i id Ja hx;simp only[ia,hx]at he;split at he
  .rename_i S' ver' l hm;split at he
   .rename_i a h hlo hhi;split at he
    .rename_i hc;injection he with he;injection he with h1 h2;subst h1;subst h2;refine⟨id,_,by rw[hx];rfl,rfl,⟨_,hm⟩,λs' ht hm'=>?_⟩;have ex:s'.ev x=s.ev x:=wa (λt h=>ht t (by grind[I.reads]));have e1:bound s' 0 lo=bound s 0 lo:=qn (λt h=>ht t (by grind[I.reads]));have e2:bound s' l.length hi=bound s l.length hi:=qn (λt h=>ht t (by grind[I.reads]))
     simp_all[ia]
    simp_all
   simp_all
  simp_all
 simp_all
theorem IC{S:Nat}{m m':List Ent}{d:D}(h:∀id,ld d=some id->m'[id]?=m[id]?):contents S m' d=contents S m d:=by
 cases d with
 |own id v=>simp only[contents];rw[h _ rfl]
 |view id v a b=>simp only[contents];rw[h _ rfl]
 |v x=>simp only[contents];grind
 |_=>rfl
theorem UJ{s:St}{S b:Nat}{x y:Operand}{d:D}{m1:List Ent}(hb:xe s (.append S b x y)=true) (he:ia s (.append S b x y)=some (d,m1)) :
 ∃id e,ld (s.ev x)=some id/\m1=s.m.set id e/\(∃e0,s.m[id]?=some e0)/\
  ∀s':St,(∀t∈(I.append S b x y).reads,s'.t.getD t .dead=s.t.getD t .dead)->s'.m[id]?=s.m[id]?->(∀id',ld (s.ev y)=some id'->s'.m[id']?=s.m[id']?)->ia s' (.append S b x y)=some (d,s'.m.set id e):=by
 simp only[xe]at hb;split at hb
 .rename_i id Ja hx;simp only[ia,hx]at he;split at he
  .rename_i r hr;split at he
   .rename_i S' ver' l hm;split at he
    .rename_i hc;injection he with he;injection he with h1 h2;subst h1;subst h2;refine⟨id,_,by rw[hx];rfl,rfl,⟨_,hm⟩,λs' ht hm' hs=>?_⟩;have ex:s'.ev x=s.ev x:=wa (λt h=>ht t (by grind[I.reads]));have ey:s'.ev y=s.ev y:=wa (λt h=>ht t (by grind[I.reads]));simp only[ia,ex,hx,hm',hm,ey,IC hs,hr]
     simp_all
    simp_all
   simp_all
  simp_all
 simp_all
theorem IF{s:St}{i:I}{x:Operand}{d:D}{m1:List Ent}(ht:i.DN=some x) (hb:xe s i=true) (he:ia s i=some (d,m1)) :
 ∃id e,ld (s.ev x)=some id/\m1=s.m.set id e/\(∃e0,s.m[id]?=some e0)/\
  (∀s':St,(∀t∈i.reads,s'.t.getD t .dead=s.t.getD t .dead)->s'.m[id]?=s.m[id]?->(∀y,i.src=some y->∀id',ld (s.ev y)=some id'->s'.m[id']?=s.m[id']?)->ia s' i=some (d,s'.m.set id e)):=by
 rcases(wC ht).2 with⟨n,y,rfl⟩|⟨S,lo,hi,rfl⟩|⟨S,b,y,rfl⟩
 .grind[SJ]
 .grind[TJ]
 .obtain⟨id,e,h1,h2,h3,h4⟩:=UJ hb he;exact⟨id,e,h1,h2,h3,λs' k1 k2 k3=>h4 s' k1 k2 (k3 y rfl)⟩
theorem KG{s:St}{i:I}{y:Operand}{d:D}{m1:List Ent}(hs:i.src=some y) (he:ia s i=some (d,m1)) {id:Nat}(h:ld (s.ev y)=some id):∃e,s.m[id]?=some e:=by
 obtain⟨S,b,x,rfl⟩:∃S b x,i=.append S b x y:=by cases i<;>simp[I.src]at hs;simp_all
 simp only[ia]at he;split at he
 .rename_i r hr
  cases hy:s.ev y with
  |own a b=>grind[ld,contents]
  |view a b c e=>grind[ld,contents]
  |ref a b c e=>grind[contents]
  |mp a=>grind[contents]
  |_=>rw[hy]at h;simp[ld]at h
 simp_all
theorem EN{i:I}{x:Operand}(ht:i.DN=some x):∀t∈Od x,t∈i.reads:=by
 rcases(wC ht).2 with⟨n,y,rfl⟩|⟨S,lo,hi,rfl⟩|⟨S,b,y,rfl⟩<;>intro t h<;>simp[I.reads,h]
theorem HK{i:I}{x:Operand}(ht:i.DN=some x):i.dW=none:=by
 rcases(wC ht).2 with⟨n,y,rfl⟩|⟨S,lo,hi,rfl⟩|⟨S,b,y,rfl⟩<;>rfl
theorem kB{s s':St}{i:I}{d:D}(hc:i.cls=2) (ht:∀t∈i.reads,s'.t.getD t .dead=s.t.getD t .dead) (hm:s'.m.length=s.m.length) {m1:List Ent}(he:ia s i=some (d,m1)) :
 ∃e,m1=s.m++[e]/\ia s' i=some (d,s'.m++[e]):=by
 cases i with
 |alloc S z=>
  simp only[ia,Laa,Baa]at he⊢
  simp_all
 |box S x=>
  simp only[ia]at he⊢;rw[wa (s:=s) (s':=s') (x:=x) (λt h=>ht t (by grind[I.reads]))]
  simp_all
 |bslice S n z ps=>
  grind[ia,I.reads,zp,haa]
 |mkslice S b z l c=>
  simp only[ia]at he⊢;rw[wa (s:=s) (s':=s') (x:=l) (λt h=>ht t (by grind[I.reads])),wa (s:=s) (s':=s') (x:=c) (λt h=>ht t (by grind[I.reads]))]
  grind
 |mkmap=>
  simp only[ia,Laa,Baa]at he⊢
  simp_all
 |_=>simp[I.cls]at hc
mutual
def pk:D->List Nat
 |.agg l=>ij l
 |.tup l=>ij l
 |.sl _ l=>ij l
 |.pt d=>pk d
 |.fn _ a b=>ij a++ij b
 |.ifc _ d=>pk d
 |.own id _=>[id]
 |.view id _ _ _=>[id]
 |.ref id _ _ _=>[id]
 |.mp id=>[id]
 |.v _=>[]
 |.dead=>[]
def ij:List D->List Nat
 |[]=>[]
 |d::l=>pk d++ij l
end
mutual
theorem RG:∀{d:D},na d=true->pk d=[]
 |.v _,_=>rfl
 |.agg l,h=>by simp only[na]at h;simp only[pk,Ir h]
 |.tup l,h=>by simp only[na]at h;simp only[pk,Ir h]
 |.sl _ l,h=>by simp only[na]at h;simp only[pk,Ir h]
 |.pt d,h=>by simp only[na]at h;simp only[pk,RG h]
 |.fn _ a b,h=>by simp only[na,paa]at h;simp only[pk,Ir h.1,Ir h.2,Kaa]
 |.ifc _ d,h=>by simp only[na]at h;simp only[pk,RG h]
 |.own ..,h=>by grind[na]
 |.view ..,h=>by grind[na]
 |.ref ..,h=>by grind[na]
 |.mp _,h=>by grind[na]
 |.dead,_=>rfl
theorem Ir:∀{l:List D},la l=true->ij l=[]
 |[],_=>rfl
 |d::l,h=>by simp only[la,paa]at h;simp only[ij,RG h.1,Ir h.2,Kaa]
end
def vb(s:St):List Operand->List Nat
 |[]=>[]
 |x::l=>pk (s.ev x)++vb s l
theorem WA{s:St}:∀{l:List Operand},vb s l=ij (l.map s.ev)
 |[]=>rfl
 |x::l=>by simp only[vb,Maa,ij,WA (l:=l)]
mutual
theorem oC{G:Gh}{w:World}{id:Nat}:∀{d:D}{u:Value},VRel G w d u->id∈pk d->id<G.n
 |.v x,u,h,hi=>by grind[pk]
 |.agg l,u,h,hi=>by
  simp only[VRel]at h;simp only[pk]at hi;obtain⟨cs,rfl,h,-⟩:=h;exact Hr h hi
 |.tup l,u,h,hi=>by
  simp only[VRel]at h;simp only[pk]at hi;obtain⟨cs,rfl,h⟩:=h;exact Hr h hi
 |.sl S l,u,h,hi=>by
  simp only[VRel]at h;simp only[pk]at hi;obtain⟨a,n,c,rfl,-,-,h|⟨b,off,rfl,-,h⟩⟩:=h
  .grind[ij]
  .exact NF h hi
 |.pt d,u,h,hi=>by
  simp only[VRel]at h;simp only[pk]at hi;obtain⟨b,off,x,rfl,-,h,-⟩:=h;exact oC h hi
 |.ref a b c e,u,h,hi=>by
  simp only[VRel]at h;grind[pk]
 |.own a b,u,h,hi=>by
  simp only[VRel]at h;grind[pk]
 |.view a b c e,u,h,hi=>by
  simp only[VRel]at h;grind[pk]
 |.fn f a b,u,h,hi=>by
  simp only[VRel]at h;simp only[pk,tab]at hi;obtain⟨fs,cs,rfl,h1,h2⟩:=h;rcases hi with hi|hi
  .exact Hr h1 hi
  .exact Hr h2 hi
 |.mp a,u,h,hi=>by
  simp only[VRel]at h;grind[pk]
 |.ifc t d,u,h,hi=>by
  simp only[VRel]at h;simp only[pk]at hi;obtain⟨x,rfl,h⟩:=h;exact oC h hi
 |.dead,u,h,hi=>by grind[pk]
theorem Hr{G:Gh}{w:World}{id:Nat}:∀{l:List D}{us:List Value},VsRel G w l us->id∈ij l->id<G.n
 |[],us,h,hi=>by grind[ij]
 |d::l,us,h,hi=>by
  simp only[VsRel]at h;simp only[ij,tab]at hi;obtain⟨u,r,rfl,h1,h2⟩:=h;rcases hi with hi|hi
  .exact oC h1 hi
  .exact Hr h2 hi
theorem NF{G:Gh}{w:World}{id b S:Nat}:∀{l:List D}{off:Nat},Qa G w b S l off->id∈ij l->id<G.n
 |[],off,h,hi=>by grind[ij]
 |d::l,off,h,hi=>by
  simp only[Qa]at h;simp only[ij,tab]at hi;obtain⟨⟨u,h1,-⟩,h2⟩:=h;rcases hi with hi|hi
  .exact oC h1 hi
  .exact NF h2 hi
end
def Jq(s:St):List Operand->List Nat
 |[]=>[]
 |x::l=>match ld (s.ev x)with|some id=>id::Jq s l|none=>Jq s l
def Hk(s:St):RI->List Nat
 |.op _ _ i=>
  match i.dW with
  |some x=>Jq s [x]
  |none=>match i.DN with|some x=>Jq s (x::i.src.toList)|none=>[]
 |.call _ _ _ args=>vb s args
theorem HL{s:St}{x:Operand}{l:List Operand}{id:Nat}(h:ld (s.ev x)=some id):id∈Jq s (x::l):=by grind[Jq]
theorem GV{s:St}{x:Operand}{l:List Operand}{id:Nat}(h:id∈Jq s l):id∈Jq s (x::l):=by grind[Jq]
theorem eJ{s:St}{x:Operand}{id:Nat}(h:ld (s.ev x)=some id):id∈Jq s [x]:=by grind[Jq]
abbrev Os:=List (D×List Ent×Option (Nat×Ent))
def os0:D×List Ent×Option (Nat×Ent):=(.dead,[],none)
def DL:RI:=.op none none (.mv (.const undef))
def Pt(P:Program) (r:RI) (s:St) (d:D) (x:List Ent) (w:Option (Nat×Ent)):Prop:=
 match r with
 |.op _ g i=>((gate s g=some none\/∃c,gate s g=some (some (c,c)))/\
  ((w=none/\i.cls<=2/\ia s i=some (d,s.m++x))\/(x=[]/\∃a id e,i.DN=some a/\ld (s.ev a)=some id/\w=some (id,e)/\ia s i=some (d,s.m.set id e)/\id<s.m.length/\xe s i=true)))\/
  ((∃c b,gate s g=some (some (c,b))/\c≠b)/\d=.v undef/\x=[]/\w=none)
 |.call _ g f args=>x=[]/\w=none/\
  ((∃k first caps,s.cv f=.fn k first caps/\(gate s g=some none\/∃c,gate s g=some (some (c,c)))/\(∀id∈vb s args,id<s.m.length)/\∀m,(∀id∈vb s args,m[id]?=s.m[id]?)->CallT P k (first++args.map s.ev++caps) m λd' m'=>d'=d/\m'=m)\/((∃c b,gate s g=some (some (c,b))/\c≠b)/\d=.v undef))
def wr(m:List Ent) (w:Option (Nat×Ent)):List Ent:=match w with|some (id,e)=>m.set id e|none=>m
def lj(s:St) (r:RI) (d:D) (x:List Ent) (w:Option (Nat×Ent)):St:=({ s with m:=wr s.m w++x }:St).put r.dst d
theorem zC(s:St) (r:RI) (d:D) (x:List Ent) (w:Option (Nat×Ent)):lj s r d x w=⟨(match r.dst with|some y=>s.t.set y d|none=>s.t),wr s.m w++x⟩:=by
 grind[lj,St.put]
section
variable {P:Program}
def rM(rl:List RI) (i:Nat):Option Tmp:=(rl.getD i DL).dst
def HX(os:Os) (i:Nat):D:=(os.getD i os0).1
def CE(os:Os) (i:Nat):List Ent:=(os.getD i os0).2.1
def ML(os:Os) (i:Nat):Option (Nat×Ent):=(os.getD i os0).2.2
def Ll(rl:List RI) (os:Os) (s:St) (L:Nat->Bool) (n:Nat):St:=
 ⟨tS (rM rl) (HX os) L s.t n,sS (ML os) L (mS (CE os) L s.m n) n⟩
theorem Pt.lt{r:RI}{s:St}{d:D}{x:List Ent}{w:Option (Nat×Ent)}(h:Pt P r s d x w) {id:Nat}{e:Ent}(hw:w=some (id,e)):id<s.m.length/\x=[]/\id∈Hk s r:=by
 subst hw
 cases r with
 |call dst g f args=>obtain⟨_,h,_⟩:=h;cases h
 |op dst g i=>
  rcases h with⟨_,⟨h,_⟩|⟨hx,a,id',e',ht,h1,h2,h3,h4,_⟩⟩|⟨_,_,_,h⟩
  all_goals grind[Hk,HK,HL]
theorem qK{G:Gh}{w:World}{a:Act}{s:St}(hr:Rel G w a s) {x:Operand}{id:Nat}(h:ld (s.ev x)=some id):id<s.m.length:=by
 have hv:=hr.ev x;have hn:=hr.inv.n;generalize s.ev x=d at *;cases d<;>simp only[ld,reduceCtorEq,Laa]at h
 .subst h;simp only[VRel]at hv;omega
 .subst h;simp only[VRel]at hv;omega
 .subst h;simp only[VRel]at hv;omega
 .subst h;simp only[VRel]at hv;omega
theorem RS{ops:Array Oper}{o:Oper}{r:RI}(hc:Ln P ops o=some r) {sc s:St}{d:D}{x:List Ent}{wt:Option (Nat×Ent)}(hf:Pt P r sc d x wt) (ht:∀t∈r.reads,s.t.getD t .dead=sc.t.getD t .dead)
 (hm:r.cls=2->s.m.length=sc.m.length) (hm1:∀(id:Nat),id∈Hk sc r->(∃e,sc.m[id]?=some e)->id<s.m.length->s.m[id]?=sc.m[id]?)
 {G:Gh} {w:World} {a:Act} (hr:Rel G w a s) {i:Nat} (hi:ops[i]?=some o) {Q:Exit->Act->World->Prop} {K:Act->World->Prop}
 (hK:∀G' w' a',Rel G' w' a' (lj s r d x wt)->Step G w s.m G' w' (wr s.m wt++x)->(∀id e,wt=some (id,e)->id<s.m.length)->K a' w'):wpOp P ops Q i K a w:=by
 have hdst:=Fu hc;unfold wpOp;simp only[hi];unfold Ln at hc;split at hc
 .grind
 .rename_i g hg;obtain⟨hgate1,hgate2⟩:=An hr hg;have hgt:gate s g=gate sc g:=mD (λt h=>ht t (by
   split at hc
   .grind[RI.reads]
   .simp only[haa]at hc;obtain⟨i,-,rfl⟩:=hc
    grind[RI.reads]))
  have won:(gate sc g=some none\/∃c,gate sc g=some (some (c,c)))->Region.wanted o (yielded ops a.tmps)=true:=by
   grind
  have woff:(∃c b,gate sc g=some (some (c,b))/\c≠b)->Region.wanted o (yielded ops a.tmps)=false:=by
   grind
  have skip:d=.v undef->x=[]->wt=none->K (a.put o.dst undef) w:=by
   rintro rfl rfl rfl;refine hK G w _ ?_ (by rw[Kaa];exact Step.refl _ _ _) (λ_ _ h=>by cases h);unfold lj;rw[hdst,Kaa];exact Oz hr o.dst
  split at hc
  .rename_i f args ho;injection hc with hc;subst hc;obtain⟨rfl,rfl,hf⟩:=hf;have hargs:args.map s.ev=args.map sc.ev:=map_congr (λt h=>ht t (by grind[RI.reads]));rcases hf with⟨k,first,caps,hfe,hon,hids,hcall⟩|⟨hoff,hd⟩
   .have hfe':s.cv f=.fn k first caps:=by grind[RI.reads,KC]
    rw[if_pos (won hon)];refine .inl ?_;obtain⟨⟨fn,e1,e2,e3⟩,hcc⟩:=hcall s.m λid hid=>by
     refine hm1 id hid ⟨_,faa (hids id hid)⟩ ?_;rw[WA,←hargs]at hid;rw[←hr.inv.n];exact Hr (Cw hr _) hid
    obtain⟨fs,cs,hrun,hv1,hv2⟩:=Aw hr ho (EO hfe') e1 e2 e3;rw[←hargs]at hcc;have hcalls:=hcc G w (fs++args.map a.eval++cs) ((hv1.append (Cw hr _)).append hv2) hr.inv;unfold Oper.wp;rw[hrun,Oper.upon_enter];refine hcalls.mono ?_;rintro e w' ⟨v,d',m',G',rfl,⟨rfl,rfl⟩,hvd,hi',hs'⟩;refine hK G' w' _ ?_ (by rw[Kaa];exact hs') (λ_ _ h=>by cases h);unfold lj;rw[Kaa];exact(hr.step hs'.le hi').put o.dst hvd
   simp_all
  .rename_i hno;simp only[haa]at hc;obtain⟨j,hj,rfl⟩:=hc;rcases hf with⟨hon,hev⟩|⟨hoff,hd,hx,hw⟩
   .rw[if_pos (won hon)];refine .inl ?_;have htj:∀t∈j.reads,s.t.getD t .dead=sc.t.getD t .dead:=λt h=>ht t (by grind[RI.reads]);have evj:∀y,(∀t∈Od y,t∈j.reads)->s.ev y=sc.ev y:=λy hy=>wa (λt h=>htj t (hy t h));have hev':ia s j=some (d,wr s.m wt++x)/\(∀id e,wt=some (id,e)->id<s.m.length):=by
     simp only[RI.cls]at hm;rcases hev with⟨rfl,hcls,hev⟩|⟨rfl,a1,id,e,htg,htop,rfl,hev,hlt,hsb⟩
     .refine⟨?_,λ_ _ h=>by cases h⟩;simp only[wr];by_cases h2:j.cls=2
      .grind[kB,List.append_cancel_left]
      .have h1:j.cls<=1:=by omega
       obtain⟨hxm,hres⟩:=xn (s:=sc) (s':=s) h1 htj (λy id hy hid=>by
        have hevy:s.ev y=sc.ev y:=evj y (λt h=>by
         cases j<;>simp only[I.dW,reduceCtorEq,Laa]at hy<;>subst hy<;>simp[I.reads,h])
        grind[Hk,eJ,jB,qK]) hev
       simp_all
     .obtain⟨id',e',h1,h2,h3,h4⟩:=IF htg hsb hev;rw[htop]at h1;injection h1 with h1;subst h1;have hlt':id<s.m.length:=qK hr (x:=a1) (by grind[EN]);have hee:e=e':=by
       have:=congrArg (λm=>m[id]?) h2
       grind
      subst hee;refine⟨?_,λid2 e2 h=>by simp_all⟩;rw[Kaa];refine h4 s htj (hm1 id (by grind[Hk,HK,HL]) h3 hlt') λy hy id' hid'=>?_;have hey:s.ev y=sc.ev y:=evj y (by
       cases j<;>simp[I.src]at hy
       grind[I.reads])
      grind[Hk,HK,GV,eJ,qK,KG]
    exact hr.Gr (Xz hj hr hev'.1) λG' w' u hr' hs'=>hK G' w' _ hr' hs' hev'.2
   simp_all
end
def RI.WB(y:RI):Bool:=
 match y with
 |.op _ _ i=>decide (i.cls<=2) || i.DN.isSome
 |.call ..=>true
section
variable {P:Program} {ops:Array Oper} {Q:Exit->Act->World->Prop} {K:St->Prop} {rl:List RI} {q:Nat} {ps:List (List Nat)}
end
def IN:Nat->Nat->Bool
 |0,0=>false
 |0,_+1=>true
 |_+1,0=>true
 |a+1,b+1=>IN a b
theorem SP:∀{a b:Nat},IN a b=true->a≠b
 |0,0,h=>by grind[IN]
 |0,_+1,_=>by omega
 |_+1,0,_=>by omega
 |a+1,b+1,h=>by have:=SP (a:=a) (b:=b) h;omega
def Iv(a:Nat):List Nat->Bool
 |[]=>true
 |b::l=>IN a b&&Iv a l
def Hn:List Nat->List Nat->Bool
 |[],_=>true
 |a::l,r=>Iv a r&&Hn l r
theorem qF{a b:Nat}:∀{l:List Nat},Iv a l=true->b∈l->a≠b
 |[],_,h=>by cases h
 |c::l,h,hm=>by
  simp only[Iv,paa]at h;rcases oab.1 hm with rfl|hm
  .grind[SP]
  .exact qF h.2 hm
theorem rF{a:Nat}:∀{l r:List Nat},Hn l r=true->a∈l->a∉r
 |[],_,_,h=>by cases h
 |c::l,r,h,hm=>by
  simp only[Hn,paa]at h;rcases oab.1 hm with rfl|hm
  .exact λhr=>qF h.1 hr rfl
  .exact rF h.2 hm
def Jy(fp:List (List Nat)) (f:List Nat):List Nat->Bool
 |[]=>true
 |i::l=>Hn (fp.getD i []) f&&Jy fp f l
theorem jC{fp:List (List Nat)}{f:List Nat}{k:Nat}:∀{l:List Nat},Jy fp f l=true->k∈l->Hn (fp.getD k []) f=true
 |[],_,h=>by cases h
 |z::l,h,hm=>by
  simp only[Jy,paa]at h;rcases oab.1 hm with rfl|hm
  .grind
  .exact jC h.2 hm
def zv(P:Program):List (List Nat)->List (List Nat)->Nat->List RI->(St->Prop)->St->Prop
 |_,_,0,l,K,s=>fj P l K s
 |_,_,_+1,[],_,_=>False
 |ps,fp,q+1,.op dst g i::l,K,s=>
  Jy fp (Hk s (.op dst g i)) (ps.headD [])=true/\
  match gate s g with
  |none=>False
  |some none=>∃d m',xe s i=true/\ia s i=some (d,m')/\zv P ps.tail (fp++[Hk s (.op dst g i)]) q l K ({ s with m:=m' }.put dst d)
  |some (some (c,b))=>(c=b->∃d m',xe s i=true/\ia s i=some (d,m')/\zv P ps.tail (fp++[Hk s (.op dst g i)]) q l K ({ s with m:=m' }.put dst d))/\(c≠b->zv P ps.tail (fp++[Hk s (.op dst g i)]) q l K (s.put dst (.v undef)))
 |ps,fp,q+1,.call dst g f args::l,K,s=>
  match s.cv f with
  |.fn k first caps=>
   match gate s g with
   |none=>False
   |some none=>Jy fp (vb s args) (ps.headD [])=true/\∃d,((∀id∈vb s args,id<s.m.length)/\∀m,(∀id∈vb s args,m[id]?=s.m[id]?)->CallT P k (first++args.map s.ev++caps) m λd' m'=>d'=d/\m'=m)/\zv P ps.tail (fp++[vb s args]) q l K (s.put dst d)
   |some (some (c,b))=>Jy fp (vb s args) (ps.headD [])=true/\(c=b->∃d,((∀id∈vb s args,id<s.m.length)/\∀m,(∀id∈vb s args,m[id]?=s.m[id]?)->CallT P k (first++args.map s.ev++caps) m λd' m'=>d'=d/\m'=m)/\zv P ps.tail (fp++[vb s args]) q l K (s.put dst d))/\(c≠b->zv P ps.tail (fp++[vb s args]) q l K (s.put dst (.v undef)))
  |_=>False
section
variable {P:Program} {K:St->Prop}
end
section
variable {P:Program} {N:Nat} {ops:Array Oper} {Q:Exit->Act->World->Prop} {K:St->Prop} {rl:List RI} {q:Nat} {ps:List (List Nat)}
end
open Go.RowKit (Below)
theorem vA{G:Gh}{w:World}{m:List Ent}(hi:Inv G w m) {p S Ja:Nat}(hm:m[p]?=some (.live S Ja [])) (l:List D) (C:Nat) (cs:Array Value) (T:TypeId)
 (hr:Ze G w S l cs) (hC:l.length<=C) (hcs:C*S<=cs.size) :
 Inv (G.oe p (some w.heap.size) (Ja+1) l.length (C,0)) (w.alloc (.cells cs T)) (m.set p (.live S (Ja+1) l))/\
  Step G w m (G.oe p (some w.heap.size) (Ja+1) l.length (C,0)) (w.alloc (.cells cs T)) (m.set p (.live S (Ja+1) l)):=by
 have hkeep:∀k,k<w.heap.size->(w.alloc (.cells cs T)).heap[k]?=w.heap[k]?:=λk hk=>Below.heap_alloc _ _ _ hk;obtain⟨hV,hS,-⟩:=hi.ent p _ hm;refine He hi hm rfl rfl _ _ _ _ (.inl (by omega)) rfl rfl rfl (by simp) (λk hk _=>hkeep k hk) (λk h=>by simp_all) ?_;have hle:Le G w (G.oe p (some w.heap.size) (Ja+1) l.length (C,0)) (w.alloc (.cells cs T)):=by
  refine⟨λ_ h=>h,λk hk=>hkeep k (hi.F k hk),saa _,λi _=>?_⟩
  grind[Gh.oe]
 have hblk:(w.alloc (.cells cs T)).heap[w.heap.size]?=some (.cells cs T (0,0)):=by
  show(w.heap.push (.cells cs T))[w.heap.size]?=_;simp
 refine⟨by simp[Gh.oe],by grind[Gh.oe],by simp[Gh.oe],by grind[Gh.oe],.inr ⟨w.heap.size,cs,T,by simp[Gh.oe],λh=>?_,hblk,by grind[Gh.oe],by simpa [Gh.oe] using cj hblk (hr.mono hle)⟩⟩;have:=hi.F _ h;omega
def Xk(s:St) (p:Nat):I->Option (D×Ent)
 |.alloc S z=>match s.m[p]? with
  |some (.live S' Ja [])=>if S'=S then some (.ref p (Ja+1) 0 0,.live S (Ja+1) [z])else none
  |_=>none
 |.box S x=>match s.m[p]? with
  |some (.live S' Ja [])=>if S'=S/\(s.ev x).ok=true/\(s.ev x).cells.length=S then some (.ref p (Ja+1) 0 0,.live S (Ja+1) [s.ev x])else none
  |_=>none
 |.bslice S n z ps=>match s.m[p]? with
  |some (.live S' Ja [])=>if S'=S then(Yb s S ps (jaa n z)).map λl=>(.own p (Ja+1),.live S (Ja+1) l)else none
  |_=>none
 |_=>none
section
variable {P:Program} {G:Gh} {w:World} {a:Act} {s:St} {d:D} {e:Ent} {p:Nat}
theorem PI{w':World}{C Ja b N:Nat}(hp:p<G.n):VRel (G.oe p (some b) (Ja+1) N (C,0)) w' (.ref p (Ja+1) 0 0) (.pointer (some ⟨b,0,none⟩)):=by
 simp only[VRel];exact⟨_,rfl,by grind[Gh.oe],by simp[Gh.oe],λ_=>⟨b,by simp[Gh.oe],by simp[Gh.oe]⟩⟩
theorem lQ{w':World}{C Ja b N:Nat}(hp:p<G.n):VRel (G.oe p (some b) (Ja+1) N (C,0)) w' (.own p (Ja+1)) (.slice (some ⟨b,0,none⟩) N C):=by
 simp only[VRel];exact⟨_,_,_,rfl,by grind[Gh.oe],by simp[Gh.oe],λ_=>⟨by simp[Gh.oe],by simp[Gh.oe],by simp[Gh.oe]⟩⟩
theorem PS(hr:Rel G w a s) {t:TypeId}{z:Value}{o:Oper}(ho:o.op=.alloc t) (hz:zeroOf P t=some z) (he:Xk s p (.alloc z.cells.size (leaf z))=some (d,e)) :
 Good G w s.m ((execOp a.eval o).run P w) d (s.m.set p e):=by
 simp only[Xk]at he;split at he
 .rename_i S' Ja hm;split at he
  .rename_i hS;subst hS;injection he with he;injection he with h1 h2;subst h1;subst h2;obtain⟨hz1,hz2,hz3,-⟩:=ck hz w;obtain⟨g1,g2⟩:=vA hr.inv hm [leaf z] 1 z.cells t (Nw (ju z hz2) rfl (mG hz2)) (by simp) (by simp);refine⟨_,_,_,?_,.inl ⟨_,rfl,PI (C:=1) (N:=1) (by rw[hr.inv.n];grind)⟩,g1,g2⟩
   simp_all[execOp,Instr.alloc,newVar,newRow]
  simp_all
 simp_all
theorem X2(hr:Rel G w a s) {t:TypeId}{x:Operand}{S:Nat}{o:Oper}(ho:o.op=.box t x) (he:Xk s p (.box S x)=some (d,e)) :
 Good G w s.m ((execOp a.eval o).run P w) d (s.m.set p e):=by
 simp only[Xk]at he;split at he
 .rename_i S' Ja hm;split at he
  .rename_i hc;obtain⟨rfl,hok,hlen⟩:=hc;injection he with he;injection he with h1 h2;subst h1;subst h2;have hx:=hr.ev x;obtain⟨hv,h1⟩:=hx.cells hok;have hsz:(a.eval x).cells.size=S':=by rw[←Kab,hv.length];omega
   obtain⟨g1,g2⟩:=vA hr.inv hm [s.ev x] 1 (a.eval x).cells t (Nw hx hsz (λj c hj=>h1 c (by grind))) (by simp) (by omega);refine⟨_,_,_,?_,.inl ⟨_,rfl,PI (C:=1) (N:=1) (by rw[hr.inv.n];grind)⟩,g1,g2⟩
   simp_all[execOp,Instr.box,newVar,newRow]
  simp_all
 simp_all
theorem jP(hr:Rel G w a s) {t e':TypeId}{n:Nat}{ps:Array (Nat×Operand)}{z:Value}{o:Oper}(ho:o.op=.buildSlice t n ps)
 (ht:P.underlying t=some (.slice e')) (hz:zeroOf P e'=some z) (hsmall:n*z.cells.size<=2 ^ 24) (he:Xk s p (.bslice z.cells.size n (leaf z) ps.toList)=some (d,e)) :
 Good G w s.m ((execOp a.eval o).run P w) d (s.m.set p e):=by
 simp only[Xk]at he;split at he
 .rename_i S' Ja hm;split at he
  .rename_i hS;subst hS;simp only[haa,Baa]at he;obtain⟨l,hb,rfl,rfl⟩:=he;obtain⟨hz1,hz2,hz3,i,hi,hsz,hzz⟩:=ck hz w;obtain⟨cells,hf,hrow,hcs,hlen⟩:=OG hr hb (nq hz2 n) (by simp);simp only[List.length_replicate]at hlen;obtain⟨g1,g2⟩:=vA hr.inv hm l n cells e' hrow (by omega) (by simp_all);refine⟨_,_,_,?_,.inl ⟨_,rfl,lQ (N:=l.length) (C:=n) (by rw[hr.inv.n];grind)⟩,g1,g2⟩;unfold execOp;simp only[ho];have hnb:¬(2 ^ 24<n*i.size):=by simp_all
   by_cases h0:n*i.size=0
   .have hn0:n=0:=by
     grind[Nat.mul_eq_zero]
    subst hn0;rw[hsz.symm]at hf;rw[Nat.zero_mul,show Tac 0 = #[]from rfl,Array.map_empty]at hf;have hf':Instr.fill (λk=>some (k*i.size,i.size)) #[] (ps.toList.map λp=>(p.1,a.eval p.2))=some cells:=hf;have hr0:∀f:Nat->Value,Array.map f (Tac 0) = #[]:=λf=>by simp
    simp[Instr.buildSlice,run_underlying ht,Pc hi,hr0,hf',newRow,hlen]
   .rw[hsz.symm]at hf;simp[Instr.buildSlice,run_underlying ht,Pc hi,hnb,h0,hz1,hf,newRow,hlen,hsz.symm]
  simp_all
 simp_all
theorem DK{ops:Array Oper}{o:Oper}{i:I}(hc:xr P ops o o.op=some i) (hr:Rel G w a s) (he:Xk s p i=some (d,e)):Good G w s.m ((execOp a.eval o).run P w) d (s.m.set p e):=by
 cases i with
 |alloc S z=>
  obtain⟨t,z',ho,hz,rfl,rfl⟩:∃t z',o.op=.alloc t/\zeroOf P t=some z'/\z'.cells.size=S/\leaf z'=z:=by
   unfold xr at hc;split at hc
   .grind[fA,haa]
   .unfold zF at hc
    repeat' split at hc
    all_goals first
     |cases hc
     |(
      simp only[haa]at hc;obtain⟨z',hz,h⟩:=hc
      first|cases h|skip)
    simp_all
  grind[PS]
 |box S x=>
  obtain⟨t,ho⟩:∃t,o.op=.box t x:=by
   unfold xr at hc;split at hc
   .grind[fA,haa]
   .unfold zF at hc
    grind[haa]
  grind[X2]
 |bslice S n z ps=>
  obtain⟨t,e',ps',z',ho,ht,hz,hsmall,rfl,rfl,rfl⟩:∃t e' ps' z',o.op=.buildSlice t n ps'/\P.underlying t=some (.slice e')/\zeroOf P e'=some z'/\n*z'.cells.size<=2 ^ 24/\z'.cells.size=S/\leaf z'=z/\ps'.toList=ps:=by
   unfold xr at hc;split at hc
   .grind[fA,haa]
   .unfold zF at hc
    repeat' split at hc
    all_goals first
     |(cases hc;exact⟨_,_,_,_,by omega,by omega,by omega,by omega,rfl,rfl,rfl⟩)
     |cases hc
     |(
      simp only[haa]at hc;obtain⟨z',hz,h⟩:=hc;cases h)
  grind[jP]
 |_=>simp[Xk]at he
end
theorem mI{s s':St}{p:Nat}{i:I}(ht:∀t∈i.reads,s'.t.getD t .dead=s.t.getD t .dead) (hm:s'.m[p]?=s.m[p]?):Xk s' p i=Xk s p i:=by
 cases i with
 |alloc S z=>grind[Xk]
 |box S x=>
  grind[I.reads,Xk,wa]
 |bslice S n z ps=>
  grind[I.reads,Xk,zp]
 |_=>rfl
theorem lI{s:St}{p:Nat}{i:I}{d:D}{e:Ent}(h:Xk s p i=some (d,e)):p<s.m.length:=by
 rcases zab p s.m.length with h1|h1
 .omega
 .have hn:=List.getElem?_eq_none h1;cases i<;>simp[Xk,hn]at h
def xw:Option Nat->St->RI->List Nat
 |some p,_,.op ..=>[p]
 |some _,s,.call _ _ _ args=>vb s args
 |none,s,r=>Hk s r
def Mk(P:Program) (o:Option Nat) (r:RI) (s:St) (d:D) (x:List Ent) (w:Option (Nat×Ent)):Prop:=
 match o with
 |none=>Pt P r s d x w
 |some p=>(∃dst i e,r=.op dst none i/\x=[]/\w=some (p,e)/\Xk s p i=some (d,e))\/
  (∃dst f args k first caps e,r=.call dst none f args/\x=[]/\w=some (p,e)/\s.cv f=.fn k first caps/\p∈vb s args/\(∀id∈vb s args,id<s.m.length)/\
   ∀m,(∀id∈vb s args,m[id]?=s.m[id]?)->CallT P k (first++args.map s.ev++caps) m λd' m'=>d'=d/\m'=m.set p e)
def pO(pl:List (Option Nat)) (i:Nat):Option Nat:=pl.getD i none
theorem uL{pl:List (Option Nat)}{k:Nat}:(pl.drop k).headD none=pO pl k:=by
 simp_all[pO]
theorem tail_drop{pl:List (Option Nat)}{k:Nat}:(pl.drop k).tail=pl.drop (k+1):=by simp
theorem xW{xx:Nat->List Ent}{L:Nat->Bool}(m:List Ent):∀n,m.length<=(mS xx L m n).length
 |0=>saa _
 |n+1=>by
  have:=xW (xx:=xx) (L:=L) m n
  grind[mS]
def Gv(P:Program):List (Option Nat)->List RI->St->Os->List (List Nat)->St->Prop
 |_,[],s,os,rs,s'=>os=[]/\rs=[]/\s'=s
 |pl,r::l,s,os,rs,s'=>∃d x w os' rs',os=(d,x,w)::os'/\rs=xw (pl.headD none) s r::rs'/\Mk P (pl.headD none) r s d x w/\Gv P pl.tail l (lj s r d x w) os' rs' s'
section
variable {P:Program}
theorem Gv.length:∀{l:List RI}{pl:List (Option Nat)}{s s':St}{os:Os}{rs:List (List Nat)},Gv P pl l s os rs s'->os.length=l.length
 |[],pl,s,s',os,rs,h=>by simp[h.1]
 |r::l,pl,s,s',os,rs,h=>by
  obtain⟨d,x,w,os',rs',rfl,rfl,_,h⟩:=h;simp[Gv.length h]
theorem Mk.lt{o:Option Nat}{r:RI}{s:St}{d:D}{x:List Ent}{w:Option (Nat×Ent)}(h:Mk P o r s d x w) {id:Nat}{e:Ent}(hw:w=some (id,e)):id<s.m.length/\x=[]/\id∈xw o s r:=by
 cases o with
 |none=>exact Pt.lt h hw
 |some p=>
  rcases h with⟨dst,i,e',rfl,hx,hw',hf⟩|⟨dst,f,args,k,first,caps,e',rfl,hx,hw',hf,hp,hl,_⟩
  .rw[hw']at hw;injection hw with hw;injection hw with h1 h2;subst h1;exact⟨lI hf,hx,by simp[xw]⟩
  .rw[hw']at hw;injection hw with hw;injection hw with h1 h2;subst h1;exact⟨hl _ hp,hx,hp⟩
theorem Gv.get{pl:List (Option Nat)}{rl:List RI}{os:Os}{s0:St}:∀{l:List RI}{k:Nat}{s':St}{os':Os}{rs:List (List Nat)},l=(rl.drop k).take l.length->os'=(os.drop k).take os'.length->
 (∀j,j<k->∀id e,ML os j=some (id,e)->id<(mS (CE os) (λ_=>true) s0.m k).length)->Gv P (pl.drop k) l (Ll rl os s0 (λ_=>true) k) os' rs s'->
 (∀i,i<l.length->Mk P (pO pl (k+i)) (rl.getD (k+i) DL) (Ll rl os s0 (λ_=>true) (k+i)) (HX os (k+i)) (CE os (k+i)) (ML os (k+i))/\rs.getD i []=xw (pO pl (k+i)) (Ll rl os s0 (λ_=>true) (k+i)) (rl.getD (k+i) DL))/\s'=Ll rl os s0 (λ_=>true) (k+l.length)
 |[],k,s',os',rs,_,_,_,h=>⟨λi hi=>by grind,by simpa using h.2.2⟩
 |r::l,k,s',os',rs,h1,h2,hv,h=>by
  obtain⟨d,x,w,os'',rs',rfl,rfl,hs,h⟩:=h;rw[uL]at hs;rw[tail_drop]at h;have hr:rl[k]?=some r:=by
   have:=congrArg (λl=>l[0]?) h1
   grind
  have ho:os[k]?=some (d,x,w):=by
   have:=congrArg (λl=>l[0]?) h2
   grind
  have hr':rl.getD k DL=r:=by simp_all
  have ho':os.getD k os0=(d,x,w):=by simp_all
  have hd:HX os k=d:=by grind[HX]
  have hx:CE os k=x:=by grind[CE]
  have hw:ML os k=w:=by grind[ML]
  have hds:rM rl k=r.dst:=by grind[rM]
  have hm1:mS (CE os) (λ_=>true) s0.m (k+1)=mS (CE os) (λ_=>true) s0.m k++x:=by grind[mS]
  have hnext:lj (Ll rl os s0 (λ_=>true) k) r d x w=Ll rl os s0 (λ_=>true) (k+1):=by
   rw[zC];simp only[Ll,tS,if_true,St.mk.injEq];refine⟨by grind,?_⟩;rw[hm1];simp only[sS,if_true,hw];rw[xK _ _ _ λj hj _ id e he=>hv j hj id e he]
   cases w with
   |none=>rfl
   |some p=>
    obtain⟨id,e⟩:=p;obtain⟨_,hx0,_⟩:=hs.lt rfl
    grind[wr]
  have hv':∀j,j<k+1->∀id e,ML os j=some (id,e)->id<(mS (CE os) (λ_=>true) s0.m (k+1)).length:=by
   intro j hj id e he;rw[hm1,Oaa];by_cases hjk:j=k
   .subst hjk;rw[hw]at he;have:=(hs.lt he).1
    grind[Ll,om]
   .have:=hv j (by omega) id e he;omega
  rw[hnext]at h;have t1:l=(rl.drop (k+1)).take l.length:=by
   grind[Taa]
  have t2:os''=(os.drop (k+1)).take os''.length:=by
   grind[Taa]
  obtain⟨g1,g2⟩:=Gv.get t1 t2 hv' h;refine⟨λi hi=>?_,by grind⟩
  cases i with
  |zero=>simp only[Nat.add_zero,hr',hd,hx,hw];grind[uL]
  |succ i=>
   have:=g1 i (by grind)
   grind
theorem SS{ops:Array Oper}{o:Oper}{r:RI}(hc:Ln P ops o=some r) {sc s:St}{d:D}{x:List Ent}{wt:Option (Nat×Ent)}{po:Option Nat}(hf:Mk P po r sc d x wt) (ht:∀t∈r.reads,s.t.getD t .dead=sc.t.getD t .dead)
 (hm:po=none->r.cls=2->s.m.length=sc.m.length) (hm1:∀(id:Nat),id∈xw po sc r->(∃e,sc.m[id]?=some e)->id<s.m.length->s.m[id]?=sc.m[id]?) (hlen:∀p,po=some p->p<s.m.length)
 {G:Gh} {w:World} {a:Act} (hr:Rel G w a s) {i:Nat} (hi:ops[i]?=some o) {Q:Exit->Act->World->Prop} {K:Act->World->Prop}
 (hK:∀G' w' a',Rel G' w' a' (lj s r d x wt)->Step G w s.m G' w' (wr s.m wt++x)->(∀id e,wt=some (id,e)->id<s.m.length)->K a' w'):wpOp P ops Q i K a w:=by
 cases po with
 |none=>exact RS hc hf ht (hm rfl) hm1 hr hi hK
 |some p=>
  rcases hf with⟨dst,j,e,rfl,rfl,rfl,hfill⟩|⟨dst,f,args,k,first,caps,e,rfl,rfl,rfl,hfe,hpt,hids,hcall⟩
  rotate_left
  .have hdst:=Fu hc;have hp:=hlen p rfl;unfold wpOp;simp only[hi];unfold Ln at hc;split at hc
   .grind
   .rename_i g hg;split at hc
    .rename_i f' args' ho;injection hc with hc;injection hc with h1 h2 h3 h4;subst h2;subst h3;subst h4;obtain⟨hgate1,hgate2⟩:=An hr hg;rw[if_pos (hgate1 rfl o rfl)];refine .inl ?_;have hfe':s.cv f'=.fn k first caps:=by grind[RI.reads,KC]
     have hargs:args'.map s.ev=args'.map sc.ev:=map_congr (λt h=>ht t (by grind[RI.reads]));obtain⟨⟨fn,e1,e2,e3⟩,hcc⟩:=hcall s.m λid hid=>by
      refine hm1 id hid ⟨_,faa (hids id hid)⟩ ?_;rw[WA,←hargs]at hid;rw[←hr.inv.n];exact Hr (Cw hr _) hid
     obtain⟨fs,cs,hrun,hv1,hv2⟩:=Aw hr ho (EO hfe') e1 e2 e3;rw[←hargs]at hcc;have hcalls:=hcc G w (fs++args'.map a.eval++cs) ((hv1.append (Cw hr _)).append hv2) hr.inv;unfold Oper.wp;rw[hrun,Oper.upon_enter];refine hcalls.mono ?_;rintro e0 w' ⟨v,d',m',G',rfl,⟨rfl,rfl⟩,hvd,hi',hs'⟩;refine hK G' w' _ ?_ (by grind[wr]) (λid e' h=>by simp_all);unfold lj;rw[Kaa];rw[hdst];exact(hr.step hs'.le hi').put o.dst hvd
    simp_all
  have hdst:=Fu hc;have hp:=hlen p rfl;have hat:=lI hfill;have hfill':Xk s p j=some (d,e):=by
   grind[RI.reads,xw,mI]
  unfold wpOp;simp only[hi];unfold Ln at hc;split at hc
  .grind
  .rename_i g hg;split at hc
   .simp_all
   .rename_i hno;simp only[haa]at hc;obtain⟨j',hj,h⟩:=hc;injection h with h1 h2 h3;subst h2;subst h3;obtain⟨hgate1,hgate2⟩:=An hr hg;rw[if_pos (hgate1 rfl o rfl)];refine .inl ?_;exact hr.Gr (DK hj hr hfill') λG' w' u hr' hs'=>hK G' w' _ (by grind[lj,wr]) (by grind[wr]) (λid e' h=>by simp_all)
end
def wB(o:Option Nat):RI->Bool
 |.op _ _ i=>o.isSome || i.DN.isSome
 |.call ..=>o.isSome
def lB(o:Option Nat):RI->Bool
 |.op _ _ i=>o.isSome || i.DN.isSome || i.dW.isSome
 |.call ..=>true
def Wt(o o':Option Nat) (x y:RI):Bool:=(wB o x&&lB o' y) || (wB o' y&&lB o x)
def Et(o o':Option Nat) (x y:RI):Bool:=
 (
  match x.dst with
  |some t=>y.reads.contains t || y.dst==some t
  |none=>false) ||
 (
  match y.dst with
  |some t=>x.reads.contains t
  |none=>false) ||
 (o.isNone&&o'.isNone&&x.cls==2&&y.cls==2)
def Rs(bs:List (List Nat)) (rl:List RI) (q:Nat) (ps:List (List Nat)) (pl:List (Option Nat)):Bool:=
 let ms:=uv bs
 (yaa q).all λj=>match rl[j]? with
  |none=>false
  |some y=>((pO pl j).isSome || y.WB)&&(yaa j).all λi=>match rl[i]? with
   |none=>false
   |some x=>(ms.getD j 0).testBit i || (!Et (pO pl i) (pO pl j) x y&&(!Wt (pO pl i) (pO pl j) x y || (ps.getD j []).contains i))
structure DrawFactsO (bs:List (List Nat)) (rl:List RI) (q:Nat) (ps:List (List Nat)) (pl:List (Option Nat)):Prop extends TailFacts bs rl q where
 WB:∀(j:Nat) y,j<q->rl[j]?=some y->((pO pl j).isSome || y.WB)=true
 apart:∀(i j:Nat) x y,i<j->j<q->rl[i]?=some x->rl[j]?=some y->Et (pO pl i) (pO pl j) x y=true->((uv bs).getD j 0).testBit i=true
 pairs:∀(i j:Nat) x y,i<j->j<q->rl[i]?=some x->rl[j]?=some y->Wt (pO pl i) (pO pl j) x y=true->((uv bs).getD j 0).testBit i=true\/i∈ps.getD j []
theorem JE{bs:List (List Nat)}{rl:List RI}{q:Nat}{ps:List (List Nat)}{pl:List (Option Nat)}(ht:TailFacts bs rl q) (h:Rs bs rl q ps pl=true):DrawFactsO bs rl q ps pl:=by
 unfold Rs at h;simp only[Uaa,iad]at h;refine⟨ht,?_,?_,?_⟩
 all_goals grind
section
variable {P:Program} {ops:Array Oper} {Q:Exit->Act->World->Prop} {K:St->Prop} {rl:List RI} {q:Nat} {ps:List (List Nat)} {pl:List (Option Nat)}
theorem VF{o o':Option Nat}{s:St}{x y:RI}{id:Nat}(hx:id∈xw o s x) (hy:wB o' y=true):Wt o o' x y=true:=by
 have h:lB o x=true:=by
  cases o with
  |some p=>cases x<;>simp[lB]
  |none=>
   cases x with
   |call=>rfl
   |op d g i=>
    grind[xw,Hk,lB]
 grind[Wt]
theorem BJ{o o':Option Nat}{x y:RI}:Wt o o' x y=Wt o' o y x:=by grind[Wt]
theorem Mk.wB{o:Option Nat}{r:RI}{s:St}{d:D}{x:List Ent}{p:Nat×Ent}(h:Mk P o r s d x (some p)):Go.Tm.wB o r=true:=by
 cases o with
 |some p=>cases r<;>rfl
 |none=>
  cases r with
  |call=>obtain⟨_,h,_⟩:=h;cases h
  |op d g i=>
   rcases h with⟨_,⟨h,_⟩|⟨_,a,_,_,h,_⟩⟩|⟨_,_,_,h⟩
   all_goals grind[Go.Tm.wB]
theorem EJ(hc:nh P ops ops.toList=some rl) (hf:DrawFactsO (mb ops) rl q ps pl) {os:Os}{s0:St}
 (hflo:∀i,i<q->Mk P (pO pl i) (rl.getD i DL) (Ll rl os s0 (λ_=>true) i) (HX os i) (CE os i) (ML os i))
 (hpl:∀i p,pO pl i=some p->p<s0.m.length)
 (hmake:∀i,i<q->CE os i≠[]->(rl.getD i DL).cls=2/\pO pl i=none)
 (hap:∀i j,i<j->j<q->i∈ps.getD j []->∀id,id∈xw (pO pl i) (Ll rl os s0 (λ_=>true) i) (rl.getD i DL)->id∉xw (pO pl j) (Ll rl os s0 (λ_=>true) j) (rl.getD j DL))
 (hT:fj P (rl.drop q) K (Ll rl os s0 (λ_=>true) q)) :
 ∀(fuel:Nat) (listed:Array Bool) (G:Gh) (w:World) (a:Act),((yaa ops.size).filter λj=>!Jc listed j).length<=fuel->listed.size=ops.size->Closed (mb ops) (Jc listed)->
  (∀j,q<=j->Jc listed j=false)->Rel G w a (Ll rl os s0 (Jc listed) q)->(∀j,j<q->Jc listed j=true->∀id e,ML os j=some (id,e)->id<(mS (CE os) (Jc listed) s0.m q).length)->
  (∀s' G' w' a',K s'->Rel G' w' a' s'->Step G w (Ll rl os s0 (Jc listed) q).m G' w' s'.m->Q .normal a' w')->wpAny P .any ops Q fuel listed a w:=by
 obtain⟨hlen,hget⟩:=Ps hc;simp only[Kab]at hlen;have hq:=hf.hq;have hcongr:∀{L L':Nat->Bool},(∀j,j<q->L j=L' j)->Ll rl os s0 L q=Ll rl os s0 L' q:=by
  intro L L' h;have hs:∀(m:List Ent) n,n<=q->sS (ML os) L m n=sS (ML os) L' m n:=by
   intro m n
   induction n with
   |zero=>intro _;rfl
   |succ n ih=>grind[sS]
  simp only[Ll,St.mk.injEq];exact⟨sE _ _ λj hj=>h j hj,by rw[DD _ _ λj hj=>h j hj,hs _ _ (saa _)]⟩
 intro fuel
 induction fuel with
 |zero=>
  intro listed G w a hcard hsz hcl htail hrel hV hQ;have hall:∀i,i<ops.size->Jc listed i=true:=by
   simp_all
  have hqn:q=ops.size:=by
   rcases zab q ops.size with h|h
   all_goals grind
  have hst:Ll rl os s0 (Jc listed) q=Ll rl os s0 (λ_=>true) q:=hcongr λj hj=>hall j (by omega);refine Gw hc hf.toTailFacts 0 q 0 listed _ G w a (by omega) (saa _) (saa _) (by omega) hsz (λi=>?_) hT (by simp_all) (by grind)
  grind
 |succ fuel ih=>
  intro listed G w a hcard hsz hcl htail hrel hV hQ;by_cases hdone:∀j,j<q->Jc listed j=true
  .have hst:Ll rl os s0 (Jc listed) q=Ll rl os s0 (λ_=>true) q:=hcongr λj hj=>hdone j hj;have hL:∀i,Jc listed i=decide (i<q):=λi=>by
    grind
   have hcnt:=count_tail q ops.size;simp only[hL]at hcard;exact Gw hc hf.toTailFacts (ops.size-q) q (fuel+1) listed _ G w a rfl (by omega) (saa _) (by omega) hsz hL hT (by simp_all) (by grind)
  .refine⟨λhno=>(hdone λj hj=>dw hf.toTailFacts hsz hno j (by omega)).elim,λi hi=>?_⟩;obtain⟨h1,h2,h3,h4,h5⟩:=bt hf.toTailFacts hsz hcl hi;have hiq:i<q:=by
    rcases zab i q with h|h
    .exact h
    .exact(hdone λj hj=>h3 j (by omega) (hf.tail j i (by omega) h (by omega))).elim
   have hgd:∀j,j<q->rl[j]?=some (rl.getD j DL):=λj hj=>getD_some (by omega) _;obtain⟨r,hr,hco⟩:=hget i ops[i] (by simp);have hrr:rl.getD i DL=r:=by grind
   have early:∀j x,j<i->rl[j]?=some x->Et (pO pl j) (pO pl i) x r=true->Jc listed j=true:=λj x hj hx hcl'=>h3 j (by omega) (hf.apart j i x r hj hiq hx hr hcl');have late:∀j y,i<j->j<q->rl[j]?=some y->Et (pO pl i) (pO pl j) r y=true->Jc listed j=false:=by
    intro j y hj hjq hy hcl';rcases hb:Jc listed j with _|_
    .rfl
    .have:=kr hcl hb (hf.apart i j r y hj hjq hr hy hcl')
     grind
   have hF:=hflo i hiq;rw[hrr]at hF;have hclash2:∀(k l:Nat) (x y:RI),(x.cls=2/\pO pl k=none)->(y.cls=2/\pO pl l=none)->Et (pO pl k) (pO pl l) x y=true:=λk l x y hx hy=>by grind[Et]
   have ordered:∀j,j<q->∀id e,ML os j=some (id,e)->id∈xw (pO pl i) (Ll rl os s0 (λ_=>true) i) r->(Jc listed j=true↔j<i):=by
    intro j hj id e hw hrid;have hFj:=hflo j hj;have hlt:=hFj.lt hw;have hst:Go.Tm.wB (pO pl j) (rl.getD j DL)=true:=by rw[hw]at hFj;exact hFj.wB
    rcases Nat.lt_trichotomy j i with hji|hji|hji
    .refine⟨λ_=>hji,λ_=>?_⟩;have hcf:Wt (pO pl j) (pO pl i) (rl.getD j DL) r=true:=by grind[BJ,VF]
     rcases hf.pairs j i _ r hji hiq (hgd j hj) hr hcf with h|h
     all_goals grind
    .grind
    .refine⟨λhL=>?_,λh=>by omega⟩;have hcf:Wt (pO pl i) (pO pl j) r (rl.getD j DL)=true:=VF hrid hst;rcases hf.pairs i j r _ hji hj hr (hgd j hj) hcf with h|h
     all_goals grind[kr]
   refine SS hco hF (s:=Ll rl os s0 (Jc listed) q) ?_ ?_ ?_ ?_ hrel (eab h1) ?_
   .intro y hy;refine cJ s0.t (by omega) λj hj hd=>?_;have hxj:=hgd j hj
    grind[rM,Et]
   .intro hpo hcls;simp only[Ll,om];refine congrArg List.length (FI s0.m (Nat.le_of_lt hiq) λj hj hx=>?_)
    grind
   .rintro id hrid ⟨e,he⟩ hid;obtain⟨k,hk,hmk'⟩:=FA (xx:=CE os) (L:=Jc listed) s0.m q λi1 j1 hij hj hx1 hx2 hL1=>
     kr hcl hL1 (hf.apart i1 j1 _ _ hij hj (hgd i1 (by omega)) (hgd j1 hj) (hclash2 _ _ _ _ (hmake i1 (by omega) hx1) (hmake j1 hj hx2)))
    simp only[Ll,om]at he hid⊢;have hlt:id<(mS (CE os) (λ_=>true) s0.m i).length:=by
     grind[om]
    rw[lE _ _ _ hid,lE _ _ _ hlt,eK (by omega) λj hj e hw=>ordered j hj id e hw hrid];have hbase:(mS (CE os) (Jc listed) s0.m q)[id]?=(mS (CE os) (λ_=>true) s0.m i)[id]?:=by
     rw[hmk']at hid⊢;rcases Uad i k with h|h
     .obtain⟨rr,hrr'⟩:=rC (xx:=CE os) s0.m h
      grind
     .obtain⟨rr,hrr'⟩:=rC (xx:=CE os) s0.m h
      grind
    grind
   .grind[Ll,om,xW]
   .intro G' w' a' hrel' hs' hlt;have hmstep:mS (CE os) (Jc (listed.setIfInBounds i true)) s0.m q=mS (CE os) (Jc listed) s0.m q++CE os i:=by
     refine nL s0.m h2 h5 hiq ?_
     grind
    have hst:lj (Ll rl os s0 (Jc listed) q) r (HX os i) (CE os i) (ML os i)=Ll rl os s0 (Jc (listed.setIfInBounds i true)) q:=by
     rw[zC];simp only[Ll,St.mk.injEq];constructor
     .rw[GL s0.t h2 h5 hiq ?_]
      all_goals grind[rM,Et]
     .rw[hmstep,RU _ h2 h5 hiq ?_]
      .rw[xK _ _ _ λj hj hL id e he=>hV j hj hL id e he]
       cases hw:ML os i with
       |none=>rfl
       |some p=>
        obtain⟨id,e⟩:=p;have:=(hF.lt hw).2.1
        grind[wr]
      .intro j hij hjq hL id e e' hwi hwj;have:=(ordered j hjq id e' hwj (hF.lt hwi).2.2).1 hL;omega
    rw[hst]at hrel';refine ih (listed.setIfInBounds i true) G' w' a' ?_ (by grind) h4 ?_ hrel' ?_ ?_
    .have:=filter_lt h2 h5 (l:=yaa ops.size) (by grind);omega
    .grind
    .intro j hj hL id e he;rw[hmstep,Oaa];rw[h5,Eac,beq_iff_eq]at hL;rcases hL with hL|rfl
     all_goals grind[Ll,om]
    .intro s'' G'' w'' a'' k1 k2 k3;refine hQ s'' G'' w'' a'' k1 k2 (hs'.trans ?_)
     grind[zC]
end
def Ql(P:Program):List (Option Nat)->List (List Nat)->List (List Nat)->Nat->List RI->(St->Prop)->St->Prop
 |_,_,_,0,l,K,s=>fj P l K s
 |_,_,_,_+1,[],_,_=>False
 |pl,ps,fp,q+1,.op dst g i::l,K,s=>
  match pl.headD none with
  |some p=>Jy fp [p] (ps.headD [])=true/\g=none/\∃d e,Xk s p i=some (d,e)/\Ql P pl.tail ps.tail (fp++[[p]]) q l K ({ s with m:=s.m.set p e }.put dst d)
  |none=>
   Jy fp (Hk s (.op dst g i)) (ps.headD [])=true/\
   match gate s g with
   |none=>False
   |some none=>∃d m',xe s i=true/\ia s i=some (d,m')/\Ql P pl.tail ps.tail (fp++[Hk s (.op dst g i)]) q l K ({ s with m:=m' }.put dst d)
   |some (some (c,b))=>(c=b->∃d m',xe s i=true/\ia s i=some (d,m')/\Ql P pl.tail ps.tail (fp++[Hk s (.op dst g i)]) q l K ({ s with m:=m' }.put dst d))/\(c≠b->Ql P pl.tail ps.tail (fp++[Hk s (.op dst g i)]) q l K (s.put dst (.v undef)))
 |pl,ps,fp,q+1,.call dst g f args::l,K,s=>
  match pl.headD none,s.cv f with
  |some p,.fn k first caps=>g=none/\p∈vb s args/\Jy fp (vb s args) (ps.headD [])=true/\∃d e,((∀id∈vb s args,id<s.m.length)/\∀m,(∀id∈vb s args,m[id]?=s.m[id]?)->CallT P k (first++args.map s.ev++caps) m λd' m'=>d'=d/\m'=m.set p e)/\Ql P pl.tail ps.tail (fp++[vb s args]) q l K ({ s with m:=s.m.set p e }.put dst d)
  |none,.fn k first caps=>
   match gate s g with
   |none=>False
   |some none=>Jy fp (vb s args) (ps.headD [])=true/\∃d,((∀id∈vb s args,id<s.m.length)/\∀m,(∀id∈vb s args,m[id]?=s.m[id]?)->CallT P k (first++args.map s.ev++caps) m λd' m'=>d'=d/\m'=m)/\Ql P pl.tail ps.tail (fp++[vb s args]) q l K (s.put dst d)
   |some (some (c,b))=>Jy fp (vb s args) (ps.headD [])=true/\(c=b->∃d,((∀id∈vb s args,id<s.m.length)/\∀m,(∀id∈vb s args,m[id]?=s.m[id]?)->CallT P k (first++args.map s.ev++caps) m λd' m'=>d'=d/\m'=m)/\Ql P pl.tail ps.tail (fp++[vb s args]) q l K (s.put dst d))/\(c≠b->Ql P pl.tail ps.tail (fp++[vb s args]) q l K (s.put dst (.v undef)))
  |none,_=>Jy fp (vb s args) (ps.headD [])=true/\(∃c b,gate s g=some (some (c,b))/\c≠b)/\Ql P pl.tail ps.tail (fp++[vb s args]) q l K (s.put dst (.v undef))
  |_,_=>False
section
variable {P:Program} {K:St->Prop}
theorem vL{pl:List (Option Nat)}{j:Nat}:pO pl.tail j=pO pl (j+1):=by grind[pO]
theorem cz:∀{q:Nat}{l:List RI}{s:St}{pl:List (Option Nat)}{ps:List (List Nat)}{fp:List (List Nat)},Ql P pl ps fp q l K s->(∀(j:Nat) y,j<q->l[j]?=some y->((pO pl j).isSome || y.WB)=true)->
 ∃os rs s1,Gv P pl (l.take q) s os rs s1/\fj P (l.drop q) K s1/\(∀j,j<q->∀i∈ps.getD j [],i<fp.length+j->Hn ((fp++rs).getD i []) (rs.getD j [])=true)
 |0,l,s,pl,ps,fp,h,_=>⟨[],[],s,by simp[Gv],by simpa [Ql] using h,λj hj=>by omega⟩
 |q+1,[],s,pl,ps,fp,h,_=>by simp[Ql]at h
 |q+1,.op dst g i::l,s,pl,ps,fp,h,hc=>by
  have hc':∀(j:Nat) y,j<q->l[j]?=some y->((pO pl.tail j).isSome || y.WB)=true:=λj y hj hy=>by grind[vL]
  simp only[Ql]at h;have join:∀{s2:St} {d x w},Jy fp (xw (pl.headD none) s (.op dst g i)) (ps.headD [])=true->Mk P (pl.headD none) (.op dst g i) s d x w->lj s (.op dst g i) d x w=s2->Ql P pl.tail ps.tail (fp++[xw (pl.headD none) s (.op dst g i)]) q l K s2->
   ∃os rs s1,Gv P pl ((RI.op dst g i::l).take (q+1)) s os rs s1/\fj P ((RI.op dst g i::l).drop (q+1)) K s1/\(∀j,j<q+1->∀i∈ps.getD j [],i<fp.length+j->Hn ((fp++rs).getD i []) (rs.getD j [])=true):=by
   intro s2 d x w hap hF hs hD;obtain⟨os,rs,s1,h1,h2,h3⟩:=cz hD hc';refine⟨(d,x,w)::os,xw (pl.headD none) s (.op dst g i)::rs,s1,by simp only[Vaa,Gv];grind,by simp_all,λj hj k hk hlt=>?_⟩
   cases j with
   |zero=>
    have hk':k∈ps.headD []:=by cases ps with|nil=>simp at hk|cons a b=>simp_all
    have hkf:k<fp.length:=by omega
    have hget:(fp++xw (pl.headD none) s (.op dst g i)::rs).getD k []=fp.getD k []:=by
     grind
    grind[jC]
   |succ j=>
    grind[Yab]
  split at h
  .rename_i p hp;obtain⟨hap,rfl,d,e,hf,hD⟩:=h;exact join (d:=d) (x:=[]) (w:=some (p,e)) (by rw[hp];exact hap) (by rw[hp];exact .inl ⟨dst,i,e,rfl,rfl,rfl,hf⟩) (show lj s (.op dst none i) d [] (some (p,e))=({ s with m:=s.m.set p e }:St).put dst d by grind[lj,wr,RI.dst]) (by rw[hp];exact hD)
  .rename_i hp;have hci:(RI.op dst g i).WB=true:=by
    have:=hc 0 _ (by omega) rfl;have h0:pO pl 0=none:=by rw[←hp];cases pl<;>rfl
    simp_all
   simp only[hp,xw,Mk]at join;obtain⟨hap,h⟩:=h;have on:∀{d:D} {m':List Ent},xe s i=true->ia s i=some (d,m')->(gate s g=some none\/∃c,gate s g=some (some (c,c)))->Ql P pl.tail ps.tail (fp++[Hk s (.op dst g i)]) q l K ({ s with m:=m' }.put dst d)->
    ∃os rs s1,Gv P pl ((RI.op dst g i::l).take (q+1)) s os rs s1/\fj P ((RI.op dst g i::l).drop (q+1)) K s1/\(∀j,j<q+1->∀i∈ps.getD j [],i<fp.length+j->Hn ((fp++rs).getD i []) (rs.getD j [])=true):=by
    intro d m' hsb he hg hD;simp only[RI.WB,Eac,decide_eq_true_eq]at hci;by_cases hcl:i.cls<=2
    .have ext:∃x,m'=s.m++x:=by
      rcases zab i.cls 2 with h2|h2
      .exact⟨[],by rw[Kaa];exact(xn (s:=s) (s':=s) (by omega) (λ_ _=>rfl) (λ_ _ _ _=>rfl) he).1⟩
      .obtain⟨e,h,_⟩:=kB (s:=s) (s':=s) (by omega) (λ_ _=>rfl) rfl he
       simp_all
     obtain⟨x,rfl⟩:=ext;exact join hap (x:=x) (w:=none) (.inl ⟨hg,.inl ⟨rfl,hcl,he⟩⟩) rfl hD
    .have ht:i.DN.isSome=true:=by simp_all
     obtain⟨a,ha⟩:=Option.isSome_iff_exists.1 ht;obtain⟨id,e,h1,rfl,h3,h4⟩:=IF ha hsb he;refine join hap (x:=[]) (w:=some (id,e)) (.inl ⟨hg,.inr ⟨rfl,a,id,e,ha,h1,rfl,he,?_,hsb⟩⟩) ?_ hD
     all_goals grind[lj,wr,RI.dst]
   have off:(∃c b,gate s g=some (some (c,b))/\c≠b)->Ql P pl.tail ps.tail (fp++[Hk s (.op dst g i)]) q l K (s.put dst (.v undef))->
    ∃os rs s1,Gv P pl ((RI.op dst g i::l).take (q+1)) s os rs s1/\fj P ((RI.op dst g i::l).drop (q+1)) K s1/\(∀j,j<q+1->∀i∈ps.getD j [],i<fp.length+j->Hn ((fp++rs).getD i []) (rs.getD j [])=true):=λhg hD=>
    join hap (d:=.v undef) (x:=[]) (w:=none) (.inr ⟨hg,rfl,rfl,rfl⟩) (by simp_all[lj,wr,RI.dst]) hD
   split at h
   .simp_all
   .grind
   .rename_i c b hg;by_cases hcb:c=b
    .subst hcb;obtain⟨d,m',hsb,he,hD⟩:=h.1 rfl
     simp_all
    .exact off ⟨c,b,hg,hcb⟩ (h.2 hcb)
 |q+1,.call dst g f args::l,s,pl,ps,fp,h,hc=>by
  have hc':∀(j:Nat) y,j<q->l[j]?=some y->((pO pl.tail j).isSome || y.WB)=true:=λj y hj hy=>by grind[vL]
  rcases hp:pl.headD none with _|p
  rotate_left
  .simp only[Ql]at h
   cases hf:s.cv f with
   |fn k first caps=>
    simp only[hp,hf]at h;obtain⟨rfl,hpt,hap,d,e,hcall,hD⟩:=h;obtain⟨os,rs,s1,h1,h2,h3⟩:=cz hD hc';refine⟨(d,[],some (p,e))::os,vb s args::rs,s1,?_,by simp_all,λj hj k hk hlt=>?_⟩
    .simp only[Vaa,Gv,hp];refine⟨d,[],some (p,e),os,rs,rfl,rfl,.inr ⟨dst,f,args,k,first,caps,e,rfl,rfl,rfl,hf,hpt,hcall.1,hcall.2⟩,?_⟩
     grind[lj,wr,RI.dst]
    .cases j with
     |zero=>
      have hk':k∈ps.headD []:=by cases ps with|nil=>simp at hk|cons a b=>simp_all
      have hkf:k<fp.length:=by omega
      have hget:(fp++vb s args::rs).getD k []=fp.getD k []:=by
       grind
      grind[jC]
     |succ j=>
      grind[Yab]
   |_=>simp only[hp,hf]at h
  have haf:∀d,lj s (.call dst g f args) d [] none=s.put dst d:=λd=>by simp_all[lj,wr,RI.dst]
  have join:∀{d},Jy fp (vb s args) (ps.headD [])=true->Pt P (.call dst g f args) s d [] none->Ql P pl.tail ps.tail (fp++[vb s args]) q l K (s.put dst d)->
   ∃os rs s1,Gv P pl ((RI.call dst g f args::l).take (q+1)) s os rs s1/\fj P ((RI.call dst g f args::l).drop (q+1)) K s1/\(∀j,j<q+1->∀i∈ps.getD j [],i<fp.length+j->Hn ((fp++rs).getD i []) (rs.getD j [])=true):=by
   intro d hap hF hD;obtain⟨os,rs,s1,h1,h2,h3⟩:=cz hD hc';refine⟨(d,[],none)::os,vb s args::rs,s1,by simp only[Vaa,Gv,hp,xw,Hk,Mk];grind,by simp_all,λj hj k hk hlt=>?_⟩
   cases j with
   |zero=>
    have hk':k∈ps.headD []:=by cases ps with|nil=>simp at hk|cons a b=>simp_all
    have hkf:k<fp.length:=by omega
    have hget:(fp++vb s args::rs).getD k []=fp.getD k []:=by
     grind
    grind[jC]
   |succ j=>
    grind[Yab]
  simp only[Ql]at h
  cases hf:s.cv f with
  |fn k first caps=>
   simp only[hp,hf]at h;split at h
   .simp_all
   .rename_i hg;obtain⟨hap,d,hcall,hD⟩:=h;exact join hap ⟨rfl,rfl,.inl ⟨k,first,caps,hf,.inl hg,hcall⟩⟩ hD
   .rename_i c b hg;obtain⟨hap,h⟩:=h;by_cases hcb:c=b
    .subst hcb;obtain⟨d,hcall,hD⟩:=h.1 rfl;exact join hap ⟨rfl,rfl,.inl ⟨k,first,caps,hf,.inr ⟨c,hg⟩,hcall⟩⟩ hD
    .exact join hap ⟨rfl,rfl,.inr ⟨⟨c,b,hg,hcb⟩,rfl⟩⟩ (h.2 hcb)
  |_=>
   simp only[hp,hf]at h;obtain⟨hap,⟨c,b,hg,hcb⟩,hD⟩:=h;exact join hap ⟨rfl,rfl,.inr ⟨⟨c,b,hg,hcb⟩,rfl⟩⟩ hD
end
section
variable {P:Program} {N:Nat} {ops:Array Oper} {Q:Exit->Act->World->Prop} {K:St->Prop} {rl:List RI} {q:Nat} {ps:List (List Nat)} {pl:List (Option Nat)}
theorem Ox(gn:P.follows .mixedOrders=true) (hc:nh P ops ops.toList=some rl) (hf:DrawFactsO (mb ops) rl q ps pl) {s:St}(hD:Ql P pl ps [] q rl K s) (hpl:∀i p,pO pl i=some p->p<s.m.length)
 {id:Nat} {G:Gh} {w:World} {a:Act} (hr:Rel G w a s) (hQ:∀s' G' w' a',K s'->Rel G' w' a' s'->Step G w s.m G' w' s'.m->Q .normal a' w'):(Code.region id ops true).wp P Q a w:=by
 obtain⟨os,rs,s1,hF,hT,hap⟩:=cz hD hf.WB;have hlenT:(rl.take q).length=q:=by rw[Cac];have:=hf.hq;omega
 have hlenO:=hF.length;rw[hlenT]at hlenO;have h0:Ll rl os s (λ_=>true) 0=s:=rfl;obtain⟨g1,g2⟩:=Gv.get (pl:=pl) (rl:=rl) (os:=os) (s0:=s) (k:=0) (l:=rl.take q) (os':=os) (s':=s1) (rs:=rs) (by simp) (by simp) (λj hj=>by omega) (by rw[h0];exact hF);simp only[hlenT,jab]at g1 g2;subst g2;have hL0:∀j,Jc (mab ops.size false) j=false:=by
  intro j;unfold Jc;simp only[eac,Pac]
  grind
 have hst0:Ll rl os s (Jc (mab ops.size false)) q=s:=by
  have ht:∀n,tS (rM rl) (HX os) (Jc (mab ops.size false)) s.t n=s.t:=by
   intro n
   induction n with
   |zero=>rfl
   |succ n ih=>simp_all[tS]
  have hm:∀n,mS (CE os) (Jc (mab ops.size false)) s.m n=s.m:=by
   intro n
   induction n with
   |zero=>rfl
   |succ n ih=>simp_all[mS]
  have hw:∀n,sS (ML os) (Jc (mab ops.size false)) s.m n=s.m:=by
   intro n
   induction n with
   |zero=>rfl
   |succ n ih=>simp_all[sS]
  grind[Ll]
 refine wp_region_any gn ?_;have hs:=Same.drew w;refine EJ hc hf (λi hi=>(g1 i hi).1) hpl ?_ ?_ hT ops.size _ G _ a ?_ (by simp) ?_ (λj _=>hL0 j) ?_ (λj _ h=>by simp_all) ?_
 .intro i hi hx;have h:=(g1 i hi).1;rcases hp:pO pl i with _|p
  .rw[hp]at h;refine⟨?_,rfl⟩
   cases hri:rl.getD i DL with
   |call dst g f args=>
    rw[hri]at h;obtain⟨h,_⟩:=h
    simp_all
   |op dst g j=>
    rw[hri]at h;rcases h with⟨-,⟨_,hcl,h⟩|⟨h,_⟩⟩|⟨-,-,h,_⟩
    .simp only[RI.cls];rcases zab j.cls 2 with h2|h2
     .obtain⟨hm,-⟩:=xn (s:=Ll rl os s (λ_=>true) i) (s':=Ll rl os s (λ_=>true) i) (by omega) (λ_ _=>rfl) (λ_ _ _ _=>rfl) h
      simp_all
     omega
    all_goals simp_all
  .rw[hp]at h;rcases h with⟨_,_,_,_,h,_⟩|⟨_,_,_,_,_,_,_,_,h,_⟩
   all_goals simp_all
 .grind[rF]
 .grind
 .intro i b _ hi
  simp_all
 .rw[hst0];exact⟨hr.t.mono (hs.le G),hs.inv hr.inv,hr.defers⟩
 .intro s' G' w' a' k1 k2 k3;rw[hst0]at k3;exact hQ s' G' w' a' k1 k2 ((hs.step G s.m).trans k3)
def Cn(m:List Ent) (pl:List (Option Nat)):Bool:=pl.all λo=>match o with|some p=>decide (p<m.length)|none=>true
theorem oQ{m:List Ent}{pl:List (Option Nat)}(h:Cn m pl=true):∀i p,pO pl i=some p->p<m.length:=by
 intro i p hp;unfold Cn at h;rw[Uaa]at h;unfold pO at hp;have hm:some p∈pl:=by
  grind
 grind
theorem T.C1(hm:P.follows .mixedOrders=true) {cuts:List Nat}{bs:List (List Nat)}{l:List RI}{K:Exit->St->Prop}{s:St}(ps:List (List Nat)) (pl:List (Option Nat)) (hok:Rs bs l q ps pl=true) (hpl:Cn s.m pl=true) (h:Ql P pl ps [] q l (K .normal) s):T P N (.any cuts q bs l) K s:=by
 intro code hc G w a hN hr;obtain⟨id,ops,rfl,rfl,hc',hto⟩:=yO hc;exact Ox hm hc' (JE (rH hto).1 hok) h (oQ hpl) hr λs' G' w' a' k1 k2 k3=>⟨s',G',k1,k2,k3.BV hN⟩
theorem Qs{K:St->Prop}:∀{q:Nat}{l:List RI}{ps fp:List (List Nat)}{s:St},zv P ps fp q l K s->Ql P [] ps fp q l K s
 |0,l,ps,fp,s,h=>by simpa only[Ql,zv] using h
 |q+1,[],ps,fp,s,h=>by simp[zv]at h
 |q+1,.op dst g i::l,ps,fp,s,h=>by
  simp only[Ql,zv,Pad,Sad]at h⊢;refine⟨h.1,?_⟩;have h2:=h.2
  cases hg:gate s g with
  |none=>simp_all
  |some o=>
   cases o with
   |none=>
    simp only[hg]at h2⊢;obtain⟨d,m',h1,h2,h3⟩:=h2;exact⟨d,m',h1,h2,Qs h3⟩
   |some cb=>
    obtain⟨c,b⟩:=cb;simp only[hg]at h2⊢;refine⟨λhc=>?_,λhc=>Qs (h2.2 hc)⟩;obtain⟨d,m',h1,h2,h3⟩:=h2.1 hc;exact⟨d,m',h1,h2,Qs h3⟩
 |q+1,.call dst g f args::l,ps,fp,s,h=>by
  simp only[Ql,zv,Pad,Sad]at h⊢
  cases hf:s.cv f with
  |fn k first caps=>
   simp only[hf]at h⊢
   cases hg:gate s g with
   |none=>simp_all
   |some o=>
    cases o with
    |none=>
     simp only[hg]at h⊢;obtain⟨h0,d,h1,h3⟩:=h;exact⟨h0,d,h1,Qs h3⟩
    |some cb=>
     obtain⟨c,b⟩:=cb;simp only[hg]at h⊢;refine⟨h.1,λhc=>?_,λhc=>Qs (h.2.2 hc)⟩;obtain⟨d,h1,h3⟩:=h.2.1 hc;exact⟨d,h1,Qs h3⟩
  |_=>simp only[hf]at h
theorem T.any2(hm:P.follows .mixedOrders=true) {cuts:List Nat}{bs:List (List Nat)}{l:List RI}{K:Exit->St->Prop}{s:St}(ps:List (List Nat)) (hok:Rs bs l q ps []=true) (h:zv P ps [] q l (K .normal) s):T P N (.any cuts q bs l) K s:=
 T.C1 hm ps [] hok rfl (Qs h)
theorem T.P2(hm:P.follows .mixedOrders=true) {l:List RI}{K:Exit->St->Prop}{s:St}(h:Ql P [] [] [] q l (K .normal) s):T P N (.draw q l) K s:=by
 intro code hc G w a hN hr;obtain⟨id,ops,rfl,hc',hok⟩:=nA hc;have hf:=Uq hok;have hp0:∀i,pO [] i=none:=λi=>rfl;have notgt:∀(j:Nat) d g i,j<q->l[j]?=some (.op d g i)->i.DN=none:=by
  intro j d g i hj hl;have h1:=hf.cls j _ hj hl
  cases ht:i.DN with
  |none=>rfl
  |some x=>grind[RI.cls,wC]
 refine Ox hm hc' (ps:=[]) (pl:=[]) ⟨hf.toTailFacts,?_,?_,?_⟩ h (λi p hp=>by simp_all) hr λs' G' w' a' k1 k2 k3=>⟨s',G',k1,k2,k3.BV hN⟩
 .intro j y hj hy;have:=hf.cls j y hj hy;rw[hp0]
  cases y with
  |call=>rfl
  |op d g i=>grind[RI.WB,RI.cls]
 .intro i j x y hij hj hx hy hcl;refine hf.apart i j x y hij hj hx hy ?_
  grind[Et,Ax]
 .intro i j x y hij hj hx hy hcf;exfalso;rw[hp0,hp0]at hcf
  cases x with
  |call=>
   cases y with
   |call=>grind[Wt,wB]
   |op d g k=>grind[Wt,wB]
  |op d g k=>
   have h1:=notgt i d g k (by omega) hx
   cases y with
   |call=>grind[Wt,wB]
   |op d' g' k'=>grind[Wt,wB]
theorem T.Q2(hm:P.follows .mixedOrders=true) {l:List RI}{K:Exit->St->Prop}{s:St}(ps:List (List Nat)) (pl:List (Option Nat)) (hcl:∀i p,pO pl i=some p->∃a b c d,l[i]?=some (.call a b c d))
 (hps:∀j,j<q->∀i,i<j->i∈ps.getD j []) (hpl:Cn s.m pl=true) (h:Ql P pl ps [] q l (K .normal) s):T P N (.draw q l) K s:=by
 intro code hc G w a hN hr;obtain⟨id,ops,rfl,hc',hok⟩:=nA hc;have hf:=Uq hok;refine Ox hm hc' (ps:=ps) (pl:=pl) ⟨hf.toTailFacts,?_,?_,?_⟩ h (oQ hpl) hr λs' G' w' a' k1 k2 k3=>⟨s',G',k1,k2,k3.BV hN⟩
 .intro j y hj hy;have:=hf.cls j y hj hy
  cases y with
  |call=>simp[RI.WB]
  |op d g i=>grind[RI.WB,RI.cls]
 .intro i j x y hij hj hx hy hcl';refine hf.apart i j x y hij hj hx hy ?_
  grind[Et,Ax]
 simp_all
end
section
variable {P:Program} {N:Nat}
mutual
def Ad(n:Nat):D->D->Prop
 |.v x,.own i v=>x=.slice none 0 0/\i=n/\v=0
 |.agg l,.agg r=>Ls n l r
 |d,e=>d=e
def Ls(n:Nat):List D->List D->Prop
 |[],r=>r=[]
 |d::l,r=>∃e r',r=e::r'/\Ad n d e/\Ls n l r'
end
theorem Ad.inv{n:Nat}{d e:D}(h:Ad n d e):(d=.v (.slice none 0 0)/\e=.own n 0)\/(∃l r,d=.agg l/\e=.agg r/\Ls n l r)\/d=e:=by
 cases d<;>cases e<;>simp_all[Ad]
mutual
theorem Ad.rel{G:Gh}{w:World}{n:Nat}(ho:VRel G w (.own n 0) (.slice none 0 0)):∀{d e:D}{u:Value},Ad n d e->VRel G w d u->VRel G w e u
 |.agg l,e,u,hs,h=>by
  rcases hs.inv with⟨h1,_⟩|⟨l',r,h1,rfl,h3⟩|rfl
  .grind
  .injection h1 with h1;subst h1;simp only[VRel]at h⊢;obtain⟨cs,rfl,h,h1⟩:=h;exact⟨cs,rfl,Ls.rel ho h3 h,h1⟩
  omega
 |.v x,e,u,hs,h=>by
  rcases hs.inv with⟨h1,rfl⟩|⟨_,_,h1,_⟩|rfl
  .injection h1 with h1;subst h1;simp only[VRel]at h;simp_all
  all_goals simp_all
 |.tup l,e,u,hs,h=>by rcases hs.inv with⟨h1,_⟩|⟨_,_,h1,_⟩|rfl<;>first|cases h1|exact h
 |.sl S l,e,u,hs,h=>by rcases hs.inv with⟨h1,_⟩|⟨_,_,h1,_⟩|rfl<;>first|cases h1|exact h
 |.pt x,e,u,hs,h=>by rcases hs.inv with⟨h1,_⟩|⟨_,_,h1,_⟩|rfl<;>first|cases h1|exact h
 |.ref _ _ _ _,e,u,hs,h=>by rcases hs.inv with⟨h1,_⟩|⟨_,_,h1,_⟩|rfl<;>first|cases h1|exact h
 |.own _ _,e,u,hs,h=>by rcases hs.inv with⟨h1,_⟩|⟨_,_,h1,_⟩|rfl<;>first|cases h1|exact h
 |.view _ _ _ _,e,u,hs,h=>by rcases hs.inv with⟨h1,_⟩|⟨_,_,h1,_⟩|rfl<;>first|cases h1|exact h
 |.fn _ _ _,e,u,hs,h=>by rcases hs.inv with⟨h1,_⟩|⟨_,_,h1,_⟩|rfl<;>first|cases h1|exact h
 |.mp _,e,u,hs,h=>by rcases hs.inv with⟨h1,_⟩|⟨_,_,h1,_⟩|rfl<;>first|cases h1|exact h
 |.ifc _ _,e,u,hs,h=>by rcases hs.inv with⟨h1,_⟩|⟨_,_,h1,_⟩|rfl<;>first|cases h1|exact h
 |.dead,e,u,hs,h=>by rcases hs.inv with⟨h1,_⟩|⟨_,_,h1,_⟩|rfl<;>first|cases h1|exact h
theorem Ls.rel{G:Gh}{w:World}{n:Nat}(ho:VRel G w (.own n 0) (.slice none 0 0)):∀{l r:List D}{us:List Value},Ls n l r->VsRel G w l us->VsRel G w r us
 |[],r,us,hs,h=>by simp only[Ls]at hs;simp_all
 |d::l,r,us,hs,h=>by
  simp only[Ls]at hs;obtain⟨e,r',rfl,h1,h2⟩:=hs;simp only[VsRel]at h⊢;obtain⟨u,us',rfl,g1,g2⟩:=h;exact⟨u,us',rfl,Ad.rel ho h1 g1,Ls.rel ho h2 g2⟩
end
theorem Ls.row{G:Gh}{w:World}{n b S:Nat}(ho:VRel G w (.own n 0) (.slice none 0 0)):∀{l r:List D}{off:Nat},Ls n l r->Qa G w b S l off->Qa G w b S r off
 |[],r,off,hs,h=>by simp only[Ls]at hs;subst hs;exact h
 |d::l,r,off,hs,h=>by
  simp only[Ls]at hs;obtain⟨e,r',rfl,h1,h2⟩:=hs;simp only[Qa]at h⊢;obtain⟨⟨u,g1,g2,g3⟩,g4⟩:=h;exact⟨⟨u,Ad.rel ho h1 g1,g2,g3⟩,Ls.row ho h2 g4⟩
theorem Ls.length{n:Nat}:∀{l r:List D},Ls n l r->l.length=r.length
 |[],r,h=>by simp[Ls]at h;simp[h]
 |d::l,r,h=>by
  simp only[Ls]at h;obtain⟨e,r',rfl,_,h2⟩:=h;simp[Ls.length h2]
mutual
theorem Ad.refl(n:Nat):∀d:D,Ad n d d
 |.agg l=>by simp only[Ad];exact Ls.refl n l
 |.v x=>by simp[Ad]
 |.tup l=>by simp[Ad]
 |.sl S l=>by simp[Ad]
 |.pt d=>by simp[Ad]
 |.ref ..=>by simp[Ad]
 |.own ..=>by simp[Ad]
 |.view ..=>by simp[Ad]
 |.fn ..=>by simp[Ad]
 |.mp ..=>by simp[Ad]
 |.ifc ..=>by simp[Ad]
 |.dead=>by simp[Ad]
theorem Ls.refl(n:Nat):∀l:List D,Ls n l l
 |[]=>by simp[Ls]
 |d::l=>by simp only[Ls];exact⟨d,l,rfl,Ad.refl n d,Ls.refl n l⟩
end
theorem Ls.cons{n:Nat}{d e:D}{l r:List D}(h1:Ad n d e) (h2:Ls n l r):Ls n (d::l) (e::r):=by
 simp only[Ls];grind
theorem Ad.nil(n:Nat):Ad n (.v (.slice none 0 0)) (.own n 0):=by simp[Ad]
def jF(n:Nat):Ent->Ent->Prop
 |.live S v l,.live S' v' l'=>S=S'/\v=v'/\Ls n l l'
 |e,e'=>e=e'
def vx(n:Nat):List Ent->List Ent->Prop
 |[],r=>r=[]
 |d::l,r=>∃e r',r=e::r'/\jF n d e/\vx n l r'
theorem jF.refl(n:Nat) (e:Ent):jF n e e:=by cases e<;>simp[jF,Ls.refl]
theorem vx.refl(n:Nat):∀m:List Ent,vx n m m
 |[]=>by simp[vx]
 |d::l=>by simp only[vx];exact⟨d,l,rfl,jF.refl n d,vx.refl n l⟩
theorem vx.cons{n:Nat}{d e:Ent}{l r:List Ent}(h1:jF n d e) (h2:vx n l r):vx n (d::l) (e::r):=by
 simp only[vx];grind
theorem jF.live{n S v:Nat}{l r:List D}(h:Ls n l r):jF n (.live S v l) (.live S v r):=by simp only[jF];simp_all
theorem vx.get{n:Nat}:∀{m m':List Ent},vx n m m'->m.length=m'.length/\∀(i:Nat) e,m'[i]?=some e->∃e0,m[i]?=some e0/\jF n e0 e
 |[],m',h=>by simp[vx]at h;subst h;simp
 |d::m,m',h=>by
  simp only[vx]at h;obtain⟨e,r',rfl,h1,h2⟩:=h;obtain⟨k1,k2⟩:=vx.get h2;refine⟨by simp[k1],λi e' he=>?_⟩
  cases i with
  |zero=>simp at he;subst he;exact⟨d,rfl,h1⟩
  |succ i=>simpa using k2 i e' (by simpa using he)
theorem vx.append{n:Nat}:∀{m m':List Ent}(x:List Ent),vx n m m'->vx n (m++x) (m'++x)
 |[],m',x,h=>by simp[vx]at h;subst h;exact vx.refl n x
 |d::m,m',x,h=>by
  simp only[vx]at h;obtain⟨e,r',rfl,h1,h2⟩:=h;simp only[List.cons_append];exact vx.cons h1 (vx.append x h2)
theorem jF.rel{G:Gh}{w:World}{n i:Nat}{e e':Ent}(ho:VRel G w (.own n 0) (.slice none 0 0)) (h:jF n e e') (hr:Xm G w i e):Xm G w i e':=by
 cases e with
 |live S v l=>
  cases e' with
  |live S' v' l'=>
   simp only[jF]at h;obtain⟨rfl,rfl,h⟩:=h;obtain⟨a1,a2,a3,a4,a5⟩:=hr;rw[h.length]at a3 a4;refine⟨a1,a2,a3,a4,?_⟩;rcases a5 with a5|⟨b',cs,T,hb',hF,hblk,hsz,hrow⟩
   .exact .inl a5
   .exact .inr ⟨b',cs,T,hb',hF,hblk,hsz,Ls.row ho h hrow⟩
  |_=>simp[jF]at h
 |_=>simp only[jF]at h;subst h;exact hr
theorem jF.isLive{n:Nat}{e e':Ent}(h:jF n e e'):e'.isLive=e.isLive:=by
 cases e<;>cases e'<;>simp_all[jF,Ent.isLive]
theorem T.YW{c:C}{K:Exit->St->Prop}{s:St}(S:Nat) {t':List D}{m':List Ent}(ht:Ls s.m.length s.t t') (hm:vx s.m.length s.m m') (h:Tm.T P N c K ⟨t',m'++[.live S 0 []]⟩):Tm.T P N c K s:=by
 refine T.ghost (λG w a hN hr=>?_) h;have hadd:=My (w':=w) hr.inv none S 0 0 (.live S 0 []) rfl rfl rfl rfl (saa _) (λ_ _=>rfl) (λk h=>by cases h)
  ⟨by simp[Gh.add],by simp[Gh.add],by simp[Gh.add],by simp,.inl ⟨by simp[Gh.add],by simp[Gh.add]⟩⟩
 have ho:=Iz (s:=s) (b:=none) (S:=S) (N:=0) (C:=0) (w':=w) hr.inv.n;have hM:=(vx.append [.live S 0 []] hm).get;have hi:=hadd.1;refine⟨_,⟨Ls.rel ho ht (hr.t.mono hadd.2.le),⟨by rw[hi.n,hM.1],hi.F,λi e he=>?_,λi j e e' he he' hl hl' b hb hb'=>?_,hi.gl⟩,hr.defers⟩,?_⟩
 .obtain⟨e0,h0,h1⟩:=hM.2 i e he;exact h1.rel ho (hi.ent i e0 h0)
 .obtain⟨e0,h0,h1⟩:=hM.2 i e he;obtain⟨e0',h0',h1'⟩:=hM.2 j e' he';exact hi.apart i j e0 e0' h0 h0' (by rw[←h1.isLive];omega) (by rw[←h1'.isLive];omega) b hb hb'
 .refine { hadd.2.BV hN with newB:=λb hb ho'=>hadd.2.newB b hb ?_ };obtain⟨i,e,he,hl,hB⟩:=ho';obtain⟨e0,h0,h1⟩:=hM.2 i e he;exact⟨i,e0,h0,by rw[←h1.isLive];omega,hB⟩
end
def jG(S id x:Nat) (s:St):St:=
 match s.m[id]? with
 |some (.live S' v l)=>
  match l[x]? with
  |some (.v (.slice none 0 0))=>⟨s.t,s.m.set id (.live S' v (l.set x (.own s.m.length 0)))++[.live S 0 []]⟩
  |_=>s
 |_=>s
theorem Ls.set{n:Nat}:∀{l:List D}{x:Nat},l[x]?=some (.v (.slice none 0 0))->Ls n l (l.set x (.own n 0))
 |[],x,h=>by grind
 |d::l,0,h=>by grind[Ls.cons,Ad.nil,Ls.refl]
 |d::l,x+1,h=>Ls.cons (Ad.refl n d) (Ls.set (by simp_all))
theorem vx.set{n S v:Nat}{l l':List D}(hl:Ls n l l'):∀{m:List Ent}{id:Nat},m[id]?=some (.live S v l)->vx n m (m.set id (.live S v l'))
 |[],id,h=>by grind
 |e::m,0,h=>by grind[vx.cons,jF.live,vx.refl]
 |e::m,id+1,h=>vx.cons (jF.refl n e) (vx.set hl (by simp_all))
theorem VN{P:Program}{N:Nat}{c:C}{K:Exit->St->Prop}{S id x:Nat}{s:St}(h:Tm.T P N c K (jG S id x s)):Tm.T P N c K s:=by
 unfold jG at h;split at h
 .rename_i S' v l hm;split at h
  .rename_i hx;exact T.YW S (Ls.refl _ _) (vx.set (Ls.set hx) hm) h
  omega
 omega
def Ny(S id:Nat):Nat->St->St
 |0,s=>s
 |x+1,s=>jG S id x (Ny S id x s)
theorem oF{P:Program}{N:Nat}{c:C}{K:Exit->St->Prop}{S id:Nat}:∀{x:Nat}{s:St},Tm.T P N c K (Ny S id x s)->Tm.T P N c K s
 |0,s,h=>h
 |x+1,s,h=>oF (x:=x) (VN h)
def makS:RI->Option Nat
 |.op _ none (.alloc S _)=>some S
 |.op _ none (.box S _)=>some S
 |.op _ none (.bslice S _ _ _)=>some S
 |_=>none
def isMk:RI->Bool
 |.op _ _ i=>Kad i.cls 2
 |_=>false
def places:List RI->Nat->List (Option Nat)
 |[],_=>[]
 |r::l,n=>
  match makS r with
  |some _=>bif l.any isMk then some n::places l (n+1)else none::places l n
  |none=>none::places l n
def lent(m:List Ent) (d:D):Option D:=
 bif flat d then some d else
 match d with
 |.own id Ja=>
  match m[id]? with
  |some (.live S v l)=>bif Kad v Ja&&LF l then some (.sl S l)else none
  |_=>none
 |_=>none
def CB(id Ja:Nat) (d:D):D:=
 match d with
 |.ref i v x s=>bif Kad i id&&Kad v Ja then .ref 0 0 x s else .dead
 |d=>bif na d then d else .dead
theorem vN{G G':Gh}{w:World}{id Ja:Nat}(hle:SubF G w G' w) (hr:∀x s u,VRel G w (.ref id Ja x s) u->VRel G' w (.ref 0 0 x s) u) {d:D}{u:Value}(h:VRel G w d u):VRel G' w (CB id Ja d) u:=by
 unfold CB;split
 .rename_i i v x s;cases hb:(Kad i id&&Kad v Ja)
  .simp[VRel]
  simp_all
 .cases hf:na d
  .simp[VRel]
  .exact h.free hle hf
section
variable {P:Program}
theorem mO{k id S Ja:Nat}{l l1:List D}{m m1:List Ent}{ds:List D}{d1:D}
 (hid:m[id]?=some (.live S Ja l)) (hl:la l=true) (hm1:m1[0]?=some (.live S 0 l1))
 (h:CallT P k (ds.map (CB id Ja)) [.live S 0 l] λd m'=>d=d1/\m'=m1) :
 CallT P k ds m λd m'=>d=Wd 8 (m1.set 0 .gone) d1/\m'=m.set id (.live S Ja (l1.map (Wd 8 (m1.set 0 .gone)))):=by
 refine⟨h.1,λG w vs hv hi=>?_⟩;have hlen:id<m.length:=(Haa.1 hid).1;obtain⟨eV,eS,eN,eC,eB⟩:=hi.ent id _ hid;have hc0:SubF G w ⟨G.F,1,λ_=>G.B id,λ_=>0,λ_=>G.S id,λ_=>G.N id,λ_=>G.C id⟩ w:=⟨λ_ h=>h,λ_ _=>rfl⟩;have hv':=yp (G':=⟨G.F,1,λ_=>G.B id,λ_=>0,λ_=>G.S id,λ_=>G.N id,λ_=>G.C id⟩) (f:=CB id Ja) (λd u hu=>vN hc0 (λx s u hu=>by
  simp only[VRel]at hu⊢
  grind) hu) hv
 have hic:Inv ⟨G.F,1,λ_=>G.B id,λ_=>0,λ_=>G.S id,λ_=>G.N id,λ_=>G.C id⟩ w [.live S 0 l]:=by
  refine⟨rfl,hi.F,?_,?_,hi.gl.bare λ_ h=>h⟩
  .intro i e he
   cases i with
   |zero=>
    simp at he;subst he;refine⟨rfl,eS,eN,eC,?_⟩;rcases eB with h|⟨b,cs,T,h1,h2,h3,h4,h5⟩
    .simp_all
    .exact .inr ⟨b,cs,T,h1,h2,h3,h4,Qa.free hc0 rfl hl h5⟩
   |succ i=>simp at he
  grind
 have own0:∀b,Xd ⟨G.F,1,λ_=>G.B id,λ_=>0,λ_=>G.S id,λ_=>G.N id,λ_=>G.C id⟩ [.live S 0 l] b->G.B id=some b:=by
  rintro b ⟨i,e,he,-,hB⟩;omega
 refine(h.2 _ w vs hv' hic).mono ?_;rintro e w' ⟨v,d,m',G',rfl,⟨rfl,rfl⟩,hvd,hi',hs'⟩;obtain⟨fV,fS,fN,fC,fB⟩:=hi'.ent 0 _ hm1;have hlen1:0<m'.length:=(Haa.1 hm1).1;have live1:(Ent.live S Ja l).isLive=true:=rfl;obtain⟨sB,sS,sN,sC⟩:G'.B 0=G.B id/\G'.S 0=G.S id/\G'.N 0=G.N id/\G'.C 0=G.C id:=by
  rcases hs'.le.id 0 (Nat.lt_succ_self 0)with⟨_,h1,h2,h3,h4⟩|h
  all_goals simp_all
 have hget1:∀i x,(m'.set 0 .gone)[i]?=some x->(i=0/\x=.gone)\/(i≠0/\m'[i]?=some x):=by
  grind
 have hi2:Inv G' w' (m'.set 0 .gone):=by
  refine⟨by simpa using hi'.n,hi'.F,?_,?_,hi'.gl⟩
  .intro i x hx;rcases hget1 i x hx with⟨rfl,rfl⟩|⟨h0,hx⟩
   .trivial
   .exact hi'.ent i x hx
  .intro i j x y hx hy lx ly b hb hb';rcases hget1 i x hx with⟨rfl,rfl⟩|⟨h0,hx⟩
   .cases lx
   .rcases hget1 j y hy with⟨rfl,rfl⟩|⟨h1,hy⟩
    .cases ly
    .exact hi'.apart i j x y hx hy lx ly b hb hb'
 have out0:∀b,Xd G' (m'.set 0 .gone) b->Xd G' m' b/\G'.B 0≠some b:=by
  rintro b ⟨i,x,hx,lx,hB⟩;rcases hget1 i x hx with⟨rfl,rfl⟩|⟨h0,hx⟩
  .cases lx
  .exact⟨⟨i,x,hx,lx,hB⟩,λh=>h0 (hi'.apart i 0 x _ hx hm1 lx rfl b hB h)⟩
 have hF':∀b,(G'.F b\/Xd G' (m'.set 0 .gone) b)->b<w'.heap.size:=by
  rintro b (hb|hb)
  .exact hi'.F b hb
  .exact(Xd.lt hi2 hb).1
 have hrel:∀d u,VRel G' w' d u->VRel ⟨λb=>G'.F b\/Xd G' (m'.set 0 .gone) b,G.n,G.B,G.V,G.S,G.N,G.C⟩ w' (Wd 8 (m'.set 0 .gone) d) u:=by
  intro d u hu;have h0:=oI hi2 8 d u hu;refine VRel.free ?_ (Lw _ _ _) h0;exact⟨λ_ h=>h,λ_ _=>rfl⟩
 have hle:Le G w ⟨λb=>G'.F b\/Xd G' (m'.set 0 .gone) b,G.n,G.B,G.V,G.S,G.N,G.C⟩ w':=
  ⟨λb hb=>.inl (hs'.le.F b hb),λb hb=>hs'.le.heap b hb,saa _,λi _=>.inl (by simp)⟩
 have olt:∀i x,m[i]?=some x->x.isLive=true->∀b,G.B i=some b->b<w.heap.size/\¬G.F b:=λi x hx hl b hb=>(hi.ent i x hx).lt hl hb;have notO:∀i x,m[i]?=some x->x.isLive=true->i≠id->∀b,G.B i=some b->G.B id≠some b:=λi x hx hlx hne b hb hB=>hne (hi.apart i id x _ hx hid hlx live1 b hb hB);have hget:∀i x,(m.set id (.live S Ja (l1.map (Wd 8 (m'.set 0 .gone)))))[i]?=some x->(m[i]?=some x/\i≠id)\/(i=id/\x=.live S Ja (l1.map (Wd 8 (m'.set 0 .gone)))):=by
  grind
 refine⟨v,_,_,⟨λb=>G'.F b\/Xd G' (m'.set 0 .gone) b,G.n,G.B,G.V,G.S,G.N,G.C⟩,rfl,⟨rfl,rfl⟩,hrel _ _ hvd,⟨by simp[hi.n],hF',?_,?_,hi'.gl.bare λ_ h=>.inl h⟩,⟨hle,hs'.os,hs'.tape,hs'.output,hs'.size,?_,?_,?_⟩⟩
 .intro i x hx;rcases hget i x hx with⟨h1,h2⟩|⟨rfl,rfl⟩
  .by_cases hlx:x.isLive=true
   .refine(hi.ent i x h1).mono hle (by simp) (λb hb=>?_) (λb hb _ hF=>?_)
    .exact hs'.keep b (olt i x h1 hlx b hb).1 λho=>notO i x h1 hlx h2 b hb (own0 b ho)
    .rcases hF with hF|hF
     .rcases hs'.newF b (olt i x h1 hlx b hb).1 hF with h|h
      all_goals grind
     .exact(notO i x h1 hlx h2 b hb (own0 b (hs'.newB b (olt i x h1 hlx b hb).1 (out0 b hF).1))).elim
   .cases x with
    |gone=>trivial
    |_=>grind[Ent.isLive]
  .refine⟨eV,eS,by simp_all,by simp_all,?_⟩
   grind[oq]
 .intro i j x y hx hy lx ly b hb hb';rcases hget i x hx with⟨h1,h2⟩|⟨rfl,rfl⟩<;>rcases hget j y hy with⟨h3,h4⟩|⟨rfl,rfl⟩
  .exact hi.apart i j x y h1 h3 lx ly b hb hb'
  all_goals grind
 .intro b hb hno;exact hs'.keep b hb λho=>hno ⟨id,_,hid,live1,own0 b ho⟩
 .intro b hb hF;rcases hF with hF|hF
  .rcases hs'.newF b hb hF with h|h
   all_goals grind
  .exact .inr ⟨id,_,hid,live1,own0 b (hs'.newB b hb (out0 b hF).1)⟩
 .rintro b hb ⟨i,x,hx,lx,hB⟩;rcases hget i x hx with⟨h1,h2⟩|⟨rfl,rfl⟩
  .exact⟨i,x,h1,lx,hB⟩
  .exact⟨i,_,hid,live1,hB⟩
end
def Hv(q:Nat):List (List Nat):=(yaa q).map yaa
theorem GH{q:Nat}:∀j,j<q->∀i,i<j->i∈(Hv q).getD j []:=by
 grind[Hv]
end Go.Tm
