/-
  The engine: a part of the proof that trees of values are carried along by the program: no condition.
-/
import Derived.Test.YtmhfebelfmgckaaGreatDoorEA
import Derived.Orders
open Array renaming getD_eq_getD_getElem?->Tac,getElem?_eq_getElem->Mab,getElem?_replicate->Uad,length_toList->zac,range->Yad,replicate->Uab
open Bool renaming and_eq_true->Laa,or_eq_true->Dad
open List renaming all_eq_true->fab,append_nil->eab,drop_eq_getElem_cons->mab,drop_eq_nil_of_le->Dac,getD_cons_succ->iab,getD_eq_getElem?_getD->Gac,getElem?_eq_getElem->Baa,getElem?_eq_some_iff->gab,getElem?_set->Xad,headD_nil->Wae,length_append->kab,length_take->Qac,map_cons->cab,mem_append->tab,mem_cons->Tab,mem_range->Lac,range->Kaa,replicate->Daa,set_comm->aaf,size_toArray->fad,tail_nil->baf,take_succ_cons->xab
open List.cons renaming injEq->Iad
open Nat renaming beq->Tae,le_refl->Paa,le_total->eaf,le_trans->Bab,lt_of_lt_of_le->lab,lt_or_ge->Gab,strongRecOn->dad,zero_add->Qab
open Option renaming bind_eq_some_iff->gac,getD_some->Lab,map_eq_some_iff->Faa
open Option.some renaming injEq->dab
open Prod.mk renaming injEq->Vaa
set_option linter.all false
namespace Go.Tm
open Go.RowKit (Below)
variable {K:Exit->St->Prop}{s s' sc s0:St}{code:Code}{i b S j n id k p Oa:Nat}{l:List RI}{cuts:List Nat}{d:D}{t:TypeId}{X:Type}{x y:Operand}{F:Nat->Prop}{a:Act}{L:Nat->Bool}{e:Ent}{ops:Array Oper}{o:Oper}{r:RI}{listed:Array Bool}{os:List (D×List Ent)}{z:Value}
section
variable {P:Program}
structure StepN (N:Nat) (G:Gh) (w:World) (m:List Ent) (G':Gh) (w':World) (m':List Ent):Prop where
 F:∀b,G.F b->G'.F b
 heap:∀b,G.F b->w'.heap[b]?=w.heap[b]?
 n:N<=G'.n
 id:∀i,i<N->(G'.V i=G.V i/\G'.B i=G.B i/\G'.S i=G.S i/\G'.N i=G.N i/\G'.C i=G.C i)\/G.V i<G'.V i
 os:w'.os=w.os
 tape:w'.tape=w.tape
 output:w'.output=w.output
 size:w.heap.size<=w'.heap.size
 keep:∀b,b<w.heap.size->¬Zf G m b->w'.heap[b]?=w.heap[b]?
 newF:∀b,b<w.heap.size->G'.F b->G.F b\/Zf G m b
 newB:∀b,b<w.heap.size->Zf G' m' b->Zf G m b
theorem Step.toN{N:Nat}{G G':Gh}{w w':World}{m m':List Ent}(h:Step G w m G' w' m') (hN:N<=G.n):StepN N G w m G' w' m':=
 ⟨h.le.F,h.le.heap,Bab hN h.le.n,λi hi=>h.le.id i (lab hi hN),h.os,h.tape,h.output,h.size,h.keep,h.newF,h.newB⟩
theorem StepN.toStep{G G':Gh}{w w':World}{m m':List Ent}(h:StepN G.n G w m G' w' m'):Step G w m G' w' m':=
 ⟨⟨h.F,h.heap,h.n,h.id⟩,h.os,h.tape,h.output,h.size,h.keep,h.newF,h.newB⟩
theorem StepN.refl{N:Nat}(G:Gh) (w:World) (m:List Ent) (hN:N<=G.n):StepN N G w m G w m:=(Step.refl G w m).toN hN
theorem StepN.trans{N:Nat}{G G' c:Gh}{w w' e:World}{m m' d:List Ent}(h:StepN N G w m G' w' m') (k:StepN N G' w' m' c e d):StepN N G w m c e d where
 F b hb:=k.F b (h.F b hb)
 heap b hb:=(k.heap b (h.F b hb)).trans (h.heap b hb)
 n:=k.n
 id i hi:=by
  have h1:=h.id i hi;have h2:=k.id i hi
  grind
 os:=k.os.trans h.os
 tape:=k.tape.trans h.tape
 output:=k.output.trans h.output
 size:=Bab h.size k.size
 keep b hb ho:=(k.keep b (lab hb h.size) λa=>ho (h.newB b hb a)).trans (h.keep b hb ho)
 newF b hb f:=by
  rcases k.newF b (lab hb h.size) f with a|a
  .exact h.newF b hb a
  .exact .inr (h.newB b hb a)
 newB b hb a:=h.newB b hb (k.newB b (lab hb h.size) a)
def T(P:Program) (N:Nat) (c:C) (K:Exit->St->Prop) (s:St):Prop:=
 ∀code,comp P code=some c->∀(G:Gh) (w:World) (a:Act),N<=G.n->Rel G w a s->
  code.wp P (λe a' w'=>∃s' G',K e s'/\Rel G' w' a' s'/\StepN N G w s.m G' w' s'.m) a w
variable {N:Nat}
theorem T.mono{c:C}{K':Exit->St->Prop}(h:T P N c K s) (d:∀e s',K e s'->K' e s'):T P N c K' s:=
 λcode hc G w a hN hr=>Code.wp_mono (λ_ _ _ ⟨s',G',b,h2⟩=>⟨s',G',d _ _ b,h2⟩) (h code hc G w a hN hr)
theorem T.ghost{c:C}(j:∀(G:Gh) (w:World) (a:Act),N<=G.n->Rel G w a s->∃G',Rel G' w a s'/\StepN N G w s.m G' w s'.m) (h:T P N c K s'):T P N c K s:=by
 intro code hc G w a hN hr;obtain⟨G',e,b⟩:=j G w a hN hr;exact Code.wp_mono (λ_ _ _ ⟨f,d,g,h2,i⟩=>⟨f,d,g,h2,b.trans i⟩) (h code hc G' w a b.n e)
theorem MX(h:comp P code=some .skip):code=.skip\/∃l,code=.label l:=by
 cases code with
 |region id ops draw=>
  cases draw with
  |false=>simp[comp]at h
  |true=>grind[comp]
 |seq a b=>grind[comp]
 |cond c a b=>grind[comp]
 |skip=>simp
 |label l=>simp
 |_=>simp[comp]at h
theorem I4(h:comp P code=some .ret):code=.ret:=by
 cases code with
 |region id ops draw=>
  cases draw with
  |false=>simp[comp]at h
  |true=>grind[comp]
 |seq a b=>grind[comp]
 |cond c a b=>grind[comp]
 |ret=>rfl
 |_=>simp[comp]at h
theorem KX(h:comp P code=some (.exit i)):code=.exit i:=by
 cases code with
 |region id ops draw=>
  cases draw with
  |false=>simp[comp]at h
  |true=>grind[comp]
 |seq a b=>grind[comp]
 |cond c a b=>grind[comp]
 |exit j=>grind[comp]
 |_=>simp[comp]at h
theorem YP(h:comp P code=some (.IS l)):∃id ops,code=.region id ops false/\Nh P ops ops.toList=some l:=by
 cases code with
 |region id ops draw=>
  cases draw with
  |true=>grind[comp]
  |false=>simp[comp]at h;grind
 |seq a b=>grind[comp]
 |cond c a b=>grind[comp]
 |_=>simp[comp]at h
theorem oG{q:Nat}(h:comp P code=some (.draw q l)):∃id ops,code=.region id ops true/\Nh P ops ops.toList=some l/\rG (Bb ops) l q=true:=by
 cases code with
 |region id ops draw=>
  cases draw with
  |false=>simp[comp]at h
  |true=>
   simp only[comp]at h
   grind
 |seq a b=>grind[comp]
 |cond c a b=>grind[comp]
 |_=>simp[comp]at h
theorem H4{q:Nat}{bs:List (List Nat)}(h:comp P code=some (.any cuts q bs l)):∃id ops,code=.region id ops true/\bs=Bb ops/\Nh P ops ops.toList=some l/\jP (Bb ops) l cuts q=true:=by
 cases code with
 |region id ops draw=>
  cases draw with
  |false=>simp[comp]at h
  |true=>
   simp only[comp]at h
   grind
 |seq a b=>grind[comp]
 |cond c a b=>grind[comp]
 |_=>simp[comp]at h
theorem J4{c d:C}(h:comp P code=some (.seq c d)):∃x y,code=.seq x y/\comp P x=some c/\comp P y=some d:=by
 cases code with
 |region id ops draw=>
  cases draw with
  |false=>simp[comp]at h
  |true=>grind[comp]
 |seq a b=>
  simp only[comp]at h
  grind
 |cond c a b=>grind[comp]
 |_=>simp[comp]at h
theorem JX{t:Operand}{c d:C}(h:comp P code=some (.cond t c d)):∃x y,code=.cond t x y/\comp P x=some c/\comp P y=some d:=by
 cases code with
 |region id ops draw=>
  cases draw with
  |false=>simp[comp]at h
  |true=>grind[comp]
 |seq a b=>grind[comp]
 |cond t' a b=>
  grind[comp]
 |_=>simp[comp]at h
theorem oT{c:C}(h:comp P code=some (.block i c)):∃x,code=.block i x/\comp P x=some c:=by
 cases code with
 |region id ops draw=>
  cases draw with
  |false=>simp[comp]at h
  |true=>grind[comp]
 |seq a b=>grind[comp]
 |cond c a b=>grind[comp]
 |block j b=>simp_all[comp]
 |_=>simp[comp]at h
theorem LX{c:C}(h:comp P code=some (.loop c)):∃x,code=.loop x/\comp P x=some c:=by
 cases code with
 |region id ops draw=>
  cases draw with
  |false=>simp[comp]at h
  |true=>grind[comp]
 |seq a b=>grind[comp]
 |cond c a b=>grind[comp]
 |loop b=>simp[comp]at h;simp_all
 |_=>simp[comp]at h
theorem T.skip{K:Exit->St->Prop}{s:St}(h:K .normal s):T P N .skip K s:=by
 intro code hc G w a hN hr;rcases MX hc with rfl|⟨l,rfl⟩
 all_goals grind[wp_skip,StepN.refl,wp_label]
theorem T.ret{K:Exit->St->Prop}{s:St}(h:K .ret s):T P N .ret K s:=by
 intro code hc G w a hN hr;obtain rfl:=I4 hc
 grind[wp_ret,StepN.refl]
theorem T.exit{id:Nat}{K:Exit->St->Prop}{s:St}(h:K (.exit id) s):T P N (.exit id) K s:=by
 intro code hc G w a hN hr;obtain rfl:=KX hc
 grind[wp_exit,StepN.refl]
theorem T.IS{l:List RI}{K:Exit->St->Prop}{s:St}(h:Rl P l (K .normal) s):T P N (.IS l) K s:=by
 intro code hc G w a hN hr;obtain⟨id,ops,rfl,b⟩:=YP hc;exact wp_region_list (sE b h hr λs' G' w' a' c h2 d=>⟨s',G',c,h2,d.toN hN⟩)
theorem T.seq{c d:C}{K:Exit->St->Prop}{s:St}(h:T P N c (λe s'=>match e with|.normal=>T P N d K s'|e=>K e s') s):T P N (.seq c d) K s:=by
 intro code hc G w a hN hr;obtain⟨x,y,rfl,k,h2⟩:=J4 hc;refine wp_seq (Code.wp_mono ?_ (h x k G w a hN hr));rintro e a' w' ⟨s',G',j,f,b⟩
 cases e with
 |normal=>exact Code.wp_mono (λ_ _ _ ⟨i,g,l,m,k3⟩=>⟨i,g,l,m,b.trans k3⟩) (j y h2 G' w' a' b.n f)
 |_=>exact⟨s',G',j,f,b⟩
theorem T.cond{c:Operand}{x y:C}{t:Bool}{K:Exit->St->Prop}{s:St}(ht:s.ev c=.v (.bool t)) (b:t=true->T P N x K s) (h2:t=false->T P N y K s):T P N (.cond c x y) K s:=by
 intro code hc G w a hN hr;obtain⟨d,f,rfl,e1,e2⟩:=JX hc;have hv:=hr.ev c;rw[ht]at hv;simp only[VRel]at hv;exact wp_cond_split hv (λe=>b e d e1 G w a hN hr) (λe=>h2 e f e2 G w a hN hr)
theorem T.block{id:Nat}{x:C}{K:Exit->St->Prop}{s:St}(h:T P N x (λe s'=>match e with|.exit c=>if c=id then K .normal s' else K (.exit c) s'|e=>K e s') s):T P N (.block id x) K s:=by
 intro code hc G w a hN hr;obtain⟨b,rfl,hx⟩:=oT hc;refine wp_block (Code.wp_mono ?_ (h b hx G w a hN hr));rintro e a' w' ⟨s',G',g,d,f⟩
 cases e with
 |exit j=>
  simp only[Exit.inBlock]
  grind
 |_=>exact⟨s',G',g,d,f⟩
theorem wp_loop_ghost{c:Code}{Q:Exit->Act->World->Prop}(J:X->Act->World->Prop) (μ:X->Nat)
 (round:∀x a w,J x a w->c.wp P (Exit.then (λa' w'=>∃y,J y a' w'/\μ y<μ x) Q) a w):∀(x:X) (a:Act) (w:World),J x a w->(Code.loop c).wp P Q a w:=by
 intro x₀ a₀ w₀ h₀ b k cs;have key:∀n (x:X) a w,μ x=n->J x a w->
  ∃e a' w',Q e a' w'/\Arrives P (lone (b.at a (.code c::.inLoop c::k)) cs w) b k cs e a' w':=by
  intro n
  induction n using dad with
  |_ n h=>
   intro x a w hn g;obtain⟨e,a₁,w₁,hq,d⟩:=round x a w g b (.inLoop c::k) cs
   cases e with
   |normal=>
    obtain⟨y,hI₁,f⟩:=hq;obtain⟨e₂,a₂,w₂,hq₂,harr₂⟩:=h (μ y) (hn▸f) y a₁ w₁ rfl hI₁;exact⟨e₂,a₂,w₂,hq₂,.of_steps (Steps.trans d (.one step_inLoop)) harr₂⟩
   |exit id=>exact⟨_,a₁,w₁,hq,.pass (x:=.inLoop c) rfl (λ_ _=>.inl (by simp)) d⟩
   |goto l=>exact⟨_,a₁,w₁,hq,.pass (x:=.inLoop c) rfl (λ_ _=>.inl (by simp)) d⟩
   |ret=>exact⟨_,a₁,w₁,hq,.pass (x:=.inLoop c) rfl (λ_ _=>.inl (by simp)) d⟩
   |panic ch=>exact⟨_,a₁,w₁,hq,.pass (x:=.inLoop c) rfl (λ_ _=>.inl (by simp)) d⟩
   |outgrown=>exact⟨_,a₁,w₁,hq,.pass (x:=.inLoop c) rfl (λ_ _=>.inl (by simp)) d⟩
 obtain⟨e,a',w',hq,d⟩:=key _ x₀ a₀ w₀ rfl h₀;exact⟨e,a',w',hq,.of_steps (.one step_loop) d⟩
theorem T.loopI{x:C}(J:X->St->Prop) (μ:X->Nat) (x₀:X) (j:J x₀ s)
 (round:∀y s,J y s->T P N x (λe s'=>match e with|.normal=>∃z,J z s'/\μ z<μ y|e=>K e s') s):T P N (.loop x) K s:=by
 intro code hc G w a hN hr;obtain⟨b,rfl,hx⟩:=LX hc;refine wp_loop_ghost (J:=λ(y:X) a' w'=>∃s' G',J y s'/\Rel G' w' a' s'/\StepN N G w s.m G' w' s'.m) μ ?_ x₀ a w ⟨s,G,j,hr,StepN.refl _ _ _ hN⟩;rintro y a1 o ⟨s1,i,l,g,c⟩;refine Code.wp_mono ?_ (round y s1 l b hx i o a1 c.n g);rintro e a' w' ⟨s',G',h,d,f⟩
 cases e with
 |normal=>obtain⟨z,k,h2⟩:=h;exact⟨z,⟨s',G',k,d,c.trans f⟩,h2⟩
 |_=>exact⟨s',G',h,d,c.trans f⟩
def Zx(s:St):RV->Option D
 |.tmp t=>some (s.t.getD t .dead)
 |.cell A n a=>
  match fa s (.load A n (.tmp a))with
  |some (d,_)=>some d
  |none=>none
def Db(s:St):List RV->Option (List D)
 |[]=>some []
 |r::l=>
  match Zx s r,Db s l with
  |some d,some ds=>some (d::ds)
  |_,_=>none
def Zq:List D->D
 |[d]=>d
 |l=>.tup l
def XO(tmps:Array Value):ResultVar->Sem Value
 |.tmp t=>pure (tmps.getD t undef)
 |.cell a t=>do loadVar t (←asAddr (tmps.getD a undef))
theorem GU(fn:Func) (tmps:Array Value):results fn tmps=(do let vs←fn.results.mapM (XO tmps);pure (if h:vs.size=1 then vs[0]else .tuple vs)):=by
 unfold results;rfl
theorem JR:∀{l:List ResultVar}{rl:List RV}{s:St}{G:Gh}{w:World}{a:Act}{ds:List D},iA P l=some rl->Rel G w a s->Db s rl=some ds->
 ∃us:List Value,(l.mapM (XO a.tmps)).run P w=.ok us w/\VsRel G w ds us
 |[],rl,s,G,w,a,ds,hc,hr,hd=>by
  simp only[iA]at hc;injection hc with hc;subst hc;simp only[Db]at hd;injection hd with hd;subst hd;exact⟨[],by simp,by simp[VsRel]⟩
 |r::l,rl,s,G,w,a,ds,hc,hr,hd=>by
  simp only[iA]at hc;split at hc
  .rename_i x y c h2;injection hc with hc;subst hc;simp only[Db]at hd;split at hd
   .rename_i d ds' b f;injection hd with hd;subst hd;obtain⟨us,hrun,hv⟩:=JR h2 hr f
    cases r with
    |tmp t=>
     simp only[lT]at c;injection c with c;subst c;simp only[Zx]at b;injection b with b;subst b;have hx:=hr.ev (.tmp t);simp only[St.ev,Act.eval]at hx;refine⟨a.tmps.getD t undef::us,?_,by simp only[VsRel];grind⟩
     grind[XO,Sem.run_bind,Sem.run_pure,Result.andThen_ok]
    |cell p t=>
     simp only[lT,Faa]at c;obtain⟨q,hq,rfl⟩:=c;simp only[Zx]at b;split at b
     .rename_i e m0 he;injection b with b;subst b;obtain⟨ad,u,g,hrl,hvd,-⟩:=gK (P:=P) hr hq he;simp only[Act.eval]at g;refine⟨u::us,?_,by simp only[VsRel];grind⟩
      grind[XO,asAddr,Sem.run_bind,Sem.run_pure,Result.andThen_ok]
     simp_all
   simp_all
  simp_all
def PD(rs:List RV) (R:D->List Ent->Prop):Exit->St->Prop
 |.normal,s=>∃ds,Db s rs=some ds/\R (Zq ds) s.m
 |.ret,s=>∃ds,Db s rs=some ds/\R (Zq ds) s.m
 |_,_=>False
theorem tup_rel{G:Gh}{w:World}{ds:List D}{us:List Value}(h:VsRel G w ds us):VRel G w (Zq ds) (if h:us.toArray.size=1 then us.toArray[0]else .tuple us.toArray):=by
 match ds,h with
 |[],h=>
  simp only[VsRel]at h;subst h;simp only[fad,List.length_nil,Zq];rw[dif_neg (by decide)];simp only[VRel,VsRel];simp
 |[d],h=>
  simp only[VsRel]at h;obtain⟨u,r,rfl,hv,rfl⟩:=h
  grind[Zq]
 |d::e::l,h=>
  have hl:=h.length;rw[dif_neg (by simp_all)];simp only[Zq,VRel]
  simp_all
theorem SH{fn:Func}{F:Fun}{G:Gh}{w:World}{ds:List D}(hc:iA P fn.results.toList=some F.results) (hr:Rel G w a s) (hd:Db s F.results=some ds) :
 ∃v,(results fn a.tmps).run P w=.ok v w/\VRel G w (Zq ds) v:=by
 obtain⟨us,hrun,hv⟩:=JR hc hr hd;refine⟨_,?_,tup_rel hv⟩
 grind[GU,Array.mapM_eq_mapM_toList,Sem.run_bind,Sem.run_map,Result.andThen_ok,Sem.run_pure]
theorem oP(G:Gh) (w:World):∀n,VsRel G w (Daa n .dead) (Daa n undef)
 |0=>by simp[VsRel]
 |n+1=>by simp only[List.replicate_succ,VsRel];exact⟨_,_,rfl,by simp[VRel],oP G w n⟩
theorem gm{f:FuncId}{F:Fun}{ds:List D}{m:List Ent}{R:D->List Ent->Prop}(g:pz P f=some F) (hname:((P.funcs[f]?).map λfn=>fn.name == "runtime.NumGoroutine")=some false)
 (h:T P m.length F.code (PD F.results R) ⟨ds++Daa (F.ntmps-ds.length) .dead,m⟩):CallT P f ds m R:=by
 unfold pz at g;split at g
 .rename_i fn i;split at g
  .rename_i b r hb k;simp only[Faa]at g;obtain⟨c,hc,rfl⟩:=g;refine⟨⟨fn,i,by simp_all,by simp_all⟩,λG w vs hv hi=>?_⟩;refine calls_of_wp i hb ?_;have j:=hv.length;have hr:Rel G w { tmps:=vs.toArray++Uab (fn.ntmps-vs.toArray.size) undef,defers:=[] } ⟨ds++Daa (fn.ntmps-ds.length) .dead,m⟩:=by
    refine⟨?_,hi,rfl⟩;simp only[Array.toList_append,Array.toList_replicate,fad,j];exact hv.append (oP _ _ _)
   refine Code.wp_mono ?_ (h b hc G w _ (by rw[hi.n];omega) hr);rintro e a' w' ⟨s',G',p,a,o⟩;have s:Step G w m G' w' s'.m:=by rw[←hi.n]at o;exact o.toStep
   have fin:(∃ds,Db s' r=some ds/\R (Zq ds) s'.m)->a'.defers=[]/\∃v,(results fn a'.tmps).run P w'=.ok v w'/\∃v_1 d m' G',Ending.returned v=.returned v_1/\R d m'/\VRel G' w' d v_1/\Inv G' w' m'/\Step G w m G' w' m':=by
    rintro⟨es,q,u⟩;obtain⟨v,l,t⟩:=SH (F:=⟨fn.ntmps,r,c⟩) k a q;exact⟨a.defers,v,l,v,_,_,G',rfl,u,t,a.inv,s⟩
   cases e with
   |normal=>exact fin p
   |ret=>exact fin p
   |_=>exact p.elim
  simp_all
 simp_all
end
structure SubF (G:Gh) (w:World) (G':Gh) (w':World):Prop where
 F:∀b,G.F b->G'.F b
 heap:∀b,G.F b->w'.heap[b]?=w.heap[b]?
mutual
theorem VRel.free{G G':Gh}{w w':World}(c:SubF G w G' w'):∀{d:D}{u:Value},va d=true->VRel G w d u->VRel G' w' d u
 |.v x,u,_,h=>by simpa [VRel] using h
 |.agg l,u,hf,h=>by
  simp only[VRel,va]at h hf⊢;obtain⟨cs,rfl,h,g⟩:=h;exact⟨cs,rfl,VsRel.free c hf h,g⟩
 |.tup l,u,hf,h=>by
  simp only[VRel,va]at h hf⊢;obtain⟨cs,rfl,h⟩:=h;exact⟨cs,rfl,VsRel.free c hf h⟩
 |.sl S l,u,hf,h=>by
  simp only[VRel,va]at h hf⊢;obtain⟨a,n,cap,rfl,hn,hc,h⟩:=h;refine⟨a,n,cap,rfl,hn,hc,?_⟩;rcases h with h|⟨b,off,rfl,e,hr⟩
  .simp_all
  .exact .inr ⟨b,off,rfl,c.F b e,Qa.free c (c.heap b e) hf hr⟩
 |.pt d,u,hf,h=>by
  simp only[VRel,va]at h hf⊢;obtain⟨b,off,x,rfl,e,hd,i⟩:=h;exact⟨b,off,x,rfl,c.F b e,VRel.free c hf hd,i.mono (c.heap b e)⟩
 |.fn f first caps,u,hf,h=>by
  simp only[VRel,va,Laa]at h hf⊢;obtain⟨fs,cs,rfl,g,h2⟩:=h;exact⟨fs,cs,rfl,VsRel.free c hf.1 g,VsRel.free c hf.2 h2⟩
 |.ifc t d,u,hf,h=>by
  simp only[VRel,va]at h hf⊢;obtain⟨x,rfl,h⟩:=h;exact⟨x,rfl,VRel.free c hf h⟩
 |.dead,u,_,h=>by simp[VRel]
 |.ref ..,_,hf,_=>by grind[va]
 |.own ..,_,hf,_=>by grind[va]
 |.view ..,_,hf,_=>by grind[va]
 |.mp _,_,hf,_=>by grind[va]
theorem VsRel.free{G G':Gh}{w w':World}(a:SubF G w G' w'):∀{l:List D}{us:List Value},oa l=true->VsRel G w l us->VsRel G' w' l us
 |[],us,_,h=>by simpa [VsRel] using h
 |d::l,us,hf,h=>by
  simp only[VsRel,oa,Laa]at h hf⊢;obtain⟨u,r,rfl,b,h2⟩:=h;exact⟨u,r,rfl,VRel.free a hf.1 b,VsRel.free a hf.2 h2⟩
theorem Qa.free{G G':Gh}{w w':World}(a:SubF G w G' w') {b S:Nat}(hb:w'.heap[b]?=w.heap[b]?) :
 ∀{l:List D} {off:Nat},oa l=true->Qa G w b S l off->Qa G' w' b S l off
 |[],off,_,h=>by simp[Qa]
 |d::l,off,hf,h=>by
  simp only[Qa,oa,Laa]at h hf⊢;obtain⟨⟨u,c,h2,e⟩,f⟩:=h;exact⟨⟨u,VRel.free a hf.1 c,h2,e.mono hb⟩,Qa.free a hb hf.2 f⟩
end
def Yf:Nat->List Ent->D->D
 |0,_,_=>.dead
 |k+1,m,d=>
  match d with
  |.agg l=>.agg (l.map (Yf k m))
  |.tup l=>.tup (l.map (Yf k m))
  |.sl S l=>if oa l then d else .sl S (l.map (Yf k m))
  |.pt d=>.pt (Yf k m d)
  |.own id Oa=>
   match m[id]? with
   |some (.live S c l)=>if c=Oa then .sl S (if oa l then l else l.map (Yf k m))else .dead
   |_=>.dead
  |.view id Oa lo n=>
   match m[id]? with
   |some (.live S c l)=>if c=Oa/\lo+n<=l.length then .sl S (((if oa l then l else l.map (Yf k m)).drop lo).take n)else .dead
   |_=>.dead
  |.ref id Oa x s=>
   match m[id]? with
   |some (.live _ c l)=>if c=Oa/\s=0 then(match l[x]? with|some e=>.pt (Yf k m e)|none=>.dead)else .dead
   |_=>.dead
  |.fn f a b=>.fn f (a.map (Yf k m)) (b.map (Yf k m))
  |.v x=>.v x
  |_=>.dead
theorem EH{f:D->D}(h:∀d,va (f d)=true):∀l:List D,oa (l.map f)=true
 |[]=>rfl
 |d::l=>by simp[oa,h d,EH h l]
theorem zk:∀{l:List D},oa l=true↔∀d∈l,va d=true
 |[]=>by simp[oa]
 |d::l=>by simp[oa,zk (l:=l)]
theorem FC:∀(k:Nat) (m:List Ent) (d:D),va (Yf k m d)=true
 |0,m,d=>rfl
 |k+1,m,d=>by
  have ih:=EH (FC k m)
  cases d with
  |agg l=>grind[Yf,va]
  |tup l=>grind[Yf,va]
  |sl S l=>
   grind[Yf,va]
  |pt d=>simpa [Yf,va] using FC k m d
  |own id Oa=>
   grind[Yf,va]
  |view id Oa lo n=>
   grind[Yf,va,zk]
  |ref id Oa x s=>
   simp only[Yf];split
   .split
    .split
     .simpa [va] using FC k m _
     .rfl
    .rfl
   .rfl
  |fn f a b=>grind[Yf,va]
  |_=>rfl
def Gh.Yf(G:Gh) (m:List Ent):Gh:={ G with F:=λb=>G.F b\/Zf G m b }
theorem FB{G:Gh}{w:World}{m:List Ent}:SubF G w (G.Yf m) w:=⟨λ_ h=>.inl h,λ_ _=>rfl⟩
theorem Wu{G:Gh}{w:World}{G':Gh}{f:D->D}(h:∀d u,VRel G w d u->VRel G' w (f d) u):∀{l:List D}{us:List Value},VsRel G w l us->VsRel G' w (l.map f) us
 |[],us,hv=>by simpa [VsRel] using hv
 |d::l,us,hv=>by
  simp only[VsRel,cab]at hv⊢;obtain⟨u,r,rfl,a,h2⟩:=hv;exact⟨u,r,rfl,h d u a,Wu h h2⟩
theorem Zv{G:Gh}{w:World}{G':Gh}{f:D->D}(h:∀d u,VRel G w d u->VRel G' w (f d) u) {b S:Nat}:∀{l:List D}{off:Nat},Qa G w b S l off->Qa G' w b S (l.map f) off
 |[],off,hv=>by simp[Qa]
 |d::l,off,hv=>by
  simp only[Qa,cab]at hv⊢;obtain⟨⟨u,a,h2,c⟩,e⟩:=hv;exact⟨⟨u,h d u a,h2,c⟩,Zv h e⟩
theorem CQ{G:Gh}{w:World}{m:List Ent}(hi:Inv G w m):∀(k:Nat) (d:D) (u:Value),VRel G w d u->VRel (G.Yf m) w (Yf k m d) u
 |0,d,u,_=>by simp[Yf,VRel]
 |k+1,d,u,hv=>by
  have y:=CQ hi k
  cases d with
  |v x=>simpa [Yf,VRel] using hv
  |agg l=>
   simp only[Yf,VRel]at hv⊢;obtain⟨cs,rfl,A,h2⟩:=hv;exact⟨cs,rfl,Wu y A,h2⟩
  |tup l=>
   simp only[Yf,VRel]at hv⊢;obtain⟨cs,rfl,A⟩:=hv;exact⟨cs,rfl,Wu y A⟩
  |sl S l=>
   simp only[Yf];split
   .rename_i hf;exact hv.free FB (by grind[va])
   .simp only[VRel]at hv⊢;obtain⟨a,n,cap,rfl,hn,hc,h⟩:=hv;refine⟨a,n,cap,rfl,by simp_all,hc,?_⟩;rcases h with h|⟨b,off,rfl,z,hr⟩
    .simp_all
    .exact .inr ⟨b,off,rfl,.inl z,Zv y hr⟩
  |pt d=>
   simp only[Yf,VRel]at hv⊢;obtain⟨b,off,x,rfl,z,hd,K⟩:=hv;exact⟨b,off,x,rfl,.inl z,y d x hd,K⟩
  |own id Oa=>
   simp only[Yf];split
   .rename_i S r l hm;split
    .rename_i j;subst j;simp only[VRel]at hv⊢;obtain⟨p,n,c,rfl,B,q,hx⟩:=hv;obtain⟨a1,a2,a3,a4,a5⟩:=hi.ent _ _ hm;obtain⟨rfl,rfl,rfl⟩:=hx a1;have E:(if oa l=true then l else l.map (Yf k m)).length=l.length:=by grind
     refine⟨_,_,_,rfl,by omega,by omega,?_⟩
     .rcases a5 with a5|⟨H,cs,T,g,z,o,F,i⟩
      .simp_all
      .refine .inr ⟨H,(G.C id).2,by simp_all,.inr ⟨id,_,hm,rfl,g⟩,?_⟩;split
       .rename_i hf;exact i.free FB rfl hf
       grind[Zv]
    .simp[VRel]
   .simp[VRel]
  |view id Oa lo n=>
   simp only[Yf];split
   .rename_i S r l hm;split
    .rename_i j;obtain⟨rfl,hle⟩:=j;simp only[VRel]at hv⊢;obtain⟨p,c,rfl,I,B,q,hx⟩:=hv;obtain⟨a1,a2,a3,a4,a5⟩:=hi.ent _ _ hm;have E:(if oa l=true then l else l.map (Yf k m)).length=l.length:=by grind
     have t:(((if oa l=true then l else l.map (Yf k m)).drop lo).take n).length=n:=by
      grind
     refine⟨p,n,c,rfl,t.symm,I,?_⟩
     .rcases hx a1 with rfl|⟨b,hb,rfl⟩
      .simp
      .rcases a5 with a5|⟨H,cs,T,g,z,o,F,i⟩
       .simp_all
       .rw[hb]at g;injection g with g;subst g;refine .inr ⟨b,lo*S+(G.C id).2,by rw[a2],.inr ⟨id,_,hm,rfl,hb⟩,?_⟩;have:Qa (G.Yf m) w b S (if oa l=true then l else l.map (Yf k m)) (G.C id).2:=by
         split
         .rename_i hf;exact i.free FB rfl hf
         grind[Zv]
        grind[Fx,Dx]
    .simp[VRel]
   .simp[VRel]
  |ref id Oa x s=>
   simp only[Yf];split
   .rename_i S r l hm;split
    .rename_i j;obtain⟨rfl,rfl⟩:=j;split
     .rename_i e he;simp only[VRel]at hv⊢;obtain⟨p,rfl,B,q,hx⟩:=hv;obtain⟨a1,a2,a3,a4,a5⟩:=hi.ent _ _ hm;obtain⟨b,hb,rfl⟩:=hx a1;rcases a5 with a5|⟨H,cs,T,g,z,o,F,i⟩
      .simp_all
      .rw[hb]at g;injection g with g;subst g;obtain⟨J,g1,g2,g3⟩:=rf.1 i x e he;refine⟨b,_,J,rfl,.inr ⟨id,_,hm,rfl,hb⟩,y e J g1,?_⟩
       grind
     .simp[VRel]
    .simp[VRel]
   .simp[VRel]
  |fn f a b=>
   simp only[Yf,VRel]at hv⊢;obtain⟨fs,cs,rfl,A,h2⟩:=hv;exact⟨fs,cs,rfl,Wu y A,Wu y h2⟩
  |_=>simp[Yf,VRel]
def Gh.bare(F:Nat->Prop):Gh:=⟨F,0,λ_=>none,λ_=>0,λ_=>0,λ_=>0,λ_=>(0,0)⟩
theorem AY{g:Nat}(h:gtab g=some d):va d=true:=by
 unfold gtab at h;split at h
 .injection h with h;subst h;rfl
 .cases h
theorem GOK.bare{G G':Gh}{w:World}(h:GOK G w) (a:∀b,G.F b->G'.F b):GOK G' w:=λg d hd=>
 VRel.free (G:=G) (G':=G') ⟨a,λ_ _=>rfl⟩ (d:=.pt d) (by grind[va,AY]) (h g d hd)
theorem jF{w:World}(h:∀b,F b->b<w.heap.size) (a:GOK (Gh.bare F) w):Inv (Gh.bare F) w []:=
 ⟨rfl,h,λi e he=>by simp at he,λi j e e' he=>by simp,a⟩
theorem HC{G:Gh}:¬Zf G [] b:=λ⟨i,e,he,_⟩=>by simp at he
theorem CM{G G':Gh}{w w':World}{m m':List Ent}(hi:Inv G w m) (d:Step (Gh.bare F) w [] G' w' m') (l:Inv G' w' m') (o:∀b,G.F b->F b) :
 (∀b,b<w.heap.size->w'.heap[b]?=w.heap[b]?)/\
 (Inv G w' m/\Step G w m G w' m)/\
 ((∀b,F b->G.F b)->Inv { G with F:=λb=>G'.F b\/Zf G' m' b } w' m/\Step G w m { G with F:=λb=>G'.F b\/Zf G' m' b } w' m):=by
 have a:∀b,b<w.heap.size->w'.heap[b]?=w.heap[b]?:=λb hb=>d.keep b hb HC;have f:∀i x,m[i]?=some x->x.isLive=true->∀k,G.B i=some k->k<w.heap.size:=λi x hx hl k hk=>((hi.ent i x hx).lt hl hk).1;refine⟨a,?_,λj=>?_⟩
 .have c:Le G w G w':=⟨λ_ h=>h,λb hb=>a b (hi.F b hb),Paa _,λ_ _=>.inl ⟨rfl,rfl,rfl,rfl,rfl⟩⟩;refine⟨⟨hi.n,λb hb=>lab (hi.F b hb) d.size,λi e he=>?_,hi.apart,hi.gl.mono c⟩,⟨c,d.os,d.tape,d.output,d.size,λb hb _=>a b hb,λ_ _ h=>.inl h,λ_ _ h=>h⟩⟩;by_cases hl:e.isLive=true
  .exact(hi.ent i e he).mono c ⟨rfl,rfl,rfl,rfl,rfl⟩ (λb hb=>a b (f i e he hl b hb)) (λ_ _ _ h=>h)
  .cases e with
   |gone=>trivial
   |_=>grind[Ent.isLive]
 .have c:Le G w { G with F:=λb=>G'.F b\/Zf G' m' b } w':=⟨λb h=>.inl (d.le.F b (o b h)),λb hb=>a b (hi.F b hb),Paa _,λ_ _=>.inl ⟨rfl,rfl,rfl,rfl,rfl⟩⟩;have g:∀b,b<w.heap.size->(G'.F b\/Zf G' m' b)->G.F b:=by
   intro b hb h;rcases h with h|h
   .rcases d.newF b hb h with h|h
    .exact j b h
    grind[HC]
   .exact(HC (d.newB b hb h)).elim
  refine⟨⟨hi.n,?_,λi e he=>?_,hi.apart,hi.gl.mono c⟩,⟨c,d.os,d.tape,d.output,d.size,λb hb _=>a b hb,λb hb h=>.inl (g b hb h),λ_ _ h=>h⟩⟩
  .rintro b (h|h)
   .exact l.F b h
   grind[Zf.lt]
  .by_cases hl:e.isLive=true
   .exact(hi.ent i e he).mono c ⟨rfl,rfl,rfl,rfl,rfl⟩ (λb hb=>a b (f i e he hl b hb)) (λb hb _ h=>g b (f i e he hl b hb) h)
   .cases e with
    |gone=>trivial
    |_=>grind[Ent.isLive]
mutual
def flat:D->Bool
 |.v _=>true
 |.agg l=>SM l
 |.tup l=>SM l
 |.dead=>true
 |_=>false
def SM:List D->Bool
 |[]=>true
 |d::l=>flat d&&SM l
end
mutual
theorem VRel.flat{G G':Gh}{w w':World}:∀{d:D}{u:Value},flat d=true->VRel G w d u->VRel G' w' d u
 |.v x,u,_,h=>by simpa [VRel] using h
 |.agg l,u,hf,h=>by
  simp only[VRel,Tm.flat]at h hf⊢;obtain⟨cs,rfl,h,a⟩:=h;exact⟨cs,rfl,VsRel.flat hf h,a⟩
 |.tup l,u,hf,h=>by
  simp only[VRel,Tm.flat]at h hf⊢;obtain⟨cs,rfl,h⟩:=h;exact⟨cs,rfl,VsRel.flat hf h⟩
 |.dead,u,_,h=>by simp[VRel]
 |.sl ..,_,hf,_=>by grind[Tm.flat]
 |.pt ..,_,hf,_=>by grind[Tm.flat]
 |.fn ..,_,hf,_=>by grind[Tm.flat]
 |.ref ..,_,hf,_=>by grind[Tm.flat]
 |.own ..,_,hf,_=>by grind[Tm.flat]
 |.view ..,_,hf,_=>by grind[Tm.flat]
 |.mp _,_,hf,_=>by grind[Tm.flat]
 |.ifc ..,_,hf,_=>by grind[Tm.flat]
theorem VsRel.flat{G G':Gh}{w w':World}:∀{l:List D}{us:List Value},SM l=true->VsRel G w l us->VsRel G' w' l us
 |[],us,_,h=>by simpa [VsRel] using h
 |d::l,us,hf,h=>by
  simp only[VsRel,SM,Laa]at h hf⊢;obtain⟨u,r,rfl,a,h2⟩:=h;exact⟨u,r,rfl,VRel.flat hf.1 a,VsRel.flat hf.2 h2⟩
end
open Go.RowKit (Below)
mutual
def Sub:D->D->Prop
 |_,.dead=>True
 |.v x,.sl _ l=>x=.slice none 0 0/\l=[]
 |.agg l,.agg r=>xa l r
 |.tup l,.tup r=>xa l r
 |.sl S l,.sl S' r=>S=S'/\xa l r
 |d,e=>d=e
def xa:List D->List D->Prop
 |[],r=>r=[]
 |d::l,r=>∃e a,r=e::a/\Sub d e/\xa l a
end
theorem xa.length:∀{l r:List D},xa l r->l.length=r.length
 |[],r,h=>by simp[xa]at h;simp[h]
 |d::l,r,h=>by
  simp only[xa]at h;obtain⟨e,r',rfl,_,h2⟩:=h;simp[xa.length h2]
mutual
theorem Sub.rel{G:Gh}{w:World}:∀{d e:D}{u:Value},Sub d e->VRel G w d u->VRel G w e u
 |d,.dead,u,_,_=>by simp[VRel]
 |.v x,.sl S l,u,f,h=>by
  simp only[Sub]at f;obtain⟨rfl,rfl⟩:=f;simp only[VRel]at h⊢
  grind
 |.agg l,.agg r,u,f,h=>by
  simp only[Sub]at f;simp only[VRel]at h⊢;obtain⟨cs,rfl,h,g⟩:=h;exact⟨cs,rfl,xa.rel f h,g⟩
 |.tup l,.tup r,u,f,h=>by
  simp only[Sub]at f;simp only[VRel]at h⊢;obtain⟨cs,rfl,h⟩:=h;exact⟨cs,rfl,xa.rel f h⟩
 |.sl S l,.sl S' r,u,f,h=>by
  simp only[Sub]at f;obtain⟨rfl,f⟩:=f;simp only[VRel]at h⊢;obtain⟨a,n,cap,rfl,hn,hc,h⟩:=h;refine⟨a,n,cap,rfl,by rw[←f.length];omega,hc,?_⟩;rcases h with rfl|⟨b,off,rfl,i,hr⟩
  .simp only[xa]at f;simp_all
  .exact .inr ⟨b,off,rfl,i,xa.row f hr⟩
 |.v x,.v y,u,f,h=>by simp only[Sub]at f;simp_all
 |.v x,.agg y,u,f,h=>by simp only[Sub]at f;grind
 |.v x,.tup y,u,f,h=>by simp only[Sub]at f;grind
 |.v x,.pt y,u,f,h=>by simp only[Sub]at f;grind
 |.v x,.ref ..,u,f,h=>by simp only[Sub]at f;grind
 |.v x,.own ..,u,f,h=>by simp only[Sub]at f;grind
 |.v x,.view ..,u,f,h=>by simp only[Sub]at f;grind
 |.v x,.fn ..,u,f,h=>by simp only[Sub]at f;grind
 |.v x,.mp ..,u,f,h=>by simp only[Sub]at f;grind
 |.v x,.ifc ..,u,f,h=>by simp only[Sub]at f;grind
 |.agg l,.v y,u,f,h=>by simp only[Sub]at f;grind
 |.agg l,.tup y,u,f,h=>by simp only[Sub]at f;grind
 |.agg l,.sl ..,u,f,h=>by simp only[Sub]at f;grind
 |.agg l,.pt y,u,f,h=>by simp only[Sub]at f;grind
 |.agg l,.ref ..,u,f,h=>by simp only[Sub]at f;grind
 |.agg l,.own ..,u,f,h=>by simp only[Sub]at f;grind
 |.agg l,.view ..,u,f,h=>by simp only[Sub]at f;grind
 |.agg l,.fn ..,u,f,h=>by simp only[Sub]at f;grind
 |.agg l,.mp ..,u,f,h=>by simp only[Sub]at f;grind
 |.agg l,.ifc ..,u,f,h=>by simp only[Sub]at f;grind
 |.tup l,.v y,u,f,h=>by simp only[Sub]at f;grind
 |.tup l,.agg y,u,f,h=>by simp only[Sub]at f;grind
 |.tup l,.sl ..,u,f,h=>by simp only[Sub]at f;grind
 |.tup l,.pt y,u,f,h=>by simp only[Sub]at f;grind
 |.tup l,.ref ..,u,f,h=>by simp only[Sub]at f;grind
 |.tup l,.own ..,u,f,h=>by simp only[Sub]at f;grind
 |.tup l,.view ..,u,f,h=>by simp only[Sub]at f;grind
 |.tup l,.fn ..,u,f,h=>by simp only[Sub]at f;grind
 |.tup l,.mp ..,u,f,h=>by simp only[Sub]at f;grind
 |.tup l,.ifc ..,u,f,h=>by simp only[Sub]at f;grind
 |.sl S l,.v y,u,f,h=>by simp only[Sub]at f;grind
 |.sl S l,.agg y,u,f,h=>by simp only[Sub]at f;grind
 |.sl S l,.tup ..,u,f,h=>by simp only[Sub]at f;grind
 |.sl S l,.pt y,u,f,h=>by simp only[Sub]at f;grind
 |.sl S l,.ref ..,u,f,h=>by simp only[Sub]at f;grind
 |.sl S l,.own ..,u,f,h=>by simp only[Sub]at f;grind
 |.sl S l,.view ..,u,f,h=>by simp only[Sub]at f;grind
 |.sl S l,.fn ..,u,f,h=>by simp only[Sub]at f;grind
 |.sl S l,.mp ..,u,f,h=>by simp only[Sub]at f;grind
 |.sl S l,.ifc ..,u,f,h=>by simp only[Sub]at f;grind
 |.pt x,e,u,f,h=>by cases e<;>simp only[Sub]at f<;>first|(simp[VRel];done)|(rw[←f];exact h)|cases f
 |.ref a b c d,e,u,f,h=>by cases e<;>simp only[Sub]at f<;>first|(simp[VRel];done)|(rw[←f];exact h)|cases f
 |.own a b,e,u,f,h=>by cases e<;>simp only[Sub]at f<;>first|(simp[VRel];done)|(rw[←f];exact h)|cases f
 |.view a b c d,e,u,f,h=>by cases e<;>simp only[Sub]at f<;>first|(simp[VRel];done)|(rw[←f];exact h)|cases f
 |.fn a b c,e,u,f,h=>by cases e<;>simp only[Sub]at f<;>first|(simp[VRel];done)|(rw[←f];exact h)|cases f
 |.mp a,e,u,f,h=>by cases e<;>simp only[Sub]at f<;>first|(simp[VRel];done)|(rw[←f];exact h)|cases f
 |.ifc a b,e,u,f,h=>by cases e<;>simp only[Sub]at f<;>first|(simp[VRel];done)|(rw[←f];exact h)|cases f
 |.dead,e,u,f,h=>by cases e<;>simp only[Sub]at f<;>first|(simp[VRel];done)|(rw[←f];exact h)|cases f
theorem xa.rel{G:Gh}{w:World}:∀{l r:List D}{us:List Value},xa l r->VsRel G w l us->VsRel G w r us
 |[],r,us,a,h=>by simp only[xa]at a;subst a;exact h
 |d::l,r,us,a,h=>by
  simp only[xa]at a;obtain⟨e,r',rfl,c,h2⟩:=a;simp only[VsRel]at h⊢;obtain⟨u,b,rfl,g1,g2⟩:=h;exact⟨u,b,rfl,Sub.rel c g1,xa.rel h2 g2⟩
theorem xa.row{G:Gh}{w:World}{b S:Nat}:∀{l r:List D}{off:Nat},xa l r->Qa G w b S l off->Qa G w b S r off
 |[],r,off,a,h=>by simp only[xa]at a;subst a;exact h
 |d::l,r,off,a,h=>by
  simp only[xa]at a;obtain⟨e,r',rfl,c,h2⟩:=a;simp only[Qa]at h⊢;obtain⟨⟨u,g1,g2,g3⟩,g4⟩:=h;exact⟨⟨u,Sub.rel c g1,g2,g3⟩,xa.row h2 g4⟩
end
mutual
theorem Sub.refl:∀d:D,Sub d d
 |.v x=>by simp[Sub]
 |.agg l=>by simp only[Sub];exact xa.Dc l
 |.tup l=>by simp only[Sub];exact xa.Dc l
 |.sl S l=>by simp only[Sub,true_and];exact xa.Dc l
 |.pt d=>by simp[Sub]
 |.ref ..=>by simp[Sub]
 |.own ..=>by simp[Sub]
 |.view ..=>by simp[Sub]
 |.fn ..=>by simp[Sub]
 |.mp ..=>by simp[Sub]
 |.ifc ..=>by simp[Sub]
 |.dead=>by simp[Sub]
theorem xa.Dc:∀l:List D,xa l l
 |[]=>by simp[xa]
 |d::l=>by simp only[xa];exact⟨d,l,rfl,Sub.refl d,xa.Dc l⟩
end
section
variable {P:Program} {N:Nat}
theorem T.sub{c:C}(t':List D) (a:xa s.t t') (h:T P N c K ⟨t',s.m⟩):T P N c K s:=
 T.ghost (s':=⟨t',s.m⟩) (λG w _ hN hr=>⟨G,⟨a.rel hr.t,hr.inv,hr.defers⟩,StepN.refl _ _ _ hN⟩) h
theorem T.tD{c:C}(i S:Nat) (hi:s.t[i]?=some (.v (.slice none 0 0))) (h:T P N c K ⟨s.t.set i (.own s.m.length 0),s.m++[.live S 0 []]⟩):T P N c K s:=by
 refine T.ghost (λG w a hN hr=>?_) h;have e:=jB (w':=w) hr.inv none S 0 0 (.live S 0 []) rfl rfl rfl rfl (Paa _) (λ_ _=>rfl) (λk h=>by cases h)
  ⟨by simp[Gh.add],by simp[Gh.add],by simp[Gh.add],by simp,.inl ⟨by simp[Gh.add],by simp[Gh.add]⟩⟩
 refine⟨_,⟨?_,e.1,hr.defers⟩,e.2.toN hN⟩;have hx:=VsRel.get i hr.t;rw[Gac,hi]at hx;simp only[Lab,VRel]at hx;have hset:=VsRel.set (d:=.own s.m.length 0) (x:=.slice none 0 0) (WB (s:=s) (b:=none) (S:=S) (N:=0) (C:=0) (w':=w) hr.inv.n) i (hr.t.mono e.2.le);have hself:a.tmps.toList.set i (.slice none 0 0)=a.tmps.toList:=by
  rw[←hx];apply List.ext_getElem?
  grind
 simp_all
mutual
def below(k:Nat):D->Bool
 |.agg l=>belows k l
 |.tup l=>belows k l
 |.sl _ l=>belows k l
 |.pt d=>below k d
 |.ref i _ _ _=>decide (i<k)
 |.own i _=>decide (i<k)
 |.view i _ _ _=>decide (i<k)
 |.fn _ a b=>belows k a&&belows k b
 |.mp i=>decide (i<k)
 |.ifc _ d=>below k d
 |_=>true
def belows(k:Nat):List D->Bool
 |[]=>true
 |d::l=>below k d&&belows k l
end
mutual
theorem Me(k:Nat):∀d:D,va d=true->below k d=true
 |.v _,_=>by simp[below]
 |.agg l,h=>by simp only[below];exact Zd k l (by grind[va])
 |.tup l,h=>by simp only[below];exact Zd k l (by grind[va])
 |.sl _ l,h=>by simp only[below];exact Zd k l (by grind[va])
 |.pt d,h=>by simp only[below];exact Me k d (by grind[va])
 |.ifc _ d,h=>by simp only[below];exact Me k d (by grind[va])
 |.fn _ a b,h=>by
  simp only[va,Laa]at h;simp only[below,Laa];exact⟨Zd k a h.1,Zd k b h.2⟩
 |.dead,_=>by simp[below]
 |.ref ..,h=>by grind[va]
 |.own ..,h=>by grind[va]
 |.view ..,h=>by grind[va]
 |.mp _,h=>by grind[va]
theorem Zd(k:Nat):∀l:List D,oa l=true->belows k l=true
 |[],_=>by simp[belows]
 |d::l,h=>by
  simp only[oa,Laa]at h;simp only[belows,Laa];exact⟨Me k d h.1,Zd k l h.2⟩
end
def Ent.below(k:Nat):Ent->Bool
 |.live _ _ l=>belows k l
 |.mp es=>es.all λe=>Tm.below k e.2
 |.gone=>true
def Gh.trim(G:Gh) (k:Nat):Gh:={ G with n:=k }
mutual
theorem VRel.trim{G:Gh}{w:World}{k:Nat}:∀{d:D}{u:Value},below k d=true->VRel G w d u->VRel (G.trim k) w d u
 |.v x,u,_,h=>by simpa [VRel] using h
 |.agg l,u,hb,h=>by
  simp only[VRel,below]at h hb⊢;obtain⟨cs,rfl,h,e⟩:=h;exact⟨cs,rfl,VsRel.trim hb h,e⟩
 |.tup l,u,hb,h=>by
  simp only[VRel,below]at h hb⊢;obtain⟨cs,rfl,h⟩:=h;exact⟨cs,rfl,VsRel.trim hb h⟩
 |.sl S l,u,hb,h=>by
  simp only[VRel,below]at h hb⊢;obtain⟨a,n,cap,rfl,hn,hc,h⟩:=h;refine⟨a,n,cap,rfl,hn,hc,?_⟩;rcases h with h|⟨b,off,rfl,g,hr⟩
  .simp_all
  .exact .inr ⟨b,off,rfl,g,Qa.trim hb hr⟩
 |.pt d,u,hb,h=>by
  simp only[VRel,below]at h hb⊢;obtain⟨b,off,x,rfl,g,hd,i⟩:=h;exact⟨b,off,x,rfl,g,VRel.trim hb hd,i⟩
 |.ref ..,u,hb,h=>by
  simp only[VRel,below,decide_eq_true_eq]at h hb⊢;obtain⟨a,hu,_,h⟩:=h;exact⟨a,hu,hb,h⟩
 |.own ..,u,hb,h=>by
  simp only[VRel,below,decide_eq_true_eq]at h hb⊢;obtain⟨a,n,c,hu,_,h⟩:=h;exact⟨a,n,c,hu,hb,h⟩
 |.view ..,u,hb,h=>by
  simp only[VRel,below,decide_eq_true_eq]at h hb⊢;obtain⟨a,c,hu,hn,_,h⟩:=h;exact⟨a,c,hu,hn,hb,h⟩
 |.mp _,u,hb,h=>by
  simp only[VRel,below,decide_eq_true_eq]at h hb⊢;obtain⟨b,hu,_,h⟩:=h;exact⟨b,hu,hb,h⟩
 |.ifc t d,u,hb,h=>by
  simp only[VRel,below]at h hb⊢;obtain⟨x,rfl,h⟩:=h;exact⟨x,rfl,VRel.trim hb h⟩
 |.fn f first caps,u,hb,h=>by
  simp only[VRel,below,Laa]at h hb⊢;obtain⟨fs,cs,rfl,e,h2⟩:=h;exact⟨fs,cs,rfl,VsRel.trim hb.1 e,VsRel.trim hb.2 h2⟩
 |.dead,u,_,h=>by simp[VRel]
theorem VsRel.trim{G:Gh}{w:World}{k:Nat}:∀{l:List D}{us:List Value},belows k l=true->VsRel G w l us->VsRel (G.trim k) w l us
 |[],us,_,h=>by simpa [VsRel] using h
 |d::l,us,hb,h=>by
  simp only[VsRel,belows,Laa]at h hb⊢;obtain⟨u,r,rfl,a,h2⟩:=h;exact⟨u,r,rfl,VRel.trim hb.1 a,VsRel.trim hb.2 h2⟩
theorem Qa.trim{G:Gh}{w:World}{k b S:Nat}:∀{l:List D}{off:Nat},belows k l=true->Qa G w b S l off->Qa (G.trim k) w b S l off
 |[],off,_,h=>by simp[Qa]
 |d::l,off,hb,h=>by
  simp only[Qa,belows,Laa]at h hb⊢;obtain⟨⟨u,a,h2,c⟩,e⟩:=h;exact⟨⟨u,VRel.trim hb.1 a,h2,c⟩,Qa.trim hb.2 e⟩
end
theorem Wd.trim{G:Gh}{w:World}{k:Nat}:∀{l:List (Value×D)}{es:List MapEntry},(l.all λe=>below k e.2)=true->Wd G w l es->Wd (G.trim k) w l es
 |[],es,_,h=>h
 |(q,d)::l,es,hb,h=>by
  simp only[List.all_cons,Laa]at hb;obtain⟨e,r,a,b,h2,c⟩:=h;exact⟨e,r,a,b,h2.trim hb.1,c.trim hb.2⟩
theorem T.trim{c:C}{K:Exit->St->Prop}{s:St}(k:Nat) (hN:N<=k) (hk:k<=s.m.length) (ht:belows k s.t=true) (hm:(s.m.take k).all (Ent.below k)=true) (h:T P N c K ⟨s.t,s.m.take k⟩):T P N c K s:=by
 refine T.ghost (λG w a hN' hr=>?_) h;have hi:=hr.inv;have d:∀(i:Nat) e,(s.m.take k)[i]?=some e->i<k/\s.m[i]?=some e:=by
  grind
 have o:Inv (G.trim k) w (s.m.take k):=by
  refine⟨by grind[Gh.trim],hi.F,λi e he=>?_,λi j e e' he q hl r b hb g=>hi.apart i j e e' (d i e he).2 (d j e' q).2 hl r b hb g,hi.gl.bare λ_ h=>h⟩;have hbe:e.below k=true:=fab.1 hm e (List.mem_of_getElem? he);have f:=hi.ent i e (d i e he).2
  cases e with
  |live S Oa l=>
   obtain⟨a1,a2,a3,a4,a5⟩:=f;refine⟨a1,a2,a3,a4,?_⟩;rcases a5 with a5|⟨v,cs,T,g,A,n,u,p⟩
   .exact .inl a5
   .exact .inr ⟨v,cs,T,g,A,n,u,p.trim (by grind[Ent.below])⟩
  |mp es=>
   obtain⟨a1,b,y,x,a2,a3,a4,a5⟩:=f;exact⟨a1,b,y,x,a2,a3,a4,a5.trim (by grind[Ent.below])⟩
  |gone=>trivial
 refine⟨G.trim k,⟨hr.t.trim ht,o,hr.defers⟩,⟨λ_ h=>h,λ_ _=>rfl,hN,λi hi'=>.inl ⟨rfl,rfl,rfl,rfl,rfl⟩,rfl,rfl,rfl,Paa _,λ_ _ _=>rfl,λ_ _ h=>.inl h,?_⟩⟩;rintro b hb ⟨i,e,he,hl,z⟩;exact⟨i,e,(d i e he).2,hl,z⟩
theorem T.loopS{x:C}(S:X->St) (Lu:X->Prop) (μ:X->Nat) (x₀:X) (f:Lu x₀) (ht:xa s.t (S x₀).t) (hm:s.m=(S x₀).m)
 (hb:∀y,Lu y->N<=(S y).m.length/\belows (S y).m.length (S y).t=true/\(S y).m.all (Ent.below (S y).m.length)=true)
 (round:∀y,Lu y->T P N x (λe s'=>match e with|.normal=>∃z,Lu z/\μ z<μ y/\xa s'.t (S z).t/\∃g,s'.m=(S z).m++g|e=>K e s') (S y)):T P N (.loop x) K s:=by
 refine T.loopI (J:=λy s'=>Lu y/\xa s'.t (S y).t/\∃g,s'.m=(S y).m++g) μ x₀ ⟨f,ht,[],by grind⟩ ?_;rintro y s1 ⟨h,b,g,a⟩;obtain⟨c,d,b3⟩:=hb y h;refine T.sub (S y).t b ?_;refine T.trim (S y).m.length c (by simp[a]) d (by simp_all) ?_;have hst:(⟨(S y).t,s1.m.take (S y).m.length⟩:St)=S y:=by
  simp_all
 grind
end
open Go.RowKit (Below)
theorem Ba(h:∀t∈Tf x,s'.t.getD t .dead=s.t.getD t .dead):s'.ev x=s.ev x:=by
 cases x<;>simp[St.ev]
 simp_all[Tf]
theorem uJ{f:Cal}(h:∀t∈f.tmps,s'.t.getD t .dead=s.t.getD t .dead):s'.cv f=s.cv f:=by
 cases f with
 |tmp t=>exact Ba (x:=.tmp t) λt' h'=>h t' (by grind[Cal.tmps,Tf])
 |_=>rfl
theorem Gs{d:Nat}{x:Option Operand}(h:∀t∈OH x,s'.t.getD t .dead=s.t.getD t .dead):bound s' d x=bound s d x:=by
 cases x with
 |none=>rfl
 |some y=>simp only[bound,Ba (s:=s) (s':=s') (x:=y) (λt ht=>h t ht)]
theorem JE{s s':St}:∀{ps:List (Nat×Nat×Operand)}{l:List D},(∀t∈ps.flatMap (λp=>Tf p.2.2),s'.t.getD t .dead=s.t.getD t .dead)->ew s' ps l=ew s ps l
 |[],l,h=>rfl
 |(o,n,x)::ps,l,h=>by
  simp only[ew,Ba (s:=s) (s':=s') (x:=x) (λt ht=>h t (by simp_all))];split
  .exact JE λt ht=>h t (by simp_all)
  .rfl
theorem Xu{s s':St}{S:Nat}:∀{ps:List (Nat×Operand)}{l:List D},(∀t∈ps.flatMap (λp=>Tf p.2),s'.t.getD t .dead=s.t.getD t .dead)->Kc s' S ps l=Kc s S ps l
 |[],l,h=>rfl
 |(o,x)::ps,l,h=>by
  simp only[Kc,Ba (s:=s) (s':=s') (x:=x) (λt ht=>h t (by simp_all))];split
  .exact Xu λt ht=>h t (by simp_all)
  .rfl
theorem map_congr{s s':St}:∀{l:List Operand},(∀t∈l.flatMap Tf,s'.t.getD t .dead=s.t.getD t .dead)->l.map s'.ev=l.map s.ev
 |[],h=>rfl
 |x::l,h=>by
  simp only[cab,Ba (s:=s) (s':=s') (x:=x) (λt ht=>h t (by simp_all))];rw[map_congr λt ht=>h t (by simp_all)]
theorem YJ{g:Option (Tmp×Bool)}(h:∀t∈BO g,s'.t.getD t .dead=s.t.getD t .dead):gate s' g=gate s g:=by
 cases g with
 |none=>rfl
 |some p=>grind[gate,BO]
def Ke:D->Option Nat
 |.ref i _ _ _=>some i
 |.own i _=>some i
 |.view i _ _ _=>some i
 |.mp i=>some i
 |_=>none
def I.at?:I->Option Operand
 |.load _ _ x|.slice _ x _ _ _|.iaddr _ x _|.len x|.mlook _ _ _ x _|.mlen x|.nileq _ x=>some x
 |_=>none
theorem iK{m m':List Ent}(h:∀i,Ke d=some i->m'[i]?=m[i]?):qd m' d=qd m d:=by
 unfold qd;split<;>first|rfl|(rename_i id Oa;rw[h id rfl])|(rename_i id _ _ _;rw[h id rfl])
theorem iU{m m':List Ent}{lo hi:Nat}(h:∀i,Ke d=some i->m'[i]?=m[i]?):pw S m' d lo hi=pw S m d lo hi:=by
 unfold pw;split<;>first|rfl|(rename_i id Oa;rw[h id rfl])|(rename_i id Oa l0 n;rw[h id rfl])
theorem Js{i:I}(hc:i.cls<=1) (ht:∀t∈i.reads,s'.t.getD t .dead=s.t.getD t .dead) (hm:∀x id,i.at?=some x->Ke (s.ev x)=some id->s'.m[id]?=s.m[id]?)
 {m1:List Ent} (he:fa s i=some (d,m1)):m1=s.m/\fa s' i=some (d,s'.m):=by
 cases i with
 |mv x=>
  grind[fa,I.reads,Ba]
 |pick c a b=>
  simp only[fa]at he⊢;rw[Ba (s:=s) (s':=s') (x:=c) (λt h=>ht t (by grind[I.reads])),Ba (s:=s) (s':=s') (x:=a) (λt h=>ht t (by grind[I.reads])),Ba (s:=s) (s':=s') (x:=b) (λt h=>ht t (by grind[I.reads]))];split at he
  all_goals simp_all
 |bin op x y=>
  simp only[fa]at he⊢;rw[Ba (s:=s) (s':=s') (x:=x) (λt h=>ht t (by grind[I.reads])),Ba (s:=s) (s':=s') (x:=y) (λt h=>ht t (by grind[I.reads]))];split at he
  all_goals first|(simp_all;done)|(simp only[Faa,Vaa]at he⊢;grind)|(simp_all;obtain⟨_,g,h2,j⟩:=he;exact⟨j.symm,_,g,h2⟩)
 |beq n x y=>
  simp only[fa]at he⊢;rw[Ba (s:=s) (s':=s') (x:=x) (λt h=>ht t (by grind[I.reads])),Ba (s:=s) (s':=s') (x:=y) (λt h=>ht t (by grind[I.reads]))];split at he
  all_goals simp_all
 |un op x=>
  simp only[fa]at he⊢;rw[Ba (s:=s) (s':=s') (x:=x) (λt h=>ht t (by grind[I.reads]))];split at he
  all_goals first|(simp_all;done)|(simp only[Faa,Vaa]at he⊢;grind)|(simp_all;obtain⟨_,g,h2,j⟩:=he;exact⟨j.symm,_,g,h2⟩)
 |conv k x=>
  simp only[fa]at he⊢;rw[Ba (s:=s) (s':=s') (x:=x) (λt h=>ht t (by grind[I.reads]))];split at he
  all_goals simp_all
 |build z ps=>
  simp only[fa]at he⊢;rw[JE (s:=s) (s':=s') (λt h=>ht t (by grind[I.reads]))]
  cases hb:ew s ps z with
  |none=>simp_all
  |some l=>grind
 |mkifc t x=>
  grind[fa,I.reads,Ba]
 |tassert ok t z x=>
  simp only[fa]at he⊢;rw[Ba (s:=s) (s':=s') (x:=x) (λt h=>ht t (by grind[I.reads]))]
  repeat' split at he
  all_goals simp_all
 |capn x=>
  simp only[fa]at he⊢;rw[Ba (s:=s) (s':=s') (x:=x) (λt h=>ht t (by grind[I.reads]))]
  grind
 |nileq neg x=>
  simp only[fa]at he⊢;rw[Ba (s:=s) (s':=s') (x:=x) (λt h=>ht t (by grind[I.reads]))];split at he
  .simp_all
  .simp_all
  .rename_i id Oa hx;rw[hm x id rfl (by rw[hx];rfl)];split at he
   all_goals simp_all
  simp_all
 |clr S z x=>grind[I.cls]
 |mkapp S b z x n=>grind[I.cls]
 |nilc x=>
  simp only[fa]at he⊢;rw[Ba (s:=s) (s':=s') (x:=x) (λt h=>ht t (by grind[I.reads]))]
  grind
 |faddr A n o x=>
  simp only[fa]at he⊢;rw[Ba (s:=s) (s':=s') (x:=x) (λt h=>ht t (by grind[I.reads]))];split at he
  all_goals first|(simp_all;done)|(simp only[Faa,Vaa]at he⊢;grind)|(simp_all;obtain⟨_,g,h2,j⟩:=he;exact⟨j.symm,_,g,h2⟩)
 |field A n o x=>
  simp only[fa]at he⊢;rw[Ba (s:=s) (s':=s') (x:=x) (λt h=>ht t (by grind[I.reads]))];split at he
  all_goals first|(simp_all;done)|(simp only[Faa,Vaa]at he⊢;grind)|(simp_all;obtain⟨_,g,h2,j⟩:=he;exact⟨j.symm,_,g,h2⟩)
 |extract x k=>
  simp only[fa]at he⊢;rw[Ba (s:=s) (s':=s') (x:=x) (λt h=>ht t (by grind[I.reads]))];split at he
  all_goals first|(simp_all;done)|(simp only[Faa,Vaa]at he⊢;grind)|(simp_all;obtain⟨_,g,h2,j⟩:=he;exact⟨j.symm,_,g,h2⟩)
 |mkfunc f a b=>
  grind[fa,I.reads,map_congr]
 |aaddr A S n x y=>
  simp only[fa]at he⊢;rw[Ba (s:=s) (s':=s') (x:=x) (λt h=>ht t (by grind[I.reads])),Ba (s:=s) (s':=s') (x:=y) (λt h=>ht t (by grind[I.reads]))]
  repeat' split at he
  all_goals first|(simp_all;done)|(simp only[Faa,Vaa]at he⊢;obtain⟨_,g,rfl,rfl⟩:=he;exact⟨rfl,_,g,by simp⟩)|(simp_all;grind)
 |index A S n x y=>
  simp only[fa]at he⊢;rw[Ba (s:=s) (s':=s') (x:=x) (λt h=>ht t (by grind[I.reads])),Ba (s:=s) (s':=s') (x:=y) (λt h=>ht t (by grind[I.reads]))];split at he
  .split at he
   .rename_i hk;rw[if_pos hk];split at he
    .simp only[Faa,Vaa]at he⊢
     grind
    simp_all
   simp_all
  simp_all
 |slen x=>
  simp only[fa]at he⊢;rw[Ba (s:=s) (s':=s') (x:=x) (λt h=>ht t (by grind[I.reads]))];split at he
  all_goals simp_all
 |len x=>
  simp only[fa]at he⊢;rw[Ba (s:=s) (s':=s') (x:=x) (λt h=>ht t (by grind[I.reads])),iK (λid h=>hm x id rfl h)]
  cases hb:qd s.m (s.ev x)with
  |none=>simp_all
  |some l=>grind
 |slice S x lo hi mx=>
  simp only[fa]at he⊢;rw[Ba (s:=s) (s':=s') (x:=x) (λt h=>ht t (by grind[I.reads])),iK (λid h=>hm x id rfl h)]
  cases hb:qd s.m (s.ev x)with
  |none=>simp_all
  |some n=>
   simp only[hb]at he⊢;rw[Gs (s:=s) (s':=s') (x:=lo) (λt h=>ht t (by grind[I.reads])),Gs (s:=s) (s':=s') (x:=hi) (λt h=>ht t (by grind[I.reads])),Gs (s:=s) (s':=s') (x:=mx) (λt h=>ht t (by grind[I.reads]))];split at he
   .rename_i l h k g h2 j;(try simp only);rw[iU (λid h=>hm x id rfl h)];split at he
    .rename_i hc;rw[if_pos hc]
     cases hs:pw S s.m (s.ev x) l h with
     |none=>simp_all
     |some r=>grind
    simp_all
   simp_all
 |iaddr S x y=>
  simp only[fa]at he⊢;rw[Ba (s:=s) (s':=s') (x:=x) (λt h=>ht t (by grind[I.reads])),Ba (s:=s) (s':=s') (x:=y) (λt h=>ht t (by grind[I.reads]))];split at he
  .split at he
   .rename_i k hk;rw[if_pos hk];split at he
    .repeat' split at he
     all_goals first|(simp_all;done)|(simp only[Faa,Vaa]at he⊢;obtain⟨_,g,rfl,rfl⟩:=he;exact⟨rfl,_,g,by simp⟩)|(simp_all;grind)
    .rename_i id Oa hx;(try simp only);rw[hm x id rfl (by rw[hx];rfl)]
     repeat' split at he
     all_goals simp_all
    .rename_i id Oa lo n hx;(try simp only);rw[hm x id rfl (by rw[hx];rfl)]
     repeat' split at he
     all_goals simp_all
    simp_all
   simp_all
  simp_all
 |load A n x=>
  simp only[fa]at he⊢;rw[Ba (s:=s) (s':=s') (x:=x) (λt h=>ht t (by grind[I.reads]))];split at he
  .repeat' split at he
   all_goals grind
  .rename_i id Oa idx sub hx;(try simp only);rw[hm x id rfl (by rw[hx];rfl)];split at he
   .rename_i S ver' l hml;(try simp only);split at he
    .rename_i hv;rw[if_pos hv];simp only[gac]at he⊢;obtain⟨e,hl,he⟩:=he;split at he
     .rename_i hok;simp only[Faa,Vaa]at he
      grind
     simp_all
    simp_all
   simp_all
  simp_all
 |alloc S z=>grind[I.cls]
 |box S x=>grind[I.cls]
 |bslice S n z ps=>grind[I.cls]
 |mkslice S b z l c=>grind[I.cls]
 |store n x y=>grind[I.cls]
 |append S b x y=>grind[I.cls]
 |fail=>grind[fa]
 |mm b xs=>
  simp only[fa]at he⊢;rw[map_congr (s:=s) (s':=s') (l:=xs) (λt h=>ht t (by grind[I.reads]))];split at he
  all_goals first|(simp_all;done)|(simp only[Faa,Vaa]at he⊢;grind)|(simp_all;obtain⟨_,g,h2,j⟩:=he;exact⟨j.symm,_,g,h2⟩)
 |ceq n ks x y=>
  simp only[fa]at he⊢;rw[Ba (s:=s) (s':=s') (x:=x) (λt h=>ht t (by grind[I.reads])),Ba (s:=s) (s':=s') (x:=y) (λt h=>ht t (by grind[I.reads]))];split at he
  all_goals first|(simp_all;done)|(simp only[Faa,Vaa]at he⊢;grind)|(simp_all;obtain⟨_,g,h2,j⟩:=he;exact⟨j.symm,_,g,h2⟩)
 |strb S x=>grind[I.cls]
 |trunc S x lo hi=>grind[I.cls]
 |Jx x y=>
  simp only[fa]at he⊢;rw[Ba (s:=s) (s':=s') (x:=x) (λt h=>ht t (by grind[I.reads])),Ba (s:=s) (s':=s') (x:=y) (λt h=>ht t (by grind[I.reads]))];split at he
  all_goals simp_all
 |sslice x lo hi=>
  simp only[fa]at he⊢;rw[Ba (s:=s) (s':=s') (x:=x) (λt h=>ht t (by grind[I.reads]))];split at he
  all_goals grind[I.reads,Gs]
 |mkmap=>grind[I.cls]
 |mput K m k x=>grind[I.cls]
 |mlook K ok z x k=>
  simp only[fa]at he⊢;rw[Ba (s:=s) (s':=s') (x:=x) (λt h=>ht t (by grind[I.reads])),Ba (s:=s) (s':=s') (x:=k) (λt h=>ht t (by grind[I.reads]))];split at he
  .split at he
   .rename_i hk;rw[if_pos hk];split at he
    .grind
    .rename_i id hx;(try simp only);rw[hm x id rfl (by rw[hx];rfl)];split at he
     all_goals grind
    simp_all
   simp_all
  simp_all
 |mlen x=>
  simp only[fa]at he⊢;rw[Ba (s:=s) (s':=s') (x:=x) (λt h=>ht t (by grind[I.reads]))];split at he
  .grind
  .rename_i id hx;(try simp only);rw[hm x id rfl (by rw[hx];rfl)];split at he
   all_goals simp_all
  simp_all
theorem RJ{i:I}(hc:i.cls=2) (ht:∀t∈i.reads,s'.t.getD t .dead=s.t.getD t .dead) (hm:s'.m=s.m) {m1:List Ent}(he:fa s i=some (d,m1)):fa s' i=some (d,m1)/\∃e,m1=s.m++[e]:=by
 cases i with
 |alloc S z=>grind[fa]
 |box S x=>
  simp only[fa]at he⊢;rw[Ba (s:=s) (s':=s') (x:=x) (λt h=>ht t (by grind[I.reads])),hm]
  grind
 |bslice S n z ps=>
  grind[fa,I.reads,Xu,Faa]
 |mkslice S b z l c=>
  grind[fa,I.reads,Ba]
 |mkmap=>
  grind[fa]
 |_=>simp[I.cls]at hc
def Closed(bs:List (List Nat)) (L:Nat->Bool):Prop:=∀i b,bs[i]?=some b->L i=true->∀e∈b,L e=true
theorem lK(acc:List Nat) {L:Nat->Bool}(a:∀e,L e=true->∀j,(acc.getD e 0).testBit j=true->L j=true) :
 ∀(b:List Nat) (s:Nat),(∀e∈b,L e=true)->(∀j,s.testBit j=true->L j=true)->∀j,(b.foldl (λs e=>s ||| 2 ^ e ||| acc.getD e 0) s).testBit j=true->L j=true
 |[],s,_,c,j,h=>c j h
 |e::b,s,hb,c,j,h=>by
  simp only[List.foldl_cons]at h;refine lK acc a b _ (λx hx=>hb x (by grind)) (λk hk=>?_) j h
  grind
theorem eM{bs:List (List Nat)}(f:Closed bs L):∀(k:Nat) (acc:List Nat),acc.length=k->(∀e,L e=true->∀j,(acc.getD e 0).testBit j=true->L j=true)->
 ∀e,L e=true->∀j,((Jz acc (bs.drop k)).getD e 0).testBit j=true->L j=true:=by
 intro k;have main:∀(n k:Nat) (acc:List Nat),bs.length-k=n->acc.length=k->(∀e,L e=true->∀j,(acc.getD e 0).testBit j=true->L j=true)->
  ∀e,L e=true->∀j,((Jz acc (bs.drop k)).getD e 0).testBit j=true->L j=true:=by
  intro n
  induction n with
  |zero=>
   intro k acc hn hl a e he j hj;rw[Dac (by omega)]at hj;exact a e he j hj
  |succ n g=>
   intro k acc hn hl a e he j hj;have hk:k<bs.length:=by omega
   rw[mab hk]at hj;simp only[Jz]at hj;refine g (k+1) (acc++[Q6 acc bs[k]]) (by omega) (by grind) ?_ e he j hj;intro x hx y b;rw[Gac,List.getElem?_append]at b;split at b
   .exact a x hx y (by simp_all)
   .rename_i hlt;by_cases d:x=k
    .subst d;rw[hl,Nat.sub_self]at b;simp only[List.getElem?_cons_zero,Lab]at b;exact lK acc a _ 0 (λe' c=>f x _ (Baa hk) hx e' c) (λj h=>by grind) y b
    grind
 grind
theorem Xw{bs:List (List Nat)}(a:Closed bs L) {e:Nat}(he:L e=true) (hj:((MA bs).getD e 0).testBit j=true):L j=true:=by
 have:=eM a 0 [] rfl (λe _ j h=>by grind) e he j;simp only[List.drop_zero]at this;exact this hj
open Go.RowKit (Below)
theorem NY{m:List Ent}(h:qd m d=some n) (ht:Ke d=some id):∃e,m[id]?=some e:=by
 unfold qd at h
 grind[Ke]
theorem zH{i:I}{m1:List Ent}(he:fa s i=some (d,m1)) (hx:i.at?=some x) (ht:Ke (s.ev x)=some id):∃e,s.m[id]?=some e:=by
 cases i<;>simp only[I.at?,reduceCtorEq,dab]at hx<;>subst hx
 .grind[fa,Ke]
 all_goals grind[fa,Ke,NY,Faa]
section
variable (dst:Nat->Option Tmp) (dd:Nat->D) (xx:Nat->List Ent) (L:Nat->Bool)
def tS(t0:List D):Nat->List D
 |0=>t0
 |n+1=>if L n then(match dst n with|some y=>(tS t0 n).set y (dd n)|none=>tS t0 n)else tS t0 n
def mS(m0:List Ent):Nat->List Ent
 |0=>m0
 |n+1=>if L n then mS m0 n++xx n else mS m0 n
end
section
variable {dst:Nat->Option Tmp} {dd:Nat->D} {xx:Nat->List Ent} {L:Nat->Bool}
theorem aA(t0:List D):∀n,(tS dst dd L t0 n).length=t0.length
 |0=>rfl
 |n+1=>by
  simp only[tS];split
  .split
   .simp[aA t0 n]
   .exact aA t0 n
  .exact aA t0 n
theorem eaa(t0:List D) (n y:Nat):(tS dst dd L t0 (n+1)).getD y .dead=if L n=true/\dst n=some y/\y<t0.length then dd n else(tS dst dd L t0 n).getD y .dead:=by
 simp only[tS];by_cases a:L n=true
 .rw[if_pos a]
  cases hd:dst n with
  |none=>simp
  |some z=>
   simp only;rw[Gac,Xad];by_cases b:z=y
   .subst b;rw[if_pos rfl,aA]
    grind[aA]
   simp_all
 simp_all
theorem RR(t0:List D) {y:Nat}:∀{q:Nat},i<=q->(∀j,j<q->dst j=some y->(L j=true↔j<i))->(tS dst dd L t0 q).getD y .dead=(tS dst dd (λ_=>true) t0 i).getD y .dead:=by
 have h1:∀n,n<=i->(∀j,j<n->dst j=some y->L j=true)->(tS dst dd L t0 n).getD y .dead=(tS dst dd (λ_=>true) t0 n).getD y .dead:=by
  intro n
  induction n with
  |zero=>intro _ _;rfl
  |succ n a=>
   grind[eaa]
 intro q
 induction q with
 |zero=>simp_all
 |succ q a=>
  intro hi h;by_cases hq:i=q+1
  .simp_all
  .rw[eaa,if_neg ?_]
   all_goals grind
theorem HG(m0:List Ent):∀(q:Nat),(∀i j,i<j->j<q->xx i≠[]->xx j≠[]->L j=true->L i=true)->∃k,k<=q/\mS xx L m0 q=mS xx (λ_=>true) m0 k
 |0,_=>⟨0,Paa _,rfl⟩
 |q+1,h=>by
  obtain⟨k,hk,he⟩:=HG m0 q λi j a hj=>h i j a (by omega);by_cases hx:xx q=[]
  .grind[mS]
  .by_cases hL:L q=true
   .refine⟨q+1,Paa _,?_⟩;have hall:∀n,n<=q->mS xx L m0 n=mS xx (λ_=>true) m0 n:=by
     intro n
     induction n with
     |zero=>intro _;rfl
     |succ n ih=>
      grind[mS]
    simp_all[mS]
   grind[mS]
theorem VI(m0:List Ent) (h:k<=i):∃r,mS xx (λ_=>true) m0 i=mS xx (λ_=>true) m0 k++r:=by
 induction i with
 |zero=>simp_all
 |succ i ih=>
  by_cases hk:k=i+1
  .simp_all
  grind[mS]
theorem XQ(m0:List Ent) :∀{q:Nat},i<=q->(∀j,j<q->xx j≠[]->(L j=true↔j<i))->mS xx L m0 q=mS xx (λ_=>true) m0 i:=by
 have h1:∀n,n<=i->(∀j,j<n->xx j≠[]->L j=true)->mS xx L m0 n=mS xx (λ_=>true) m0 n:=by
  intro n
  induction n with
  |zero=>intro _ _;rfl
  |succ n a=>
   grind[mS]
 intro q
 induction q with
 |zero=>simp_all
 |succ q a=>
  grind[mS]
theorem YW(t0:List D) {a:Nat->Bool}(hi:L i=false) (hL':∀j,a j=(L j || j==i)):∀{q:Nat},i<q->(∀j,i<j->j<q->∀y,dst i=some y->dst j=some y->L j=false)->
 tS dst dd a t0 q=(match dst i with|some y=>(tS dst dd L t0 q).set y (dd i)|none=>tS dst dd L t0 q):=by
 have hlow:∀n,n<=i->tS dst dd a t0 n=tS dst dd L t0 n:=by
  intro n
  induction n with
  |zero=>intro _;rfl
  |succ n c=>
   grind[tS]
 intro q
 induction q with
 |zero=>omega
 |succ q c=>
  intro hq hw;by_cases hqi:q=i
  .simp_all[tS]
  .have d:a q=L q:=by simp_all
   have b:=c (by omega) λj hj hjq=>hw j hj (by omega);simp only[tS,d,b]
   cases hdi:dst i with
   |none=>simp
   |some y=>
    simp only;split
    .rename_i hLq;split
     .rename_i z hz;have hne:y≠z:=by
       grind
      grind[aaf]
     .rfl
    .rfl
theorem fW(m0:List Ent) {a:Nat->Bool}(hi:L i=false) (hL':∀j,a j=(L j || j==i)):∀{q:Nat},i<q->(∀j,i<j->j<q->xx i≠[]->xx j≠[]->L j=false)->
 mS xx a m0 q=mS xx L m0 q++xx i:=by
 have hlow:∀n,n<=i->mS xx a m0 n=mS xx L m0 n:=by
  intro n
  induction n with
  |zero=>intro _;rfl
  |succ n c=>
   grind[mS]
 intro q
 induction q with
 |zero=>omega
 |succ q c=>
  intro hq hw;by_cases hqi:q=i
  .simp_all[mS]
  .have d:a q=L q:=by simp_all
   have b:=c (by omega) λj hj hjq=>hw j hj (by omega);simp only[mS,d,b];split
   .rename_i hLq;by_cases hxi:xx i=[]
    all_goals grind
   .rfl
end
def FE(P:Program) (r:RI) (s:St) (d:D) (x:List Ent):Prop:=
 match r with
 |.op _ g i=>((gate s g=some none\/∃c,gate s g=some (some (c,c)))/\fa s i=some (d,s.m++x))\/((∃c b,gate s g=some (some (c,b))/\c≠b)/\d=.v undef/\x=[])
 |.call _ g f args=>∃k first caps,s.cv f=.fn k first caps/\x=[]/\
  (((gate s g=some none\/∃c,gate s g=some (some (c,c)))/\∀m,CallT P k (first++args.map s.ev++caps) m λd' m'=>d'=d/\m'=m)\/((∃c b,gate s g=some (some (c,b))/\c≠b)/\d=.v undef))
def after(s:St) (r:RI) (d:D) (x:List Ent):St:=({ s with m:=s.m++x }:St).put r.dst d
def AP(P:Program):List RI->St->List (D×List Ent)->St->Prop
 |[],s,os,s'=>os=[]/\s'=s
 |r::l,s,os,s'=>∃d x os',os=(d,x)::os'/\FE P r s d x/\AP P l (after s r d x) os' s'
section
variable {P:Program}
theorem AP.length:∀{l:List RI}{s s':St}{os:List (D×List Ent)},AP P l s os s'->os.length=l.length
 |[],s,s',os,h=>by simp[h.1]
 |r::l,s,s',os,h=>by
  obtain⟨d,x,os',rfl,_,h⟩:=h;simp[AP.length h]
def EE(rl:List RI) (os:List (D×List Ent)) (s:St) (L:Nat->Bool) (n:Nat):St:=
 ⟨tS (λi=>(rl.getD i (.op none none (.mv (.const undef)))).dst) (λi=>(os.getD i (.dead,[])).1) L s.t n,mS (λi=>(os.getD i (.dead,[])).2) L s.m n⟩
theorem QN(s:St) (r:RI) (d:D) (x:List Ent):(after s r d x).t=(match r.dst with|some y=>s.t.set y d|none=>s.t)/\(after s r d x).m=s.m++x:=by
 unfold after St.put
 grind
theorem AP.get{rl:List RI}{os:List (D×List Ent)}{s0:St}:∀{l:List RI}{k:Nat}{s':St}{os':List (D×List Ent)},l=(rl.drop k).take l.length->os'=(os.drop k).take os'.length->AP P l (EE rl os s0 (λ_=>true) k) os' s'->
 (∀i,i<l.length->FE P (rl.getD (k+i) (.op none none (.mv (.const undef)))) (EE rl os s0 (λ_=>true) (k+i)) (os.getD (k+i) (.dead,[])).1 (os.getD (k+i) (.dead,[])).2)/\s'=EE rl os s0 (λ_=>true) (k+l.length)
 |[],k,s',os',_,_,h=>⟨λi hi=>by grind,by simpa using h.2⟩
 |r::l,k,s',os',c,h2,h=>by
  obtain⟨d,x,a,rfl,hs,h⟩:=h;have hr:rl[k]?=some r:=by
   have:=congrArg (λl=>l[0]?) c
   grind
  have ho:os[k]?=some (d,x):=by
   have:=congrArg (λl=>l[0]?) h2
   grind
  have hr':rl.getD k (.op none none (.mv (.const undef)))=r:=by simp_all
  have ho':os.getD k (.dead,[])=(d,x):=by simp_all
  have b:after (EE rl os s0 (λ_=>true) k) r d x=EE rl os s0 (λ_=>true) (k+1):=by
   have ha:=QN (EE rl os s0 (λ_=>true) k) r d x;have:after (EE rl os s0 (λ_=>true) k) r d x=⟨(after (EE rl os s0 (λ_=>true) k) r d x).t,(after (EE rl os s0 (λ_=>true) k) r d x).m⟩:=rfl
   simp_all[EE,tS,mS]
  rw[b]at h;have t1:l=(rl.drop (k+1)).take l.length:=by
   grind[mab]
  have t2:a=(os.drop (k+1)).take a.length:=by
   grind[mab]
  obtain⟨g1,g2⟩:=AP.get t1 t2 h;refine⟨λi hi=>?_,by grind⟩
  cases i with
  |zero=>grind
  |succ i=>
   have:=g1 i (by grind)
   grind
theorem filter_lt{L c:Nat->Bool}{i:Nat}(hi:L i=false) (d:∀j,c j=(L j || j==i)):∀{l:List Nat},i∈l->(l.filter λj=>!c j).length<(l.filter λj=>!L j).length
 |[],h=>by cases h
 |a::l,h=>by
  have mono:∀l:List Nat,(l.filter λj=>!c j).length<=(l.filter λj=>!L j).length:=by
   intro l
   induction l with
   |nil=>simp
   |cons b l f=>
    grind
  by_cases ha:a=i
  .grind
  .have e:i∈l:=by
    grind
   have f:=filter_lt hi d e
   grind
theorem iy{ops:Array Oper}:∀{l:List Oper}{rl:List RI},Nh P ops l=some rl->rl.length=l.length/\∀(i:Nat) o,l[i]?=some o->∃r,rl[i]?=some r/\cr P ops o=some r
 |[],rl,h=>by grind[Nh]
 |o::l,rl,h=>by
  simp only[Nh]at h;split at h
  .rename_i r rs h1 h2;injection h with h;subst h;obtain⟨g1,g2⟩:=iy h2
   grind
  .cases h
theorem gA(h:cr P ops o=some r):r.dst=o.dst:=by
 unfold cr at h;split at h
 .cases h
 .split at h
  .injection h with h;subst h;rfl
  .simp only[Faa]at h;obtain⟨i,-,rfl⟩:=h;rfl
theorem flo_op(hc:cr P ops o=some r) {x:List Ent}(hf:FE P r sc d x) (ht:∀t∈r.reads,s.t.getD t .dead=sc.t.getD t .dead)
 (hm:r.cls=2->s.m=sc.m) (V:∀(id:Nat),(∃e,sc.m[id]?=some e)->id<s.m.length->s.m[id]?=sc.m[id]?) (F:r.cls<=2)
 {G:Gh} {w:World} (hr:Rel G w a s) (hi:ops[i]?=some o) {Q:Exit->Act->World->Prop} {K:Act->World->Prop}
 (T:∀G' w' a',Rel G' w' a' (after s r d x)->Step G w s.m G' w' (s.m++x)->K a' w'):wpOp P ops Q i K a w:=by
 have hdst:=gA hc;unfold wpOp;simp only[hi];unfold cr at hc;split at hc
 .grind
 .rename_i g hg;obtain⟨hgate1,hgate2⟩:=Gp hr hg;have hgt:gate s g=gate sc g:=YJ (λt h=>ht t (by
   split at hc
   .grind[RI.reads]
   .simp only[Faa]at hc;obtain⟨i,-,rfl⟩:=hc
    grind[RI.reads]))
  have S:(gate sc g=some none\/∃c,gate sc g=some (some (c,c)))->Region.wanted o (yielded ops a.tmps)=true:=by
   grind
  have woff:(∃c b,gate sc g=some (some (c,b))/\c≠b)->Region.wanted o (yielded ops a.tmps)=false:=by
   grind
  have skip:d=.v undef->x=[]->K (a.put o.dst undef) w:=by
   rintro rfl rfl;refine T G w _ ?_ (by grind[Step.refl])
   simp_all[after,DF]
  split at hc
  .rename_i f args ho;injection hc with hc;subst hc;obtain⟨k,first,caps,hfe,rfl,hf⟩:=hf;have M:s.cv f=.fn k first caps:=by grind[RI.reads,uJ]
   have z:args.map s.ev=args.map sc.ev:=map_congr (λt h=>ht t (by grind[RI.reads]));rcases hf with⟨B,A⟩|⟨N,hd⟩
   .rw[if_pos (S B)];refine .inl ?_;obtain⟨⟨fn,e1,e2,e3⟩,E⟩:=A s.m;obtain⟨fs,cs,O,X,Y⟩:=mC hr ho (O4 M) e1 e2 e3;rw[←z]at E;have q:=E G w (fs++args.map a.eval++cs) ((X.append (tC hr _)).append Y) hr.inv;unfold Oper.wp;rw[O,Oper.upon_enter];refine q.mono ?_;rintro e w' ⟨v,d',m',G',rfl,⟨rfl,rfl⟩,Z,U,C⟩;refine T G' w' _ ?_ (by simp_all);unfold after;rw[eab];exact(hr.step C.le U).put o.dst Z
   simp_all
  .rename_i hno;simp only[Faa]at hc;obtain⟨j,hj,rfl⟩:=hc;rcases hf with⟨B,H⟩|⟨N,hd,hx⟩
   .rw[if_pos (S B)];refine .inl ?_;have J:fa s j=some (d,s.m++x):=by
     simp only[RI.cls]at F hm;have R:∀t∈j.reads,s.t.getD t .dead=sc.t.getD t .dead:=λt h=>ht t (by grind[RI.reads]);by_cases h2:j.cls=2
     .grind[RJ]
     .have h1:j.cls<=1:=by omega
      obtain⟨hxm,hres⟩:=Js (s:=sc) (s':=s) h1 R (λy id hy l=>by
       refine V id (zH H hy l) ?_;have p:=hr.ev y;have L:s.ev y=sc.ev y:=Ba (λt h=>R t (by
        cases j<;>simp only[I.at?,reduceCtorEq,dab]at hy<;>subst hy<;>simp[I.reads,h]))
       rw[L]at p;have hn:=hr.inv.n;generalize sc.ev y=dy at *;cases dy<;>simp only[Ke,reduceCtorEq,dab]at l
       .subst l;simp only[VRel]at p;omega
       .subst l;simp only[VRel]at p;omega
       .subst l;simp only[VRel]at p;omega
       .subst l;simp only[VRel]at p;omega) H
      simp_all
    exact hr.Lu (nC hj hr J) λG' w' u W C=>T G' w' _ W C
   simp_all
end
open Go.RowKit (Below)
section
variable {P:Program}
theorem regT_op{Q:Exit->Act->World->Prop}{K:St->Prop}{rs:List RI}{G:Gh}{w:World}(h:cr P ops o=some r) (p:Rl P (r::rs) K s) (hr:Rel G w a s)
 (hi:ops[i]?=some o) {Kx:Act->World->Prop} (rest:∀{G':Gh} {w':World} {a':Act} {s':St},Rl P rs K s'->Rel G' w' a' s'->Step G w s.m G' w' s'.m->Kx a' w'):wpOp P ops Q i Kx a w:=by
 unfold wpOp;simp only[hi];unfold cr at h;split at h
 .grind
 .rename_i g B;obtain⟨hgate1,hgate2⟩:=Gp hr B;have doI:∀{i:I} {d:D} {m':List Ent},zu P ops o o.op=some i->fa s i=some (d,m')->Rl P rs K ({ s with m:=m' }.put o.dst d)->o.wp P a w Kx Q:=by
   intro i d m' hi he b;exact hr.Lu (nC hi hr he) λG' w' u x n=>rest b x (by grind[QH])
  have skip:Rl P rs K (s.put o.dst (.v undef))->Kx (a.put o.dst undef) w:=λb=>rest b (DF hr o.dst) (by grind[QH,Step.refl]);split at h
  .rename_i f args ho;injection h with h;subst h;simp only[Rl]at p;split at p
   .rename_i k first caps q
    have doC:CallT P k (first++args.map s.ev++caps) s.m (λd m'=>Rl P rs K ({ s with m:=m' }.put o.dst d))->o.wp P a w Kx Q:=by
     rintro⟨⟨fn,e1,e2,e3⟩,j⟩;obtain⟨fs,cs,l,y,z⟩:=mC hr ho q e1 e2 e3;have c:=j G w (fs++args.map a.eval++cs) ((y.append (tC hr _)).append z) hr.inv;unfold Oper.wp;rw[l,Oper.upon_enter];refine c.mono ?_;rintro e w' ⟨v,d,m',G',rfl,b,A,t,n⟩;exact rest b ((hr.step n.le t).put o.dst A) (by grind[QH])
    grind
   grind
  .rename_i hno;simp only[Faa]at h;obtain⟨i,hi,rfl⟩:=h;simp only[Rl]at p
   grind
theorem Z5(hi:i<listed.size) (d:Bool):(listed.setIfInBounds i true).getD j d=if j=i then true else listed.getD j d:=by
 simp only[Tac,Array.getElem?_setIfInBounds]
 grind
theorem qH(h:ops[i]?=some o):(Bb ops)[i]?=some ((o.after.toList.filter λe=>Region.binds .any e).map (·.on)):=by
 grind[Bb]
structure TailFacts (bs:List (List Nat)) (rl:List RI) (q:Nat):Prop where
 len:bs.length=rl.length
 hq:q<=rl.length
 back:∀(i:Nat) b,bs[i]?=some b->∀e∈b,e<i
 tail:∀(i j:Nat),i<j->q<=j->j<rl.length->((MA bs).getD j 0).testBit i=true
theorem kP{bs:List (List Nat)}{rl:List RI}{q:Nat}(h:jP bs rl cuts q=true) :
 TailFacts bs rl q/\∀p∈cuts,∀(i j:Nat),i<p->p<=j->j<rl.length->((MA bs).getD j 0).testBit i=true:=by
 unfold jP at h;simp only[Laa,beq_iff_eq,decide_eq_true_eq,fab,Lac,Dad]at h;obtain⟨⟨⟨⟨h0,a⟩,h2⟩,h3⟩,h4⟩:=h;refine⟨⟨a,h2,?_,?_⟩,?_⟩
 .simp_all[gab]
 all_goals grind
structure DrawFacts (bs:List (List Nat)) (rl:List RI) (q:Nat):Prop extends TailFacts bs rl q where
 cls:∀(j:Nat) y,j<q->rl[j]?=some y->y.cls<=2
 apart:∀(i j:Nat) x y,i<j->j<q->rl[i]?=some x->rl[j]?=some y->wD x y=true->((MA bs).getD j 0).testBit i=true
theorem Hw{bs:List (List Nat)}{rl:List RI}{q:Nat}(h:rG bs rl q=true):DrawFacts bs rl q:=by
 unfold rG at h;simp only[Laa,beq_iff_eq,decide_eq_true_eq,fab,Lac]at h;obtain⟨⟨⟨a,h2⟩,h3⟩,h4⟩:=h;have hy:∀(j:Nat) y,rl[j]?=some y->j<rl.length:=λj y hj=>(gab.1 hj).1;refine⟨⟨a,h2,?_,?_⟩,?_,?_⟩
 rotate_left
 .grind
 rotate_right
 .simp_all[gab]
 all_goals grind
section
variable {ops:Array Oper} {Q:Exit->Act->World->Prop} {K:St->Prop} {rl:List RI} {q:Nat}
def Vd(listed:Array Bool):Nat->Bool:=λi=>listed.getD i false
theorem Ay(hf:TailFacts (Bb ops) rl q) (hsz:listed.size=ops.size) (h:Closed (Bb ops) (Vd listed)) (hi:i∈Region.ready .any ops listed) :
 i<ops.size/\Vd listed i=false/\(∀j,j≠i->((MA (Bb ops)).getD i 0).testBit j=true->Vd listed j=true)/\Closed (Bb ops) (Vd (listed.setIfInBounds i true))/\
 (∀j,Vd (listed.setIfInBounds i true) j=(Vd listed j || j==i)):=by
 obtain⟨h0,o,ho,f⟩:=mem_ready.1 hi;have k:i<ops.size:=(Array.getElem?_eq_some_iff.1 ho).1;have g:Vd listed i=false:=by
  grind[Vd]
 have d:∀j,Vd (listed.setIfInBounds i true) j=(Vd listed j || j==i):=by
  intro j;unfold Vd;rw[Z5 (by omega)]
  grind
 have c:Closed (Bb ops) (Vd (listed.setIfInBounds i true)):=by
  intro j b hb hj e he;rw[d]at hj⊢;simp only[Dad,beq_iff_eq]at hj⊢;rcases hj with hj|hj
  .exact .inl (h j b hb hj e he)
  .subst hj;have a:=qH ho;rw[hb]at a;injection a with a;subst a;simp only[List.mem_map,List.mem_filter,Array.mem_toList_iff]at he;obtain⟨ed,⟨l,h2⟩,rfl⟩:=he;exact .inl (f ed l h2)
 refine⟨k,g,λj hne hj=>?_,c,d⟩;have:=Xw c (e:=i) (by simp_all) hj
 simp_all
theorem LB(hf:TailFacts (Bb ops) rl q) (hsz:listed.size=ops.size) (hno:Region.ready .any ops listed=[]):∀i,i<ops.size->Vd listed i=true:=by
 intro i
 induction i using dad with
 |_ i c=>
  intro hi;rcases hb:Vd listed i with _|_
  .exfalso;have:i∈Region.ready .any ops listed:=by
    refine mem_ready.2 ⟨?_,ops[i],Mab hi,λe he hbi=>?_⟩
    .grind[Vd]
    .have a:=qH (Mab hi);have b:=hf.back i _ a e.on (by
      grind)
     exact c e.on b (by omega)
   simp_all
  .rfl
theorem CC(hc:Nh P ops ops.toList=some rl) (hf:TailFacts (Bb ops) rl q) :
 ∀(n r:Nat) (fuel:Nat) (listed:Array Bool) (s:St) (G:Gh) (w:World) (a:Act),ops.size-r=n->n<=fuel->q<=r->r<=ops.size->listed.size=ops.size->(∀i,Vd listed i=decide (i<r))->
  Rl P (rl.drop r) K s->Rel G w a s->(∀s' G' w' a',K s'->Rel G' w' a' s'->Step G w s.m G' w' s'.m->Q .normal a' w')->wpAny P .any ops Q fuel listed a w:=by
 obtain⟨x,v⟩:=iy hc;simp only[zac]at x;have c:∀(r:Nat) (L:Nat->Bool),(∀i,L i=decide (i<r))->Closed (Bb ops) L:=by
  intro r L u i b hb hi e he;have:=hf.back i b hb e he
  grind
 intro n
 induction n with
 |zero=>
  intro r fuel listed s G w a hn k hq hr f u t d hQ;have hrn:r=ops.size:=by omega
  have o:Region.ready .any ops listed=[]:=by
   cases hre:Region.ready .any ops listed with
   |nil=>rfl
   |cons i l=>
    obtain⟨M,h2,-⟩:=Ay hf f (c r _ u) (i:=i) (by simp_all)
    simp_all
  rw[Dac (by omega)]at t;have g:=hQ s G w a t d (Step.refl _ _ _)
  cases fuel with
  |zero=>exact⟨o,g⟩
  |succ fuel=>exact⟨λ_=>g,λi hi=>by simp_all⟩
 |succ n O=>
  intro r fuel listed s G w a hn k hq hr f u t d hQ
  cases fuel with
  |zero=>omega
  |succ fuel=>
   have z:r<ops.size:=by omega
   refine⟨λF=>?_,λi hi=>?_⟩
   .have:=LB hf f F r z
    simp_all
   .obtain⟨M,h2,N,h4,h5⟩:=Ay hf f (c r _ u) hi;have E:i=r:=by
     rw[u]at h2;simp at h2;rcases Gab r i with h|h
     .have:=N r (by omega) (hf.tail r i h (by omega) (by omega))
      simp_all
     omega
    subst E;have ho:ops[i]?=some ops[i]:=Mab M;obtain⟨T,hri,D⟩:=v i ops[i] (by simp);have y:rl.drop i=T::rl.drop (i+1):=by
     grind[mab]
    rw[y]at t;refine regT_op D t d ho λC p H=>?_;refine O (i+1) fuel (listed.setIfInBounds i true) _ _ _ _ (by omega) (by omega) (by omega) (by omega) (by simp[f]) (λj=>?_) C p λI A J B R S k3=>hQ I A J B R S (H.trans k3)
    grind
theorem qL{dst:Nat->Option Tmp}{dd:Nat->D}{L a:Nat->Bool}(t0:List D):∀n,(∀j,j<n->L j=a j)->tS dst dd L t0 n=tS dst dd a t0 n
 |0,_=>rfl
 |n+1,h=>by simp only[tS,h n (by omega),qL t0 n λj hj=>h j (by omega)]
theorem kK{xx:Nat->List Ent}{L a:Nat->Bool}(m0:List Ent):∀n,(∀j,j<n->L j=a j)->mS xx L m0 n=mS xx a m0 n
 |0,_=>rfl
 |n+1,h=>by simp only[mS,h n (by omega),kK m0 n λj hj=>h j (by omega)]
theorem LN{a:Nat->Bool}(n:Nat) (h:∀j,j<n->L j=a j):EE rl os s0 L n=EE rl os s0 a n:=by
 grind[EE,qL,kK]
theorem count_tail(q:Nat):∀n,((Kaa n).filter λj=>!decide (j<q)).length=n-q
 |0=>by simp
 |n+1=>by
  rw[List.range_succ,List.filter_append,kab,count_tail q n]
  grind
theorem getD_some(h:i<l.length) (d:RI):l[i]?=some (l.getD i d):=by
 simp_all
theorem XX(hc:Nh P ops ops.toList=some rl) (hf:DrawFacts (Bb ops) rl q) 
 (I:∀i,i<q->FE P (rl.getD i (.op none none (.mv (.const undef)))) (EE rl os s0 (λ_=>true) i) (os.getD i (.dead,[])).1 (os.getD i (.dead,[])).2)
 (B:∀i,i<q->(os.getD i (.dead,[])).2≠[]->(rl.getD i (.op none none (.mv (.const undef)))).cls=2)
 (hT:Rl P (rl.drop q) K (EE rl os s0 (λ_=>true) q)) :
 ∀(fuel:Nat) (listed:Array Bool) (G:Gh) (w:World) (a:Act),((Kaa ops.size).filter λj=>!Vd listed j).length<=fuel->listed.size=ops.size->Closed (Bb ops) (Vd listed)->
  (∀j,q<=j->Vd listed j=false)->Rel G w a (EE rl os s0 (Vd listed) q)->
  (∀s' G' w' a',K s'->Rel G' w' a' s'->Step G w (EE rl os s0 (Vd listed) q).m G' w' s'.m->Q .normal a' w')->wpAny P .any ops Q fuel listed a w:=by
 obtain⟨N,J⟩:=iy hc;simp only[zac]at N;have hq:=hf.hq;intro fuel
 induction fuel with
 |zero=>
  intro listed G w a c p u E v hQ;have F:∀i,i<ops.size->Vd listed i=true:=by
   simp_all
  have hqn:q=ops.size:=by
   rcases Gab q ops.size with h|h
   all_goals grind
  have C:EE rl os s0 (Vd listed) q=EE rl os s0 (λ_=>true) q:=LN q λj hj=>F j (by omega);refine CC hc hf.toTailFacts 0 q 0 listed _ G w a (by omega) (Paa _) (Paa _) (by omega) p (λi=>?_) hT (by simp_all) (by grind)
  grind
 |succ fuel ih=>
  intro listed G w a c p u E v hQ;by_cases b:∀j,j<q->Vd listed j=true
  ·
    have C:EE rl os s0 (Vd listed) q=EE rl os s0 (λ_=>true) q:=LN q λj hj=>b j hj;have hL:∀i,Vd listed i=decide (i<q):=λi=>by
     grind
    have hcnt:=count_tail q ops.size;simp only[hL]at c;exact CC hc hf.toTailFacts (ops.size-q) q (fuel+1) listed _ G w a rfl (by omega) (Paa _) (by omega) p hL hT (by simp_all) (by grind)
  .refine⟨λhno=>(b λj hj=>LB hf.toTailFacts p hno j (by omega)).elim,λi hi=>?_⟩;obtain⟨h1,h2,h3,h4,V⟩:=Ay hf.toTailFacts p u hi;have n:i<q:=by
    rcases Gab i q with h|h
    .exact h
    .exact(b λj hj=>h3 j (by omega) (hf.tail j i (by omega) h (by omega))).elim
   have hri:=getD_some (l:=rl) (i:=i) (by omega) (.op none none (.mv (.const undef)));obtain⟨r,hr,Z⟩:=J i ops[i] (by simp);have hrr:rl.getD i (.op none none (.mv (.const undef)))=r:=by simp_all
   have early:∀j x,j<i->rl[j]?=some x->wD x r=true->Vd listed j=true:=λj x hj hx d=>h3 j (by omega) (hf.apart j i x r hj n hx hr d);have late:∀j y,i<j->j<q->rl[j]?=some y->wD r y=true->Vd listed j=false:=by
    intro j y hj hjq hy d;rcases hb:Vd listed j with _|_
    .rfl
    .have:=Xw u hb (hf.apart i j r y hj hjq hr hy d)
     simp_all
   have g:∀j,j<q->rl[j]?=some (rl.getD j (.op none none (.mv (.const undef)))):=λj hj=>getD_some (by omega) _;have hF:=I i n;rw[hrr]at hF;have A:r.cls<=2:=hf.cls i r n hr;have O:∀j,j<q->(os.getD j (.dead,[])).2≠[]->(rl.getD j (.op none none (.mv (.const undef)))).cls=2:=B;have f:∀x y:RI,x.cls=2->y.cls=2->wD x y=true:=λx y hx hy=>by grind[wD]
   refine flo_op Z hF (s:=EE rl os s0 (Vd listed) q) ?_ ?_ ?_ A v (Mab h1) ?_
   ·
     intro y hy;refine RR s0.t (by omega) λj hj hd=>?_
     grind[wD]
   ·
     intro hcls;refine XQ s0.m (by omega) λj hj hx=>?_
     grind
   ·
     rintro id ⟨e,he⟩ M;obtain⟨k,hk,R⟩:=HG (xx:=λi=>(os.getD i (.dead,[])).2) (L:=Vd listed) s0.m q λi1 j1 hij hj hx1 hx2 W=>
      Xw u W (hf.apart i1 j1 _ _ hij hj (g i1 (by omega)) (g j1 hj) (f _ _ (O i1 (by omega) hx1) (O j1 hj hx2)))
     simp only[EE]at he M⊢;rw[R]at M⊢;rcases eaf i k with h|h
     .obtain⟨rr,S⟩:=VI (xx:=λi=>(os.getD i (.dead,[])).2) s0.m h
      grind
     .obtain⟨rr,S⟩:=VI (xx:=λi=>(os.getD i (.dead,[])).2) s0.m h
      grind
   ·
     intro G' w' a' o hs';have C:after (EE rl os s0 (Vd listed) q) r (os.getD i (.dead,[])).1 (os.getD i (.dead,[])).2=EE rl os s0 (Vd (listed.setIfInBounds i true)) q:=by
      obtain⟨X,Y⟩:=QN (EE rl os s0 (Vd listed) q) r (os.getD i (.dead,[])).1 (os.getD i (.dead,[])).2;have H:∀z:St,z=⟨z.t,z.m⟩:=λz=>rfl;rw[H (after _ _ _ _),X,Y];simp only[EE,St.mk.injEq];constructor
      .rw[YW s0.t h2 V n ?_]
       all_goals grind[wD]
      .rw[fW s0.m h2 V n ?_]
       grind
     rw[C]at o;refine ih (listed.setIfInBounds i true) G' w' a' ?_ (by grind) h4 ?_ o ?_
     .have:=filter_lt h2 V (l:=Kaa ops.size) (by grind);omega
     .grind
     .intro s'' T w'' U k1 k2 k3;refine hQ s'' T w'' U k1 k2 (hs'.trans ?_)
      grind[QN]
theorem AO{x:List Ent}(h:FE P r s d x) (a:r.cls<=2) (hx:x≠[]):r.cls=2:=by
 cases r with
 |call dst g f args=>
  obtain⟨_,_,_,_,h,_⟩:=h
  simp_all
 |op dst g i=>
  rcases h with⟨-,h⟩|⟨-,-,h⟩
  .simp only[RI.cls]at a⊢;rcases Gab i.cls 2 with h2|h2
   .obtain⟨hm,-⟩:=Js (s:=s) (s':=s) (by omega) (λ_ _=>rfl) (λ_ _ _ _=>rfl) h
    simp_all
   omega
  simp_all
theorem xT(Xx:P.follows .mixedOrders=true) (hc:Nh P ops ops.toList=some rl) (g:rG (Bb ops) rl q=true) {s1:St}(p:AP P (rl.take q) s os s1) (r:Rl P (rl.drop q) K s1)
 {G:Gh} {w:World} (hr:Rel G w a s) (hQ:∀s' G' w' a',K s'->Rel G' w' a' s'->Step G w s.m G' w' s'.m->Q .normal a' w'):(Code.region id ops true).wp P Q a w:=by
 have hf:=Hw g;have c:(rl.take q).length=q:=by rw[Qac];have:=hf.hq;omega
 have e:=p.length;rw[c]at e;have o:EE rl os s (λ_=>true) 0=s:=rfl;obtain⟨g1,g2⟩:=AP.get (rl:=rl) (os:=os) (s0:=s) (k:=0) (l:=rl.take q) (os':=os) (s':=s1) (by simp) (by simp) (by rw[o];omega);simp only[c,Qab]at g1 g2;subst g2;have f:∀j,Vd (Uab ops.size false) j=false:=by
  intro j;unfold Vd;simp only[Tac,Uad]
  grind
 have d:EE rl os s (Vd (Uab ops.size false)) q=s:=by
  have ht:∀n,tS (λi=>(rl.getD i (.op none none (.mv (.const undef)))).dst) (λi=>(os.getD i (.dead,[])).1) (Vd (Uab ops.size false)) s.t n=s.t:=by
   intro n
   induction n with
   |zero=>rfl
   |succ n u=>simp_all[tS]
  have hm:∀n,mS (λi=>(os.getD i (.dead,[])).2) (Vd (Uab ops.size false)) s.m n=s.m:=by
   intro n
   induction n with
   |zero=>rfl
   |succ n u=>simp_all[mS]
  grind[EE]
 refine wp_region_any Xx ?_;have h:=Same.drew w;refine XX hc hf g1 (λi hi hx=>AO (g1 i hi) (hf.cls i _ hi (getD_some (by grind) _)) hx) r ops.size _ G _ a ?_ (by simp) ?_ (λj _=>f j) ?_ ?_
 .grind
 .intro i b _ hi
  simp_all
 .rw[d];exact⟨hr.t.mono (h.le G),h.inv hr.inv,hr.defers⟩
 .intro s' G' w' a' v x k3;rw[d]at k3;exact hQ s' G' w' a' v x ((h.step G s.m).trans k3)
end
end
section
variable {P:Program} {N:Nat}
def zP(P:Program):Nat->List RI->(St->Prop)->St->Prop
 |0,l,K,s=>Rl P l K s
 |_+1,[],_,_=>False
 |q+1,.op dst g i::l,K,s=>
  match gate s g with
  |none=>False
  |some none=>∃d m',fa s i=some (d,m')/\zP P q l K ({ s with m:=m' }.put dst d)
  |some (some (c,b))=>(c=b->∃d m',fa s i=some (d,m')/\zP P q l K ({ s with m:=m' }.put dst d))/\(c≠b->zP P q l K (s.put dst (.v undef)))
 |q+1,.call dst g f args::l,K,s=>
  match s.cv f with
  |.fn k first caps=>
   match gate s g with
   |none=>False
   |some none=>∃d,(∀m,CallT P k (first++args.map s.ev++caps) m λd' m'=>d'=d/\m'=m)/\zP P q l K (s.put dst d)
   |some (some (c,b))=>(c=b->∃d,(∀m,CallT P k (first++args.map s.ev++caps) m λd' m'=>d'=d/\m'=m)/\zP P q l K (s.put dst d))/\(c≠b->zP P q l K (s.put dst (.v undef)))
  |_=>False
section
variable {ops:Array Oper} {Q:Exit->Act->World->Prop} {K:St->Prop} {rl:List RI} {q:Nat}
end
theorem BC:∀{q:Nat}{l:List RI}{K:St->Prop}{s:St},zP P q l K s->(∀(j:Nat) y,j<q->l[j]?=some y->y.cls<=2)->∃os s1,AP P (l.take q) s os s1/\Rl P (l.drop q) K s1
 |0,l,K,s,h,_=>⟨[],s,by simp[AP],by simpa [zP] using h⟩
 |q+1,[],K,s,h,_=>by simp[zP]at h
 |q+1,.op dst g i::l,K,s,h,hc=>by
  have hci:i.cls<=2:=hc 0 _ (by omega) rfl;have o:∀(j:Nat) y,j<q->l[j]?=some y->y.cls<=2:=λj y hj u=>hc (j+1) y (by omega) (by simp_all);have ext:∀{d:D} {m':List Ent},fa s i=some (d,m')->∃x,m'=s.m++x:=λ{d m'} he=>by
   rcases Gab i.cls 2 with h2|h2
   .exact⟨[],by rw[eab];exact(Js (s:=s) (s':=s) (by omega) (λ_ _=>rfl) (λ_ _ _ _=>rfl) he).1⟩
   .obtain⟨-,e,h⟩:=RJ (s:=s) (s':=s) (by omega) (λ_ _=>rfl) rfl he
    simp_all
  have on:∀{d:D} {m':List Ent},fa s i=some (d,m')->(gate s g=some none\/∃c,gate s g=some (some (c,c)))->zP P q l K ({ s with m:=m' }.put dst d)->
   ∃os s1,AP P ((RI.op dst g i::l).take (q+1)) s os s1/\Rl P ((RI.op dst g i::l).drop (q+1)) K s1:=by
   intro d m' he p r;obtain⟨x,rfl⟩:=ext he;obtain⟨os,s1,t,h2⟩:=BC r o;exact⟨(d,x)::os,s1,by simp only[xab,AP];exact⟨d,x,os,rfl,.inl ⟨p,he⟩,t⟩,by simp_all⟩
  simp only[zP]at h;split at h
  .simp_all
  .grind
  .rename_i c b p;by_cases n:c=b
   .subst n;obtain⟨d,m',he,r⟩:=h.1 rfl
    simp_all
   .obtain⟨os,s1,t,h2⟩:=BC (h.2 n) o;refine⟨(.v undef,[])::os,s1,?_,by simp_all⟩;simp only[xab,AP];refine⟨_,_,os,rfl,.inr ⟨⟨c,b,p,n⟩,rfl,rfl⟩,?_⟩;have:after s (.op dst g i) (.v undef) []=s.put dst (.v undef):=by unfold after;rw[eab];rfl
    simp_all
 |q+1,.call dst g f args::l,K,s,h,hc=>by
  have o:∀(j:Nat) y,j<q->l[j]?=some y->y.cls<=2:=λj y hj u=>hc (j+1) y (by omega) (by simp_all);have haf:∀d,after s (.call dst g f args) d []=s.put dst d:=λd=>by unfold after;rw[eab];rfl
  simp only[zP]at h;split at h
  .rename_i k first caps hf
   split at h
   .simp_all
   .rename_i p;obtain⟨d,a,r⟩:=h;obtain⟨os,s1,t,h2⟩:=BC r o;refine⟨(d,[])::os,s1,?_,by simp_all⟩;simp only[xab,AP];exact⟨d,[],os,rfl,⟨k,first,caps,hf,rfl,.inl ⟨.inl p,a⟩⟩,by simp_all⟩
   .rename_i c b p;by_cases n:c=b
    .subst n;obtain⟨d,a,r⟩:=h.1 rfl;obtain⟨os,s1,t,h2⟩:=BC r o;refine⟨(d,[])::os,s1,?_,by simp_all⟩;simp only[xab,AP];exact⟨d,[],os,rfl,⟨k,first,caps,hf,rfl,.inl ⟨.inr ⟨c,p⟩,a⟩⟩,by simp_all⟩
    .obtain⟨os,s1,t,h2⟩:=BC (h.2 n) o;refine⟨(.v undef,[])::os,s1,?_,by simp_all⟩;simp only[xab,AP];exact⟨_,[],os,rfl,⟨k,first,caps,hf,rfl,.inr ⟨⟨c,b,p,n⟩,rfl⟩⟩,by simp_all⟩
  simp_all
theorem T.draw{q:Nat}{l:List RI}{K:Exit->St->Prop}{s:St}(hm:P.follows .mixedOrders=true) (h:zP P q l (K .normal) s):T P N (.draw q l) K s:=by
 intro code hc G w a hN hr;obtain⟨id,ops,rfl,c,b⟩:=oG hc;obtain⟨os,s1,d,h2⟩:=BC h (Hw b).cls;exact xT hm c b d h2 hr λs' G' w' a' e f k3=>⟨s',G',e,f,k3.toN hN⟩
end
section
variable (ww:Nat->Option (Nat×Ent)) (L:Nat->Bool)
def sS(m:List Ent):Nat->List Ent
 |0=>m
 |n+1=>if L n then(match ww n with|some (id,e)=>(sS m n).set id e|none=>sS m n)else sS m n
def IB(id:Nat):Nat->Option Ent
 |0=>none
 |n+1=>if L n then(match ww n with|some (j,e)=>if j=id then some e else IB id n|none=>IB id n)else IB id n
end
section
variable {ww:Nat->Option (Nat×Ent)} {L:Nat->Bool}
theorem Vq(m:List Ent):∀n,(sS ww L m n).length=m.length
 |0=>rfl
 |n+1=>by
  simp only[sS]
  repeat' split
  all_goals simp[Vq m n]
theorem iL(m:List Ent) (id:Nat):∀n,id<m.length->(sS ww L m n)[id]?=(match IB ww L id n with|some e=>some e|none=>m[id]?)
 |0,h=>rfl
 |n+1,h=>by
  simp only[sS,IB];split
  .split
   .rename_i j e hw;rw[Xad];by_cases hj:j=id
    .subst hj;rw[if_pos rfl,if_pos rfl,if_pos (by grind[Vq])]
    .rw[if_neg hj,if_neg hj];exact iL m id n h
   .exact iL m id n h
  .exact iL m id n h
theorem fU:∀{q:Nat},i<=q->(∀j,j<q->∀e,ww j=some (id,e)->(L j=true↔j<i))->IB ww L id q=IB ww (λ_=>true) id i:=by
 have h1:∀n,n<=i->(∀j,j<n->∀e,ww j=some (id,e)->L j=true)->IB ww L id n=IB ww (λ_=>true) id n:=by
  intro n
  induction n with
  |zero=>intro _ _;rfl
  |succ n a=>
   grind[IB]
 intro q
 induction q with
 |zero=>
  simp_all
 |succ q a=>
  grind[IB]
theorem KU(m x:List Ent):∀n,(∀j,j<n->L j=true->∀id e,ww j=some (id,e)->id<m.length)->sS ww L (m++x) n=sS ww L m n++x
 |0,_=>rfl
 |n+1,h=>by
  have ih:=KU m x n λj hj=>h j (by omega);simp only[sS];split
  .rename_i hL;split
   all_goals grind[Vq]
  omega
theorem sS_step(m:List Ent) {a:Nat->Bool}(hi:L i=false) (hL':∀j,a j=(L j || j==i)):∀{q:Nat},i<q->(∀j,i<j->j<q->L j=true->∀id e e',ww i=some (id,e)->ww j≠some (id,e'))->
 sS ww a m q=(match ww i with|some (id,e)=>(sS ww L m q).set id e|none=>sS ww L m q):=by
 have hlow:∀n,n<=i->sS ww a m n=sS ww L m n:=by
  intro n
  induction n with
  |zero=>intro _;rfl
  |succ n d=>
   grind[sS]
 intro q
 induction q with
 |zero=>omega
 |succ q d=>
  intro hq hw;by_cases hqi:q=i
  .simp_all[sS]
  .have f:a q=L q:=by simp_all
   have c:=d (by omega) λj hj hjq=>hw j hj (by omega);simp only[sS,f,c]
   cases hdi:ww i with
   |none=>simp
   |some p=>
    obtain⟨id,e⟩:=p;simp only;split
    .rename_i hLq;split
     .rename_i b e' hz;have hne:id≠b:=by
       grind
      grind[aaf]
     .rfl
    .rfl
end
def I.UZ:I->Option Operand
 |.store _ x _=>some x
 |.trunc _ x _ _=>some x
 |.append _ _ x _=>some x
 |_=>none
def I.src:I->Option Operand
 |.append _ _ _ y=>some y
 |_=>none
def Tg(s:St):I->Bool
 |.trunc _ x _ _=>match s.ev x with|.own ..=>true|_=>false
 |.append _ _ x _=>match s.ev x with|.own ..=>true|_=>false
 |_=>true
theorem aJ{i:I}(h:i.UZ=some x):i.cls=3/\((∃n y,i=.store n x y)\/(∃S lo hi,i=.trunc S x lo hi)\/∃S b y,i=.append S b x y):=by
 cases i<;>simp[I.UZ]at h
 .subst h;exact⟨rfl,.inl ⟨_,_,rfl⟩⟩
 .subst h;exact⟨rfl,.inr (.inr ⟨_,_,_,rfl⟩)⟩
 .subst h;exact⟨rfl,.inr (.inl ⟨_,_,_,rfl⟩)⟩
theorem TT{m1:List Ent}(he:fa s (.store n x y)=some (d,m1)) :
 ∃id e,Ke (s.ev x)=some id/\m1=s.m.set id e/\(∃e0,s.m[id]?=some e0)/\
  ∀s':St,(∀t∈(I.store n x y).reads,s'.t.getD t .dead=s.t.getD t .dead)->s'.m[id]?=s.m[id]?->fa s' (.store n x y)=some (d,s'.m.set id e):=by
 simp only[fa]at he;split at he
 .rename_i id Oa ix sub hx;split at he
  .rename_i S ver' l hm;split at he
   .rename_i hc;simp only[gac]at he;obtain⟨d0,h0,he⟩:=he;split at he
    .rename_i hc2;injection he with he;injection he with a h2;subst a;subst h2;refine⟨id,_,by rw[hx];rfl,rfl,⟨_,hm⟩,λs' ht hm'=>?_⟩;have ex:s'.ev x=s.ev x:=Ba (λt h=>ht t (by grind[I.reads]));have ey:s'.ev y=s.ev y:=Ba (λt h=>ht t (by grind[I.reads]))
     simp_all[fa]
    simp_all
   simp_all
  simp_all
 simp_all
theorem UT{lo hi:Option Operand}{m1:List Ent}(hb:Tg s (.trunc S x lo hi)=true) (he:fa s (.trunc S x lo hi)=some (d,m1)) :
 ∃id e,Ke (s.ev x)=some id/\m1=s.m.set id e/\(∃e0,s.m[id]?=some e0)/\
  ∀s':St,(∀t∈(I.trunc S x lo hi).reads,s'.t.getD t .dead=s.t.getD t .dead)->s'.m[id]?=s.m[id]?->fa s' (.trunc S x lo hi)=some (d,s'.m.set id e):=by
 simp only[Tg]at hb;split at hb
 .rename_i id Oa hx;simp only[fa,hx]at he;split at he
  .rename_i S' ver' l hm;split at he
   .rename_i a h hlo hhi;split at he
    .rename_i hc;injection he with he;injection he with b h2;subst b;subst h2;refine⟨id,_,by rw[hx];rfl,rfl,⟨_,hm⟩,λs' ht hm'=>?_⟩;have ex:s'.ev x=s.ev x:=Ba (λt h=>ht t (by grind[I.reads]));have e1:bound s' 0 lo=bound s 0 lo:=Gs (λt h=>ht t (by grind[I.reads]));have e2:bound s' l.length hi=bound s l.length hi:=Gs (λt h=>ht t (by grind[I.reads]))
     simp_all[fa]
    simp_all
   simp_all
  simp_all
 simp_all
theorem tJ{m m':List Ent}(h:∀id,Ke d=some id->m'[id]?=m[id]?):contents S m' d=contents S m d:=by
 cases d with
 |own id v=>simp only[contents];rw[h _ rfl]
 |view id v a b=>simp only[contents];rw[h _ rfl]
 |v x=>simp only[contents];grind
 |_=>rfl
theorem VT{m1:List Ent}(hb:Tg s (.append S b x y)=true) (he:fa s (.append S b x y)=some (d,m1)) :
 ∃id e,Ke (s.ev x)=some id/\m1=s.m.set id e/\(∃e0,s.m[id]?=some e0)/\
  ∀s':St,(∀t∈(I.append S b x y).reads,s'.t.getD t .dead=s.t.getD t .dead)->s'.m[id]?=s.m[id]?->(∀a,Ke (s.ev y)=some a->s'.m[a]?=s.m[a]?)->fa s' (.append S b x y)=some (d,s'.m.set id e):=by
 simp only[Tg]at hb;split at hb
 .rename_i id Oa hx;simp only[fa,hx]at he;split at he
  .rename_i r hr;split at he
   .rename_i S' ver' l hm;split at he
    .rename_i hc;injection he with he;injection he with g h2;subst g;subst h2;refine⟨id,_,by rw[hx];rfl,rfl,⟨_,hm⟩,λs' ht c i=>?_⟩;have ex:s'.ev x=s.ev x:=Ba (λt h=>ht t (by grind[I.reads]));have f:s'.ev y=s.ev y:=Ba (λt h=>ht t (by grind[I.reads]));simp only[fa,ex,hx,c,hm,f,tJ i,hr]
     simp_all
    simp_all
   simp_all
  simp_all
 simp_all
theorem RM{i:I}{m1:List Ent}(ht:i.UZ=some x) (hb:Tg s i=true) (he:fa s i=some (d,m1)) :
 ∃id e,Ke (s.ev x)=some id/\m1=s.m.set id e/\(∃e0,s.m[id]?=some e0)/\
  (∀s':St,(∀t∈i.reads,s'.t.getD t .dead=s.t.getD t .dead)->s'.m[id]?=s.m[id]?->(∀y,i.src=some y->∀a,Ke (s.ev y)=some a->s'.m[a]?=s.m[a]?)->fa s' i=some (d,s'.m.set id e)):=by
 rcases(aJ ht).2 with⟨n,y,rfl⟩|⟨S,lo,hi,rfl⟩|⟨S,b,y,rfl⟩
 .grind[TT]
 .grind[UT]
 .obtain⟨id,e,c,h2,f,g⟩:=VT hb he;exact⟨id,e,c,h2,f,λs' h j k3=>g s' h j (k3 y rfl)⟩
theorem zO{i:I}{m1:List Ent}(f:i.src=some y) (he:fa s i=some (d,m1)) (h:Ke (s.ev y)=some id):∃e,s.m[id]?=some e:=by
 obtain⟨S,b,x,rfl⟩:∃S b x,i=.append S b x y:=by cases i<;>simp[I.src]at f;simp_all
 simp only[fa]at he;split at he
 .rename_i r hr
  cases g:s.ev y with
  |own a b=>grind[Ke,contents]
  |view a b c e=>grind[Ke,contents]
  |ref a b c e=>grind[contents]
  |mp a=>grind[contents]
  |_=>rw[g]at h;simp[Ke]at h
 simp_all
theorem VZ{i:I}(ht:i.UZ=some x):∀t∈Tf x,t∈i.reads:=by
 rcases(aJ ht).2 with⟨n,y,rfl⟩|⟨S,lo,hi,rfl⟩|⟨S,b,y,rfl⟩<;>intro t h<;>simp[I.reads,h]
theorem WU{i:I}(ht:i.UZ=some x):i.at?=none:=by
 rcases(aJ ht).2 with⟨n,y,rfl⟩|⟨S,lo,hi,rfl⟩|⟨S,b,y,rfl⟩<;>rfl
theorem AH{i:I}(hc:i.cls=2) (ht:∀t∈i.reads,s'.t.getD t .dead=s.t.getD t .dead) (hm:s'.m.length=s.m.length) {m1:List Ent}(he:fa s i=some (d,m1)) :
 ∃e,m1=s.m++[e]/\fa s' i=some (d,s'.m++[e]):=by
 cases i with
 |alloc S z=>
  simp only[fa,dab,Vaa]at he⊢
  simp_all
 |box S x=>
  simp only[fa]at he⊢;rw[Ba (s:=s) (s':=s') (x:=x) (λt h=>ht t (by grind[I.reads]))]
  simp_all
 |bslice S n z ps=>
  grind[fa,I.reads,Xu,Faa]
 |mkslice S b z l c=>
  simp only[fa]at he⊢;rw[Ba (s:=s) (s':=s') (x:=l) (λt h=>ht t (by grind[I.reads])),Ba (s:=s) (s':=s') (x:=c) (λt h=>ht t (by grind[I.reads]))]
  grind
 |mkmap=>
  simp only[fa,dab,Vaa]at he⊢
  simp_all
 |_=>simp[I.cls]at hc
mutual
def Oo:D->List Nat
 |.agg l=>dn l
 |.tup l=>dn l
 |.sl _ l=>dn l
 |.pt d=>Oo d
 |.fn _ a b=>dn a++dn b
 |.ifc _ d=>Oo d
 |.own id _=>[id]
 |.view id _ _ _=>[id]
 |.ref id _ _ _=>[id]
 |.mp id=>[id]
 |.v _=>[]
 |.dead=>[]
def dn:List D->List Nat
 |[]=>[]
 |d::l=>Oo d++dn l
end
mutual
theorem EO:∀{d:D},va d=true->Oo d=[]
 |.v _,_=>rfl
 |.agg l,h=>by simp only[va]at h;simp only[Oo,kx h]
 |.tup l,h=>by simp only[va]at h;simp only[Oo,kx h]
 |.sl _ l,h=>by simp only[va]at h;simp only[Oo,kx h]
 |.pt d,h=>by simp only[va]at h;simp only[Oo,EO h]
 |.fn _ a b,h=>by simp only[va,Laa]at h;simp only[Oo,kx h.1,kx h.2,eab]
 |.ifc _ d,h=>by simp only[va]at h;simp only[Oo,EO h]
 |.own ..,h=>by grind[va]
 |.view ..,h=>by grind[va]
 |.ref ..,h=>by grind[va]
 |.mp _,h=>by grind[va]
 |.dead,_=>rfl
theorem kx:∀{l:List D},oa l=true->dn l=[]
 |[],_=>rfl
 |d::l,h=>by simp only[oa,Laa]at h;simp only[dn,EO h.1,kx h.2,eab]
end
def Jb(s:St):List Operand->List Nat
 |[]=>[]
 |x::l=>Oo (s.ev x)++Jb s l
theorem jH{s:St}:∀{l:List Operand},Jb s l=dn (l.map s.ev)
 |[]=>rfl
 |x::l=>by simp only[Jb,cab,dn,jH (l:=l)]
mutual
theorem OI{G:Gh}{w:World}{id:Nat}:∀{d:D}{u:Value},VRel G w d u->id∈Oo d->id<G.n
 |.v x,u,h,hi=>by grind[Oo]
 |.agg l,u,h,hi=>by
  simp only[VRel]at h;simp only[Oo]at hi;obtain⟨cs,rfl,h,-⟩:=h;exact jx h hi
 |.tup l,u,h,hi=>by
  simp only[VRel]at h;simp only[Oo]at hi;obtain⟨cs,rfl,h⟩:=h;exact jx h hi
 |.sl S l,u,h,hi=>by
  simp only[VRel]at h;simp only[Oo]at hi;obtain⟨a,n,c,rfl,-,-,h|⟨b,off,rfl,-,h⟩⟩:=h
  .grind[dn]
  .exact UM h hi
 |.pt d,u,h,hi=>by
  simp only[VRel]at h;simp only[Oo]at hi;obtain⟨b,off,x,rfl,-,h,-⟩:=h;exact OI h hi
 |.ref a b c e,u,h,hi=>by
  simp only[VRel]at h;grind[Oo]
 |.own a b,u,h,hi=>by
  simp only[VRel]at h;grind[Oo]
 |.view a b c e,u,h,hi=>by
  simp only[VRel]at h;grind[Oo]
 |.fn f a b,u,h,hi=>by
  simp only[VRel]at h;simp only[Oo,tab]at hi;obtain⟨fs,cs,rfl,g,h2⟩:=h;rcases hi with hi|hi
  .exact jx g hi
  .exact jx h2 hi
 |.mp a,u,h,hi=>by
  simp only[VRel]at h;grind[Oo]
 |.ifc t d,u,h,hi=>by
  simp only[VRel]at h;simp only[Oo]at hi;obtain⟨x,rfl,h⟩:=h;exact OI h hi
 |.dead,u,h,hi=>by grind[Oo]
theorem jx{G:Gh}{w:World}{id:Nat}:∀{l:List D}{us:List Value},VsRel G w l us->id∈dn l->id<G.n
 |[],us,h,hi=>by grind[dn]
 |d::l,us,h,hi=>by
  simp only[VsRel]at h;simp only[dn,tab]at hi;obtain⟨u,r,rfl,a,h2⟩:=h;rcases hi with hi|hi
  .exact OI a hi
  .exact jx h2 hi
theorem UM{G:Gh}{w:World}{id b S:Nat}:∀{l:List D}{off:Nat},Qa G w b S l off->id∈dn l->id<G.n
 |[],off,h,hi=>by grind[dn]
 |d::l,off,h,hi=>by
  simp only[Qa]at h;simp only[dn,tab]at hi;obtain⟨⟨u,a,-⟩,h2⟩:=h;rcases hi with hi|hi
  .exact OI a hi
  .exact UM h2 hi
end
def sw(s:St):List Operand->List Nat
 |[]=>[]
 |x::l=>match Ke (s.ev x)with|some id=>id::sw s l|none=>sw s l
def bp(s:St):RI->List Nat
 |.op _ _ i=>
  match i.at? with
  |some x=>sw s [x]
  |none=>match i.UZ with|some x=>sw s (x::i.src.toList)|none=>[]
 |.call _ _ _ args=>Jb s args
theorem aX{l:List Operand}(h:Ke (s.ev x)=some id):id∈sw s (x::l):=by grind[sw]
theorem tops_tl{l:List Operand}(h:id∈sw s l):id∈sw s (x::l):=by grind[sw]
theorem iS(h:Ke (s.ev x)=some id):id∈sw s [x]:=by grind[sw]
abbrev Os:=List (D×List Ent×Option (Nat×Ent))
def os0:D×List Ent×Option (Nat×Ent):=(.dead,[],none)
def RW:RI:=.op none none (.mv (.const undef))
def kz(P:Program) (r:RI) (s:St) (d:D) (x:List Ent) (w:Option (Nat×Ent)):Prop:=
 match r with
 |.op _ g i=>((gate s g=some none\/∃c,gate s g=some (some (c,c)))/\
  ((w=none/\i.cls<=2/\fa s i=some (d,s.m++x))\/(x=[]/\∃a id e,i.UZ=some a/\Ke (s.ev a)=some id/\w=some (id,e)/\fa s i=some (d,s.m.set id e)/\id<s.m.length/\Tg s i=true)))\/
  ((∃c b,gate s g=some (some (c,b))/\c≠b)/\d=.v undef/\x=[]/\w=none)
 |.call _ g f args=>x=[]/\w=none/\
  ((∃k first caps,s.cv f=.fn k first caps/\(gate s g=some none\/∃c,gate s g=some (some (c,c)))/\(∀id∈Jb s args,id<s.m.length)/\∀m,(∀id∈Jb s args,m[id]?=s.m[id]?)->CallT P k (first++args.map s.ev++caps) m λd' m'=>d'=d/\m'=m)\/((∃c b,gate s g=some (some (c,b))/\c≠b)/\d=.v undef))
def wr(m:List Ent) (w:Option (Nat×Ent)):List Ent:=match w with|some (id,e)=>m.set id e|none=>m
def nn(s:St) (r:RI) (d:D) (x:List Ent) (w:Option (Nat×Ent)):St:=({ s with m:=wr s.m w++x }:St).put r.dst d
theorem jJ(s:St) (r:RI) (d:D) (x:List Ent) (w:Option (Nat×Ent)):nn s r d x w=⟨(match r.dst with|some y=>s.t.set y d|none=>s.t),wr s.m w++x⟩:=by
 grind[nn,St.put]
section
variable {P:Program}
def YX(rl:List RI) (i:Nat):Option Tmp:=(rl.getD i RW).dst
def ddC(os:Os) (i:Nat):D:=(os.getD i os0).1
def IL(os:Os) (i:Nat):List Ent:=(os.getD i os0).2.1
def jX(os:Os) (i:Nat):Option (Nat×Ent):=(os.getD i os0).2.2
def oq(rl:List RI) (os:Os) (s:St) (L:Nat->Bool) (n:Nat):St:=
 ⟨tS (YX rl) (ddC os) L s.t n,sS (jX os) L (mS (IL os) L s.m n) n⟩
theorem kz.lt{x:List Ent}{w:Option (Nat×Ent)}(h:kz P r s d x w) (hw:w=some (id,e)):id<s.m.length/\x=[]/\id∈bp s r:=by
 subst hw
 cases r with
 |call dst g f args=>obtain⟨_,h,_⟩:=h;cases h
 |op dst g i=>
  rcases h with⟨_,⟨h,_⟩|⟨hx,a,id',e',ht,h1,h2,h3,h4,_⟩⟩|⟨_,_,_,h⟩
  all_goals grind[bp,WU,aX]
theorem DU{G:Gh}{w:World}(hr:Rel G w a s) (h:Ke (s.ev x)=some id):id<s.m.length:=by
 have hv:=hr.ev x;have hn:=hr.inv.n;generalize s.ev x=d at *;cases d<;>simp only[Ke,reduceCtorEq,dab]at h
 .subst h;simp only[VRel]at hv;omega
 .subst h;simp only[VRel]at hv;omega
 .subst h;simp only[VRel]at hv;omega
 .subst h;simp only[VRel]at hv;omega
theorem flo_op2(hc:cr P ops o=some r) {x:List Ent}{H:Option (Nat×Ent)}(hf:kz P r sc d x H) (ht:∀t∈r.reads,s.t.getD t .dead=sc.t.getD t .dead)
 (hm:r.cls=2->s.m.length=sc.m.length) (U:∀(id:Nat),id∈bp sc r->(∃e,sc.m[id]?=some e)->id<s.m.length->s.m[id]?=sc.m[id]?)
 {G:Gh} {w:World} (hr:Rel G w a s) (hi:ops[i]?=some o) {Q:Exit->Act->World->Prop} {K:Act->World->Prop}
 (Z:∀G' w' a',Rel G' w' a' (nn s r d x H)->Step G w s.m G' w' (wr s.m H++x)->(∀id e,H=some (id,e)->id<s.m.length)->K a' w'):wpOp P ops Q i K a w:=by
 have O:=gA hc;unfold wpOp;simp only[hi];unfold cr at hc;split at hc
 .grind
 .rename_i g hg;obtain⟨hgate1,hgate2⟩:=Gp hr hg;have hgt:gate s g=gate sc g:=YJ (λt h=>ht t (by
   split at hc
   .grind[RI.reads]
   .simp only[Faa]at hc;obtain⟨i,-,rfl⟩:=hc
    grind[RI.reads]))
  have Y:(gate sc g=some none\/∃c,gate sc g=some (some (c,c)))->Region.wanted o (yielded ops a.tmps)=true:=by
   grind
  have woff:(∃c b,gate sc g=some (some (c,b))/\c≠b)->Region.wanted o (yielded ops a.tmps)=false:=by
   grind
  have skip:d=.v undef->x=[]->H=none->K (a.put o.dst undef) w:=by
   rintro rfl rfl rfl;refine Z G w _ ?_ (by rw[eab];exact Step.refl _ _ _) (λ_ _ h=>by cases h);unfold nn;rw[O,eab];exact DF hr o.dst
  split at hc
  .rename_i f args ho;injection hc with hc;subst hc;obtain⟨rfl,rfl,hf⟩:=hf;have l:args.map s.ev=args.map sc.ev:=map_congr (λt h=>ht t (by grind[RI.reads]));rcases hf with⟨k,first,caps,hfe,E,S,C⟩|⟨V,hd⟩
   .have R:s.cv f=.fn k first caps:=by grind[RI.reads,uJ]
    rw[if_pos (Y E)];refine .inl ?_;obtain⟨⟨fn,e1,e2,e3⟩,N⟩:=C s.m λid q=>by
     refine U id q ⟨_,Baa (S id q)⟩ ?_;rw[jH,←l]at q;rw[←hr.inv.n];exact jx (tC hr _) q
    obtain⟨fs,cs,W,hv1,hv2⟩:=mC hr ho (O4 R) e1 e2 e3;rw[←l]at N;have z:=N G w (fs++args.map a.eval++cs) ((hv1.append (tC hr _)).append hv2) hr.inv;unfold Oper.wp;rw[W,Oper.upon_enter];refine z.mono ?_;rintro e w' ⟨v,d',m',G',rfl,⟨rfl,rfl⟩,hvd,hi',A⟩;refine Z G' w' _ ?_ (by rw[eab];exact A) (λ_ _ h=>by cases h);unfold nn;rw[eab];exact(hr.step A.le hi').put o.dst hvd
   simp_all
  .rename_i hno;simp only[Faa]at hc;obtain⟨j,hj,rfl⟩:=hc;rcases hf with⟨E,p⟩|⟨V,hd,hx,hw⟩
   .rw[if_pos (Y E)];refine .inl ?_;have F:∀t∈j.reads,s.t.getD t .dead=sc.t.getD t .dead:=λt h=>ht t (by grind[RI.reads]);have M:∀y,(∀t∈Tf y,t∈j.reads)->s.ev y=sc.ev y:=λy L=>Ba (λt h=>F t (L t h));have B:fa s j=some (d,wr s.m H++x)/\(∀id e,H=some (id,e)->id<s.m.length):=by
     simp only[RI.cls]at hm;rcases p with⟨rfl,hcls,p⟩|⟨rfl,a1,id,e,htg,X,rfl,p,hlt,hsb⟩
     .refine⟨?_,λ_ _ h=>by cases h⟩;simp only[wr];by_cases h2:j.cls=2
      .grind[AH,List.append_cancel_left]
      .have J:j.cls<=1:=by omega
       obtain⟨hxm,hres⟩:=Js (s:=sc) (s':=s) J F (λy id L q=>by
        have hevy:s.ev y=sc.ev y:=M y (λt h=>by
         cases j<;>simp only[I.at?,reduceCtorEq,dab]at L<;>subst L<;>simp[I.reads,h])
        grind[bp,iS,zH,DU]) p
       simp_all
     .obtain⟨id',e',J,h2,h3,h4⟩:=RM htg hsb p;rw[X]at J;injection J with J;subst J;have T:id<s.m.length:=DU hr (x:=a1) (by grind[VZ]);have hee:e=e':=by
       have:=congrArg (λm=>m[id]?) h2
       grind
      subst hee;refine⟨?_,λid2 e2 h=>by simp_all⟩;rw[eab];refine h4 s F (U id (by grind[bp,WU,aX]) h3 T) λy L id' hid'=>?_;have hey:s.ev y=sc.ev y:=M y (by
       cases j<;>simp[I.src]at L
       grind[I.reads])
      grind[bp,WU,tops_tl,iS,DU,zO]
    exact hr.Lu (nC hj hr B.1) λG' w' u hr' A=>Z G' w' _ hr' A B.2
   simp_all
end
def RI.pI(y:RI):Bool:=
 match y with
 |.op _ _ i=>decide (i.cls<=2) || i.UZ.isSome
 |.call ..=>true
section
variable {P:Program} {ops:Array Oper} {Q:Exit->Act->World->Prop} {K:St->Prop} {rl:List RI} {q:Nat} {ps:List (List Nat)}
end
def oW:Nat->Nat->Bool
 |0,0=>false
 |0,_+1=>true
 |_+1,0=>true
 |a+1,b+1=>oW a b
theorem c7:∀{a b:Nat},oW a b=true->a≠b
 |0,0,h=>by grind[oW]
 |0,_+1,_=>by omega
 |_+1,0,_=>by omega
 |a+1,b+1,h=>by have:=c7 (a:=a) (b:=b) h;omega
def mB(a:Nat):List Nat->Bool
 |[]=>true
 |b::l=>oW a b&&mB a l
def Zs:List Nat->List Nat->Bool
 |[],_=>true
 |a::l,r=>mB a r&&Zs l r
theorem yM{a b:Nat}:∀{l:List Nat},mB a l=true->b∈l->a≠b
 |[],_,h=>by cases h
 |c::l,h,hm=>by
  simp only[mB,Laa]at h;rcases Tab.1 hm with rfl|hm
  .grind[c7]
  .exact yM h.2 hm
theorem AM{a:Nat}:∀{l r:List Nat},Zs l r=true->a∈l->a∉r
 |[],_,_,h=>by cases h
 |c::l,r,h,hm=>by
  simp only[Zs,Laa]at h;rcases Tab.1 hm with rfl|hm
  .exact λhr=>yM h.1 hr rfl
  .exact AM h.2 hm
def BE(fp:List (List Nat)) (f:List Nat):List Nat->Bool
 |[]=>true
 |i::l=>Zs (fp.getD i []) f&&BE fp f l
theorem GI{fp:List (List Nat)}{f:List Nat}{k:Nat}:∀{l:List Nat},BE fp f l=true->k∈l->Zs (fp.getD k []) f=true
 |[],_,h=>by cases h
 |z::l,h,hm=>by
  simp only[BE,Laa]at h;rcases Tab.1 hm with rfl|hm
  .grind
  .exact GI h.2 hm
def SA(P:Program):List (List Nat)->List (List Nat)->Nat->List RI->(St->Prop)->St->Prop
 |_,_,0,l,K,s=>Rl P l K s
 |_,_,_+1,[],_,_=>False
 |ps,fp,q+1,.op dst g i::l,K,s=>
  BE fp (bp s (.op dst g i)) (ps.headD [])=true/\
  match gate s g with
  |none=>False
  |some none=>∃d m',Tg s i=true/\fa s i=some (d,m')/\SA P ps.tail (fp++[bp s (.op dst g i)]) q l K ({ s with m:=m' }.put dst d)
  |some (some (c,b))=>(c=b->∃d m',Tg s i=true/\fa s i=some (d,m')/\SA P ps.tail (fp++[bp s (.op dst g i)]) q l K ({ s with m:=m' }.put dst d))/\(c≠b->SA P ps.tail (fp++[bp s (.op dst g i)]) q l K (s.put dst (.v undef)))
 |ps,fp,q+1,.call dst g f args::l,K,s=>
  match s.cv f with
  |.fn k first caps=>
   match gate s g with
   |none=>False
   |some none=>BE fp (Jb s args) (ps.headD [])=true/\∃d,((∀id∈Jb s args,id<s.m.length)/\∀m,(∀id∈Jb s args,m[id]?=s.m[id]?)->CallT P k (first++args.map s.ev++caps) m λd' m'=>d'=d/\m'=m)/\SA P ps.tail (fp++[Jb s args]) q l K (s.put dst d)
   |some (some (c,b))=>BE fp (Jb s args) (ps.headD [])=true/\(c=b->∃d,((∀id∈Jb s args,id<s.m.length)/\∀m,(∀id∈Jb s args,m[id]?=s.m[id]?)->CallT P k (first++args.map s.ev++caps) m λd' m'=>d'=d/\m'=m)/\SA P ps.tail (fp++[Jb s args]) q l K (s.put dst d))/\(c≠b->SA P ps.tail (fp++[Jb s args]) q l K (s.put dst (.v undef)))
  |_=>False
section
variable {P:Program} {K:St->Prop}
end
section
variable {P:Program} {N:Nat} {ops:Array Oper} {Q:Exit->Act->World->Prop} {K:St->Prop} {rl:List RI} {q:Nat} {ps:List (List Nat)}
end
open Go.RowKit (Below)
theorem zG{G:Gh}{w:World}{m:List Ent}(hi:Inv G w m) (hm:m[p]?=some (.live S Oa [])) (l:List D) (C:Nat) (cs:Array Value) (T:TypeId)
 (hr:Mh G w S l cs) (hC:l.length<=C) (hcs:C*S<=cs.size) :
 Inv (G.Eg p (some w.heap.size) (Oa+1) l.length (C,0)) (w.alloc (.cells cs T)) (m.set p (.live S (Oa+1) l))/\
  Step G w m (G.Eg p (some w.heap.size) (Oa+1) l.length (C,0)) (w.alloc (.cells cs T)) (m.set p (.live S (Oa+1) l)):=by
 have a:∀k,k<w.heap.size->(w.alloc (.cells cs T)).heap[k]?=w.heap[k]?:=λk hk=>Below.heap_alloc _ _ _ hk;obtain⟨hV,hS,-⟩:=hi.ent p _ hm;refine rh hi hm rfl rfl _ _ _ _ (.inl (by omega)) rfl rfl rfl (by simp) (λk hk _=>a k hk) (λk h=>by simp_all) ?_;have c:Le G w (G.Eg p (some w.heap.size) (Oa+1) l.length (C,0)) (w.alloc (.cells cs T)):=by
  refine⟨λ_ h=>h,λk hk=>a k (hi.F k hk),Paa _,λi _=>?_⟩
  grind[Gh.Eg]
 have b:(w.alloc (.cells cs T)).heap[w.heap.size]?=some (.cells cs T (0,0)):=by
  show(w.heap.push (.cells cs T))[w.heap.size]?=_;simp
 refine⟨by simp[Gh.Eg],by grind[Gh.Eg],by simp[Gh.Eg],by grind[Gh.Eg],.inr ⟨w.heap.size,cs,T,by simp[Gh.Eg],λh=>?_,b,by grind[Gh.Eg],by simpa [Gh.Eg] using Zm b (hr.mono c)⟩⟩;have:=hi.F _ h;omega
def Fp(s:St) (p:Nat):I->Option (D×Ent)
 |.alloc S z=>match s.m[p]? with
  |some (.live S' Oa [])=>if S'=S then some (.ref p (Oa+1) 0 0,.live S (Oa+1) [z])else none
  |_=>none
 |.box S x=>match s.m[p]? with
  |some (.live S' Oa [])=>if S'=S/\(s.ev x).ok=true/\(s.ev x).cells.length=S then some (.ref p (Oa+1) 0 0,.live S (Oa+1) [s.ev x])else none
  |_=>none
 |.bslice S n z ps=>match s.m[p]? with
  |some (.live S' Oa [])=>if S'=S then(Kc s S ps (Daa n z)).map λl=>(.own p (Oa+1),.live S (Oa+1) l)else none
  |_=>none
 |_=>none
section
variable {P:Program} {G:Gh} {w:World} {a:Act} {s:St} {d:D} {e:Ent} {p:Nat}
theorem zR{w':World}{C N:Nat}(hp:p<G.n):VRel (G.Eg p (some b) (Oa+1) N (C,0)) w' (.ref p (Oa+1) 0 0) (.pointer (some ⟨b,0,none⟩)):=by
 simp only[VRel];exact⟨_,rfl,by grind[Gh.Eg],by simp[Gh.Eg],λ_=>⟨b,by simp[Gh.Eg],by simp[Gh.Eg]⟩⟩
theorem G7{w':World}{C N:Nat}(hp:p<G.n):VRel (G.Eg p (some b) (Oa+1) N (C,0)) w' (.own p (Oa+1)) (.slice (some ⟨b,0,none⟩) N C):=by
 simp only[VRel];exact⟨_,_,_,rfl,by grind[Gh.Eg],by simp[Gh.Eg],λ_=>⟨by simp[Gh.Eg],by simp[Gh.Eg],by simp[Gh.Eg]⟩⟩
theorem f_alloc(hr:Rel G w a s) (ho:o.op=.alloc t) (g:zeroOf P t=some z) (he:Fp s p (.alloc z.cells.size (leaf z))=some (d,e)) :
 Good G w s.m ((execOp a.eval o).run P w) d (s.m.set p e):=by
 simp only[Fp]at he;split at he
 .rename_i S' Oa hm;split at he
  .rename_i f;subst f;injection he with he;injection he with c h2;subst c;subst h2;obtain⟨hz1,b,hz3,-⟩:=Bo g w;obtain⟨g1,g2⟩:=zG hr.inv hm [leaf z] 1 z.cells t (JC (Gz z b) rfl (RN b)) (by simp) (by simp);refine⟨_,_,_,?_,.inl ⟨_,rfl,zR (C:=1) (N:=1) (by rw[hr.inv.n];grind)⟩,g1,g2⟩
   simp_all[execOp,Instr.alloc,newVar,newRow]
  simp_all
 simp_all
theorem f_box(hr:Rel G w a s) (ho:o.op=.box t x) (he:Fp s p (.box S x)=some (d,e)) :
 Good G w s.m ((execOp a.eval o).run P w) d (s.m.set p e):=by
 simp only[Fp]at he;split at he
 .rename_i S' Oa hm;split at he
  .rename_i hc;obtain⟨rfl,f,hlen⟩:=hc;injection he with he;injection he with b h2;subst b;subst h2;have hx:=hr.ev x;obtain⟨hv,b⟩:=hx.cells f;have g:(a.eval x).cells.size=S':=by rw[←zac,hv.length];omega
   obtain⟨g1,g2⟩:=zG hr.inv hm [s.ev x] 1 (a.eval x).cells t (JC hx g (λj c hj=>b c (by grind))) (by simp) (by omega);refine⟨_,_,_,?_,.inl ⟨_,rfl,zR (C:=1) (N:=1) (by rw[hr.inv.n];grind)⟩,g1,g2⟩
   simp_all[execOp,Instr.box,newVar,newRow]
  simp_all
 simp_all
theorem M5(hr:Rel G w a s) {e':TypeId}{ps:Array (Nat×Operand)}(ho:o.op=.buildSlice t n ps)
 (ht:P.underlying t=some (.slice e')) (A:zeroOf P e'=some z) (hsmall:n*z.cells.size<=2 ^ 24) (he:Fp s p (.bslice z.cells.size n (leaf z) ps.toList)=some (d,e)) :
 Good G w s.m ((execOp a.eval o).run P w) d (s.m.set p e):=by
 simp only[Fp]at he;split at he
 .rename_i S' Oa hm;split at he
  .rename_i y;subst y;simp only[Faa,Vaa]at he;obtain⟨l,hb,rfl,rfl⟩:=he;obtain⟨u,v,hz3,i,hi,c,hzz⟩:=Bo A w;obtain⟨cells,hf,g,hcs,b⟩:=CO hr hb (Yv v n) (by simp);simp only[List.length_replicate]at b;obtain⟨g1,g2⟩:=zG hr.inv hm l n cells e' g (by omega) (by simp_all);refine⟨_,_,_,?_,.inl ⟨_,rfl,G7 (N:=l.length) (C:=n) (by rw[hr.inv.n];grind)⟩,g1,g2⟩;unfold execOp;simp only[ho];have q:¬(2 ^ 24<n*i.size):=by simp_all
   by_cases x:n*i.size=0
   .have j:n=0:=by
     grind[Nat.mul_eq_zero]
    subst j;rw[c.symm]at hf;rw[Nat.zero_mul,show Yad 0 = #[]from rfl,Array.map_empty]at hf;have h:Instr.fill (λk=>some (k*i.size,i.size)) #[] (ps.toList.map λp=>(p.1,a.eval p.2))=some cells:=hf;have r:∀f:Nat->Value,Array.map f (Yad 0) = #[]:=λf=>by simp
    simp[Instr.buildSlice,run_underlying ht,je hi,r,h,newRow,b]
   .rw[c.symm]at hf;simp[Instr.buildSlice,run_underlying ht,je hi,q,x,u,hf,newRow,b,c.symm]
  simp_all
 simp_all
theorem RU{i:I}(hc:zu P ops o o.op=some i) (hr:Rel G w a s) (he:Fp s p i=some (d,e)):Good G w s.m ((execOp a.eval o).run P w) d (s.m.set p e):=by
 cases i with
 |alloc S z=>
  obtain⟨t,b,ho,f,rfl,rfl⟩:∃t b,o.op=.alloc t/\zeroOf P t=some b/\b.cells.size=S/\leaf b=z:=by
   unfold zu at hc;split at hc
   .grind[OC,Faa]
   .unfold sH at hc
    repeat' split at hc
    all_goals first
     |cases hc
     |(
      simp only[Faa]at hc;obtain⟨b,f,h⟩:=hc
      first|cases h|skip)
    simp_all
  grind[f_alloc]
 |box S x=>
  obtain⟨t,ho⟩:∃t,o.op=.box t x:=by
   unfold zu at hc;split at hc
   .grind[OC,Faa]
   .unfold sH at hc
    grind[Faa]
  grind[f_box]
 |bslice S n z ps=>
  obtain⟨t,e',c,b,ho,ht,f,hsmall,rfl,rfl,rfl⟩:∃t e' c b,o.op=.buildSlice t n c/\P.underlying t=some (.slice e')/\zeroOf P e'=some b/\n*b.cells.size<=2 ^ 24/\b.cells.size=S/\leaf b=z/\c.toList=ps:=by
   unfold zu at hc;split at hc
   .grind[OC,Faa]
   .unfold sH at hc
    repeat' split at hc
    all_goals first
     |(cases hc;exact⟨_,_,_,_,by omega,by omega,by omega,by omega,rfl,rfl,rfl⟩)
     |cases hc
     |(
      simp only[Faa]at hc;obtain⟨b,f,h⟩:=hc;cases h)
  grind[M5]
 |_=>simp[Fp]at he
end
theorem BQ{i:I}(ht:∀t∈i.reads,s'.t.getD t .dead=s.t.getD t .dead) (hm:s'.m[p]?=s.m[p]?):Fp s' p i=Fp s p i:=by
 cases i with
 |alloc S z=>grind[Fp]
 |box S x=>
  grind[I.reads,Fp,Ba]
 |bslice S n z ps=>
  grind[I.reads,Fp,Xu]
 |_=>rfl
theorem AQ{i:I}(h:Fp s p i=some (d,e)):p<s.m.length:=by
 rcases Gab p s.m.length with a|a
 .omega
 .have hn:=List.getElem?_eq_none a;cases i<;>simp[Fp,hn]at h
def jC:Option Nat->St->RI->List Nat
 |some p,_,.op ..=>[p]
 |some _,s,.call _ _ _ args=>Jb s args
 |none,s,r=>bp s r
def qp(P:Program) (o:Option Nat) (r:RI) (s:St) (d:D) (x:List Ent) (w:Option (Nat×Ent)):Prop:=
 match o with
 |none=>kz P r s d x w
 |some p=>(∃dst i e,r=.op dst none i/\x=[]/\w=some (p,e)/\Fp s p i=some (d,e))\/
  (∃dst f args k first caps e,r=.call dst none f args/\x=[]/\w=some (p,e)/\s.cv f=.fn k first caps/\p∈Jb s args/\(∀id∈Jb s args,id<s.m.length)/\
   ∀m,(∀id∈Jb s args,m[id]?=s.m[id]?)->CallT P k (first++args.map s.ev++caps) m λd' m'=>d'=d/\m'=m.set p e)
def pO(pl:List (Option Nat)) (i:Nat):Option Nat:=pl.getD i none
theorem tW{pl:List (Option Nat)}:(pl.drop k).headD none=pO pl k:=by
 simp_all[pO]
theorem tail_drop{pl:List (Option Nat)}:(pl.drop k).tail=pl.drop (k+1):=by simp
theorem mS_le{xx:Nat->List Ent}{L:Nat->Bool}(m:List Ent):∀n,m.length<=(mS xx L m n).length
 |0=>Paa _
 |n+1=>by
  have:=mS_le (xx:=xx) (L:=L) m n
  grind[mS]
def iB(P:Program):List (Option Nat)->List RI->St->Os->List (List Nat)->St->Prop
 |_,[],s,os,rs,s'=>os=[]/\rs=[]/\s'=s
 |pl,r::l,s,os,rs,s'=>∃d x w os' a,os=(d,x,w)::os'/\rs=jC (pl.headD none) s r::a/\qp P (pl.headD none) r s d x w/\iB P pl.tail l (nn s r d x w) os' a s'
section
variable {P:Program}
theorem iB.length:∀{l:List RI}{pl:List (Option Nat)}{s s':St}{os:Os}{rs:List (List Nat)},iB P pl l s os rs s'->os.length=l.length
 |[],pl,s,s',os,rs,h=>by simp[h.1]
 |r::l,pl,s,s',os,rs,h=>by
  obtain⟨d,x,w,os',rs',rfl,rfl,_,h⟩:=h;simp[iB.length h]
theorem qp.lt{o:Option Nat}{r:RI}{s:St}{d:D}{x:List Ent}{w:Option (Nat×Ent)}(h:qp P o r s d x w) {id:Nat}{e:Ent}(hw:w=some (id,e)):id<s.m.length/\x=[]/\id∈jC o s r:=by
 cases o with
 |none=>exact kz.lt h hw
 |some p=>
  rcases h with⟨dst,i,e',rfl,hx,a,hf⟩|⟨dst,f,args,k,first,caps,e',rfl,hx,a,hf,c,hl,_⟩
  .rw[a]at hw;injection hw with hw;injection hw with b h2;subst b;exact⟨AQ hf,hx,by simp[jC]⟩
  .rw[a]at hw;injection hw with hw;injection hw with b h2;subst b;exact⟨hl _ c,hx,c⟩
theorem iB.get{pl:List (Option Nat)}{rl:List RI}{os:Os}{s0:St}:∀{l:List RI}{k:Nat}{s':St}{os':Os}{rs:List (List Nat)},l=(rl.drop k).take l.length->os'=(os.drop k).take os'.length->
 (∀j,j<k->∀id e,jX os j=some (id,e)->id<(mS (IL os) (λ_=>true) s0.m k).length)->iB P (pl.drop k) l (oq rl os s0 (λ_=>true) k) os' rs s'->
 (∀i,i<l.length->qp P (pO pl (k+i)) (rl.getD (k+i) RW) (oq rl os s0 (λ_=>true) (k+i)) (ddC os (k+i)) (IL os (k+i)) (jX os (k+i))/\rs.getD i []=jC (pO pl (k+i)) (oq rl os s0 (λ_=>true) (k+i)) (rl.getD (k+i) RW))/\s'=oq rl os s0 (λ_=>true) (k+l.length)
 |[],k,s',os',rs,_,_,_,h=>⟨λi hi=>by grind,by simpa using h.2.2⟩
 |r::l,k,s',os',rs,q,h2,hv,h=>by
  obtain⟨d,x,w,a,rs',rfl,rfl,n,h⟩:=h;rw[tW]at n;rw[tail_drop]at h;have hr:rl[k]?=some r:=by
   have:=congrArg (λl=>l[0]?) q
   grind
  have ho:os[k]?=some (d,x,w):=by
   have:=congrArg (λl=>l[0]?) h2
   grind
  have g:rl.getD k RW=r:=by simp_all
  have ho':os.getD k os0=(d,x,w):=by simp_all
  have hd:ddC os k=d:=by grind[ddC]
  have hx:IL os k=x:=by grind[IL]
  have hw:jX os k=w:=by grind[jX]
  have hds:YX rl k=r.dst:=by grind[YX]
  have c:mS (IL os) (λ_=>true) s0.m (k+1)=mS (IL os) (λ_=>true) s0.m k++x:=by grind[mS]
  have b:nn (oq rl os s0 (λ_=>true) k) r d x w=oq rl os s0 (λ_=>true) (k+1):=by
   rw[jJ];simp only[oq,tS,if_true,St.mk.injEq];refine⟨by grind,?_⟩;rw[c];simp only[sS,if_true,hw];rw[KU _ _ _ λj hj _ id e he=>hv j hj id e he]
   cases w with
   |none=>rfl
   |some p=>
    obtain⟨id,e⟩:=p;obtain⟨_,hx0,_⟩:=n.lt rfl
    grind[wr]
  have o:∀j,j<k+1->∀id e,jX os j=some (id,e)->id<(mS (IL os) (λ_=>true) s0.m (k+1)).length:=by
   intro j hj id e he;rw[c,kab];by_cases f:j=k
   .subst f;rw[hw]at he;have:=(n.lt he).1
    grind[oq,Vq]
   .have:=hv j (by omega) id e he;omega
  rw[b]at h;have t1:l=(rl.drop (k+1)).take l.length:=by
   grind[mab]
  have t2:a=(os.drop (k+1)).take a.length:=by
   grind[mab]
  obtain⟨g1,g2⟩:=iB.get t1 t2 o h;refine⟨λi hi=>?_,by grind⟩
  cases i with
  |zero=>simp only[Nat.add_zero,g,hd,hx,hw];grind[tW]
  |succ i=>
   have:=g1 i (by grind)
   grind
theorem flo_opO(hc:cr P ops o=some r) {x:List Ent}{O:Option (Nat×Ent)}{N:Option Nat}(hf:qp P N r sc d x O) (ht:∀t∈r.reads,s.t.getD t .dead=sc.t.getD t .dead)
 (hm:N=none->r.cls=2->s.m.length=sc.m.length) (J:∀(id:Nat),id∈jC N sc r->(∃e,sc.m[id]?=some e)->id<s.m.length->s.m[id]?=sc.m[id]?) (B:∀p,N=some p->p<s.m.length)
 {G:Gh} {w:World} (hr:Rel G w a s) (hi:ops[i]?=some o) {Q:Exit->Act->World->Prop} {K:Act->World->Prop}
 (S:∀G' w' a',Rel G' w' a' (nn s r d x O)->Step G w s.m G' w' (wr s.m O++x)->(∀id e,O=some (id,e)->id<s.m.length)->K a' w'):wpOp P ops Q i K a w:=by
 cases N with
 |none=>exact flo_op2 hc hf ht (hm rfl) J hr hi S
 |some p=>
  rcases hf with⟨dst,j,e,rfl,rfl,rfl,E⟩|⟨dst,f,args,k,first,caps,e,rfl,rfl,rfl,hfe,hpt,I,C⟩
  rotate_left
  .have A:=gA hc;have hp:=B p rfl;unfold wpOp;simp only[hi];unfold cr at hc;split at hc
   .grind
   .rename_i g T;split at hc
    .rename_i Y args' ho;injection hc with hc;injection hc with Z h2 R h4;subst h2;subst R;subst h4;obtain⟨b,y⟩:=Gp hr T;rw[if_pos (b rfl o rfl)];refine .inl ?_;have H:s.cv Y=.fn k first caps:=by grind[RI.reads,uJ]
     have c:args'.map s.ev=args'.map sc.ev:=map_congr (λt h=>ht t (by grind[RI.reads]));obtain⟨⟨fn,e1,e2,e3⟩,F⟩:=C s.m λid z=>by
      refine J id z ⟨_,Baa (I id z)⟩ ?_;rw[jH,←c]at z;rw[←hr.inv.n];exact jx (tC hr _) z
     obtain⟨fs,cs,L,V,W⟩:=mC hr ho (O4 H) e1 e2 e3;rw[←c]at F;have l:=F G w (fs++args'.map a.eval++cs) ((V.append (tC hr _)).append W) hr.inv;unfold Oper.wp;rw[L,Oper.upon_enter];refine l.mono ?_;rintro e0 w' ⟨v,d',m',G',rfl,⟨rfl,rfl⟩,X,U,M⟩;refine S G' w' _ ?_ (by grind[wr]) (λid e' h=>by simp_all);unfold nn;rw[eab];rw[A];exact(hr.step M.le U).put o.dst X
    simp_all
  have A:=gA hc;have hp:=B p rfl;have hat:=AQ E;have q:Fp s p j=some (d,e):=by
   grind[RI.reads,jC,BQ]
  unfold wpOp;simp only[hi];unfold cr at hc;split at hc
  .grind
  .rename_i g T;split at hc
   .simp_all
   .rename_i hno;simp only[Faa]at hc;obtain⟨j',hj,h⟩:=hc;injection h with Z h2 R;subst h2;subst R;obtain⟨b,y⟩:=Gp hr T;rw[if_pos (b rfl o rfl)];refine .inl ?_;exact hr.Lu (RU hj hr q) λG' w' u hr' M=>S G' w' _ (by grind[nn,wr]) (by grind[wr]) (λid e' h=>by simp_all)
end
def wB(o:Option Nat):RI->Bool
 |.op _ _ i=>o.isSome || i.UZ.isSome
 |.call ..=>o.isSome
def lB(o:Option Nat):RI->Bool
 |.op _ _ i=>o.isSome || i.UZ.isSome || i.at?.isSome
 |.call ..=>true
def qz(o a:Option Nat) (x y:RI):Bool:=(wB o x&&lB a y) || (wB a y&&lB o x)
def Ny(o a:Option Nat) (x y:RI):Bool:=
 (
  match x.dst with
  |some t=>y.reads.contains t || y.dst==some t
  |none=>false) ||
 (
  match y.dst with
  |some t=>x.reads.contains t
  |none=>false) ||
 (o.isNone&&a.isNone&&x.cls==2&&y.cls==2)
def oy(bs:List (List Nat)) (rl:List RI) (q:Nat) (ps:List (List Nat)) (pl:List (Option Nat)):Bool:=
 let ms:=MA bs
 (Kaa q).all λj=>match rl[j]? with
  |none=>false
  |some y=>((pO pl j).isSome || y.pI)&&(Kaa j).all λi=>match rl[i]? with
   |none=>false
   |some x=>(ms.getD j 0).testBit i || (!Ny (pO pl i) (pO pl j) x y&&(!qz (pO pl i) (pO pl j) x y || (ps.getD j []).contains i))
structure DrawFactsO (bs:List (List Nat)) (rl:List RI) (q:Nat) (ps:List (List Nat)) (pl:List (Option Nat)):Prop extends TailFacts bs rl q where
 pI:∀(j:Nat) y,j<q->rl[j]?=some y->((pO pl j).isSome || y.pI)=true
 apart:∀(i j:Nat) x y,i<j->j<q->rl[i]?=some x->rl[j]?=some y->Ny (pO pl i) (pO pl j) x y=true->((MA bs).getD j 0).testBit i=true
 pairs:∀(i j:Nat) x y,i<j->j<q->rl[i]?=some x->rl[j]?=some y->qz (pO pl i) (pO pl j) x y=true->((MA bs).getD j 0).testBit i=true\/i∈ps.getD j []
variable {pl:List (Option Nat)}
theorem TL{bs:List (List Nat)}{rl:List RI}{q:Nat}{ps:List (List Nat)}(ht:TailFacts bs rl q) (h:oy bs rl q ps pl=true):DrawFactsO bs rl q ps pl:=by
 unfold oy at h;simp only[fab,Lac]at h;refine⟨ht,?_,?_,?_⟩
 all_goals grind
section
variable {P:Program} {ops:Array Oper} {Q:Exit->Act->World->Prop} {K:St->Prop} {rl:List RI} {q:Nat} {ps:List (List Nat)} {pl:List (Option Nat)}
theorem DN{o a:Option Nat}{x y:RI}(hx:id∈jC o s x) (hy:wB a y=true):qz o a x y=true:=by
 have h:lB o x=true:=by
  cases o with
  |some p=>cases x<;>simp[lB]
  |none=>
   cases x with
   |call=>rfl
   |op d g i=>
    grind[jC,bp,lB]
 grind[qz]
theorem pT{o a:Option Nat}{x y:RI}:qz o a x y=qz a o y x:=by grind[qz]
theorem qp.wB{o:Option Nat}{r:RI}{s:St}{d:D}{x:List Ent}{p:Nat×Ent}(h:qp P o r s d x (some p)):Go.Tm.wB o r=true:=by
 cases o with
 |some p=>cases r<;>rfl
 |none=>
  cases r with
  |call=>obtain⟨_,h,_⟩:=h;cases h
  |op d g i=>
   rcases h with⟨_,⟨h,_⟩|⟨_,a,_,_,h,_⟩⟩|⟨_,_,_,h⟩
   all_goals grind[Go.Tm.wB]
theorem wT(hc:Nh P ops ops.toList=some rl) (hf:DrawFactsO (Bb ops) rl q ps pl) {os:Os}
 (I:∀i,i<q->qp P (pO pl i) (rl.getD i RW) (oq rl os s0 (λ_=>true) i) (ddC os i) (IL os i) (jX os i))
 (hpl:∀i p,pO pl i=some p->p<s0.m.length)
 (B:∀i,i<q->IL os i≠[]->(rl.getD i RW).cls=2/\pO pl i=none)
 (hap:∀i j,i<j->j<q->i∈ps.getD j []->∀id,id∈jC (pO pl i) (oq rl os s0 (λ_=>true) i) (rl.getD i RW)->id∉jC (pO pl j) (oq rl os s0 (λ_=>true) j) (rl.getD j RW))
 (hT:Rl P (rl.drop q) K (oq rl os s0 (λ_=>true) q)) :
 ∀(fuel:Nat) (listed:Array Bool) (G:Gh) (w:World) (a:Act),((Kaa ops.size).filter λj=>!Vd listed j).length<=fuel->listed.size=ops.size->Closed (Bb ops) (Vd listed)->
  (∀j,q<=j->Vd listed j=false)->Rel G w a (oq rl os s0 (Vd listed) q)->(∀j,j<q->Vd listed j=true->∀id e,jX os j=some (id,e)->id<(mS (IL os) (Vd listed) s0.m q).length)->
  (∀s' G' w' a',K s'->Rel G' w' a' s'->Step G w (oq rl os s0 (Vd listed) q).m G' w' s'.m->Q .normal a' w')->wpAny P .any ops Q fuel listed a w:=by
 obtain⟨Y,W⟩:=iy hc;simp only[zac]at Y;have hq:=hf.hq;have d:∀{L L':Nat->Bool},(∀j,j<q->L j=L' j)->oq rl os s0 L q=oq rl os s0 L' q:=by
  intro L L' h;have hs:∀(m:List Ent) n,n<=q->sS (jX os) L m n=sS (jX os) L' m n:=by
   intro m n
   induction n with
   |zero=>intro _;rfl
   |succ n ih=>grind[sS]
  simp only[oq,St.mk.injEq];exact⟨qL _ _ λj hj=>h j hj,by rw[kK _ _ λj hj=>h j hj,hs _ _ (Paa _)]⟩
 intro fuel
 induction fuel with
 |zero=>
  intro listed G w a o F H T J hV hQ;have V:∀i,i<ops.size->Vd listed i=true:=by
   simp_all
  have hqn:q=ops.size:=by
   rcases Gab q ops.size with h|h
   all_goals grind
  have E:oq rl os s0 (Vd listed) q=oq rl os s0 (λ_=>true) q:=d λj hj=>V j (by omega);refine CC hc hf.toTailFacts 0 q 0 listed _ G w a (by omega) (Paa _) (Paa _) (by omega) F (λi=>?_) hT (by simp_all) (by grind)
  grind
 |succ fuel ih=>
  intro listed G w a o F H T J hV hQ;by_cases b:∀j,j<q->Vd listed j=true
  .have E:oq rl os s0 (Vd listed) q=oq rl os s0 (λ_=>true) q:=d λj hj=>b j hj;have g:∀i,Vd listed i=decide (i<q):=λi=>by
    grind
   have hcnt:=count_tail q ops.size;simp only[g]at o;exact CC hc hf.toTailFacts (ops.size-q) q (fuel+1) listed _ G w a rfl (by omega) (Paa _) (by omega) F g hT (by simp_all) (by grind)
  .refine⟨λhno=>(b λj hj=>LB hf.toTailFacts F hno j (by omega)).elim,λi hi=>?_⟩;obtain⟨h1,h2,h3,h4,U⟩:=Ay hf.toTailFacts F H hi;have c:i<q:=by
    rcases Gab i q with h|h
    .exact h
    .exact(b λj hj=>h3 j (by omega) (hf.tail j i (by omega) h (by omega))).elim
   have z:∀j,j<q->rl[j]?=some (rl.getD j RW):=λj hj=>getD_some (by omega) _;obtain⟨r,hr,hco⟩:=W i ops[i] (by simp);have hrr:rl.getD i RW=r:=by grind
   have early:∀j x,j<i->rl[j]?=some x->Ny (pO pl j) (pO pl i) x r=true->Vd listed j=true:=λj x hj hx u=>h3 j (by omega) (hf.apart j i x r hj c hx hr u);have late:∀j y,i<j->j<q->rl[j]?=some y->Ny (pO pl i) (pO pl j) r y=true->Vd listed j=false:=by
    intro j y hj R hy u;rcases hb:Vd listed j with _|_
    .rfl
    .have:=Xw H hb (hf.apart i j r y hj R hr hy u)
     grind
   have hF:=I i c;rw[hrr]at hF;have v:∀(k l:Nat) (x y:RI),(x.cls=2/\pO pl k=none)->(y.cls=2/\pO pl l=none)->Ny (pO pl k) (pO pl l) x y=true:=λk l x y hx hy=>by grind[Ny]
   have ordered:∀j,j<q->∀id e,jX os j=some (id,e)->id∈jC (pO pl i) (oq rl os s0 (λ_=>true) i) r->(Vd listed j=true↔j<i):=by
    intro j hj id e hw D;have M:=I j hj;have S:=M.lt hw;have E:Go.Tm.wB (pO pl j) (rl.getD j RW)=true:=by rw[hw]at M;exact M.wB
    rcases Nat.lt_trichotomy j i with A|A|A
    .refine⟨λ_=>A,λ_=>?_⟩;have N:qz (pO pl j) (pO pl i) (rl.getD j RW) r=true:=by grind[pT,DN]
     rcases hf.pairs j i _ r A c (z j hj) hr N with h|h
     all_goals grind
    .grind
    .refine⟨λg=>?_,λh=>by omega⟩;have N:qz (pO pl i) (pO pl j) r (rl.getD j RW)=true:=DN D E;rcases hf.pairs i j r _ A hj hr (z j hj) N with h|h
     all_goals grind[Xw]
   refine flo_opO hco hF (s:=oq rl os s0 (Vd listed) q) ?_ ?_ ?_ ?_ J (Mab h1) ?_
   .intro y hy;refine RR s0.t (by omega) λj hj hd=>?_;have hxj:=z j hj
    grind[YX,Ny]
   .intro hpo hcls;simp only[oq,Vq];refine congrArg List.length (XQ s0.m (Nat.le_of_lt c) λj hj hx=>?_)
    grind
   .rintro id D ⟨e,he⟩ O;obtain⟨k,hk,Z⟩:=HG (xx:=IL os) (L:=Vd listed) s0.m q λi1 j1 X hj hx1 hx2 hL1=>
     Xw H hL1 (hf.apart i1 j1 _ _ X hj (z i1 (by omega)) (z j1 hj) (v _ _ _ _ (B i1 (by omega) hx1) (B j1 hj hx2)))
    simp only[oq,Vq]at he O⊢;have S:id<(mS (IL os) (λ_=>true) s0.m i).length:=by
     grind[Vq]
    rw[iL _ _ _ O,iL _ _ _ S,fU (by omega) λj hj e hw=>ordered j hj id e hw D];have hbase:(mS (IL os) (Vd listed) s0.m q)[id]?=(mS (IL os) (λ_=>true) s0.m i)[id]?:=by
     rw[Z]at O⊢;rcases eaf i k with h|h
     .obtain⟨rr,hrr'⟩:=VI (xx:=IL os) s0.m h
      grind
     .obtain⟨rr,hrr'⟩:=VI (xx:=IL os) s0.m h
      grind
    grind
   .grind[oq,Vq,mS_le]
   .intro G' w' a' C hs' S;have f:mS (IL os) (Vd (listed.setIfInBounds i true)) s0.m q=mS (IL os) (Vd listed) s0.m q++IL os i:=by
     refine fW s0.m h2 U c ?_
     grind
    have E:nn (oq rl os s0 (Vd listed) q) r (ddC os i) (IL os i) (jX os i)=oq rl os s0 (Vd (listed.setIfInBounds i true)) q:=by
     rw[jJ];simp only[oq,St.mk.injEq];constructor
     .rw[YW s0.t h2 U c ?_]
      all_goals grind[YX,Ny]
     .rw[f,sS_step _ h2 U c ?_]
      .rw[KU _ _ _ λj hj g id e he=>hV j hj g id e he]
       cases hw:jX os i with
       |none=>rfl
       |some p=>
        obtain⟨id,e⟩:=p;have:=(hF.lt hw).2.1
        grind[wr]
      .intro j X R g id e e' hwi hwj;have:=(ordered j R id e' hwj (hF.lt hwi).2.2).1 g;omega
    rw[E]at C;refine ih (listed.setIfInBounds i true) G' w' a' ?_ (by grind) h4 ?_ C ?_ ?_
    .have:=filter_lt h2 U (l:=Kaa ops.size) (by grind);omega
    .grind
    .intro j hj g id e he;rw[f,kab];rw[U,Dad,beq_iff_eq]at g;rcases g with g|rfl
     all_goals grind[oq,Vq]
    .intro s'' G'' w'' a'' k1 k2 k3;refine hQ s'' G'' w'' a'' k1 k2 (hs'.trans ?_)
     grind[jJ]
end
def uq(P:Program):List (Option Nat)->List (List Nat)->List (List Nat)->Nat->List RI->(St->Prop)->St->Prop
 |_,_,_,0,l,K,s=>Rl P l K s
 |_,_,_,_+1,[],_,_=>False
 |pl,ps,fp,q+1,.op dst g i::l,K,s=>
  match pl.headD none with
  |some p=>BE fp [p] (ps.headD [])=true/\g=none/\∃d e,Fp s p i=some (d,e)/\uq P pl.tail ps.tail (fp++[[p]]) q l K ({ s with m:=s.m.set p e }.put dst d)
  |none=>
   BE fp (bp s (.op dst g i)) (ps.headD [])=true/\
   match gate s g with
   |none=>False
   |some none=>∃d m',Tg s i=true/\fa s i=some (d,m')/\uq P pl.tail ps.tail (fp++[bp s (.op dst g i)]) q l K ({ s with m:=m' }.put dst d)
   |some (some (c,b))=>(c=b->∃d m',Tg s i=true/\fa s i=some (d,m')/\uq P pl.tail ps.tail (fp++[bp s (.op dst g i)]) q l K ({ s with m:=m' }.put dst d))/\(c≠b->uq P pl.tail ps.tail (fp++[bp s (.op dst g i)]) q l K (s.put dst (.v undef)))
 |pl,ps,fp,q+1,.call dst g f args::l,K,s=>
  match pl.headD none,s.cv f with
  |some p,.fn k first caps=>g=none/\p∈Jb s args/\BE fp (Jb s args) (ps.headD [])=true/\∃d e,((∀id∈Jb s args,id<s.m.length)/\∀m,(∀id∈Jb s args,m[id]?=s.m[id]?)->CallT P k (first++args.map s.ev++caps) m λd' m'=>d'=d/\m'=m.set p e)/\uq P pl.tail ps.tail (fp++[Jb s args]) q l K ({ s with m:=s.m.set p e }.put dst d)
  |none,.fn k first caps=>
   match gate s g with
   |none=>False
   |some none=>BE fp (Jb s args) (ps.headD [])=true/\∃d,((∀id∈Jb s args,id<s.m.length)/\∀m,(∀id∈Jb s args,m[id]?=s.m[id]?)->CallT P k (first++args.map s.ev++caps) m λd' m'=>d'=d/\m'=m)/\uq P pl.tail ps.tail (fp++[Jb s args]) q l K (s.put dst d)
   |some (some (c,b))=>BE fp (Jb s args) (ps.headD [])=true/\(c=b->∃d,((∀id∈Jb s args,id<s.m.length)/\∀m,(∀id∈Jb s args,m[id]?=s.m[id]?)->CallT P k (first++args.map s.ev++caps) m λd' m'=>d'=d/\m'=m)/\uq P pl.tail ps.tail (fp++[Jb s args]) q l K (s.put dst d))/\(c≠b->uq P pl.tail ps.tail (fp++[Jb s args]) q l K (s.put dst (.v undef)))
  |none,_=>BE fp (Jb s args) (ps.headD [])=true/\(∃c b,gate s g=some (some (c,b))/\c≠b)/\uq P pl.tail ps.tail (fp++[Jb s args]) q l K (s.put dst (.v undef))
  |_,_=>False
section
variable {P:Program} {K:St->Prop}
theorem uW:pO pl.tail j=pO pl (j+1):=by grind[pO]
theorem PE:∀{q:Nat}{l:List RI}{s:St}{pl:List (Option Nat)}{ps:List (List Nat)}{fp:List (List Nat)},uq P pl ps fp q l K s->(∀(j:Nat) y,j<q->l[j]?=some y->((pO pl j).isSome || y.pI)=true)->
 ∃os rs s1,iB P pl (l.take q) s os rs s1/\Rl P (l.drop q) K s1/\(∀j,j<q->∀i∈ps.getD j [],i<fp.length+j->Zs ((fp++rs).getD i []) (rs.getD j [])=true)
 |0,l,s,pl,ps,fp,h,_=>⟨[],[],s,by simp[iB],by simpa [uq] using h,λj hj=>by omega⟩
 |q+1,[],s,pl,ps,fp,h,_=>by simp[uq]at h
 |q+1,.op dst g i::l,s,pl,ps,fp,h,hc=>by
  have A:∀(j:Nat) y,j<q->l[j]?=some y->((pO pl.tail j).isSome || y.pI)=true:=λj y hj O=>by grind[uW]
  simp only[uq]at h;have join:∀{s2:St} {d x w},BE fp (jC (pl.headD none) s (.op dst g i)) (ps.headD [])=true->qp P (pl.headD none) (.op dst g i) s d x w->nn s (.op dst g i) d x w=s2->uq P pl.tail ps.tail (fp++[jC (pl.headD none) s (.op dst g i)]) q l K s2->
   ∃os rs s1,iB P pl ((RI.op dst g i::l).take (q+1)) s os rs s1/\Rl P ((RI.op dst g i::l).drop (q+1)) K s1/\(∀j,j<q+1->∀i∈ps.getD j [],i<fp.length+j->Zs ((fp++rs).getD i []) (rs.getD j [])=true):=by
   intro s2 d x w n N hs r;obtain⟨os,rs,s1,H,h2,I⟩:=PE r A;refine⟨(d,x,w)::os,jC (pl.headD none) s (.op dst g i)::rs,s1,by simp only[xab,iB];grind,by simp_all,λj hj k hk G=>?_⟩
   cases j with
   |zero=>
    have E:k∈ps.headD []:=by cases ps with|nil=>simp at hk|cons a b=>simp_all
    have F:k<fp.length:=by omega
    have B:(fp++jC (pl.headD none) s (.op dst g i)::rs).getD k []=fp.getD k []:=by
     grind
    grind[GI]
   |succ j=>
    grind[iab]
  split at h
  .rename_i p z;obtain⟨n,rfl,d,e,hf,r⟩:=h;exact join (d:=d) (x:=[]) (w:=some (p,e)) (by rw[z];exact n) (by rw[z];exact .inl ⟨dst,i,e,rfl,rfl,rfl,hf⟩) (show nn s (.op dst none i) d [] (some (p,e))=({ s with m:=s.m.set p e }:St).put dst d by grind[nn,wr,RI.dst]) (by rw[z];exact r)
  .rename_i z;have J:(RI.op dst g i).pI=true:=by
    have:=hc 0 _ (by omega) rfl;have h0:pO pl 0=none:=by rw[←z];cases pl<;>rfl
    simp_all
   simp only[z,jC,qp]at join;obtain⟨n,h⟩:=h;have on:∀{d:D} {m':List Ent},Tg s i=true->fa s i=some (d,m')->(gate s g=some none\/∃c,gate s g=some (some (c,c)))->uq P pl.tail ps.tail (fp++[bp s (.op dst g i)]) q l K ({ s with m:=m' }.put dst d)->
    ∃os rs s1,iB P pl ((RI.op dst g i::l).take (q+1)) s os rs s1/\Rl P ((RI.op dst g i::l).drop (q+1)) K s1/\(∀j,j<q+1->∀i∈ps.getD j [],i<fp.length+j->Zs ((fp++rs).getD i []) (rs.getD j [])=true):=by
    intro d m' C he u r;simp only[RI.pI,Dad,decide_eq_true_eq]at J;by_cases L:i.cls<=2
    .have ext:∃x,m'=s.m++x:=by
      rcases Gab i.cls 2 with h2|h2
      .exact⟨[],by rw[eab];exact(Js (s:=s) (s':=s) (by omega) (λ_ _=>rfl) (λ_ _ _ _=>rfl) he).1⟩
      .obtain⟨e,h,_⟩:=AH (s:=s) (s':=s) (by omega) (λ_ _=>rfl) rfl he
       simp_all
     obtain⟨x,rfl⟩:=ext;exact join n (x:=x) (w:=none) (.inl ⟨u,.inl ⟨rfl,L,he⟩⟩) rfl r
    .have ht:i.UZ.isSome=true:=by simp_all
     obtain⟨a,ha⟩:=Option.isSome_iff_exists.1 ht;obtain⟨id,e,H,rfl,I,h4⟩:=RM ha C he;refine join n (x:=[]) (w:=some (id,e)) (.inl ⟨u,.inr ⟨rfl,a,id,e,ha,H,rfl,he,?_,C⟩⟩) ?_ r
     all_goals grind[nn,wr,RI.dst]
   have off:(∃c b,gate s g=some (some (c,b))/\c≠b)->uq P pl.tail ps.tail (fp++[bp s (.op dst g i)]) q l K (s.put dst (.v undef))->
    ∃os rs s1,iB P pl ((RI.op dst g i::l).take (q+1)) s os rs s1/\Rl P ((RI.op dst g i::l).drop (q+1)) K s1/\(∀j,j<q+1->∀i∈ps.getD j [],i<fp.length+j->Zs ((fp++rs).getD i []) (rs.getD j [])=true):=λu r=>
    join n (d:=.v undef) (x:=[]) (w:=none) (.inr ⟨u,rfl,rfl,rfl⟩) (by simp_all[nn,wr,RI.dst]) r
   split at h
   .simp_all
   .grind
   .rename_i c b u;by_cases t:c=b
    .subst t;obtain⟨d,m',C,he,r⟩:=h.1 rfl
     simp_all
    .exact off ⟨c,b,u,t⟩ (h.2 t)
 |q+1,.call dst g f args::l,s,pl,ps,fp,h,hc=>by
  have A:∀(j:Nat) y,j<q->l[j]?=some y->((pO pl.tail j).isSome || y.pI)=true:=λj y hj O=>by grind[uW]
  rcases z:pl.headD none with _|p
  rotate_left
  .simp only[uq]at h
   cases hf:s.cv f with
   |fn k first caps=>
    simp only[z,hf]at h;obtain⟨rfl,M,n,d,e,o,r⟩:=h;obtain⟨os,rs,s1,H,h2,I⟩:=PE r A;refine⟨(d,[],some (p,e))::os,Jb s args::rs,s1,?_,by simp_all,λj hj k hk G=>?_⟩
    .simp only[xab,iB,z];refine⟨d,[],some (p,e),os,rs,rfl,rfl,.inr ⟨dst,f,args,k,first,caps,e,rfl,rfl,rfl,hf,M,o.1,o.2⟩,?_⟩
     grind[nn,wr,RI.dst]
    .cases j with
     |zero=>
      have E:k∈ps.headD []:=by cases ps with|nil=>simp at hk|cons a b=>simp_all
      have F:k<fp.length:=by omega
      have B:(fp++Jb s args::rs).getD k []=fp.getD k []:=by
       grind
      grind[GI]
     |succ j=>
      grind[iab]
   |_=>simp only[z,hf]at h
  have haf:∀d,nn s (.call dst g f args) d [] none=s.put dst d:=λd=>by simp_all[nn,wr,RI.dst]
  have join:∀{d},BE fp (Jb s args) (ps.headD [])=true->kz P (.call dst g f args) s d [] none->uq P pl.tail ps.tail (fp++[Jb s args]) q l K (s.put dst d)->
   ∃os rs s1,iB P pl ((RI.call dst g f args::l).take (q+1)) s os rs s1/\Rl P ((RI.call dst g f args::l).drop (q+1)) K s1/\(∀j,j<q+1->∀i∈ps.getD j [],i<fp.length+j->Zs ((fp++rs).getD i []) (rs.getD j [])=true):=by
   intro d n N r;obtain⟨os,rs,s1,H,h2,I⟩:=PE r A;refine⟨(d,[],none)::os,Jb s args::rs,s1,by simp only[xab,iB,z,jC,bp,qp];grind,by simp_all,λj hj k hk G=>?_⟩
   cases j with
   |zero=>
    have E:k∈ps.headD []:=by cases ps with|nil=>simp at hk|cons a b=>simp_all
    have F:k<fp.length:=by omega
    have B:(fp++Jb s args::rs).getD k []=fp.getD k []:=by
     grind
    grind[GI]
   |succ j=>
    grind[iab]
  simp only[uq]at h
  cases hf:s.cv f with
  |fn k first caps=>
   simp only[z,hf]at h;split at h
   .simp_all
   .rename_i u;obtain⟨n,d,o,r⟩:=h;exact join n ⟨rfl,rfl,.inl ⟨k,first,caps,hf,.inl u,o⟩⟩ r
   .rename_i c b u;obtain⟨n,h⟩:=h;by_cases t:c=b
    .subst t;obtain⟨d,o,r⟩:=h.1 rfl;exact join n ⟨rfl,rfl,.inl ⟨k,first,caps,hf,.inr ⟨c,u⟩,o⟩⟩ r
    .exact join n ⟨rfl,rfl,.inr ⟨⟨c,b,u,t⟩,rfl⟩⟩ (h.2 t)
  |_=>
   simp only[z,hf]at h;obtain⟨n,⟨c,b,u,t⟩,r⟩:=h;exact join n ⟨rfl,rfl,.inr ⟨⟨c,b,u,t⟩,rfl⟩⟩ r
end
section
variable {P:Program} {N:Nat} {ops:Array Oper} {Q:Exit->Act->World->Prop} {K:St->Prop} {rl:List RI} {q:Nat} {ps:List (List Nat)} {pl:List (Option Nat)}
theorem RD(Xx:P.follows .mixedOrders=true) (hc:Nh P ops ops.toList=some rl) (hf:DrawFactsO (Bb ops) rl q ps pl) (B:uq P pl ps [] q rl K s) (u:∀i p,pO pl i=some p->p<s.m.length)
 {G:Gh} {w:World} (hr:Rel G w a s) (hQ:∀s' G' w' a',K s'->Rel G' w' a' s'->Step G w s.m G' w' s'.m->Q .normal a' w'):(Code.region id ops true).wp P Q a w:=by
 obtain⟨os,rs,s1,x,C,hap⟩:=PE B hf.pI;have c:(rl.take q).length=q:=by rw[Qac];have:=hf.hq;omega
 have e:=x.length;rw[c]at e;have A:oq rl os s (λ_=>true) 0=s:=rfl;obtain⟨g1,g2⟩:=iB.get (pl:=pl) (rl:=rl) (os:=os) (s0:=s) (k:=0) (l:=rl.take q) (os':=os) (s':=s1) (rs:=rs) (by simp) (by simp) (λj hj=>by omega) (by rw[A];exact x);simp only[c,Qab]at g1 g2;subst g2;have r:∀j,Vd (Uab ops.size false) j=false:=by
  intro j;unfold Vd;simp only[Tac,Uad]
  grind
 have d:oq rl os s (Vd (Uab ops.size false)) q=s:=by
  have ht:∀n,tS (YX rl) (ddC os) (Vd (Uab ops.size false)) s.t n=s.t:=by
   intro n
   induction n with
   |zero=>rfl
   |succ n z=>simp_all[tS]
  have hm:∀n,mS (IL os) (Vd (Uab ops.size false)) s.m n=s.m:=by
   intro n
   induction n with
   |zero=>rfl
   |succ n z=>simp_all[mS]
  have hw:∀n,sS (jX os) (Vd (Uab ops.size false)) s.m n=s.m:=by
   intro n
   induction n with
   |zero=>rfl
   |succ n z=>simp_all[sS]
  grind[oq]
 refine wp_region_any Xx ?_;have v:=Same.drew w;refine wT hc hf (λi hi=>(g1 i hi).1) u ?_ ?_ C ops.size _ G _ a ?_ (by simp) ?_ (λj _=>r j) ?_ (λj _ h=>by simp_all) ?_
 .intro i hi hx;have h:=(g1 i hi).1;rcases y:pO pl i with _|p
  .rw[y]at h;refine⟨?_,rfl⟩
   cases o:rl.getD i RW with
   |call dst g f args=>
    rw[o]at h;obtain⟨h,_⟩:=h
    simp_all
   |op dst g j=>
    rw[o]at h;rcases h with⟨-,⟨_,hcl,h⟩|⟨h,_⟩⟩|⟨-,-,h,_⟩
    .simp only[RI.cls];rcases Gab j.cls 2 with h2|h2
     .obtain⟨hm,-⟩:=Js (s:=oq rl os s (λ_=>true) i) (s':=oq rl os s (λ_=>true) i) (by omega) (λ_ _=>rfl) (λ_ _ _ _=>rfl) h
      simp_all
     omega
    all_goals simp_all
  .rw[y]at h;rcases h with⟨_,_,_,_,h,_⟩|⟨_,_,_,_,_,_,_,_,h,_⟩
   all_goals simp_all
 .grind[AM]
 .grind
 .intro i b _ hi
  simp_all
 .rw[d];exact⟨hr.t.mono (v.le G),v.inv hr.inv,hr.defers⟩
 .intro s' G' w' a' D E k3;rw[d]at k3;exact hQ s' G' w' a' D E ((v.step G s.m).trans k3)
def Yw(m:List Ent) (pl:List (Option Nat)):Bool:=pl.all λo=>match o with|some p=>decide (p<m.length)|none=>true
theorem J7{m:List Ent}{pl:List (Option Nat)}(h:Yw m pl=true):∀i p,pO pl i=some p->p<m.length:=by
 intro i p a;unfold Yw at h;rw[fab]at h;unfold pO at a;have hm:some p∈pl:=by
  grind
 grind
theorem T.anyO(hm:P.follows .mixedOrders=true) {bs:List (List Nat)}{K:Exit->St->Prop}(ps:List (List Nat)) (pl:List (Option Nat)) (c:oy bs l q ps pl=true) (d:Yw s.m pl=true) (h:uq P pl ps [] q l (K .normal) s):T P N (.any cuts q bs l) K s:=by
 intro code hc G w a hN hr;obtain⟨id,ops,rfl,rfl,b,e⟩:=H4 hc;exact RD hm b (TL (kP e).1 c) h (J7 d) hr λs' G' w' a' f g k3=>⟨s',G',f,g,k3.toN hN⟩
theorem ny{K:St->Prop}:∀{q:Nat}{l:List RI}{ps fp:List (List Nat)}{s:St},SA P ps fp q l K s->uq P [] ps fp q l K s
 |0,l,ps,fp,s,h=>by simpa only[uq,SA] using h
 |q+1,[],ps,fp,s,h=>by simp[SA]at h
 |q+1,.op dst g i::l,ps,fp,s,h=>by
  simp only[uq,SA,Wae,baf]at h⊢;refine⟨h.1,?_⟩;have h2:=h.2
  cases j:gate s g with
  |none=>simp_all
  |some o=>
   cases o with
   |none=>
    simp only[j]at h2⊢;obtain⟨d,m',a,h2,e⟩:=h2;exact⟨d,m',a,h2,ny e⟩
   |some m=>
    obtain⟨c,b⟩:=m;simp only[j]at h2⊢;refine⟨λhc=>?_,λhc=>ny (h2.2 hc)⟩;obtain⟨d,m',a,h2,e⟩:=h2.1 hc;exact⟨d,m',a,h2,ny e⟩
 |q+1,.call dst g f args::l,ps,fp,s,h=>by
  simp only[uq,SA,Wae,baf]at h⊢
  cases hf:s.cv f with
  |fn k first caps=>
   simp only[hf]at h⊢
   cases j:gate s g with
   |none=>simp_all
   |some o=>
    cases o with
    |none=>
     simp only[j]at h⊢;obtain⟨n,d,a,e⟩:=h;exact⟨n,d,a,ny e⟩
    |some m=>
     obtain⟨c,b⟩:=m;simp only[j]at h⊢;refine⟨h.1,λhc=>?_,λhc=>ny (h.2.2 hc)⟩;obtain⟨d,a,e⟩:=h.2.1 hc;exact⟨d,a,ny e⟩
  |_=>simp only[hf]at h
theorem T.any2(hm:P.follows .mixedOrders=true) {bs:List (List Nat)}{K:Exit->St->Prop}(ps:List (List Nat)) (a:oy bs l q ps []=true) (h:SA P ps [] q l (K .normal) s):T P N (.any cuts q bs l) K s:=
 T.anyO hm ps [] a rfl (ny h)
theorem T.drawO(hm:P.follows .mixedOrders=true) {K:Exit->St->Prop}(h:uq P [] [] [] q l (K .normal) s):T P N (.draw q l) K s:=by
 intro code hc G w a hN hr;obtain⟨id,ops,rfl,f,n⟩:=oG hc;have hf:=Hw n;have b:∀i,pO [] i=none:=λi=>rfl;have notgt:∀(j:Nat) d g i,j<q->l[j]?=some (.op d g i)->i.UZ=none:=by
  intro j d g i hj hl;have o:=hf.cls j _ hj hl
  cases ht:i.UZ with
  |none=>rfl
  |some x=>grind[RI.cls,aJ]
 refine RD hm f (ps:=[]) (pl:=[]) ⟨hf.toTailFacts,?_,?_,?_⟩ h (λi p hp=>by simp_all) hr λs' G' w' a' r t k3=>⟨s',G',r,t,k3.toN hN⟩
 .intro j y hj e;have:=hf.cls j y hj e;rw[b]
  cases y with
  |call=>rfl
  |op d g i=>grind[RI.pI,RI.cls]
 .intro i j x y c hj hx e hcl;refine hf.apart i j x y c hj hx e ?_
  grind[Ny,wD]
 .intro i j x y c hj hx e m;exfalso;rw[b,b]at m
  cases x with
  |call=>
   cases y with
   |call=>grind[qz,wB]
   |op d g k=>grind[qz,wB]
  |op d g k=>
   have o:=notgt i d g k (by omega) hx
   cases y with
   |call=>grind[qz,wB]
   |op d' g' k'=>grind[qz,wB]
theorem T.drawP(hm:P.follows .mixedOrders=true) {K:Exit->St->Prop}(ps:List (List Nat)) (pl:List (Option Nat)) (hcl:∀i p,pO pl i=some p->∃a b c d,l[i]?=some (.call a b c d))
 (hps:∀j,j<q->∀i,i<j->i∈ps.getD j []) (n:Yw s.m pl=true) (h:uq P pl ps [] q l (K .normal) s):T P N (.draw q l) K s:=by
 intro code hc G w a hN hr;obtain⟨id,ops,rfl,e,k⟩:=oG hc;have hf:=Hw k;refine RD hm e (ps:=ps) (pl:=pl) ⟨hf.toTailFacts,?_,?_,?_⟩ h (J7 n) hr λs' G' w' a' r t k3=>⟨s',G',r,t,k3.toN hN⟩
 .intro j y hj o;have:=hf.cls j y hj o
  cases y with
  |call=>simp[RI.pI]
  |op d g i=>grind[RI.pI,RI.cls]
 .intro i j x y f hj hx o hcl';refine hf.apart i j x y f hj hx o ?_
  grind[Ny,wD]
 simp_all
end
section
variable {P:Program} {N:Nat}
mutual
def Ad(n:Nat):D->D->Prop
 |.v x,.own i v=>x=.slice none 0 0/\i=n/\v=0
 |.agg l,.agg r=>ax n l r
 |d,e=>d=e
def ax(n:Nat):List D->List D->Prop
 |[],r=>r=[]
 |d::l,r=>∃e a,r=e::a/\Ad n d e/\ax n l a
end
theorem Ad.inv{e:D}(h:Ad n d e):(d=.v (.slice none 0 0)/\e=.own n 0)\/(∃l r,d=.agg l/\e=.agg r/\ax n l r)\/d=e:=by
 cases d<;>cases e<;>simp_all[Ad]
mutual
theorem Ad.rel{G:Gh}{w:World}{n:Nat}(ho:VRel G w (.own n 0) (.slice none 0 0)):∀{d e:D}{u:Value},Ad n d e->VRel G w d u->VRel G w e u
 |.agg l,e,u,b,h=>by
  rcases b.inv with⟨a,_⟩|⟨l',r,a,rfl,c⟩|rfl
  .grind
  .injection a with a;subst a;simp only[VRel]at h⊢;obtain⟨cs,rfl,h,a⟩:=h;exact⟨cs,rfl,ax.rel ho c h,a⟩
  omega
 |.v x,e,u,b,h=>by
  rcases b.inv with⟨a,rfl⟩|⟨_,_,a,_⟩|rfl
  .injection a with a;subst a;simp only[VRel]at h;simp_all
  all_goals simp_all
 |.tup l,e,u,b,h=>by rcases b.inv with⟨a,_⟩|⟨_,_,a,_⟩|rfl<;>first|cases a|exact h
 |.sl S l,e,u,b,h=>by rcases b.inv with⟨a,_⟩|⟨_,_,a,_⟩|rfl<;>first|cases a|exact h
 |.pt x,e,u,b,h=>by rcases b.inv with⟨a,_⟩|⟨_,_,a,_⟩|rfl<;>first|cases a|exact h
 |.ref _ _ _ _,e,u,b,h=>by rcases b.inv with⟨a,_⟩|⟨_,_,a,_⟩|rfl<;>first|cases a|exact h
 |.own _ _,e,u,b,h=>by rcases b.inv with⟨a,_⟩|⟨_,_,a,_⟩|rfl<;>first|cases a|exact h
 |.view _ _ _ _,e,u,b,h=>by rcases b.inv with⟨a,_⟩|⟨_,_,a,_⟩|rfl<;>first|cases a|exact h
 |.fn _ _ _,e,u,b,h=>by rcases b.inv with⟨a,_⟩|⟨_,_,a,_⟩|rfl<;>first|cases a|exact h
 |.mp _,e,u,b,h=>by rcases b.inv with⟨a,_⟩|⟨_,_,a,_⟩|rfl<;>first|cases a|exact h
 |.ifc _ _,e,u,b,h=>by rcases b.inv with⟨a,_⟩|⟨_,_,a,_⟩|rfl<;>first|cases a|exact h
 |.dead,e,u,b,h=>by rcases b.inv with⟨a,_⟩|⟨_,_,a,_⟩|rfl<;>first|cases a|exact h
theorem ax.rel{G:Gh}{w:World}{n:Nat}(ho:VRel G w (.own n 0) (.slice none 0 0)):∀{l r:List D}{us:List Value},ax n l r->VsRel G w l us->VsRel G w r us
 |[],r,us,a,h=>by simp only[ax]at a;simp_all
 |d::l,r,us,a,h=>by
  simp only[ax]at a;obtain⟨e,r',rfl,c,h2⟩:=a;simp only[VsRel]at h⊢;obtain⟨u,b,rfl,g1,g2⟩:=h;exact⟨u,b,rfl,Ad.rel ho c g1,ax.rel ho h2 g2⟩
end
theorem ax.row{G:Gh}{w:World}{n b S:Nat}(ho:VRel G w (.own n 0) (.slice none 0 0)):∀{l r:List D}{off:Nat},ax n l r->Qa G w b S l off->Qa G w b S r off
 |[],r,off,a,h=>by simp only[ax]at a;subst a;exact h
 |d::l,r,off,a,h=>by
  simp only[ax]at a;obtain⟨e,r',rfl,c,h2⟩:=a;simp only[Qa]at h⊢;obtain⟨⟨u,g1,g2,g3⟩,g4⟩:=h;exact⟨⟨u,Ad.rel ho c g1,g2,g3⟩,ax.row ho h2 g4⟩
theorem ax.length{n:Nat}:∀{l r:List D},ax n l r->l.length=r.length
 |[],r,h=>by simp[ax]at h;simp[h]
 |d::l,r,h=>by
  simp only[ax]at h;obtain⟨e,r',rfl,_,h2⟩:=h;simp[ax.length h2]
mutual
theorem Ad.refl(n:Nat):∀d:D,Ad n d d
 |.agg l=>by simp only[Ad];exact ax.refl n l
 |.v x=>by simp[Ad]
 |.tup l=>by simp[Ad]
 |.sl S l=>by simp[Ad]
 |.pt d=>by simp[Ad]
 |.ref ..=>by simp[Ad]
 |.own ..=>by simp[Ad]
 |.view ..=>by simp[Ad]
 |.fn ..=>by simp[Ad]
 |.mp ..=>by simp[Ad]
 |.ifc ..=>by simp[Ad]
 |.dead=>by simp[Ad]
theorem ax.refl(n:Nat):∀l:List D,ax n l l
 |[]=>by simp[ax]
 |d::l=>by simp only[ax];exact⟨d,l,rfl,Ad.refl n d,ax.refl n l⟩
end
theorem ax.cons{e:D}{l r:List D}(h1:Ad n d e) (h2:ax n l r):ax n (d::l) (e::r):=by
 simp only[ax];grind
theorem Ad.nil(n:Nat):Ad n (.v (.slice none 0 0)) (.own n 0):=by simp[Ad]
def DL(n:Nat):Ent->Ent->Prop
 |.live S v l,.live S' c l'=>S=S'/\v=c/\ax n l l'
 |.mp a,.mp b=>a.map (·.1)=b.map (·.1)/\ax n (a.map (·.2)) (b.map (·.2))
 |e,e'=>e=e'
def sD(n:Nat):List Ent->List Ent->Prop
 |[],r=>r=[]
 |d::l,r=>∃e a,r=e::a/\DL n d e/\sD n l a
theorem DL.refl(n:Nat) (e:Ent):DL n e e:=by cases e<;>simp[DL,ax.refl]
theorem sD.refl(n:Nat):∀m:List Ent,sD n m m
 |[]=>by simp[sD]
 |d::l=>by simp only[sD];exact⟨d,l,rfl,DL.refl n d,sD.refl n l⟩
theorem sD.cons{d:Ent}{l r:List Ent}(h1:DL n d e) (h2:sD n l r):sD n (d::l) (e::r):=by
 simp only[sD];grind
theorem DL.live{n S v:Nat}{l r:List D}(h:ax n l r):DL n (.live S v l) (.live S v r):=by simp only[DL];simp_all
theorem sD.get{n:Nat}:∀{m m':List Ent},sD n m m'->m.length=m'.length/\∀(i:Nat) e,m'[i]?=some e->∃e0,m[i]?=some e0/\DL n e0 e
 |[],m',h=>by simp[sD]at h;subst h;simp
 |d::m,m',h=>by
  simp only[sD]at h;obtain⟨e,r',rfl,a,h2⟩:=h;obtain⟨b,c⟩:=sD.get h2;refine⟨by simp[b],λi e' he=>?_⟩
  cases i with
  |zero=>simp at he;subst he;exact⟨d,rfl,a⟩
  |succ i=>simpa using c i e' (by simpa using he)
theorem sD.append{n:Nat}:∀{m m':List Ent}(x:List Ent),sD n m m'->sD n (m++x) (m'++x)
 |[],m',x,h=>by simp[sD]at h;subst h;exact sD.refl n x
 |d::m,m',x,h=>by
  simp only[sD]at h;obtain⟨e,r',rfl,a,h2⟩:=h;simp only[List.cons_append];exact sD.cons a (sD.append x h2)
theorem P6{G:Gh}{w:World}{n:Nat}(ho:VRel G w (.own n 0) (.slice none 0 0)):∀{a b:List (Value×D)}{es:List MapEntry},a.map (·.1)=b.map (·.1)->ax n (a.map (·.2)) (b.map (·.2))->Wd G w a es->Wd G w b es
 |[],[],_,_,_,h=>h
 |(k,d)::a,(k',d')::b,es,hk,hd,h=>by
  obtain⟨e,r,c,f,h2,g⟩:=h;simp only[cab,Iad]at hk;simp only[cab,ax,Iad]at hd;obtain⟨x,r',⟨rfl,rfl⟩,g1,g2⟩:=hd;exact⟨e,r,c,by rw[f,hk.1],Ad.rel ho g1 h2,P6 ho hk.2 g2 g⟩
 |[],_::_,_,hk,_,_=>by simp at hk
 |_::_,[],_,hk,_,_=>by simp at hk
theorem DL.rel{G:Gh}{w:World}{e':Ent}(ho:VRel G w (.own n 0) (.slice none 0 0)) (h:DL n e e') (hr:mn G w i e):mn G w i e':=by
 cases e with
 |live S v l=>
  cases e' with
  |live S' v' l'=>
   simp only[DL]at h;obtain⟨rfl,rfl,h⟩:=h;obtain⟨a1,a2,a3,a4,a5⟩:=hr;rw[h.length]at a3 a4;refine⟨a1,a2,a3,a4,?_⟩;rcases a5 with a5|⟨g,cs,T,d,j,c,m,f⟩
   .exact .inl a5
   .exact .inr ⟨g,cs,T,d,j,c,m,ax.row ho h f⟩
  |_=>simp[DL]at h
 |mp a=>
  cases e' with
  |mp b=>
   simp only[DL]at h;obtain⟨a1,g,p,o,d,j,c,k⟩:=hr;exact⟨a1,g,p,o,d,j,c,P6 ho h.1 h.2 k⟩
  |_=>simp[DL]at h
 |gone=>simp only[DL]at h;subst h;exact hr
theorem DL.isLive{n:Nat}{e e':Ent}(h:DL n e e'):e'.isLive=e.isLive:=by
 cases e<;>cases e'<;>simp_all[DL,Ent.isLive]
theorem T.adoptM{c:C}(S:Nat) {t':List D}{m':List Ent}(ht:ax s.m.length s.t t') (hm:sD s.m.length s.m m') (h:Tm.T P N c K ⟨t',m'++[.live S 0 []]⟩):Tm.T P N c K s:=by
 refine T.ghost (λG w a hN hr=>?_) h;have d:=jB (w':=w) hr.inv none S 0 0 (.live S 0 []) rfl rfl rfl rfl (Paa _) (λ_ _=>rfl) (λk h=>by cases h)
  ⟨by simp[Gh.add],by simp[Gh.add],by simp[Gh.add],by simp,.inl ⟨by simp[Gh.add],by simp[Gh.add]⟩⟩
 have ho:=WB (s:=s) (b:=none) (S:=S) (N:=0) (C:=0) (w':=w) hr.inv.n;have l:=(sD.append [.live S 0 []] hm).get;have hi:=d.1;refine⟨_,⟨ax.rel ho ht (hr.t.mono d.2.le),⟨by rw[hi.n,l.1],hi.F,λi e he=>?_,λi j e e' he u hl hl' b hb r=>?_,hi.gl⟩,hr.defers⟩,?_⟩
 .obtain⟨e0,f,g⟩:=l.2 i e he;exact g.rel ho (hi.ent i e0 f)
 .obtain⟨e0,f,g⟩:=l.2 i e he;obtain⟨o,p,q⟩:=l.2 j e' u;exact hi.apart i j e0 o f p (by rw[←g.isLive];omega) (by rw[←q.isLive];omega) b hb r
 .refine { d.2.toN hN with newB:=λb hb v=>d.2.newB b hb ?_ };obtain⟨i,e,he,hl,x⟩:=v;obtain⟨e0,f,g⟩:=l.2 i e he;exact⟨i,e0,f,by rw[←g.isLive];omega,x⟩
end
def hJ(S id x:Nat) (s:St):St:=
 match s.m[id]? with
 |some (.live S' v l)=>
  match l[x]? with
  |some (.v (.slice none 0 0))=>⟨s.t,s.m.set id (.live S' v (l.set x (.own s.m.length 0)))++[.live S 0 []]⟩
  |_=>s
 |_=>s
theorem ax.set{n:Nat}:∀{l:List D}{x:Nat},l[x]?=some (.v (.slice none 0 0))->ax n l (l.set x (.own n 0))
 |[],x,h=>by grind
 |d::l,0,h=>by grind[ax.cons,Ad.nil,ax.refl]
 |d::l,x+1,h=>ax.cons (Ad.refl n d) (ax.set (by simp_all))
theorem sD.set{n S v:Nat}{l l':List D}(hl:ax n l l'):∀{m:List Ent}{id:Nat},m[id]?=some (.live S v l)->sD n m (m.set id (.live S v l'))
 |[],id,h=>by grind
 |e::m,0,h=>by grind[sD.cons,DL.live,sD.refl]
 |e::m,id+1,h=>sD.cons (DL.refl n e) (sD.set hl (by simp_all))
theorem Y2{P:Program}{N:Nat}{c:C}{x:Nat}(h:Tm.T P N c K (hJ S id x s)):Tm.T P N c K s:=by
 unfold hJ at h;split at h
 .rename_i S' v l hm;split at h
  .rename_i hx;exact T.adoptM S (ax.refl _ _) (sD.set (ax.set hx) hm) h
  omega
 omega
def fy(S id:Nat):Nat->St->St
 |0,s=>s
 |x+1,s=>hJ S id x (fy S id x s)
theorem kG{P:Program}{N:Nat}{c:C}{K:Exit->St->Prop}{S id:Nat}:∀{x:Nat}{s:St},Tm.T P N c K (fy S id x s)->Tm.T P N c K s
 |0,s,h=>h
 |x+1,s,h=>kG (x:=x) (Y2 h)
def makS:RI->Option Nat
 |.op _ none (.alloc S _)=>some S
 |.op _ none (.box S _)=>some S
 |.op _ none (.bslice S _ _ _)=>some S
 |_=>none
def isMk:RI->Bool
 |.op _ _ i=>Tae i.cls 2
 |_=>false
def places:List RI->Nat->List (Option Nat)
 |[],_=>[]
 |r::l,n=>
  match makS r with
  |some _=>bif l.any isMk then some n::places l (n+1)else none::places l n
  |none=>none::places l n
def lent(m:List Ent) (d:D):Option D:=
 bif flat d then some d else
 match d with
 |.own id Oa=>
  match m[id]? with
  |some (.live S v l)=>bif Tae v Oa&&SM l then some (.sl S l)else none
  |_=>none
 |_=>none
def RH(id Oa:Nat) (d:D):D:=
 match d with
 |.ref i v x s=>bif Tae i id&&Tae v Oa then .ref 0 0 x s else .dead
 |d=>bif va d then d else .dead
theorem IZ{G G':Gh}{w:World}(a:SubF G w G' w) (hr:∀x s u,VRel G w (.ref id Oa x s) u->VRel G' w (.ref 0 0 x s) u) {u:Value}(h:VRel G w d u):VRel G' w (RH id Oa d) u:=by
 unfold RH;split
 .rename_i i v x s;cases hb:(Tae i id&&Tae v Oa)
  .simp[VRel]
  simp_all
 .cases hf:va d
  .simp[VRel]
  .exact h.free a hf
section
variable {P:Program}
theorem R3{l X:List D}{m m1:List Ent}{ds:List D}{d1:D}
 (t:m[id]?=some (.live S Oa l)) (hl:oa l=true) (J:m1[0]?=some (.live S 0 X))
 (h:CallT P k (ds.map (RH id Oa)) [.live S 0 l] λd m'=>d=d1/\m'=m1) :
 CallT P k ds m λd m'=>d=Yf 8 (m1.set 0 .gone) d1/\m'=m.set id (.live S Oa (X.map (Yf 8 (m1.set 0 .gone)))):=by
 refine⟨h.1,λG w vs hv hi=>?_⟩;have hlen:id<m.length:=(gab.1 t).1;obtain⟨eV,eS,eN,eC,eB⟩:=hi.ent id _ t;have M:SubF G w ⟨G.F,1,λ_=>G.B id,λ_=>0,λ_=>G.S id,λ_=>G.N id,λ_=>G.C id⟩ w:=⟨λ_ h=>h,λ_ _=>rfl⟩;have hv':=Wu (G':=⟨G.F,1,λ_=>G.B id,λ_=>0,λ_=>G.S id,λ_=>G.N id,λ_=>G.C id⟩) (f:=RH id Oa) (λd u hu=>IZ M (λx s u hu=>by
  simp only[VRel]at hu⊢
  grind) hu) hv
 have hic:Inv ⟨G.F,1,λ_=>G.B id,λ_=>0,λ_=>G.S id,λ_=>G.N id,λ_=>G.C id⟩ w [.live S 0 l]:=by
  refine⟨rfl,hi.F,?_,?_,hi.gl.bare λ_ h=>h⟩
  .intro i e he
   cases i with
   |zero=>
    simp at he;subst he;refine⟨rfl,eS,eN,eC,?_⟩;rcases eB with h|⟨b,cs,T,p,h2,W,Z,h5⟩
    .simp_all
    .exact .inr ⟨b,cs,T,p,h2,W,Z,Qa.free M rfl hl h5⟩
   |succ i=>simp at he
  grind
 have r:∀b,Zf ⟨G.F,1,λ_=>G.B id,λ_=>0,λ_=>G.S id,λ_=>G.N id,λ_=>G.C id⟩ [.live S 0 l] b->G.B id=some b:=by
  rintro b ⟨i,e,he,-,E⟩;omega
 refine(h.2 _ w vs hv' hic).mono ?_;rintro e w' ⟨v,d,m',G',rfl,⟨rfl,rfl⟩,hvd,g,a⟩;obtain⟨fV,fS,fN,fC,fB⟩:=g.ent 0 _ J;have hlen1:0<m'.length:=(gab.1 J).1;have live1:(Ent.live S Oa l).isLive=true:=rfl;obtain⟨sB,sS,sN,sC⟩:G'.B 0=G.B id/\G'.S 0=G.S id/\G'.N 0=G.N id/\G'.C 0=G.C id:=by
  rcases a.le.id 0 (Nat.lt_succ_self 0)with⟨_,p,h2,W,Z⟩|h
  all_goals simp_all
 have c:∀i x,(m'.set 0 .gone)[i]?=some x->(i=0/\x=.gone)\/(i≠0/\m'[i]?=some x):=by
  grind
 have O:Inv G' w' (m'.set 0 .gone):=by
  refine⟨by simpa using g.n,g.F,?_,?_,g.gl⟩
  .intro i x hx;rcases c i x hx with⟨rfl,rfl⟩|⟨L,hx⟩
   .trivial
   .exact g.ent i x hx
  .intro i j x y hx U A Y b hb I;rcases c i x hx with⟨rfl,rfl⟩|⟨L,hx⟩
   .cases A
   .rcases c j y U with⟨rfl,rfl⟩|⟨p,U⟩
    .cases Y
    .exact g.apart i j x y hx U A Y b hb I
 have H:∀b,Zf G' (m'.set 0 .gone) b->Zf G' m' b/\G'.B 0≠some b:=by
  rintro b ⟨i,x,hx,A,E⟩;rcases c i x hx with⟨rfl,rfl⟩|⟨L,hx⟩
  .cases A
  .exact⟨⟨i,x,hx,A,E⟩,λh=>L (g.apart i 0 x _ hx J A rfl b E h)⟩
 have hF':∀b,(G'.F b\/Zf G' (m'.set 0 .gone) b)->b<w'.heap.size:=by
  rintro b (hb|hb)
  .exact g.F b hb
  .exact(Zf.lt O hb).1
 have R:∀d u,VRel G' w' d u->VRel ⟨λb=>G'.F b\/Zf G' (m'.set 0 .gone) b,G.n,G.B,G.V,G.S,G.N,G.C⟩ w' (Yf 8 (m'.set 0 .gone) d) u:=by
  intro d u hu;have L:=CQ O 8 d u hu;refine VRel.free ?_ (FC _ _ _) L;exact⟨λ_ h=>h,λ_ _=>rfl⟩
 have Q:Le G w ⟨λb=>G'.F b\/Zf G' (m'.set 0 .gone) b,G.n,G.B,G.V,G.S,G.N,G.C⟩ w':=
  ⟨λb hb=>.inl (a.le.F b hb),λb hb=>a.le.heap b hb,Paa _,λi _=>.inl (by simp)⟩
 have K:∀i x,m[i]?=some x->x.isLive=true->∀b,G.B i=some b->b<w.heap.size/\¬G.F b:=λi x hx hl b hb=>(hi.ent i x hx).lt hl hb;have notO:∀i x,m[i]?=some x->x.isLive=true->i≠id->∀b,G.B i=some b->G.B id≠some b:=λi x hx o hne b hb E=>hne (hi.apart i id x _ hx t o live1 b hb E);have q:∀i x,(m.set id (.live S Oa (X.map (Yf 8 (m'.set 0 .gone)))))[i]?=some x->(m[i]?=some x/\i≠id)\/(i=id/\x=.live S Oa (X.map (Yf 8 (m'.set 0 .gone)))):=by
  grind
 refine⟨v,_,_,⟨λb=>G'.F b\/Zf G' (m'.set 0 .gone) b,G.n,G.B,G.V,G.S,G.N,G.C⟩,rfl,⟨rfl,rfl⟩,R _ _ hvd,⟨by simp[hi.n],hF',?_,?_,g.gl.bare λ_ h=>.inl h⟩,⟨Q,a.os,a.tape,a.output,a.size,?_,?_,?_⟩⟩
 .intro i x hx;rcases q i x hx with⟨p,h2⟩|⟨rfl,rfl⟩
  .by_cases o:x.isLive=true
   .refine(hi.ent i x p).mono Q (by simp) (λb hb=>?_) (λb hb _ z=>?_)
    .exact a.keep b (K i x p o b hb).1 λho=>notO i x p o h2 b hb (r b ho)
    .rcases z with z|z
     .rcases a.newF b (K i x p o b hb).1 z with h|h
      all_goals grind
     .exact(notO i x p o h2 b hb (r b (a.newB b (K i x p o b hb).1 (H b z).1))).elim
   .cases x with
    |gone=>trivial
    |_=>grind[Ent.isLive]
  .refine⟨eV,eS,by simp_all,by simp_all,?_⟩
   grind[Zv]
 .intro i j x y hx U A Y b hb I;rcases q i x hx with⟨p,h2⟩|⟨rfl,rfl⟩<;>rcases q j y U with⟨W,Z⟩|⟨rfl,rfl⟩
  .exact hi.apart i j x y p W A Y b hb I
  all_goals grind
 .intro b hb hno;exact a.keep b hb λho=>hno ⟨id,_,t,live1,r b ho⟩
 .intro b hb z;rcases z with z|z
  .rcases a.newF b hb z with h|h
   all_goals grind
  .exact .inr ⟨id,_,t,live1,r b (a.newB b hb (H b z).1)⟩
 .rintro b hb ⟨i,x,hx,A,E⟩;rcases q i x hx with⟨p,h2⟩|⟨rfl,rfl⟩
  .exact⟨i,x,p,A,E⟩
  .exact⟨i,_,t,live1,E⟩
end
def kB(q:Nat):List (List Nat):=(Kaa q).map Kaa
theorem EP{q:Nat}:∀j,j<q->∀i,i<j->i∈(kB q).getD j []:=by
 grind[kB]
end Go.Tm
