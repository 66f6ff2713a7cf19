/-
  The engine: a part of the proof that trees of values are carried along by the program: no condition.
-/
import Derived.Test.YtnlamdfggbdblaaGreatDoorEA
import Derived.Orders
open Array renaming getD_eq_getD_getElem?->uac,getElem?_eq_getElem->lab,length_toList->Pab,range->Iac,replicate->Kab
open Bool renaming and_eq_true->laa,or_eq_true->vac
open List renaming all_eq_true->Oaa,append_nil->Naa,drop_eq_getElem_cons->Taa,drop_eq_nil_of_le->mac,getD_cons_succ->Rab,getD_eq_getElem?_getD->eac,getElem?_eq_getElem->caa,getElem?_eq_some_iff->yaa,getElem?_set->Hac,headD_nil->uad,length_append->Iaa,map_cons->Gaa,mem_append->bab,mem_cons->gab,mem_range->Tac,range->uaa,replicate->gaa,set_comm->wad,size_toArray->cac,tail_nil->xad,take_succ_cons->sab
open Nat renaming beq->Jac,le_refl->oaa,le_trans->kab,lt_of_lt_of_le->Kaa,lt_or_ge->Oab,strongRecOn->aac
open Option renaming bind_eq_some_iff->pab,map_eq_some_iff->eaa
open Option.some renaming injEq->Maa
open Prod.mk renaming injEq->xaa
set_option linter.all false
namespace Go.Tm
open Go.RowKit (Below)
section
variable {P:Program}
structure StepN (N:Nat) (G:Gh) (w:World) (m:List Ent) (G':Gh) (w':World) (m':List Ent):Prop where
 F:∀b,G.F b->G'.F b
 heap:∀b,G.F b->w'.heap[b]?=w.heap[b]?
 n:N<=G'.n
 id:∀i,i<N->(G'.V i=G.V i/\G'.B i=G.B i/\G'.S i=G.S i/\G'.N i=G.N i/\G'.C i=G.C i)\/G.V i<G'.V i
 os:w'.os=w.os
 tape:w'.tape=w.tape
 output:w'.output=w.output
 size:w.heap.size<=w'.heap.size
 keep:∀b,b<w.heap.size->¬Qc G m b->w'.heap[b]?=w.heap[b]?
 newF:∀b,b<w.heap.size->G'.F b->G.F b\/Qc G m b
 newB:∀b,b<w.heap.size->Qc G' m' b->Qc G m b
theorem Step.kW{N:Nat}{G G':Gh}{w w':World}{m m':List Ent}(h:Step G w m G' w' m') (hN:N<=G.n):StepN N G w m G' w' m':=
 ⟨h.le.F,h.le.heap,kab hN h.le.n,λi hi=>h.le.id i (Kaa hi hN),h.os,h.tape,h.output,h.size,h.keep,h.newF,h.newB⟩
theorem StepN.toStep{G G':Gh}{w w':World}{m m':List Ent}(h:StepN G.n G w m G' w' m'):Step G w m G' w' m':=
 ⟨⟨h.F,h.heap,h.n,h.id⟩,h.os,h.tape,h.output,h.size,h.keep,h.newF,h.newB⟩
theorem StepN.refl{N:Nat}(G:Gh) (w:World) (m:List Ent) (hN:N<=G.n):StepN N G w m G w m:=(Step.refl G w m).kW hN
theorem StepN.trans{N:Nat}{G G' G'':Gh}{w w' w'':World}{m m' m'':List Ent}(h:StepN N G w m G' w' m') (k:StepN N G' w' m' G'' w'' m''):StepN N G w m G'' w'' m'' where
 F b hb:=k.F b (h.F b hb)
 heap b hb:=(k.heap b (h.F b hb)).trans (h.heap b hb)
 n:=k.n
 id i hi:=by
  have h1:=h.id i hi;have h2:=k.id i hi
  grind
 os:=k.os.trans h.os
 tape:=k.tape.trans h.tape
 output:=k.output.trans h.output
 size:=kab h.size k.size
 keep b hb ho:=(k.keep b (Kaa hb h.size) λh'=>ho (h.newB b hb h')).trans (h.keep b hb ho)
 newF b hb hF:=by
  rcases k.newF b (Kaa hb h.size) hF with h'|h'
  .exact h.newF b hb h'
  .exact .inr (h.newB b hb h')
 newB b hb h':=h.newB b hb (k.newB b (Kaa hb h.size) h')
def T(P:Program) (N:Nat) (c:C) (K:Exit->St->Prop) (s:St):Prop:=
 ∀code,comp P code=some c->∀(G:Gh) (w:World) (a:Act),N<=G.n->Rel G w a s->
  code.wp P (λe a' w'=>∃s' G',K e s'/\Rel G' w' a' s'/\StepN N G w s.m G' w' s'.m) a w
variable {N:Nat}
theorem T.mono{c:C}{K K':Exit->St->Prop}{s:St}(h:T P N c K s) (hK:∀e s',K e s'->K' e s'):T P N c K' s:=
 λcode hc G w a hN hr=>Code.wp_mono (λ_ _ _ ⟨s',G',h1,h2⟩=>⟨s',G',hK _ _ h1,h2⟩) (h code hc G w a hN hr)
theorem T.ghost{c:C}{K:Exit->St->Prop}{s s':St}(hg:∀(G:Gh) (w:World) (a:Act),N<=G.n->Rel G w a s->∃G',Rel G' w a s'/\StepN N G w s.m G' w s'.m) (h:T P N c K s'):T P N c K s:=by
 intro code hc G w a hN hr;obtain⟨G',hr',hs'⟩:=hg G w a hN hr;exact Code.wp_mono (λ_ _ _ ⟨s'',G'',h1,h2,h3⟩=>⟨s'',G'',h1,h2,hs'.trans h3⟩) (h code hc G' w a hs'.n hr')
theorem SL{code:Code}(h:comp P code=some .skip):code=.skip\/∃l,code=.label l:=by
 cases code with
 |region id ops draw=>
  cases draw with
  |false=>simp[comp]at h
  |true=>grind[comp]
 |seq a b=>grind[comp]
 |cond c a b=>grind[comp]
 |skip=>simp
 |label l=>simp
 |_=>simp[comp]at h
theorem aO{code:Code}(h:comp P code=some .ret):code=.ret:=by
 cases code with
 |region id ops draw=>
  cases draw with
  |false=>simp[comp]at h
  |true=>grind[comp]
 |seq a b=>grind[comp]
 |cond c a b=>grind[comp]
 |ret=>rfl
 |_=>simp[comp]at h
theorem QL{code:Code}{i:Nat}(h:comp P code=some (.exit i)):code=.exit i:=by
 cases code with
 |region id ops draw=>
  cases draw with
  |false=>simp[comp]at h
  |true=>grind[comp]
 |seq a b=>grind[comp]
 |cond c a b=>grind[comp]
 |exit j=>grind[comp]
 |_=>simp[comp]at h
theorem ZN{code:Code}{l:List RI}(h:comp P code=some (.oN l)):∃id ops,code=.region id ops false/\vj P ops ops.toList=some l:=by
 cases code with
 |region id ops draw=>
  cases draw with
  |true=>grind[comp]
  |false=>simp[comp]at h;grind
 |seq a b=>grind[comp]
 |cond c a b=>grind[comp]
 |_=>simp[comp]at h
theorem oF{code:Code}{q:Nat}{l:List RI}(h:comp P code=some (.draw q l)):∃id ops,code=.region id ops true/\vj P ops ops.toList=some l/\JC (Gb ops) l q=true:=by
 cases code with
 |region id ops draw=>
  cases draw with
  |false=>simp[comp]at h
  |true=>
   simp only[comp]at h
   grind
 |seq a b=>grind[comp]
 |cond c a b=>grind[comp]
 |_=>simp[comp]at h
theorem YN{code:Code}{cuts:List Nat}{q:Nat}{bs:List (List Nat)}{l:List RI}(h:comp P code=some (.any cuts q bs l)):∃id ops,code=.region id ops true/\bs=Gb ops/\vj P ops ops.toList=some l/\VG (Gb ops) l cuts q=true:=by
 cases code with
 |region id ops draw=>
  cases draw with
  |false=>simp[comp]at h
  |true=>
   simp only[comp]at h
   grind
 |seq a b=>grind[comp]
 |cond c a b=>grind[comp]
 |_=>simp[comp]at h
theorem cO{code:Code}{c d:C}(h:comp P code=some (.seq c d)):∃x y,code=.seq x y/\comp P x=some c/\comp P y=some d:=by
 cases code with
 |region id ops draw=>
  cases draw with
  |false=>simp[comp]at h
  |true=>grind[comp]
 |seq a b=>
  simp only[comp]at h
  grind
 |cond c a b=>grind[comp]
 |_=>simp[comp]at h
theorem PL{code:Code}{t:Operand}{c d:C}(h:comp P code=some (.cond t c d)):∃x y,code=.cond t x y/\comp P x=some c/\comp P y=some d:=by
 cases code with
 |region id ops draw=>
  cases draw with
  |false=>simp[comp]at h
  |true=>grind[comp]
 |seq a b=>grind[comp]
 |cond t' a b=>
  grind[comp]
 |_=>simp[comp]at h
theorem dJ{code:Code}{i:Nat}{c:C}(h:comp P code=some (.block i c)):∃x,code=.block i x/\comp P x=some c:=by
 cases code with
 |region id ops draw=>
  cases draw with
  |false=>simp[comp]at h
  |true=>grind[comp]
 |seq a b=>grind[comp]
 |cond c a b=>grind[comp]
 |block j b=>simp_all[comp]
 |_=>simp[comp]at h
theorem RL{code:Code}{c:C}(h:comp P code=some (.loop c)):∃x,code=.loop x/\comp P x=some c:=by
 cases code with
 |region id ops draw=>
  cases draw with
  |false=>simp[comp]at h
  |true=>grind[comp]
 |seq a b=>grind[comp]
 |cond c a b=>grind[comp]
 |loop b=>simp[comp]at h;simp_all
 |_=>simp[comp]at h
theorem T.skip{K:Exit->St->Prop}{s:St}(h:K .normal s):T P N .skip K s:=by
 intro code hc G w a hN hr;rcases SL hc with rfl|⟨l,rfl⟩
 all_goals grind[wp_skip,StepN.refl,wp_label]
theorem T.ret{K:Exit->St->Prop}{s:St}(h:K .ret s):T P N .ret K s:=by
 intro code hc G w a hN hr;obtain rfl:=aO hc
 grind[wp_ret,StepN.refl]
theorem T.exit{id:Nat}{K:Exit->St->Prop}{s:St}(h:K (.exit id) s):T P N (.exit id) K s:=by
 intro code hc G w a hN hr;obtain rfl:=QL hc
 grind[wp_exit,StepN.refl]
theorem T.oN{l:List RI}{K:Exit->St->Prop}{s:St}(h:Qk P l (K .normal) s):T P N (.oN l) K s:=by
 intro code hc G w a hN hr;obtain⟨id,ops,rfl,hc'⟩:=ZN hc;exact wp_region_list (QD hc' h hr λs' G' w' a' h1 h2 h3=>⟨s',G',h1,h2,h3.kW hN⟩)
theorem T.seq{c d:C}{K:Exit->St->Prop}{s:St}(h:T P N c (λe s'=>match e with|.normal=>T P N d K s'|e=>K e s') s):T P N (.seq c d) K s:=by
 intro code hc G w a hN hr;obtain⟨x,y,rfl,h1,h2⟩:=cO hc;refine wp_seq (Code.wp_mono ?_ (h x h1 G w a hN hr));rintro e a' w' ⟨s',G',hK,hr',hs'⟩
 cases e with
 |normal=>exact Code.wp_mono (λ_ _ _ ⟨s'',G'',k1,k2,k3⟩=>⟨s'',G'',k1,k2,hs'.trans k3⟩) (hK y h2 G' w' a' hs'.n hr')
 |_=>exact⟨s',G',hK,hr',hs'⟩
theorem T.cond{c:Operand}{x y:C}{t:Bool}{K:Exit->St->Prop}{s:St}(ht:s.ev c=.v (.bool t)) (h1:t=true->T P N x K s) (h2:t=false->T P N y K s):T P N (.cond c x y) K s:=by
 intro code hc G w a hN hr;obtain⟨x',y',rfl,e1,e2⟩:=PL hc;have hv:=hr.ev c;rw[ht]at hv;simp only[VRel]at hv;exact wp_cond_split hv (λe=>h1 e x' e1 G w a hN hr) (λe=>h2 e y' e2 G w a hN hr)
theorem T.block{id:Nat}{x:C}{K:Exit->St->Prop}{s:St}(h:T P N x (λe s'=>match e with|.exit id'=>if id'=id then K .normal s' else K (.exit id') s'|e=>K e s') s):T P N (.block id x) K s:=by
 intro code hc G w a hN hr;obtain⟨b,rfl,hx⟩:=dJ hc;refine wp_block (Code.wp_mono ?_ (h b hx G w a hN hr));rintro e a' w' ⟨s',G',hK,hr',hs'⟩
 cases e with
 |exit j=>
  simp only[Exit.inBlock]
  grind
 |_=>exact⟨s',G',hK,hr',hs'⟩
theorem wp_loop_ghost{c:Code}{Q:Exit->Act->World->Prop}{X:Type}(J:X->Act->World->Prop) (μ:X->Nat)
 (round:∀x a w,J x a w->c.wp P (Exit.then (λa' w'=>∃y,J y a' w'/\μ y<μ x) Q) a w):∀(x:X) (a:Act) (w:World),J x a w->(Code.loop c).wp P Q a w:=by
 intro x₀ a₀ w₀ h₀ b k cs;have key:∀n (x:X) a w,μ x=n->J x a w->
  ∃e a' w',Q e a' w'/\Arrives P (lone (b.at a (.code c::.inLoop c::k)) cs w) b k cs e a' w':=by
  intro n
  induction n using aac with
  |_ n ih=>
   intro x a w hn hI;obtain⟨e,a₁,w₁,hq,harr⟩:=round x a w hI b (.inLoop c::k) cs
   cases e with
   |normal=>
    obtain⟨y,hI₁,hlt⟩:=hq;obtain⟨e₂,a₂,w₂,hq₂,harr₂⟩:=ih (μ y) (hn▸hlt) y a₁ w₁ rfl hI₁;exact⟨e₂,a₂,w₂,hq₂,.of_steps (Steps.trans harr (.one step_inLoop)) harr₂⟩
   |exit id=>exact⟨_,a₁,w₁,hq,.pass (x:=.inLoop c) rfl (λ_ _=>.inl (by simp)) harr⟩
   |goto l=>exact⟨_,a₁,w₁,hq,.pass (x:=.inLoop c) rfl (λ_ _=>.inl (by simp)) harr⟩
   |ret=>exact⟨_,a₁,w₁,hq,.pass (x:=.inLoop c) rfl (λ_ _=>.inl (by simp)) harr⟩
   |panic ch=>exact⟨_,a₁,w₁,hq,.pass (x:=.inLoop c) rfl (λ_ _=>.inl (by simp)) harr⟩
   |outgrown=>exact⟨_,a₁,w₁,hq,.pass (x:=.inLoop c) rfl (λ_ _=>.inl (by simp)) harr⟩
 obtain⟨e,a',w',hq,harr⟩:=key _ x₀ a₀ w₀ rfl h₀;exact⟨e,a',w',hq,.of_steps (.one step_loop) harr⟩
theorem T.WV{x:C}{K:Exit->St->Prop}{s:St}{X:Type}(J:X->St->Prop) (μ:X->Nat) (x₀:X) (h0:J x₀ s)
 (round:∀y s,J y s->T P N x (λe s'=>match e with|.normal=>∃z,J z s'/\μ z<μ y|e=>K e s') s):T P N (.loop x) K s:=by
 intro code hc G w a hN hr;obtain⟨b,rfl,hx⟩:=RL hc;refine wp_loop_ghost (J:=λ(y:X) a' w'=>∃s' G',J y s'/\Rel G' w' a' s'/\StepN N G w s.m G' w' s'.m) μ ?_ x₀ a w ⟨s,G,h0,hr,StepN.refl _ _ _ hN⟩;rintro y a1 w1 ⟨s1,G1,hI,hr1,hs1⟩;refine Code.wp_mono ?_ (round y s1 hI b hx G1 w1 a1 hs1.n hr1);rintro e a' w' ⟨s',G',hK,hr',hs'⟩
 cases e with
 |normal=>obtain⟨z,h1,h2⟩:=hK;exact⟨z,⟨s',G',h1,hr',hs1.trans hs'⟩,h2⟩
 |_=>exact⟨s',G',hK,hr',hs1.trans hs'⟩
def uQ(s:St):RV->Option D
 |.tmp t=>some (s.t.getD t .dead)
 |.cell A n a=>
  match la s (.load A n (.tmp a))with
  |some (d,_)=>some d
  |none=>none
def sd(s:St):List RV->Option (List D)
 |[]=>some []
 |r::l=>
  match uQ s r,sd s l with
  |some d,some ds=>some (d::ds)
  |_,_=>none
def ym:List D->D
 |[d]=>d
 |l=>.tup l
def KG(tmps:Array Value):ResultVar->Sem Value
 |.tmp t=>pure (tmps.getD t undef)
 |.cell a t=>do loadVar t (←asAddr (tmps.getD a undef))
theorem TJ(fn:Func) (tmps:Array Value):results fn tmps=(do let vs←fn.results.mapM (KG tmps);pure (if h:vs.size=1 then vs[0]else .tuple vs)):=by
 unfold results;rfl
theorem uI:∀{l:List ResultVar}{rl:List RV}{s:St}{G:Gh}{w:World}{a:Act}{ds:List D},Au P l=some rl->Rel G w a s->sd s rl=some ds->
 ∃us:List Value,(l.mapM (KG a.tmps)).run P w=.ok us w/\VsRel G w ds us
 |[],rl,s,G,w,a,ds,hc,hr,hd=>by
  simp only[Au]at hc;injection hc with hc;subst hc;simp only[sd]at hd;injection hd with hd;subst hd;exact⟨[],by simp,by simp[VsRel]⟩
 |r::l,rl,s,G,w,a,ds,hc,hr,hd=>by
  simp only[Au]at hc;split at hc
  .rename_i x y h1 h2;injection hc with hc;subst hc;simp only[sd]at hd;split at hd
   .rename_i d ds' h3 h4;injection hd with hd;subst hd;obtain⟨us,hrun,hv⟩:=uI h2 hr h4
    cases r with
    |tmp t=>
     simp only[cJ]at h1;injection h1 with h1;subst h1;simp only[uQ]at h3;injection h3 with h3;subst h3;have hx:=hr.ev (.tmp t);simp only[St.ev,Act.eval]at hx;refine⟨a.tmps.getD t undef::us,?_,by simp only[VsRel];grind⟩
     grind[KG,Sem.run_bind,Sem.run_pure,Result.andThen_ok]
    |cell p t=>
     simp only[cJ,eaa]at h1;obtain⟨q,hq,rfl⟩:=h1;simp only[uQ]at h3;split at h3
     .rename_i e m0 he;injection h3 with h3;subst h3;obtain⟨ad,u,hp,hrl,hvd,-⟩:=uD (P:=P) hr hq he;simp only[Act.eval]at hp;refine⟨u::us,?_,by simp only[VsRel];grind⟩
      grind[KG,asAddr,Sem.run_bind,Sem.run_pure,Result.andThen_ok]
     simp_all
   simp_all
  simp_all
def Nx(rs:List RV) (R:D->List Ent->Prop):Exit->St->Prop
 |.normal,s=>∃ds,sd s rs=some ds/\R (ym ds) s.m
 |.ret,s=>∃ds,sd s rs=some ds/\R (ym ds) s.m
 |_,_=>False
theorem tV{G:Gh}{w:World}{ds:List D}{us:List Value}(h:VsRel G w ds us):VRel G w (ym ds) (if h:us.toArray.size=1 then us.toArray[0]else .tuple us.toArray):=by
 match ds,h with
 |[],h=>
  simp only[VsRel]at h;subst h;simp only[cac,List.length_nil,ym];rw[dif_neg (by decide)];simp only[VRel,VsRel];simp
 |[d],h=>
  simp only[VsRel]at h;obtain⟨u,r,rfl,hv,rfl⟩:=h
  grind[ym]
 |d::e::l,h=>
  have hl:=h.length;rw[dif_neg (by simp_all)];simp only[ym,VRel]
  simp_all
theorem BB{fn:Func}{F:Fun}{s:St}{G:Gh}{w:World}{a:Act}{ds:List D}(hc:Au P fn.results.toList=some F.results) (hr:Rel G w a s) (hd:sd s F.results=some ds) :
 ∃v,(results fn a.tmps).run P w=.ok v w/\VRel G w (ym ds) v:=by
 obtain⟨us,hrun,hv⟩:=uI hc hr hd;refine⟨_,?_,tV hv⟩
 grind[TJ,Array.mapM_eq_mapM_toList,Sem.run_bind,Sem.run_map,Result.andThen_ok,Sem.run_pure]
theorem YG(G:Gh) (w:World):∀n,VsRel G w (gaa n .dead) (gaa n undef)
 |0=>by simp[VsRel]
 |n+1=>by simp only[List.replicate_succ,VsRel];exact⟨_,_,rfl,by simp[VRel],YG G w n⟩
theorem Sy{f:FuncId}{F:Fun}{ds:List D}{m:List Ent}{R:D->List Ent->Prop}(hF:Pt P f=some F) (hname:((P.funcs[f]?).map λfn=>fn.name == "runtime.NumGoroutine")=some false)
 (h:T P m.length F.code (Nx F.results R) ⟨ds++gaa (F.ntmps-ds.length) .dead,m⟩):CallT P f ds m R:=by
 unfold Pt at hF;split at hF
 .rename_i fn hfn;split at hF
  .rename_i b r hb hres;simp only[eaa]at hF;obtain⟨c,hc,rfl⟩:=hF;refine⟨⟨fn,hfn,by simp_all,by simp_all⟩,λG w vs hv hi=>?_⟩;refine calls_of_wp hfn hb ?_;have hlen:=hv.length;have hr:Rel G w { tmps:=vs.toArray++Kab (fn.ntmps-vs.toArray.size) undef,defers:=[] } ⟨ds++gaa (fn.ntmps-ds.length) .dead,m⟩:=by
    refine⟨?_,hi,rfl⟩;simp only[Array.toList_append,Array.toList_replicate,cac,hlen];exact hv.append (YG _ _ _)
   refine Code.wp_mono ?_ (h b hc G w _ (by rw[hi.n];omega) hr);rintro e a' w' ⟨s',G',hK,hr',hs0⟩;have hs':Step G w m G' w' s'.m:=by rw[←hi.n]at hs0;exact hs0.toStep
   have fin:(∃ds,sd s' r=some ds/\R (ym ds) s'.m)->a'.defers=[]/\∃v,(results fn a'.tmps).run P w'=.ok v w'/\∃v_1 d m' G',Ending.returned v=.returned v_1/\R d m'/\VRel G' w' d v_1/\Inv G' w' m'/\Step G w m G' w' m':=by
    rintro⟨es,hes,hR⟩;obtain⟨v,hrun,hv'⟩:=BB (F:=⟨fn.ntmps,r,c⟩) hres hr' hes;exact⟨hr'.defers,v,hrun,v,_,_,G',rfl,hR,hv',hr'.inv,hs'⟩
   cases e with
   |normal=>exact fin hK
   |ret=>exact fin hK
   |_=>exact hK.elim
  simp_all
 simp_all
end
structure SubF (G:Gh) (w:World) (G':Gh) (w':World):Prop where
 F:∀b,G.F b->G'.F b
 heap:∀b,G.F b->w'.heap[b]?=w.heap[b]?
mutual
theorem VRel.free{G G':Gh}{w w':World}(hle:SubF G w G' w'):∀{d:D}{u:Value},na d=true->VRel G w d u->VRel G' w' d u
 |.v x,u,_,h=>by simpa [VRel] using h
 |.agg l,u,hf,h=>by
  simp only[VRel,na]at h hf⊢;obtain⟨cs,rfl,h,h1⟩:=h;exact⟨cs,rfl,VsRel.free hle hf h,h1⟩
 |.tup l,u,hf,h=>by
  simp only[VRel,na]at h hf⊢;obtain⟨cs,rfl,h⟩:=h;exact⟨cs,rfl,VsRel.free hle hf h⟩
 |.sl S l,u,hf,h=>by
  simp only[VRel,na]at h hf⊢;obtain⟨a,n,cap,rfl,hn,hc,h⟩:=h;refine⟨a,n,cap,rfl,hn,hc,?_⟩;rcases h with h|⟨b,off,rfl,hF,hr⟩
  .simp_all
  .exact .inr ⟨b,off,rfl,hle.F b hF,Sa.free hle (hle.heap b hF) hf hr⟩
 |.pt d,u,hf,h=>by
  simp only[VRel,na]at h hf⊢;obtain⟨b,off,x,rfl,hF,hd,hh⟩:=h;exact⟨b,off,x,rfl,hle.F b hF,VRel.free hle hf hd,hh.mono (hle.heap b hF)⟩
 |.fn f first caps,u,hf,h=>by
  simp only[VRel,na,laa]at h hf⊢;obtain⟨fs,cs,rfl,h1,h2⟩:=h;exact⟨fs,cs,rfl,VsRel.free hle hf.1 h1,VsRel.free hle hf.2 h2⟩
 |.ifc t d,u,hf,h=>by
  simp only[VRel,na]at h hf⊢;obtain⟨x,rfl,h⟩:=h;exact⟨x,rfl,VRel.free hle hf h⟩
 |.dead,u,_,h=>by simp[VRel]
 |.ref ..,_,hf,_=>by grind[na]
 |.own ..,_,hf,_=>by grind[na]
 |.view ..,_,hf,_=>by grind[na]
 |.mp _,_,hf,_=>by grind[na]
theorem VsRel.free{G G':Gh}{w w':World}(hle:SubF G w G' w'):∀{l:List D}{us:List Value},ia l=true->VsRel G w l us->VsRel G' w' l us
 |[],us,_,h=>by simpa [VsRel] using h
 |d::l,us,hf,h=>by
  simp only[VsRel,ia,laa]at h hf⊢;obtain⟨u,r,rfl,h1,h2⟩:=h;exact⟨u,r,rfl,VRel.free hle hf.1 h1,VsRel.free hle hf.2 h2⟩
theorem Sa.free{G G':Gh}{w w':World}(hle:SubF G w G' w') {b S:Nat}(hb:w'.heap[b]?=w.heap[b]?) :
 ∀{l:List D} {off:Nat},ia l=true->Sa G w b S l off->Sa G' w' b S l off
 |[],off,_,h=>by simp[Sa]
 |d::l,off,hf,h=>by
  simp only[Sa,ia,laa]at h hf⊢;obtain⟨⟨u,h1,h2,h3⟩,h4⟩:=h;exact⟨⟨u,VRel.free hle hf.1 h1,h2,h3.mono hb⟩,Sa.free hle hb hf.2 h4⟩
end
def Cd:Nat->List Ent->D->D
 |0,_,_=>.dead
 |k+1,m,d=>
  match d with
  |.agg l=>.agg (l.map (Cd k m))
  |.tup l=>.tup (l.map (Cd k m))
  |.sl S l=>if ia l then d else .sl S (l.map (Cd k m))
  |.pt d=>.pt (Cd k m d)
  |.own id Ja=>
   match m[id]? with
   |some (.live S ver' l)=>if ver'=Ja then .sl S (if ia l then l else l.map (Cd k m))else .dead
   |_=>.dead
  |.view id Ja lo n=>
   match m[id]? with
   |some (.live S ver' l)=>if ver'=Ja/\lo+n<=l.length then .sl S (((if ia l then l else l.map (Cd k m)).drop lo).take n)else .dead
   |_=>.dead
  |.ref id Ja x s=>
   match m[id]? with
   |some (.live _ ver' l)=>if ver'=Ja/\s=0 then(match l[x]? with|some e=>.pt (Cd k m e)|none=>.dead)else .dead
   |_=>.dead
  |.fn f a b=>.fn f (a.map (Cd k m)) (b.map (Cd k m))
  |.v x=>.v x
  |_=>.dead
theorem kB{f:D->D}(h:∀d,na (f d)=true):∀l:List D,ia (l.map f)=true
 |[]=>rfl
 |d::l=>by simp[ia,h d,kB h l]
theorem il:∀{l:List D},ia l=true↔∀d∈l,na d=true
 |[]=>by simp[ia]
 |d::l=>by simp[ia,il (l:=l)]
theorem bu:∀(k:Nat) (m:List Ent) (d:D),na (Cd k m d)=true
 |0,m,d=>rfl
 |k+1,m,d=>by
  have ih:=kB (bu k m)
  cases d with
  |agg l=>grind[Cd,na]
  |tup l=>grind[Cd,na]
  |sl S l=>
   grind[Cd,na]
  |pt d=>simpa [Cd,na] using bu k m d
  |own id Ja=>
   grind[Cd,na]
  |view id Ja lo n=>
   grind[Cd,na,il]
  |ref id Ja x s=>
   simp only[Cd];split
   .split
    .split
     .simpa [na] using bu k m _
     .rfl
    .rfl
   .rfl
  |fn f a b=>grind[Cd,na]
  |_=>rfl
def Gh.Cd(G:Gh) (m:List Ent):Gh:={ G with F:=λb=>G.F b\/Qc G m b }
theorem Vv{G:Gh}{w:World}{m:List Ent}:SubF G w (G.Cd m) w:=⟨λ_ h=>.inl h,λ_ _=>rfl⟩
theorem tn{G:Gh}{w:World}{G':Gh}{f:D->D}(h:∀d u,VRel G w d u->VRel G' w (f d) u):∀{l:List D}{us:List Value},VsRel G w l us->VsRel G' w (l.map f) us
 |[],us,hv=>by simpa [VsRel] using hv
 |d::l,us,hv=>by
  simp only[VsRel,Gaa]at hv⊢;obtain⟨u,r,rfl,h1,h2⟩:=hv;exact⟨u,r,rfl,h d u h1,tn h h2⟩
theorem Hn{G:Gh}{w:World}{G':Gh}{f:D->D}(h:∀d u,VRel G w d u->VRel G' w (f d) u) {b S:Nat}:∀{l:List D}{off:Nat},Sa G w b S l off->Sa G' w b S (l.map f) off
 |[],off,hv=>by simp[Sa]
 |d::l,off,hv=>by
  simp only[Sa,Gaa]at hv⊢;obtain⟨⟨u,h1,h2,h3⟩,h4⟩:=hv;exact⟨⟨u,h d u h1,h2,h3⟩,Hn h h4⟩
theorem bD{G:Gh}{w:World}{m:List Ent}(hi:Inv G w m):∀(k:Nat) (d:D) (u:Value),VRel G w d u->VRel (G.Cd m) w (Cd k m d) u
 |0,d,u,_=>by simp[Cd,VRel]
 |k+1,d,u,hv=>by
  have ih:=bD hi k
  cases d with
  |v x=>simpa [Cd,VRel] using hv
  |agg l=>
   simp only[Cd,VRel]at hv⊢;obtain⟨cs,rfl,h1,h2⟩:=hv;exact⟨cs,rfl,tn ih h1,h2⟩
  |tup l=>
   simp only[Cd,VRel]at hv⊢;obtain⟨cs,rfl,h1⟩:=hv;exact⟨cs,rfl,tn ih h1⟩
  |sl S l=>
   simp only[Cd];split
   .rename_i hf;exact hv.free Vv (by grind[na])
   .simp only[VRel]at hv⊢;obtain⟨a,n,cap,rfl,hn,hc,h⟩:=hv;refine⟨a,n,cap,rfl,by simp_all,hc,?_⟩;rcases h with h|⟨b,off,rfl,hF,hr⟩
    .simp_all
    .exact .inr ⟨b,off,rfl,.inl hF,Hn ih hr⟩
  |pt d=>
   simp only[Cd,VRel]at hv⊢;obtain⟨b,off,x,rfl,hF,hd,hh⟩:=hv;exact⟨b,off,x,rfl,.inl hF,ih d x hd,hh⟩
  |own id Ja=>
   simp only[Cd];split
   .rename_i S ver' l hm;split
    .rename_i hvr;subst hvr;simp only[VRel]at hv⊢;obtain⟨p,n,c,rfl,hid,hver,hx⟩:=hv;obtain⟨a1,a2,a3,a4,a5⟩:=hi.ent _ _ hm;obtain⟨rfl,rfl,rfl⟩:=hx a1;have hlen:(if ia l=true then l else l.map (Cd k m)).length=l.length:=by grind
     refine⟨_,_,_,rfl,by omega,by omega,?_⟩
     .rcases a5 with a5|⟨b',cs,T,hb',hF,hblk,hsz,hrow⟩
      .simp_all
      .refine .inr ⟨b',(G.C id).2,by simp_all,.inr ⟨id,_,hm,rfl,hb'⟩,?_⟩;split
       .rename_i hf;exact hrow.free Vv rfl hf
       grind[Hn]
    .simp[VRel]
   .simp[VRel]
  |view id Ja lo n=>
   simp only[Cd];split
   .rename_i S ver' l hm;split
    .rename_i hvr;obtain⟨rfl,hle⟩:=hvr;simp only[VRel]at hv⊢;obtain⟨p,c,rfl,hnc,hid,hver,hx⟩:=hv;obtain⟨a1,a2,a3,a4,a5⟩:=hi.ent _ _ hm;have hlen:(if ia l=true then l else l.map (Cd k m)).length=l.length:=by grind
     have hlen2:(((if ia l=true then l else l.map (Cd k m)).drop lo).take n).length=n:=by
      grind
     refine⟨p,n,c,rfl,hlen2.symm,hnc,?_⟩
     .rcases hx a1 with rfl|⟨b,hb,rfl⟩
      .simp
      .rcases a5 with a5|⟨b',cs,T,hb',hF,hblk,hsz,hrow⟩
       .simp_all
       .rw[hb]at hb';injection hb' with hb';subst hb';refine .inr ⟨b,lo*S+(G.C id).2,by rw[a2],.inr ⟨id,_,hm,rfl,hb⟩,?_⟩;have:Sa (G.Cd m) w b S (if ia l=true then l else l.map (Cd k m)) (G.C id).2:=by
         split
         .rename_i hf;exact hrow.free Vv rfl hf
         grind[Hn]
        grind[Vr,Ur]
    .simp[VRel]
   .simp[VRel]
  |ref id Ja x s=>
   simp only[Cd];split
   .rename_i S ver' l hm;split
    .rename_i hvr;obtain⟨rfl,rfl⟩:=hvr;split
     .rename_i e he;simp only[VRel]at hv⊢;obtain⟨p,rfl,hid,hver,hx⟩:=hv;obtain⟨a1,a2,a3,a4,a5⟩:=hi.ent _ _ hm;obtain⟨b,hb,rfl⟩:=hx a1;rcases a5 with a5|⟨b',cs,T,hb',hF,hblk,hsz,hrow⟩
      .simp_all
      .rw[hb]at hb';injection hb' with hb';subst hb';obtain⟨u',g1,g2,g3⟩:=Md.1 hrow x e he;refine⟨b,_,u',rfl,.inr ⟨id,_,hm,rfl,hb⟩,ih e u' g1,?_⟩
       grind
     .simp[VRel]
    .simp[VRel]
   .simp[VRel]
  |fn f a b=>
   simp only[Cd,VRel]at hv⊢;obtain⟨fs,cs,rfl,h1,h2⟩:=hv;exact⟨fs,cs,rfl,tn ih h1,tn ih h2⟩
  |_=>simp[Cd,VRel]
def Gh.bare(F:Nat->Prop):Gh:=⟨F,0,λ_=>none,λ_=>0,λ_=>0,λ_=>0,λ_=>(0,0)⟩
theorem rM{g:Nat}{d:D}(h:gtab g=some d):na d=true:=by
 unfold gtab at h;split at h
 .injection h with h;subst h;rfl
 .cases h
theorem GOK.bare{G G':Gh}{w:World}(h:GOK G w) (hF:∀b,G.F b->G'.F b):GOK G' w:=λg d hd=>
 VRel.free (G:=G) (G':=G') ⟨hF,λ_ _=>rfl⟩ (d:=.pt d) (by grind[na,rM]) (h g d hd)
theorem vz{F:Nat->Prop}{w:World}(h:∀b,F b->b<w.heap.size) (hg:GOK (Gh.bare F) w):Inv (Gh.bare F) w []:=
 ⟨rfl,h,λi e he=>by simp at he,λi j e e' he=>by simp,hg⟩
theorem Mw{G:Gh}{b:Nat}:¬Qc G [] b:=λ⟨i,e,he,_⟩=>by simp at he
theorem iF{G G':Gh}{F:Nat->Prop}{w w':World}{m m':List Ent}(hi:Inv G w m) (hs:Step (Gh.bare F) w [] G' w' m') (hi':Inv G' w' m') (hF:∀b,G.F b->F b) :
 (∀b,b<w.heap.size->w'.heap[b]?=w.heap[b]?)/\
 (Inv G w' m/\Step G w m G w' m)/\
 ((∀b,F b->G.F b)->Inv { G with F:=λb=>G'.F b\/Qc G' m' b } w' m/\Step G w m { G with F:=λb=>G'.F b\/Qc G' m' b } w' m):=by
 have hkeep:∀b,b<w.heap.size->w'.heap[b]?=w.heap[b]?:=λb hb=>hs.keep b hb Mw;have hold:∀i x,m[i]?=some x->x.isLive=true->∀k,G.B i=some k->k<w.heap.size:=λi x hx hl k hk=>((hi.ent i x hx).lt hl hk).1;refine⟨hkeep,?_,λhF'=>?_⟩
 .have hle:Le G w G w':=⟨λ_ h=>h,λb hb=>hkeep b (hi.F b hb),oaa _,λ_ _=>.inl ⟨rfl,rfl,rfl,rfl,rfl⟩⟩;refine⟨⟨hi.n,λb hb=>Kaa (hi.F b hb) hs.size,λi e he=>?_,hi.apart,hi.gl.mono hle⟩,⟨hle,hs.os,hs.tape,hs.output,hs.size,λb hb _=>hkeep b hb,λ_ _ h=>.inl h,λ_ _ h=>h⟩⟩;by_cases hl:e.isLive=true
  .exact(hi.ent i e he).mono hle ⟨rfl,rfl,rfl,rfl,rfl⟩ (λb hb=>hkeep b (hold i e he hl b hb)) (λ_ _ _ h=>h)
  .cases e with
   |gone=>trivial
   |_=>grind[Ent.isLive]
 .have hle:Le G w { G with F:=λb=>G'.F b\/Qc G' m' b } w':=⟨λb h=>.inl (hs.le.F b (hF b h)),λb hb=>hkeep b (hi.F b hb),oaa _,λ_ _=>.inl ⟨rfl,rfl,rfl,rfl,rfl⟩⟩;have hold':∀b,b<w.heap.size->(G'.F b\/Qc G' m' b)->G.F b:=by
   intro b hb h;rcases h with h|h
   .rcases hs.newF b hb h with h|h
    .exact hF' b h
    grind[Mw]
   .exact(Mw (hs.newB b hb h)).elim
  refine⟨⟨hi.n,?_,λi e he=>?_,hi.apart,hi.gl.mono hle⟩,⟨hle,hs.os,hs.tape,hs.output,hs.size,λb hb _=>hkeep b hb,λb hb h=>.inl (hold' b hb h),λ_ _ h=>h⟩⟩
  .rintro b (h|h)
   .exact hi'.F b h
   grind[Qc.lt]
  .by_cases hl:e.isLive=true
   .exact(hi.ent i e he).mono hle ⟨rfl,rfl,rfl,rfl,rfl⟩ (λb hb=>hkeep b (hold i e he hl b hb)) (λb hb _ h=>hold' b (hold i e he hl b hb) h)
   .cases e with
    |gone=>trivial
    |_=>grind[Ent.isLive]
mutual
def flat:D->Bool
 |.v _=>true
 |.agg l=>xF l
 |.tup l=>xF l
 |.dead=>true
 |_=>false
def xF:List D->Bool
 |[]=>true
 |d::l=>flat d&&xF l
end
mutual
theorem VRel.flat{G G':Gh}{w w':World}:∀{d:D}{u:Value},flat d=true->VRel G w d u->VRel G' w' d u
 |.v x,u,_,h=>by simpa [VRel] using h
 |.agg l,u,hf,h=>by
  simp only[VRel,Tm.flat]at h hf⊢;obtain⟨cs,rfl,h,h1⟩:=h;exact⟨cs,rfl,VsRel.flat hf h,h1⟩
 |.tup l,u,hf,h=>by
  simp only[VRel,Tm.flat]at h hf⊢;obtain⟨cs,rfl,h⟩:=h;exact⟨cs,rfl,VsRel.flat hf h⟩
 |.dead,u,_,h=>by simp[VRel]
 |.sl ..,_,hf,_=>by grind[Tm.flat]
 |.pt ..,_,hf,_=>by grind[Tm.flat]
 |.fn ..,_,hf,_=>by grind[Tm.flat]
 |.ref ..,_,hf,_=>by grind[Tm.flat]
 |.own ..,_,hf,_=>by grind[Tm.flat]
 |.view ..,_,hf,_=>by grind[Tm.flat]
 |.mp _,_,hf,_=>by grind[Tm.flat]
 |.ifc ..,_,hf,_=>by grind[Tm.flat]
theorem VsRel.flat{G G':Gh}{w w':World}:∀{l:List D}{us:List Value},xF l=true->VsRel G w l us->VsRel G' w' l us
 |[],us,_,h=>by simpa [VsRel] using h
 |d::l,us,hf,h=>by
  simp only[VsRel,xF,laa]at h hf⊢;obtain⟨u,r,rfl,h1,h2⟩:=h;exact⟨u,r,rfl,VRel.flat hf.1 h1,VsRel.flat hf.2 h2⟩
end
open Go.RowKit (Below)
mutual
def Sub:D->D->Prop
 |_,.dead=>True
 |.v x,.sl _ l=>x=.slice none 0 0/\l=[]
 |.agg l,.agg r=>Tc l r
 |.tup l,.tup r=>Tc l r
 |.sl S l,.sl S' r=>S=S'/\Tc l r
 |d,e=>d=e
def Tc:List D->List D->Prop
 |[],r=>r=[]
 |d::l,r=>∃e r',r=e::r'/\Sub d e/\Tc l r'
end
theorem Tc.length:∀{l r:List D},Tc l r->l.length=r.length
 |[],r,h=>by simp[Tc]at h;simp[h]
 |d::l,r,h=>by
  simp only[Tc]at h;obtain⟨e,r',rfl,_,h2⟩:=h;simp[Tc.length h2]
mutual
theorem Sub.rel{G:Gh}{w:World}:∀{d e:D}{u:Value},Sub d e->VRel G w d u->VRel G w e u
 |d,.dead,u,_,_=>by simp[VRel]
 |.v x,.sl S l,u,hs,h=>by
  simp only[Sub]at hs;obtain⟨rfl,rfl⟩:=hs;simp only[VRel]at h⊢
  grind
 |.agg l,.agg r,u,hs,h=>by
  simp only[Sub]at hs;simp only[VRel]at h⊢;obtain⟨cs,rfl,h,h1⟩:=h;exact⟨cs,rfl,Tc.rel hs h,h1⟩
 |.tup l,.tup r,u,hs,h=>by
  simp only[Sub]at hs;simp only[VRel]at h⊢;obtain⟨cs,rfl,h⟩:=h;exact⟨cs,rfl,Tc.rel hs h⟩
 |.sl S l,.sl S' r,u,hs,h=>by
  simp only[Sub]at hs;obtain⟨rfl,hs⟩:=hs;simp only[VRel]at h⊢;obtain⟨a,n,cap,rfl,hn,hc,h⟩:=h;refine⟨a,n,cap,rfl,by rw[←hs.length];omega,hc,?_⟩;rcases h with rfl|⟨b,off,rfl,hF,hr⟩
  .simp only[Tc]at hs;simp_all
  .exact .inr ⟨b,off,rfl,hF,Tc.row hs hr⟩
 |.v x,.v y,u,hs,h=>by simp only[Sub]at hs;simp_all
 |.v x,.agg y,u,hs,h=>by simp only[Sub]at hs;grind
 |.v x,.tup y,u,hs,h=>by simp only[Sub]at hs;grind
 |.v x,.pt y,u,hs,h=>by simp only[Sub]at hs;grind
 |.v x,.ref ..,u,hs,h=>by simp only[Sub]at hs;grind
 |.v x,.own ..,u,hs,h=>by simp only[Sub]at hs;grind
 |.v x,.view ..,u,hs,h=>by simp only[Sub]at hs;grind
 |.v x,.fn ..,u,hs,h=>by simp only[Sub]at hs;grind
 |.v x,.mp ..,u,hs,h=>by simp only[Sub]at hs;grind
 |.v x,.ifc ..,u,hs,h=>by simp only[Sub]at hs;grind
 |.agg l,.v y,u,hs,h=>by simp only[Sub]at hs;grind
 |.agg l,.tup y,u,hs,h=>by simp only[Sub]at hs;grind
 |.agg l,.sl ..,u,hs,h=>by simp only[Sub]at hs;grind
 |.agg l,.pt y,u,hs,h=>by simp only[Sub]at hs;grind
 |.agg l,.ref ..,u,hs,h=>by simp only[Sub]at hs;grind
 |.agg l,.own ..,u,hs,h=>by simp only[Sub]at hs;grind
 |.agg l,.view ..,u,hs,h=>by simp only[Sub]at hs;grind
 |.agg l,.fn ..,u,hs,h=>by simp only[Sub]at hs;grind
 |.agg l,.mp ..,u,hs,h=>by simp only[Sub]at hs;grind
 |.agg l,.ifc ..,u,hs,h=>by simp only[Sub]at hs;grind
 |.tup l,.v y,u,hs,h=>by simp only[Sub]at hs;grind
 |.tup l,.agg y,u,hs,h=>by simp only[Sub]at hs;grind
 |.tup l,.sl ..,u,hs,h=>by simp only[Sub]at hs;grind
 |.tup l,.pt y,u,hs,h=>by simp only[Sub]at hs;grind
 |.tup l,.ref ..,u,hs,h=>by simp only[Sub]at hs;grind
 |.tup l,.own ..,u,hs,h=>by simp only[Sub]at hs;grind
 |.tup l,.view ..,u,hs,h=>by simp only[Sub]at hs;grind
 |.tup l,.fn ..,u,hs,h=>by simp only[Sub]at hs;grind
 |.tup l,.mp ..,u,hs,h=>by simp only[Sub]at hs;grind
 |.tup l,.ifc ..,u,hs,h=>by simp only[Sub]at hs;grind
 |.sl S l,.v y,u,hs,h=>by simp only[Sub]at hs;grind
 |.sl S l,.agg y,u,hs,h=>by simp only[Sub]at hs;grind
 |.sl S l,.tup ..,u,hs,h=>by simp only[Sub]at hs;grind
 |.sl S l,.pt y,u,hs,h=>by simp only[Sub]at hs;grind
 |.sl S l,.ref ..,u,hs,h=>by simp only[Sub]at hs;grind
 |.sl S l,.own ..,u,hs,h=>by simp only[Sub]at hs;grind
 |.sl S l,.view ..,u,hs,h=>by simp only[Sub]at hs;grind
 |.sl S l,.fn ..,u,hs,h=>by simp only[Sub]at hs;grind
 |.sl S l,.mp ..,u,hs,h=>by simp only[Sub]at hs;grind
 |.sl S l,.ifc ..,u,hs,h=>by simp only[Sub]at hs;grind
 |.pt x,e,u,hs,h=>by cases e<;>simp only[Sub]at hs<;>first|(simp[VRel];done)|(rw[←hs];exact h)|cases hs
 |.ref a b c d,e,u,hs,h=>by cases e<;>simp only[Sub]at hs<;>first|(simp[VRel];done)|(rw[←hs];exact h)|cases hs
 |.own a b,e,u,hs,h=>by cases e<;>simp only[Sub]at hs<;>first|(simp[VRel];done)|(rw[←hs];exact h)|cases hs
 |.view a b c d,e,u,hs,h=>by cases e<;>simp only[Sub]at hs<;>first|(simp[VRel];done)|(rw[←hs];exact h)|cases hs
 |.fn a b c,e,u,hs,h=>by cases e<;>simp only[Sub]at hs<;>first|(simp[VRel];done)|(rw[←hs];exact h)|cases hs
 |.mp a,e,u,hs,h=>by cases e<;>simp only[Sub]at hs<;>first|(simp[VRel];done)|(rw[←hs];exact h)|cases hs
 |.ifc a b,e,u,hs,h=>by cases e<;>simp only[Sub]at hs<;>first|(simp[VRel];done)|(rw[←hs];exact h)|cases hs
 |.dead,e,u,hs,h=>by cases e<;>simp only[Sub]at hs<;>first|(simp[VRel];done)|(rw[←hs];exact h)|cases hs
theorem Tc.rel{G:Gh}{w:World}:∀{l r:List D}{us:List Value},Tc l r->VsRel G w l us->VsRel G w r us
 |[],r,us,hs,h=>by simp only[Tc]at hs;subst hs;exact h
 |d::l,r,us,hs,h=>by
  simp only[Tc]at hs;obtain⟨e,r',rfl,h1,h2⟩:=hs;simp only[VsRel]at h⊢;obtain⟨u,us',rfl,g1,g2⟩:=h;exact⟨u,us',rfl,Sub.rel h1 g1,Tc.rel h2 g2⟩
theorem Tc.row{G:Gh}{w:World}{b S:Nat}:∀{l r:List D}{off:Nat},Tc l r->Sa G w b S l off->Sa G w b S r off
 |[],r,off,hs,h=>by simp only[Tc]at hs;subst hs;exact h
 |d::l,r,off,hs,h=>by
  simp only[Tc]at hs;obtain⟨e,r',rfl,h1,h2⟩:=hs;simp only[Sa]at h⊢;obtain⟨⟨u,g1,g2,g3⟩,g4⟩:=h;exact⟨⟨u,Sub.rel h1 g1,g2,g3⟩,Tc.row h2 g4⟩
end
mutual
theorem Sub.refl:∀d:D,Sub d d
 |.v x=>by simp[Sub]
 |.agg l=>by simp only[Sub];exact Tc.ru l
 |.tup l=>by simp only[Sub];exact Tc.ru l
 |.sl S l=>by simp only[Sub,true_and];exact Tc.ru l
 |.pt d=>by simp[Sub]
 |.ref ..=>by simp[Sub]
 |.own ..=>by simp[Sub]
 |.view ..=>by simp[Sub]
 |.fn ..=>by simp[Sub]
 |.mp ..=>by simp[Sub]
 |.ifc ..=>by simp[Sub]
 |.dead=>by simp[Sub]
theorem Tc.ru:∀l:List D,Tc l l
 |[]=>by simp[Tc]
 |d::l=>by simp only[Tc];exact⟨d,l,rfl,Sub.refl d,Tc.ru l⟩
end
section
variable {P:Program} {N:Nat}
theorem T.sub{c:C}{K:Exit->St->Prop}{s:St}(t':List D) (hs:Tc s.t t') (h:T P N c K ⟨t',s.m⟩):T P N c K s:=
 T.ghost (s':=⟨t',s.m⟩) (λG w _ hN hr=>⟨G,⟨hs.rel hr.t,hr.inv,hr.defers⟩,StepN.refl _ _ _ hN⟩) h
mutual
def below(k:Nat):D->Bool
 |.agg l=>belows k l
 |.tup l=>belows k l
 |.sl _ l=>belows k l
 |.pt d=>below k d
 |.ref i _ _ _=>decide (i<k)
 |.own i _=>decide (i<k)
 |.view i _ _ _=>decide (i<k)
 |.fn _ a b=>belows k a&&belows k b
 |.mp i=>decide (i<k)
 |.ifc _ d=>below k d
 |_=>true
def belows(k:Nat):List D->Bool
 |[]=>true
 |d::l=>below k d&&belows k l
end
mutual
theorem si(k:Nat):∀d:D,na d=true->below k d=true
 |.v _,_=>by simp[below]
 |.agg l,h=>by simp only[below];exact zh k l (by grind[na])
 |.tup l,h=>by simp only[below];exact zh k l (by grind[na])
 |.sl _ l,h=>by simp only[below];exact zh k l (by grind[na])
 |.pt d,h=>by simp only[below];exact si k d (by grind[na])
 |.ifc _ d,h=>by simp only[below];exact si k d (by grind[na])
 |.fn _ a b,h=>by
  simp only[na,laa]at h;simp only[below,laa];exact⟨zh k a h.1,zh k b h.2⟩
 |.dead,_=>by simp[below]
 |.ref ..,h=>by grind[na]
 |.own ..,h=>by grind[na]
 |.view ..,h=>by grind[na]
 |.mp _,h=>by grind[na]
theorem zh(k:Nat):∀l:List D,ia l=true->belows k l=true
 |[],_=>by simp[belows]
 |d::l,h=>by
  simp only[ia,laa]at h;simp only[belows,laa];exact⟨si k d h.1,zh k l h.2⟩
end
def Ent.below(k:Nat):Ent->Bool
 |.live _ _ l=>belows k l
 |.mp es=>es.all λe=>Tm.below k e.2
 |.gone=>true
def Gh.trim(G:Gh) (k:Nat):Gh:={ G with n:=k }
mutual
theorem VRel.trim{G:Gh}{w:World}{k:Nat}:∀{d:D}{u:Value},below k d=true->VRel G w d u->VRel (G.trim k) w d u
 |.v x,u,_,h=>by simpa [VRel] using h
 |.agg l,u,hb,h=>by
  simp only[VRel,below]at h hb⊢;obtain⟨cs,rfl,h,h1⟩:=h;exact⟨cs,rfl,VsRel.trim hb h,h1⟩
 |.tup l,u,hb,h=>by
  simp only[VRel,below]at h hb⊢;obtain⟨cs,rfl,h⟩:=h;exact⟨cs,rfl,VsRel.trim hb h⟩
 |.sl S l,u,hb,h=>by
  simp only[VRel,below]at h hb⊢;obtain⟨a,n,cap,rfl,hn,hc,h⟩:=h;refine⟨a,n,cap,rfl,hn,hc,?_⟩;rcases h with h|⟨b,off,rfl,hF,hr⟩
  .simp_all
  .exact .inr ⟨b,off,rfl,hF,Sa.trim hb hr⟩
 |.pt d,u,hb,h=>by
  simp only[VRel,below]at h hb⊢;obtain⟨b,off,x,rfl,hF,hd,hh⟩:=h;exact⟨b,off,x,rfl,hF,VRel.trim hb hd,hh⟩
 |.ref ..,u,hb,h=>by
  simp only[VRel,below,decide_eq_true_eq]at h hb⊢;obtain⟨a,hu,_,h⟩:=h;exact⟨a,hu,hb,h⟩
 |.own ..,u,hb,h=>by
  simp only[VRel,below,decide_eq_true_eq]at h hb⊢;obtain⟨a,n,c,hu,_,h⟩:=h;exact⟨a,n,c,hu,hb,h⟩
 |.view ..,u,hb,h=>by
  simp only[VRel,below,decide_eq_true_eq]at h hb⊢;obtain⟨a,c,hu,hn,_,h⟩:=h;exact⟨a,c,hu,hn,hb,h⟩
 |.mp _,u,hb,h=>by
  simp only[VRel,below,decide_eq_true_eq]at h hb⊢;obtain⟨b,hu,_,h⟩:=h;exact⟨b,hu,hb,h⟩
 |.ifc t d,u,hb,h=>by
  simp only[VRel,below]at h hb⊢;obtain⟨x,rfl,h⟩:=h;exact⟨x,rfl,VRel.trim hb h⟩
 |.fn f first caps,u,hb,h=>by
  simp only[VRel,below,laa]at h hb⊢;obtain⟨fs,cs,rfl,h1,h2⟩:=h;exact⟨fs,cs,rfl,VsRel.trim hb.1 h1,VsRel.trim hb.2 h2⟩
 |.dead,u,_,h=>by simp[VRel]
theorem VsRel.trim{G:Gh}{w:World}{k:Nat}:∀{l:List D}{us:List Value},belows k l=true->VsRel G w l us->VsRel (G.trim k) w l us
 |[],us,_,h=>by simpa [VsRel] using h
 |d::l,us,hb,h=>by
  simp only[VsRel,belows,laa]at h hb⊢;obtain⟨u,r,rfl,h1,h2⟩:=h;exact⟨u,r,rfl,VRel.trim hb.1 h1,VsRel.trim hb.2 h2⟩
theorem Sa.trim{G:Gh}{w:World}{k b S:Nat}:∀{l:List D}{off:Nat},belows k l=true->Sa G w b S l off->Sa (G.trim k) w b S l off
 |[],off,_,h=>by simp[Sa]
 |d::l,off,hb,h=>by
  simp only[Sa,belows,laa]at h hb⊢;obtain⟨⟨u,h1,h2,h3⟩,h4⟩:=h;exact⟨⟨u,VRel.trim hb.1 h1,h2,h3⟩,Sa.trim hb.2 h4⟩
end
theorem xd.trim{G:Gh}{w:World}{k:Nat}:∀{l:List (Value×D)}{es:List MapEntry},(l.all λe=>below k e.2)=true->xd G w l es->xd (G.trim k) w l es
 |[],es,_,h=>h
 |(q,d)::l,es,hb,h=>by
  simp only[List.all_cons,laa]at hb;obtain⟨e,r,h0,h1,h2,h3⟩:=h;exact⟨e,r,h0,h1,h2.trim hb.1,h3.trim hb.2⟩
theorem T.trim{c:C}{K:Exit->St->Prop}{s:St}(k:Nat) (hN:N<=k) (hk:k<=s.m.length) (ht:belows k s.t=true) (hm:(s.m.take k).all (Ent.below k)=true) (h:T P N c K ⟨s.t,s.m.take k⟩):T P N c K s:=by
 refine T.ghost (λG w a hN' hr=>?_) h;have hi:=hr.inv;have hget:∀(i:Nat) e,(s.m.take k)[i]?=some e->i<k/\s.m[i]?=some e:=by
  grind
 have hinv:Inv (G.trim k) w (s.m.take k):=by
  refine⟨by grind[Gh.trim],hi.F,λi e he=>?_,λi j e e' he he' hl hl' b hb hb'=>hi.apart i j e e' (hget i e he).2 (hget j e' he').2 hl hl' b hb hb',hi.gl.bare λ_ h=>h⟩;have hbe:e.below k=true:=Oaa.1 hm e (List.mem_of_getElem? he);have hent:=hi.ent i e (hget i e he).2
  cases e with
  |live S Ja l=>
   obtain⟨a1,a2,a3,a4,a5⟩:=hent;refine⟨a1,a2,a3,a4,?_⟩;rcases a5 with a5|⟨b',cs,T,hb',hF,hblk,hsz,hrow⟩
   .exact .inl a5
   .exact .inr ⟨b',cs,T,hb',hF,hblk,hsz,hrow.trim (by grind[Ent.below])⟩
  |mp es=>
   obtain⟨a1,b,en,cl,a2,a3,a4,a5⟩:=hent;exact⟨a1,b,en,cl,a2,a3,a4,a5.trim (by grind[Ent.below])⟩
  |gone=>trivial
 refine⟨G.trim k,⟨hr.t.trim ht,hinv,hr.defers⟩,⟨λ_ h=>h,λ_ _=>rfl,hN,λi hi'=>.inl ⟨rfl,rfl,rfl,rfl,rfl⟩,rfl,rfl,rfl,oaa _,λ_ _ _=>rfl,λ_ _ h=>.inl h,?_⟩⟩;rintro b hb ⟨i,e,he,hl,hB⟩;exact⟨i,e,(hget i e he).2,hl,hB⟩
theorem T.n7{x:C}{K:Exit->St->Prop}{s:St}{X:Type}(S:X->St) (cu:X->Prop) (μ:X->Nat) (x₀:X) (h0:cu x₀) (ht:Tc s.t (S x₀).t) (hm:s.m=(S x₀).m)
 (hb:∀y,cu y->N<=(S y).m.length/\belows (S y).m.length (S y).t=true/\(S y).m.all (Ent.below (S y).m.length)=true)
 (round:∀y,cu y->T P N x (λe s'=>match e with|.normal=>∃z,cu z/\μ z<μ y/\Tc s'.t (S z).t/\∃g,s'.m=(S z).m++g|e=>K e s') (S y)):T P N (.loop x) K s:=by
 refine T.WV (J:=λy s'=>cu y/\Tc s'.t (S y).t/\∃g,s'.m=(S y).m++g) μ x₀ ⟨h0,ht,[],by grind⟩ ?_;rintro y s1 ⟨hg,hs1,g,hm1⟩;obtain⟨b1,b2,b3⟩:=hb y hg;refine T.sub (S y).t hs1 ?_;refine T.trim (S y).m.length b1 (by simp[hm1]) b2 (by simp_all) ?_;have hst:(⟨(S y).t,s1.m.take (S y).m.length⟩:St)=S y:=by
  simp_all
 grind
end
open Go.RowKit (Below)
theorem Aa{s s':St}{x:Operand}(h:∀t∈ie x,s'.t.getD t .dead=s.t.getD t .dead):s'.ev x=s.ev x:=by
 cases x<;>simp[St.ev]
 simp_all[ie]
theorem wH{s s':St}{f:Cal}(h:∀t∈f.tmps,s'.t.getD t .dead=s.t.getD t .dead):s'.cv f=s.cv f:=by
 cases f with
 |tmp t=>exact Aa (x:=.tmp t) λt' h'=>h t' (by grind[Cal.tmps,ie])
 |_=>rfl
theorem yn{s s':St}{d:Nat}{x:Option Operand}(h:∀t∈uB x,s'.t.getD t .dead=s.t.getD t .dead):bound s' d x=bound s d x:=by
 cases x with
 |none=>rfl
 |some y=>simp only[bound,Aa (s:=s) (s':=s') (x:=y) (λt ht=>h t ht)]
theorem Ry{s s':St}:∀{ps:List (Nat×Nat×Operand)}{l:List D},(∀t∈ps.flatMap (λp=>ie p.2.2),s'.t.getD t .dead=s.t.getD t .dead)->pq s' ps l=pq s ps l
 |[],l,h=>rfl
 |(o,n,x)::ps,l,h=>by
  simp only[pq,Aa (s:=s) (s':=s') (x:=x) (λt ht=>h t (by simp_all))];split
  .exact Ry λt ht=>h t (by simp_all)
  .rfl
theorem qt{s s':St}{S:Nat}:∀{ps:List (Nat×Operand)}{l:List D},(∀t∈ps.flatMap (λp=>ie p.2),s'.t.getD t .dead=s.t.getD t .dead)->Tl s' S ps l=Tl s S ps l
 |[],l,h=>rfl
 |(o,x)::ps,l,h=>by
  simp only[Tl,Aa (s:=s) (s':=s') (x:=x) (λt ht=>h t (by simp_all))];split
  .exact qt λt ht=>h t (by simp_all)
  .rfl
theorem map_congr{s s':St}:∀{l:List Operand},(∀t∈l.flatMap ie,s'.t.getD t .dead=s.t.getD t .dead)->l.map s'.ev=l.map s.ev
 |[],h=>rfl
 |x::l,h=>by
  simp only[Gaa,Aa (s:=s) (s':=s') (x:=x) (λt ht=>h t (by simp_all))];rw[map_congr λt ht=>h t (by simp_all)]
theorem zJ{s s':St}{g:Option (Tmp×Bool)}(h:∀t∈xG g,s'.t.getD t .dead=s.t.getD t .dead):gate s' g=gate s g:=by
 cases g with
 |none=>rfl
 |some p=>grind[gate,xG]
def Od:D->Option Nat
 |.ref i _ _ _=>some i
 |.own i _=>some i
 |.view i _ _ _=>some i
 |.mp i=>some i
 |_=>none
def I.KW:I->Option Operand
 |.load _ _ x|.slice _ x _ _ _|.iaddr _ x _|.len x|.mlook _ _ _ x _|.mlen x|.Gr _ x=>some x
 |_=>none
theorem vD{m m':List Ent}{d:D}(h:∀i,Od d=some i->m'[i]?=m[i]?):Bk m' d=Bk m d:=by
 unfold Bk;split<;>first|rfl|(rename_i id Ja;rw[h id rfl])|(rename_i id _ _ _;rw[h id rfl])
theorem GJ{S:Nat}{m m':List Ent}{d:D}{lo hi:Nat}(h:∀i,Od d=some i->m'[i]?=m[i]?):yq S m' d lo hi=yq S m d lo hi:=by
 unfold yq;split<;>first|rfl|(rename_i id Ja;rw[h id rfl])|(rename_i id Ja l0 n;rw[h id rfl])
theorem Sv{s s':St}{i:I}{d:D}(hc:i.cls<=1) (ht:∀t∈i.reads,s'.t.getD t .dead=s.t.getD t .dead) (hm:∀x id,i.KW=some x->Od (s.ev x)=some id->s'.m[id]?=s.m[id]?)
 {m1:List Ent} (he:la s i=some (d,m1)):m1=s.m/\la s' i=some (d,s'.m):=by
 cases i with
 |mv x=>
  grind[la,I.reads,Aa]
 |pick c a b=>
  simp only[la]at he⊢;rw[Aa (s:=s) (s':=s') (x:=c) (λt h=>ht t (by grind[I.reads])),Aa (s:=s) (s':=s') (x:=a) (λt h=>ht t (by grind[I.reads])),Aa (s:=s) (s':=s') (x:=b) (λt h=>ht t (by grind[I.reads]))];split at he
  all_goals simp_all
 |bin op x y=>
  simp only[la]at he⊢;rw[Aa (s:=s) (s':=s') (x:=x) (λt h=>ht t (by grind[I.reads])),Aa (s:=s) (s':=s') (x:=y) (λt h=>ht t (by grind[I.reads]))];split at he
  all_goals first|(simp_all;done)|(simp only[eaa,xaa]at he⊢;grind)|(simp_all;obtain⟨_,h1,h2,h3⟩:=he;exact⟨h3.symm,_,h1,h2⟩)
 |beq n x y=>
  simp only[la]at he⊢;rw[Aa (s:=s) (s':=s') (x:=x) (λt h=>ht t (by grind[I.reads])),Aa (s:=s) (s':=s') (x:=y) (λt h=>ht t (by grind[I.reads]))];split at he
  all_goals simp_all
 |un op x=>
  simp only[la]at he⊢;rw[Aa (s:=s) (s':=s') (x:=x) (λt h=>ht t (by grind[I.reads]))];split at he
  all_goals first|(simp_all;done)|(simp only[eaa,xaa]at he⊢;grind)|(simp_all;obtain⟨_,h1,h2,h3⟩:=he;exact⟨h3.symm,_,h1,h2⟩)
 |conv k x=>
  simp only[la]at he⊢;rw[Aa (s:=s) (s':=s') (x:=x) (λt h=>ht t (by grind[I.reads]))];split at he
  all_goals simp_all
 |build z ps=>
  simp only[la]at he⊢;rw[Ry (s:=s) (s':=s') (λt h=>ht t (by grind[I.reads]))]
  cases hb:pq s ps z with
  |none=>simp_all
  |some l=>grind
 |mkifc t x=>
  grind[la,I.reads,Aa]
 |tassert ok t z x=>
  simp only[la]at he⊢;rw[Aa (s:=s) (s':=s') (x:=x) (λt h=>ht t (by grind[I.reads]))]
  repeat' split at he
  all_goals simp_all
 |capn x=>
  simp only[la]at he⊢;rw[Aa (s:=s) (s':=s') (x:=x) (λt h=>ht t (by grind[I.reads]))]
  grind
 |Gr neg x=>
  simp only[la]at he⊢;rw[Aa (s:=s) (s':=s') (x:=x) (λt h=>ht t (by grind[I.reads]))];split at he
  .simp_all
  .simp_all
  .rename_i id Ja hx;rw[hm x id rfl (by rw[hx];rfl)];split at he
   all_goals simp_all
  simp_all
 |clr S z x=>grind[I.cls]
 |mkapp S b z x n=>grind[I.cls]
 |nilc x=>
  simp only[la]at he⊢;rw[Aa (s:=s) (s':=s') (x:=x) (λt h=>ht t (by grind[I.reads]))]
  grind
 |faddr A n o x=>
  simp only[la]at he⊢;rw[Aa (s:=s) (s':=s') (x:=x) (λt h=>ht t (by grind[I.reads]))];split at he
  all_goals first|(simp_all;done)|(simp only[eaa,xaa]at he⊢;grind)|(simp_all;obtain⟨_,h1,h2,h3⟩:=he;exact⟨h3.symm,_,h1,h2⟩)
 |field A n o x=>
  simp only[la]at he⊢;rw[Aa (s:=s) (s':=s') (x:=x) (λt h=>ht t (by grind[I.reads]))];split at he
  all_goals first|(simp_all;done)|(simp only[eaa,xaa]at he⊢;grind)|(simp_all;obtain⟨_,h1,h2,h3⟩:=he;exact⟨h3.symm,_,h1,h2⟩)
 |extract x k=>
  simp only[la]at he⊢;rw[Aa (s:=s) (s':=s') (x:=x) (λt h=>ht t (by grind[I.reads]))];split at he
  all_goals first|(simp_all;done)|(simp only[eaa,xaa]at he⊢;grind)|(simp_all;obtain⟨_,h1,h2,h3⟩:=he;exact⟨h3.symm,_,h1,h2⟩)
 |mkfunc f a b=>
  grind[la,I.reads,map_congr]
 |aaddr A S n x y=>
  simp only[la]at he⊢;rw[Aa (s:=s) (s':=s') (x:=x) (λt h=>ht t (by grind[I.reads])),Aa (s:=s) (s':=s') (x:=y) (λt h=>ht t (by grind[I.reads]))]
  repeat' split at he
  all_goals first|(simp_all;done)|(simp only[eaa,xaa]at he⊢;obtain⟨_,h1,rfl,rfl⟩:=he;exact⟨rfl,_,h1,by simp⟩)|(simp_all;grind)
 |index A S n x y=>
  simp only[la]at he⊢;rw[Aa (s:=s) (s':=s') (x:=x) (λt h=>ht t (by grind[I.reads])),Aa (s:=s) (s':=s') (x:=y) (λt h=>ht t (by grind[I.reads]))];split at he
  .split at he
   .rename_i hk;rw[if_pos hk];split at he
    .simp only[eaa,xaa]at he⊢
     grind
    simp_all
   simp_all
  simp_all
 |slen x=>
  simp only[la]at he⊢;rw[Aa (s:=s) (s':=s') (x:=x) (λt h=>ht t (by grind[I.reads]))];split at he
  all_goals simp_all
 |len x=>
  simp only[la]at he⊢;rw[Aa (s:=s) (s':=s') (x:=x) (λt h=>ht t (by grind[I.reads])),vD (λid h=>hm x id rfl h)]
  cases hb:Bk s.m (s.ev x)with
  |none=>simp_all
  |some l=>grind
 |slice S x lo hi mx=>
  simp only[la]at he⊢;rw[Aa (s:=s) (s':=s') (x:=x) (λt h=>ht t (by grind[I.reads])),vD (λid h=>hm x id rfl h)]
  cases hb:Bk s.m (s.ev x)with
  |none=>simp_all
  |some n=>
   simp only[hb]at he⊢;rw[yn (s:=s) (s':=s') (x:=lo) (λt h=>ht t (by grind[I.reads])),yn (s:=s) (s':=s') (x:=hi) (λt h=>ht t (by grind[I.reads])),yn (s:=s) (s':=s') (x:=mx) (λt h=>ht t (by grind[I.reads]))];split at he
   .rename_i l h k h1 h2 h3;(try simp only);rw[GJ (λid h=>hm x id rfl h)];split at he
    .rename_i hc;rw[if_pos hc]
     cases hs:yq S s.m (s.ev x) l h with
     |none=>simp_all
     |some r=>grind
    simp_all
   simp_all
 |iaddr S x y=>
  simp only[la]at he⊢;rw[Aa (s:=s) (s':=s') (x:=x) (λt h=>ht t (by grind[I.reads])),Aa (s:=s) (s':=s') (x:=y) (λt h=>ht t (by grind[I.reads]))];split at he
  .split at he
   .rename_i k hk;rw[if_pos hk];split at he
    .repeat' split at he
     all_goals first|(simp_all;done)|(simp only[eaa,xaa]at he⊢;obtain⟨_,h1,rfl,rfl⟩:=he;exact⟨rfl,_,h1,by simp⟩)|(simp_all;grind)
    .rename_i id Ja hx;(try simp only);rw[hm x id rfl (by rw[hx];rfl)]
     repeat' split at he
     all_goals simp_all
    .rename_i id Ja lo n hx;(try simp only);rw[hm x id rfl (by rw[hx];rfl)]
     repeat' split at he
     all_goals simp_all
    simp_all
   simp_all
  simp_all
 |load A n x=>
  simp only[la]at he⊢;rw[Aa (s:=s) (s':=s') (x:=x) (λt h=>ht t (by grind[I.reads]))];split at he
  .repeat' split at he
   all_goals grind
  .rename_i id Ja idx sub hx;(try simp only);rw[hm x id rfl (by rw[hx];rfl)];split at he
   .rename_i S ver' l hml;(try simp only);split at he
    .rename_i hv;rw[if_pos hv];simp only[pab]at he⊢;obtain⟨e,hl,he⟩:=he;split at he
     .rename_i hok;simp only[eaa,xaa]at he
      grind
     simp_all
    simp_all
   simp_all
  simp_all
 |alloc S z=>grind[I.cls]
 |box S x=>grind[I.cls]
 |bslice S n z ps=>grind[I.cls]
 |mkslice S b z l c=>grind[I.cls]
 |store n x y=>grind[I.cls]
 |append S b x y=>grind[I.cls]
 |fail=>grind[la]
 |mm b xs=>
  simp only[la]at he⊢;rw[map_congr (s:=s) (s':=s') (l:=xs) (λt h=>ht t (by grind[I.reads]))];split at he
  all_goals first|(simp_all;done)|(simp only[eaa,xaa]at he⊢;grind)|(simp_all;obtain⟨_,h1,h2,h3⟩:=he;exact⟨h3.symm,_,h1,h2⟩)
 |ceq n ks x y=>
  simp only[la]at he⊢;rw[Aa (s:=s) (s':=s') (x:=x) (λt h=>ht t (by grind[I.reads])),Aa (s:=s) (s':=s') (x:=y) (λt h=>ht t (by grind[I.reads]))];split at he
  all_goals first|(simp_all;done)|(simp only[eaa,xaa]at he⊢;grind)|(simp_all;obtain⟨_,h1,h2,h3⟩:=he;exact⟨h3.symm,_,h1,h2⟩)
 |strb S x=>grind[I.cls]
 |trunc S x lo hi=>grind[I.cls]
 |Zr x y=>
  simp only[la]at he⊢;rw[Aa (s:=s) (s':=s') (x:=x) (λt h=>ht t (by grind[I.reads])),Aa (s:=s) (s':=s') (x:=y) (λt h=>ht t (by grind[I.reads]))];split at he
  all_goals simp_all
 |sslice x lo hi=>
  simp only[la]at he⊢;rw[Aa (s:=s) (s':=s') (x:=x) (λt h=>ht t (by grind[I.reads]))];split at he
  all_goals grind[I.reads,yn]
 |mkmap=>grind[I.cls]
 |mput K m k x=>grind[I.cls]
 |mlook K ok z x k=>
  simp only[la]at he⊢;rw[Aa (s:=s) (s':=s') (x:=x) (λt h=>ht t (by grind[I.reads])),Aa (s:=s) (s':=s') (x:=k) (λt h=>ht t (by grind[I.reads]))];split at he
  .split at he
   .rename_i hk;rw[if_pos hk];split at he
    .grind
    .rename_i id hx;(try simp only);rw[hm x id rfl (by rw[hx];rfl)];split at he
     all_goals grind
    simp_all
   simp_all
  simp_all
 |mlen x=>
  simp only[la]at he⊢;rw[Aa (s:=s) (s':=s') (x:=x) (λt h=>ht t (by grind[I.reads]))];split at he
  .grind
  .rename_i id hx;(try simp only);rw[hm x id rfl (by rw[hx];rfl)];split at he
   all_goals simp_all
  simp_all
def Closed(bs:List (List Nat)) (L:Nat->Bool):Prop:=∀i b,bs[i]?=some b->L i=true->∀e∈b,L e=true
theorem xD(acc:List Nat) {L:Nat->Bool}(hacc:∀e,L e=true->∀j,(acc.getD e 0).testBit j=true->L j=true) :
 ∀(b:List Nat) (s:Nat),(∀e∈b,L e=true)->(∀j,s.testBit j=true->L j=true)->∀j,(b.foldl (λs e=>s ||| 2 ^ e ||| acc.getD e 0) s).testBit j=true->L j=true
 |[],s,_,hs,j,h=>hs j h
 |e::b,s,hb,hs,j,h=>by
  simp only[List.foldl_cons]at h;refine xD acc hacc b _ (λx hx=>hb x (by grind)) (λk hk=>?_) j h
  grind
theorem JE{bs:List (List Nat)}{L:Nat->Bool}(hL:Closed bs L):∀(k:Nat) (acc:List Nat),acc.length=k->(∀e,L e=true->∀j,(acc.getD e 0).testBit j=true->L j=true)->
 ∀e,L e=true->∀j,((fu acc (bs.drop k)).getD e 0).testBit j=true->L j=true:=by
 intro k;have main:∀(n k:Nat) (acc:List Nat),bs.length-k=n->acc.length=k->(∀e,L e=true->∀j,(acc.getD e 0).testBit j=true->L j=true)->
  ∀e,L e=true->∀j,((fu acc (bs.drop k)).getD e 0).testBit j=true->L j=true:=by
  intro n
  induction n with
  |zero=>
   intro k acc hn hl hacc e he j hj;rw[mac (by omega)]at hj;exact hacc e he j hj
  |succ n ih=>
   intro k acc hn hl hacc e he j hj;have hk:k<bs.length:=by omega
   rw[Taa hk]at hj;simp only[fu]at hj;refine ih (k+1) (acc++[wP acc bs[k]]) (by omega) (by grind) ?_ e he j hj;intro x hx y hy;rw[eac,List.getElem?_append]at hy;split at hy
   .exact hacc x hx y (by simp_all)
   .rename_i hlt;by_cases hxk:x=k
    .subst hxk;rw[hl,Nat.sub_self]at hy;simp only[List.getElem?_cons_zero,Option.getD_some]at hy;exact xD acc hacc _ 0 (λe' he'=>hL x _ (caa hk) hx e' he') (λj h=>by grind) y hy
    grind
 grind
theorem Lw{bs:List (List Nat)}{L:Nat->Bool}(hL:Closed bs L) {e j:Nat}(he:L e=true) (hj:((qv bs).getD e 0).testBit j=true):L j=true:=by
 have:=JE hL 0 [] rfl (λe _ j h=>by grind) e he j;simp only[List.drop_zero]at this;exact this hj
open Go.RowKit (Below)
theorem yM{m:List Ent}{d:D}{n:Nat}(h:Bk m d=some n) {id:Nat}(ht:Od d=some id):∃e,m[id]?=some e:=by
 unfold Bk at h
 grind[Od]
theorem MH{s:St}{i:I}{d:D}{m1:List Ent}(he:la s i=some (d,m1)) {x:Operand}{id:Nat}(hx:i.KW=some x) (ht:Od (s.ev x)=some id):∃e,s.m[id]?=some e:=by
 cases i<;>simp only[I.KW,reduceCtorEq,Maa]at hx<;>subst hx
 .grind[la,Od]
 all_goals grind[la,Od,yM,eaa]
section
variable (dst:Nat->Option Tmp) (dd:Nat->D) (xx:Nat->List Ent) (L:Nat->Bool)
def tS(t0:List D):Nat->List D
 |0=>t0
 |n+1=>if L n then(match dst n with|some y=>(tS t0 n).set y (dd n)|none=>tS t0 n)else tS t0 n
def mS(m0:List Ent):Nat->List Ent
 |0=>m0
 |n+1=>if L n then mS m0 n++xx n else mS m0 n
end
section
variable {dst:Nat->Option Tmp} {dd:Nat->D} {xx:Nat->List Ent} {L:Nat->Bool}
theorem vu(t0:List D):∀n,(tS dst dd L t0 n).length=t0.length
 |0=>rfl
 |n+1=>by
  simp only[tS];split
  .split
   .simp[vu t0 n]
   .exact vu t0 n
  .exact vu t0 n
theorem dR(t0:List D) (n y:Nat):(tS dst dd L t0 (n+1)).getD y .dead=if L n=true/\dst n=some y/\y<t0.length then dd n else(tS dst dd L t0 n).getD y .dead:=by
 simp only[tS];by_cases hL:L n=true
 .rw[if_pos hL]
  cases hd:dst n with
  |none=>simp
  |some z=>
   simp only;rw[eac,Hac];by_cases hz:z=y
   .subst hz;rw[if_pos rfl,vu]
    grind[vu]
   simp_all
 simp_all
theorem eR(t0:List D) {i y:Nat}:∀{q:Nat},i<=q->(∀j,j<q->dst j=some y->(L j=true↔j<i))->(tS dst dd L t0 q).getD y .dead=(tS dst dd (λ_=>true) t0 i).getD y .dead:=by
 have h1:∀n,n<=i->(∀j,j<n->dst j=some y->L j=true)->(tS dst dd L t0 n).getD y .dead=(tS dst dd (λ_=>true) t0 n).getD y .dead:=by
  intro n
  induction n with
  |zero=>intro _ _;rfl
  |succ n ih=>
   grind[dR]
 intro q
 induction q with
 |zero=>simp_all
 |succ q ih=>
  intro hi h;by_cases hq:i=q+1
  .simp_all
  .rw[dR,if_neg ?_]
   all_goals grind
theorem CF(m0:List Ent):∀(q:Nat),(∀i j,i<j->j<q->xx i≠[]->xx j≠[]->L j=true->L i=true)->∃k,k<=q/\mS xx L m0 q=mS xx (λ_=>true) m0 k
 |0,_=>⟨0,oaa _,rfl⟩
 |q+1,h=>by
  obtain⟨k,hk,he⟩:=CF m0 q λi j hij hj=>h i j hij (by omega);by_cases hx:xx q=[]
  .grind[mS]
  .by_cases hL:L q=true
   .refine⟨q+1,oaa _,?_⟩;have hall:∀n,n<=q->mS xx L m0 n=mS xx (λ_=>true) m0 n:=by
     intro n
     induction n with
     |zero=>intro _;rfl
     |succ n ih=>
      grind[mS]
    simp_all[mS]
   grind[mS]
theorem NK(m0:List Ent) {k i:Nat}(h:k<=i):∃r,mS xx (λ_=>true) m0 i=mS xx (λ_=>true) m0 k++r:=by
 induction i with
 |zero=>simp_all
 |succ i ih=>
  by_cases hk:k=i+1
  .simp_all
  grind[mS]
theorem vP(m0:List Ent) {i:Nat}:∀{q:Nat},i<=q->(∀j,j<q->xx j≠[]->(L j=true↔j<i))->mS xx L m0 q=mS xx (λ_=>true) m0 i:=by
 have h1:∀n,n<=i->(∀j,j<n->xx j≠[]->L j=true)->mS xx L m0 n=mS xx (λ_=>true) m0 n:=by
  intro n
  induction n with
  |zero=>intro _ _;rfl
  |succ n ih=>
   grind[mS]
 intro q
 induction q with
 |zero=>simp_all
 |succ q ih=>
  grind[mS]
theorem dV(t0:List D) {L':Nat->Bool}{i:Nat}(hi:L i=false) (hL':∀j,L' j=(L j || j==i)):∀{q:Nat},i<q->(∀j,i<j->j<q->∀y,dst i=some y->dst j=some y->L j=false)->
 tS dst dd L' t0 q=(match dst i with|some y=>(tS dst dd L t0 q).set y (dd i)|none=>tS dst dd L t0 q):=by
 have hlow:∀n,n<=i->tS dst dd L' t0 n=tS dst dd L t0 n:=by
  intro n
  induction n with
  |zero=>intro _;rfl
  |succ n ih=>
   grind[tS]
 intro q
 induction q with
 |zero=>omega
 |succ q ih=>
  intro hq hw;by_cases hqi:q=i
  .simp_all[tS]
  .have h1:L' q=L q:=by simp_all
   have ih':=ih (by omega) λj hj hjq=>hw j hj (by omega);simp only[tS,h1,ih']
   cases hdi:dst i with
   |none=>simp
   |some y=>
    simp only;split
    .rename_i hLq;split
     .rename_i z hz;have hne:y≠z:=by
       grind
      grind[wad]
     .rfl
    .rfl
theorem oT(m0:List Ent) {L':Nat->Bool}{i:Nat}(hi:L i=false) (hL':∀j,L' j=(L j || j==i)):∀{q:Nat},i<q->(∀j,i<j->j<q->xx i≠[]->xx j≠[]->L j=false)->
 mS xx L' m0 q=mS xx L m0 q++xx i:=by
 have hlow:∀n,n<=i->mS xx L' m0 n=mS xx L m0 n:=by
  intro n
  induction n with
  |zero=>intro _;rfl
  |succ n ih=>
   grind[mS]
 intro q
 induction q with
 |zero=>omega
 |succ q ih=>
  intro hq hw;by_cases hqi:q=i
  .simp_all[mS]
  .have h1:L' q=L q:=by simp_all
   have ih':=ih (by omega) λj hj hjq=>hw j hj (by omega);simp only[mS,h1,ih'];split
   .rename_i hLq;by_cases hxi:xx i=[]
    all_goals grind
   .rfl
end
section
variable {P:Program}
theorem filter_lt{L L':Nat->Bool}{i:Nat}(hi:L i=false) (hL':∀j,L' j=(L j || j==i)):∀{l:List Nat},i∈l->(l.filter λj=>!L' j).length<(l.filter λj=>!L j).length
 |[],h=>by cases h
 |a::l,h=>by
  have mono:∀l:List Nat,(l.filter λj=>!L' j).length<=(l.filter λj=>!L j).length:=by
   intro l
   induction l with
   |nil=>simp
   |cons b l ih=>
    grind
  by_cases ha:a=i
  .grind
  .have hin:i∈l:=by
    grind
   have ih:=filter_lt hi hL' hin
   grind
theorem Lv{ops:Array Oper}:∀{l:List Oper}{rl:List RI},vj P ops l=some rl->rl.length=l.length/\∀(i:Nat) o,l[i]?=some o->∃r,rl[i]?=some r/\qq P ops o=some r
 |[],rl,h=>by grind[vj]
 |o::l,rl,h=>by
  simp only[vj]at h;split at h
  .rename_i r rs h1 h2;injection h with h;subst h;obtain⟨g1,g2⟩:=Lv h2
   grind
  .cases h
theorem Sx{ops:Array Oper}{o:Oper}{r:RI}(h:qq P ops o=some r):r.dst=o.dst:=by
 unfold qq at h;split at h
 .cases h
 .split at h
  .injection h with h;subst h;rfl
  .simp only[eaa]at h;obtain⟨i,-,rfl⟩:=h;rfl
end
open Go.RowKit (Below)
section
variable {P:Program}
theorem wU{ops:Array Oper}{Q:Exit->Act->World->Prop}{K:St->Prop}{o:Oper}{r:RI}{rs:List RI}{s:St}{G:Gh}{w:World}{a:Act}(h1:qq P ops o=some r) (hK:Qk P (r::rs) K s) (hr:Rel G w a s)
 {i:Nat} (hi:ops[i]?=some o) {Kx:Act->World->Prop} (rest:∀{G':Gh} {w':World} {a':Act} {s':St},Qk P rs K s'->Rel G' w' a' s'->Step G w s.m G' w' s'.m->Kx a' w'):wpOp P ops Q i Kx a w:=by
 unfold wpOp;simp only[hi];unfold qq at h1;split at h1
 .grind
 .rename_i g hg;obtain⟨hgate1,hgate2⟩:=Rp hr hg;have doI:∀{i:I} {d:D} {m':List Ent},lr P ops o o.op=some i->la s i=some (d,m')->Qk P rs K ({ s with m:=m' }.put o.dst d)->o.wp P a w Kx Q:=by
   intro i d m' hi he hK';exact hr.cu (fE hi hr he) λG' w' u hr' hs'=>rest hK' hr' (by grind[EF])
  have skip:Qk P rs K (s.put o.dst (.v undef))->Kx (a.put o.dst undef) w:=λhK'=>rest hK' (RD hr o.dst) (by grind[EF,Step.refl]);split at h1
  .rename_i f args ho;injection h1 with h1;subst h1;simp only[Qk]at hK;split at hK
   .rename_i k first caps hfe
    have doC:CallT P k (first++args.map s.ev++caps) s.m (λd m'=>Qk P rs K ({ s with m:=m' }.put o.dst d))->o.wp P a w Kx Q:=by
     rintro⟨⟨fn,e1,e2,e3⟩,hcall⟩;obtain⟨fs,cs,hrun,hv1,hv2⟩:=Sz hr ho hfe e1 e2 e3;have hcalls:=hcall G w (fs++args.map a.eval++cs) ((hv1.append (Jy hr _)).append hv2) hr.inv;unfold Oper.wp;rw[hrun,Oper.upon_enter];refine hcalls.mono ?_;rintro e w' ⟨v,d,m',G',rfl,hK',hvd,hi',hs'⟩;exact rest hK' ((hr.step hs'.le hi').put o.dst hvd) (by grind[EF])
    grind
   grind
  .rename_i hno;simp only[eaa]at h1;obtain⟨i,hi,rfl⟩:=h1;simp only[Qk]at hK
   grind
theorem ZO{listed:Array Bool}{i j:Nat}(hi:i<listed.size) (d:Bool):(listed.setIfInBounds i true).getD j d=if j=i then true else listed.getD j d:=by
 simp only[uac,Array.getElem?_setIfInBounds]
 grind
theorem XA{ops:Array Oper}{i:Nat}{o:Oper}(h:ops[i]?=some o):(Gb ops)[i]?=some ((o.after.toList.filter λe=>Region.binds .any e).map (·.on)):=by
 grind[Gb]
structure TailFacts (bs:List (List Nat)) (rl:List RI) (q:Nat):Prop where
 len:bs.length=rl.length
 hq:q<=rl.length
 back:∀(i:Nat) b,bs[i]?=some b->∀e∈b,e<i
 tail:∀(i j:Nat),i<j->q<=j->j<rl.length->((qv bs).getD j 0).testBit i=true
theorem WG{bs:List (List Nat)}{rl:List RI}{cuts:List Nat}{q:Nat}(h:VG bs rl cuts q=true) :
 TailFacts bs rl q/\∀p∈cuts,∀(i j:Nat),i<p->p<=j->j<rl.length->((qv bs).getD j 0).testBit i=true:=by
 unfold VG at h;simp only[laa,beq_iff_eq,decide_eq_true_eq,Oaa,Tac,vac]at h;obtain⟨⟨⟨⟨h0,h1⟩,h2⟩,h3⟩,h4⟩:=h;refine⟨⟨h1,h2,?_,?_⟩,?_⟩
 .simp_all[yaa]
 all_goals grind
structure DrawFacts (bs:List (List Nat)) (rl:List RI) (q:Nat):Prop extends TailFacts bs rl q where
 cls:∀(j:Nat) y,j<q->rl[j]?=some y->y.cls<=2
 apart:∀(i j:Nat) x y,i<j->j<q->rl[i]?=some x->rl[j]?=some y->sK x y=true->((qv bs).getD j 0).testBit i=true
theorem dz{bs:List (List Nat)}{rl:List RI}{q:Nat}(h:JC bs rl q=true):DrawFacts bs rl q:=by
 unfold JC at h;simp only[laa,beq_iff_eq,decide_eq_true_eq,Oaa,Tac]at h;obtain⟨⟨⟨h1,h2⟩,h3⟩,h4⟩:=h;have hy:∀(j:Nat) y,rl[j]?=some y->j<rl.length:=λj y hj=>(yaa.1 hj).1;refine⟨⟨h1,h2,?_,?_⟩,?_,?_⟩
 rotate_left
 .grind
 rotate_right
 .simp_all[yaa]
 all_goals grind
section
variable {ops:Array Oper} {Q:Exit->Act->World->Prop} {K:St->Prop} {rl:List RI} {q:Nat}
def nh(listed:Array Bool):Nat->Bool:=λi=>listed.getD i false
theorem fw(hf:TailFacts (Gb ops) rl q) {listed:Array Bool}(hsz:listed.size=ops.size) (hcl:Closed (Gb ops) (nh listed)) {i:Nat}(hi:i∈Region.ready .any ops listed) :
 i<ops.size/\nh listed i=false/\(∀j,j≠i->((qv (Gb ops)).getD i 0).testBit j=true->nh listed j=true)/\Closed (Gb ops) (nh (listed.setIfInBounds i true))/\
 (∀j,nh (listed.setIfInBounds i true) j=(nh listed j || j==i)):=by
 obtain⟨h0,o,ho,hall⟩:=mem_ready.1 hi;have hlt:i<ops.size:=(Array.getElem?_eq_some_iff.1 ho).1;have hnot:nh listed i=false:=by
  grind[nh]
 have hset:∀j,nh (listed.setIfInBounds i true) j=(nh listed j || j==i):=by
  intro j;unfold nh;rw[ZO (by omega)]
  grind
 have hcl':Closed (Gb ops) (nh (listed.setIfInBounds i true)):=by
  intro j b hb hj e he;rw[hset]at hj⊢;simp only[vac,beq_iff_eq]at hj⊢;rcases hj with hj|hj
  .exact .inl (hcl j b hb hj e he)
  .subst hj;have hbo:=XA ho;rw[hb]at hbo;injection hbo with hbo;subst hbo;simp only[List.mem_map,List.mem_filter,Array.mem_toList_iff]at he;obtain⟨ed,⟨h1,h2⟩,rfl⟩:=he;exact .inl (hall ed h1 h2)
 refine⟨hlt,hnot,λj hne hj=>?_,hcl',hset⟩;have:=Lw hcl' (e:=i) (by simp_all) hj
 simp_all
theorem oB(hf:TailFacts (Gb ops) rl q) {listed:Array Bool}(hsz:listed.size=ops.size) (hno:Region.ready .any ops listed=[]):∀i,i<ops.size->nh listed i=true:=by
 intro i
 induction i using aac with
 |_ i ih=>
  intro hi;rcases hb:nh listed i with _|_
  .exfalso;have:i∈Region.ready .any ops listed:=by
    refine mem_ready.2 ⟨?_,ops[i],lab hi,λe he hbi=>?_⟩
    .grind[nh]
    .have hbo:=XA (lab hi);have hlt:=hf.back i _ hbo e.on (by
      grind)
     exact ih e.on hlt (by omega)
   simp_all
  .rfl
theorem sF(hc:vj P ops ops.toList=some rl) (hf:TailFacts (Gb ops) rl q) :
 ∀(n r:Nat) (fuel:Nat) (listed:Array Bool) (s:St) (G:Gh) (w:World) (a:Act),ops.size-r=n->n<=fuel->q<=r->r<=ops.size->listed.size=ops.size->(∀i,nh listed i=decide (i<r))->
  Qk P (rl.drop r) K s->Rel G w a s->(∀s' G' w' a',K s'->Rel G' w' a' s'->Step G w s.m G' w' s'.m->Q .normal a' w')->wpAny P .any ops Q fuel listed a w:=by
 obtain⟨hlen,hget⟩:=Lv hc;simp only[Pab]at hlen;have hclosed:∀(r:Nat) (L:Nat->Bool),(∀i,L i=decide (i<r))->Closed (Gb ops) L:=by
  intro r L hL i b hb hi e he;have:=hf.back i b hb e he
  grind
 intro n
 induction n with
 |zero=>
  intro r fuel listed s G w a hn hfuel hq hr hsz hL hK hrel hQ;have hrn:r=ops.size:=by omega
  have hnone:Region.ready .any ops listed=[]:=by
   cases hre:Region.ready .any ops listed with
   |nil=>rfl
   |cons i l=>
    obtain⟨h1,h2,-⟩:=fw hf hsz (hclosed r _ hL) (i:=i) (by simp_all)
    simp_all
  rw[mac (by omega)]at hK;have hend:=hQ s G w a hK hrel (Step.refl _ _ _)
  cases fuel with
  |zero=>exact⟨hnone,hend⟩
  |succ fuel=>exact⟨λ_=>hend,λi hi=>by simp_all⟩
 |succ n ih=>
  intro r fuel listed s G w a hn hfuel hq hr hsz hL hK hrel hQ
  cases fuel with
  |zero=>omega
  |succ fuel=>
   have hrlt:r<ops.size:=by omega
   refine⟨λhno=>?_,λi hi=>?_⟩
   .have:=oB hf hsz hno r hrlt
    simp_all
   .obtain⟨h1,h2,h3,h4,h5⟩:=fw hf hsz (hclosed r _ hL) hi;have hir:i=r:=by
     rw[hL]at h2;simp at h2;rcases Oab r i with h|h
     .have:=h3 r (by omega) (hf.tail r i h (by omega) (by omega))
      simp_all
     omega
    subst hir;have ho:ops[i]?=some ops[i]:=lab h1;obtain⟨ri,hri,hco⟩:=hget i ops[i] (by simp);have hri':rl.drop i=ri::rl.drop (i+1):=by
     grind[Taa]
    rw[hri']at hK;refine wU hco hK hrel ho λhK' hrel' hs'=>?_;refine ih (i+1) fuel (listed.setIfInBounds i true) _ _ _ _ (by omega) (by omega) (by omega) (by omega) (by simp[hsz]) (λj=>?_) hK' hrel' λs'' G'' w'' a'' k1 k2 k3=>hQ s'' G'' w'' a'' k1 k2 (hs'.trans k3)
    grind
theorem AI{dst:Nat->Option Tmp}{dd:Nat->D}{L L':Nat->Bool}(t0:List D):∀n,(∀j,j<n->L j=L' j)->tS dst dd L t0 n=tS dst dd L' t0 n
 |0,_=>rfl
 |n+1,h=>by simp only[tS,h n (by omega),AI t0 n λj hj=>h j (by omega)]
theorem fI{xx:Nat->List Ent}{L L':Nat->Bool}(m0:List Ent):∀n,(∀j,j<n->L j=L' j)->mS xx L m0 n=mS xx L' m0 n
 |0,_=>rfl
 |n+1,h=>by simp only[mS,h n (by omega),fI m0 n λj hj=>h j (by omega)]
theorem count_tail(q:Nat):∀n,((uaa n).filter λj=>!decide (j<q)).length=n-q
 |0=>by simp
 |n+1=>by
  rw[List.range_succ,List.filter_append,Iaa,count_tail q n]
  grind
theorem getD_some{l:List RI}{i:Nat}(h:i<l.length) (d:RI):l[i]?=some (l.getD i d):=by
 simp_all
end
end
section
variable {P:Program} {N:Nat}
section
variable {ops:Array Oper} {Q:Exit->Act->World->Prop} {K:St->Prop} {rl:List RI} {q:Nat}
end
end
section
variable (ww:Nat->Option (Nat×Ent)) (L:Nat->Bool)
def sS(m:List Ent):Nat->List Ent
 |0=>m
 |n+1=>if L n then(match ww n with|some (id,e)=>(sS m n).set id e|none=>sS m n)else sS m n
def bw(id:Nat):Nat->Option Ent
 |0=>none
 |n+1=>if L n then(match ww n with|some (j,e)=>if j=id then some e else bw id n|none=>bw id n)else bw id n
end
section
variable {ww:Nat->Option (Nat×Ent)} {L:Nat->Bool}
theorem tm(m:List Ent):∀n,(sS ww L m n).length=m.length
 |0=>rfl
 |n+1=>by
  simp only[sS]
  repeat' split
  all_goals simp[tm m n]
theorem aE(m:List Ent) (id:Nat):∀n,id<m.length->(sS ww L m n)[id]?=(match bw ww L id n with|some e=>some e|none=>m[id]?)
 |0,h=>rfl
 |n+1,h=>by
  simp only[sS,bw];split
  .split
   .rename_i j e hw;rw[Hac];by_cases hj:j=id
    .subst hj;rw[if_pos rfl,if_pos rfl,if_pos (by grind[tm])]
    .rw[if_neg hj,if_neg hj];exact aE m id n h
   .exact aE m id n h
  .exact aE m id n h
theorem FJ{id i:Nat}:∀{q:Nat},i<=q->(∀j,j<q->∀e,ww j=some (id,e)->(L j=true↔j<i))->bw ww L id q=bw ww (λ_=>true) id i:=by
 have h1:∀n,n<=i->(∀j,j<n->∀e,ww j=some (id,e)->L j=true)->bw ww L id n=bw ww (λ_=>true) id n:=by
  intro n
  induction n with
  |zero=>intro _ _;rfl
  |succ n ih=>
   grind[bw]
 intro q
 induction q with
 |zero=>
  simp_all
 |succ q ih=>
  grind[bw]
theorem WJ(m x:List Ent):∀n,(∀j,j<n->L j=true->∀id e,ww j=some (id,e)->id<m.length)->sS ww L (m++x) n=sS ww L m n++x
 |0,_=>rfl
 |n+1,h=>by
  have ih:=WJ m x n λj hj=>h j (by omega);simp only[sS];split
  .rename_i hL;split
   all_goals grind[tm]
  omega
theorem zU(m:List Ent) {L':Nat->Bool}{i:Nat}(hi:L i=false) (hL':∀j,L' j=(L j || j==i)):∀{q:Nat},i<q->(∀j,i<j->j<q->L j=true->∀id e e',ww i=some (id,e)->ww j≠some (id,e'))->
 sS ww L' m q=(match ww i with|some (id,e)=>(sS ww L m q).set id e|none=>sS ww L m q):=by
 have hlow:∀n,n<=i->sS ww L' m n=sS ww L m n:=by
  intro n
  induction n with
  |zero=>intro _;rfl
  |succ n ih=>
   grind[sS]
 intro q
 induction q with
 |zero=>omega
 |succ q ih=>
  intro hq hw;by_cases hqi:q=i
  .simp_all[sS]
  .have h1:L' q=L q:=by simp_all
   have ih':=ih (by omega) λj hj hjq=>hw j hj (by omega);simp only[sS,h1,ih']
   cases hdi:ww i with
   |none=>simp
   |some p=>
    obtain⟨id,e⟩:=p;simp only;split
    .rename_i hLq;split
     .rename_i id' e' hz;have hne:id≠id':=by
       grind
      grind[wad]
     .rfl
    .rfl
end
def I.jN:I->Option Operand
 |.store _ x _=>some x
 |.trunc _ x _ _=>some x
 |.append _ _ x _=>some x
 |_=>none
def I.src:I->Option Operand
 |.append _ _ _ y=>some y
 |_=>none
def Qe(s:St):I->Bool
 |.trunc _ x _ _=>match s.ev x with|.own ..=>true|_=>false
 |.append _ _ x _=>match s.ev x with|.own ..=>true|_=>false
 |_=>true
theorem uC{i:I}{x:Operand}(h:i.jN=some x):i.cls=3/\((∃n y,i=.store n x y)\/(∃S lo hi,i=.trunc S x lo hi)\/∃S b y,i=.append S b x y):=by
 cases i<;>simp[I.jN]at h
 .subst h;exact⟨rfl,.inl ⟨_,_,rfl⟩⟩
 .subst h;exact⟨rfl,.inr (.inr ⟨_,_,_,rfl⟩)⟩
 .subst h;exact⟨rfl,.inr (.inl ⟨_,_,_,rfl⟩)⟩
theorem sJ{s:St}{n:Nat}{x y:Operand}{d:D}{m1:List Ent}(he:la s (.store n x y)=some (d,m1)) :
 ∃id e,Od (s.ev x)=some id/\m1=s.m.set id e/\(∃e0,s.m[id]?=some e0)/\
  ∀s':St,(∀t∈(I.store n x y).reads,s'.t.getD t .dead=s.t.getD t .dead)->s'.m[id]?=s.m[id]?->la s' (.store n x y)=some (d,s'.m.set id e):=by
 simp only[la]at he;split at he
 .rename_i id Ja ix sub hx;split at he
  .rename_i S ver' l hm;split at he
   .rename_i hc;simp only[pab]at he;obtain⟨d0,h0,he⟩:=he;split at he
    .rename_i hc2;injection he with he;injection he with h1 h2;subst h1;subst h2;refine⟨id,_,by rw[hx];rfl,rfl,⟨_,hm⟩,λs' ht hm'=>?_⟩;have ex:s'.ev x=s.ev x:=Aa (λt h=>ht t (by grind[I.reads]));have ey:s'.ev y=s.ev y:=Aa (λt h=>ht t (by grind[I.reads]))
     simp_all[la]
    simp_all
   simp_all
  simp_all
 simp_all
theorem tJ{s:St}{S:Nat}{x:Operand}{lo hi:Option Operand}{d:D}{m1:List Ent}(hb:Qe s (.trunc S x lo hi)=true) (he:la s (.trunc S x lo hi)=some (d,m1)) :
 ∃id e,Od (s.ev x)=some id/\m1=s.m.set id e/\(∃e0,s.m[id]?=some e0)/\
  ∀s':St,(∀t∈(I.trunc S x lo hi).reads,s'.t.getD t .dead=s.t.getD t .dead)->s'.m[id]?=s.m[id]?->la s' (.trunc S x lo hi)=some (d,s'.m.set id e):=by
 simp only[Qe]at hb;split at hb
 .rename_i id Ja hx;simp only[la,hx]at he;split at he
  .rename_i S' ver' l hm;split at he
   .rename_i a h hlo hhi;split at he
    .rename_i hc;injection he with he;injection he with h1 h2;subst h1;subst h2;refine⟨id,_,by rw[hx];rfl,rfl,⟨_,hm⟩,λs' ht hm'=>?_⟩;have ex:s'.ev x=s.ev x:=Aa (λt h=>ht t (by grind[I.reads]));have e1:bound s' 0 lo=bound s 0 lo:=yn (λt h=>ht t (by grind[I.reads]));have e2:bound s' l.length hi=bound s l.length hi:=yn (λt h=>ht t (by grind[I.reads]))
     simp_all[la]
    simp_all
   simp_all
  simp_all
 simp_all
theorem FC{S:Nat}{m m':List Ent}{d:D}(h:∀id,Od d=some id->m'[id]?=m[id]?):contents S m' d=contents S m d:=by
 cases d with
 |own id v=>simp only[contents];rw[h _ rfl]
 |view id v a b=>simp only[contents];rw[h _ rfl]
 |v x=>simp only[contents];grind
 |_=>rfl
theorem uJ{s:St}{S b:Nat}{x y:Operand}{d:D}{m1:List Ent}(hb:Qe s (.append S b x y)=true) (he:la s (.append S b x y)=some (d,m1)) :
 ∃id e,Od (s.ev x)=some id/\m1=s.m.set id e/\(∃e0,s.m[id]?=some e0)/\
  ∀s':St,(∀t∈(I.append S b x y).reads,s'.t.getD t .dead=s.t.getD t .dead)->s'.m[id]?=s.m[id]?->(∀id',Od (s.ev y)=some id'->s'.m[id']?=s.m[id']?)->la s' (.append S b x y)=some (d,s'.m.set id e):=by
 simp only[Qe]at hb;split at hb
 .rename_i id Ja hx;simp only[la,hx]at he;split at he
  .rename_i r hr;split at he
   .rename_i S' ver' l hm;split at he
    .rename_i hc;injection he with he;injection he with h1 h2;subst h1;subst h2;refine⟨id,_,by rw[hx];rfl,rfl,⟨_,hm⟩,λs' ht hm' hs=>?_⟩;have ex:s'.ev x=s.ev x:=Aa (λt h=>ht t (by grind[I.reads]));have ey:s'.ev y=s.ev y:=Aa (λt h=>ht t (by grind[I.reads]));simp only[la,ex,hx,hm',hm,ey,FC hs,hr]
     simp_all
    simp_all
   simp_all
  simp_all
 simp_all
theorem vF{s:St}{i:I}{x:Operand}{d:D}{m1:List Ent}(ht:i.jN=some x) (hb:Qe s i=true) (he:la s i=some (d,m1)) :
 ∃id e,Od (s.ev x)=some id/\m1=s.m.set id e/\(∃e0,s.m[id]?=some e0)/\
  (∀s':St,(∀t∈i.reads,s'.t.getD t .dead=s.t.getD t .dead)->s'.m[id]?=s.m[id]?->(∀y,i.src=some y->∀id',Od (s.ev y)=some id'->s'.m[id']?=s.m[id']?)->la s' i=some (d,s'.m.set id e)):=by
 rcases(uC ht).2 with⟨n,y,rfl⟩|⟨S,lo,hi,rfl⟩|⟨S,b,y,rfl⟩
 .grind[sJ]
 .grind[tJ]
 .obtain⟨id,e,h1,h2,h3,h4⟩:=uJ hb he;exact⟨id,e,h1,h2,h3,λs' k1 k2 k3=>h4 s' k1 k2 (k3 y rfl)⟩
theorem vG{s:St}{i:I}{y:Operand}{d:D}{m1:List Ent}(hs:i.src=some y) (he:la s i=some (d,m1)) {id:Nat}(h:Od (s.ev y)=some id):∃e,s.m[id]?=some e:=by
 obtain⟨S,b,x,rfl⟩:∃S b x,i=.append S b x y:=by cases i<;>simp[I.src]at hs;simp_all
 simp only[la]at he;split at he
 .rename_i r hr
  cases hy:s.ev y with
  |own a b=>grind[Od,contents]
  |view a b c e=>grind[Od,contents]
  |ref a b c e=>grind[contents]
  |mp a=>grind[contents]
  |_=>rw[hy]at h;simp[Od]at h
 simp_all
theorem kN{i:I}{x:Operand}(ht:i.jN=some x):∀t∈ie x,t∈i.reads:=by
 rcases(uC ht).2 with⟨n,y,rfl⟩|⟨S,lo,hi,rfl⟩|⟨S,b,y,rfl⟩<;>intro t h<;>simp[I.reads,h]
theorem kK{i:I}{x:Operand}(ht:i.jN=some x):i.KW=none:=by
 rcases(uC ht).2 with⟨n,y,rfl⟩|⟨S,lo,hi,rfl⟩|⟨S,b,y,rfl⟩<;>rfl
theorem cB{s s':St}{i:I}{d:D}(hc:i.cls=2) (ht:∀t∈i.reads,s'.t.getD t .dead=s.t.getD t .dead) (hm:s'.m.length=s.m.length) {m1:List Ent}(he:la s i=some (d,m1)) :
 ∃e,m1=s.m++[e]/\la s' i=some (d,s'.m++[e]):=by
 cases i with
 |alloc S z=>
  simp only[la,Maa,xaa]at he⊢
  simp_all
 |box S x=>
  simp only[la]at he⊢;rw[Aa (s:=s) (s':=s') (x:=x) (λt h=>ht t (by grind[I.reads]))]
  simp_all
 |bslice S n z ps=>
  grind[la,I.reads,qt,eaa]
 |mkslice S b z l c=>
  simp only[la]at he⊢;rw[Aa (s:=s) (s':=s') (x:=l) (λt h=>ht t (by grind[I.reads])),Aa (s:=s) (s':=s') (x:=c) (λt h=>ht t (by grind[I.reads]))]
  grind
 |mkmap=>
  simp only[la,Maa,xaa]at he⊢
  simp_all
 |_=>simp[I.cls]at hc
mutual
def zk:D->List Nat
 |.agg l=>qj l
 |.tup l=>qj l
 |.sl _ l=>qj l
 |.pt d=>zk d
 |.fn _ a b=>qj a++qj b
 |.ifc _ d=>zk d
 |.own id _=>[id]
 |.view id _ _ _=>[id]
 |.ref id _ _ _=>[id]
 |.mp id=>[id]
 |.v _=>[]
 |.dead=>[]
def qj:List D->List Nat
 |[]=>[]
 |d::l=>zk d++qj l
end
mutual
theorem BG:∀{d:D},na d=true->zk d=[]
 |.v _,_=>rfl
 |.agg l,h=>by simp only[na]at h;simp only[zk,Ar h]
 |.tup l,h=>by simp only[na]at h;simp only[zk,Ar h]
 |.sl _ l,h=>by simp only[na]at h;simp only[zk,Ar h]
 |.pt d,h=>by simp only[na]at h;simp only[zk,BG h]
 |.fn _ a b,h=>by simp only[na,laa]at h;simp only[zk,Ar h.1,Ar h.2,Naa]
 |.ifc _ d,h=>by simp only[na]at h;simp only[zk,BG h]
 |.own ..,h=>by grind[na]
 |.view ..,h=>by grind[na]
 |.ref ..,h=>by grind[na]
 |.mp _,h=>by grind[na]
 |.dead,_=>rfl
theorem Ar:∀{l:List D},ia l=true->qj l=[]
 |[],_=>rfl
 |d::l,h=>by simp only[ia,laa]at h;simp only[qj,BG h.1,Ar h.2,Naa]
end
def Cb(s:St):List Operand->List Nat
 |[]=>[]
 |x::l=>zk (s.ev x)++Cb s l
theorem SA{s:St}:∀{l:List Operand},Cb s l=qj (l.map s.ev)
 |[]=>rfl
 |x::l=>by simp only[Cb,Gaa,qj,SA (l:=l)]
mutual
theorem nC{G:Gh}{w:World}{id:Nat}:∀{d:D}{u:Value},VRel G w d u->id∈zk d->id<G.n
 |.v x,u,h,hi=>by grind[zk]
 |.agg l,u,h,hi=>by
  simp only[VRel]at h;simp only[zk]at hi;obtain⟨cs,rfl,h,-⟩:=h;exact yr h hi
 |.tup l,u,h,hi=>by
  simp only[VRel]at h;simp only[zk]at hi;obtain⟨cs,rfl,h⟩:=h;exact yr h hi
 |.sl S l,u,h,hi=>by
  simp only[VRel]at h;simp only[zk]at hi;obtain⟨a,n,c,rfl,-,-,h|⟨b,off,rfl,-,h⟩⟩:=h
  .grind[qj]
  .exact zF h hi
 |.pt d,u,h,hi=>by
  simp only[VRel]at h;simp only[zk]at hi;obtain⟨b,off,x,rfl,-,h,-⟩:=h;exact nC h hi
 |.ref a b c e,u,h,hi=>by
  simp only[VRel]at h;grind[zk]
 |.own a b,u,h,hi=>by
  simp only[VRel]at h;grind[zk]
 |.view a b c e,u,h,hi=>by
  simp only[VRel]at h;grind[zk]
 |.fn f a b,u,h,hi=>by
  simp only[VRel]at h;simp only[zk,bab]at hi;obtain⟨fs,cs,rfl,h1,h2⟩:=h;rcases hi with hi|hi
  .exact yr h1 hi
  .exact yr h2 hi
 |.mp a,u,h,hi=>by
  simp only[VRel]at h;grind[zk]
 |.ifc t d,u,h,hi=>by
  simp only[VRel]at h;simp only[zk]at hi;obtain⟨x,rfl,h⟩:=h;exact nC h hi
 |.dead,u,h,hi=>by grind[zk]
theorem yr{G:Gh}{w:World}{id:Nat}:∀{l:List D}{us:List Value},VsRel G w l us->id∈qj l->id<G.n
 |[],us,h,hi=>by grind[qj]
 |d::l,us,h,hi=>by
  simp only[VsRel]at h;simp only[qj,bab]at hi;obtain⟨u,r,rfl,h1,h2⟩:=h;rcases hi with hi|hi
  .exact nC h1 hi
  .exact yr h2 hi
theorem zF{G:Gh}{w:World}{id b S:Nat}:∀{l:List D}{off:Nat},Sa G w b S l off->id∈qj l->id<G.n
 |[],off,h,hi=>by grind[qj]
 |d::l,off,h,hi=>by
  simp only[Sa]at h;simp only[qj,bab]at hi;obtain⟨⟨u,h1,-⟩,h2⟩:=h;rcases hi with hi|hi
  .exact nC h1 hi
  .exact zF h2 hi
end
def Aq(s:St):List Operand->List Nat
 |[]=>[]
 |x::l=>match Od (s.ev x)with|some id=>id::Aq s l|none=>Aq s l
def Jk(s:St):RI->List Nat
 |.op _ _ i=>
  match i.KW with
  |some x=>Aq s [x]
  |none=>match i.jN with|some x=>Aq s (x::i.src.toList)|none=>[]
 |.call _ _ _ args=>Cb s args
theorem iL{s:St}{x:Operand}{l:List Operand}{id:Nat}(h:Od (s.ev x)=some id):id∈Aq s (x::l):=by grind[Aq]
theorem oV{s:St}{x:Operand}{l:List Operand}{id:Nat}(h:id∈Aq s l):id∈Aq s (x::l):=by grind[Aq]
theorem CI{s:St}{x:Operand}{id:Nat}(h:Od (s.ev x)=some id):id∈Aq s [x]:=by grind[Aq]
abbrev Os:=List (D×List Ent×Option (Nat×Ent))
def M8:D×List Ent×Option (Nat×Ent):=(.dead,[],none)
def eL:RI:=.op none none (.mv (.const undef))
def Jt(P:Program) (r:RI) (s:St) (d:D) (x:List Ent) (w:Option (Nat×Ent)):Prop:=
 match r with
 |.op _ g i=>((gate s g=some none\/∃c,gate s g=some (some (c,c)))/\
  ((w=none/\i.cls<=2/\la s i=some (d,s.m++x))\/(x=[]/\∃a id e,i.jN=some a/\Od (s.ev a)=some id/\w=some (id,e)/\la s i=some (d,s.m.set id e)/\id<s.m.length/\Qe s i=true)))\/
  ((∃c b,gate s g=some (some (c,b))/\c≠b)/\d=.v undef/\x=[]/\w=none)
 |.call _ g f args=>x=[]/\w=none/\
  ((∃k first caps,s.cv f=.fn k first caps/\(gate s g=some none\/∃c,gate s g=some (some (c,c)))/\(∀id∈Cb s args,id<s.m.length)/\∀m,(∀id∈Cb s args,m[id]?=s.m[id]?)->CallT P k (first++args.map s.ev++caps) m λd' m'=>d'=d/\m'=m)\/((∃c b,gate s g=some (some (c,b))/\c≠b)/\d=.v undef))
def wr(m:List Ent) (w:Option (Nat×Ent)):List Ent:=match w with|some (id,e)=>m.set id e|none=>m
def uj(s:St) (r:RI) (d:D) (x:List Ent) (w:Option (Nat×Ent)):St:=({ s with m:=wr s.m w++x }:St).put r.dst d
theorem yC(s:St) (r:RI) (d:D) (x:List Ent) (w:Option (Nat×Ent)):uj s r d x w=⟨(match r.dst with|some y=>s.t.set y d|none=>s.t),wr s.m w++x⟩:=by
 grind[uj,St.put]
section
variable {P:Program}
def VL(rl:List RI) (i:Nat):Option Tmp:=(rl.getD i eL).dst
def kX(os:Os) (i:Nat):D:=(os.getD i M8).1
def tE(os:Os) (i:Nat):List Ent:=(os.getD i M8).2.1
def nL(os:Os) (i:Nat):Option (Nat×Ent):=(os.getD i M8).2.2
def Ml(rl:List RI) (os:Os) (s:St) (L:Nat->Bool) (n:Nat):St:=
 ⟨tS (VL rl) (kX os) L s.t n,sS (nL os) L (mS (tE os) L s.m n) n⟩
theorem Jt.lt{r:RI}{s:St}{d:D}{x:List Ent}{w:Option (Nat×Ent)}(h:Jt P r s d x w) {id:Nat}{e:Ent}(hw:w=some (id,e)):id<s.m.length/\x=[]/\id∈Jk s r:=by
 subst hw
 cases r with
 |call dst g f args=>obtain⟨_,h,_⟩:=h;cases h
 |op dst g i=>
  rcases h with⟨_,⟨h,_⟩|⟨hx,a,id',e',ht,h1,h2,h3,h4,_⟩⟩|⟨_,_,_,h⟩
  all_goals grind[Jk,kK,iL]
theorem QJ{G:Gh}{w:World}{a:Act}{s:St}(hr:Rel G w a s) {x:Operand}{id:Nat}(h:Od (s.ev x)=some id):id<s.m.length:=by
 have hv:=hr.ev x;have hn:=hr.inv.n;generalize s.ev x=d at *;cases d<;>simp only[Od,reduceCtorEq,Maa]at h
 .subst h;simp only[VRel]at hv;omega
 .subst h;simp only[VRel]at hv;omega
 .subst h;simp only[VRel]at hv;omega
 .subst h;simp only[VRel]at hv;omega
theorem zS{ops:Array Oper}{o:Oper}{r:RI}(hc:qq P ops o=some r) {sc s:St}{d:D}{x:List Ent}{wt:Option (Nat×Ent)}(hf:Jt P r sc d x wt) (ht:∀t∈r.reads,s.t.getD t .dead=sc.t.getD t .dead)
 (hm:r.cls=2->s.m.length=sc.m.length) (hm1:∀(id:Nat),id∈Jk sc r->(∃e,sc.m[id]?=some e)->id<s.m.length->s.m[id]?=sc.m[id]?)
 {G:Gh} {w:World} {a:Act} (hr:Rel G w a s) {i:Nat} (hi:ops[i]?=some o) {Q:Exit->Act->World->Prop} {K:Act->World->Prop}
 (hK:∀G' w' a',Rel G' w' a' (uj s r d x wt)->Step G w s.m G' w' (wr s.m wt++x)->(∀id e,wt=some (id,e)->id<s.m.length)->K a' w'):wpOp P ops Q i K a w:=by
 have hdst:=Sx hc;unfold wpOp;simp only[hi];unfold qq at hc;split at hc
 .grind
 .rename_i g hg;obtain⟨hgate1,hgate2⟩:=Rp hr hg;have hgt:gate s g=gate sc g:=zJ (λt h=>ht t (by
   split at hc
   .grind[RI.reads]
   .simp only[eaa]at hc;obtain⟨i,-,rfl⟩:=hc
    grind[RI.reads]))
  have won:(gate sc g=some none\/∃c,gate sc g=some (some (c,c)))->Region.wanted o (yielded ops a.tmps)=true:=by
   grind
  have woff:(∃c b,gate sc g=some (some (c,b))/\c≠b)->Region.wanted o (yielded ops a.tmps)=false:=by
   grind
  have skip:d=.v undef->x=[]->wt=none->K (a.put o.dst undef) w:=by
   rintro rfl rfl rfl;refine hK G w _ ?_ (by rw[Naa];exact Step.refl _ _ _) (λ_ _ h=>by cases h);unfold uj;rw[hdst,Naa];exact RD hr o.dst
  split at hc
  .rename_i f args ho;injection hc with hc;subst hc;obtain⟨rfl,rfl,hf⟩:=hf;have hargs:args.map s.ev=args.map sc.ev:=map_congr (λt h=>ht t (by grind[RI.reads]));rcases hf with⟨k,first,caps,hfe,hon,hids,hcall⟩|⟨hoff,hd⟩
   .have hfe':s.cv f=.fn k first caps:=by grind[RI.reads,wH]
    rw[if_pos (won hon)];refine .inl ?_;obtain⟨⟨fn,e1,e2,e3⟩,hcc⟩:=hcall s.m λid hid=>by
     refine hm1 id hid ⟨_,caa (hids id hid)⟩ ?_;rw[SA,←hargs]at hid;rw[←hr.inv.n];exact yr (Jy hr _) hid
    obtain⟨fs,cs,hrun,hv1,hv2⟩:=Sz hr ho (HV hfe') e1 e2 e3;rw[←hargs]at hcc;have hcalls:=hcc G w (fs++args.map a.eval++cs) ((hv1.append (Jy hr _)).append hv2) hr.inv;unfold Oper.wp;rw[hrun,Oper.upon_enter];refine hcalls.mono ?_;rintro e w' ⟨v,d',m',G',rfl,⟨rfl,rfl⟩,hvd,hi',hs'⟩;refine hK G' w' _ ?_ (by rw[Naa];exact hs') (λ_ _ h=>by cases h);unfold uj;rw[Naa];exact(hr.step hs'.le hi').put o.dst hvd
   simp_all
  .rename_i hno;simp only[eaa]at hc;obtain⟨j,hj,rfl⟩:=hc;rcases hf with⟨hon,hev⟩|⟨hoff,hd,hx,hw⟩
   .rw[if_pos (won hon)];refine .inl ?_;have htj:∀t∈j.reads,s.t.getD t .dead=sc.t.getD t .dead:=λt h=>ht t (by grind[RI.reads]);have evj:∀y,(∀t∈ie y,t∈j.reads)->s.ev y=sc.ev y:=λy hy=>Aa (λt h=>htj t (hy t h));have hev':la s j=some (d,wr s.m wt++x)/\(∀id e,wt=some (id,e)->id<s.m.length):=by
     simp only[RI.cls]at hm;rcases hev with⟨rfl,hcls,hev⟩|⟨rfl,a1,id,e,htg,htop,rfl,hev,hlt,hsb⟩
     .refine⟨?_,λ_ _ h=>by cases h⟩;simp only[wr];by_cases h2:j.cls=2
      .grind[cB,List.append_cancel_left]
      .have h1:j.cls<=1:=by omega
       obtain⟨hxm,hres⟩:=Sv (s:=sc) (s':=s) h1 htj (λy id hy hid=>by
        have hevy:s.ev y=sc.ev y:=evj y (λt h=>by
         cases j<;>simp only[I.KW,reduceCtorEq,Maa]at hy<;>subst hy<;>simp[I.reads,h])
        grind[Jk,CI,MH,QJ]) hev
       simp_all
     .obtain⟨id',e',h1,h2,h3,h4⟩:=vF htg hsb hev;rw[htop]at h1;injection h1 with h1;subst h1;have hlt':id<s.m.length:=QJ hr (x:=a1) (by grind[kN]);have hee:e=e':=by
       have:=congrArg (λm=>m[id]?) h2
       grind
      subst hee;refine⟨?_,λid2 e2 h=>by simp_all⟩;rw[Naa];refine h4 s htj (hm1 id (by grind[Jk,kK,iL]) h3 hlt') λy hy id' hid'=>?_;have hey:s.ev y=sc.ev y:=evj y (by
       cases j<;>simp[I.src]at hy
       grind[I.reads])
      grind[Jk,kK,oV,CI,QJ,vG]
    exact hr.cu (fE hj hr hev'.1) λG' w' u hr' hs'=>hK G' w' _ hr' hs' hev'.2
   simp_all
end
def RI.TB(y:RI):Bool:=
 match y with
 |.op _ _ i=>decide (i.cls<=2) || i.jN.isSome
 |.call ..=>true
section
variable {P:Program} {ops:Array Oper} {Q:Exit->Act->World->Prop} {K:St->Prop} {rl:List RI} {q:Nat} {ps:List (List Nat)}
end
def nN:Nat->Nat->Bool
 |0,0=>false
 |0,_+1=>true
 |_+1,0=>true
 |a+1,b+1=>nN a b
theorem AP:∀{a b:Nat},nN a b=true->a≠b
 |0,0,h=>by grind[nN]
 |0,_+1,_=>by omega
 |_+1,0,_=>by omega
 |a+1,b+1,h=>by have:=AP (a:=a) (b:=b) h;omega
def Hv(a:Nat):List Nat->Bool
 |[]=>true
 |b::l=>nN a b&&Hv a l
def On:List Nat->List Nat->Bool
 |[],_=>true
 |a::l,r=>Hv a r&&On l r
theorem dF{a b:Nat}:∀{l:List Nat},Hv a l=true->b∈l->a≠b
 |[],_,h=>by cases h
 |c::l,h,hm=>by
  simp only[Hv,laa]at h;rcases gab.1 hm with rfl|hm
  .grind[AP]
  .exact dF h.2 hm
theorem fF{a:Nat}:∀{l r:List Nat},On l r=true->a∈l->a∉r
 |[],_,_,h=>by cases h
 |c::l,r,h,hm=>by
  simp only[On,laa]at h;rcases gab.1 hm with rfl|hm
  .exact λhr=>dF h.1 hr rfl
  .exact fF h.2 hm
def Ly(fp:List (List Nat)) (f:List Nat):List Nat->Bool
 |[]=>true
 |i::l=>On (fp.getD i []) f&&Ly fp f l
theorem dC{fp:List (List Nat)}{f:List Nat}{k:Nat}:∀{l:List Nat},Ly fp f l=true->k∈l->On (fp.getD k []) f=true
 |[],_,h=>by cases h
 |z::l,h,hm=>by
  simp only[Ly,laa]at h;rcases gab.1 hm with rfl|hm
  .grind
  .exact dC h.2 hm
def xv(P:Program):List (List Nat)->List (List Nat)->Nat->List RI->(St->Prop)->St->Prop
 |_,_,0,l,K,s=>Qk P l K s
 |_,_,_+1,[],_,_=>False
 |ps,fp,q+1,.op dst g i::l,K,s=>
  Ly fp (Jk s (.op dst g i)) (ps.headD [])=true/\
  match gate s g with
  |none=>False
  |some none=>∃d m',Qe s i=true/\la s i=some (d,m')/\xv P ps.tail (fp++[Jk s (.op dst g i)]) q l K ({ s with m:=m' }.put dst d)
  |some (some (c,b))=>(c=b->∃d m',Qe s i=true/\la s i=some (d,m')/\xv P ps.tail (fp++[Jk s (.op dst g i)]) q l K ({ s with m:=m' }.put dst d))/\(c≠b->xv P ps.tail (fp++[Jk s (.op dst g i)]) q l K (s.put dst (.v undef)))
 |ps,fp,q+1,.call dst g f args::l,K,s=>
  match s.cv f with
  |.fn k first caps=>
   match gate s g with
   |none=>False
   |some none=>Ly fp (Cb s args) (ps.headD [])=true/\∃d,((∀id∈Cb s args,id<s.m.length)/\∀m,(∀id∈Cb s args,m[id]?=s.m[id]?)->CallT P k (first++args.map s.ev++caps) m λd' m'=>d'=d/\m'=m)/\xv P ps.tail (fp++[Cb s args]) q l K (s.put dst d)
   |some (some (c,b))=>Ly fp (Cb s args) (ps.headD [])=true/\(c=b->∃d,((∀id∈Cb s args,id<s.m.length)/\∀m,(∀id∈Cb s args,m[id]?=s.m[id]?)->CallT P k (first++args.map s.ev++caps) m λd' m'=>d'=d/\m'=m)/\xv P ps.tail (fp++[Cb s args]) q l K (s.put dst d))/\(c≠b->xv P ps.tail (fp++[Cb s args]) q l K (s.put dst (.v undef)))
  |_=>False
section
variable {P:Program} {K:St->Prop}
end
section
variable {P:Program} {N:Nat} {ops:Array Oper} {Q:Exit->Act->World->Prop} {K:St->Prop} {rl:List RI} {q:Nat} {ps:List (List Nat)}
end
open Go.RowKit (Below)
theorem sA{G:Gh}{w:World}{m:List Ent}(hi:Inv G w m) {p S Ja:Nat}(hm:m[p]?=some (.live S Ja [])) (l:List D) (C:Nat) (cs:Array Value) (T:TypeId)
 (hr:xf G w S l cs) (hC:l.length<=C) (hcs:C*S<=cs.size) :
 Inv (G.He p (some w.heap.size) (Ja+1) l.length (C,0)) (w.alloc (.cells cs T)) (m.set p (.live S (Ja+1) l))/\
  Step G w m (G.He p (some w.heap.size) (Ja+1) l.length (C,0)) (w.alloc (.cells cs T)) (m.set p (.live S (Ja+1) l)):=by
 have hkeep:∀k,k<w.heap.size->(w.alloc (.cells cs T)).heap[k]?=w.heap[k]?:=λk hk=>Below.heap_alloc _ _ _ hk;obtain⟨hV,hS,-⟩:=hi.ent p _ hm;refine Ye hi hm rfl rfl _ _ _ _ (.inl (by omega)) rfl rfl rfl (by simp) (λk hk _=>hkeep k hk) (λk h=>by simp_all) ?_;have hle:Le G w (G.He p (some w.heap.size) (Ja+1) l.length (C,0)) (w.alloc (.cells cs T)):=by
  refine⟨λ_ h=>h,λk hk=>hkeep k (hi.F k hk),oaa _,λi _=>?_⟩
  grind[Gh.He]
 have hblk:(w.alloc (.cells cs T)).heap[w.heap.size]?=some (.cells cs T (0,0)):=by
  show(w.heap.push (.cells cs T))[w.heap.size]?=_;simp
 refine⟨by simp[Gh.He],by grind[Gh.He],by simp[Gh.He],by grind[Gh.He],.inr ⟨w.heap.size,cs,T,by simp[Gh.He],λh=>?_,hblk,by grind[Gh.He],by simpa [Gh.He] using nj hblk (hr.mono hle)⟩⟩;have:=hi.F _ h;omega
def Xk(s:St) (p:Nat):I->Option (D×Ent)
 |.alloc S z=>match s.m[p]? with
  |some (.live S' Ja [])=>if S'=S then some (.ref p (Ja+1) 0 0,.live S (Ja+1) [z])else none
  |_=>none
 |.box S x=>match s.m[p]? with
  |some (.live S' Ja [])=>if S'=S/\(s.ev x).ok=true/\(s.ev x).cells.length=S then some (.ref p (Ja+1) 0 0,.live S (Ja+1) [s.ev x])else none
  |_=>none
 |.bslice S n z ps=>match s.m[p]? with
  |some (.live S' Ja [])=>if S'=S then(Tl s S ps (gaa n z)).map λl=>(.own p (Ja+1),.live S (Ja+1) l)else none
  |_=>none
 |_=>none
section
variable {P:Program} {G:Gh} {w:World} {a:Act} {s:St} {d:D} {e:Ent} {p:Nat}
theorem pI{w':World}{C Ja b N:Nat}(hp:p<G.n):VRel (G.He p (some b) (Ja+1) N (C,0)) w' (.ref p (Ja+1) 0 0) (.pointer (some ⟨b,0,none⟩)):=by
 simp only[VRel];exact⟨_,rfl,by grind[Gh.He],by simp[Gh.He],λ_=>⟨b,by simp[Gh.He],by simp[Gh.He]⟩⟩
theorem QP{w':World}{C Ja b N:Nat}(hp:p<G.n):VRel (G.He p (some b) (Ja+1) N (C,0)) w' (.own p (Ja+1)) (.slice (some ⟨b,0,none⟩) N C):=by
 simp only[VRel];exact⟨_,_,_,rfl,by grind[Gh.He],by simp[Gh.He],λ_=>⟨by simp[Gh.He],by simp[Gh.He],by simp[Gh.He]⟩⟩
theorem xS(hr:Rel G w a s) {t:TypeId}{z:Value}{o:Oper}(ho:o.op=.alloc t) (hz:zeroOf P t=some z) (he:Xk s p (.alloc z.cells.size (leaf z))=some (d,e)) :
 Good G w s.m ((execOp a.eval o).run P w) d (s.m.set p e):=by
 simp only[Xk]at he;split at he
 .rename_i S' Ja hm;split at he
  .rename_i hS;subst hS;injection he with he;injection he with h1 h2;subst h1;subst h2;obtain⟨hz1,hz2,hz3,-⟩:=nk hz w;obtain⟨g1,g2⟩:=sA hr.inv hm [leaf z] 1 z.cells t (Nw (eu z hz2) rfl (SF hz2)) (by simp) (by simp);refine⟨_,_,_,?_,.inl ⟨_,rfl,pI (C:=1) (N:=1) (by rw[hr.inv.n];grind)⟩,g1,g2⟩
   simp_all[execOp,Instr.alloc,newVar,newRow]
  simp_all
 simp_all
theorem C1(hr:Rel G w a s) {t:TypeId}{x:Operand}{S:Nat}{o:Oper}(ho:o.op=.box t x) (he:Xk s p (.box S x)=some (d,e)) :
 Good G w s.m ((execOp a.eval o).run P w) d (s.m.set p e):=by
 simp only[Xk]at he;split at he
 .rename_i S' Ja hm;split at he
  .rename_i hc;obtain⟨rfl,hok,hlen⟩:=hc;injection he with he;injection he with h1 h2;subst h1;subst h2;have hx:=hr.ev x;obtain⟨hv,h1⟩:=hx.cells hok;have hsz:(a.eval x).cells.size=S':=by rw[←Pab,hv.length];omega
   obtain⟨g1,g2⟩:=sA hr.inv hm [s.ev x] 1 (a.eval x).cells t (Nw hx hsz (λj c hj=>h1 c (by grind))) (by simp) (by omega);refine⟨_,_,_,?_,.inl ⟨_,rfl,pI (C:=1) (N:=1) (by rw[hr.inv.n];grind)⟩,g1,g2⟩
   simp_all[execOp,Instr.box,newVar,newRow]
  simp_all
 simp_all
theorem JO(hr:Rel G w a s) {t e':TypeId}{n:Nat}{ps:Array (Nat×Operand)}{z:Value}{o:Oper}(ho:o.op=.buildSlice t n ps)
 (ht:P.underlying t=some (.slice e')) (hz:zeroOf P e'=some z) (hsmall:n*z.cells.size<=2 ^ 24) (he:Xk s p (.bslice z.cells.size n (leaf z) ps.toList)=some (d,e)) :
 Good G w s.m ((execOp a.eval o).run P w) d (s.m.set p e):=by
 simp only[Xk]at he;split at he
 .rename_i S' Ja hm;split at he
  .rename_i hS;subst hS;simp only[eaa,xaa]at he;obtain⟨l,hb,rfl,rfl⟩:=he;obtain⟨hz1,hz2,hz3,i,hi,hsz,hzz⟩:=nk hz w;obtain⟨cells,hf,hrow,hcs,hlen⟩:=yG hr hb (iq hz2 n) (by simp);simp only[List.length_replicate]at hlen;obtain⟨g1,g2⟩:=sA hr.inv hm l n cells e' hrow (by omega) (by simp_all);refine⟨_,_,_,?_,.inl ⟨_,rfl,QP (N:=l.length) (C:=n) (by rw[hr.inv.n];grind)⟩,g1,g2⟩;unfold execOp;simp only[ho];have hnb:¬(2 ^ 24<n*i.size):=by simp_all
   by_cases h0:n*i.size=0
   .have hn0:n=0:=by
     grind[Nat.mul_eq_zero]
    subst hn0;rw[hsz.symm]at hf;rw[Nat.zero_mul,show Iac 0 = #[]from rfl,Array.map_empty]at hf;have hf':Instr.fill (λk=>some (k*i.size,i.size)) #[] (ps.toList.map λp=>(p.1,a.eval p.2))=some cells:=hf;have hr0:∀f:Nat->Value,Array.map f (Iac 0) = #[]:=λf=>by simp
    simp[Instr.buildSlice,run_underlying ht,Zc hi,hr0,hf',newRow,hlen]
   .rw[hsz.symm]at hf;simp[Instr.buildSlice,run_underlying ht,Zc hi,hnb,h0,hz1,hf,newRow,hlen,hsz.symm]
  simp_all
 simp_all
theorem fK{ops:Array Oper}{o:Oper}{i:I}(hc:lr P ops o o.op=some i) (hr:Rel G w a s) (he:Xk s p i=some (d,e)):Good G w s.m ((execOp a.eval o).run P w) d (s.m.set p e):=by
 cases i with
 |alloc S z=>
  obtain⟨t,z',ho,hz,rfl,rfl⟩:∃t z',o.op=.alloc t/\zeroOf P t=some z'/\z'.cells.size=S/\leaf z'=z:=by
   unfold lr at hc;split at hc
   .grind[dA,eaa]
   .unfold mF at hc
    repeat' split at hc
    all_goals first
     |cases hc
     |(
      simp only[eaa]at hc;obtain⟨z',hz,h⟩:=hc
      first|cases h|skip)
    simp_all
  grind[xS]
 |box S x=>
  obtain⟨t,ho⟩:∃t,o.op=.box t x:=by
   unfold lr at hc;split at hc
   .grind[dA,eaa]
   .unfold mF at hc
    grind[eaa]
  grind[C1]
 |bslice S n z ps=>
  obtain⟨t,e',ps',z',ho,ht,hz,hsmall,rfl,rfl,rfl⟩:∃t e' ps' z',o.op=.buildSlice t n ps'/\P.underlying t=some (.slice e')/\zeroOf P e'=some z'/\n*z'.cells.size<=2 ^ 24/\z'.cells.size=S/\leaf z'=z/\ps'.toList=ps:=by
   unfold lr at hc;split at hc
   .grind[dA,eaa]
   .unfold mF at hc
    repeat' split at hc
    all_goals first
     |(cases hc;exact⟨_,_,_,_,by omega,by omega,by omega,by omega,rfl,rfl,rfl⟩)
     |cases hc
     |(
      simp only[eaa]at hc;obtain⟨z',hz,h⟩:=hc;cases h)
  grind[JO]
 |_=>simp[Xk]at he
end
theorem QH{s s':St}{p:Nat}{i:I}(ht:∀t∈i.reads,s'.t.getD t .dead=s.t.getD t .dead) (hm:s'.m[p]?=s.m[p]?):Xk s' p i=Xk s p i:=by
 cases i with
 |alloc S z=>grind[Xk]
 |box S x=>
  grind[I.reads,Xk,Aa]
 |bslice S n z ps=>
  grind[I.reads,Xk,qt]
 |_=>rfl
theorem PH{s:St}{p:Nat}{i:I}{d:D}{e:Ent}(h:Xk s p i=some (d,e)):p<s.m.length:=by
 rcases Oab p s.m.length with h1|h1
 .omega
 .have hn:=List.getElem?_eq_none h1;cases i<;>simp[Xk,hn]at h
def yw:Option Nat->St->RI->List Nat
 |some p,_,.op ..=>[p]
 |some _,s,.call _ _ _ args=>Cb s args
 |none,s,r=>Jk s r
def Pk(P:Program) (o:Option Nat) (r:RI) (s:St) (d:D) (x:List Ent) (w:Option (Nat×Ent)):Prop:=
 match o with
 |none=>Jt P r s d x w
 |some p=>(∃dst i e,r=.op dst none i/\x=[]/\w=some (p,e)/\Xk s p i=some (d,e))\/
  (∃dst f args k first caps e,r=.call dst none f args/\x=[]/\w=some (p,e)/\s.cv f=.fn k first caps/\p∈Cb s args/\(∀id∈Cb s args,id<s.m.length)/\
   ∀m,(∀id∈Cb s args,m[id]?=s.m[id]?)->CallT P k (first++args.map s.ev++caps) m λd' m'=>d'=d/\m'=m.set p e)
def pO(pl:List (Option Nat)) (i:Nat):Option Nat:=pl.getD i none
theorem UK{pl:List (Option Nat)}{k:Nat}:(pl.drop k).headD none=pO pl k:=by
 simp_all[pO]
theorem tail_drop{pl:List (Option Nat)}{k:Nat}:(pl.drop k).tail=pl.drop (k+1):=by simp
theorem XV{xx:Nat->List Ent}{L:Nat->Bool}(m:List Ent):∀n,m.length<=(mS xx L m n).length
 |0=>oaa _
 |n+1=>by
  have:=XV (xx:=xx) (L:=L) m n
  grind[mS]
def Fv(P:Program):List (Option Nat)->List RI->St->Os->List (List Nat)->St->Prop
 |_,[],s,os,rs,s'=>os=[]/\rs=[]/\s'=s
 |pl,r::l,s,os,rs,s'=>∃d x w os' rs',os=(d,x,w)::os'/\rs=yw (pl.headD none) s r::rs'/\Pk P (pl.headD none) r s d x w/\Fv P pl.tail l (uj s r d x w) os' rs' s'
section
variable {P:Program}
theorem Fv.length:∀{l:List RI}{pl:List (Option Nat)}{s s':St}{os:Os}{rs:List (List Nat)},Fv P pl l s os rs s'->os.length=l.length
 |[],pl,s,s',os,rs,h=>by simp[h.1]
 |r::l,pl,s,s',os,rs,h=>by
  obtain⟨d,x,w,os',rs',rfl,rfl,_,h⟩:=h;simp[Fv.length h]
theorem Pk.lt{o:Option Nat}{r:RI}{s:St}{d:D}{x:List Ent}{w:Option (Nat×Ent)}(h:Pk P o r s d x w) {id:Nat}{e:Ent}(hw:w=some (id,e)):id<s.m.length/\x=[]/\id∈yw o s r:=by
 cases o with
 |none=>exact Jt.lt h hw
 |some p=>
  rcases h with⟨dst,i,e',rfl,hx,hw',hf⟩|⟨dst,f,args,k,first,caps,e',rfl,hx,hw',hf,hp,hl,_⟩
  .rw[hw']at hw;injection hw with hw;injection hw with h1 h2;subst h1;exact⟨PH hf,hx,by simp[yw]⟩
  .rw[hw']at hw;injection hw with hw;injection hw with h1 h2;subst h1;exact⟨hl _ hp,hx,hp⟩
theorem Fv.get{pl:List (Option Nat)}{rl:List RI}{os:Os}{s0:St}:∀{l:List RI}{k:Nat}{s':St}{os':Os}{rs:List (List Nat)},l=(rl.drop k).take l.length->os'=(os.drop k).take os'.length->
 (∀j,j<k->∀id e,nL os j=some (id,e)->id<(mS (tE os) (λ_=>true) s0.m k).length)->Fv P (pl.drop k) l (Ml rl os s0 (λ_=>true) k) os' rs s'->
 (∀i,i<l.length->Pk P (pO pl (k+i)) (rl.getD (k+i) eL) (Ml rl os s0 (λ_=>true) (k+i)) (kX os (k+i)) (tE os (k+i)) (nL os (k+i))/\rs.getD i []=yw (pO pl (k+i)) (Ml rl os s0 (λ_=>true) (k+i)) (rl.getD (k+i) eL))/\s'=Ml rl os s0 (λ_=>true) (k+l.length)
 |[],k,s',os',rs,_,_,_,h=>⟨λi hi=>by grind,by simpa using h.2.2⟩
 |r::l,k,s',os',rs,h1,h2,hv,h=>by
  obtain⟨d,x,w,os'',rs',rfl,rfl,hs,h⟩:=h;rw[UK]at hs;rw[tail_drop]at h;have hr:rl[k]?=some r:=by
   have:=congrArg (λl=>l[0]?) h1
   grind
  have ho:os[k]?=some (d,x,w):=by
   have:=congrArg (λl=>l[0]?) h2
   grind
  have hr':rl.getD k eL=r:=by simp_all
  have ho':os.getD k M8=(d,x,w):=by simp_all
  have hd:kX os k=d:=by grind[kX]
  have hx:tE os k=x:=by grind[tE]
  have hw:nL os k=w:=by grind[nL]
  have hds:VL rl k=r.dst:=by grind[VL]
  have hm1:mS (tE os) (λ_=>true) s0.m (k+1)=mS (tE os) (λ_=>true) s0.m k++x:=by grind[mS]
  have hnext:uj (Ml rl os s0 (λ_=>true) k) r d x w=Ml rl os s0 (λ_=>true) (k+1):=by
   rw[yC];simp only[Ml,tS,if_true,St.mk.injEq];refine⟨by grind,?_⟩;rw[hm1];simp only[sS,if_true,hw];rw[WJ _ _ _ λj hj _ id e he=>hv j hj id e he]
   cases w with
   |none=>rfl
   |some p=>
    obtain⟨id,e⟩:=p;obtain⟨_,hx0,_⟩:=hs.lt rfl
    grind[wr]
  have hv':∀j,j<k+1->∀id e,nL os j=some (id,e)->id<(mS (tE os) (λ_=>true) s0.m (k+1)).length:=by
   intro j hj id e he;rw[hm1,Iaa];by_cases hjk:j=k
   .subst hjk;rw[hw]at he;have:=(hs.lt he).1
    grind[Ml,tm]
   .have:=hv j (by omega) id e he;omega
  rw[hnext]at h;have t1:l=(rl.drop (k+1)).take l.length:=by
   grind[Taa]
  have t2:os''=(os.drop (k+1)).take os''.length:=by
   grind[Taa]
  obtain⟨g1,g2⟩:=Fv.get t1 t2 hv' h;refine⟨λi hi=>?_,by grind⟩
  cases i with
  |zero=>simp only[Nat.add_zero,hr',hd,hx,hw];grind[UK]
  |succ i=>
   have:=g1 i (by grind)
   grind
theorem AS{ops:Array Oper}{o:Oper}{r:RI}(hc:qq P ops o=some r) {sc s:St}{d:D}{x:List Ent}{wt:Option (Nat×Ent)}{po:Option Nat}(hf:Pk P po r sc d x wt) (ht:∀t∈r.reads,s.t.getD t .dead=sc.t.getD t .dead)
 (hm:po=none->r.cls=2->s.m.length=sc.m.length) (hm1:∀(id:Nat),id∈yw po sc r->(∃e,sc.m[id]?=some e)->id<s.m.length->s.m[id]?=sc.m[id]?) (hlen:∀p,po=some p->p<s.m.length)
 {G:Gh} {w:World} {a:Act} (hr:Rel G w a s) {i:Nat} (hi:ops[i]?=some o) {Q:Exit->Act->World->Prop} {K:Act->World->Prop}
 (hK:∀G' w' a',Rel G' w' a' (uj s r d x wt)->Step G w s.m G' w' (wr s.m wt++x)->(∀id e,wt=some (id,e)->id<s.m.length)->K a' w'):wpOp P ops Q i K a w:=by
 cases po with
 |none=>exact zS hc hf ht (hm rfl) hm1 hr hi hK
 |some p=>
  rcases hf with⟨dst,j,e,rfl,rfl,rfl,hfill⟩|⟨dst,f,args,k,first,caps,e,rfl,rfl,rfl,hfe,hpt,hids,hcall⟩
  rotate_left
  .have hdst:=Sx hc;have hp:=hlen p rfl;unfold wpOp;simp only[hi];unfold qq at hc;split at hc
   .grind
   .rename_i g hg;split at hc
    .rename_i f' args' ho;injection hc with hc;injection hc with h1 h2 h3 h4;subst h2;subst h3;subst h4;obtain⟨hgate1,hgate2⟩:=Rp hr hg;rw[if_pos (hgate1 rfl o rfl)];refine .inl ?_;have hfe':s.cv f'=.fn k first caps:=by grind[RI.reads,wH]
     have hargs:args'.map s.ev=args'.map sc.ev:=map_congr (λt h=>ht t (by grind[RI.reads]));obtain⟨⟨fn,e1,e2,e3⟩,hcc⟩:=hcall s.m λid hid=>by
      refine hm1 id hid ⟨_,caa (hids id hid)⟩ ?_;rw[SA,←hargs]at hid;rw[←hr.inv.n];exact yr (Jy hr _) hid
     obtain⟨fs,cs,hrun,hv1,hv2⟩:=Sz hr ho (HV hfe') e1 e2 e3;rw[←hargs]at hcc;have hcalls:=hcc G w (fs++args'.map a.eval++cs) ((hv1.append (Jy hr _)).append hv2) hr.inv;unfold Oper.wp;rw[hrun,Oper.upon_enter];refine hcalls.mono ?_;rintro e0 w' ⟨v,d',m',G',rfl,⟨rfl,rfl⟩,hvd,hi',hs'⟩;refine hK G' w' _ ?_ (by grind[wr]) (λid e' h=>by simp_all);unfold uj;rw[Naa];rw[hdst];exact(hr.step hs'.le hi').put o.dst hvd
    simp_all
  have hdst:=Sx hc;have hp:=hlen p rfl;have hat:=PH hfill;have hfill':Xk s p j=some (d,e):=by
   grind[RI.reads,yw,QH]
  unfold wpOp;simp only[hi];unfold qq at hc;split at hc
  .grind
  .rename_i g hg;split at hc
   .simp_all
   .rename_i hno;simp only[eaa]at hc;obtain⟨j',hj,h⟩:=hc;injection h with h1 h2 h3;subst h2;subst h3;obtain⟨hgate1,hgate2⟩:=Rp hr hg;rw[if_pos (hgate1 rfl o rfl)];refine .inl ?_;exact hr.cu (fK hj hr hfill') λG' w' u hr' hs'=>hK G' w' _ (by grind[uj,wr]) (by grind[wr]) (λid e' h=>by simp_all)
end
def wB(o:Option Nat):RI->Bool
 |.op _ _ i=>o.isSome || i.jN.isSome
 |.call ..=>o.isSome
def lB(o:Option Nat):RI->Bool
 |.op _ _ i=>o.isSome || i.jN.isSome || i.KW.isSome
 |.call ..=>true
def Qt(o o':Option Nat) (x y:RI):Bool:=(wB o x&&lB o' y) || (wB o' y&&lB o x)
def tt(o o':Option Nat) (x y:RI):Bool:=
 (
  match x.dst with
  |some t=>y.reads.contains t || y.dst==some t
  |none=>false) ||
 (
  match y.dst with
  |some t=>x.reads.contains t
  |none=>false) ||
 (o.isNone&&o'.isNone&&x.cls==2&&y.cls==2)
def Js(bs:List (List Nat)) (rl:List RI) (q:Nat) (ps:List (List Nat)) (pl:List (Option Nat)):Bool:=
 let ms:=qv bs
 (uaa q).all λj=>match rl[j]? with
  |none=>false
  |some y=>((pO pl j).isSome || y.TB)&&(uaa j).all λi=>match rl[i]? with
   |none=>false
   |some x=>(ms.getD j 0).testBit i || (!tt (pO pl i) (pO pl j) x y&&(!Qt (pO pl i) (pO pl j) x y || (ps.getD j []).contains i))
structure DrawFactsO (bs:List (List Nat)) (rl:List RI) (q:Nat) (ps:List (List Nat)) (pl:List (Option Nat)):Prop extends TailFacts bs rl q where
 TB:∀(j:Nat) y,j<q->rl[j]?=some y->((pO pl j).isSome || y.TB)=true
 apart:∀(i j:Nat) x y,i<j->j<q->rl[i]?=some x->rl[j]?=some y->tt (pO pl i) (pO pl j) x y=true->((qv bs).getD j 0).testBit i=true
 pairs:∀(i j:Nat) x y,i<j->j<q->rl[i]?=some x->rl[j]?=some y->Qt (pO pl i) (pO pl j) x y=true->((qv bs).getD j 0).testBit i=true\/i∈ps.getD j []
theorem AE{bs:List (List Nat)}{rl:List RI}{q:Nat}{ps:List (List Nat)}{pl:List (Option Nat)}(ht:TailFacts bs rl q) (h:Js bs rl q ps pl=true):DrawFactsO bs rl q ps pl:=by
 unfold Js at h;simp only[Oaa,Tac]at h;refine⟨ht,?_,?_,?_⟩
 all_goals grind
section
variable {P:Program} {ops:Array Oper} {Q:Exit->Act->World->Prop} {K:St->Prop} {rl:List RI} {q:Nat} {ps:List (List Nat)} {pl:List (Option Nat)}
theorem GF{o o':Option Nat}{s:St}{x y:RI}{id:Nat}(hx:id∈yw o s x) (hy:wB o' y=true):Qt o o' x y=true:=by
 have h:lB o x=true:=by
  cases o with
  |some p=>cases x<;>simp[lB]
  |none=>
   cases x with
   |call=>rfl
   |op d g i=>
    grind[yw,Jk,lB]
 grind[Qt]
theorem eJ{o o':Option Nat}{x y:RI}:Qt o o' x y=Qt o' o y x:=by grind[Qt]
theorem Pk.wB{o:Option Nat}{r:RI}{s:St}{d:D}{x:List Ent}{p:Nat×Ent}(h:Pk P o r s d x (some p)):Go.Tm.wB o r=true:=by
 cases o with
 |some p=>cases r<;>rfl
 |none=>
  cases r with
  |call=>obtain⟨_,h,_⟩:=h;cases h
  |op d g i=>
   rcases h with⟨_,⟨h,_⟩|⟨_,a,_,_,h,_⟩⟩|⟨_,_,_,h⟩
   all_goals grind[Go.Tm.wB]
theorem gJ(hc:vj P ops ops.toList=some rl) (hf:DrawFactsO (Gb ops) rl q ps pl) {os:Os}{s0:St}
 (hflo:∀i,i<q->Pk P (pO pl i) (rl.getD i eL) (Ml rl os s0 (λ_=>true) i) (kX os i) (tE os i) (nL os i))
 (hpl:∀i p,pO pl i=some p->p<s0.m.length)
 (hmake:∀i,i<q->tE os i≠[]->(rl.getD i eL).cls=2/\pO pl i=none)
 (hap:∀i j,i<j->j<q->i∈ps.getD j []->∀id,id∈yw (pO pl i) (Ml rl os s0 (λ_=>true) i) (rl.getD i eL)->id∉yw (pO pl j) (Ml rl os s0 (λ_=>true) j) (rl.getD j eL))
 (hT:Qk P (rl.drop q) K (Ml rl os s0 (λ_=>true) q)) :
 ∀(fuel:Nat) (listed:Array Bool) (G:Gh) (w:World) (a:Act),((uaa ops.size).filter λj=>!nh listed j).length<=fuel->listed.size=ops.size->Closed (Gb ops) (nh listed)->
  (∀j,q<=j->nh listed j=false)->Rel G w a (Ml rl os s0 (nh listed) q)->(∀j,j<q->nh listed j=true->∀id e,nL os j=some (id,e)->id<(mS (tE os) (nh listed) s0.m q).length)->
  (∀s' G' w' a',K s'->Rel G' w' a' s'->Step G w (Ml rl os s0 (nh listed) q).m G' w' s'.m->Q .normal a' w')->wpAny P .any ops Q fuel listed a w:=by
 obtain⟨hlen,hget⟩:=Lv hc;simp only[Pab]at hlen;have hq:=hf.hq;have hcongr:∀{L L':Nat->Bool},(∀j,j<q->L j=L' j)->Ml rl os s0 L q=Ml rl os s0 L' q:=by
  intro L L' h;have hs:∀(m:List Ent) n,n<=q->sS (nL os) L m n=sS (nL os) L' m n:=by
   intro m n
   induction n with
   |zero=>intro _;rfl
   |succ n ih=>grind[sS]
  simp only[Ml,St.mk.injEq];exact⟨AI _ _ λj hj=>h j hj,by rw[fI _ _ λj hj=>h j hj,hs _ _ (oaa _)]⟩
 intro fuel
 induction fuel with
 |zero=>
  intro listed G w a hcard hsz hcl htail hrel hV hQ;have hall:∀i,i<ops.size->nh listed i=true:=by
   simp_all
  have hqn:q=ops.size:=by
   rcases Oab q ops.size with h|h
   all_goals grind
  have hst:Ml rl os s0 (nh listed) q=Ml rl os s0 (λ_=>true) q:=hcongr λj hj=>hall j (by omega);refine sF hc hf.toTailFacts 0 q 0 listed _ G w a (by omega) (oaa _) (oaa _) (by omega) hsz (λi=>?_) hT (by simp_all) (by grind)
  grind
 |succ fuel ih=>
  intro listed G w a hcard hsz hcl htail hrel hV hQ;by_cases hdone:∀j,j<q->nh listed j=true
  .have hst:Ml rl os s0 (nh listed) q=Ml rl os s0 (λ_=>true) q:=hcongr λj hj=>hdone j hj;have hL:∀i,nh listed i=decide (i<q):=λi=>by
    grind
   have hcnt:=count_tail q ops.size;simp only[hL]at hcard;exact sF hc hf.toTailFacts (ops.size-q) q (fuel+1) listed _ G w a rfl (by omega) (oaa _) (by omega) hsz hL hT (by simp_all) (by grind)
  .refine⟨λhno=>(hdone λj hj=>oB hf.toTailFacts hsz hno j (by omega)).elim,λi hi=>?_⟩;obtain⟨h1,h2,h3,h4,h5⟩:=fw hf.toTailFacts hsz hcl hi;have hiq:i<q:=by
    rcases Oab i q with h|h
    .exact h
    .exact(hdone λj hj=>h3 j (by omega) (hf.tail j i (by omega) h (by omega))).elim
   have hgd:∀j,j<q->rl[j]?=some (rl.getD j eL):=λj hj=>getD_some (by omega) _;obtain⟨r,hr,hco⟩:=hget i ops[i] (by simp);have hrr:rl.getD i eL=r:=by grind
   have early:∀j x,j<i->rl[j]?=some x->tt (pO pl j) (pO pl i) x r=true->nh listed j=true:=λj x hj hx hcl'=>h3 j (by omega) (hf.apart j i x r hj hiq hx hr hcl');have late:∀j y,i<j->j<q->rl[j]?=some y->tt (pO pl i) (pO pl j) r y=true->nh listed j=false:=by
    intro j y hj hjq hy hcl';rcases hb:nh listed j with _|_
    .rfl
    .have:=Lw hcl hb (hf.apart i j r y hj hjq hr hy hcl')
     grind
   have hF:=hflo i hiq;rw[hrr]at hF;have hclash2:∀(k l:Nat) (x y:RI),(x.cls=2/\pO pl k=none)->(y.cls=2/\pO pl l=none)->tt (pO pl k) (pO pl l) x y=true:=λk l x y hx hy=>by grind[tt]
   have ordered:∀j,j<q->∀id e,nL os j=some (id,e)->id∈yw (pO pl i) (Ml rl os s0 (λ_=>true) i) r->(nh listed j=true↔j<i):=by
    intro j hj id e hw hrid;have hFj:=hflo j hj;have hlt:=hFj.lt hw;have hst:Go.Tm.wB (pO pl j) (rl.getD j eL)=true:=by rw[hw]at hFj;exact hFj.wB
    rcases Nat.lt_trichotomy j i with hji|hji|hji
    .refine⟨λ_=>hji,λ_=>?_⟩;have hcf:Qt (pO pl j) (pO pl i) (rl.getD j eL) r=true:=by grind[eJ,GF]
     rcases hf.pairs j i _ r hji hiq (hgd j hj) hr hcf with h|h
     all_goals grind
    .grind
    .refine⟨λhL=>?_,λh=>by omega⟩;have hcf:Qt (pO pl i) (pO pl j) r (rl.getD j eL)=true:=GF hrid hst;rcases hf.pairs i j r _ hji hj hr (hgd j hj) hcf with h|h
     all_goals grind[Lw]
   refine AS hco hF (s:=Ml rl os s0 (nh listed) q) ?_ ?_ ?_ ?_ hrel (lab h1) ?_
   .intro y hy;refine eR s0.t (by omega) λj hj hd=>?_;have hxj:=hgd j hj
    grind[VL,tt]
   .intro hpo hcls;simp only[Ml,tm];refine congrArg List.length (vP s0.m (Nat.le_of_lt hiq) λj hj hx=>?_)
    grind
   .rintro id hrid ⟨e,he⟩ hid;obtain⟨k,hk,hmk'⟩:=CF (xx:=tE os) (L:=nh listed) s0.m q λi1 j1 hij hj hx1 hx2 hL1=>
     Lw hcl hL1 (hf.apart i1 j1 _ _ hij hj (hgd i1 (by omega)) (hgd j1 hj) (hclash2 _ _ _ _ (hmake i1 (by omega) hx1) (hmake j1 hj hx2)))
    simp only[Ml,tm]at he hid⊢;have hlt:id<(mS (tE os) (λ_=>true) s0.m i).length:=by
     grind[tm]
    rw[aE _ _ _ hid,aE _ _ _ hlt,FJ (by omega) λj hj e hw=>ordered j hj id e hw hrid];have hbase:(mS (tE os) (nh listed) s0.m q)[id]?=(mS (tE os) (λ_=>true) s0.m i)[id]?:=by
     rw[hmk']at hid⊢;rcases Nat.le_total i k with h|h
     .obtain⟨rr,hrr'⟩:=NK (xx:=tE os) s0.m h
      grind
     .obtain⟨rr,hrr'⟩:=NK (xx:=tE os) s0.m h
      grind
    grind
   .grind[Ml,tm,XV]
   .intro G' w' a' hrel' hs' hlt;have hmstep:mS (tE os) (nh (listed.setIfInBounds i true)) s0.m q=mS (tE os) (nh listed) s0.m q++tE os i:=by
     refine oT s0.m h2 h5 hiq ?_
     grind
    have hst:uj (Ml rl os s0 (nh listed) q) r (kX os i) (tE os i) (nL os i)=Ml rl os s0 (nh (listed.setIfInBounds i true)) q:=by
     rw[yC];simp only[Ml,St.mk.injEq];constructor
     .rw[dV s0.t h2 h5 hiq ?_]
      all_goals grind[VL,tt]
     .rw[hmstep,zU _ h2 h5 hiq ?_]
      .rw[WJ _ _ _ λj hj hL id e he=>hV j hj hL id e he]
       cases hw:nL os i with
       |none=>rfl
       |some p=>
        obtain⟨id,e⟩:=p;have:=(hF.lt hw).2.1
        grind[wr]
      .intro j hij hjq hL id e e' hwi hwj;have:=(ordered j hjq id e' hwj (hF.lt hwi).2.2).1 hL;omega
    rw[hst]at hrel';refine ih (listed.setIfInBounds i true) G' w' a' ?_ (by grind) h4 ?_ hrel' ?_ ?_
    .have:=filter_lt h2 h5 (l:=uaa ops.size) (by grind);omega
    .grind
    .intro j hj hL id e he;rw[hmstep,Iaa];rw[h5,vac,beq_iff_eq]at hL;rcases hL with hL|rfl
     all_goals grind[Ml,tm]
    .intro s'' G'' w'' a'' k1 k2 k3;refine hQ s'' G'' w'' a'' k1 k2 (hs'.trans ?_)
     grind[yC]
end
def Ql(P:Program):List (Option Nat)->List (List Nat)->List (List Nat)->Nat->List RI->(St->Prop)->St->Prop
 |_,_,_,0,l,K,s=>Qk P l K s
 |_,_,_,_+1,[],_,_=>False
 |pl,ps,fp,q+1,.op dst g i::l,K,s=>
  match pl.headD none with
  |some p=>Ly fp [p] (ps.headD [])=true/\g=none/\∃d e,Xk s p i=some (d,e)/\Ql P pl.tail ps.tail (fp++[[p]]) q l K ({ s with m:=s.m.set p e }.put dst d)
  |none=>
   Ly fp (Jk s (.op dst g i)) (ps.headD [])=true/\
   match gate s g with
   |none=>False
   |some none=>∃d m',Qe s i=true/\la s i=some (d,m')/\Ql P pl.tail ps.tail (fp++[Jk s (.op dst g i)]) q l K ({ s with m:=m' }.put dst d)
   |some (some (c,b))=>(c=b->∃d m',Qe s i=true/\la s i=some (d,m')/\Ql P pl.tail ps.tail (fp++[Jk s (.op dst g i)]) q l K ({ s with m:=m' }.put dst d))/\(c≠b->Ql P pl.tail ps.tail (fp++[Jk s (.op dst g i)]) q l K (s.put dst (.v undef)))
 |pl,ps,fp,q+1,.call dst g f args::l,K,s=>
  match pl.headD none,s.cv f with
  |some p,.fn k first caps=>g=none/\p∈Cb s args/\Ly fp (Cb s args) (ps.headD [])=true/\∃d e,((∀id∈Cb s args,id<s.m.length)/\∀m,(∀id∈Cb s args,m[id]?=s.m[id]?)->CallT P k (first++args.map s.ev++caps) m λd' m'=>d'=d/\m'=m.set p e)/\Ql P pl.tail ps.tail (fp++[Cb s args]) q l K ({ s with m:=s.m.set p e }.put dst d)
  |none,.fn k first caps=>
   match gate s g with
   |none=>False
   |some none=>Ly fp (Cb s args) (ps.headD [])=true/\∃d,((∀id∈Cb s args,id<s.m.length)/\∀m,(∀id∈Cb s args,m[id]?=s.m[id]?)->CallT P k (first++args.map s.ev++caps) m λd' m'=>d'=d/\m'=m)/\Ql P pl.tail ps.tail (fp++[Cb s args]) q l K (s.put dst d)
   |some (some (c,b))=>Ly fp (Cb s args) (ps.headD [])=true/\(c=b->∃d,((∀id∈Cb s args,id<s.m.length)/\∀m,(∀id∈Cb s args,m[id]?=s.m[id]?)->CallT P k (first++args.map s.ev++caps) m λd' m'=>d'=d/\m'=m)/\Ql P pl.tail ps.tail (fp++[Cb s args]) q l K (s.put dst d))/\(c≠b->Ql P pl.tail ps.tail (fp++[Cb s args]) q l K (s.put dst (.v undef)))
  |none,_=>Ly fp (Cb s args) (ps.headD [])=true/\(∃c b,gate s g=some (some (c,b))/\c≠b)/\Ql P pl.tail ps.tail (fp++[Cb s args]) q l K (s.put dst (.v undef))
  |_,_=>False
section
variable {P:Program} {K:St->Prop}
theorem VK{pl:List (Option Nat)}{j:Nat}:pO pl.tail j=pO pl (j+1):=by grind[pO]
theorem cz:∀{q:Nat}{l:List RI}{s:St}{pl:List (Option Nat)}{ps:List (List Nat)}{fp:List (List Nat)},Ql P pl ps fp q l K s->(∀(j:Nat) y,j<q->l[j]?=some y->((pO pl j).isSome || y.TB)=true)->
 ∃os rs s1,Fv P pl (l.take q) s os rs s1/\Qk P (l.drop q) K s1/\(∀j,j<q->∀i∈ps.getD j [],i<fp.length+j->On ((fp++rs).getD i []) (rs.getD j [])=true)
 |0,l,s,pl,ps,fp,h,_=>⟨[],[],s,by simp[Fv],by simpa [Ql] using h,λj hj=>by omega⟩
 |q+1,[],s,pl,ps,fp,h,_=>by simp[Ql]at h
 |q+1,.op dst g i::l,s,pl,ps,fp,h,hc=>by
  have hc':∀(j:Nat) y,j<q->l[j]?=some y->((pO pl.tail j).isSome || y.TB)=true:=λj y hj hy=>by grind[VK]
  simp only[Ql]at h;have join:∀{s2:St} {d x w},Ly fp (yw (pl.headD none) s (.op dst g i)) (ps.headD [])=true->Pk P (pl.headD none) (.op dst g i) s d x w->uj s (.op dst g i) d x w=s2->Ql P pl.tail ps.tail (fp++[yw (pl.headD none) s (.op dst g i)]) q l K s2->
   ∃os rs s1,Fv P pl ((RI.op dst g i::l).take (q+1)) s os rs s1/\Qk P ((RI.op dst g i::l).drop (q+1)) K s1/\(∀j,j<q+1->∀i∈ps.getD j [],i<fp.length+j->On ((fp++rs).getD i []) (rs.getD j [])=true):=by
   intro s2 d x w hap hF hs hD;obtain⟨os,rs,s1,h1,h2,h3⟩:=cz hD hc';refine⟨(d,x,w)::os,yw (pl.headD none) s (.op dst g i)::rs,s1,by simp only[sab,Fv];grind,by simp_all,λj hj k hk hlt=>?_⟩
   cases j with
   |zero=>
    have hk':k∈ps.headD []:=by cases ps with|nil=>simp at hk|cons a b=>simp_all
    have hkf:k<fp.length:=by omega
    have hget:(fp++yw (pl.headD none) s (.op dst g i)::rs).getD k []=fp.getD k []:=by
     grind
    grind[dC]
   |succ j=>
    grind[Rab]
  split at h
  .rename_i p hp;obtain⟨hap,rfl,d,e,hf,hD⟩:=h;exact join (d:=d) (x:=[]) (w:=some (p,e)) (by rw[hp];exact hap) (by rw[hp];exact .inl ⟨dst,i,e,rfl,rfl,rfl,hf⟩) (show uj s (.op dst none i) d [] (some (p,e))=({ s with m:=s.m.set p e }:St).put dst d by grind[uj,wr,RI.dst]) (by rw[hp];exact hD)
  .rename_i hp;have hci:(RI.op dst g i).TB=true:=by
    have:=hc 0 _ (by omega) rfl;have h0:pO pl 0=none:=by rw[←hp];cases pl<;>rfl
    simp_all
   simp only[hp,yw,Pk]at join;obtain⟨hap,h⟩:=h;have on:∀{d:D} {m':List Ent},Qe s i=true->la s i=some (d,m')->(gate s g=some none\/∃c,gate s g=some (some (c,c)))->Ql P pl.tail ps.tail (fp++[Jk s (.op dst g i)]) q l K ({ s with m:=m' }.put dst d)->
    ∃os rs s1,Fv P pl ((RI.op dst g i::l).take (q+1)) s os rs s1/\Qk P ((RI.op dst g i::l).drop (q+1)) K s1/\(∀j,j<q+1->∀i∈ps.getD j [],i<fp.length+j->On ((fp++rs).getD i []) (rs.getD j [])=true):=by
    intro d m' hsb he hg hD;simp only[RI.TB,vac,decide_eq_true_eq]at hci;by_cases hcl:i.cls<=2
    .have ext:∃x,m'=s.m++x:=by
      rcases Oab i.cls 2 with h2|h2
      .exact⟨[],by rw[Naa];exact(Sv (s:=s) (s':=s) (by omega) (λ_ _=>rfl) (λ_ _ _ _=>rfl) he).1⟩
      .obtain⟨e,h,_⟩:=cB (s:=s) (s':=s) (by omega) (λ_ _=>rfl) rfl he
       simp_all
     obtain⟨x,rfl⟩:=ext;exact join hap (x:=x) (w:=none) (.inl ⟨hg,.inl ⟨rfl,hcl,he⟩⟩) rfl hD
    .have ht:i.jN.isSome=true:=by simp_all
     obtain⟨a,ha⟩:=Option.isSome_iff_exists.1 ht;obtain⟨id,e,h1,rfl,h3,h4⟩:=vF ha hsb he;refine join hap (x:=[]) (w:=some (id,e)) (.inl ⟨hg,.inr ⟨rfl,a,id,e,ha,h1,rfl,he,?_,hsb⟩⟩) ?_ hD
     all_goals grind[uj,wr,RI.dst]
   have off:(∃c b,gate s g=some (some (c,b))/\c≠b)->Ql P pl.tail ps.tail (fp++[Jk s (.op dst g i)]) q l K (s.put dst (.v undef))->
    ∃os rs s1,Fv P pl ((RI.op dst g i::l).take (q+1)) s os rs s1/\Qk P ((RI.op dst g i::l).drop (q+1)) K s1/\(∀j,j<q+1->∀i∈ps.getD j [],i<fp.length+j->On ((fp++rs).getD i []) (rs.getD j [])=true):=λhg hD=>
    join hap (d:=.v undef) (x:=[]) (w:=none) (.inr ⟨hg,rfl,rfl,rfl⟩) (by simp_all[uj,wr,RI.dst]) hD
   split at h
   .simp_all
   .grind
   .rename_i c b hg;by_cases hcb:c=b
    .subst hcb;obtain⟨d,m',hsb,he,hD⟩:=h.1 rfl
     simp_all
    .exact off ⟨c,b,hg,hcb⟩ (h.2 hcb)
 |q+1,.call dst g f args::l,s,pl,ps,fp,h,hc=>by
  have hc':∀(j:Nat) y,j<q->l[j]?=some y->((pO pl.tail j).isSome || y.TB)=true:=λj y hj hy=>by grind[VK]
  rcases hp:pl.headD none with _|p
  rotate_left
  .simp only[Ql]at h
   cases hf:s.cv f with
   |fn k first caps=>
    simp only[hp,hf]at h;obtain⟨rfl,hpt,hap,d,e,hcall,hD⟩:=h;obtain⟨os,rs,s1,h1,h2,h3⟩:=cz hD hc';refine⟨(d,[],some (p,e))::os,Cb s args::rs,s1,?_,by simp_all,λj hj k hk hlt=>?_⟩
    .simp only[sab,Fv,hp];refine⟨d,[],some (p,e),os,rs,rfl,rfl,.inr ⟨dst,f,args,k,first,caps,e,rfl,rfl,rfl,hf,hpt,hcall.1,hcall.2⟩,?_⟩
     grind[uj,wr,RI.dst]
    .cases j with
     |zero=>
      have hk':k∈ps.headD []:=by cases ps with|nil=>simp at hk|cons a b=>simp_all
      have hkf:k<fp.length:=by omega
      have hget:(fp++Cb s args::rs).getD k []=fp.getD k []:=by
       grind
      grind[dC]
     |succ j=>
      grind[Rab]
   |_=>simp only[hp,hf]at h
  have haf:∀d,uj s (.call dst g f args) d [] none=s.put dst d:=λd=>by simp_all[uj,wr,RI.dst]
  have join:∀{d},Ly fp (Cb s args) (ps.headD [])=true->Jt P (.call dst g f args) s d [] none->Ql P pl.tail ps.tail (fp++[Cb s args]) q l K (s.put dst d)->
   ∃os rs s1,Fv P pl ((RI.call dst g f args::l).take (q+1)) s os rs s1/\Qk P ((RI.call dst g f args::l).drop (q+1)) K s1/\(∀j,j<q+1->∀i∈ps.getD j [],i<fp.length+j->On ((fp++rs).getD i []) (rs.getD j [])=true):=by
   intro d hap hF hD;obtain⟨os,rs,s1,h1,h2,h3⟩:=cz hD hc';refine⟨(d,[],none)::os,Cb s args::rs,s1,by simp only[sab,Fv,hp,yw,Jk,Pk];grind,by simp_all,λj hj k hk hlt=>?_⟩
   cases j with
   |zero=>
    have hk':k∈ps.headD []:=by cases ps with|nil=>simp at hk|cons a b=>simp_all
    have hkf:k<fp.length:=by omega
    have hget:(fp++Cb s args::rs).getD k []=fp.getD k []:=by
     grind
    grind[dC]
   |succ j=>
    grind[Rab]
  simp only[Ql]at h
  cases hf:s.cv f with
  |fn k first caps=>
   simp only[hp,hf]at h;split at h
   .simp_all
   .rename_i hg;obtain⟨hap,d,hcall,hD⟩:=h;exact join hap ⟨rfl,rfl,.inl ⟨k,first,caps,hf,.inl hg,hcall⟩⟩ hD
   .rename_i c b hg;obtain⟨hap,h⟩:=h;by_cases hcb:c=b
    .subst hcb;obtain⟨d,hcall,hD⟩:=h.1 rfl;exact join hap ⟨rfl,rfl,.inl ⟨k,first,caps,hf,.inr ⟨c,hg⟩,hcall⟩⟩ hD
    .exact join hap ⟨rfl,rfl,.inr ⟨⟨c,b,hg,hcb⟩,rfl⟩⟩ (h.2 hcb)
  |_=>
   simp only[hp,hf]at h;obtain⟨hap,⟨c,b,hg,hcb⟩,hD⟩:=h;exact join hap ⟨rfl,rfl,.inr ⟨⟨c,b,hg,hcb⟩,rfl⟩⟩ hD
end
section
variable {P:Program} {N:Nat} {ops:Array Oper} {Q:Exit->Act->World->Prop} {K:St->Prop} {rl:List RI} {q:Nat} {ps:List (List Nat)} {pl:List (Option Nat)}
theorem Ox(Es:P.follows .mixedOrders=true) (hc:vj P ops ops.toList=some rl) (hf:DrawFactsO (Gb ops) rl q ps pl) {s:St}(hD:Ql P pl ps [] q rl K s) (hpl:∀i p,pO pl i=some p->p<s.m.length)
 {id:Nat} {G:Gh} {w:World} {a:Act} (hr:Rel G w a s) (hQ:∀s' G' w' a',K s'->Rel G' w' a' s'->Step G w s.m G' w' s'.m->Q .normal a' w'):(Code.region id ops true).wp P Q a w:=by
 obtain⟨os,rs,s1,hF,hT,hap⟩:=cz hD hf.TB;have hlenT:(rl.take q).length=q:=by rw[List.length_take];have:=hf.hq;omega
 have hlenO:=hF.length;rw[hlenT]at hlenO;have h0:Ml rl os s (λ_=>true) 0=s:=rfl;obtain⟨g1,g2⟩:=Fv.get (pl:=pl) (rl:=rl) (os:=os) (s0:=s) (k:=0) (l:=rl.take q) (os':=os) (s':=s1) (rs:=rs) (by simp) (by simp) (λj hj=>by omega) (by rw[h0];exact hF);simp only[hlenT,Nat.zero_add]at g1 g2;subst g2;have hL0:∀j,nh (Kab ops.size false) j=false:=by
  intro j;unfold nh;simp only[uac,Array.getElem?_replicate]
  grind
 have hst0:Ml rl os s (nh (Kab ops.size false)) q=s:=by
  have ht:∀n,tS (VL rl) (kX os) (nh (Kab ops.size false)) s.t n=s.t:=by
   intro n
   induction n with
   |zero=>rfl
   |succ n ih=>simp_all[tS]
  have hm:∀n,mS (tE os) (nh (Kab ops.size false)) s.m n=s.m:=by
   intro n
   induction n with
   |zero=>rfl
   |succ n ih=>simp_all[mS]
  have hw:∀n,sS (nL os) (nh (Kab ops.size false)) s.m n=s.m:=by
   intro n
   induction n with
   |zero=>rfl
   |succ n ih=>simp_all[sS]
  grind[Ml]
 refine wp_region_any Es ?_;have hs:=Same.drew w;refine gJ hc hf (λi hi=>(g1 i hi).1) hpl ?_ ?_ hT ops.size _ G _ a ?_ (by simp) ?_ (λj _=>hL0 j) ?_ (λj _ h=>by simp_all) ?_
 .intro i hi hx;have h:=(g1 i hi).1;rcases hp:pO pl i with _|p
  .rw[hp]at h;refine⟨?_,rfl⟩
   cases hri:rl.getD i eL with
   |call dst g f args=>
    rw[hri]at h;obtain⟨h,_⟩:=h
    simp_all
   |op dst g j=>
    rw[hri]at h;rcases h with⟨-,⟨_,hcl,h⟩|⟨h,_⟩⟩|⟨-,-,h,_⟩
    .simp only[RI.cls];rcases Oab j.cls 2 with h2|h2
     .obtain⟨hm,-⟩:=Sv (s:=Ml rl os s (λ_=>true) i) (s':=Ml rl os s (λ_=>true) i) (by omega) (λ_ _=>rfl) (λ_ _ _ _=>rfl) h
      simp_all
     omega
    all_goals simp_all
  .rw[hp]at h;rcases h with⟨_,_,_,_,h,_⟩|⟨_,_,_,_,_,_,_,_,h,_⟩
   all_goals simp_all
 .grind[fF]
 .grind
 .intro i b _ hi
  simp_all
 .rw[hst0];exact⟨hr.t.mono (hs.le G),hs.inv hr.inv,hr.defers⟩
 .intro s' G' w' a' k1 k2 k3;rw[hst0]at k3;exact hQ s' G' w' a' k1 k2 ((hs.step G s.m).trans k3)
def Nn(m:List Ent) (pl:List (Option Nat)):Bool:=pl.all λo=>match o with|some p=>decide (p<m.length)|none=>true
theorem TP{m:List Ent}{pl:List (Option Nat)}(h:Nn m pl=true):∀i p,pO pl i=some p->p<m.length:=by
 intro i p hp;unfold Nn at h;rw[Oaa]at h;unfold pO at hp;have hm:some p∈pl:=by
  grind
 grind
theorem T.UZ(hm:P.follows .mixedOrders=true) {cuts:List Nat}{bs:List (List Nat)}{l:List RI}{K:Exit->St->Prop}{s:St}(ps:List (List Nat)) (pl:List (Option Nat)) (hok:Js bs l q ps pl=true) (hpl:Nn s.m pl=true) (h:Ql P pl ps [] q l (K .normal) s):T P N (.any cuts q bs l) K s:=by
 intro code hc G w a hN hr;obtain⟨id,ops,rfl,rfl,hc',hto⟩:=YN hc;exact Ox hm hc' (AE (WG hto).1 hok) h (TP hpl) hr λs' G' w' a' k1 k2 k3=>⟨s',G',k1,k2,k3.kW hN⟩
theorem Is{K:St->Prop}:∀{q:Nat}{l:List RI}{ps fp:List (List Nat)}{s:St},xv P ps fp q l K s->Ql P [] ps fp q l K s
 |0,l,ps,fp,s,h=>by simpa only[Ql,xv] using h
 |q+1,[],ps,fp,s,h=>by simp[xv]at h
 |q+1,.op dst g i::l,ps,fp,s,h=>by
  simp only[Ql,xv,uad,xad]at h⊢;refine⟨h.1,?_⟩;have h2:=h.2
  cases hg:gate s g with
  |none=>simp_all
  |some o=>
   cases o with
   |none=>
    simp only[hg]at h2⊢;obtain⟨d,m',h1,h2,h3⟩:=h2;exact⟨d,m',h1,h2,Is h3⟩
   |some cb=>
    obtain⟨c,b⟩:=cb;simp only[hg]at h2⊢;refine⟨λhc=>?_,λhc=>Is (h2.2 hc)⟩;obtain⟨d,m',h1,h2,h3⟩:=h2.1 hc;exact⟨d,m',h1,h2,Is h3⟩
 |q+1,.call dst g f args::l,ps,fp,s,h=>by
  simp only[Ql,xv,uad,xad]at h⊢
  cases hf:s.cv f with
  |fn k first caps=>
   simp only[hf]at h⊢
   cases hg:gate s g with
   |none=>simp_all
   |some o=>
    cases o with
    |none=>
     simp only[hg]at h⊢;obtain⟨h0,d,h1,h3⟩:=h;exact⟨h0,d,h1,Is h3⟩
    |some cb=>
     obtain⟨c,b⟩:=cb;simp only[hg]at h⊢;refine⟨h.1,λhc=>?_,λhc=>Is (h.2.2 hc)⟩;obtain⟨d,h1,h3⟩:=h.2.1 hc;exact⟨d,h1,Is h3⟩
  |_=>simp only[hf]at h
theorem T.P8(hm:P.follows .mixedOrders=true) {cuts:List Nat}{bs:List (List Nat)}{l:List RI}{K:Exit->St->Prop}{s:St}(ps:List (List Nat)) (hok:Js bs l q ps []=true) (h:xv P ps [] q l (K .normal) s):T P N (.any cuts q bs l) K s:=
 T.UZ hm ps [] hok rfl (Is h)
theorem T.W0(hm:P.follows .mixedOrders=true) {l:List RI}{K:Exit->St->Prop}{s:St}(h:Ql P [] [] [] q l (K .normal) s):T P N (.draw q l) K s:=by
 intro code hc G w a hN hr;obtain⟨id,ops,rfl,hc',hok⟩:=oF hc;have hf:=dz hok;have hp0:∀i,pO [] i=none:=λi=>rfl;have notgt:∀(j:Nat) d g i,j<q->l[j]?=some (.op d g i)->i.jN=none:=by
  intro j d g i hj hl;have h1:=hf.cls j _ hj hl
  cases ht:i.jN with
  |none=>rfl
  |some x=>grind[RI.cls,uC]
 refine Ox hm hc' (ps:=[]) (pl:=[]) ⟨hf.toTailFacts,?_,?_,?_⟩ h (λi p hp=>by simp_all) hr λs' G' w' a' k1 k2 k3=>⟨s',G',k1,k2,k3.kW hN⟩
 .intro j y hj hy;have:=hf.cls j y hj hy;rw[hp0]
  cases y with
  |call=>rfl
  |op d g i=>grind[RI.TB,RI.cls]
 .intro i j x y hij hj hx hy hcl;refine hf.apart i j x y hij hj hx hy ?_
  grind[tt,sK]
 .intro i j x y hij hj hx hy hcf;exfalso;rw[hp0,hp0]at hcf
  cases x with
  |call=>
   cases y with
   |call=>grind[Qt,wB]
   |op d g k=>grind[Qt,wB]
  |op d g k=>
   have h1:=notgt i d g k (by omega) hx
   cases y with
   |call=>grind[Qt,wB]
   |op d' g' k'=>grind[Qt,wB]
theorem T.X0(hm:P.follows .mixedOrders=true) {l:List RI}{K:Exit->St->Prop}{s:St}(ps:List (List Nat)) (pl:List (Option Nat)) (hcl:∀i p,pO pl i=some p->∃a b c d,l[i]?=some (.call a b c d))
 (hps:∀j,j<q->∀i,i<j->i∈ps.getD j []) (hpl:Nn s.m pl=true) (h:Ql P pl ps [] q l (K .normal) s):T P N (.draw q l) K s:=by
 intro code hc G w a hN hr;obtain⟨id,ops,rfl,hc',hok⟩:=oF hc;have hf:=dz hok;refine Ox hm hc' (ps:=ps) (pl:=pl) ⟨hf.toTailFacts,?_,?_,?_⟩ h (TP hpl) hr λs' G' w' a' k1 k2 k3=>⟨s',G',k1,k2,k3.kW hN⟩
 .intro j y hj hy;have:=hf.cls j y hj hy
  cases y with
  |call=>simp[RI.TB]
  |op d g i=>grind[RI.TB,RI.cls]
 .intro i j x y hij hj hx hy hcl';refine hf.apart i j x y hij hj hx hy ?_
  grind[tt,sK]
 simp_all
end
section
variable {P:Program} {N:Nat}
mutual
def Ad(n:Nat):D->D->Prop
 |.v x,.own i v=>x=.slice none 0 0/\i=n/\v=0
 |.agg l,.agg r=>Fs n l r
 |d,e=>d=e
def Fs(n:Nat):List D->List D->Prop
 |[],r=>r=[]
 |d::l,r=>∃e r',r=e::r'/\Ad n d e/\Fs n l r'
end
theorem Ad.inv{n:Nat}{d e:D}(h:Ad n d e):(d=.v (.slice none 0 0)/\e=.own n 0)\/(∃l r,d=.agg l/\e=.agg r/\Fs n l r)\/d=e:=by
 cases d<;>cases e<;>simp_all[Ad]
mutual
theorem Ad.rel{G:Gh}{w:World}{n:Nat}(ho:VRel G w (.own n 0) (.slice none 0 0)):∀{d e:D}{u:Value},Ad n d e->VRel G w d u->VRel G w e u
 |.agg l,e,u,hs,h=>by
  rcases hs.inv with⟨h1,_⟩|⟨l',r,h1,rfl,h3⟩|rfl
  .grind
  .injection h1 with h1;subst h1;simp only[VRel]at h⊢;obtain⟨cs,rfl,h,h1⟩:=h;exact⟨cs,rfl,Fs.rel ho h3 h,h1⟩
  omega
 |.v x,e,u,hs,h=>by
  rcases hs.inv with⟨h1,rfl⟩|⟨_,_,h1,_⟩|rfl
  .injection h1 with h1;subst h1;simp only[VRel]at h;simp_all
  all_goals simp_all
 |.tup l,e,u,hs,h=>by rcases hs.inv with⟨h1,_⟩|⟨_,_,h1,_⟩|rfl<;>first|cases h1|exact h
 |.sl S l,e,u,hs,h=>by rcases hs.inv with⟨h1,_⟩|⟨_,_,h1,_⟩|rfl<;>first|cases h1|exact h
 |.pt x,e,u,hs,h=>by rcases hs.inv with⟨h1,_⟩|⟨_,_,h1,_⟩|rfl<;>first|cases h1|exact h
 |.ref _ _ _ _,e,u,hs,h=>by rcases hs.inv with⟨h1,_⟩|⟨_,_,h1,_⟩|rfl<;>first|cases h1|exact h
 |.own _ _,e,u,hs,h=>by rcases hs.inv with⟨h1,_⟩|⟨_,_,h1,_⟩|rfl<;>first|cases h1|exact h
 |.view _ _ _ _,e,u,hs,h=>by rcases hs.inv with⟨h1,_⟩|⟨_,_,h1,_⟩|rfl<;>first|cases h1|exact h
 |.fn _ _ _,e,u,hs,h=>by rcases hs.inv with⟨h1,_⟩|⟨_,_,h1,_⟩|rfl<;>first|cases h1|exact h
 |.mp _,e,u,hs,h=>by rcases hs.inv with⟨h1,_⟩|⟨_,_,h1,_⟩|rfl<;>first|cases h1|exact h
 |.ifc _ _,e,u,hs,h=>by rcases hs.inv with⟨h1,_⟩|⟨_,_,h1,_⟩|rfl<;>first|cases h1|exact h
 |.dead,e,u,hs,h=>by rcases hs.inv with⟨h1,_⟩|⟨_,_,h1,_⟩|rfl<;>first|cases h1|exact h
theorem Fs.rel{G:Gh}{w:World}{n:Nat}(ho:VRel G w (.own n 0) (.slice none 0 0)):∀{l r:List D}{us:List Value},Fs n l r->VsRel G w l us->VsRel G w r us
 |[],r,us,hs,h=>by simp only[Fs]at hs;simp_all
 |d::l,r,us,hs,h=>by
  simp only[Fs]at hs;obtain⟨e,r',rfl,h1,h2⟩:=hs;simp only[VsRel]at h⊢;obtain⟨u,us',rfl,g1,g2⟩:=h;exact⟨u,us',rfl,Ad.rel ho h1 g1,Fs.rel ho h2 g2⟩
end
theorem Fs.row{G:Gh}{w:World}{n b S:Nat}(ho:VRel G w (.own n 0) (.slice none 0 0)):∀{l r:List D}{off:Nat},Fs n l r->Sa G w b S l off->Sa G w b S r off
 |[],r,off,hs,h=>by simp only[Fs]at hs;subst hs;exact h
 |d::l,r,off,hs,h=>by
  simp only[Fs]at hs;obtain⟨e,r',rfl,h1,h2⟩:=hs;simp only[Sa]at h⊢;obtain⟨⟨u,g1,g2,g3⟩,g4⟩:=h;exact⟨⟨u,Ad.rel ho h1 g1,g2,g3⟩,Fs.row ho h2 g4⟩
theorem Fs.length{n:Nat}:∀{l r:List D},Fs n l r->l.length=r.length
 |[],r,h=>by simp[Fs]at h;simp[h]
 |d::l,r,h=>by
  simp only[Fs]at h;obtain⟨e,r',rfl,_,h2⟩:=h;simp[Fs.length h2]
mutual
theorem Ad.refl(n:Nat):∀d:D,Ad n d d
 |.agg l=>by simp only[Ad];exact Fs.refl n l
 |.v x=>by simp[Ad]
 |.tup l=>by simp[Ad]
 |.sl S l=>by simp[Ad]
 |.pt d=>by simp[Ad]
 |.ref ..=>by simp[Ad]
 |.own ..=>by simp[Ad]
 |.view ..=>by simp[Ad]
 |.fn ..=>by simp[Ad]
 |.mp ..=>by simp[Ad]
 |.ifc ..=>by simp[Ad]
 |.dead=>by simp[Ad]
theorem Fs.refl(n:Nat):∀l:List D,Fs n l l
 |[]=>by simp[Fs]
 |d::l=>by simp only[Fs];exact⟨d,l,rfl,Ad.refl n d,Fs.refl n l⟩
end
theorem Fs.cons{n:Nat}{d e:D}{l r:List D}(h1:Ad n d e) (h2:Fs n l r):Fs n (d::l) (e::r):=by
 simp only[Fs];grind
theorem Ad.nil(n:Nat):Ad n (.v (.slice none 0 0)) (.own n 0):=by simp[Ad]
def XE(n:Nat):Ent->Ent->Prop
 |.live S v l,.live S' v' l'=>S=S'/\v=v'/\Fs n l l'
 |e,e'=>e=e'
def ux(n:Nat):List Ent->List Ent->Prop
 |[],r=>r=[]
 |d::l,r=>∃e r',r=e::r'/\XE n d e/\ux n l r'
theorem XE.refl(n:Nat) (e:Ent):XE n e e:=by cases e<;>simp[XE,Fs.refl]
theorem ux.refl(n:Nat):∀m:List Ent,ux n m m
 |[]=>by simp[ux]
 |d::l=>by simp only[ux];exact⟨d,l,rfl,XE.refl n d,ux.refl n l⟩
theorem ux.cons{n:Nat}{d e:Ent}{l r:List Ent}(h1:XE n d e) (h2:ux n l r):ux n (d::l) (e::r):=by
 simp only[ux];grind
theorem XE.live{n S v:Nat}{l r:List D}(h:Fs n l r):XE n (.live S v l) (.live S v r):=by simp only[XE];simp_all
theorem ux.get{n:Nat}:∀{m m':List Ent},ux n m m'->m.length=m'.length/\∀(i:Nat) e,m'[i]?=some e->∃e0,m[i]?=some e0/\XE n e0 e
 |[],m',h=>by simp[ux]at h;subst h;simp
 |d::m,m',h=>by
  simp only[ux]at h;obtain⟨e,r',rfl,h1,h2⟩:=h;obtain⟨k1,k2⟩:=ux.get h2;refine⟨by simp[k1],λi e' he=>?_⟩
  cases i with
  |zero=>simp at he;subst he;exact⟨d,rfl,h1⟩
  |succ i=>simpa using k2 i e' (by simpa using he)
theorem ux.append{n:Nat}:∀{m m':List Ent}(x:List Ent),ux n m m'->ux n (m++x) (m'++x)
 |[],m',x,h=>by simp[ux]at h;subst h;exact ux.refl n x
 |d::m,m',x,h=>by
  simp only[ux]at h;obtain⟨e,r',rfl,h1,h2⟩:=h;simp only[List.cons_append];exact ux.cons h1 (ux.append x h2)
theorem XE.rel{G:Gh}{w:World}{n i:Nat}{e e':Ent}(ho:VRel G w (.own n 0) (.slice none 0 0)) (h:XE n e e') (hr:dn G w i e):dn G w i e':=by
 cases e with
 |live S v l=>
  cases e' with
  |live S' v' l'=>
   simp only[XE]at h;obtain⟨rfl,rfl,h⟩:=h;obtain⟨a1,a2,a3,a4,a5⟩:=hr;rw[h.length]at a3 a4;refine⟨a1,a2,a3,a4,?_⟩;rcases a5 with a5|⟨b',cs,T,hb',hF,hblk,hsz,hrow⟩
   .exact .inl a5
   .exact .inr ⟨b',cs,T,hb',hF,hblk,hsz,Fs.row ho h hrow⟩
  |_=>simp[XE]at h
 |_=>simp only[XE]at h;subst h;exact hr
theorem XE.isLive{n:Nat}{e e':Ent}(h:XE n e e'):e'.isLive=e.isLive:=by
 cases e<;>cases e'<;>simp_all[XE,Ent.isLive]
theorem T.BW{c:C}{K:Exit->St->Prop}{s:St}(S:Nat) {t':List D}{m':List Ent}(ht:Fs s.m.length s.t t') (hm:ux s.m.length s.m m') (h:Tm.T P N c K ⟨t',m'++[.live S 0 []]⟩):Tm.T P N c K s:=by
 refine T.ghost (λG w a hN hr=>?_) h;have hadd:=Ny (w':=w) hr.inv none S 0 0 (.live S 0 []) rfl rfl rfl rfl (oaa _) (λ_ _=>rfl) (λk h=>by cases h)
  ⟨by simp[Gh.add],by simp[Gh.add],by simp[Gh.add],by simp,.inl ⟨by simp[Gh.add],by simp[Gh.add]⟩⟩
 have ho:=Jz (s:=s) (b:=none) (S:=S) (N:=0) (C:=0) (w':=w) hr.inv.n;have hM:=(ux.append [.live S 0 []] hm).get;have hi:=hadd.1;refine⟨_,⟨Fs.rel ho ht (hr.t.mono hadd.2.le),⟨by rw[hi.n,hM.1],hi.F,λi e he=>?_,λi j e e' he he' hl hl' b hb hb'=>?_,hi.gl⟩,hr.defers⟩,?_⟩
 .obtain⟨e0,h0,h1⟩:=hM.2 i e he;exact h1.rel ho (hi.ent i e0 h0)
 .obtain⟨e0,h0,h1⟩:=hM.2 i e he;obtain⟨e0',h0',h1'⟩:=hM.2 j e' he';exact hi.apart i j e0 e0' h0 h0' (by rw[←h1.isLive];omega) (by rw[←h1'.isLive];omega) b hb hb'
 .refine { hadd.2.kW hN with newB:=λb hb ho'=>hadd.2.newB b hb ?_ };obtain⟨i,e,he,hl,hB⟩:=ho';obtain⟨e0,h0,h1⟩:=hM.2 i e he;exact⟨i,e0,h0,by rw[←h1.isLive];omega,hB⟩
end
def QF(S id x:Nat) (s:St):St:=
 match s.m[id]? with
 |some (.live S' v l)=>
  match l[x]? with
  |some (.v (.slice none 0 0))=>⟨s.t,s.m.set id (.live S' v (l.set x (.own s.m.length 0)))++[.live S 0 []]⟩
  |_=>s
 |_=>s
theorem Fs.set{n:Nat}:∀{l:List D}{x:Nat},l[x]?=some (.v (.slice none 0 0))->Fs n l (l.set x (.own n 0))
 |[],x,h=>by grind
 |d::l,0,h=>by grind[Fs.cons,Ad.nil,Fs.refl]
 |d::l,x+1,h=>Fs.cons (Ad.refl n d) (Fs.set (by simp_all))
theorem ux.set{n S v:Nat}{l l':List D}(hl:Fs n l l'):∀{m:List Ent}{id:Nat},m[id]?=some (.live S v l)->ux n m (m.set id (.live S v l'))
 |[],id,h=>by grind
 |e::m,0,h=>by grind[ux.cons,XE.live,ux.refl]
 |e::m,id+1,h=>ux.cons (XE.refl n e) (ux.set hl (by simp_all))
theorem AN{P:Program}{N:Nat}{c:C}{K:Exit->St->Prop}{S id x:Nat}{s:St}(h:Tm.T P N c K (QF S id x s)):Tm.T P N c K s:=by
 unfold QF at h;split at h
 .rename_i S' v l hm;split at h
  .rename_i hx;exact T.BW S (Fs.refl _ _) (ux.set (Fs.set hx) hm) h
  omega
 omega
def Oy(S id:Nat):Nat->St->St
 |0,s=>s
 |x+1,s=>QF S id x (Oy S id x s)
theorem aF{P:Program}{N:Nat}{c:C}{K:Exit->St->Prop}{S id:Nat}:∀{x:Nat}{s:St},Tm.T P N c K (Oy S id x s)->Tm.T P N c K s
 |0,s,h=>h
 |x+1,s,h=>aF (x:=x) (AN h)
def makS:RI->Option Nat
 |.op _ none (.alloc S _)=>some S
 |.op _ none (.box S _)=>some S
 |.op _ none (.bslice S _ _ _)=>some S
 |_=>none
def X9:RI->Bool
 |.op _ _ i=>Jac i.cls 2
 |_=>false
def places:List RI->Nat->List (Option Nat)
 |[],_=>[]
 |r::l,n=>
  match makS r with
  |some _=>bif l.any X9 then some n::places l (n+1)else none::places l n
  |none=>none::places l n
def lent(m:List Ent) (d:D):Option D:=
 bif flat d then some d else
 match d with
 |.own id Ja=>
  match m[id]? with
  |some (.live S v l)=>bif Jac v Ja&&xF l then some (.sl S l)else none
  |_=>none
 |_=>none
def yB(id Ja:Nat) (d:D):D:=
 match d with
 |.ref i v x s=>bif Jac i id&&Jac v Ja then .ref 0 0 x s else .dead
 |d=>bif na d then d else .dead
theorem WM{G G':Gh}{w:World}{id Ja:Nat}(hle:SubF G w G' w) (hr:∀x s u,VRel G w (.ref id Ja x s) u->VRel G' w (.ref 0 0 x s) u) {d:D}{u:Value}(h:VRel G w d u):VRel G' w (yB id Ja d) u:=by
 unfold yB;split
 .rename_i i v x s;cases hb:(Jac i id&&Jac v Ja)
  .simp[VRel]
  simp_all
 .cases hf:na d
  .simp[VRel]
  .exact h.free hle hf
section
variable {P:Program}
theorem NN{k id S Ja:Nat}{l l1:List D}{m m1:List Ent}{ds:List D}{d1:D}
 (hid:m[id]?=some (.live S Ja l)) (hl:ia l=true) (hm1:m1[0]?=some (.live S 0 l1))
 (h:CallT P k (ds.map (yB id Ja)) [.live S 0 l] λd m'=>d=d1/\m'=m1) :
 CallT P k ds m λd m'=>d=Cd 8 (m1.set 0 .gone) d1/\m'=m.set id (.live S Ja (l1.map (Cd 8 (m1.set 0 .gone)))):=by
 refine⟨h.1,λG w vs hv hi=>?_⟩;have hlen:id<m.length:=(yaa.1 hid).1;obtain⟨eV,eS,eN,eC,eB⟩:=hi.ent id _ hid;have hc0:SubF G w ⟨G.F,1,λ_=>G.B id,λ_=>0,λ_=>G.S id,λ_=>G.N id,λ_=>G.C id⟩ w:=⟨λ_ h=>h,λ_ _=>rfl⟩;have hv':=tn (G':=⟨G.F,1,λ_=>G.B id,λ_=>0,λ_=>G.S id,λ_=>G.N id,λ_=>G.C id⟩) (f:=yB id Ja) (λd u hu=>WM hc0 (λx s u hu=>by
  simp only[VRel]at hu⊢
  grind) hu) hv
 have hic:Inv ⟨G.F,1,λ_=>G.B id,λ_=>0,λ_=>G.S id,λ_=>G.N id,λ_=>G.C id⟩ w [.live S 0 l]:=by
  refine⟨rfl,hi.F,?_,?_,hi.gl.bare λ_ h=>h⟩
  .intro i e he
   cases i with
   |zero=>
    simp at he;subst he;refine⟨rfl,eS,eN,eC,?_⟩;rcases eB with h|⟨b,cs,T,h1,h2,h3,h4,h5⟩
    .simp_all
    .exact .inr ⟨b,cs,T,h1,h2,h3,h4,Sa.free hc0 rfl hl h5⟩
   |succ i=>simp at he
  grind
 have own0:∀b,Qc ⟨G.F,1,λ_=>G.B id,λ_=>0,λ_=>G.S id,λ_=>G.N id,λ_=>G.C id⟩ [.live S 0 l] b->G.B id=some b:=by
  rintro b ⟨i,e,he,-,hB⟩;omega
 refine(h.2 _ w vs hv' hic).mono ?_;rintro e w' ⟨v,d,m',G',rfl,⟨rfl,rfl⟩,hvd,hi',hs'⟩;obtain⟨fV,fS,fN,fC,fB⟩:=hi'.ent 0 _ hm1;have hlen1:0<m'.length:=(yaa.1 hm1).1;have live1:(Ent.live S Ja l).isLive=true:=rfl;obtain⟨sB,sS,sN,sC⟩:G'.B 0=G.B id/\G'.S 0=G.S id/\G'.N 0=G.N id/\G'.C 0=G.C id:=by
  rcases hs'.le.id 0 (Nat.lt_succ_self 0)with⟨_,h1,h2,h3,h4⟩|h
  all_goals simp_all
 have hget1:∀i x,(m'.set 0 .gone)[i]?=some x->(i=0/\x=.gone)\/(i≠0/\m'[i]?=some x):=by
  grind
 have hi2:Inv G' w' (m'.set 0 .gone):=by
  refine⟨by simpa using hi'.n,hi'.F,?_,?_,hi'.gl⟩
  .intro i x hx;rcases hget1 i x hx with⟨rfl,rfl⟩|⟨h0,hx⟩
   .trivial
   .exact hi'.ent i x hx
  .intro i j x y hx hy lx ly b hb hb';rcases hget1 i x hx with⟨rfl,rfl⟩|⟨h0,hx⟩
   .cases lx
   .rcases hget1 j y hy with⟨rfl,rfl⟩|⟨h1,hy⟩
    .cases ly
    .exact hi'.apart i j x y hx hy lx ly b hb hb'
 have out0:∀b,Qc G' (m'.set 0 .gone) b->Qc G' m' b/\G'.B 0≠some b:=by
  rintro b ⟨i,x,hx,lx,hB⟩;rcases hget1 i x hx with⟨rfl,rfl⟩|⟨h0,hx⟩
  .cases lx
  .exact⟨⟨i,x,hx,lx,hB⟩,λh=>h0 (hi'.apart i 0 x _ hx hm1 lx rfl b hB h)⟩
 have hF':∀b,(G'.F b\/Qc G' (m'.set 0 .gone) b)->b<w'.heap.size:=by
  rintro b (hb|hb)
  .exact hi'.F b hb
  .exact(Qc.lt hi2 hb).1
 have hrel:∀d u,VRel G' w' d u->VRel ⟨λb=>G'.F b\/Qc G' (m'.set 0 .gone) b,G.n,G.B,G.V,G.S,G.N,G.C⟩ w' (Cd 8 (m'.set 0 .gone) d) u:=by
  intro d u hu;have h0:=bD hi2 8 d u hu;refine VRel.free ?_ (bu _ _ _) h0;exact⟨λ_ h=>h,λ_ _=>rfl⟩
 have hle:Le G w ⟨λb=>G'.F b\/Qc G' (m'.set 0 .gone) b,G.n,G.B,G.V,G.S,G.N,G.C⟩ w':=
  ⟨λb hb=>.inl (hs'.le.F b hb),λb hb=>hs'.le.heap b hb,oaa _,λi _=>.inl (by simp)⟩
 have olt:∀i x,m[i]?=some x->x.isLive=true->∀b,G.B i=some b->b<w.heap.size/\¬G.F b:=λi x hx hl b hb=>(hi.ent i x hx).lt hl hb;have notO:∀i x,m[i]?=some x->x.isLive=true->i≠id->∀b,G.B i=some b->G.B id≠some b:=λi x hx hlx hne b hb hB=>hne (hi.apart i id x _ hx hid hlx live1 b hb hB);have hget:∀i x,(m.set id (.live S Ja (l1.map (Cd 8 (m'.set 0 .gone)))))[i]?=some x->(m[i]?=some x/\i≠id)\/(i=id/\x=.live S Ja (l1.map (Cd 8 (m'.set 0 .gone)))):=by
  grind
 refine⟨v,_,_,⟨λb=>G'.F b\/Qc G' (m'.set 0 .gone) b,G.n,G.B,G.V,G.S,G.N,G.C⟩,rfl,⟨rfl,rfl⟩,hrel _ _ hvd,⟨by simp[hi.n],hF',?_,?_,hi'.gl.bare λ_ h=>.inl h⟩,⟨hle,hs'.os,hs'.tape,hs'.output,hs'.size,?_,?_,?_⟩⟩
 .intro i x hx;rcases hget i x hx with⟨h1,h2⟩|⟨rfl,rfl⟩
  .by_cases hlx:x.isLive=true
   .refine(hi.ent i x h1).mono hle (by simp) (λb hb=>?_) (λb hb _ hF=>?_)
    .exact hs'.keep b (olt i x h1 hlx b hb).1 λho=>notO i x h1 hlx h2 b hb (own0 b ho)
    .rcases hF with hF|hF
     .rcases hs'.newF b (olt i x h1 hlx b hb).1 hF with h|h
      all_goals grind
     .exact(notO i x h1 hlx h2 b hb (own0 b (hs'.newB b (olt i x h1 hlx b hb).1 (out0 b hF).1))).elim
   .cases x with
    |gone=>trivial
    |_=>grind[Ent.isLive]
  .refine⟨eV,eS,by simp_all,by simp_all,?_⟩
   grind[Hn]
 .intro i j x y hx hy lx ly b hb hb';rcases hget i x hx with⟨h1,h2⟩|⟨rfl,rfl⟩<;>rcases hget j y hy with⟨h3,h4⟩|⟨rfl,rfl⟩
  .exact hi.apart i j x y h1 h3 lx ly b hb hb'
  all_goals grind
 .intro b hb hno;exact hs'.keep b hb λho=>hno ⟨id,_,hid,live1,own0 b ho⟩
 .intro b hb hF;rcases hF with hF|hF
  .rcases hs'.newF b hb hF with h|h
   all_goals grind
  .exact .inr ⟨id,_,hid,live1,own0 b (hs'.newB b hb (out0 b hF).1)⟩
 .rintro b hb ⟨i,x,hx,lx,hB⟩;rcases hget i x hx with⟨h1,h2⟩|⟨rfl,rfl⟩
  .exact⟨i,x,h1,lx,hB⟩
  .exact⟨i,_,hid,live1,hB⟩
end
def Gv(q:Nat):List (List Nat):=(uaa q).map uaa
theorem lH{q:Nat}:∀j,j<q->∀i,i<j->i∈(Gv q).getD j []:=by
 grind[Gv]
end Go.Tm
