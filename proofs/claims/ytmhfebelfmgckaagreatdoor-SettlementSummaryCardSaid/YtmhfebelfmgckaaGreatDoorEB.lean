/-
  The engine: a part of the proof that trees of values are carried along by the program: no condition.
-/
import Derived.Test.YtmhfebelfmgckaaGreatDoorEA
import Derived.Orders
open Go renaming Value->a38,World->a39,Operand->a41,Program->a42
open Option renaming some->M,none->q6
open Decidable renaming decide->s5
open Go.Tm.D renaming dead->d!
open Go.Tm.Ent renaming live->k?
open Array renaming getD_eq_getD_getElem?->Qac,getElem?_eq_getElem->Cab,getElem?_replicate->Oad,length_toList->xac,range->Uad,replicate->Oab
open Bool renaming and_eq_true->E',or_eq_true->wad,true->a35,false->a36
open List renaming all_eq_true->R',append_nil->V!,drop_eq_getElem_cons->Yaa,drop_eq_nil_of_le->Aac,getD_cons_succ->Κ,getD_eq_getElem?_getD->Dac,getElem?_eq_getElem->n!,getElem?_eq_some_iff->Paa,getElem?_set->Rad,headD_nil->Rae,length_append->Χ,length_take->bac,map_cons->F?,mem_append->Β,mem_cons->Y',mem_range->uac,range->o?,replicate->l!,set_comm->Wae,size_toArray->Φ,tail_nil->Xae,take_succ_cons->gab
open List.cons renaming injEq->Bad
open Nat renaming beq->Oae,le_refl->x?,le_total->baf,le_trans->P',lt_of_lt_of_le->Ν,lt_or_ge->Ζ,strongRecOn->Xac,zero_add->Y?
open Option renaming bind_eq_some_iff->Zab,getD_some->Τ,map_eq_some_iff->A'
open Option.some renaming injEq->T!
open Prod.mk renaming injEq->H?
set_option linter.all false
namespace Go.Tm
open Go.RowKit (Below)
variable {K:Exit->St->Prop}{s s' sc s0:St}{code:Code}{i b S j n id k p Ta:Nat}{l:List RI}{cuts:List Nat}{d:D}{t:TypeId}{X:Type}{x y:a41}{F:Nat->Prop}{a:Act}{L:Nat->Bool}{e:Ent}{ops:Array Oper}{o:Oper}{r:RI}{listed:Array Bool}{os:List (D×List Ent)}{z:a38}
section
variable {P:a42}
structure y? (N:Nat) (G:Gh) (w:a39) (m:List Ent) (G':Gh) (w':a39) (m':List Ent):Prop where
 F:∀b,G.F b->G'.F b
 heap:∀b,G.F b->w'.heap[b]?=w.heap[b]?
 n:N<=G'.n
 id:∀i,i<N->(G'.V i=G.V i/\G'.B i=G.B i/\G'.S i=G.S i/\G'.N i=G.N i/\G'.C i=G.C i)\/G.V i<G'.V i
 os:w'.os=w.os
 tape:w'.tape=w.tape
 output:w'.output=w.output
 size:w.heap.size<=w'.heap.size
 keep:∀b,b<w.heap.size->¬Jg G m b->w'.heap[b]?=w.heap[b]?
 newF:∀b,b<w.heap.size->G'.F b->G.F b\/Jg G m b
 newB:∀b,b<w.heap.size->Jg G' m' b->Jg G m b
def Step.toN{N:Nat}{G G':Gh}{w w':a39}{m m':List Ent}(h:Step G w m G' w' m') (hN:N<=G.n):y? N G w m G' w' m':=
 ⟨h.le.F,h.le.heap,P' hN h.le.n,λi hi=>h.le.id i (Ν hi hN),h.os,h.tape,h.output,h.size,h.keep,h.newF,h.newB⟩
def y?.toStep{G G':Gh}{w w':a39}{m m':List Ent}(h:y? G.n G w m G' w' m'):Step G w m G' w' m':=
 ⟨⟨h.F,h.heap,h.n,h.id⟩,h.os,h.tape,h.output,h.size,h.keep,h.newF,h.newB⟩
theorem y?.refl{N:Nat}(G:Gh) (w:a39) (m:List Ent) (hN:N<=G.n):y? N G w m G w m:=(Step.refl G w m).toN hN
theorem y?.trans{N:Nat}{G G' c:Gh}{w w' e:a39}{m m' d:List Ent}(h:y? N G w m G' w' m') (k:y? N G' w' m' c e d):y? N G w m c e d where
 F b hb:=k.F b (h.F b hb)
 heap b hb:=(k.heap b (h.F b hb)).trans (h.heap b hb)
 n:=k.n
 id i hi:=by
  have h1:=h.id i hi;have h2:=k.id i hi
  grind
 os:=k.os.trans h.os
 tape:=k.tape.trans h.tape
 output:=k.output.trans h.output
 size:=P' h.size k.size
 keep b hb ho:=(k.keep b (Ν hb h.size) λa=>ho (h.newB b hb a)).trans (h.keep b hb ho)
 newF b hb f:=by
  rcases k.newF b (Ν hb h.size) f with a|a
  .exact h.newF b hb a
  .exact .inr (h.newB b hb a)
 newB b hb a:=h.newB b hb (k.newB b (Ν hb h.size) a)
def T(P:a42) (N:Nat) (c:C) (K:Exit->St->Prop) (s:St):Prop:=
 ∀code,k! P code=M c->∀(G:Gh) (w:a39) (a:Act),N<=G.n->p! G w a s->
  code.wp P (λe a' w'=>∃s' G',K e s'/\p! G' w' a' s'/\y? N G w s.m G' w' s'.m) a w
variable {N:Nat}
def T.mono{c:C}{K':Exit->St->Prop}(h:T P N c K s) (d:∀e s',K e s'->K' e s'):T P N c K' s:=
 λcode hc G w a hN hr=>Code.wp_mono (λ_ _ _ ⟨s',G',b,h2⟩=>⟨s',G',d _ _ b,h2⟩) (h code hc G w a hN hr)
theorem T.ghost{c:C}(j:∀(G:Gh) (w:a39) (a:Act),N<=G.n->p! G w a s->∃G',p! G' w a s'/\y? N G w s.m G' w s'.m) (h:T P N c K s'):T P N c K s:=by
 intro code hc G w a hN hr;obtain⟨G',e,b⟩:=j G w a hN hr;exact Code.wp_mono (λ_ _ _ ⟨f,d,g,h2,i⟩=>⟨f,d,g,h2,b.trans i⟩) (h code hc G' w a b.n e)
theorem V6(h:k! P code=M .skip):code=.skip\/∃l,code=.label l:=by
 cases code with
 |region id ops draw=>
  cases draw with
  |false=>simp[k!]at h
  |true=>grind[k!]
 |seq a b=>grind[k!]
 |cond c a b=>grind[k!]
 |skip=>simp
 |label l=>simp
 |_=>simp[k!]at h
theorem as6(h:k! P code=M .ret):code=.ret:=by
 cases code with
 |region id ops draw=>
  cases draw with
  |false=>simp[k!]at h
  |true=>grind[k!]
 |seq a b=>grind[k!]
 |cond c a b=>grind[k!]
 |ret=>rfl
 |_=>simp[k!]at h
theorem T6(h:k! P code=M (.exit i)):code=.exit i:=by
 cases code with
 |region id ops draw=>
  cases draw with
  |false=>simp[k!]at h
  |true=>grind[k!]
 |seq a b=>grind[k!]
 |cond c a b=>grind[k!]
 |exit j=>grind[k!]
 |_=>simp[k!]at h
theorem HU(h:k! P code=M (.sT l)):∃id ops,code=.region id ops a36/\Ni P ops ops.toList=M l:=by
 cases code with
 |region id ops draw=>
  cases draw with
  |true=>grind[k!]
  |false=>simp[k!]at h;grind
 |seq a b=>grind[k!]
 |cond c a b=>grind[k!]
 |_=>simp[k!]at h
theorem tJ{q:Nat}(h:k! P code=M (.draw q l)):∃id ops,code=.region id ops a35/\Ni P ops ops.toList=M l/\wJ (Nb ops) l q=a35:=by
 cases code with
 |region id ops draw=>
  cases draw with
  |false=>simp[k!]at h
  |true=>
   simp only[k!]at h
   grind
 |seq a b=>grind[k!]
 |cond c a b=>grind[k!]
 |_=>simp[k!]at h
theorem as7{q:Nat}{bs:List (List Nat)}(h:k! P code=M (.any cuts q bs l)):∃id ops,code=.region id ops a35/\bs=Nb ops/\Ni P ops ops.toList=M l/\IT (Nb ops) l cuts q=a35:=by
 cases code with
 |region id ops draw=>
  cases draw with
  |false=>simp[k!]at h
  |true=>
   simp only[k!]at h
   grind
 |seq a b=>grind[k!]
 |cond c a b=>grind[k!]
 |_=>simp[k!]at h
theorem as5{c d:C}(h:k! P code=M (.seq c d)):∃x y,code=.seq x y/\k! P x=M c/\k! P y=M d:=by
 cases code with
 |region id ops draw=>
  cases draw with
  |false=>simp[k!]at h
  |true=>grind[k!]
 |seq a b=>
  simp only[k!]at h
  grind
 |cond c a b=>grind[k!]
 |_=>simp[k!]at h
theorem S6{t:a41}{c d:C}(h:k! P code=M (.cond t c d)):∃x y,code=.cond t x y/\k! P x=M c/\k! P y=M d:=by
 cases code with
 |region id ops draw=>
  cases draw with
  |false=>simp[k!]at h
  |true=>grind[k!]
 |seq a b=>grind[k!]
 |cond t' a b=>
  grind[k!]
 |_=>simp[k!]at h
theorem gY{c:C}(h:k! P code=M (.block i c)):∃x,code=.block i x/\k! P x=M c:=by
 cases code with
 |region id ops draw=>
  cases draw with
  |false=>simp[k!]at h
  |true=>grind[k!]
 |seq a b=>grind[k!]
 |cond c a b=>grind[k!]
 |block j b=>simp_all[k!]
 |_=>simp[k!]at h
theorem U6{c:C}(h:k! P code=M (.loop c)):∃x,code=.loop x/\k! P x=M c:=by
 cases code with
 |region id ops draw=>
  cases draw with
  |false=>simp[k!]at h
  |true=>grind[k!]
 |seq a b=>grind[k!]
 |cond c a b=>grind[k!]
 |loop b=>simp[k!]at h;simp_all
 |_=>simp[k!]at h
theorem T.skip{K:Exit->St->Prop}{s:St}(h:K .normal s):T P N .skip K s:=by
 intro code hc G w a hN hr;rcases V6 hc with rfl|⟨l,rfl⟩
 all_goals grind[wp_skip,y?.refl,wp_label]
theorem T.ret{K:Exit->St->Prop}{s:St}(h:K .ret s):T P N .ret K s:=by
 intro code hc G w a hN hr;obtain rfl:=as6 hc
 grind[wp_ret,y?.refl]
theorem T.exit{id:Nat}{K:Exit->St->Prop}{s:St}(h:K (.exit id) s):T P N (.exit id) K s:=by
 intro code hc G w a hN hr;obtain rfl:=T6 hc
 grind[wp_exit,y?.refl]
theorem T.sT{l:List RI}{K:Exit->St->Prop}{s:St}(h:Ym P l (K .normal) s):T P N (.sT l) K s:=by
 intro code hc G w a hN hr;obtain⟨id,ops,rfl,b⟩:=HU hc;exact wp_region_list (pH b h hr λs' G' w' a' c h2 d=>⟨s',G',c,h2,d.toN hN⟩)
theorem T.seq{c d:C}{K:Exit->St->Prop}{s:St}(h:T P N c (λe s'=>match e with|.normal=>T P N d K s'|e=>K e s') s):T P N (.seq c d) K s:=by
 intro code hc G w a hN hr;obtain⟨x,y,rfl,k,h2⟩:=as5 hc;refine wp_seq (Code.wp_mono ?_ (h x k G w a hN hr));rintro e a' w' ⟨s',G',j,f,b⟩
 cases e with
 |normal=>exact Code.wp_mono (λ_ _ _ ⟨i,g,l,m,k3⟩=>⟨i,g,l,m,b.trans k3⟩) (j y h2 G' w' a' b.n f)
 |_=>exact⟨s',G',j,f,b⟩
theorem T.cond{c:a41}{x y:C}{t:Bool}{K:Exit->St->Prop}{s:St}(ht:s.ev c=.v (.bool t)) (b:t=a35->T P N x K s) (h2:t=a36->T P N y K s):T P N (.cond c x y) K s:=by
 intro code hc G w a hN hr;obtain⟨d,f,rfl,e1,e2⟩:=S6 hc;have hv:=hr.ev c;rw[ht]at hv;simp only[VRel]at hv;exact wp_cond_split hv (λe=>b e d e1 G w a hN hr) (λe=>h2 e f e2 G w a hN hr)
theorem T.block{id:Nat}{x:C}{K:Exit->St->Prop}{s:St}(h:T P N x (λe s'=>match e with|.exit c=>if c=id then K .normal s' else K (.exit c) s'|e=>K e s') s):T P N (.block id x) K s:=by
 intro code hc G w a hN hr;obtain⟨b,rfl,hx⟩:=gY hc;refine wp_block (Code.wp_mono ?_ (h b hx G w a hN hr));rintro e a' w' ⟨s',G',g,d,f⟩
 cases e with
 |exit j=>
  simp only[Exit.inBlock]
  grind
 |_=>exact⟨s',G',g,d,f⟩
theorem Y!{c:Code}{Q:Exit->Act->a39->Prop}(j8:X->Act->a39->Prop) (μ:X->Nat)
 (round:∀x a w,j8 x a w->c.wp P (Exit.then (λa' w'=>∃y,j8 y a' w'/\μ y<μ x) Q) a w):∀(x:X) (a:Act) (w:a39),j8 x a w->(Code.loop c).wp P Q a w:=by
 intro x₀ a₀ w₀ h₀ b k cs;have key:∀n (x:X) a w,μ x=n->j8 x a w->
  ∃e a' w',Q e a' w'/\Arrives P (lone (b.at a (.code c::.inLoop c::k)) cs w) b k cs e a' w':=by
  intro n
  induction n using Xac with
  |_ n h=>
   intro x a w hn g;obtain⟨e,a₁,w₁,hq,d⟩:=round x a w g b (.inLoop c::k) cs
   cases e with
   |normal=>
    obtain⟨y,hI₁,f⟩:=hq;obtain⟨e₂,a₂,w₂,hq₂,harr₂⟩:=h (μ y) (hn▸f) y a₁ w₁ rfl hI₁;exact⟨e₂,a₂,w₂,hq₂,.of_steps (Steps.trans d (.one step_inLoop)) harr₂⟩
   |exit id=>exact⟨_,a₁,w₁,hq,.pass (x:=.inLoop c) rfl (λ_ _=>.inl l5) d⟩
   |goto l=>exact⟨_,a₁,w₁,hq,.pass (x:=.inLoop c) rfl (λ_ _=>.inl l5) d⟩
   |ret=>exact⟨_,a₁,w₁,hq,.pass (x:=.inLoop c) rfl (λ_ _=>.inl l5) d⟩
   |panic ch=>exact⟨_,a₁,w₁,hq,.pass (x:=.inLoop c) rfl (λ_ _=>.inl l5) d⟩
   |outgrown=>exact⟨_,a₁,w₁,hq,.pass (x:=.inLoop c) rfl (λ_ _=>.inl l5) d⟩
 obtain⟨e,a',w',hq,d⟩:=key _ x₀ a₀ w₀ rfl h₀;exact⟨e,a',w',hq,.of_steps (.one step_loop) d⟩
theorem T.loopI{x:C}(j8:X->St->Prop) (μ:X->Nat) (x₀:X) (j:j8 x₀ s)
 (round:∀y s,j8 y s->T P N x (λe s'=>match e with|.normal=>∃z,j8 z s'/\μ z<μ y|e=>K e s') s):T P N (.loop x) K s:=by
 intro code hc G w a hN hr;obtain⟨b,rfl,hx⟩:=U6 hc;refine Y! (j8:=λ(y:X) a' w'=>∃s' G',j8 y s'/\p! G' w' a' s'/\y? N G w s.m G' w' s'.m) μ ?_ x₀ a w ⟨s,G,j,hr,y?.refl _ _ _ hN⟩;rintro y a1 o ⟨s1,i,l,g,c⟩;refine Code.wp_mono ?_ (round y s1 l b hx i o a1 c.n g);rintro e a' w' ⟨s',G',h,d,f⟩
 cases e with
 |normal=>obtain⟨z,k,h2⟩:=h;exact⟨z,⟨s',G',k,d,c.trans f⟩,h2⟩
 |_=>exact⟨s',G',h,d,c.trans f⟩
def JA(s:St):RV->Option D
 |.tmp t=>M (s.t.getD t d!)
 |.cell A n a=>
  match fa s (.load A n (.tmp a))with
  |some (d,_)=>M d
  |none=>q6
def Rb(s:St):List RV->Option (List D)
 |[]=>M []
 |r::l=>
  match JA s r,Rb s l with
  |some d,M ds=>M (d::ds)
  |_,_=>q6
def Ot:List D->D
 |[d]=>d
 |l=>.tup l
def uT(tmps:Array a38):ResultVar->Sem a38
 |.tmp t=>pure (tmps.getD t undef)
 |.cell a t=>do loadVar t (←asAddr (tmps.getD a undef))
theorem CZ(fn:Func) (tmps:Array a38):results fn tmps=(do let vs←fn.results.mapM (uT tmps);pure (if h:vs.size=1 then vs[0]else .tuple vs)):=by
 unfold results;rfl
theorem EW:∀{l:List ResultVar}{rl:List RV}{s:St}{G:Gh}{w:a39}{a:Act}{ds:List D},RC P l=M rl->p! G w a s->Rb s rl=M ds->
 ∃us:List a38,(l.mapM (uT a.tmps)).run P w=.ok us w/\VsRel G w ds us
 |[],rl,s,G,w,a,ds,hc,hr,hd=>by
  simp only[RC]at hc;injection hc with hc;subst hc;simp only[Rb]at hd;injection hd with hd;subst hd;exact⟨[],l5,by simp[VsRel]⟩
 |r::l,rl,s,G,w,a,ds,hc,hr,hd=>by
  simp only[RC]at hc;split at hc
  .rename_i x y c h2;injection hc with hc;subst hc;simp only[Rb]at hd;split at hd
   .rename_i d ds' b f;injection hd with hd;subst hd;obtain⟨us,hrun,hv⟩:=EW h2 hr f
    cases r with
    |tmp t=>
     simp only[fY]at c;injection c with c;subst c;simp only[JA]at b;injection b with b;subst b;have hx:=hr.ev (.tmp t);simp only[St.ev,Act.eval]at hx;refine⟨a.tmps.getD t undef::us,?_,by simp only[VsRel];grind⟩
     grind[uT,Sem.run_bind,Sem.run_pure,Result.andThen_ok]
    |cell p t=>
     simp only[fY,A']at c;obtain⟨q,hq,rfl⟩:=c;simp only[JA]at b;split at b
     .rename_i e m0 he;injection b with b;subst b;obtain⟨ad,u,g,hrl,hvd,-⟩:=SN (P:=P) hr hq he;simp only[Act.eval]at g;refine⟨u::us,?_,by simp only[VsRel];grind⟩
      grind[uT,asAddr,Sem.run_bind,Sem.run_pure,Result.andThen_ok]
     simp_all
   simp_all
  simp_all
def JG(rs:List RV) (R:D->List Ent->Prop):Exit->St->Prop
 |.normal,s=>∃ds,Rb s rs=M ds/\R (Ot ds) s.m
 |.ret,s=>∃ds,Rb s rs=M ds/\R (Ot ds) s.m
 |_,_=>False
theorem ay4{G:Gh}{w:a39}{ds:List D}{us:List a38}(h:VsRel G w ds us):VRel G w (Ot ds) (if h:us.toArray.size=1 then us.toArray[0]else .tuple us.toArray):=by
 match ds,h with
 |[],h=>
  simp only[VsRel]at h;subst h;simp only[Φ,List.length_nil,Ot];rw[dif_neg o4];simp only[VRel,VsRel];simp
 |[d],h=>
  simp only[VsRel]at h;obtain⟨u,r,rfl,hv,rfl⟩:=h
  grind[Ot]
 |d::e::l,h=>
  have hl:=h.length;rw[dif_neg l4];simp only[Ot,VRel]
  simp_all
theorem lL{fn:Func}{F:Fun}{G:Gh}{w:a39}{ds:List D}(hc:RC P fn.results.toList=M F.results) (hr:p! G w a s) (hd:Rb s F.results=M ds) :
 ∃v,(results fn a.tmps).run P w=.ok v w/\VRel G w (Ot ds) v:=by
 obtain⟨us,hrun,hv⟩:=EW hc hr hd;refine⟨_,?_,ay4 hv⟩
 grind[CZ,Array.mapM_eq_mapM_toList,Sem.run_bind,Sem.run_map,Result.andThen_ok,Sem.run_pure]
theorem PT(G:Gh) (w:a39):∀n,VsRel G w (l! n d!) (l! n undef)
 |0=>by simp[VsRel]
 |n+1=>by simp only[List.replicate_succ,VsRel];exact⟨_,_,rfl,J',PT G w n⟩
theorem Nn{f:FuncId}{F:Fun}{ds:List D}{m:List Ent}{R:D->List Ent->Prop}(g:TB P f=M F) (hname:((P.funcs[f]?).map λfn=>fn.name == "runtime.NumGoroutine")=M a36)
 (h:T P m.length F.code (JG F.results R) ⟨ds++l! (F.ntmps-ds.length) d!,m⟩):CallT P f ds m R:=by
 unfold TB at g;split at g
 .rename_i fn i;split at g
  .rename_i b r hb k;simp only[A']at g;obtain⟨c,hc,rfl⟩:=g;refine⟨⟨fn,i,l4,l4⟩,λG w vs hv hi=>?_⟩;refine calls_of_wp i hb ?_;have j:=hv.length;have hr:p! G w { tmps:=vs.toArray++Oab (fn.ntmps-vs.toArray.size) undef,defers:=[] } ⟨ds++l! (fn.ntmps-ds.length) d!,m⟩:=by
    refine⟨?_,hi,rfl⟩;simp only[Array.toList_append,Array.toList_replicate,Φ,j];exact hv.append (PT _ _ _)
   refine Code.wp_mono ?_ (h b hc G w _ (by rw[hi.n];omega) hr);rintro e a' w' ⟨s',G',p,a,o⟩;have s:Step G w m G' w' s'.m:=by rw[←hi.n]at o;exact o.toStep
   have fin:(∃ds,Rb s' r=M ds/\R (Ot ds) s'.m)->a'.defers=[]/\∃v,(results fn a'.tmps).run P w'=.ok v w'/\∃v_1 d m' G',Ending.returned v=.returned v_1/\R d m'/\VRel G' w' d v_1/\Inv G' w' m'/\Step G w m G' w' m':=by
    rintro⟨es,q,u⟩;obtain⟨v,l,t⟩:=lL (F:=⟨fn.ntmps,r,c⟩) k a q;exact⟨a.defers,v,l,v,_,_,G',rfl,u,t,a.inv,s⟩
   cases e with
   |normal=>exact fin p
   |ret=>exact fin p
   |_=>exact p.elim
  simp_all
 simp_all
end
structure V' (G:Gh) (w:a39) (G':Gh) (w':a39):Prop where
 F:∀b,G.F b->G'.F b
 heap:∀b,G.F b->w'.heap[b]?=w.heap[b]?
mutual
theorem VRel.free{G G':Gh}{w w':a39}(c:V' G w G' w'):∀{d:D}{u:a38},xa d=a35->VRel G w d u->VRel G' w' d u
 |.v x,u,_,h=>by simpa [VRel] using h
 |.agg l,u,hf,h=>by
  simp only[VRel,xa]at h hf⊢;obtain⟨cs,rfl,h,g⟩:=h;exact⟨cs,rfl,VsRel.free c hf h,g⟩
 |.tup l,u,hf,h=>by
  simp only[VRel,xa]at h hf⊢;obtain⟨cs,rfl,h⟩:=h;exact⟨cs,rfl,VsRel.free c hf h⟩
 |.sl S l,u,hf,h=>by
  simp only[VRel,xa]at h hf⊢;obtain⟨a,n,cap,rfl,hn,hc,h⟩:=h;refine⟨a,n,cap,rfl,hn,hc,?_⟩;rcases h with h|⟨b,off,rfl,e,hr⟩
  .simp_all
  .exact .inr ⟨b,off,rfl,c.F b e,Va.free c (c.heap b e) hf hr⟩
 |.pt d,u,hf,h=>by
  simp only[VRel,xa]at h hf⊢;obtain⟨b,off,x,rfl,e,hd,i⟩:=h;exact⟨b,off,x,rfl,c.F b e,VRel.free c hf hd,i.mono (c.heap b e)⟩
 |.fn f first caps,u,hf,h=>by
  simp only[VRel,xa,E']at h hf⊢;obtain⟨fs,cs,rfl,g,h2⟩:=h;exact⟨fs,cs,rfl,VsRel.free c hf.1 g,VsRel.free c hf.2 h2⟩
 |.ifc t d,u,hf,h=>by
  simp only[VRel,xa]at h hf⊢;obtain⟨x,rfl,h⟩:=h;exact⟨x,rfl,VRel.free c hf h⟩
 |d!,u,_,h=>J'
 |.ref ..,_,hf,_=>by grind[xa]
 |.own ..,_,hf,_=>by grind[xa]
 |.view ..,_,hf,_=>by grind[xa]
 |.mp _,_,hf,_=>by grind[xa]
theorem VsRel.free{G G':Gh}{w w':a39}(a:V' G w G' w'):∀{l:List D}{us:List a38},oa l=a35->VsRel G w l us->VsRel G' w' l us
 |[],us,_,h=>by simpa [VsRel] using h
 |d::l,us,hf,h=>by
  simp only[VsRel,oa,E']at h hf⊢;obtain⟨u,r,rfl,b,h2⟩:=h;exact⟨u,r,rfl,VRel.free a hf.1 b,VsRel.free a hf.2 h2⟩
theorem Va.free{G G':Gh}{w w':a39}(a:V' G w G' w') {b S:Nat}(hb:w'.heap[b]?=w.heap[b]?) :
 ∀{l:List D} {off:Nat},oa l=a35->Va G w b S l off->Va G' w' b S l off
 |[],off,_,h=>by simp[Va]
 |d::l,off,hf,h=>by
  simp only[Va,oa,E']at h hf⊢;obtain⟨⟨u,c,h2,e⟩,f⟩:=h;exact⟨⟨u,VRel.free a hf.1 c,h2,e.mono hb⟩,Va.free a hb hf.2 f⟩
end
def Ig:Nat->List Ent->D->D
 |0,_,_=>d!
 |k+1,m,d=>
  match d with
  |.agg l=>.agg (l.map (Ig k m))
  |.tup l=>.tup (l.map (Ig k m))
  |.sl S l=>if oa l then d else .sl S (l.map (Ig k m))
  |.pt d=>.pt (Ig k m d)
  |.own id Ta=>
   match m[id]? with
   |some (k? S c l)=>if c=Ta then .sl S (if oa l then l else l.map (Ig k m))else d!
   |_=>d!
  |.view id Ta lo n=>
   match m[id]? with
   |some (k? S c l)=>if c=Ta/\lo+n<=l.length then .sl S (((if oa l then l else l.map (Ig k m)).drop lo).take n)else d!
   |_=>d!
  |.ref id Ta x s=>
   match m[id]? with
   |some (k? _ c l)=>if c=Ta/\s=0 then(match l[x]? with|some e=>.pt (Ig k m e)|none=>d!)else d!
   |_=>d!
  |.fn f a b=>.fn f (a.map (Ig k m)) (b.map (Ig k m))
  |.v x=>.v x
  |_=>d!
theorem SK{f:D->D}(h:∀d,xa (f d)=a35):∀l:List D,oa (l.map f)=a35
 |[]=>rfl
 |d::l=>by simp[oa,h d,SK h l]
theorem bm:∀{l:List D},oa l=a35↔∀d∈l,xa d=a35
 |[]=>by simp[oa]
 |d::l=>by simp[oa,bm (l:=l)]
theorem DF:∀(k:Nat) (m:List Ent) (d:D),xa (Ig k m d)=a35
 |0,m,d=>rfl
 |k+1,m,d=>by
  have ih:=SK (DF k m)
  cases d with
  |agg l=>grind[Ig,xa]
  |tup l=>grind[Ig,xa]
  |sl S l=>
   grind[Ig,xa]
  |pt d=>simpa [Ig,xa] using DF k m d
  |own id Ta=>
   grind[Ig,xa]
  |view id Ta lo n=>
   grind[Ig,xa,bm]
  |ref id Ta x s=>
   simp only[Ig];split
   .split
    .split
     .simpa [xa] using DF k m _
     .rfl
    .rfl
   .rfl
  |fn f a b=>grind[Ig,xa]
  |_=>rfl
def Gh.Ig(G:Gh) (m:List Ent):Gh:={ G with F:=λb=>G.F b\/Jg G m b }
def zE{G:Gh}{w:a39}{m:List Ent}:V' G w (G.Ig m) w:=⟨λ_ h=>.inl h,λ_ _=>rfl⟩
theorem Dx{G:Gh}{w:a39}{G':Gh}{f:D->D}(h:∀d u,VRel G w d u->VRel G' w (f d) u):∀{l:List D}{us:List a38},VsRel G w l us->VsRel G' w (l.map f) us
 |[],us,hv=>by simpa [VsRel] using hv
 |d::l,us,hv=>by
  simp only[VsRel,F?]at hv⊢;obtain⟨u,r,rfl,a,h2⟩:=hv;exact⟨u,r,rfl,h d u a,Dx h h2⟩
theorem Gy{G:Gh}{w:a39}{G':Gh}{f:D->D}(h:∀d u,VRel G w d u->VRel G' w (f d) u) {b S:Nat}:∀{l:List D}{off:Nat},Va G w b S l off->Va G' w b S (l.map f) off
 |[],off,hv=>by simp[Va]
 |d::l,off,hv=>by
  simp only[Va,F?]at hv⊢;obtain⟨⟨u,a,h2,c⟩,e⟩:=hv;exact⟨⟨u,h d u a,h2,c⟩,Gy h e⟩
theorem qV{G:Gh}{w:a39}{m:List Ent}(hi:Inv G w m):∀(k:Nat) (d:D) (u:a38),VRel G w d u->VRel (G.Ig m) w (Ig k m d) u
 |0,d,u,_=>by simp[Ig,VRel]
 |k+1,d,u,hv=>by
  have y:=qV hi k
  cases d with
  |v x=>simpa [Ig,VRel] using hv
  |agg l=>
   simp only[Ig,VRel]at hv⊢;obtain⟨cs,rfl,A,h2⟩:=hv;exact⟨cs,rfl,Dx y A,h2⟩
  |tup l=>
   simp only[Ig,VRel]at hv⊢;obtain⟨cs,rfl,A⟩:=hv;exact⟨cs,rfl,Dx y A⟩
  |sl S l=>
   simp only[Ig];split
   .rename_i hf;exact hv.free zE (by grind[xa])
   .simp only[VRel]at hv⊢;obtain⟨a,n,cap,rfl,hn,hc,h⟩:=hv;refine⟨a,n,cap,rfl,l4,hc,?_⟩;rcases h with h|⟨b,off,rfl,z,hr⟩
    .simp_all
    .exact .inr ⟨b,off,rfl,.inl z,Gy y hr⟩
  |pt d=>
   simp only[Ig,VRel]at hv⊢;obtain⟨b,off,x,rfl,z,hd,K⟩:=hv;exact⟨b,off,x,rfl,.inl z,y d x hd,K⟩
  |own id Ta=>
   simp only[Ig];split
   .rename_i S r l hm;split
    .rename_i j;subst j;simp only[VRel]at hv⊢;obtain⟨p,n,c,rfl,B,q,hx⟩:=hv;obtain⟨a1,a2,a3,a4,a5⟩:=hi.ent _ _ hm;obtain⟨rfl,rfl,rfl⟩:=hx a1;have E:(if oa l=a35 then l else l.map (Ig k m)).length=l.length:=o0
     refine⟨_,_,_,rfl,U,U,?_⟩
     .rcases a5 with a5|⟨H,cs,T,g,z,o,F,i⟩
      .simp_all
      .refine .inr ⟨H,(G.C id).2,l4,.inr ⟨id,_,hm,rfl,g⟩,?_⟩;split
       .rename_i hf;exact i.free zE rfl hf
       grind[Gy]
    .simp[VRel]
   .simp[VRel]
  |view id Ta lo n=>
   simp only[Ig];split
   .rename_i S r l hm;split
    .rename_i j;obtain⟨rfl,hle⟩:=j;simp only[VRel]at hv⊢;obtain⟨p,c,rfl,I,B,q,hx⟩:=hv;obtain⟨a1,a2,a3,a4,a5⟩:=hi.ent _ _ hm;have E:(if oa l=a35 then l else l.map (Ig k m)).length=l.length:=o0
     have t:(((if oa l=a35 then l else l.map (Ig k m)).drop lo).take n).length=n:=by
      grind
     refine⟨p,n,c,rfl,t.symm,I,?_⟩
     .rcases hx a1 with rfl|⟨b,hb,rfl⟩
      .simp
      .rcases a5 with a5|⟨H,cs,T,g,z,o,F,i⟩
       .simp_all
       .rw[hb]at g;injection g with g;subst g;refine .inr ⟨b,lo*S+(G.C id).2,by rw[a2],.inr ⟨id,_,hm,rfl,hb⟩,?_⟩;have:Va (G.Ig m) w b S (if oa l=a35 then l else l.map (Ig k m)) (G.C id).2:=by
         split
         .rename_i hf;exact i.free zE rfl hf
         grind[Gy]
        grind[pA,oA]
    .simp[VRel]
   .simp[VRel]
  |ref id Ta x s=>
   simp only[Ig];split
   .rename_i S r l hm;split
    .rename_i j;obtain⟨rfl,rfl⟩:=j;split
     .rename_i e he;simp only[VRel]at hv⊢;obtain⟨p,rfl,B,q,hx⟩:=hv;obtain⟨a1,a2,a3,a4,a5⟩:=hi.ent _ _ hm;obtain⟨b,hb,rfl⟩:=hx a1;rcases a5 with a5|⟨H,cs,T,g,z,o,F,i⟩
      .simp_all
      .rw[hb]at g;injection g with g;subst g;obtain⟨j8,g1,g2,g3⟩:=ag.1 i x e he;refine⟨b,_,j8,rfl,.inr ⟨id,_,hm,rfl,hb⟩,y e j8 g1,?_⟩
       grind
     .simp[VRel]
    .simp[VRel]
   .simp[VRel]
  |fn f a b=>
   simp only[Ig,VRel]at hv⊢;obtain⟨fs,cs,rfl,A,h2⟩:=hv;exact⟨fs,cs,rfl,Dx y A,Dx y h2⟩
  |_=>simp[Ig,VRel]
def Gh.bare(F:Nat->Prop):Gh:=⟨F,0,λ_=>q6,λ_=>0,λ_=>0,λ_=>0,λ_=>(0,0)⟩
theorem o8{g:Nat}(h:gtab g=M d):xa d=a35:=by
 unfold gtab at h;split at h
 .injection h with h;subst h;rfl
 .cases h
theorem GOK.bare{G G':Gh}{w:a39}(h:GOK G w) (a:∀b,G.F b->G'.F b):GOK G' w:=λg d hd=>
 VRel.free (G:=G) (G':=G') ⟨a,λ_ _=>rfl⟩ (d:=.pt d) (by grind[xa,o8]) (h g d hd)
theorem iI{w:a39}(h:∀b,F b->b<w.heap.size) (a:GOK (Gh.bare F) w):Inv (Gh.bare F) w []:=
 ⟨rfl,h,λi e he=>by simp at he,λi j e e' he=>l5,a⟩
theorem GF{G:Gh}:¬Jg G [] b:=λ⟨i,e,he,_⟩=>by simp at he
theorem FQ{G G':Gh}{w w':a39}{m m':List Ent}(hi:Inv G w m) (d:Step (Gh.bare F) w [] G' w' m') (l:Inv G' w' m') (o:∀b,G.F b->F b) :
 (∀b,b<w.heap.size->w'.heap[b]?=w.heap[b]?)/\
 (Inv G w' m/\Step G w m G w' m)/\
 ((∀b,F b->G.F b)->Inv { G with F:=λb=>G'.F b\/Jg G' m' b } w' m/\Step G w m { G with F:=λb=>G'.F b\/Jg G' m' b } w' m):=by
 have a:∀b,b<w.heap.size->w'.heap[b]?=w.heap[b]?:=λb hb=>d.keep b hb GF;have f:∀i x,m[i]?=M x->x.isLive=a35->∀k,G.B i=M k->k<w.heap.size:=λi x hx hl k hk=>((hi.ent i x hx).lt hl hk).1;refine⟨a,?_,λj=>?_⟩
 .have c:Le G w G w':=⟨λ_ h=>h,λb hb=>a b (hi.F b hb),x? _,λ_ _=>.inl ⟨rfl,rfl,rfl,rfl,rfl⟩⟩;refine⟨⟨hi.n,λb hb=>Ν (hi.F b hb) d.size,λi e he=>?_,hi.apart,hi.gl.mono c⟩,⟨c,d.os,d.tape,d.output,d.size,λb hb _=>a b hb,λ_ _ h=>.inl h,λ_ _ h=>h⟩⟩;by_cases hl:e.isLive=a35
  .exact(hi.ent i e he).mono c ⟨rfl,rfl,rfl,rfl,rfl⟩ (λb hb=>a b (f i e he hl b hb)) (λ_ _ _ h=>h)
  .cases e with
   |gone=>trivial
   |_=>grind[Ent.isLive]
 .have c:Le G w { G with F:=λb=>G'.F b\/Jg G' m' b } w':=⟨λb h=>.inl (d.le.F b (o b h)),λb hb=>a b (hi.F b hb),x? _,λ_ _=>.inl ⟨rfl,rfl,rfl,rfl,rfl⟩⟩;have g:∀b,b<w.heap.size->(G'.F b\/Jg G' m' b)->G.F b:=by
   intro b hb h;rcases h with h|h
   .rcases d.newF b hb h with h|h
    .exact j b h
    grind[GF]
   .exact(GF (d.newB b hb h)).elim
  refine⟨⟨hi.n,?_,λi e he=>?_,hi.apart,hi.gl.mono c⟩,⟨c,d.os,d.tape,d.output,d.size,λb hb _=>a b hb,λb hb h=>.inl (g b hb h),λ_ _ h=>h⟩⟩
  .rintro b (h|h)
   .exact l.F b h
   grind[Jg.lt]
  .by_cases hl:e.isLive=a35
   .exact(hi.ent i e he).mono c ⟨rfl,rfl,rfl,rfl,rfl⟩ (λb hb=>a b (f i e he hl b hb)) (λb hb _ h=>g b (f i e he hl b hb) h)
   .cases e with
    |gone=>trivial
    |_=>grind[Ent.isLive]
mutual
def flat:D->Bool
 |.v _=>a35
 |.agg l=>XQ l
 |.tup l=>XQ l
 |d!=>a35
 |_=>a36
def XQ:List D->Bool
 |[]=>a35
 |d::l=>flat d&&XQ l
end
mutual
theorem VRel.flat{G G':Gh}{w w':a39}:∀{d:D}{u:a38},flat d=a35->VRel G w d u->VRel G' w' d u
 |.v x,u,_,h=>by simpa [VRel] using h
 |.agg l,u,hf,h=>by
  simp only[VRel,Tm.flat]at h hf⊢;obtain⟨cs,rfl,h,a⟩:=h;exact⟨cs,rfl,VsRel.flat hf h,a⟩
 |.tup l,u,hf,h=>by
  simp only[VRel,Tm.flat]at h hf⊢;obtain⟨cs,rfl,h⟩:=h;exact⟨cs,rfl,VsRel.flat hf h⟩
 |d!,u,_,h=>J'
 |.sl ..,_,hf,_=>by grind[Tm.flat]
 |.pt ..,_,hf,_=>by grind[Tm.flat]
 |.fn ..,_,hf,_=>by grind[Tm.flat]
 |.ref ..,_,hf,_=>by grind[Tm.flat]
 |.own ..,_,hf,_=>by grind[Tm.flat]
 |.view ..,_,hf,_=>by grind[Tm.flat]
 |.mp _,_,hf,_=>by grind[Tm.flat]
 |.ifc ..,_,hf,_=>by grind[Tm.flat]
theorem VsRel.flat{G G':Gh}{w w':a39}:∀{l:List D}{us:List a38},XQ l=a35->VsRel G w l us->VsRel G' w' l us
 |[],us,_,h=>by simpa [VsRel] using h
 |d::l,us,hf,h=>by
  simp only[VsRel,XQ,E']at h hf⊢;obtain⟨u,r,rfl,a,h2⟩:=h;exact⟨u,r,rfl,VRel.flat hf.1 a,VsRel.flat hf.2 h2⟩
end
open Go.RowKit (Below)
mutual
def q':D->D->Prop
 |_,d!=>True
 |.v x,.sl _ l=>x=.slice q6 0 0/\l=[]
 |.agg l,.agg r=>ua l r
 |.tup l,.tup r=>ua l r
 |.sl S l,.sl S' r=>S=S'/\ua l r
 |d,e=>d=e
def ua:List D->List D->Prop
 |[],r=>r=[]
 |d::l,r=>∃e a,r=e::a/\q' d e/\ua l a
end
theorem ua.length:∀{l r:List D},ua l r->l.length=r.length
 |[],r,h=>by simp[ua]at h;simp[h]
 |d::l,r,h=>by
  simp only[ua]at h;obtain⟨e,r',rfl,_,h2⟩:=h;simp[ua.length h2]
mutual
theorem q'.rel{G:Gh}{w:a39}:∀{d e:D}{u:a38},q' d e->VRel G w d u->VRel G w e u
 |d,d!,u,_,_=>J'
 |.v x,.sl S l,u,f,h=>by
  simp only[q']at f;obtain⟨rfl,rfl⟩:=f;simp only[VRel]at h⊢
  grind
 |.agg l,.agg r,u,f,h=>by
  simp only[q']at f;simp only[VRel]at h⊢;obtain⟨cs,rfl,h,g⟩:=h;exact⟨cs,rfl,ua.rel f h,g⟩
 |.tup l,.tup r,u,f,h=>by
  simp only[q']at f;simp only[VRel]at h⊢;obtain⟨cs,rfl,h⟩:=h;exact⟨cs,rfl,ua.rel f h⟩
 |.sl S l,.sl S' r,u,f,h=>by
  simp only[q']at f;obtain⟨rfl,f⟩:=f;simp only[VRel]at h⊢;obtain⟨a,n,cap,rfl,hn,hc,h⟩:=h;refine⟨a,n,cap,rfl,by rw[←f.length];omega,hc,?_⟩;rcases h with rfl|⟨b,off,rfl,i,hr⟩
  .simp only[ua]at f;simp_all
  .exact .inr ⟨b,off,rfl,i,ua.row f hr⟩
 |.v x,.v y,u,f,h=>by simp only[q']at f;simp_all
 |.v x,.agg y,u,f,h=>by simp only[q']at f;grind
 |.v x,.tup y,u,f,h=>by simp only[q']at f;grind
 |.v x,.pt y,u,f,h=>by simp only[q']at f;grind
 |.v x,.ref ..,u,f,h=>by simp only[q']at f;grind
 |.v x,.own ..,u,f,h=>by simp only[q']at f;grind
 |.v x,.view ..,u,f,h=>by simp only[q']at f;grind
 |.v x,.fn ..,u,f,h=>by simp only[q']at f;grind
 |.v x,.mp ..,u,f,h=>by simp only[q']at f;grind
 |.v x,.ifc ..,u,f,h=>by simp only[q']at f;grind
 |.agg l,.v y,u,f,h=>by simp only[q']at f;grind
 |.agg l,.tup y,u,f,h=>by simp only[q']at f;grind
 |.agg l,.sl ..,u,f,h=>by simp only[q']at f;grind
 |.agg l,.pt y,u,f,h=>by simp only[q']at f;grind
 |.agg l,.ref ..,u,f,h=>by simp only[q']at f;grind
 |.agg l,.own ..,u,f,h=>by simp only[q']at f;grind
 |.agg l,.view ..,u,f,h=>by simp only[q']at f;grind
 |.agg l,.fn ..,u,f,h=>by simp only[q']at f;grind
 |.agg l,.mp ..,u,f,h=>by simp only[q']at f;grind
 |.agg l,.ifc ..,u,f,h=>by simp only[q']at f;grind
 |.tup l,.v y,u,f,h=>by simp only[q']at f;grind
 |.tup l,.agg y,u,f,h=>by simp only[q']at f;grind
 |.tup l,.sl ..,u,f,h=>by simp only[q']at f;grind
 |.tup l,.pt y,u,f,h=>by simp only[q']at f;grind
 |.tup l,.ref ..,u,f,h=>by simp only[q']at f;grind
 |.tup l,.own ..,u,f,h=>by simp only[q']at f;grind
 |.tup l,.view ..,u,f,h=>by simp only[q']at f;grind
 |.tup l,.fn ..,u,f,h=>by simp only[q']at f;grind
 |.tup l,.mp ..,u,f,h=>by simp only[q']at f;grind
 |.tup l,.ifc ..,u,f,h=>by simp only[q']at f;grind
 |.sl S l,.v y,u,f,h=>by simp only[q']at f;grind
 |.sl S l,.agg y,u,f,h=>by simp only[q']at f;grind
 |.sl S l,.tup ..,u,f,h=>by simp only[q']at f;grind
 |.sl S l,.pt y,u,f,h=>by simp only[q']at f;grind
 |.sl S l,.ref ..,u,f,h=>by simp only[q']at f;grind
 |.sl S l,.own ..,u,f,h=>by simp only[q']at f;grind
 |.sl S l,.view ..,u,f,h=>by simp only[q']at f;grind
 |.sl S l,.fn ..,u,f,h=>by simp only[q']at f;grind
 |.sl S l,.mp ..,u,f,h=>by simp only[q']at f;grind
 |.sl S l,.ifc ..,u,f,h=>by simp only[q']at f;grind
 |.pt x,e,u,f,h=>by cases e<;>simp only[q']at f<;>first|(simp[VRel];done)|(rw[←f];exact h)|cases f
 |.ref a b c d,e,u,f,h=>by cases e<;>simp only[q']at f<;>first|(simp[VRel];done)|(rw[←f];exact h)|cases f
 |.own a b,e,u,f,h=>by cases e<;>simp only[q']at f<;>first|(simp[VRel];done)|(rw[←f];exact h)|cases f
 |.view a b c d,e,u,f,h=>by cases e<;>simp only[q']at f<;>first|(simp[VRel];done)|(rw[←f];exact h)|cases f
 |.fn a b c,e,u,f,h=>by cases e<;>simp only[q']at f<;>first|(simp[VRel];done)|(rw[←f];exact h)|cases f
 |.mp a,e,u,f,h=>by cases e<;>simp only[q']at f<;>first|(simp[VRel];done)|(rw[←f];exact h)|cases f
 |.ifc a b,e,u,f,h=>by cases e<;>simp only[q']at f<;>first|(simp[VRel];done)|(rw[←f];exact h)|cases f
 |d!,e,u,f,h=>by cases e<;>simp only[q']at f<;>first|(simp[VRel];done)|(rw[←f];exact h)|cases f
theorem ua.rel{G:Gh}{w:a39}:∀{l r:List D}{us:List a38},ua l r->VsRel G w l us->VsRel G w r us
 |[],r,us,a,h=>by simp only[ua]at a;subst a;exact h
 |d::l,r,us,a,h=>by
  simp only[ua]at a;obtain⟨e,r',rfl,c,h2⟩:=a;simp only[VsRel]at h⊢;obtain⟨u,b,rfl,g1,g2⟩:=h;exact⟨u,b,rfl,q'.rel c g1,ua.rel h2 g2⟩
theorem ua.row{G:Gh}{w:a39}{b S:Nat}:∀{l r:List D}{off:Nat},ua l r->Va G w b S l off->Va G w b S r off
 |[],r,off,a,h=>by simp only[ua]at a;subst a;exact h
 |d::l,r,off,a,h=>by
  simp only[ua]at a;obtain⟨e,r',rfl,c,h2⟩:=a;simp only[Va]at h⊢;obtain⟨⟨u,g1,g2,g3⟩,g4⟩:=h;exact⟨⟨u,q'.rel c g1,g2,g3⟩,ua.row h2 g4⟩
end
mutual
theorem q'.refl:∀d:D,q' d d
 |.v x=>by simp[q']
 |.agg l=>by simp only[q'];exact ua.Ab l
 |.tup l=>by simp only[q'];exact ua.Ab l
 |.sl S l=>by simp only[q',G2];exact ua.Ab l
 |.pt d=>by simp[q']
 |.ref ..=>by simp[q']
 |.own ..=>by simp[q']
 |.view ..=>by simp[q']
 |.fn ..=>by simp[q']
 |.mp ..=>by simp[q']
 |.ifc ..=>by simp[q']
 |d!=>by simp[q']
theorem ua.Ab:∀l:List D,ua l l
 |[]=>by simp[ua]
 |d::l=>by simp only[ua];exact⟨d,l,rfl,q'.refl d,ua.Ab l⟩
end
section
variable {P:a42} {N:Nat}
def T.sub{c:C}(t':List D) (a:ua s.t t') (h:T P N c K ⟨t',s.m⟩):T P N c K s:=
 T.ghost (s':=⟨t',s.m⟩) (λG w _ hN hr=>⟨G,⟨a.rel hr.t,hr.inv,hr.defers⟩,y?.refl _ _ _ hN⟩) h
theorem T.dE{c:C}(i S:Nat) (hi:s.t[i]?=M (.v (.slice q6 0 0))) (h:T P N c K ⟨s.t.set i (.own s.m.length 0),s.m++[k? S 0 []]⟩):T P N c K s:=by
 refine T.ghost (λG w a hN hr=>?_) h;have e:=cE (w':=w) hr.inv q6 S 0 0 (k? S 0 []) rfl rfl rfl rfl (x? _) (λ_ _=>rfl) (λk h=>by cases h)
  ⟨by simp[Gh.add],by simp[Gh.add],by simp[Gh.add],l5,.inl ⟨by simp[Gh.add],by simp[Gh.add]⟩⟩
 refine⟨_,⟨?_,e.1,hr.defers⟩,e.2.toN hN⟩;have hx:=VsRel.get i hr.t;rw[Dac,hi]at hx;simp only[Τ,VRel]at hx;have hset:=VsRel.set (d:=.own s.m.length 0) (x:=.slice q6 0 0) (PE (s:=s) (b:=q6) (S:=S) (N:=0) (C:=0) (w':=w) hr.inv.n) i (hr.t.mono e.2.le);have hself:a.tmps.toList.set i (.slice q6 0 0)=a.tmps.toList:=by
  rw[←hx];apply List.ext_getElem?
  grind
 simp_all
mutual
def below(k:Nat):D->Bool
 |.agg l=>j? k l
 |.tup l=>j? k l
 |.sl _ l=>j? k l
 |.pt d=>below k d
 |.ref i _ _ _=>s5 (i<k)
 |.own i _=>s5 (i<k)
 |.view i _ _ _=>s5 (i<k)
 |.fn _ a b=>j? k a&&j? k b
 |.mp i=>s5 (i<k)
 |.ifc _ d=>below k d
 |_=>a35
def j?(k:Nat):List D->Bool
 |[]=>a35
 |d::l=>below k d&&j? k l
end
mutual
theorem Nc(k:Nat):∀d:D,xa d=a35->below k d=a35
 |.v _,_=>by simp[below]
 |.agg l,h=>by simp only[below];exact Sb k l (by grind[xa])
 |.tup l,h=>by simp only[below];exact Sb k l (by grind[xa])
 |.sl _ l,h=>by simp only[below];exact Sb k l (by grind[xa])
 |.pt d,h=>by simp only[below];exact Nc k d (by grind[xa])
 |.ifc _ d,h=>by simp only[below];exact Nc k d (by grind[xa])
 |.fn _ a b,h=>by
  simp only[xa,E']at h;simp only[below,E'];exact⟨Sb k a h.1,Sb k b h.2⟩
 |d!,_=>by simp[below]
 |.ref ..,h=>by grind[xa]
 |.own ..,h=>by grind[xa]
 |.view ..,h=>by grind[xa]
 |.mp _,h=>by grind[xa]
theorem Sb(k:Nat):∀l:List D,oa l=a35->j? k l=a35
 |[],_=>by simp[j?]
 |d::l,h=>by
  simp only[oa,E']at h;simp only[j?,E'];exact⟨Nc k d h.1,Sb k l h.2⟩
end
def Ent.below(k:Nat):Ent->Bool
 |k? _ _ l=>j? k l
 |.mp es=>es.all λe=>Tm.below k e.2
 |.gone=>a35
def Gh.trim(G:Gh) (k:Nat):Gh:={ G with n:=k }
mutual
theorem VRel.trim{G:Gh}{w:a39}{k:Nat}:∀{d:D}{u:a38},below k d=a35->VRel G w d u->VRel (G.trim k) w d u
 |.v x,u,_,h=>by simpa [VRel] using h
 |.agg l,u,hb,h=>by
  simp only[VRel,below]at h hb⊢;obtain⟨cs,rfl,h,e⟩:=h;exact⟨cs,rfl,VsRel.trim hb h,e⟩
 |.tup l,u,hb,h=>by
  simp only[VRel,below]at h hb⊢;obtain⟨cs,rfl,h⟩:=h;exact⟨cs,rfl,VsRel.trim hb h⟩
 |.sl S l,u,hb,h=>by
  simp only[VRel,below]at h hb⊢;obtain⟨a,n,cap,rfl,hn,hc,h⟩:=h;refine⟨a,n,cap,rfl,hn,hc,?_⟩;rcases h with h|⟨b,off,rfl,g,hr⟩
  .simp_all
  .exact .inr ⟨b,off,rfl,g,Va.trim hb hr⟩
 |.pt d,u,hb,h=>by
  simp only[VRel,below]at h hb⊢;obtain⟨b,off,x,rfl,g,hd,i⟩:=h;exact⟨b,off,x,rfl,g,VRel.trim hb hd,i⟩
 |.ref ..,u,hb,h=>by
  simp only[VRel,below,w2]at h hb⊢;obtain⟨a,hu,_,h⟩:=h;exact⟨a,hu,hb,h⟩
 |.own ..,u,hb,h=>by
  simp only[VRel,below,w2]at h hb⊢;obtain⟨a,n,c,hu,_,h⟩:=h;exact⟨a,n,c,hu,hb,h⟩
 |.view ..,u,hb,h=>by
  simp only[VRel,below,w2]at h hb⊢;obtain⟨a,c,hu,hn,_,h⟩:=h;exact⟨a,c,hu,hn,hb,h⟩
 |.mp _,u,hb,h=>by
  simp only[VRel,below,w2]at h hb⊢;obtain⟨b,hu,_,h⟩:=h;exact⟨b,hu,hb,h⟩
 |.ifc t d,u,hb,h=>by
  simp only[VRel,below]at h hb⊢;obtain⟨x,rfl,h⟩:=h;exact⟨x,rfl,VRel.trim hb h⟩
 |.fn f first caps,u,hb,h=>by
  simp only[VRel,below,E']at h hb⊢;obtain⟨fs,cs,rfl,e,h2⟩:=h;exact⟨fs,cs,rfl,VsRel.trim hb.1 e,VsRel.trim hb.2 h2⟩
 |d!,u,_,h=>J'
theorem VsRel.trim{G:Gh}{w:a39}{k:Nat}:∀{l:List D}{us:List a38},j? k l=a35->VsRel G w l us->VsRel (G.trim k) w l us
 |[],us,_,h=>by simpa [VsRel] using h
 |d::l,us,hb,h=>by
  simp only[VsRel,j?,E']at h hb⊢;obtain⟨u,r,rfl,a,h2⟩:=h;exact⟨u,r,rfl,VRel.trim hb.1 a,VsRel.trim hb.2 h2⟩
theorem Va.trim{G:Gh}{w:a39}{k b S:Nat}:∀{l:List D}{off:Nat},j? k l=a35->Va G w b S l off->Va (G.trim k) w b S l off
 |[],off,_,h=>by simp[Va]
 |d::l,off,hb,h=>by
  simp only[Va,j?,E']at h hb⊢;obtain⟨⟨u,a,h2,c⟩,e⟩:=h;exact⟨⟨u,VRel.trim hb.1 a,h2,c⟩,Va.trim hb.2 e⟩
end
theorem Ke.trim{G:Gh}{w:a39}{k:Nat}:∀{l:List (a38×D)}{es:List MapEntry},(l.all λe=>below k e.2)=a35->Ke G w l es->Ke (G.trim k) w l es
 |[],es,_,h=>h
 |(q,d)::l,es,hb,h=>by
  simp only[List.all_cons,E']at hb;obtain⟨e,r,a,b,h2,c⟩:=h;exact⟨e,r,a,b,h2.trim hb.1,c.trim hb.2⟩
theorem T.trim{c:C}{K:Exit->St->Prop}{s:St}(k:Nat) (hN:N<=k) (hk:k<=s.m.length) (ht:j? k s.t=a35) (hm:(s.m.take k).all (Ent.below k)=a35) (h:T P N c K ⟨s.t,s.m.take k⟩):T P N c K s:=by
 refine T.ghost (λG w a hN' hr=>?_) h;have hi:=hr.inv;have d:∀(i:Nat) e,(s.m.take k)[i]?=M e->i<k/\s.m[i]?=M e:=by
  grind
 have o:Inv (G.trim k) w (s.m.take k):=by
  refine⟨by grind[Gh.trim],hi.F,λi e he=>?_,λi j e e' he q hl r b hb g=>hi.apart i j e e' (d i e he).2 (d j e' q).2 hl r b hb g,hi.gl.bare λ_ h=>h⟩;have hbe:e.below k=a35:=R'.1 hm e (List.mem_of_getElem? he);have f:=hi.ent i e (d i e he).2
  cases e with
  |live S Ta l=>
   obtain⟨a1,a2,a3,a4,a5⟩:=f;refine⟨a1,a2,a3,a4,?_⟩;rcases a5 with a5|⟨v,cs,T,g,A,n,u,p⟩
   .exact .inl a5
   .exact .inr ⟨v,cs,T,g,A,n,u,p.trim (by grind[Ent.below])⟩
  |mp es=>
   obtain⟨a1,b,y,x,a2,a3,a4,a5⟩:=f;exact⟨a1,b,y,x,a2,a3,a4,a5.trim (by grind[Ent.below])⟩
  |gone=>trivial
 refine⟨G.trim k,⟨hr.t.trim ht,o,hr.defers⟩,⟨λ_ h=>h,λ_ _=>rfl,hN,λi hi'=>.inl ⟨rfl,rfl,rfl,rfl,rfl⟩,rfl,rfl,rfl,x? _,λ_ _ _=>rfl,λ_ _ h=>.inl h,?_⟩⟩;rintro b hb ⟨i,e,he,hl,z⟩;exact⟨i,e,(d i e he).2,hl,z⟩
theorem T.loopS{x:C}(S:X->St) (jx:X->Prop) (μ:X->Nat) (x₀:X) (f:jx x₀) (ht:ua s.t (S x₀).t) (hm:s.m=(S x₀).m)
 (hb:∀y,jx y->N<=(S y).m.length/\j? (S y).m.length (S y).t=a35/\(S y).m.all (Ent.below (S y).m.length)=a35)
 (round:∀y,jx y->T P N x (λe s'=>match e with|.normal=>∃z,jx z/\μ z<μ y/\ua s'.t (S z).t/\∃g,s'.m=(S z).m++g|e=>K e s') (S y)):T P N (.loop x) K s:=by
 refine T.loopI (j8:=λy s'=>jx y/\ua s'.t (S y).t/\∃g,s'.m=(S y).m++g) μ x₀ ⟨f,ht,[],o0⟩ ?_;rintro y s1 ⟨h,b,g,a⟩;obtain⟨c,d,b3⟩:=hb y h;refine T.sub (S y).t b ?_;refine T.trim (S y).m.length c (by simp[a]) d l4 ?_;have hst:(⟨(S y).t,s1.m.take (S y).m.length⟩:St)=S y:=by
  simp_all
 grind
end
open Go.RowKit (Below)
theorem Ba(h:∀t∈Dg x,s'.t.getD t d!=s.t.getD t d!):s'.ev x=s.ev x:=by
 cases x<;>simp[St.ev]
 simp_all[Dg]
theorem XM{f:χ}(h:∀t∈f.tmps,s'.t.getD t d!=s.t.getD t d!):s'.cv f=s.cv f:=by
 cases f with
 |tmp t=>exact Ba (x:=.tmp t) λt' h'=>h t' (by grind[χ.tmps,Dg])
 |_=>rfl
theorem Wu{d:Nat}{x:Option a41}(h:∀t∈eL x,s'.t.getD t d!=s.t.getD t d!):bound s' d x=bound s d x:=by
 cases x with
 |none=>rfl
 |some y=>simp only[bound,Ba (s:=s) (s':=s') (x:=y) (λt ht=>h t ht)]
theorem JH{s s':St}:∀{ps:List (Nat×Nat×a41)}{l:List D},(∀t∈ps.flatMap (λp=>Dg p.2.2),s'.t.getD t d!=s.t.getD t d!)->My s' ps l=My s ps l
 |[],l,h=>rfl
 |(o,n,x)::ps,l,h=>by
  simp only[My,Ba (s:=s) (s':=s') (x:=x) (λt ht=>h t l4)];split
  .exact JH λt ht=>h t l4
  .rfl
theorem Fx{s s':St}{S:Nat}:∀{ps:List (Nat×a41)}{l:List D},(∀t∈ps.flatMap (λp=>Dg p.2),s'.t.getD t d!=s.t.getD t d!)->ld s' S ps l=ld s S ps l
 |[],l,h=>rfl
 |(o,x)::ps,l,h=>by
  simp only[ld,Ba (s:=s) (s':=s') (x:=x) (λt ht=>h t l4)];split
  .exact Fx λt ht=>h t l4
  .rfl
theorem G?{s s':St}:∀{l:List a41},(∀t∈l.flatMap Dg,s'.t.getD t d!=s.t.getD t d!)->l.map s'.ev=l.map s.ev
 |[],h=>rfl
 |x::l,h=>by
  simp only[F?,Ba (s:=s) (s':=s') (x:=x) (λt ht=>h t l4)];rw[G? λt ht=>h t l4]
theorem KN{g:Option (Tmp×Bool)}(h:∀t∈NS g,s'.t.getD t d!=s.t.getD t d!):j! s' g=j! s g:=by
 cases g with
 |none=>rfl
 |some p=>grind[j!,NS]
def af:D->Option Nat
 |.ref i _ _ _=>M i
 |.own i _=>M i
 |.view i _ _ _=>M i
 |.mp i=>M i
 |_=>q6
def I.at?:I->Option a41
 |.load _ _ x|.slice _ x _ _ _|.iaddr _ x _|.len x|.mlook _ _ _ x _|.mlen x|.rv _ x=>M x
 |_=>q6
theorem UN{m m':List Ent}(h:∀i,af d=M i->m'[i]?=m[i]?):Cd m' d=Cd m d:=by
 unfold Cd;split<;>first|rfl|(rename_i id Ta;rw[h id rfl])|(rename_i id _ _ _;rw[h id rfl])
theorem TY{m m':List Ent}{lo hi:Nat}(h:∀i,af d=M i->m'[i]?=m[i]?):Vy S m' d lo hi=Vy S m d lo hi:=by
 unfold Vy;split<;>first|rfl|(rename_i id Ta;rw[h id rfl])|(rename_i id Ta l0 n;rw[h id rfl])
theorem Zu{i:I}(hc:i.cls<=1) (ht:∀t∈i.reads,s'.t.getD t d!=s.t.getD t d!) (hm:∀x id,i.at?=M x->af (s.ev x)=M id->s'.m[id]?=s.m[id]?)
 {m1:List Ent} (he:fa s i=M (d,m1)):m1=s.m/\fa s' i=M (d,s'.m):=by
 cases i with
 |mv x=>
  grind[fa,I.reads,Ba]
 |pick c a b=>
  simp only[fa]at he⊢;rw[Ba (s:=s) (s':=s') (x:=c) (λt h=>ht t F!),Ba (s:=s) (s':=s') (x:=a) (λt h=>ht t F!),Ba (s:=s) (s':=s') (x:=b) (λt h=>ht t F!)];split at he
  all_goals simp_all
 |bin op x y=>
  simp only[fa]at he⊢;rw[Ba (s:=s) (s':=s') (x:=x) (λt h=>ht t F!),Ba (s:=s) (s':=s') (x:=y) (λt h=>ht t F!)];split at he
  all_goals first|(simp_all;done)|(simp only[A',H?]at he⊢;grind)|(simp_all;obtain⟨_,g,h2,j⟩:=he;exact⟨j.symm,_,g,h2⟩)
 |beq n x y=>
  simp only[fa]at he⊢;rw[Ba (s:=s) (s':=s') (x:=x) (λt h=>ht t F!),Ba (s:=s) (s':=s') (x:=y) (λt h=>ht t F!)];split at he
  all_goals simp_all
 |un op x=>
  simp only[fa]at he⊢;rw[Ba (s:=s) (s':=s') (x:=x) (λt h=>ht t F!)];split at he
  all_goals first|(simp_all;done)|(simp only[A',H?]at he⊢;grind)|(simp_all;obtain⟨_,g,h2,j⟩:=he;exact⟨j.symm,_,g,h2⟩)
 |conv k x=>
  simp only[fa]at he⊢;rw[Ba (s:=s) (s':=s') (x:=x) (λt h=>ht t F!)];split at he
  all_goals simp_all
 |build z ps=>
  simp only[fa]at he⊢;rw[JH (s:=s) (s':=s') (λt h=>ht t F!)]
  cases hb:My s ps z with
  |none=>simp_all
  |some l=>grind
 |mkifc t x=>
  grind[fa,I.reads,Ba]
 |tassert ok t z x=>
  simp only[fa]at he⊢;rw[Ba (s:=s) (s':=s') (x:=x) (λt h=>ht t F!)]
  repeat' split at he
  all_goals simp_all
 |capn x=>
  simp only[fa]at he⊢;rw[Ba (s:=s) (s':=s') (x:=x) (λt h=>ht t F!)]
  grind
 |rv neg x=>
  simp only[fa]at he⊢;rw[Ba (s:=s) (s':=s') (x:=x) (λt h=>ht t F!)];split at he
  .simp_all
  .simp_all
  .rename_i id Ta hx;rw[hm x id rfl (by rw[hx];rfl)];split at he
   all_goals simp_all
  simp_all
 |clr S z x=>grind[I.cls]
 |mkapp S b z x n=>grind[I.cls]
 |nilc x=>
  simp only[fa]at he⊢;rw[Ba (s:=s) (s':=s') (x:=x) (λt h=>ht t F!)]
  grind
 |faddr A n o x=>
  simp only[fa]at he⊢;rw[Ba (s:=s) (s':=s') (x:=x) (λt h=>ht t F!)];split at he
  all_goals first|(simp_all;done)|(simp only[A',H?]at he⊢;grind)|(simp_all;obtain⟨_,g,h2,j⟩:=he;exact⟨j.symm,_,g,h2⟩)
 |field A n o x=>
  simp only[fa]at he⊢;rw[Ba (s:=s) (s':=s') (x:=x) (λt h=>ht t F!)];split at he
  all_goals first|(simp_all;done)|(simp only[A',H?]at he⊢;grind)|(simp_all;obtain⟨_,g,h2,j⟩:=he;exact⟨j.symm,_,g,h2⟩)
 |extract x k=>
  simp only[fa]at he⊢;rw[Ba (s:=s) (s':=s') (x:=x) (λt h=>ht t F!)];split at he
  all_goals first|(simp_all;done)|(simp only[A',H?]at he⊢;grind)|(simp_all;obtain⟨_,g,h2,j⟩:=he;exact⟨j.symm,_,g,h2⟩)
 |mkfunc f a b=>
  grind[fa,I.reads,G?]
 |aaddr A S n x y=>
  simp only[fa]at he⊢;rw[Ba (s:=s) (s':=s') (x:=x) (λt h=>ht t F!),Ba (s:=s) (s':=s') (x:=y) (λt h=>ht t F!)]
  repeat' split at he
  all_goals first|(simp_all;done)|(simp only[A',H?]at he⊢;obtain⟨_,g,rfl,rfl⟩:=he;exact⟨rfl,_,g,l5⟩)|(simp_all;grind)
 |index A S n x y=>
  simp only[fa]at he⊢;rw[Ba (s:=s) (s':=s') (x:=x) (λt h=>ht t F!),Ba (s:=s) (s':=s') (x:=y) (λt h=>ht t F!)];split at he
  .split at he
   .rename_i hk;rw[J hk];split at he
    .simp only[A',H?]at he⊢
     grind
    simp_all
   simp_all
  simp_all
 |slen x=>
  simp only[fa]at he⊢;rw[Ba (s:=s) (s':=s') (x:=x) (λt h=>ht t F!)];split at he
  all_goals simp_all
 |len x=>
  simp only[fa]at he⊢;rw[Ba (s:=s) (s':=s') (x:=x) (λt h=>ht t F!),UN (λid h=>hm x id rfl h)]
  cases hb:Cd s.m (s.ev x)with
  |none=>simp_all
  |some l=>grind
 |slice S x lo hi mx=>
  simp only[fa]at he⊢;rw[Ba (s:=s) (s':=s') (x:=x) (λt h=>ht t F!),UN (λid h=>hm x id rfl h)]
  cases hb:Cd s.m (s.ev x)with
  |none=>simp_all
  |some n=>
   simp only[hb]at he⊢;rw[Wu (s:=s) (s':=s') (x:=lo) (λt h=>ht t F!),Wu (s:=s) (s':=s') (x:=hi) (λt h=>ht t F!),Wu (s:=s) (s':=s') (x:=mx) (λt h=>ht t F!)];split at he
   .rename_i l h k g h2 j;(try simp only);rw[TY (λid h=>hm x id rfl h)];split at he
    .rename_i hc;rw[J hc]
     cases hs:Vy S s.m (s.ev x) l h with
     |none=>simp_all
     |some r=>grind
    simp_all
   simp_all
 |iaddr S x y=>
  simp only[fa]at he⊢;rw[Ba (s:=s) (s':=s') (x:=x) (λt h=>ht t F!),Ba (s:=s) (s':=s') (x:=y) (λt h=>ht t F!)];split at he
  .split at he
   .rename_i k hk;rw[J hk];split at he
    .repeat' split at he
     all_goals first|(simp_all;done)|(simp only[A',H?]at he⊢;obtain⟨_,g,rfl,rfl⟩:=he;exact⟨rfl,_,g,l5⟩)|(simp_all;grind)
    .rename_i id Ta hx;(try simp only);rw[hm x id rfl (by rw[hx];rfl)]
     repeat' split at he
     all_goals simp_all
    .rename_i id Ta lo n hx;(try simp only);rw[hm x id rfl (by rw[hx];rfl)]
     repeat' split at he
     all_goals simp_all
    simp_all
   simp_all
  simp_all
 |load A n x=>
  simp only[fa]at he⊢;rw[Ba (s:=s) (s':=s') (x:=x) (λt h=>ht t F!)];split at he
  .repeat' split at he
   all_goals grind
  .rename_i id Ta c! sub hx;(try simp only);rw[hm x id rfl (by rw[hx];rfl)];split at he
   .rename_i S ver' l hml;(try simp only);split at he
    .rename_i hv;rw[J hv];simp only[Zab]at he⊢;obtain⟨e,hl,he⟩:=he;split at he
     .rename_i hok;simp only[A',H?]at he
      grind
     simp_all
    simp_all
   simp_all
  simp_all
 |alloc S z=>grind[I.cls]
 |box S x=>grind[I.cls]
 |bslice S n z ps=>grind[I.cls]
 |mkslice S b z l c=>grind[I.cls]
 |store n x y=>grind[I.cls]
 |append S b x y=>grind[I.cls]
 |fail=>grind[fa]
 |mm b xs=>
  simp only[fa]at he⊢;rw[G? (s:=s) (s':=s') (l:=xs) (λt h=>ht t F!)];split at he
  all_goals first|(simp_all;done)|(simp only[A',H?]at he⊢;grind)|(simp_all;obtain⟨_,g,h2,j⟩:=he;exact⟨j.symm,_,g,h2⟩)
 |ceq n ks x y=>
  simp only[fa]at he⊢;rw[Ba (s:=s) (s':=s') (x:=x) (λt h=>ht t F!),Ba (s:=s) (s':=s') (x:=y) (λt h=>ht t F!)];split at he
  all_goals first|(simp_all;done)|(simp only[A',H?]at he⊢;grind)|(simp_all;obtain⟨_,g,h2,j⟩:=he;exact⟨j.symm,_,g,h2⟩)
 |strb S x=>grind[I.cls]
 |trunc S x lo hi=>grind[I.cls]
 |tA x y=>
  simp only[fa]at he⊢;rw[Ba (s:=s) (s':=s') (x:=x) (λt h=>ht t F!),Ba (s:=s) (s':=s') (x:=y) (λt h=>ht t F!)];split at he
  all_goals simp_all
 |sslice x lo hi=>
  simp only[fa]at he⊢;rw[Ba (s:=s) (s':=s') (x:=x) (λt h=>ht t F!)];split at he
  all_goals grind[I.reads,Wu]
 |mkmap=>grind[I.cls]
 |mput K m k x=>grind[I.cls]
 |mlook K ok z x k=>
  simp only[fa]at he⊢;rw[Ba (s:=s) (s':=s') (x:=x) (λt h=>ht t F!),Ba (s:=s) (s':=s') (x:=k) (λt h=>ht t F!)];split at he
  .split at he
   .rename_i hk;rw[J hk];split at he
    .grind
    .rename_i id hx;(try simp only);rw[hm x id rfl (by rw[hx];rfl)];split at he
     all_goals grind
    simp_all
   simp_all
  simp_all
 |mlen x=>
  simp only[fa]at he⊢;rw[Ba (s:=s) (s':=s') (x:=x) (λt h=>ht t F!)];split at he
  .grind
  .rename_i id hx;(try simp only);rw[hm x id rfl (by rw[hx];rfl)];split at he
   all_goals simp_all
  simp_all
theorem CN{i:I}(hc:i.cls=2) (ht:∀t∈i.reads,s'.t.getD t d!=s.t.getD t d!) (hm:s'.m=s.m) {m1:List Ent}(he:fa s i=M (d,m1)):fa s' i=M (d,m1)/\∃e,m1=s.m++[e]:=by
 cases i with
 |alloc S z=>grind[fa]
 |box S x=>
  simp only[fa]at he⊢;rw[Ba (s:=s) (s':=s') (x:=x) (λt h=>ht t F!),hm]
  grind
 |bslice S n z ps=>
  grind[fa,I.reads,Fx,A']
 |mkslice S b z l c=>
  grind[fa,I.reads,Ba]
 |mkmap=>
  grind[fa]
 |_=>simp[I.cls]at hc
def Closed(bs:List (List Nat)) (L:Nat->Bool):Prop:=∀i b,bs[i]?=M b->L i=a35->∀e∈b,L e=a35
theorem XN(acc:List Nat) {L:Nat->Bool}(a:∀e,L e=a35->∀j,(acc.getD e 0).testBit j=a35->L j=a35) :
 ∀(b:List Nat) (s:Nat),(∀e∈b,L e=a35)->(∀j,s.testBit j=a35->L j=a35)->∀j,(b.foldl (λs e=>s ||| 2 ^ e ||| acc.getD e 0) s).testBit j=a35->L j=a35
 |[],s,_,c,j,h=>c j h
 |e::b,s,hb,c,j,h=>by
  simp only[List.foldl_cons]at h;refine XN acc a b _ (λx hx=>hb x o0) (λk hk=>?_) j h
  grind
theorem cQ{bs:List (List Nat)}(f:Closed bs L):∀(k:Nat) (acc:List Nat),acc.length=k->(∀e,L e=a35->∀j,(acc.getD e 0).testBit j=a35->L j=a35)->
 ∀e,L e=a35->∀j,((oC acc (bs.drop k)).getD e 0).testBit j=a35->L j=a35:=by
 intro k;have main:∀(n k:Nat) (acc:List Nat),bs.length-k=n->acc.length=k->(∀e,L e=a35->∀j,(acc.getD e 0).testBit j=a35->L j=a35)->
  ∀e,L e=a35->∀j,((oC acc (bs.drop k)).getD e 0).testBit j=a35->L j=a35:=by
  intro n
  induction n with
  |zero=>
   intro k acc hn hl a e he j hj;rw[Aac U]at hj;exact a e he j hj
  |succ n g=>
   intro k acc hn hl a e he j hj;have hk:k<bs.length:=U
   rw[Yaa hk]at hj;simp only[oC]at hj;refine g (k+1) (acc++[am1 acc bs[k]]) U o0 ?_ e he j hj;intro x hx y b;rw[Dac,List.getElem?_append]at b;split at b
   .exact a x hx y l4
   .rename_i hlt;by_cases d:x=k
    .subst d;rw[hl,Nat.sub_self]at b;simp only[List.getElem?_cons_zero,Τ]at b;exact XN acc a _ 0 (λe' c=>f x _ (n! hk) hx e' c) (λj h=>o0) y b
    grind
 grind
theorem Mz{bs:List (List Nat)}(a:Closed bs L) {e:Nat}(he:L e=a35) (hj:((DD bs).getD e 0).testBit j=a35):L j=a35:=by
 have:=cQ a 0 [] rfl (λe _ j h=>o0) e he j;simp only[List.drop_zero]at this;exact this hj
open Go.RowKit (Below)
theorem H8{m:List Ent}(h:Cd m d=M n) (ht:af d=M id):∃e,m[id]?=M e:=by
 unfold Cd at h
 grind[af]
theorem KK{i:I}{m1:List Ent}(he:fa s i=M (d,m1)) (hx:i.at?=M x) (ht:af (s.ev x)=M id):∃e,s.m[id]?=M e:=by
 cases i<;>simp only[I.at?,reduceCtorEq,T!]at hx<;>subst hx
 .grind[fa,af]
 all_goals grind[fa,af,H8,A']
section
variable (dst:Nat->Option Tmp) (dd:Nat->D) (xx:Nat->List Ent) (L:Nat->Bool)
def tS(t0:List D):Nat->List D
 |0=>t0
 |n+1=>if L n then(match dst n with|some y=>(tS t0 n).set y (dd n)|none=>tS t0 n)else tS t0 n
def mS(m0:List Ent):Nat->List Ent
 |0=>m0
 |n+1=>if L n then mS m0 n++xx n else mS m0 n
end
section
variable {dst:Nat->Option Tmp} {dd:Nat->D} {xx:Nat->List Ent} {L:Nat->Bool}
theorem IC(t0:List D):∀n,(tS dst dd L t0 n).length=t0.length
 |0=>rfl
 |n+1=>by
  simp only[tS];split
  .split
   .simp[IC t0 n]
   .exact IC t0 n
  .exact IC t0 n
theorem ad9(t0:List D) (n y:Nat):(tS dst dd L t0 (n+1)).getD y d!=if L n=a35/\dst n=M y/\y<t0.length then dd n else(tS dst dd L t0 n).getD y d!:=by
 simp only[tS];by_cases a:L n=a35
 .rw[J a]
  cases hd:dst n with
  |none=>simp
  |some z=>
   simp only;rw[Dac,Rad];by_cases b:z=y
   .subst b;rw[J rfl,IC]
    grind[IC]
   simp_all
 simp_all
theorem NW(t0:List D) {y:Nat}:∀{q:Nat},i<=q->(∀j,j<q->dst j=M y->(L j=a35↔j<i))->(tS dst dd L t0 q).getD y d!=(tS dst dd (λ_=>a35) t0 i).getD y d!:=by
 have h1:∀n,n<=i->(∀j,j<n->dst j=M y->L j=a35)->(tS dst dd L t0 n).getD y d!=(tS dst dd (λ_=>a35) t0 n).getD y d!:=by
  intro n
  induction n with
  |zero=>intro _ _;rfl
  |succ n a=>
   grind[ad9]
 intro q
 induction q with
 |zero=>simp_all
 |succ q a=>
  intro hi h;by_cases hq:i=q+1
  .simp_all
  .rw[ad9,if_neg ?_]
   all_goals grind
theorem PJ(m0:List Ent):∀(q:Nat),(∀i j,i<j->j<q->xx i≠[]->xx j≠[]->L j=a35->L i=a35)->∃k,k<=q/\mS xx L m0 q=mS xx (λ_=>a35) m0 k
 |0,_=>⟨0,x? _,rfl⟩
 |q+1,h=>by
  obtain⟨k,hk,he⟩:=PJ m0 q λi j a hj=>h i j a U;by_cases hx:xx q=[]
  .grind[mS]
  .by_cases hL:L q=a35
   .refine⟨q+1,x? _,?_⟩;have hall:∀n,n<=q->mS xx L m0 n=mS xx (λ_=>a35) m0 n:=by
     intro n
     induction n with
     |zero=>intro _;rfl
     |succ n ih=>
      grind[mS]
    simp_all[mS]
   grind[mS]
theorem qM(m0:List Ent) (h:k<=i):∃r,mS xx (λ_=>a35) m0 i=mS xx (λ_=>a35) m0 k++r:=by
 induction i with
 |zero=>simp_all
 |succ i ih=>
  by_cases hk:k=i+1
  .simp_all
  grind[mS]
theorem LV(m0:List Ent) :∀{q:Nat},i<=q->(∀j,j<q->xx j≠[]->(L j=a35↔j<i))->mS xx L m0 q=mS xx (λ_=>a35) m0 i:=by
 have h1:∀n,n<=i->(∀j,j<n->xx j≠[]->L j=a35)->mS xx L m0 n=mS xx (λ_=>a35) m0 n:=by
  intro n
  induction n with
  |zero=>intro _ _;rfl
  |succ n a=>
   grind[mS]
 intro q
 induction q with
 |zero=>simp_all
 |succ q a=>
  grind[mS]
theorem E5(t0:List D) {a:Nat->Bool}(hi:L i=a36) (hL':∀j,a j=(L j || j==i)):∀{q:Nat},i<q->(∀j,i<j->j<q->∀y,dst i=M y->dst j=M y->L j=a36)->
 tS dst dd a t0 q=(match dst i with|some y=>(tS dst dd L t0 q).set y (dd i)|none=>tS dst dd L t0 q):=by
 have hlow:∀n,n<=i->tS dst dd a t0 n=tS dst dd L t0 n:=by
  intro n
  induction n with
  |zero=>intro _;rfl
  |succ n c=>
   grind[tS]
 intro q
 induction q with
 |zero=>omega
 |succ q c=>
  intro hq hw;by_cases hqi:q=i
  .simp_all[tS]
  .have d:a q=L q:=l4
   have b:=c U λj hj hjq=>hw j hj U;simp only[tS,d,b]
   cases hdi:dst i with
   |none=>simp
   |some y=>
    simp only;split
    .rename_i hLq;split
     .rename_i z hz;have hne:y≠z:=by
       grind
      grind[Wae]
     .rfl
    .rfl
theorem J3(m0:List Ent) {a:Nat->Bool}(hi:L i=a36) (hL':∀j,a j=(L j || j==i)):∀{q:Nat},i<q->(∀j,i<j->j<q->xx i≠[]->xx j≠[]->L j=a36)->
 mS xx a m0 q=mS xx L m0 q++xx i:=by
 have hlow:∀n,n<=i->mS xx a m0 n=mS xx L m0 n:=by
  intro n
  induction n with
  |zero=>intro _;rfl
  |succ n c=>
   grind[mS]
 intro q
 induction q with
 |zero=>omega
 |succ q c=>
  intro hq hw;by_cases hqi:q=i
  .simp_all[mS]
  .have d:a q=L q:=l4
   have b:=c U λj hj hjq=>hw j hj U;simp only[mS,d,b];split
   .rename_i hLq;by_cases hxi:xx i=[]
    all_goals grind
   .rfl
end
def FH(P:a42) (r:RI) (s:St) (d:D) (x:List Ent):Prop:=
 match r with
 |.op _ g i=>((j! s g=M q6\/∃c,j! s g=M (M (c,c)))/\fa s i=M (d,s.m++x))\/((∃c b,j! s g=M (M (c,b))/\c≠b)/\d=.v undef/\x=[])
 |.call _ g f args=>∃k first caps,s.cv f=.fn k first caps/\x=[]/\
  (((j! s g=M q6\/∃c,j! s g=M (M (c,c)))/\∀m,CallT P k (first++args.map s.ev++caps) m λd' m'=>d'=d/\m'=m)\/((∃c b,j! s g=M (M (c,b))/\c≠b)/\d=.v undef))
def after(s:St) (r:RI) (d:D) (x:List Ent):St:=({ s with m:=s.m++x }:St).put r.dst d
def eU(P:a42):List RI->St->List (D×List Ent)->St->Prop
 |[],s,os,s'=>os=[]/\s'=s
 |r::l,s,os,s'=>∃d x os',os=(d,x)::os'/\FH P r s d x/\eU P l (after s r d x) os' s'
section
variable {P:a42}
theorem eU.length:∀{l:List RI}{s s':St}{os:List (D×List Ent)},eU P l s os s'->os.length=l.length
 |[],s,s',os,h=>by simp[h.1]
 |r::l,s,s',os,h=>by
  obtain⟨d,x,os',rfl,_,h⟩:=h;simp[eU.length h]
def DH(rl:List RI) (os:List (D×List Ent)) (s:St) (L:Nat->Bool) (n:Nat):St:=
 ⟨tS (λi=>(rl.getD i (.op q6 q6 (.mv (.const undef)))).dst) (λi=>(os.getD i (d!,[])).1) L s.t n,mS (λi=>(os.getD i (d!,[])).2) L s.m n⟩
theorem TR(s:St) (r:RI) (d:D) (x:List Ent):(after s r d x).t=(match r.dst with|some y=>s.t.set y d|none=>s.t)/\(after s r d x).m=s.m++x:=by
 unfold after St.put
 grind
theorem eU.get{rl:List RI}{os:List (D×List Ent)}{s0:St}:∀{l:List RI}{k:Nat}{s':St}{os':List (D×List Ent)},l=(rl.drop k).take l.length->os'=(os.drop k).take os'.length->eU P l (DH rl os s0 (λ_=>a35) k) os' s'->
 (∀i,i<l.length->FH P (rl.getD (k+i) (.op q6 q6 (.mv (.const undef)))) (DH rl os s0 (λ_=>a35) (k+i)) (os.getD (k+i) (d!,[])).1 (os.getD (k+i) (d!,[])).2)/\s'=DH rl os s0 (λ_=>a35) (k+l.length)
 |[],k,s',os',_,_,h=>⟨λi hi=>o0,by simpa using h.2⟩
 |r::l,k,s',os',c,h2,h=>by
  obtain⟨d,x,a,rfl,hs,h⟩:=h;have hr:rl[k]?=M r:=by
   have:=congrArg (λl=>l[0]?) c
   grind
  have ho:os[k]?=M (d,x):=by
   have:=congrArg (λl=>l[0]?) h2
   grind
  have hr':rl.getD k (.op q6 q6 (.mv (.const undef)))=r:=l4
  have ho':os.getD k (d!,[])=(d,x):=l4
  have b:after (DH rl os s0 (λ_=>a35) k) r d x=DH rl os s0 (λ_=>a35) (k+1):=by
   have ha:=TR (DH rl os s0 (λ_=>a35) k) r d x;have:after (DH rl os s0 (λ_=>a35) k) r d x=⟨(after (DH rl os s0 (λ_=>a35) k) r d x).t,(after (DH rl os s0 (λ_=>a35) k) r d x).m⟩:=rfl
   simp_all[DH,tS,mS]
  rw[b]at h;have t1:l=(rl.drop (k+1)).take l.length:=by
   grind[Yaa]
  have t2:a=(os.drop (k+1)).take a.length:=by
   grind[Yaa]
  obtain⟨g1,g2⟩:=eU.get t1 t2 h;refine⟨λi hi=>?_,o0⟩
  cases i with
  |zero=>grind
  |succ i=>
   have:=g1 i o0
   grind
theorem S!{L c:Nat->Bool}{i:Nat}(hi:L i=a36) (d:∀j,c j=(L j || j==i)):∀{l:List Nat},i∈l->(l.filter λj=>!c j).length<(l.filter λj=>!L j).length
 |[],h=>by cases h
 |a::l,h=>by
  have mono:∀l:List Nat,(l.filter λj=>!c j).length<=(l.filter λj=>!L j).length:=by
   intro l
   induction l with
   |nil=>simp
   |cons b l f=>
    grind
  by_cases ha:a=i
  .grind
  .have e:i∈l:=by
    grind
   have f:=S! hi d e
   grind
theorem NA{ops:Array Oper}:∀{l:List Oper}{rl:List RI},Ni P ops l=M rl->rl.length=l.length/\∀(i:Nat) o,l[i]?=M o->∃r,rl[i]?=M r/\Rt P ops o=M r
 |[],rl,h=>by grind[Ni]
 |o::l,rl,h=>by
  simp only[Ni]at h;split at h
  .rename_i r rs h1 h2;injection h with h;subst h;obtain⟨g1,g2⟩:=NA h2
   grind
  .cases h
theorem QC(h:Rt P ops o=M r):r.dst=o.dst:=by
 unfold Rt at h;split at h
 .cases h
 .split at h
  .injection h with h;subst h;rfl
  .simp only[A']at h;obtain⟨i,-,rfl⟩:=h;rfl
theorem bn2(hc:Rt P ops o=M r) {x:List Ent}(hf:FH P r sc d x) (ht:∀t∈r.reads,s.t.getD t d!=sc.t.getD t d!)
 (hm:r.cls=2->s.m=sc.m) (V:∀(id:Nat),(∃e,sc.m[id]?=M e)->id<s.m.length->s.m[id]?=sc.m[id]?) (F:r.cls<=2)
 {G:Gh} {w:a39} (hr:p! G w a s) (hi:ops[i]?=M o) {Q:Exit->Act->a39->Prop} {K:Act->a39->Prop}
 (T:∀G' w' a',p! G' w' a' (after s r d x)->Step G w s.m G' w' (s.m++x)->K a' w'):wpOp P ops Q i K a w:=by
 have hdst:=QC hc;unfold wpOp;simp only[hi];unfold Rt at hc;split at hc
 .grind
 .rename_i g hg;obtain⟨hgate1,hgate2⟩:=Lr hr hg;have hgt:j! s g=j! sc g:=KN (λt h=>ht t (by
   split at hc
   .grind[RI.reads]
   .simp only[A']at hc;obtain⟨i,-,rfl⟩:=hc
    grind[RI.reads]))
  have S:(j! sc g=M q6\/∃c,j! sc g=M (M (c,c)))->Region.wanted o (yielded ops a.tmps)=a35:=by
   grind
  have woff:(∃c b,j! sc g=M (M (c,b))/\c≠b)->Region.wanted o (yielded ops a.tmps)=a36:=by
   grind
  have skip:d=.v undef->x=[]->K (a.put o.dst undef) w:=by
   rintro rfl rfl;refine T G w _ ?_ (by grind[Step.refl])
   simp_all[after,GI]
  split at hc
  .rename_i f args ho;injection hc with hc;subst hc;obtain⟨k,first,caps,hfe,rfl,hf⟩:=hf;have j4:s.cv f=.fn k first caps:=by grind[RI.reads,XM]
   have z:args.map s.ev=args.map sc.ev:=G? (λt h=>ht t (by grind[RI.reads]));rcases hf with⟨B,A⟩|⟨N,hd⟩
   .rw[J (S B)];refine .inl ?_;obtain⟨⟨fn,e1,e2,e3⟩,E⟩:=A s.m;obtain⟨fs,cs,O,X,Y⟩:=dF hr ho (as1 j4) e1 e2 e3;rw[←z]at E;have q:=E G w (fs++args.map a.eval++cs) ((X.append (qF hr _)).append Y) hr.inv;unfold Oper.wp;rw[O,Oper.upon_enter];refine q.mono ?_;rintro e w' ⟨v,d',m',G',rfl,⟨rfl,rfl⟩,Z,j6,C⟩;refine T G' w' _ ?_ l4;unfold after;rw[V!];exact(hr.step C.le j6).put o.dst Z
   simp_all
  .rename_i hno;simp only[A']at hc;obtain⟨j,hj,rfl⟩:=hc;rcases hf with⟨B,H⟩|⟨N,hd,hx⟩
   .rw[J (S B)];refine .inl ?_;have j8:fa s j=M (d,s.m++x):=by
     simp only[RI.cls]at F hm;have R:∀t∈j.reads,s.t.getD t d!=sc.t.getD t d!:=λt h=>ht t (by grind[RI.reads]);by_cases h2:j.cls=2
     .grind[CN]
     .have h1:j.cls<=1:=U
      obtain⟨hxm,hres⟩:=Zu (s:=sc) (s':=s) h1 R (λy id hy l=>by
       refine V id (KK H hy l) ?_;have p:=hr.ev y;have L:s.ev y=sc.ev y:=Ba (λt h=>R t (by
        cases j<;>simp only[I.at?,reduceCtorEq,T!]at hy<;>subst hy<;>simp[I.reads,h]))
       rw[L]at p;have hn:=hr.inv.n;generalize sc.ev y=dy at *;cases dy<;>simp only[af,reduceCtorEq,T!]at l
       .subst l;simp only[VRel]at p;omega
       .subst l;simp only[VRel]at p;omega
       .subst l;simp only[VRel]at p;omega
       .subst l;simp only[VRel]at p;omega) H
      simp_all
    exact hr.jx (iF hj hr j8) λG' w' u W C=>T G' w' _ W C
   simp_all
end
open Go.RowKit (Below)
section
variable {P:a42}
theorem aD8{Q:Exit->Act->a39->Prop}{K:St->Prop}{rs:List RI}{G:Gh}{w:a39}(h:Rt P ops o=M r) (p:Ym P (r::rs) K s) (hr:p! G w a s)
 (hi:ops[i]?=M o) {Kx:Act->a39->Prop} (rest:∀{G':Gh} {w':a39} {a':Act} {s':St},Ym P rs K s'->p! G' w' a' s'->Step G w s.m G' w' s'.m->Kx a' w'):wpOp P ops Q i Kx a w:=by
 unfold wpOp;simp only[hi];unfold Rt at h;split at h
 .grind
 .rename_i g B;obtain⟨hgate1,hgate2⟩:=Lr hr B;have doI:∀{i:I} {d:D} {m':List Ent},Sw P ops o o.op=M i->fa s i=M (d,m')->Ym P rs K ({ s with m:=m' }.put o.dst d)->o.wp P a w Kx Q:=by
   intro i d m' hi he b;exact hr.jx (iF hi hr he) λG' w' u x n=>rest b x (by grind[iL])
  have skip:Ym P rs K (s.put o.dst (.v undef))->Kx (a.put o.dst undef) w:=λb=>rest b (GI hr o.dst) (by grind[iL,Step.refl]);split at h
  .rename_i f args ho;injection h with h;subst h;simp only[Ym]at p;split at p
   .rename_i k first caps q
    have doC:CallT P k (first++args.map s.ev++caps) s.m (λd m'=>Ym P rs K ({ s with m:=m' }.put o.dst d))->o.wp P a w Kx Q:=by
     rintro⟨⟨fn,e1,e2,e3⟩,j⟩;obtain⟨fs,cs,l,y,z⟩:=dF hr ho q e1 e2 e3;have c:=j G w (fs++args.map a.eval++cs) ((y.append (qF hr _)).append z) hr.inv;unfold Oper.wp;rw[l,Oper.upon_enter];refine c.mono ?_;rintro e w' ⟨v,d,m',G',rfl,b,A,t,n⟩;exact rest b ((hr.step n.le t).put o.dst A) (by grind[iL])
    grind
   grind
  .rename_i hno;simp only[A']at h;obtain⟨i,hi,rfl⟩:=h;simp only[Ym]at p
   grind
theorem ao6(hi:i<listed.size) (d:Bool):(listed.setIfInBounds i a35).getD j d=if j=i then a35 else listed.getD j d:=by
 simp only[Qac,Array.getElem?_setIfInBounds]
 grind
theorem CK(h:ops[i]?=M o):(Nb ops)[i]?=M ((o.after.toList.filter λe=>Region.binds .any e).map (·.on)):=by
 grind[Nb]
structure TailFacts (bs:List (List Nat)) (rl:List RI) (q:Nat):Prop where
 len:bs.length=rl.length
 hq:q<=rl.length
 back:∀(i:Nat) b,bs[i]?=M b->∀e∈b,e<i
 tail:∀(i j:Nat),i<j->q<=j->j<rl.length->((DD bs).getD j 0).testBit i=a35
theorem JT{bs:List (List Nat)}{rl:List RI}{q:Nat}(h:IT bs rl cuts q=a35) :
 TailFacts bs rl q/\∀p∈cuts,∀(i j:Nat),i<p->p<=j->j<rl.length->((DD bs).getD j 0).testBit i=a35:=by
 unfold IT at h;simp only[E',R2,w2,R',uac,wad]at h;obtain⟨⟨⟨⟨h0,a⟩,h2⟩,h3⟩,h4⟩:=h;refine⟨⟨a,h2,?_,?_⟩,?_⟩
 .simp_all[Paa]
 all_goals grind
structure Α (bs:List (List Nat)) (rl:List RI) (q:Nat):Prop extends TailFacts bs rl q where
 cls:∀(j:Nat) y,j<q->rl[j]?=M y->y.cls<=2
 apart:∀(i j:Nat) x y,i<j->j<q->rl[i]?=M x->rl[j]?=M y->rG x y=a35->((DD bs).getD j 0).testBit i=a35
theorem oz{bs:List (List Nat)}{rl:List RI}{q:Nat}(h:wJ bs rl q=a35):Α bs rl q:=by
 unfold wJ at h;simp only[E',R2,w2,R',uac]at h;obtain⟨⟨⟨a,h2⟩,h3⟩,h4⟩:=h;have hy:∀(j:Nat) y,rl[j]?=M y->j<rl.length:=λj y hj=>(Paa.1 hj).1;refine⟨⟨a,h2,?_,?_⟩,?_,?_⟩
 rotate_left
 .grind
 rotate_right
 .simp_all[Paa]
 all_goals grind
section
variable {ops:Array Oper} {Q:Exit->Act->a39->Prop} {K:St->Prop} {rl:List RI} {q:Nat}
def Je(listed:Array Bool):Nat->Bool:=λi=>listed.getD i a36
theorem aB(hf:TailFacts (Nb ops) rl q) (hsz:listed.size=ops.size) (h:Closed (Nb ops) (Je listed)) (hi:i∈Region.ready .any ops listed) :
 i<ops.size/\Je listed i=a36/\(∀j,j≠i->((DD (Nb ops)).getD i 0).testBit j=a35->Je listed j=a35)/\Closed (Nb ops) (Je (listed.setIfInBounds i a35))/\
 (∀j,Je (listed.setIfInBounds i a35) j=(Je listed j || j==i)):=by
 obtain⟨h0,o,ho,f⟩:=mem_ready.1 hi;have k:i<ops.size:=(Array.getElem?_eq_some_iff.1 ho).1;have g:Je listed i=a36:=by
  grind[Je]
 have d:∀j,Je (listed.setIfInBounds i a35) j=(Je listed j || j==i):=by
  intro j;unfold Je;rw[ao6 U]
  grind
 have c:Closed (Nb ops) (Je (listed.setIfInBounds i a35)):=by
  intro j b hb hj e he;rw[d]at hj⊢;simp only[wad,R2]at hj⊢;rcases hj with hj|hj
  .exact .inl (h j b hb hj e he)
  .subst hj;have a:=CK ho;rw[hb]at a;injection a with a;subst a;simp only[List.mem_map,List.mem_filter,Array.mem_toList_iff]at he;obtain⟨ed,⟨l,h2⟩,rfl⟩:=he;exact .inl (f ed l h2)
 refine⟨k,g,λj hne hj=>?_,c,d⟩;have:=Mz c (e:=i) l4 hj
 simp_all
theorem EE(hf:TailFacts (Nb ops) rl q) (hsz:listed.size=ops.size) (hno:Region.ready .any ops listed=[]):∀i,i<ops.size->Je listed i=a35:=by
 intro i
 induction i using Xac with
 |_ i c=>
  intro hi;rcases hb:Je listed i with _|_
  .exfalso;have:i∈Region.ready .any ops listed:=by
    refine mem_ready.2 ⟨?_,ops[i],Cab hi,λe he hbi=>?_⟩
    .grind[Je]
    .have a:=CK (Cab hi);have b:=hf.back i _ a e.on (by
      grind)
     exact c e.on b U
   simp_all
  .rfl
theorem zF(hc:Ni P ops ops.toList=M rl) (hf:TailFacts (Nb ops) rl q) :
 ∀(n r:Nat) (fuel:Nat) (listed:Array Bool) (s:St) (G:Gh) (w:a39) (a:Act),ops.size-r=n->n<=fuel->q<=r->r<=ops.size->listed.size=ops.size->(∀i,Je listed i=s5 (i<r))->
  Ym P (rl.drop r) K s->p! G w a s->(∀s' G' w' a',K s'->p! G' w' a' s'->Step G w s.m G' w' s'.m->Q .normal a' w')->wpAny P .any ops Q fuel listed a w:=by
 obtain⟨x,v⟩:=NA hc;simp only[xac]at x;have c:∀(r:Nat) (L:Nat->Bool),(∀i,L i=s5 (i<r))->Closed (Nb ops) L:=by
  intro r L u i b hb hi e he;have:=hf.back i b hb e he
  grind
 intro n
 induction n with
 |zero=>
  intro r fuel listed s G w a hn k hq hr f u t d hQ;have hrn:r=ops.size:=U
  have o:Region.ready .any ops listed=[]:=by
   cases hre:Region.ready .any ops listed with
   |nil=>rfl
   |cons i l=>
    obtain⟨j4,h2,-⟩:=aB hf f (c r _ u) (i:=i) l4
    simp_all
  rw[Aac U]at t;have g:=hQ s G w a t d (Step.refl _ _ _)
  cases fuel with
  |zero=>exact⟨o,g⟩
  |succ fuel=>exact⟨λ_=>g,λi hi=>l4⟩
 |succ n O=>
  intro r fuel listed s G w a hn k hq hr f u t d hQ
  cases fuel with
  |zero=>omega
  |succ fuel=>
   have z:r<ops.size:=U
   refine⟨λF=>?_,λi hi=>?_⟩
   .have:=EE hf f F r z
    simp_all
   .obtain⟨j4,h2,N,h4,h5⟩:=aB hf f (c r _ u) hi;have E:i=r:=by
     rw[u]at h2;simp at h2;rcases Ζ r i with h|h
     .have:=N r U (hf.tail r i h U U)
      simp_all
     omega
    subst E;have ho:ops[i]?=M ops[i]:=Cab j4;obtain⟨T,hri,D⟩:=v i ops[i] l5;have y:rl.drop i=T::rl.drop (i+1):=by
     grind[Yaa]
    rw[y]at t;refine aD8 D t d ho λC p H=>?_;refine O (i+1) fuel (listed.setIfInBounds i a35) _ _ _ _ U U U U (by simp[f]) (λj=>?_) C p λI A j8 B R S k3=>hQ I A j8 B R S (H.trans k3)
    grind
theorem mP{dst:Nat->Option Tmp}{dd:Nat->D}{L a:Nat->Bool}(t0:List D):∀n,(∀j,j<n->L j=a j)->tS dst dd L t0 n=tS dst dd a t0 n
 |0,_=>rfl
 |n+1,h=>by simp only[tS,h n U,mP t0 n λj hj=>h j U]
theorem WN{xx:Nat->List Ent}{L a:Nat->Bool}(m0:List Ent):∀n,(∀j,j<n->L j=a j)->mS xx L m0 n=mS xx a m0 n
 |0,_=>rfl
 |n+1,h=>by simp only[mS,h n U,WN m0 n λj hj=>h j U]
theorem KR{a:Nat->Bool}(n:Nat) (h:∀j,j<n->L j=a j):DH rl os s0 L n=DH rl os s0 a n:=by
 grind[DH,mP,WN]
theorem O?(q:Nat):∀n,((o? n).filter λj=>!s5 (j<q)).length=n-q
 |0=>l5
 |n+1=>by
  rw[List.range_succ,List.filter_append,Χ,O? q n]
  grind
theorem getD_some(h:i<l.length) (d:RI):l[i]?=M (l.getD i d):=by
 simp_all
theorem r7(hc:Ni P ops ops.toList=M rl) (hf:Α (Nb ops) rl q) 
 (I:∀i,i<q->FH P (rl.getD i (.op q6 q6 (.mv (.const undef)))) (DH rl os s0 (λ_=>a35) i) (os.getD i (d!,[])).1 (os.getD i (d!,[])).2)
 (B:∀i,i<q->(os.getD i (d!,[])).2≠[]->(rl.getD i (.op q6 q6 (.mv (.const undef)))).cls=2)
 (hT:Ym P (rl.drop q) K (DH rl os s0 (λ_=>a35) q)) :
 ∀(fuel:Nat) (listed:Array Bool) (G:Gh) (w:a39) (a:Act),((o? ops.size).filter λj=>!Je listed j).length<=fuel->listed.size=ops.size->Closed (Nb ops) (Je listed)->
  (∀j,q<=j->Je listed j=a36)->p! G w a (DH rl os s0 (Je listed) q)->
  (∀s' G' w' a',K s'->p! G' w' a' s'->Step G w (DH rl os s0 (Je listed) q).m G' w' s'.m->Q .normal a' w')->wpAny P .any ops Q fuel listed a w:=by
 obtain⟨N,j8⟩:=NA hc;simp only[xac]at N;have hq:=hf.hq;intro fuel
 induction fuel with
 |zero=>
  intro listed G w a c p u E v hQ;have F:∀i,i<ops.size->Je listed i=a35:=by
   simp_all
  have hqn:q=ops.size:=by
   rcases Ζ q ops.size with h|h
   all_goals grind
  have C:DH rl os s0 (Je listed) q=DH rl os s0 (λ_=>a35) q:=KR q λj hj=>F j U;refine zF hc hf.toTailFacts 0 q 0 listed _ G w a U (x? _) (x? _) U p (λi=>?_) hT l4 o0
  grind
 |succ fuel ih=>
  intro listed G w a c p u E v hQ;by_cases b:∀j,j<q->Je listed j=a35
  ·
    have C:DH rl os s0 (Je listed) q=DH rl os s0 (λ_=>a35) q:=KR q λj hj=>b j hj;have hL:∀i,Je listed i=s5 (i<q):=λi=>by
     grind
    have hcnt:=O? q ops.size;simp only[hL]at c;exact zF hc hf.toTailFacts (ops.size-q) q (fuel+1) listed _ G w a rfl U (x? _) U p hL hT l4 o0
  .refine⟨λhno=>(b λj hj=>EE hf.toTailFacts p hno j U).elim,λi hi=>?_⟩;obtain⟨h1,h2,h3,h4,V⟩:=aB hf.toTailFacts p u hi;have n:i<q:=by
    rcases Ζ i q with h|h
    .exact h
    .exact(b λj hj=>h3 j U (hf.tail j i U h U)).elim
   have hri:=getD_some (l:=rl) (i:=i) U (.op q6 q6 (.mv (.const undef)));obtain⟨r,hr,Z⟩:=j8 i ops[i] l5;have hrr:rl.getD i (.op q6 q6 (.mv (.const undef)))=r:=l4
   have early:∀j x,j<i->rl[j]?=M x->rG x r=a35->Je listed j=a35:=λj x hj hx d=>h3 j U (hf.apart j i x r hj n hx hr d);have late:∀j y,i<j->j<q->rl[j]?=M y->rG r y=a35->Je listed j=a36:=by
    intro j y hj hjq hy d;rcases hb:Je listed j with _|_
    .rfl
    .have:=Mz u hb (hf.apart i j r y hj hjq hr hy d)
     simp_all
   have g:∀j,j<q->rl[j]?=M (rl.getD j (.op q6 q6 (.mv (.const undef)))):=λj hj=>getD_some U _;have hF:=I i n;rw[hrr]at hF;have A:r.cls<=2:=hf.cls i r n hr;have O:∀j,j<q->(os.getD j (d!,[])).2≠[]->(rl.getD j (.op q6 q6 (.mv (.const undef)))).cls=2:=B;have f:∀x y:RI,x.cls=2->y.cls=2->rG x y=a35:=λx y hx hy=>by grind[rG]
   refine bn2 Z hF (s:=DH rl os s0 (Je listed) q) ?_ ?_ ?_ A v (Cab h1) ?_
   ·
     intro y hy;refine NW s0.t U λj hj hd=>?_
     grind[rG]
   ·
     intro hcls;refine LV s0.m U λj hj hx=>?_
     grind
   ·
     rintro id ⟨e,he⟩ j4;obtain⟨k,hk,R⟩:=PJ (xx:=λi=>(os.getD i (d!,[])).2) (L:=Je listed) s0.m q λi1 j1 hij hj hx1 hx2 W=>
      Mz u W (hf.apart i1 j1 _ _ hij hj (g i1 U) (g j1 hj) (f _ _ (O i1 U hx1) (O j1 hj hx2)))
     simp only[DH]at he j4⊢;rw[R]at j4⊢;rcases baf i k with h|h
     .obtain⟨rr,S⟩:=qM (xx:=λi=>(os.getD i (d!,[])).2) s0.m h
      grind
     .obtain⟨rr,S⟩:=qM (xx:=λi=>(os.getD i (d!,[])).2) s0.m h
      grind
   ·
     intro G' w' a' o hs';have C:after (DH rl os s0 (Je listed) q) r (os.getD i (d!,[])).1 (os.getD i (d!,[])).2=DH rl os s0 (Je (listed.setIfInBounds i a35)) q:=by
      obtain⟨X,Y⟩:=TR (DH rl os s0 (Je listed) q) r (os.getD i (d!,[])).1 (os.getD i (d!,[])).2;have H:∀z:St,z=⟨z.t,z.m⟩:=λz=>rfl;rw[H (after _ _ _ _),X,Y];simp only[DH,St.mk.injEq];constructor
      .rw[E5 s0.t h2 V n ?_]
       all_goals grind[rG]
      .rw[J3 s0.m h2 V n ?_]
       grind
     rw[C]at o;refine ih (listed.setIfInBounds i a35) G' w' a' ?_ o0 h4 ?_ o ?_
     .have:=S! h2 V (l:=o? ops.size) o0;omega
     .grind
     .intro s'' T w'' j6 k1 k2 k3;refine hQ s'' T w'' j6 k1 k2 (hs'.trans ?_)
      grind[TR]
theorem MS{x:List Ent}(h:FH P r s d x) (a:r.cls<=2) (hx:x≠[]):r.cls=2:=by
 cases r with
 |call dst g f args=>
  obtain⟨_,_,_,_,h,_⟩:=h
  simp_all
 |op dst g i=>
  rcases h with⟨-,h⟩|⟨-,-,h⟩
  .simp only[RI.cls]at a⊢;rcases Ζ i.cls 2 with h2|h2
   .obtain⟨hm,-⟩:=Zu (s:=s) (s':=s) U (λ_ _=>rfl) (λ_ _ _ _=>rfl) h
    simp_all
   omega
  simp_all
theorem nY(rz:P.follows .mixedOrders=a35) (hc:Ni P ops ops.toList=M rl) (g:wJ (Nb ops) rl q=a35) {s1:St}(p:eU P (rl.take q) s os s1) (r:Ym P (rl.drop q) K s1)
 {G:Gh} {w:a39} (hr:p! G w a s) (hQ:∀s' G' w' a',K s'->p! G' w' a' s'->Step G w s.m G' w' s'.m->Q .normal a' w'):(Code.region id ops a35).wp P Q a w:=by
 have hf:=oz g;have c:(rl.take q).length=q:=by rw[bac];have:=hf.hq;omega
 have e:=p.length;rw[c]at e;have o:DH rl os s (λ_=>a35) 0=s:=rfl;obtain⟨g1,g2⟩:=eU.get (rl:=rl) (os:=os) (s0:=s) (k:=0) (l:=rl.take q) (os':=os) (s':=s1) l5 l5 (by rw[o];omega);simp only[c,Y?]at g1 g2;subst g2;have f:∀j,Je (Oab ops.size a36) j=a36:=by
  intro j;unfold Je;simp only[Qac,Oad]
  grind
 have d:DH rl os s (Je (Oab ops.size a36)) q=s:=by
  have ht:∀n,tS (λi=>(rl.getD i (.op q6 q6 (.mv (.const undef)))).dst) (λi=>(os.getD i (d!,[])).1) (Je (Oab ops.size a36)) s.t n=s.t:=by
   intro n
   induction n with
   |zero=>rfl
   |succ n u=>simp_all[tS]
  have hm:∀n,mS (λi=>(os.getD i (d!,[])).2) (Je (Oab ops.size a36)) s.m n=s.m:=by
   intro n
   induction n with
   |zero=>rfl
   |succ n u=>simp_all[mS]
  grind[DH]
 refine wp_region_any rz ?_;have h:=N?.drew w;refine r7 hc hf g1 (λi hi hx=>MS (g1 i hi) (hf.cls i _ hi (getD_some o0 _)) hx) r ops.size _ G _ a ?_ l5 ?_ (λj _=>f j) ?_ ?_
 .grind
 .intro i b _ hi
  simp_all
 .rw[d];exact⟨hr.t.mono (h.le G),h.inv hr.inv,hr.defers⟩
 .intro s' G' w' a' v x k3;rw[d]at k3;exact hQ s' G' w' a' v x ((h.step G s.m).trans k3)
end
end
section
variable {P:a42} {N:Nat}
def dU(P:a42):Nat->List RI->(St->Prop)->St->Prop
 |0,l,K,s=>Ym P l K s
 |_+1,[],_,_=>False
 |q+1,.op dst g i::l,K,s=>
  match j! s g with
  |none=>False
  |some q6=>∃d m',fa s i=M (d,m')/\dU P q l K ({ s with m:=m' }.put dst d)
  |some (M (c,b))=>(c=b->∃d m',fa s i=M (d,m')/\dU P q l K ({ s with m:=m' }.put dst d))/\(c≠b->dU P q l K (s.put dst (.v undef)))
 |q+1,.call dst g f args::l,K,s=>
  match s.cv f with
  |.fn k first caps=>
   match j! s g with
   |none=>False
   |some q6=>∃d,(∀m,CallT P k (first++args.map s.ev++caps) m λd' m'=>d'=d/\m'=m)/\dU P q l K (s.put dst d)
   |some (M (c,b))=>(c=b->∃d,(∀m,CallT P k (first++args.map s.ev++caps) m λd' m'=>d'=d/\m'=m)/\dU P q l K (s.put dst d))/\(c≠b->dU P q l K (s.put dst (.v undef)))
  |_=>False
section
variable {ops:Array Oper} {Q:Exit->Act->a39->Prop} {K:St->Prop} {rl:List RI} {q:Nat}
end
theorem yF:∀{q:Nat}{l:List RI}{K:St->Prop}{s:St},dU P q l K s->(∀(j:Nat) y,j<q->l[j]?=M y->y.cls<=2)->∃os s1,eU P (l.take q) s os s1/\Ym P (l.drop q) K s1
 |0,l,K,s,h,_=>⟨[],s,by simp[eU],by simpa [dU] using h⟩
 |q+1,[],K,s,h,_=>by simp[dU]at h
 |q+1,.op dst g i::l,K,s,h,hc=>by
  have hci:i.cls<=2:=hc 0 _ U rfl;have o:∀(j:Nat) y,j<q->l[j]?=M y->y.cls<=2:=λj y hj u=>hc (j+1) y U l4;have ext:∀{d:D} {m':List Ent},fa s i=M (d,m')->∃x,m'=s.m++x:=λ{d m'} he=>by
   rcases Ζ i.cls 2 with h2|h2
   .exact⟨[],by rw[V!];exact(Zu (s:=s) (s':=s) U (λ_ _=>rfl) (λ_ _ _ _=>rfl) he).1⟩
   .obtain⟨-,e,h⟩:=CN (s:=s) (s':=s) U (λ_ _=>rfl) rfl he
    simp_all
  have on:∀{d:D} {m':List Ent},fa s i=M (d,m')->(j! s g=M q6\/∃c,j! s g=M (M (c,c)))->dU P q l K ({ s with m:=m' }.put dst d)->
   ∃os s1,eU P ((RI.op dst g i::l).take (q+1)) s os s1/\Ym P ((RI.op dst g i::l).drop (q+1)) K s1:=by
   intro d m' he p r;obtain⟨x,rfl⟩:=ext he;obtain⟨os,s1,t,h2⟩:=yF r o;exact⟨(d,x)::os,s1,by simp only[gab,eU];exact⟨d,x,os,rfl,.inl ⟨p,he⟩,t⟩,l4⟩
  simp only[dU]at h;split at h
  .simp_all
  .grind
  .rename_i c b p;by_cases n:c=b
   .subst n;obtain⟨d,m',he,r⟩:=h.1 rfl
    simp_all
   .obtain⟨os,s1,t,h2⟩:=yF (h.2 n) o;refine⟨(.v undef,[])::os,s1,?_,l4⟩;simp only[gab,eU];refine⟨_,_,os,rfl,.inr ⟨⟨c,b,p,n⟩,rfl,rfl⟩,?_⟩;have:after s (.op dst g i) (.v undef) []=s.put dst (.v undef):=by unfold after;rw[V!];rfl
    simp_all
 |q+1,.call dst g f args::l,K,s,h,hc=>by
  have o:∀(j:Nat) y,j<q->l[j]?=M y->y.cls<=2:=λj y hj u=>hc (j+1) y U l4;have haf:∀d,after s (.call dst g f args) d []=s.put dst d:=λd=>by unfold after;rw[V!];rfl
  simp only[dU]at h;split at h
  .rename_i k first caps hf
   split at h
   .simp_all
   .rename_i p;obtain⟨d,a,r⟩:=h;obtain⟨os,s1,t,h2⟩:=yF r o;refine⟨(d,[])::os,s1,?_,l4⟩;simp only[gab,eU];exact⟨d,[],os,rfl,⟨k,first,caps,hf,rfl,.inl ⟨.inl p,a⟩⟩,l4⟩
   .rename_i c b p;by_cases n:c=b
    .subst n;obtain⟨d,a,r⟩:=h.1 rfl;obtain⟨os,s1,t,h2⟩:=yF r o;refine⟨(d,[])::os,s1,?_,l4⟩;simp only[gab,eU];exact⟨d,[],os,rfl,⟨k,first,caps,hf,rfl,.inl ⟨.inr ⟨c,p⟩,a⟩⟩,l4⟩
    .obtain⟨os,s1,t,h2⟩:=yF (h.2 n) o;refine⟨(.v undef,[])::os,s1,?_,l4⟩;simp only[gab,eU];exact⟨_,[],os,rfl,⟨k,first,caps,hf,rfl,.inr ⟨⟨c,b,p,n⟩,rfl⟩⟩,l4⟩
  simp_all
theorem T.draw{q:Nat}{l:List RI}{K:Exit->St->Prop}{s:St}(hm:P.follows .mixedOrders=a35) (h:dU P q l (K .normal) s):T P N (.draw q l) K s:=by
 intro code hc G w a hN hr;obtain⟨id,ops,rfl,c,b⟩:=tJ hc;obtain⟨os,s1,d,h2⟩:=yF h (oz b).cls;exact nY hm c b d h2 hr λs' G' w' a' e f k3=>⟨s',G',e,f,k3.toN hN⟩
end
section
variable (ww:Nat->Option (Nat×Ent)) (L:Nat->Bool)
def sS(m:List Ent):Nat->List Ent
 |0=>m
 |n+1=>if L n then(match ww n with|some (id,e)=>(sS m n).set id e|none=>sS m n)else sS m n
def CE(id:Nat):Nat->Option Ent
 |0=>q6
 |n+1=>if L n then(match ww n with|some (j,e)=>if j=id then M e else CE id n|none=>CE id n)else CE id n
end
section
variable {ww:Nat->Option (Nat×Ent)} {L:Nat->Bool}
theorem It(m:List Ent):∀n,(sS ww L m n).length=m.length
 |0=>rfl
 |n+1=>by
  simp only[sS]
  repeat' split
  all_goals simp[It m n]
theorem aP(m:List Ent) (id:Nat):∀n,id<m.length->(sS ww L m n)[id]?=(match CE ww L id n with|some e=>M e|none=>m[id]?)
 |0,h=>rfl
 |n+1,h=>by
  simp only[sS,CE];split
  .split
   .rename_i j e hw;rw[Rad];by_cases hj:j=id
    .subst hj;rw[J rfl,J rfl,J (by grind[It])]
    .rw[p5 hj,p5 hj];exact aP m id n h
   .exact aP m id n h
  .exact aP m id n h
theorem RY:∀{q:Nat},i<=q->(∀j,j<q->∀e,ww j=M (id,e)->(L j=a35↔j<i))->CE ww L id q=CE ww (λ_=>a35) id i:=by
 have h1:∀n,n<=i->(∀j,j<n->∀e,ww j=M (id,e)->L j=a35)->CE ww L id n=CE ww (λ_=>a35) id n:=by
  intro n
  induction n with
  |zero=>intro _ _;rfl
  |succ n a=>
   grind[CE]
 intro q
 induction q with
 |zero=>
  simp_all
 |succ q a=>
  grind[CE]
theorem GZ(m x:List Ent):∀n,(∀j,j<n->L j=a35->∀id e,ww j=M (id,e)->id<m.length)->sS ww L (m++x) n=sS ww L m n++x
 |0,_=>rfl
 |n+1,h=>by
  have ih:=GZ m x n λj hj=>h j U;simp only[sS];split
  .rename_i hL;split
   all_goals grind[It]
  omega
theorem aD4(m:List Ent) {a:Nat->Bool}(hi:L i=a36) (hL':∀j,a j=(L j || j==i)):∀{q:Nat},i<q->(∀j,i<j->j<q->L j=a35->∀id e e',ww i=M (id,e)->ww j≠M (id,e'))->
 sS ww a m q=(match ww i with|some (id,e)=>(sS ww L m q).set id e|none=>sS ww L m q):=by
 have hlow:∀n,n<=i->sS ww a m n=sS ww L m n:=by
  intro n
  induction n with
  |zero=>intro _;rfl
  |succ n d=>
   grind[sS]
 intro q
 induction q with
 |zero=>omega
 |succ q d=>
  intro hq hw;by_cases hqi:q=i
  .simp_all[sS]
  .have f:a q=L q:=l4
   have c:=d U λj hj hjq=>hw j hj U;simp only[sS,f,c]
   cases hdi:ww i with
   |none=>simp
   |some p=>
    obtain⟨id,e⟩:=p;simp only;split
    .rename_i hLq;split
     .rename_i b e' hz;have hne:id≠b:=by
       grind
      grind[Wae]
     .rfl
    .rfl
end
def I.tgt:I->Option a41
 |.store _ x _=>M x
 |.trunc _ x _ _=>M x
 |.append _ _ x _=>M x
 |_=>q6
def I.src:I->Option a41
 |.append _ _ _ y=>M y
 |_=>q6
def Ch(s:St):I->Bool
 |.trunc _ x _ _=>match s.ev x with|.own ..=>a35|_=>a36
 |.append _ _ x _=>match s.ev x with|.own ..=>a35|_=>a36
 |_=>a35
theorem wM{i:I}(h:i.tgt=M x):i.cls=3/\((∃n y,i=.store n x y)\/(∃S lo hi,i=.trunc S x lo hi)\/∃S b y,i=.append S b x y):=by
 cases i<;>simp[I.tgt]at h
 .subst h;exact⟨rfl,.inl ⟨_,_,rfl⟩⟩
 .subst h;exact⟨rfl,.inr (.inr ⟨_,_,_,rfl⟩)⟩
 .subst h;exact⟨rfl,.inr (.inl ⟨_,_,_,rfl⟩)⟩
theorem DY{m1:List Ent}(he:fa s (.store n x y)=M (d,m1)) :
 ∃id e,af (s.ev x)=M id/\m1=s.m.set id e/\(∃e0,s.m[id]?=M e0)/\
  ∀s':St,(∀t∈(I.store n x y).reads,s'.t.getD t d!=s.t.getD t d!)->s'.m[id]?=s.m[id]?->fa s' (.store n x y)=M (d,s'.m.set id e):=by
 simp only[fa]at he;split at he
 .rename_i id Ta ix sub hx;split at he
  .rename_i S ver' l hm;split at he
   .rename_i hc;simp only[Zab]at he;obtain⟨d0,h0,he⟩:=he;split at he
    .rename_i hc2;injection he with he;injection he with a h2;subst a;subst h2;refine⟨id,_,by rw[hx];rfl,rfl,⟨_,hm⟩,λs' ht hm'=>?_⟩;have ex:s'.ev x=s.ev x:=Ba (λt h=>ht t F!);have ey:s'.ev y=s.ev y:=Ba (λt h=>ht t F!)
     simp_all[fa]
    simp_all
   simp_all
  simp_all
 simp_all
theorem EY{lo hi:Option a41}{m1:List Ent}(hb:Ch s (.trunc S x lo hi)=a35) (he:fa s (.trunc S x lo hi)=M (d,m1)) :
 ∃id e,af (s.ev x)=M id/\m1=s.m.set id e/\(∃e0,s.m[id]?=M e0)/\
  ∀s':St,(∀t∈(I.trunc S x lo hi).reads,s'.t.getD t d!=s.t.getD t d!)->s'.m[id]?=s.m[id]?->fa s' (.trunc S x lo hi)=M (d,s'.m.set id e):=by
 simp only[Ch]at hb;split at hb
 .rename_i id Ta hx;simp only[fa,hx]at he;split at he
  .rename_i S' ver' l hm;split at he
   .rename_i a h hlo hhi;split at he
    .rename_i hc;injection he with he;injection he with b h2;subst b;subst h2;refine⟨id,_,by rw[hx];rfl,rfl,⟨_,hm⟩,λs' ht hm'=>?_⟩;have ex:s'.ev x=s.ev x:=Ba (λt h=>ht t F!);have e1:bound s' 0 lo=bound s 0 lo:=Wu (λt h=>ht t F!);have e2:bound s' l.length hi=bound s l.length hi:=Wu (λt h=>ht t F!)
     simp_all[fa]
    simp_all
   simp_all
  simp_all
 simp_all
theorem WM{m m':List Ent}(h:∀id,af d=M id->m'[id]?=m[id]?):h! S m' d=h! S m d:=by
 cases d with
 |own id v=>simp only[h!];rw[h _ rfl]
 |view id v a b=>simp only[h!];rw[h _ rfl]
 |v x=>simp only[h!];grind
 |_=>rfl
theorem FY{m1:List Ent}(hb:Ch s (.append S b x y)=a35) (he:fa s (.append S b x y)=M (d,m1)) :
 ∃id e,af (s.ev x)=M id/\m1=s.m.set id e/\(∃e0,s.m[id]?=M e0)/\
  ∀s':St,(∀t∈(I.append S b x y).reads,s'.t.getD t d!=s.t.getD t d!)->s'.m[id]?=s.m[id]?->(∀a,af (s.ev y)=M a->s'.m[a]?=s.m[a]?)->fa s' (.append S b x y)=M (d,s'.m.set id e):=by
 simp only[Ch]at hb;split at hb
 .rename_i id Ta hx;simp only[fa,hx]at he;split at he
  .rename_i r hr;split at he
   .rename_i S' ver' l hm;split at he
    .rename_i hc;injection he with he;injection he with g h2;subst g;subst h2;refine⟨id,_,by rw[hx];rfl,rfl,⟨_,hm⟩,λs' ht c i=>?_⟩;have ex:s'.ev x=s.ev x:=Ba (λt h=>ht t F!);have f:s'.ev y=s.ev y:=Ba (λt h=>ht t F!);simp only[fa,ex,hx,c,hm,f,WM i,hr]
     simp_all
    simp_all
   simp_all
  simp_all
 simp_all
theorem WQ{i:I}{m1:List Ent}(ht:i.tgt=M x) (hb:Ch s i=a35) (he:fa s i=M (d,m1)) :
 ∃id e,af (s.ev x)=M id/\m1=s.m.set id e/\(∃e0,s.m[id]?=M e0)/\
  (∀s':St,(∀t∈i.reads,s'.t.getD t d!=s.t.getD t d!)->s'.m[id]?=s.m[id]?->(∀y,i.src=M y->∀a,af (s.ev y)=M a->s'.m[a]?=s.m[a]?)->fa s' i=M (d,s'.m.set id e)):=by
 rcases(wM ht).2 with⟨n,y,rfl⟩|⟨S,lo,hi,rfl⟩|⟨S,b,y,rfl⟩
 .grind[DY]
 .grind[EY]
 .obtain⟨id,e,c,h2,f,g⟩:=FY hb he;exact⟨id,e,c,h2,f,λs' h j k3=>g s' h j (k3 y rfl)⟩
theorem LS{i:I}{m1:List Ent}(f:i.src=M y) (he:fa s i=M (d,m1)) (h:af (s.ev y)=M id):∃e,s.m[id]?=M e:=by
 obtain⟨S,b,x,rfl⟩:∃S b x,i=.append S b x y:=by cases i<;>simp[I.src]at f;simp_all
 simp only[fa]at he;split at he
 .rename_i r hr
  cases g:s.ev y with
  |own a b=>grind[af,h!]
  |view a b c e=>grind[af,h!]
  |ref a b c e=>grind[h!]
  |mp a=>grind[h!]
  |_=>rw[g]at h;simp[af]at h
 simp_all
theorem aa5{i:I}(ht:i.tgt=M x):∀t∈Dg x,t∈i.reads:=by
 rcases(wM ht).2 with⟨n,y,rfl⟩|⟨S,lo,hi,rfl⟩|⟨S,b,y,rfl⟩<;>intro t h<;>simp[I.reads,h]
theorem UZ{i:I}(ht:i.tgt=M x):i.at?=q6:=by
 rcases(wM ht).2 with⟨n,y,rfl⟩|⟨S,lo,hi,rfl⟩|⟨S,b,y,rfl⟩<;>rfl
theorem LK{i:I}(hc:i.cls=2) (ht:∀t∈i.reads,s'.t.getD t d!=s.t.getD t d!) (hm:s'.m.length=s.m.length) {m1:List Ent}(he:fa s i=M (d,m1)) :
 ∃e,m1=s.m++[e]/\fa s' i=M (d,s'.m++[e]):=by
 cases i with
 |alloc S z=>
  simp only[fa,T!,H?]at he⊢
  simp_all
 |box S x=>
  simp only[fa]at he⊢;rw[Ba (s:=s) (s':=s') (x:=x) (λt h=>ht t F!)]
  simp_all
 |bslice S n z ps=>
  grind[fa,I.reads,Fx,A']
 |mkslice S b z l c=>
  simp only[fa]at he⊢;rw[Ba (s:=s) (s':=s') (x:=l) (λt h=>ht t F!),Ba (s:=s) (s':=s') (x:=c) (λt h=>ht t F!)]
  grind
 |mkmap=>
  simp only[fa,T!,H?]at he⊢
  simp_all
 |_=>simp[I.cls]at hc
mutual
def Mq:D->List Nat
 |.agg l=>Uo l
 |.tup l=>Uo l
 |.sl _ l=>Uo l
 |.pt d=>Mq d
 |.fn _ a b=>Uo a++Uo b
 |.ifc _ d=>Mq d
 |.own id _=>[id]
 |.view id _ _ _=>[id]
 |.ref id _ _ _=>[id]
 |.mp id=>[id]
 |.v _=>[]
 |d!=>[]
def Uo:List D->List Nat
 |[]=>[]
 |d::l=>Mq d++Uo l
end
mutual
theorem QS:∀{d:D},xa d=a35->Mq d=[]
 |.v _,_=>rfl
 |.agg l,h=>by simp only[xa]at h;simp only[Mq,Vz h]
 |.tup l,h=>by simp only[xa]at h;simp only[Mq,Vz h]
 |.sl _ l,h=>by simp only[xa]at h;simp only[Mq,Vz h]
 |.pt d,h=>by simp only[xa]at h;simp only[Mq,QS h]
 |.fn _ a b,h=>by simp only[xa,E']at h;simp only[Mq,Vz h.1,Vz h.2,V!]
 |.ifc _ d,h=>by simp only[xa]at h;simp only[Mq,QS h]
 |.own ..,h=>by grind[xa]
 |.view ..,h=>by grind[xa]
 |.ref ..,h=>by grind[xa]
 |.mp _,h=>by grind[xa]
 |d!,_=>rfl
theorem Vz:∀{l:List D},oa l=a35->Uo l=[]
 |[],_=>rfl
 |d::l,h=>by simp only[oa,E']at h;simp only[Uo,QS h.1,Vz h.2,V!]
end
def Yb(s:St):List a41->List Nat
 |[]=>[]
 |x::l=>Mq (s.ev x)++Yb s l
theorem uK{s:St}:∀{l:List a41},Yb s l=Uo (l.map s.ev)
 |[]=>rfl
 |x::l=>by simp only[Yb,F?,Uo,uK (l:=l)]
mutual
theorem kM{G:Gh}{w:a39}{id:Nat}:∀{d:D}{u:a38},VRel G w d u->id∈Mq d->id<G.n
 |.v x,u,h,hi=>by grind[Mq]
 |.agg l,u,h,hi=>by
  simp only[VRel]at h;simp only[Mq]at hi;obtain⟨cs,rfl,h,-⟩:=h;exact Uz h hi
 |.tup l,u,h,hi=>by
  simp only[VRel]at h;simp only[Mq]at hi;obtain⟨cs,rfl,h⟩:=h;exact Uz h hi
 |.sl S l,u,h,hi=>by
  simp only[VRel]at h;simp only[Mq]at hi;obtain⟨a,n,c,rfl,-,-,h|⟨b,off,rfl,-,h⟩⟩:=h
  .grind[Uo]
  .exact ZQ h hi
 |.pt d,u,h,hi=>by
  simp only[VRel]at h;simp only[Mq]at hi;obtain⟨b,off,x,rfl,-,h,-⟩:=h;exact kM h hi
 |.ref a b c e,u,h,hi=>by
  simp only[VRel]at h;grind[Mq]
 |.own a b,u,h,hi=>by
  simp only[VRel]at h;grind[Mq]
 |.view a b c e,u,h,hi=>by
  simp only[VRel]at h;grind[Mq]
 |.fn f a b,u,h,hi=>by
  simp only[VRel]at h;simp only[Mq,Β]at hi;obtain⟨fs,cs,rfl,g,h2⟩:=h;rcases hi with hi|hi
  .exact Uz g hi
  .exact Uz h2 hi
 |.mp a,u,h,hi=>by
  simp only[VRel]at h;grind[Mq]
 |.ifc t d,u,h,hi=>by
  simp only[VRel]at h;simp only[Mq]at hi;obtain⟨x,rfl,h⟩:=h;exact kM h hi
 |d!,u,h,hi=>by grind[Mq]
theorem Uz{G:Gh}{w:a39}{id:Nat}:∀{l:List D}{us:List a38},VsRel G w l us->id∈Uo l->id<G.n
 |[],us,h,hi=>by grind[Uo]
 |d::l,us,h,hi=>by
  simp only[VsRel]at h;simp only[Uo,Β]at hi;obtain⟨u,r,rfl,a,h2⟩:=h;rcases hi with hi|hi
  .exact kM a hi
  .exact Uz h2 hi
theorem ZQ{G:Gh}{w:a39}{id b S:Nat}:∀{l:List D}{off:Nat},Va G w b S l off->id∈Uo l->id<G.n
 |[],off,h,hi=>by grind[Uo]
 |d::l,off,h,hi=>by
  simp only[Va]at h;simp only[Uo,Β]at hi;obtain⟨⟨u,a,-⟩,h2⟩:=h;rcases hi with hi|hi
  .exact kM a hi
  .exact ZQ h2 hi
end
def Xy(s:St):List a41->List Nat
 |[]=>[]
 |x::l=>match af (s.ev x)with|some id=>id::Xy s l|none=>Xy s l
def br(s:St):RI->List Nat
 |.op _ _ i=>
  match i.at? with
  |some x=>Xy s [x]
  |none=>match i.tgt with|some x=>Xy s (x::i.src.toList)|none=>[]
 |.call _ _ _ args=>Yb s args
theorem J5{l:List a41}(h:af (s.ev x)=M id):id∈Xy s (x::l):=by grind[Xy]
theorem ay8{l:List a41}(h:id∈Xy s l):id∈Xy s (x::l):=by grind[Xy]
theorem fX(h:af (s.ev x)=M id):id∈Xy s [x]:=by grind[Xy]
abbrev Os:=List (D×List Ent×Option (Nat×Ent))
def os0:D×List Ent×Option (Nat×Ent):=(d!,[],q6)
def o5:RI:=.op q6 q6 (.mv (.const undef))
def MB(P:a42) (r:RI) (s:St) (d:D) (x:List Ent) (w:Option (Nat×Ent)):Prop:=
 match r with
 |.op _ g i=>((j! s g=M q6\/∃c,j! s g=M (M (c,c)))/\
  ((w=q6/\i.cls<=2/\fa s i=M (d,s.m++x))\/(x=[]/\∃a id e,i.tgt=M a/\af (s.ev a)=M id/\w=M (id,e)/\fa s i=M (d,s.m.set id e)/\id<s.m.length/\Ch s i=a35)))\/
  ((∃c b,j! s g=M (M (c,b))/\c≠b)/\d=.v undef/\x=[]/\w=q6)
 |.call _ g f args=>x=[]/\w=q6/\
  ((∃k first caps,s.cv f=.fn k first caps/\(j! s g=M q6\/∃c,j! s g=M (M (c,c)))/\(∀id∈Yb s args,id<s.m.length)/\∀m,(∀id∈Yb s args,m[id]?=s.m[id]?)->CallT P k (first++args.map s.ev++caps) m λd' m'=>d'=d/\m'=m)\/((∃c b,j! s g=M (M (c,b))/\c≠b)/\d=.v undef))
def wr(m:List Ent) (w:Option (Nat×Ent)):List Ent:=match w with|some (id,e)=>m.set id e|none=>m
def bp(s:St) (r:RI) (d:D) (x:List Ent) (w:Option (Nat×Ent)):St:=({ s with m:=wr s.m w++x }:St).put r.dst d
theorem LM(s:St) (r:RI) (d:D) (x:List Ent) (w:Option (Nat×Ent)):bp s r d x w=⟨(match r.dst with|some y=>s.t.set y d|none=>s.t),wr s.m w++x⟩:=by
 grind[bp,St.put]
section
variable {P:a42}
def v7(rl:List RI) (i:Nat):Option Tmp:=(rl.getD i o5).dst
def ddC(os:Os) (i:Nat):D:=(os.getD i os0).1
def DP(os:Os) (i:Nat):List Ent:=(os.getD i os0).2.1
def R5(os:Os) (i:Nat):Option (Nat×Ent):=(os.getD i os0).2.2
def Ks(rl:List RI) (os:Os) (s:St) (L:Nat->Bool) (n:Nat):St:=
 ⟨tS (v7 rl) (ddC os) L s.t n,sS (R5 os) L (mS (DP os) L s.m n) n⟩
theorem MB.lt{x:List Ent}{w:Option (Nat×Ent)}(h:MB P r s d x w) (hw:w=M (id,e)):id<s.m.length/\x=[]/\id∈br s r:=by
 subst hw
 cases r with
 |call dst g f args=>obtain⟨_,h,_⟩:=h;cases h
 |op dst g i=>
  rcases h with⟨_,⟨h,_⟩|⟨hx,a,id',e',ht,h1,h2,h3,h4,_⟩⟩|⟨_,_,_,h⟩
  all_goals grind[br,UZ,J5]
theorem zZ{G:Gh}{w:a39}(hr:p! G w a s) (h:af (s.ev x)=M id):id<s.m.length:=by
 have hv:=hr.ev x;have hn:=hr.inv.n;generalize s.ev x=d at *;cases d<;>simp only[af,reduceCtorEq,T!]at h
 .subst h;simp only[VRel]at hv;omega
 .subst h;simp only[VRel]at hv;omega
 .subst h;simp only[VRel]at hv;omega
 .subst h;simp only[VRel]at hv;omega
theorem aM7(hc:Rt P ops o=M r) {x:List Ent}{H:Option (Nat×Ent)}(hf:MB P r sc d x H) (ht:∀t∈r.reads,s.t.getD t d!=sc.t.getD t d!)
 (hm:r.cls=2->s.m.length=sc.m.length) (j6:∀(id:Nat),id∈br sc r->(∃e,sc.m[id]?=M e)->id<s.m.length->s.m[id]?=sc.m[id]?)
 {G:Gh} {w:a39} (hr:p! G w a s) (hi:ops[i]?=M o) {Q:Exit->Act->a39->Prop} {K:Act->a39->Prop}
 (Z:∀G' w' a',p! G' w' a' (bp s r d x H)->Step G w s.m G' w' (wr s.m H++x)->(∀id e,H=M (id,e)->id<s.m.length)->K a' w'):wpOp P ops Q i K a w:=by
 have O:=QC hc;unfold wpOp;simp only[hi];unfold Rt at hc;split at hc
 .grind
 .rename_i g hg;obtain⟨hgate1,hgate2⟩:=Lr hr hg;have hgt:j! s g=j! sc g:=KN (λt h=>ht t (by
   split at hc
   .grind[RI.reads]
   .simp only[A']at hc;obtain⟨i,-,rfl⟩:=hc
    grind[RI.reads]))
  have Y:(j! sc g=M q6\/∃c,j! sc g=M (M (c,c)))->Region.wanted o (yielded ops a.tmps)=a35:=by
   grind
  have woff:(∃c b,j! sc g=M (M (c,b))/\c≠b)->Region.wanted o (yielded ops a.tmps)=a36:=by
   grind
  have skip:d=.v undef->x=[]->H=q6->K (a.put o.dst undef) w:=by
   rintro rfl rfl rfl;refine Z G w _ ?_ (by rw[V!];exact Step.refl _ _ _) (λ_ _ h=>by cases h);unfold bp;rw[O,V!];exact GI hr o.dst
  split at hc
  .rename_i f args ho;injection hc with hc;subst hc;obtain⟨rfl,rfl,hf⟩:=hf;have l:args.map s.ev=args.map sc.ev:=G? (λt h=>ht t (by grind[RI.reads]));rcases hf with⟨k,first,caps,hfe,E,S,C⟩|⟨V,hd⟩
   .have R:s.cv f=.fn k first caps:=by grind[RI.reads,XM]
    rw[J (Y E)];refine .inl ?_;obtain⟨⟨fn,e1,e2,e3⟩,N⟩:=C s.m λid q=>by
     refine j6 id q ⟨_,n! (S id q)⟩ ?_;rw[uK,←l]at q;rw[←hr.inv.n];exact Uz (qF hr _) q
    obtain⟨fs,cs,W,hv1,hv2⟩:=dF hr ho (as1 R) e1 e2 e3;rw[←l]at N;have z:=N G w (fs++args.map a.eval++cs) ((hv1.append (qF hr _)).append hv2) hr.inv;unfold Oper.wp;rw[W,Oper.upon_enter];refine z.mono ?_;rintro e w' ⟨v,d',m',G',rfl,⟨rfl,rfl⟩,hvd,hi',A⟩;refine Z G' w' _ ?_ (by rw[V!];exact A) (λ_ _ h=>by cases h);unfold bp;rw[V!];exact(hr.step A.le hi').put o.dst hvd
   simp_all
  .rename_i hno;simp only[A']at hc;obtain⟨j,hj,rfl⟩:=hc;rcases hf with⟨E,p⟩|⟨V,hd,hx,hw⟩
   .rw[J (Y E)];refine .inl ?_;have F:∀t∈j.reads,s.t.getD t d!=sc.t.getD t d!:=λt h=>ht t (by grind[RI.reads]);have j4:∀y,(∀t∈Dg y,t∈j.reads)->s.ev y=sc.ev y:=λy L=>Ba (λt h=>F t (L t h));have B:fa s j=M (d,wr s.m H++x)/\(∀id e,H=M (id,e)->id<s.m.length):=by
     simp only[RI.cls]at hm;rcases p with⟨rfl,hcls,p⟩|⟨rfl,a1,id,e,htg,X,rfl,p,hlt,hsb⟩
     .refine⟨?_,λ_ _ h=>by cases h⟩;simp only[wr];by_cases h2:j.cls=2
      .grind[LK,List.append_cancel_left]
      .have j8:j.cls<=1:=U
       obtain⟨hxm,hres⟩:=Zu (s:=sc) (s':=s) j8 F (λy id L q=>by
        have hevy:s.ev y=sc.ev y:=j4 y (λt h=>by
         cases j<;>simp only[I.at?,reduceCtorEq,T!]at L<;>subst L<;>simp[I.reads,h])
        grind[br,fX,KK,zZ]) p
       simp_all
     .obtain⟨id',e',j8,h2,h3,h4⟩:=WQ htg hsb p;rw[X]at j8;injection j8 with j8;subst j8;have T:id<s.m.length:=zZ hr (x:=a1) (by grind[aa5]);have hee:e=e':=by
       have:=congrArg (λm=>m[id]?) h2
       grind
      subst hee;refine⟨?_,λid2 e2 h=>l4⟩;rw[V!];refine h4 s F (j6 id (by grind[br,UZ,J5]) h3 T) λy L id' hid'=>?_;have hey:s.ev y=sc.ev y:=j4 y (by
       cases j<;>simp[I.src]at L
       grind[I.reads])
      grind[br,UZ,ay8,fX,zZ,LS]
    exact hr.jx (iF hj hr B.1) λG' w' u hr' A=>Z G' w' _ hr' A B.2
   simp_all
end
def RI.JL(y:RI):Bool:=
 match y with
 |.op _ _ i=>s5 (i.cls<=2) || i.tgt.isSome
 |.call ..=>a35
section
variable {P:a42} {ops:Array Oper} {Q:Exit->Act->a39->Prop} {K:St->Prop} {rl:List RI} {q:Nat} {ps:List (List Nat)}
end
def WV:Nat->Nat->Bool
 |0,0=>a36
 |0,_+1=>a35
 |_+1,0=>a35
 |a+1,b+1=>WV a b
theorem al3:∀{a b:Nat},WV a b=a35->a≠b
 |0,0,h=>by grind[WV]
 |0,_+1,_=>U
 |_+1,0,_=>U
 |a+1,b+1,h=>by have:=al3 (a:=a) (b:=b) h;omega
def fE(a:Nat):List Nat->Bool
 |[]=>a35
 |b::l=>WV a b&&fE a l
def Gv:List Nat->List Nat->Bool
 |[],_=>a35
 |a::l,r=>fE a r&&Gv l r
theorem BQ{a b:Nat}:∀{l:List Nat},fE a l=a35->b∈l->a≠b
 |[],_,h=>by cases h
 |c::l,h,hm=>by
  simp only[fE,E']at h;rcases Y'.1 hm with rfl|hm
  .grind[al3]
  .exact BQ h.2 hm
theorem CQ{a:Nat}:∀{l r:List Nat},Gv l r=a35->a∈l->a∉r
 |[],_,_,h=>by cases h
 |c::l,r,h,hm=>by
  simp only[Gv,E']at h;rcases Y'.1 hm with rfl|hm
  .exact λhr=>BQ h.1 hr rfl
  .exact CQ h.2 hm
def zH(fp:List (List Nat)) (f:List Nat):List Nat->Bool
 |[]=>a35
 |i::l=>Gv (fp.getD i []) f&&zH fp f l
theorem aM{fp:List (List Nat)}{f:List Nat}{k:Nat}:∀{l:List Nat},zH fp f l=a35->k∈l->Gv (fp.getD k []) f=a35
 |[],_,h=>by cases h
 |z::l,h,hm=>by
  simp only[zH,E']at h;rcases Y'.1 hm with rfl|hm
  .grind
  .exact aM h.2 hm
def LD(P:a42):List (List Nat)->List (List Nat)->Nat->List RI->(St->Prop)->St->Prop
 |_,_,0,l,K,s=>Ym P l K s
 |_,_,_+1,[],_,_=>False
 |ps,fp,q+1,.op dst g i::l,K,s=>
  zH fp (br s (.op dst g i)) (ps.headD [])=a35/\
  match j! s g with
  |none=>False
  |some q6=>∃d m',Ch s i=a35/\fa s i=M (d,m')/\LD P ps.tail (fp++[br s (.op dst g i)]) q l K ({ s with m:=m' }.put dst d)
  |some (M (c,b))=>(c=b->∃d m',Ch s i=a35/\fa s i=M (d,m')/\LD P ps.tail (fp++[br s (.op dst g i)]) q l K ({ s with m:=m' }.put dst d))/\(c≠b->LD P ps.tail (fp++[br s (.op dst g i)]) q l K (s.put dst (.v undef)))
 |ps,fp,q+1,.call dst g f args::l,K,s=>
  match s.cv f with
  |.fn k first caps=>
   match j! s g with
   |none=>False
   |some q6=>zH fp (Yb s args) (ps.headD [])=a35/\∃d,((∀id∈Yb s args,id<s.m.length)/\∀m,(∀id∈Yb s args,m[id]?=s.m[id]?)->CallT P k (first++args.map s.ev++caps) m λd' m'=>d'=d/\m'=m)/\LD P ps.tail (fp++[Yb s args]) q l K (s.put dst d)
   |some (M (c,b))=>zH fp (Yb s args) (ps.headD [])=a35/\(c=b->∃d,((∀id∈Yb s args,id<s.m.length)/\∀m,(∀id∈Yb s args,m[id]?=s.m[id]?)->CallT P k (first++args.map s.ev++caps) m λd' m'=>d'=d/\m'=m)/\LD P ps.tail (fp++[Yb s args]) q l K (s.put dst d))/\(c≠b->LD P ps.tail (fp++[Yb s args]) q l K (s.put dst (.v undef)))
  |_=>False
section
variable {P:a42} {K:St->Prop}
end
section
variable {P:a42} {N:Nat} {ops:Array Oper} {Q:Exit->Act->a39->Prop} {K:St->Prop} {rl:List RI} {q:Nat} {ps:List (List Nat)}
end
open Go.RowKit (Below)
theorem EJ{G:Gh}{w:a39}{m:List Ent}(hi:Inv G w m) (hm:m[p]?=M (k? S Ta [])) (l:List D) (C:Nat) (cs:Array a38) (T:TypeId)
 (hr:Li G w S l cs) (hC:l.length<=C) (hcs:C*S<=cs.size) :
 Inv (G.nh p (M w.heap.size) (Ta+1) l.length (C,0)) (w.alloc (.cells cs T)) (m.set p (k? S (Ta+1) l))/\
  Step G w m (G.nh p (M w.heap.size) (Ta+1) l.length (C,0)) (w.alloc (.cells cs T)) (m.set p (k? S (Ta+1) l)):=by
 have a:∀k,k<w.heap.size->(w.alloc (.cells cs T)).heap[k]?=w.heap[k]?:=λk hk=>Below.heap_alloc _ _ _ hk;obtain⟨hV,hS,-⟩:=hi.ent p _ hm;refine di hi hm rfl rfl _ _ _ _ (.inl U) rfl rfl rfl l5 (λk hk _=>a k hk) (λk h=>l4) ?_;have c:Le G w (G.nh p (M w.heap.size) (Ta+1) l.length (C,0)) (w.alloc (.cells cs T)):=by
  refine⟨λ_ h=>h,λk hk=>a k (hi.F k hk),x? _,λi _=>?_⟩
  grind[Gh.nh]
 have b:(w.alloc (.cells cs T)).heap[w.heap.size]?=M (.cells cs T (0,0)):=by
  show(w.heap.push (.cells cs T))[w.heap.size]?=_;simp
 refine⟨by simp[Gh.nh],by grind[Gh.nh],by simp[Gh.nh],by grind[Gh.nh],.inr ⟨w.heap.size,cs,T,by simp[Gh.nh],λh=>?_,b,by grind[Gh.nh],by simpa [Gh.nh] using Mo b (hr.mono c)⟩⟩;have:=hi.F _ h;omega
def Kr(s:St) (p:Nat):I->Option (D×Ent)
 |.alloc S z=>match s.m[p]? with
  |some (k? S' Ta [])=>if S'=S then M (.ref p (Ta+1) 0 0,k? S (Ta+1) [z])else q6
  |_=>q6
 |.box S x=>match s.m[p]? with
  |some (k? S' Ta [])=>if S'=S/\(s.ev x).ok=a35/\(s.ev x).cells.length=S then M (.ref p (Ta+1) 0 0,k? S (Ta+1) [s.ev x])else q6
  |_=>q6
 |.bslice S n z ps=>match s.m[p]? with
  |some (k? S' Ta [])=>if S'=S then(ld s S ps (l! n z)).map λl=>(.own p (Ta+1),k? S (Ta+1) l)else q6
  |_=>q6
 |_=>q6
section
variable {P:a42} {G:Gh} {w:a39} {a:Act} {s:St} {d:D} {e:Ent} {p:Nat}
theorem vW{w':a39}{C N:Nat}(hp:p<G.n):VRel (G.nh p (M b) (Ta+1) N (C,0)) w' (.ref p (Ta+1) 0 0) (.pointer (M ⟨b,0,q6⟩)):=by
 simp only[VRel];exact⟨_,rfl,by grind[Gh.nh],by simp[Gh.nh],λ_=>⟨b,by simp[Gh.nh],by simp[Gh.nh]⟩⟩
theorem aj8{w':a39}{C N:Nat}(hp:p<G.n):VRel (G.nh p (M b) (Ta+1) N (C,0)) w' (.own p (Ta+1)) (.slice (M ⟨b,0,q6⟩) N C):=by
 simp only[VRel];exact⟨_,_,_,rfl,by grind[Gh.nh],by simp[Gh.nh],λ_=>⟨by simp[Gh.nh],by simp[Gh.nh],by simp[Gh.nh]⟩⟩
theorem aM9(hr:p! G w a s) (ho:o.op=.alloc t) (f:q? P t=M z) (he:Kr s p (.alloc z.cells.size (z? z))=M (d,e)) :
 p? G w s.m ((execOp a.eval o).run P w) d (s.m.set p e):=by
 simp only[Kr]at he;split at he
 .rename_i S' Ta hm;split at he
  .rename_i hS;subst hS;injection he with he;injection he with c h2;subst c;subst h2;obtain⟨hz1,b,hz3,-⟩:=yq f w;obtain⟨g1,g2⟩:=EJ hr.inv hm [z? z] 1 z.cells t (IF (kC z b) rfl (VR b)) l5 l5;refine⟨_,_,_,?_,.inl ⟨_,rfl,vW (C:=1) (N:=1) (by rw[hr.inv.n];grind)⟩,g1,g2⟩
   simp_all[execOp,Instr.alloc,newVar,newRow]
  simp_all
 simp_all
theorem ck5(hr:p! G w a s) (ho:o.op=.box t x) (he:Kr s p (.box S x)=M (d,e)) :
 p? G w s.m ((execOp a.eval o).run P w) d (s.m.set p e):=by
 simp only[Kr]at he;split at he
 .rename_i S' Ta hm;split at he
  .rename_i hc;obtain⟨rfl,f,hlen⟩:=hc;injection he with he;injection he with b h2;subst b;subst h2;have hx:=hr.ev x;obtain⟨hv,b⟩:=hx.cells f;have g:(a.eval x).cells.size=S':=by rw[←xac,hv.length];omega
   obtain⟨g1,g2⟩:=EJ hr.inv hm [s.ev x] 1 (a.eval x).cells t (IF hx g (λj c hj=>b c o0)) l5 U;refine⟨_,_,_,?_,.inl ⟨_,rfl,vW (C:=1) (N:=1) (by rw[hr.inv.n];grind)⟩,g1,g2⟩
   simp_all[execOp,Instr.box,newVar,newRow]
  simp_all
 simp_all
theorem ap8(hr:p! G w a s) {e':TypeId}{ps:Array (Nat×a41)}(ho:o.op=.buildSlice t n ps)
 (ht:P.underlying t=M (.slice e')) (y:q? P e'=M z) (hsmall:n*z.cells.size<=2 ^ 24) (he:Kr s p (.bslice z.cells.size n (z? z) ps.toList)=M (d,e)) :
 p? G w s.m ((execOp a.eval o).run P w) d (s.m.set p e):=by
 simp only[Kr]at he;split at he
 .rename_i S' Ta hm;split at he
  .rename_i hS;subst hS;simp only[A',H?]at he;obtain⟨l,hb,rfl,rfl⟩:=he;obtain⟨u,v,hz3,i,hi,c,hzz⟩:=yq y w;obtain⟨cells,hf,g,hcs,b⟩:=OS hr hb (Fy v n) l5;simp only[List.length_replicate]at b;obtain⟨g1,g2⟩:=EJ hr.inv hm l n cells e' g U l4;refine⟨_,_,_,?_,.inl ⟨_,rfl,aj8 (N:=l.length) (C:=n) (by rw[hr.inv.n];grind)⟩,g1,g2⟩;unfold execOp;simp only[ho];have q:¬(2 ^ 24<n*i.size):=l4
   by_cases x:n*i.size=0
   .have j:n=0:=by
     grind[Nat.mul_eq_zero]
    subst j;rw[c.symm]at hf;rw[Nat.zero_mul,show Uad 0 = #[]from rfl,Array.map_empty]at hf;have h:Instr.fill (λk=>M (k*i.size,i.size)) #[] (ps.toList.map λp=>(p.1,a.eval p.2))=M cells:=hf;have r:∀f:Nat->a38,Array.map f (Uad 0) = #[]:=λf=>l5
    simp[Instr.buildSlice,run_underlying ht,We hi,r,h,newRow,b]
   .rw[c.symm]at hf;simp[Instr.buildSlice,run_underlying ht,We hi,q,x,u,hf,newRow,b,c.symm]
  simp_all
 simp_all
theorem PZ{i:I}(hc:Sw P ops o o.op=M i) (hr:p! G w a s) (he:Kr s p i=M (d,e)):p? G w s.m ((execOp a.eval o).run P w) d (s.m.set p e):=by
 cases i with
 |alloc S z=>
  obtain⟨t,b,ho,f,rfl,rfl⟩:∃t b,o.op=.alloc t/\q? P t=M b/\b.cells.size=S/\z? b=z:=by
   unfold Sw at hc;split at hc
   .grind[NF,A']
   .unfold EK at hc
    repeat' split at hc
    all_goals first
     |cases hc
     |(
      simp only[A']at hc;obtain⟨b,f,h⟩:=hc
      first|cases h|skip)
    simp_all
  grind[aM9]
 |box S x=>
  obtain⟨t,ho⟩:∃t,o.op=.box t x:=by
   unfold Sw at hc;split at hc
   .grind[NF,A']
   .unfold EK at hc
    grind[A']
  grind[ck5]
 |bslice S n z ps=>
  obtain⟨t,e',c,b,ho,ht,f,hsmall,rfl,rfl,rfl⟩:∃t e' c b,o.op=.buildSlice t n c/\P.underlying t=M (.slice e')/\q? P e'=M b/\n*b.cells.size<=2 ^ 24/\b.cells.size=S/\z? b=z/\c.toList=ps:=by
   unfold Sw at hc;split at hc
   .grind[NF,A']
   .unfold EK at hc
    repeat' split at hc
    all_goals first
     |(cases hc;exact⟨_,_,_,_,U,U,U,U,rfl,rfl,rfl⟩)
     |cases hc
     |(
      simp only[A']at hc;obtain⟨b,f,h⟩:=hc;cases h)
  grind[ap8]
 |_=>simp[Kr]at he
end
theorem oV{i:I}(ht:∀t∈i.reads,s'.t.getD t d!=s.t.getD t d!) (hm:s'.m[p]?=s.m[p]?):Kr s' p i=Kr s p i:=by
 cases i with
 |alloc S z=>grind[Kr]
 |box S x=>
  grind[I.reads,Kr,Ba]
 |bslice S n z ps=>
  grind[I.reads,Kr,Fx]
 |_=>rfl
theorem nV{i:I}(h:Kr s p i=M (d,e)):p<s.m.length:=by
 rcases Ζ p s.m.length with a|a
 .omega
 .have hn:=List.getElem?_eq_none a;cases i<;>simp[Kr,hn]at h
def ZE:Option Nat->St->RI->List Nat
 |some p,_,.op ..=>[p]
 |some _,s,.call _ _ _ args=>Yb s args
 |none,s,r=>br s r
def nr(P:a42) (o:Option Nat) (r:RI) (s:St) (d:D) (x:List Ent) (w:Option (Nat×Ent)):Prop:=
 match o with
 |none=>MB P r s d x w
 |some p=>(∃dst i e,r=.op dst q6 i/\x=[]/\w=M (p,e)/\Kr s p i=M (d,e))\/
  (∃dst f args k first caps e,r=.call dst q6 f args/\x=[]/\w=M (p,e)/\s.cv f=.fn k first caps/\p∈Yb s args/\(∀id∈Yb s args,id<s.m.length)/\
   ∀m,(∀id∈Yb s args,m[id]?=s.m[id]?)->CallT P k (first++args.map s.ev++caps) m λd' m'=>d'=d/\m'=m.set p e)
def pO(pl:List (Option Nat)) (i:Nat):Option Nat:=pl.getD i q6
theorem X3{pl:List (Option Nat)}:(pl.drop k).headD q6=pO pl k:=by
 simp_all[pO]
theorem tail_drop{pl:List (Option Nat)}:(pl.drop k).tail=pl.drop (k+1):=l5
theorem aU8{xx:Nat->List Ent}{L:Nat->Bool}(m:List Ent):∀n,m.length<=(mS xx L m n).length
 |0=>x? _
 |n+1=>by
  have:=aU8 (xx:=xx) (L:=L) m n
  grind[mS]
def bE(P:a42):List (Option Nat)->List RI->St->Os->List (List Nat)->St->Prop
 |_,[],s,os,rs,s'=>os=[]/\rs=[]/\s'=s
 |pl,r::l,s,os,rs,s'=>∃d x w os' a,os=(d,x,w)::os'/\rs=ZE (pl.headD q6) s r::a/\nr P (pl.headD q6) r s d x w/\bE P pl.tail l (bp s r d x w) os' a s'
section
variable {P:a42}
theorem bE.length:∀{l:List RI}{pl:List (Option Nat)}{s s':St}{os:Os}{rs:List (List Nat)},bE P pl l s os rs s'->os.length=l.length
 |[],pl,s,s',os,rs,h=>by simp[h.1]
 |r::l,pl,s,s',os,rs,h=>by
  obtain⟨d,x,w,os',rs',rfl,rfl,_,h⟩:=h;simp[bE.length h]
theorem nr.lt{o:Option Nat}{r:RI}{s:St}{d:D}{x:List Ent}{w:Option (Nat×Ent)}(h:nr P o r s d x w) {id:Nat}{e:Ent}(hw:w=M (id,e)):id<s.m.length/\x=[]/\id∈ZE o s r:=by
 cases o with
 |none=>exact MB.lt h hw
 |some p=>
  rcases h with⟨dst,i,e',rfl,hx,a,hf⟩|⟨dst,f,args,k,first,caps,e',rfl,hx,a,hf,c,hl,_⟩
  .rw[a]at hw;injection hw with hw;injection hw with b h2;subst b;exact⟨nV hf,hx,by simp[ZE]⟩
  .rw[a]at hw;injection hw with hw;injection hw with b h2;subst b;exact⟨hl _ c,hx,c⟩
theorem bE.get{pl:List (Option Nat)}{rl:List RI}{os:Os}{s0:St}:∀{l:List RI}{k:Nat}{s':St}{os':Os}{rs:List (List Nat)},l=(rl.drop k).take l.length->os'=(os.drop k).take os'.length->
 (∀j,j<k->∀id e,R5 os j=M (id,e)->id<(mS (DP os) (λ_=>a35) s0.m k).length)->bE P (pl.drop k) l (Ks rl os s0 (λ_=>a35) k) os' rs s'->
 (∀i,i<l.length->nr P (pO pl (k+i)) (rl.getD (k+i) o5) (Ks rl os s0 (λ_=>a35) (k+i)) (ddC os (k+i)) (DP os (k+i)) (R5 os (k+i))/\rs.getD i []=ZE (pO pl (k+i)) (Ks rl os s0 (λ_=>a35) (k+i)) (rl.getD (k+i) o5))/\s'=Ks rl os s0 (λ_=>a35) (k+l.length)
 |[],k,s',os',rs,_,_,_,h=>⟨λi hi=>o0,by simpa using h.2.2⟩
 |r::l,k,s',os',rs,q,h2,hv,h=>by
  obtain⟨d,x,w,a,rs',rfl,rfl,n,h⟩:=h;rw[X3]at n;rw[tail_drop]at h;have hr:rl[k]?=M r:=by
   have:=congrArg (λl=>l[0]?) q
   grind
  have ho:os[k]?=M (d,x,w):=by
   have:=congrArg (λl=>l[0]?) h2
   grind
  have g:rl.getD k o5=r:=l4
  have ho':os.getD k os0=(d,x,w):=l4
  have hd:ddC os k=d:=by grind[ddC]
  have hx:DP os k=x:=by grind[DP]
  have hw:R5 os k=w:=by grind[R5]
  have hds:v7 rl k=r.dst:=by grind[v7]
  have c:mS (DP os) (λ_=>a35) s0.m (k+1)=mS (DP os) (λ_=>a35) s0.m k++x:=by grind[mS]
  have b:bp (Ks rl os s0 (λ_=>a35) k) r d x w=Ks rl os s0 (λ_=>a35) (k+1):=by
   rw[LM];simp only[Ks,tS,w3,St.mk.injEq];refine⟨o0,?_⟩;rw[c];simp only[sS,w3,hw];rw[GZ _ _ _ λj hj _ id e he=>hv j hj id e he]
   cases w with
   |none=>rfl
   |some p=>
    obtain⟨id,e⟩:=p;obtain⟨_,hx0,_⟩:=n.lt rfl
    grind[wr]
  have o:∀j,j<k+1->∀id e,R5 os j=M (id,e)->id<(mS (DP os) (λ_=>a35) s0.m (k+1)).length:=by
   intro j hj id e he;rw[c,Χ];by_cases f:j=k
   .subst f;rw[hw]at he;have:=(n.lt he).1
    grind[Ks,It]
   .have:=hv j U id e he;omega
  rw[b]at h;have t1:l=(rl.drop (k+1)).take l.length:=by
   grind[Yaa]
  have t2:a=(os.drop (k+1)).take a.length:=by
   grind[Yaa]
  obtain⟨g1,g2⟩:=bE.get t1 t2 o h;refine⟨λi hi=>?_,o0⟩
  cases i with
  |zero=>simp only[Nat.add_zero,g,hd,hx,hw];grind[X3]
  |succ i=>
   have:=g1 i o0
   grind
theorem aM6(hc:Rt P ops o=M r) {x:List Ent}{O:Option (Nat×Ent)}{N:Option Nat}(hf:nr P N r sc d x O) (ht:∀t∈r.reads,s.t.getD t d!=sc.t.getD t d!)
 (hm:N=q6->r.cls=2->s.m.length=sc.m.length) (j8:∀(id:Nat),id∈ZE N sc r->(∃e,sc.m[id]?=M e)->id<s.m.length->s.m[id]?=sc.m[id]?) (B:∀p,N=M p->p<s.m.length)
 {G:Gh} {w:a39} (hr:p! G w a s) (hi:ops[i]?=M o) {Q:Exit->Act->a39->Prop} {K:Act->a39->Prop}
 (S:∀G' w' a',p! G' w' a' (bp s r d x O)->Step G w s.m G' w' (wr s.m O++x)->(∀id e,O=M (id,e)->id<s.m.length)->K a' w'):wpOp P ops Q i K a w:=by
 cases N with
 |none=>exact aM7 hc hf ht (hm rfl) j8 hr hi S
 |some p=>
  rcases hf with⟨dst,j,e,rfl,rfl,rfl,E⟩|⟨dst,f,args,k,first,caps,e,rfl,rfl,rfl,hfe,hpt,I,C⟩
  rotate_left
  .have A:=QC hc;have hp:=B p rfl;unfold wpOp;simp only[hi];unfold Rt at hc;split at hc
   .grind
   .rename_i g T;split at hc
    .rename_i Y args' ho;injection hc with hc;injection hc with Z h2 R h4;subst h2;subst R;subst h4;obtain⟨b,y⟩:=Lr hr T;rw[J (b rfl o rfl)];refine .inl ?_;have H:s.cv Y=.fn k first caps:=by grind[RI.reads,XM]
     have c:args'.map s.ev=args'.map sc.ev:=G? (λt h=>ht t (by grind[RI.reads]));obtain⟨⟨fn,e1,e2,e3⟩,F⟩:=C s.m λid z=>by
      refine j8 id z ⟨_,n! (I id z)⟩ ?_;rw[uK,←c]at z;rw[←hr.inv.n];exact Uz (qF hr _) z
     obtain⟨fs,cs,L,V,W⟩:=dF hr ho (as1 H) e1 e2 e3;rw[←c]at F;have l:=F G w (fs++args'.map a.eval++cs) ((V.append (qF hr _)).append W) hr.inv;unfold Oper.wp;rw[L,Oper.upon_enter];refine l.mono ?_;rintro e0 w' ⟨v,d',m',G',rfl,⟨rfl,rfl⟩,X,j6,j4⟩;refine S G' w' _ ?_ (by grind[wr]) (λid e' h=>l4);unfold bp;rw[V!];rw[A];exact(hr.step j4.le j6).put o.dst X
    simp_all
  have A:=QC hc;have hp:=B p rfl;have hat:=nV E;have q:Kr s p j=M (d,e):=by
   grind[RI.reads,ZE,oV]
  unfold wpOp;simp only[hi];unfold Rt at hc;split at hc
  .grind
  .rename_i g T;split at hc
   .simp_all
   .rename_i hno;simp only[A']at hc;obtain⟨j',hj,h⟩:=hc;injection h with Z h2 R;subst h2;subst R;obtain⟨b,y⟩:=Lr hr T;rw[J (b rfl o rfl)];refine .inl ?_;exact hr.jx (PZ hj hr q) λG' w' u hr' j4=>S G' w' _ (by grind[bp,wr]) (by grind[wr]) (λid e' h=>l4)
end
def wB(o:Option Nat):RI->Bool
 |.op _ _ i=>o.isSome || i.tgt.isSome
 |.call ..=>o.isSome
def lB(o:Option Nat):RI->Bool
 |.op _ _ i=>o.isSome || i.tgt.isSome || i.at?.isSome
 |.call ..=>a35
def UB(o a:Option Nat) (x y:RI):Bool:=(wB o x&&lB a y) || (wB a y&&lB o x)
def rB(o a:Option Nat) (x y:RI):Bool:=
 (
  match x.dst with
  |some t=>y.reads.contains t || y.dst==M t
  |none=>a36) ||
 (
  match y.dst with
  |some t=>x.reads.contains t
  |none=>a36) ||
 (o.isNone&&a.isNone&&x.cls==2&&y.cls==2)
def SA(bs:List (List Nat)) (rl:List RI) (q:Nat) (ps:List (List Nat)) (pl:List (Option Nat)):Bool:=
 let ms:=DD bs
 (o? q).all λj=>match rl[j]? with
  |none=>a36
  |some y=>((pO pl j).isSome || y.JL)&&(o? j).all λi=>match rl[i]? with
   |none=>a36
   |some x=>(ms.getD j 0).testBit i || (!rB (pO pl i) (pO pl j) x y&&(!UB (pO pl i) (pO pl j) x y || (ps.getD j []).contains i))
structure Q! (bs:List (List Nat)) (rl:List RI) (q:Nat) (ps:List (List Nat)) (pl:List (Option Nat)):Prop extends TailFacts bs rl q where
 JL:∀(j:Nat) y,j<q->rl[j]?=M y->((pO pl j).isSome || y.JL)=a35
 apart:∀(i j:Nat) x y,i<j->j<q->rl[i]?=M x->rl[j]?=M y->rB (pO pl i) (pO pl j) x y=a35->((DD bs).getD j 0).testBit i=a35
 pairs:∀(i j:Nat) x y,i<j->j<q->rl[i]?=M x->rl[j]?=M y->UB (pO pl i) (pO pl j) x y=a35->((DD bs).getD j 0).testBit i=a35\/i∈ps.getD j []
variable {pl:List (Option Nat)}
theorem MP{bs:List (List Nat)}{rl:List RI}{q:Nat}{ps:List (List Nat)}(ht:TailFacts bs rl q) (h:SA bs rl q ps pl=a35):Q! bs rl q ps pl:=by
 unfold SA at h;simp only[R',uac]at h;refine⟨ht,?_,?_,?_⟩
 all_goals grind
section
variable {P:a42} {ops:Array Oper} {Q:Exit->Act->a39->Prop} {K:St->Prop} {rl:List RI} {q:Nat} {ps:List (List Nat)} {pl:List (Option Nat)}
theorem CR{o a:Option Nat}{x y:RI}(hx:id∈ZE o s x) (hy:wB a y=a35):UB o a x y=a35:=by
 have h:lB o x=a35:=by
  cases o with
  |some p=>cases x<;>simp[lB]
  |none=>
   cases x with
   |call=>rfl
   |op d g i=>
    grind[ZE,br,lB]
 grind[UB]
theorem iY{o a:Option Nat}{x y:RI}:UB o a x y=UB a o y x:=by grind[UB]
theorem nr.wB{o:Option Nat}{r:RI}{s:St}{d:D}{x:List Ent}{p:Nat×Ent}(h:nr P o r s d x (M p)):Go.Tm.wB o r=a35:=by
 cases o with
 |some p=>cases r<;>rfl
 |none=>
  cases r with
  |call=>obtain⟨_,h,_⟩:=h;cases h
  |op d g i=>
   rcases h with⟨_,⟨h,_⟩|⟨_,a,_,_,h,_⟩⟩|⟨_,_,_,h⟩
   all_goals grind[Go.Tm.wB]
theorem mY(hc:Ni P ops ops.toList=M rl) (hf:Q! (Nb ops) rl q ps pl) {os:Os}
 (I:∀i,i<q->nr P (pO pl i) (rl.getD i o5) (Ks rl os s0 (λ_=>a35) i) (ddC os i) (DP os i) (R5 os i))
 (hpl:∀i p,pO pl i=M p->p<s0.m.length)
 (B:∀i,i<q->DP os i≠[]->(rl.getD i o5).cls=2/\pO pl i=q6)
 (hap:∀i j,i<j->j<q->i∈ps.getD j []->∀id,id∈ZE (pO pl i) (Ks rl os s0 (λ_=>a35) i) (rl.getD i o5)->id∉ZE (pO pl j) (Ks rl os s0 (λ_=>a35) j) (rl.getD j o5))
 (hT:Ym P (rl.drop q) K (Ks rl os s0 (λ_=>a35) q)) :
 ∀(fuel:Nat) (listed:Array Bool) (G:Gh) (w:a39) (a:Act),((o? ops.size).filter λj=>!Je listed j).length<=fuel->listed.size=ops.size->Closed (Nb ops) (Je listed)->
  (∀j,q<=j->Je listed j=a36)->p! G w a (Ks rl os s0 (Je listed) q)->(∀j,j<q->Je listed j=a35->∀id e,R5 os j=M (id,e)->id<(mS (DP os) (Je listed) s0.m q).length)->
  (∀s' G' w' a',K s'->p! G' w' a' s'->Step G w (Ks rl os s0 (Je listed) q).m G' w' s'.m->Q .normal a' w')->wpAny P .any ops Q fuel listed a w:=by
 obtain⟨Y,W⟩:=NA hc;simp only[xac]at Y;have hq:=hf.hq;have d:∀{L L':Nat->Bool},(∀j,j<q->L j=L' j)->Ks rl os s0 L q=Ks rl os s0 L' q:=by
  intro L L' h;have hs:∀(m:List Ent) n,n<=q->sS (R5 os) L m n=sS (R5 os) L' m n:=by
   intro m n
   induction n with
   |zero=>intro _;rfl
   |succ n ih=>grind[sS]
  simp only[Ks,St.mk.injEq];exact⟨mP _ _ λj hj=>h j hj,by rw[WN _ _ λj hj=>h j hj,hs _ _ (x? _)]⟩
 intro fuel
 induction fuel with
 |zero=>
  intro listed G w a o F H T j8 hV hQ;have V:∀i,i<ops.size->Je listed i=a35:=by
   simp_all
  have hqn:q=ops.size:=by
   rcases Ζ q ops.size with h|h
   all_goals grind
  have E:Ks rl os s0 (Je listed) q=Ks rl os s0 (λ_=>a35) q:=d λj hj=>V j U;refine zF hc hf.toTailFacts 0 q 0 listed _ G w a U (x? _) (x? _) U F (λi=>?_) hT l4 o0
  grind
 |succ fuel ih=>
  intro listed G w a o F H T j8 hV hQ;by_cases b:∀j,j<q->Je listed j=a35
  .have E:Ks rl os s0 (Je listed) q=Ks rl os s0 (λ_=>a35) q:=d λj hj=>b j hj;have g:∀i,Je listed i=s5 (i<q):=λi=>by
    grind
   have hcnt:=O? q ops.size;simp only[g]at o;exact zF hc hf.toTailFacts (ops.size-q) q (fuel+1) listed _ G w a rfl U (x? _) U F g hT l4 o0
  .refine⟨λhno=>(b λj hj=>EE hf.toTailFacts F hno j U).elim,λi hi=>?_⟩;obtain⟨h1,h2,h3,h4,j6⟩:=aB hf.toTailFacts F H hi;have c:i<q:=by
    rcases Ζ i q with h|h
    .exact h
    .exact(b λj hj=>h3 j U (hf.tail j i U h U)).elim
   have z:∀j,j<q->rl[j]?=M (rl.getD j o5):=λj hj=>getD_some U _;obtain⟨r,hr,hco⟩:=W i ops[i] l5;have hrr:rl.getD i o5=r:=o0
   have early:∀j x,j<i->rl[j]?=M x->rB (pO pl j) (pO pl i) x r=a35->Je listed j=a35:=λj x hj hx u=>h3 j U (hf.apart j i x r hj c hx hr u);have late:∀j y,i<j->j<q->rl[j]?=M y->rB (pO pl i) (pO pl j) r y=a35->Je listed j=a36:=by
    intro j y hj R hy u;rcases hb:Je listed j with _|_
    .rfl
    .have:=Mz H hb (hf.apart i j r y hj R hr hy u)
     grind
   have hF:=I i c;rw[hrr]at hF;have v:∀(k l:Nat) (x y:RI),(x.cls=2/\pO pl k=q6)->(y.cls=2/\pO pl l=q6)->rB (pO pl k) (pO pl l) x y=a35:=λk l x y hx hy=>by grind[rB]
   have ordered:∀j,j<q->∀id e,R5 os j=M (id,e)->id∈ZE (pO pl i) (Ks rl os s0 (λ_=>a35) i) r->(Je listed j=a35↔j<i):=by
    intro j hj id e hw D;have j4:=I j hj;have S:=j4.lt hw;have E:Go.Tm.wB (pO pl j) (rl.getD j o5)=a35:=by rw[hw]at j4;exact j4.wB
    rcases Nat.lt_trichotomy j i with A|A|A
    .refine⟨λ_=>A,λ_=>?_⟩;have N:UB (pO pl j) (pO pl i) (rl.getD j o5) r=a35:=by grind[iY,CR]
     rcases hf.pairs j i _ r A c (z j hj) hr N with h|h
     all_goals grind
    .grind
    .refine⟨λg=>?_,λh=>U⟩;have N:UB (pO pl i) (pO pl j) r (rl.getD j o5)=a35:=CR D E;rcases hf.pairs i j r _ A hj hr (z j hj) N with h|h
     all_goals grind[Mz]
   refine aM6 hco hF (s:=Ks rl os s0 (Je listed) q) ?_ ?_ ?_ ?_ j8 (Cab h1) ?_
   .intro y hy;refine NW s0.t U λj hj hd=>?_;have hxj:=z j hj
    grind[v7,rB]
   .intro hpo hcls;simp only[Ks,It];refine congrArg List.length (LV s0.m (Nat.le_of_lt c) λj hj hx=>?_)
    grind
   .rintro id D ⟨e,he⟩ O;obtain⟨k,hk,Z⟩:=PJ (xx:=DP os) (L:=Je listed) s0.m q λi1 j1 X hj hx1 hx2 hL1=>
     Mz H hL1 (hf.apart i1 j1 _ _ X hj (z i1 U) (z j1 hj) (v _ _ _ _ (B i1 U hx1) (B j1 hj hx2)))
    simp only[Ks,It]at he O⊢;have S:id<(mS (DP os) (λ_=>a35) s0.m i).length:=by
     grind[It]
    rw[aP _ _ _ O,aP _ _ _ S,RY U λj hj e hw=>ordered j hj id e hw D];have hbase:(mS (DP os) (Je listed) s0.m q)[id]?=(mS (DP os) (λ_=>a35) s0.m i)[id]?:=by
     rw[Z]at O⊢;rcases baf i k with h|h
     .obtain⟨rr,hrr'⟩:=qM (xx:=DP os) s0.m h
      grind
     .obtain⟨rr,hrr'⟩:=qM (xx:=DP os) s0.m h
      grind
    grind
   .grind[Ks,It,aU8]
   .intro G' w' a' C hs' S;have f:mS (DP os) (Je (listed.setIfInBounds i a35)) s0.m q=mS (DP os) (Je listed) s0.m q++DP os i:=by
     refine J3 s0.m h2 j6 c ?_
     grind
    have E:bp (Ks rl os s0 (Je listed) q) r (ddC os i) (DP os i) (R5 os i)=Ks rl os s0 (Je (listed.setIfInBounds i a35)) q:=by
     rw[LM];simp only[Ks,St.mk.injEq];constructor
     .rw[E5 s0.t h2 j6 c ?_]
      all_goals grind[v7,rB]
     .rw[f,aD4 _ h2 j6 c ?_]
      .rw[GZ _ _ _ λj hj g id e he=>hV j hj g id e he]
       cases hw:R5 os i with
       |none=>rfl
       |some p=>
        obtain⟨id,e⟩:=p;have:=(hF.lt hw).2.1
        grind[wr]
      .intro j X R g id e e' hwi hwj;have:=(ordered j R id e' hwj (hF.lt hwi).2.2).1 g;omega
    rw[E]at C;refine ih (listed.setIfInBounds i a35) G' w' a' ?_ o0 h4 ?_ C ?_ ?_
    .have:=S! h2 j6 (l:=o? ops.size) o0;omega
    .grind
    .intro j hj g id e he;rw[f,Χ];rw[j6,wad,R2]at g;rcases g with g|rfl
     all_goals grind[Ks,It]
    .intro s'' G'' w'' a'' k1 k2 k3;refine hQ s'' G'' w'' a'' k1 k2 (hs'.trans ?_)
     grind[LM]
end
def Qs(P:a42):List (Option Nat)->List (List Nat)->List (List Nat)->Nat->List RI->(St->Prop)->St->Prop
 |_,_,_,0,l,K,s=>Ym P l K s
 |_,_,_,_+1,[],_,_=>False
 |pl,ps,fp,q+1,.op dst g i::l,K,s=>
  match pl.headD q6 with
  |some p=>zH fp [p] (ps.headD [])=a35/\g=q6/\∃d e,Kr s p i=M (d,e)/\Qs P pl.tail ps.tail (fp++[[p]]) q l K ({ s with m:=s.m.set p e }.put dst d)
  |none=>
   zH fp (br s (.op dst g i)) (ps.headD [])=a35/\
   match j! s g with
   |none=>False
   |some q6=>∃d m',Ch s i=a35/\fa s i=M (d,m')/\Qs P pl.tail ps.tail (fp++[br s (.op dst g i)]) q l K ({ s with m:=m' }.put dst d)
   |some (M (c,b))=>(c=b->∃d m',Ch s i=a35/\fa s i=M (d,m')/\Qs P pl.tail ps.tail (fp++[br s (.op dst g i)]) q l K ({ s with m:=m' }.put dst d))/\(c≠b->Qs P pl.tail ps.tail (fp++[br s (.op dst g i)]) q l K (s.put dst (.v undef)))
 |pl,ps,fp,q+1,.call dst g f args::l,K,s=>
  match pl.headD q6,s.cv f with
  |some p,.fn k first caps=>g=q6/\p∈Yb s args/\zH fp (Yb s args) (ps.headD [])=a35/\∃d e,((∀id∈Yb s args,id<s.m.length)/\∀m,(∀id∈Yb s args,m[id]?=s.m[id]?)->CallT P k (first++args.map s.ev++caps) m λd' m'=>d'=d/\m'=m.set p e)/\Qs P pl.tail ps.tail (fp++[Yb s args]) q l K ({ s with m:=s.m.set p e }.put dst d)
  |none,.fn k first caps=>
   match j! s g with
   |none=>False
   |some q6=>zH fp (Yb s args) (ps.headD [])=a35/\∃d,((∀id∈Yb s args,id<s.m.length)/\∀m,(∀id∈Yb s args,m[id]?=s.m[id]?)->CallT P k (first++args.map s.ev++caps) m λd' m'=>d'=d/\m'=m)/\Qs P pl.tail ps.tail (fp++[Yb s args]) q l K (s.put dst d)
   |some (M (c,b))=>zH fp (Yb s args) (ps.headD [])=a35/\(c=b->∃d,((∀id∈Yb s args,id<s.m.length)/\∀m,(∀id∈Yb s args,m[id]?=s.m[id]?)->CallT P k (first++args.map s.ev++caps) m λd' m'=>d'=d/\m'=m)/\Qs P pl.tail ps.tail (fp++[Yb s args]) q l K (s.put dst d))/\(c≠b->Qs P pl.tail ps.tail (fp++[Yb s args]) q l K (s.put dst (.v undef)))
  |none,_=>zH fp (Yb s args) (ps.headD [])=a35/\(∃c b,j! s g=M (M (c,b))/\c≠b)/\Qs P pl.tail ps.tail (fp++[Yb s args]) q l K (s.put dst (.v undef))
  |_,_=>False
section
variable {P:a42} {K:St->Prop}
theorem Y3:pO pl.tail j=pO pl (j+1):=by grind[pO]
theorem OH:∀{q:Nat}{l:List RI}{s:St}{pl:List (Option Nat)}{ps:List (List Nat)}{fp:List (List Nat)},Qs P pl ps fp q l K s->(∀(j:Nat) y,j<q->l[j]?=M y->((pO pl j).isSome || y.JL)=a35)->
 ∃os rs s1,bE P pl (l.take q) s os rs s1/\Ym P (l.drop q) K s1/\(∀j,j<q->∀i∈ps.getD j [],i<fp.length+j->Gv ((fp++rs).getD i []) (rs.getD j [])=a35)
 |0,l,s,pl,ps,fp,h,_=>⟨[],[],s,by simp[bE],by simpa [Qs] using h,λj hj=>U⟩
 |q+1,[],s,pl,ps,fp,h,_=>by simp[Qs]at h
 |q+1,.op dst g i::l,s,pl,ps,fp,h,hc=>by
  have A:∀(j:Nat) y,j<q->l[j]?=M y->((pO pl.tail j).isSome || y.JL)=a35:=λj y hj O=>by grind[Y3]
  simp only[Qs]at h;have join:∀{s2:St} {d x w},zH fp (ZE (pl.headD q6) s (.op dst g i)) (ps.headD [])=a35->nr P (pl.headD q6) (.op dst g i) s d x w->bp s (.op dst g i) d x w=s2->Qs P pl.tail ps.tail (fp++[ZE (pl.headD q6) s (.op dst g i)]) q l K s2->
   ∃os rs s1,bE P pl ((RI.op dst g i::l).take (q+1)) s os rs s1/\Ym P ((RI.op dst g i::l).drop (q+1)) K s1/\(∀j,j<q+1->∀i∈ps.getD j [],i<fp.length+j->Gv ((fp++rs).getD i []) (rs.getD j [])=a35):=by
   intro s2 d x w n N hs r;obtain⟨os,rs,s1,H,h2,I⟩:=OH r A;refine⟨(d,x,w)::os,ZE (pl.headD q6) s (.op dst g i)::rs,s1,by simp only[gab,bE];grind,l4,λj hj k hk G=>?_⟩
   cases j with
   |zero=>
    have E:k∈ps.headD []:=by cases ps with|nil=>simp at hk|cons a b=>simp_all
    have F:k<fp.length:=U
    have B:(fp++ZE (pl.headD q6) s (.op dst g i)::rs).getD k []=fp.getD k []:=by
     grind
    grind[aM]
   |succ j=>
    grind[Κ]
  split at h
  .rename_i p z;obtain⟨n,rfl,d,e,hf,r⟩:=h;exact join (d:=d) (x:=[]) (w:=M (p,e)) (by rw[z];exact n) (by rw[z];exact .inl ⟨dst,i,e,rfl,rfl,rfl,hf⟩) (show bp s (.op dst q6 i) d [] (M (p,e))=({ s with m:=s.m.set p e }:St).put dst d by grind[bp,wr,RI.dst]) (by rw[z];exact r)
  .rename_i z;have j8:(RI.op dst g i).JL=a35:=by
    have:=hc 0 _ U rfl;have h0:pO pl 0=q6:=by rw[←z];cases pl<;>rfl
    simp_all
   simp only[z,ZE,nr]at join;obtain⟨n,h⟩:=h;have on:∀{d:D} {m':List Ent},Ch s i=a35->fa s i=M (d,m')->(j! s g=M q6\/∃c,j! s g=M (M (c,c)))->Qs P pl.tail ps.tail (fp++[br s (.op dst g i)]) q l K ({ s with m:=m' }.put dst d)->
    ∃os rs s1,bE P pl ((RI.op dst g i::l).take (q+1)) s os rs s1/\Ym P ((RI.op dst g i::l).drop (q+1)) K s1/\(∀j,j<q+1->∀i∈ps.getD j [],i<fp.length+j->Gv ((fp++rs).getD i []) (rs.getD j [])=a35):=by
    intro d m' C he u r;simp only[RI.JL,wad,w2]at j8;by_cases L:i.cls<=2
    .have ext:∃x,m'=s.m++x:=by
      rcases Ζ i.cls 2 with h2|h2
      .exact⟨[],by rw[V!];exact(Zu (s:=s) (s':=s) U (λ_ _=>rfl) (λ_ _ _ _=>rfl) he).1⟩
      .obtain⟨e,h,_⟩:=LK (s:=s) (s':=s) U (λ_ _=>rfl) rfl he
       simp_all
     obtain⟨x,rfl⟩:=ext;exact join n (x:=x) (w:=q6) (.inl ⟨u,.inl ⟨rfl,L,he⟩⟩) rfl r
    .have ht:i.tgt.isSome=a35:=l4
     obtain⟨a,ha⟩:=Option.isSome_iff_exists.1 ht;obtain⟨id,e,H,rfl,I,h4⟩:=WQ ha C he;refine join n (x:=[]) (w:=M (id,e)) (.inl ⟨u,.inr ⟨rfl,a,id,e,ha,H,rfl,he,?_,C⟩⟩) ?_ r
     all_goals grind[bp,wr,RI.dst]
   have off:(∃c b,j! s g=M (M (c,b))/\c≠b)->Qs P pl.tail ps.tail (fp++[br s (.op dst g i)]) q l K (s.put dst (.v undef))->
    ∃os rs s1,bE P pl ((RI.op dst g i::l).take (q+1)) s os rs s1/\Ym P ((RI.op dst g i::l).drop (q+1)) K s1/\(∀j,j<q+1->∀i∈ps.getD j [],i<fp.length+j->Gv ((fp++rs).getD i []) (rs.getD j [])=a35):=λu r=>
    join n (d:=.v undef) (x:=[]) (w:=q6) (.inr ⟨u,rfl,rfl,rfl⟩) (by simp_all[bp,wr,RI.dst]) r
   split at h
   .simp_all
   .grind
   .rename_i c b u;by_cases t:c=b
    .subst t;obtain⟨d,m',C,he,r⟩:=h.1 rfl
     simp_all
    .exact off ⟨c,b,u,t⟩ (h.2 t)
 |q+1,.call dst g f args::l,s,pl,ps,fp,h,hc=>by
  have A:∀(j:Nat) y,j<q->l[j]?=M y->((pO pl.tail j).isSome || y.JL)=a35:=λj y hj O=>by grind[Y3]
  rcases z:pl.headD q6 with _|p
  rotate_left
  .simp only[Qs]at h
   cases hf:s.cv f with
   |fn k first caps=>
    simp only[z,hf]at h;obtain⟨rfl,j4,n,d,e,o,r⟩:=h;obtain⟨os,rs,s1,H,h2,I⟩:=OH r A;refine⟨(d,[],M (p,e))::os,Yb s args::rs,s1,?_,l4,λj hj k hk G=>?_⟩
    .simp only[gab,bE,z];refine⟨d,[],M (p,e),os,rs,rfl,rfl,.inr ⟨dst,f,args,k,first,caps,e,rfl,rfl,rfl,hf,j4,o.1,o.2⟩,?_⟩
     grind[bp,wr,RI.dst]
    .cases j with
     |zero=>
      have E:k∈ps.headD []:=by cases ps with|nil=>simp at hk|cons a b=>simp_all
      have F:k<fp.length:=U
      have B:(fp++Yb s args::rs).getD k []=fp.getD k []:=by
       grind
      grind[aM]
     |succ j=>
      grind[Κ]
   |_=>simp only[z,hf]at h
  have haf:∀d,bp s (.call dst g f args) d [] q6=s.put dst d:=λd=>by simp_all[bp,wr,RI.dst]
  have join:∀{d},zH fp (Yb s args) (ps.headD [])=a35->MB P (.call dst g f args) s d [] q6->Qs P pl.tail ps.tail (fp++[Yb s args]) q l K (s.put dst d)->
   ∃os rs s1,bE P pl ((RI.call dst g f args::l).take (q+1)) s os rs s1/\Ym P ((RI.call dst g f args::l).drop (q+1)) K s1/\(∀j,j<q+1->∀i∈ps.getD j [],i<fp.length+j->Gv ((fp++rs).getD i []) (rs.getD j [])=a35):=by
   intro d n N r;obtain⟨os,rs,s1,H,h2,I⟩:=OH r A;refine⟨(d,[],q6)::os,Yb s args::rs,s1,by simp only[gab,bE,z,ZE,br,nr];grind,l4,λj hj k hk G=>?_⟩
   cases j with
   |zero=>
    have E:k∈ps.headD []:=by cases ps with|nil=>simp at hk|cons a b=>simp_all
    have F:k<fp.length:=U
    have B:(fp++Yb s args::rs).getD k []=fp.getD k []:=by
     grind
    grind[aM]
   |succ j=>
    grind[Κ]
  simp only[Qs]at h
  cases hf:s.cv f with
  |fn k first caps=>
   simp only[z,hf]at h;split at h
   .simp_all
   .rename_i u;obtain⟨n,d,o,r⟩:=h;exact join n ⟨rfl,rfl,.inl ⟨k,first,caps,hf,.inl u,o⟩⟩ r
   .rename_i c b u;obtain⟨n,h⟩:=h;by_cases t:c=b
    .subst t;obtain⟨d,o,r⟩:=h.1 rfl;exact join n ⟨rfl,rfl,.inl ⟨k,first,caps,hf,.inr ⟨c,u⟩,o⟩⟩ r
    .exact join n ⟨rfl,rfl,.inr ⟨⟨c,b,u,t⟩,rfl⟩⟩ (h.2 t)
  |_=>
   simp only[z,hf]at h;obtain⟨n,⟨c,b,u,t⟩,r⟩:=h;exact join n ⟨rfl,rfl,.inr ⟨⟨c,b,u,t⟩,rfl⟩⟩ r
end
section
variable {P:a42} {N:Nat} {ops:Array Oper} {Q:Exit->Act->a39->Prop} {K:St->Prop} {rl:List RI} {q:Nat} {ps:List (List Nat)} {pl:List (Option Nat)}
theorem NG(rz:P.follows .mixedOrders=a35) (hc:Ni P ops ops.toList=M rl) (hf:Q! (Nb ops) rl q ps pl) (B:Qs P pl ps [] q rl K s) (u:∀i p,pO pl i=M p->p<s.m.length)
 {G:Gh} {w:a39} (hr:p! G w a s) (hQ:∀s' G' w' a',K s'->p! G' w' a' s'->Step G w s.m G' w' s'.m->Q .normal a' w'):(Code.region id ops a35).wp P Q a w:=by
 obtain⟨os,rs,s1,x,C,hap⟩:=OH B hf.JL;have c:(rl.take q).length=q:=by rw[bac];have:=hf.hq;omega
 have e:=x.length;rw[c]at e;have A:Ks rl os s (λ_=>a35) 0=s:=rfl;obtain⟨g1,g2⟩:=bE.get (pl:=pl) (rl:=rl) (os:=os) (s0:=s) (k:=0) (l:=rl.take q) (os':=os) (s':=s1) (rs:=rs) l5 l5 (λj hj=>U) (by rw[A];exact x);simp only[c,Y?]at g1 g2;subst g2;have r:∀j,Je (Oab ops.size a36) j=a36:=by
  intro j;unfold Je;simp only[Qac,Oad]
  grind
 have d:Ks rl os s (Je (Oab ops.size a36)) q=s:=by
  have ht:∀n,tS (v7 rl) (ddC os) (Je (Oab ops.size a36)) s.t n=s.t:=by
   intro n
   induction n with
   |zero=>rfl
   |succ n z=>simp_all[tS]
  have hm:∀n,mS (DP os) (Je (Oab ops.size a36)) s.m n=s.m:=by
   intro n
   induction n with
   |zero=>rfl
   |succ n z=>simp_all[mS]
  have hw:∀n,sS (R5 os) (Je (Oab ops.size a36)) s.m n=s.m:=by
   intro n
   induction n with
   |zero=>rfl
   |succ n z=>simp_all[sS]
  grind[Ks]
 refine wp_region_any rz ?_;have v:=N?.drew w;refine mY hc hf (λi hi=>(g1 i hi).1) u ?_ ?_ C ops.size _ G _ a ?_ l5 ?_ (λj _=>r j) ?_ (λj _ h=>l4) ?_
 .intro i hi hx;have h:=(g1 i hi).1;rcases y:pO pl i with _|p
  .rw[y]at h;refine⟨?_,rfl⟩
   cases o:rl.getD i o5 with
   |call dst g f args=>
    rw[o]at h;obtain⟨h,_⟩:=h
    simp_all
   |op dst g j=>
    rw[o]at h;rcases h with⟨-,⟨_,hcl,h⟩|⟨h,_⟩⟩|⟨-,-,h,_⟩
    .simp only[RI.cls];rcases Ζ j.cls 2 with h2|h2
     .obtain⟨hm,-⟩:=Zu (s:=Ks rl os s (λ_=>a35) i) (s':=Ks rl os s (λ_=>a35) i) U (λ_ _=>rfl) (λ_ _ _ _=>rfl) h
      simp_all
     omega
    all_goals simp_all
  .rw[y]at h;rcases h with⟨_,_,_,_,h,_⟩|⟨_,_,_,_,_,_,_,_,h,_⟩
   all_goals simp_all
 .grind[CQ]
 .grind
 .intro i b _ hi
  simp_all
 .rw[d];exact⟨hr.t.mono (v.le G),v.inv hr.inv,hr.defers⟩
 .intro s' G' w' a' D E k3;rw[d]at k3;exact hQ s' G' w' a' D E ((v.step G s.m).trans k3)
def Nz(m:List Ent) (pl:List (Option Nat)):Bool:=pl.all λo=>match o with|some p=>s5 (p<m.length)|none=>a35
theorem aj5{m:List Ent}{pl:List (Option Nat)}(h:Nz m pl=a35):∀i p,pO pl i=M p->p<m.length:=by
 intro i p a;unfold Nz at h;rw[R']at h;unfold pO at a;have hm:M p∈pl:=by
  grind
 grind
theorem T.anyO(hm:P.follows .mixedOrders=a35) {bs:List (List Nat)}{K:Exit->St->Prop}(ps:List (List Nat)) (pl:List (Option Nat)) (c:SA bs l q ps pl=a35) (d:Nz s.m pl=a35) (h:Qs P pl ps [] q l (K .normal) s):T P N (.any cuts q bs l) K s:=by
 intro code hc G w a hN hr;obtain⟨id,ops,rfl,rfl,b,e⟩:=as7 hc;exact NG hm b (MP (JT e).1 c) h (aj5 d) hr λs' G' w' a' f g k3=>⟨s',G',f,g,k3.toN hN⟩
theorem RA{K:St->Prop}:∀{q:Nat}{l:List RI}{ps fp:List (List Nat)}{s:St},LD P ps fp q l K s->Qs P [] ps fp q l K s
 |0,l,ps,fp,s,h=>by simpa only[Qs,LD] using h
 |q+1,[],ps,fp,s,h=>by simp[LD]at h
 |q+1,.op dst g i::l,ps,fp,s,h=>by
  simp only[Qs,LD,Rae,Xae]at h⊢;refine⟨h.1,?_⟩;have h2:=h.2
  cases j:j! s g with
  |none=>simp_all
  |some o=>
   cases o with
   |none=>
    simp only[j]at h2⊢;obtain⟨d,m',a,h2,e⟩:=h2;exact⟨d,m',a,h2,RA e⟩
   |some m=>
    obtain⟨c,b⟩:=m;simp only[j]at h2⊢;refine⟨λhc=>?_,λhc=>RA (h2.2 hc)⟩;obtain⟨d,m',a,h2,e⟩:=h2.1 hc;exact⟨d,m',a,h2,RA e⟩
 |q+1,.call dst g f args::l,ps,fp,s,h=>by
  simp only[Qs,LD,Rae,Xae]at h⊢
  cases hf:s.cv f with
  |fn k first caps=>
   simp only[hf]at h⊢
   cases j:j! s g with
   |none=>simp_all
   |some o=>
    cases o with
    |none=>
     simp only[j]at h⊢;obtain⟨n,d,a,e⟩:=h;exact⟨n,d,a,RA e⟩
    |some m=>
     obtain⟨c,b⟩:=m;simp only[j]at h⊢;refine⟨h.1,λhc=>?_,λhc=>RA (h.2.2 hc)⟩;obtain⟨d,a,e⟩:=h.2.1 hc;exact⟨d,a,RA e⟩
  |_=>simp only[hf]at h
def T.any2(hm:P.follows .mixedOrders=a35) {bs:List (List Nat)}{K:Exit->St->Prop}(ps:List (List Nat)) (a:SA bs l q ps []=a35) (h:LD P ps [] q l (K .normal) s):T P N (.any cuts q bs l) K s:=
 T.anyO hm ps [] a rfl (RA h)
theorem T.drawO(hm:P.follows .mixedOrders=a35) {K:Exit->St->Prop}(h:Qs P [] [] [] q l (K .normal) s):T P N (.draw q l) K s:=by
 intro code hc G w a hN hr;obtain⟨id,ops,rfl,f,n⟩:=tJ hc;have hf:=oz n;have b:∀i,pO [] i=q6:=λi=>rfl;have notgt:∀(j:Nat) d g i,j<q->l[j]?=M (.op d g i)->i.tgt=q6:=by
  intro j d g i hj hl;have o:=hf.cls j _ hj hl
  cases ht:i.tgt with
  |none=>rfl
  |some x=>grind[RI.cls,wM]
 refine NG hm f (ps:=[]) (pl:=[]) ⟨hf.toTailFacts,?_,?_,?_⟩ h (λi p hp=>l4) hr λs' G' w' a' r t k3=>⟨s',G',r,t,k3.toN hN⟩
 .intro j y hj e;have:=hf.cls j y hj e;rw[b]
  cases y with
  |call=>rfl
  |op d g i=>grind[RI.JL,RI.cls]
 .intro i j x y c hj hx e hcl;refine hf.apart i j x y c hj hx e ?_
  grind[rB,rG]
 .intro i j x y c hj hx e m;exfalso;rw[b,b]at m
  cases x with
  |call=>
   cases y with
   |call=>grind[UB,wB]
   |op d g k=>grind[UB,wB]
  |op d g k=>
   have o:=notgt i d g k U hx
   cases y with
   |call=>grind[UB,wB]
   |op d' g' k'=>grind[UB,wB]
theorem T.drawP(hm:P.follows .mixedOrders=a35) {K:Exit->St->Prop}(ps:List (List Nat)) (pl:List (Option Nat)) (hcl:∀i p,pO pl i=M p->∃a b c d,l[i]?=M (.call a b c d))
 (hps:∀j,j<q->∀i,i<j->i∈ps.getD j []) (n:Nz s.m pl=a35) (h:Qs P pl ps [] q l (K .normal) s):T P N (.draw q l) K s:=by
 intro code hc G w a hN hr;obtain⟨id,ops,rfl,e,k⟩:=tJ hc;have hf:=oz k;refine NG hm e (ps:=ps) (pl:=pl) ⟨hf.toTailFacts,?_,?_,?_⟩ h (aj5 n) hr λs' G' w' a' r t k3=>⟨s',G',r,t,k3.toN hN⟩
 .intro j y hj o;have:=hf.cls j y hj o
  cases y with
  |call=>simp[RI.JL]
  |op d g i=>grind[RI.JL,RI.cls]
 .intro i j x y f hj hx o hcl';refine hf.apart i j x y f hj hx o ?_
  grind[rB,rG]
 simp_all
end
section
variable {P:a42} {N:Nat}
mutual
def Ad(n:Nat):D->D->Prop
 |.v x,.own i v=>x=.slice q6 0 0/\i=n/\v=0
 |.agg l,.agg r=>Ow n l r
 |d,e=>d=e
def Ow(n:Nat):List D->List D->Prop
 |[],r=>r=[]
 |d::l,r=>∃e a,r=e::a/\Ad n d e/\Ow n l a
end
theorem Ad.inv{e:D}(h:Ad n d e):(d=.v (.slice q6 0 0)/\e=.own n 0)\/(∃l r,d=.agg l/\e=.agg r/\Ow n l r)\/d=e:=by
 cases d<;>cases e<;>simp_all[Ad]
mutual
theorem Ad.rel{G:Gh}{w:a39}{n:Nat}(ho:VRel G w (.own n 0) (.slice q6 0 0)):∀{d e:D}{u:a38},Ad n d e->VRel G w d u->VRel G w e u
 |.agg l,e,u,b,h=>by
  rcases b.inv with⟨a,_⟩|⟨l',r,a,rfl,c⟩|rfl
  .grind
  .injection a with a;subst a;simp only[VRel]at h⊢;obtain⟨cs,rfl,h,a⟩:=h;exact⟨cs,rfl,Ow.rel ho c h,a⟩
  omega
 |.v x,e,u,b,h=>by
  rcases b.inv with⟨a,rfl⟩|⟨_,_,a,_⟩|rfl
  .injection a with a;subst a;simp only[VRel]at h;simp_all
  all_goals simp_all
 |.tup l,e,u,b,h=>by rcases b.inv with⟨a,_⟩|⟨_,_,a,_⟩|rfl<;>first|cases a|exact h
 |.sl S l,e,u,b,h=>by rcases b.inv with⟨a,_⟩|⟨_,_,a,_⟩|rfl<;>first|cases a|exact h
 |.pt x,e,u,b,h=>by rcases b.inv with⟨a,_⟩|⟨_,_,a,_⟩|rfl<;>first|cases a|exact h
 |.ref _ _ _ _,e,u,b,h=>by rcases b.inv with⟨a,_⟩|⟨_,_,a,_⟩|rfl<;>first|cases a|exact h
 |.own _ _,e,u,b,h=>by rcases b.inv with⟨a,_⟩|⟨_,_,a,_⟩|rfl<;>first|cases a|exact h
 |.view _ _ _ _,e,u,b,h=>by rcases b.inv with⟨a,_⟩|⟨_,_,a,_⟩|rfl<;>first|cases a|exact h
 |.fn _ _ _,e,u,b,h=>by rcases b.inv with⟨a,_⟩|⟨_,_,a,_⟩|rfl<;>first|cases a|exact h
 |.mp _,e,u,b,h=>by rcases b.inv with⟨a,_⟩|⟨_,_,a,_⟩|rfl<;>first|cases a|exact h
 |.ifc _ _,e,u,b,h=>by rcases b.inv with⟨a,_⟩|⟨_,_,a,_⟩|rfl<;>first|cases a|exact h
 |d!,e,u,b,h=>by rcases b.inv with⟨a,_⟩|⟨_,_,a,_⟩|rfl<;>first|cases a|exact h
theorem Ow.rel{G:Gh}{w:a39}{n:Nat}(ho:VRel G w (.own n 0) (.slice q6 0 0)):∀{l r:List D}{us:List a38},Ow n l r->VsRel G w l us->VsRel G w r us
 |[],r,us,a,h=>by simp only[Ow]at a;simp_all
 |d::l,r,us,a,h=>by
  simp only[Ow]at a;obtain⟨e,r',rfl,c,h2⟩:=a;simp only[VsRel]at h⊢;obtain⟨u,b,rfl,g1,g2⟩:=h;exact⟨u,b,rfl,Ad.rel ho c g1,Ow.rel ho h2 g2⟩
end
theorem Ow.row{G:Gh}{w:a39}{n b S:Nat}(ho:VRel G w (.own n 0) (.slice q6 0 0)):∀{l r:List D}{off:Nat},Ow n l r->Va G w b S l off->Va G w b S r off
 |[],r,off,a,h=>by simp only[Ow]at a;subst a;exact h
 |d::l,r,off,a,h=>by
  simp only[Ow]at a;obtain⟨e,r',rfl,c,h2⟩:=a;simp only[Va]at h⊢;obtain⟨⟨u,g1,g2,g3⟩,g4⟩:=h;exact⟨⟨u,Ad.rel ho c g1,g2,g3⟩,Ow.row ho h2 g4⟩
theorem Ow.length{n:Nat}:∀{l r:List D},Ow n l r->l.length=r.length
 |[],r,h=>by simp[Ow]at h;simp[h]
 |d::l,r,h=>by
  simp only[Ow]at h;obtain⟨e,r',rfl,_,h2⟩:=h;simp[Ow.length h2]
mutual
theorem Ad.refl(n:Nat):∀d:D,Ad n d d
 |.agg l=>by simp only[Ad];exact Ow.refl n l
 |.v x=>by simp[Ad]
 |.tup l=>by simp[Ad]
 |.sl S l=>by simp[Ad]
 |.pt d=>by simp[Ad]
 |.ref ..=>by simp[Ad]
 |.own ..=>by simp[Ad]
 |.view ..=>by simp[Ad]
 |.fn ..=>by simp[Ad]
 |.mp ..=>by simp[Ad]
 |.ifc ..=>by simp[Ad]
 |d!=>by simp[Ad]
theorem Ow.refl(n:Nat):∀l:List D,Ow n l l
 |[]=>by simp[Ow]
 |d::l=>by simp only[Ow];exact⟨d,l,rfl,Ad.refl n d,Ow.refl n l⟩
end
theorem Ow.cons{e:D}{l r:List D}(h1:Ad n d e) (h2:Ow n l r):Ow n (d::l) (e::r):=by
 simp only[Ow];grind
theorem Ad.nil(n:Nat):Ad n (.v (.slice q6 0 0)) (.own n 0):=by simp[Ad]
def qL(n:Nat):Ent->Ent->Prop
 |k? S v l,k? S' c l'=>S=S'/\v=c/\Ow n l l'
 |.mp a,.mp b=>a.map (·.1)=b.map (·.1)/\Ow n (a.map (·.2)) (b.map (·.2))
 |e,e'=>e=e'
def MC(n:Nat):List Ent->List Ent->Prop
 |[],r=>r=[]
 |d::l,r=>∃e a,r=e::a/\qL n d e/\MC n l a
theorem qL.refl(n:Nat) (e:Ent):qL n e e:=by cases e<;>simp[qL,Ow.refl]
theorem MC.refl(n:Nat):∀m:List Ent,MC n m m
 |[]=>by simp[MC]
 |d::l=>by simp only[MC];exact⟨d,l,rfl,qL.refl n d,MC.refl n l⟩
theorem MC.cons{d:Ent}{l r:List Ent}(h1:qL n d e) (h2:MC n l r):MC n (d::l) (e::r):=by
 simp only[MC];grind
theorem qL.live{n S v:Nat}{l r:List D}(h:Ow n l r):qL n (k? S v l) (k? S v r):=by simp only[qL];simp_all
theorem MC.get{n:Nat}:∀{m m':List Ent},MC n m m'->m.length=m'.length/\∀(i:Nat) e,m'[i]?=M e->∃e0,m[i]?=M e0/\qL n e0 e
 |[],m',h=>by simp[MC]at h;subst h;simp
 |d::m,m',h=>by
  simp only[MC]at h;obtain⟨e,r',rfl,a,h2⟩:=h;obtain⟨b,c⟩:=MC.get h2;refine⟨by simp[b],λi e' he=>?_⟩
  cases i with
  |zero=>simp at he;subst he;exact⟨d,rfl,a⟩
  |succ i=>simpa using c i e' (by simpa using he)
theorem MC.append{n:Nat}:∀{m m':List Ent}(x:List Ent),MC n m m'->MC n (m++x) (m'++x)
 |[],m',x,h=>by simp[MC]at h;subst h;exact MC.refl n x
 |d::m,m',x,h=>by
  simp only[MC]at h;obtain⟨e,r',rfl,a,h2⟩:=h;simp only[List.cons_append];exact MC.cons a (MC.append x h2)
theorem am3{G:Gh}{w:a39}{n:Nat}(ho:VRel G w (.own n 0) (.slice q6 0 0)):∀{a b:List (a38×D)}{es:List MapEntry},a.map (·.1)=b.map (·.1)->Ow n (a.map (·.2)) (b.map (·.2))->Ke G w a es->Ke G w b es
 |[],[],_,_,_,h=>h
 |(k,d)::a,(k',d')::b,es,hk,hd,h=>by
  obtain⟨e,r,c,f,h2,g⟩:=h;simp only[F?,Bad]at hk;simp only[F?,Ow,Bad]at hd;obtain⟨x,r',⟨rfl,rfl⟩,g1,g2⟩:=hd;exact⟨e,r,c,by rw[f,hk.1],Ad.rel ho g1 h2,am3 ho hk.2 g2 g⟩
 |[],_::_,_,hk,_,_=>by simp at hk
 |_::_,[],_,hk,_,_=>by simp at hk
theorem qL.rel{G:Gh}{w:a39}{e':Ent}(ho:VRel G w (.own n 0) (.slice q6 0 0)) (h:qL n e e') (hr:Zo G w i e):Zo G w i e':=by
 cases e with
 |live S v l=>
  cases e' with
  |live S' v' l'=>
   simp only[qL]at h;obtain⟨rfl,rfl,h⟩:=h;obtain⟨a1,a2,a3,a4,a5⟩:=hr;rw[h.length]at a3 a4;refine⟨a1,a2,a3,a4,?_⟩;rcases a5 with a5|⟨g,cs,T,d,j,c,m,f⟩
   .exact .inl a5
   .exact .inr ⟨g,cs,T,d,j,c,m,Ow.row ho h f⟩
  |_=>simp[qL]at h
 |mp a=>
  cases e' with
  |mp b=>
   simp only[qL]at h;obtain⟨a1,g,p,o,d,j,c,k⟩:=hr;exact⟨a1,g,p,o,d,j,c,am3 ho h.1 h.2 k⟩
  |_=>simp[qL]at h
 |gone=>simp only[qL]at h;subst h;exact hr
theorem qL.isLive{n:Nat}{e e':Ent}(h:qL n e e'):e'.isLive=e.isLive:=by
 cases e<;>cases e'<;>simp_all[qL,Ent.isLive]
theorem T.adoptM{c:C}(S:Nat) {t':List D}{m':List Ent}(ht:Ow s.m.length s.t t') (hm:MC s.m.length s.m m') (h:Tm.T P N c K ⟨t',m'++[k? S 0 []]⟩):Tm.T P N c K s:=by
 refine T.ghost (λG w a hN hr=>?_) h;have d:=cE (w':=w) hr.inv q6 S 0 0 (k? S 0 []) rfl rfl rfl rfl (x? _) (λ_ _=>rfl) (λk h=>by cases h)
  ⟨by simp[Gh.add],by simp[Gh.add],by simp[Gh.add],l5,.inl ⟨by simp[Gh.add],by simp[Gh.add]⟩⟩
 have ho:=PE (s:=s) (b:=q6) (S:=S) (N:=0) (C:=0) (w':=w) hr.inv.n;have l:=(MC.append [k? S 0 []] hm).get;have hi:=d.1;refine⟨_,⟨Ow.rel ho ht (hr.t.mono d.2.le),⟨by rw[hi.n,l.1],hi.F,λi e he=>?_,λi j e e' he u hl hl' b hb r=>?_,hi.gl⟩,hr.defers⟩,?_⟩
 .obtain⟨e0,f,g⟩:=l.2 i e he;exact g.rel ho (hi.ent i e0 f)
 .obtain⟨e0,f,g⟩:=l.2 i e he;obtain⟨o,p,q⟩:=l.2 j e' u;exact hi.apart i j e0 o f p (by rw[←g.isLive];omega) (by rw[←q.isLive];omega) b hb r
 .refine { d.2.toN hN with newB:=λb hb v=>d.2.newB b hb ?_ };obtain⟨i,e,he,hl,x⟩:=v;obtain⟨e0,f,g⟩:=l.2 i e he;exact⟨i,e0,f,by rw[←g.isLive];omega,x⟩
end
def IM(S id x:Nat) (s:St):St:=
 match s.m[id]? with
 |some (k? S' v l)=>
  match l[x]? with
  |some (.v (.slice q6 0 0))=>⟨s.t,s.m.set id (k? S' v (l.set x (.own s.m.length 0)))++[k? S 0 []]⟩
  |_=>s
 |_=>s
theorem Ow.set{n:Nat}:∀{l:List D}{x:Nat},l[x]?=M (.v (.slice q6 0 0))->Ow n l (l.set x (.own n 0))
 |[],x,h=>o0
 |d::l,0,h=>by grind[Ow.cons,Ad.nil,Ow.refl]
 |d::l,x+1,h=>Ow.cons (Ad.refl n d) (Ow.set l4)
theorem MC.set{n S v:Nat}{l l':List D}(hl:Ow n l l'):∀{m:List Ent}{id:Nat},m[id]?=M (k? S v l)->MC n m (m.set id (k? S v l'))
 |[],id,h=>o0
 |e::m,0,h=>by grind[MC.cons,qL.live,MC.refl]
 |e::m,id+1,h=>MC.cons (qL.refl n e) (MC.set hl l4)
theorem av6{P:a42}{N:Nat}{c:C}{x:Nat}(h:Tm.T P N c K (IM S id x s)):Tm.T P N c K s:=by
 unfold IM at h;split at h
 .rename_i S' v l hm;split at h
  .rename_i hx;exact T.adoptM S (Ow.refl _ _) (MC.set (Ow.set hx) hm) h
  omega
 omega
def LA(S id:Nat):Nat->St->St
 |0,s=>s
 |x+1,s=>IM S id x (LA S id x s)
def nJ{P:a42}{N:Nat}{c:C}{K:Exit->St->Prop}{S id:Nat}:∀{x:Nat}{s:St},Tm.T P N c K (LA S id x s)->Tm.T P N c K s
 |0,s,h=>h
 |x+1,s,h=>nJ (x:=x) (av6 h)
def cs9:RI->Option Nat
 |.op _ q6 (.alloc S _)=>M S
 |.op _ q6 (.box S _)=>M S
 |.op _ q6 (.bslice S _ _ _)=>M S
 |_=>q6
def ct4:RI->Bool
 |.op _ _ i=>Oae i.cls 2
 |_=>a36
def z!:List RI->Nat->List (Option Nat)
 |[],_=>[]
 |r::l,n=>
  match cs9 r with
  |some _=>bif l.any ct4 then M n::z! l (n+1)else q6::z! l n
  |none=>q6::z! l n
def cB6(m:List Ent) (d:D):Option D:=
 bif flat d then M d else
 match d with
 |.own id Ta=>
  match m[id]? with
  |some (k? S v l)=>bif Oae v Ta&&XQ l then M (.sl S l)else q6
  |_=>q6
 |_=>q6
def kL(id Ta:Nat) (d:D):D:=
 match d with
 |.ref i v x s=>bif Oae i id&&Oae v Ta then .ref 0 0 x s else d!
 |d=>bif xa d then d else d!
theorem W9{G G':Gh}{w:a39}(a:V' G w G' w) (hr:∀x s u,VRel G w (.ref id Ta x s) u->VRel G' w (.ref 0 0 x s) u) {u:a38}(h:VRel G w d u):VRel G' w (kL id Ta d) u:=by
 unfold kL;split
 .rename_i i v x s;cases hb:(Oae i id&&Oae v Ta)
  .simp[VRel]
  simp_all
 .cases hf:xa d
  .simp[VRel]
  .exact h.free a hf
section
variable {P:a42}
theorem au0{l X:List D}{m m1:List Ent}{ds:List D}{d1:D}
 (t:m[id]?=M (k? S Ta l)) (hl:oa l=a35) (j8:m1[0]?=M (k? S 0 X))
 (h:CallT P k (ds.map (kL id Ta)) [k? S 0 l] λd m'=>d=d1/\m'=m1) :
 CallT P k ds m λd m'=>d=Ig 8 (m1.set 0 .gone) d1/\m'=m.set id (k? S Ta (X.map (Ig 8 (m1.set 0 .gone)))):=by
 refine⟨h.1,λG w vs hv hi=>?_⟩;have hlen:id<m.length:=(Paa.1 t).1;obtain⟨eV,eS,eN,eC,eB⟩:=hi.ent id _ t;have j4:V' G w ⟨G.F,1,λ_=>G.B id,λ_=>0,λ_=>G.S id,λ_=>G.N id,λ_=>G.C id⟩ w:=⟨λ_ h=>h,λ_ _=>rfl⟩;have hv':=Dx (G':=⟨G.F,1,λ_=>G.B id,λ_=>0,λ_=>G.S id,λ_=>G.N id,λ_=>G.C id⟩) (f:=kL id Ta) (λd u hu=>W9 j4 (λx s u hu=>by
  simp only[VRel]at hu⊢
  grind) hu) hv
 have hic:Inv ⟨G.F,1,λ_=>G.B id,λ_=>0,λ_=>G.S id,λ_=>G.N id,λ_=>G.C id⟩ w [k? S 0 l]:=by
  refine⟨rfl,hi.F,?_,?_,hi.gl.bare λ_ h=>h⟩
  .intro i e he
   cases i with
   |zero=>
    simp at he;subst he;refine⟨rfl,eS,eN,eC,?_⟩;rcases eB with h|⟨b,cs,T,p,h2,W,Z,h5⟩
    .simp_all
    .exact .inr ⟨b,cs,T,p,h2,W,Z,Va.free j4 rfl hl h5⟩
   |succ i=>simp at he
  grind
 have r:∀b,Jg ⟨G.F,1,λ_=>G.B id,λ_=>0,λ_=>G.S id,λ_=>G.N id,λ_=>G.C id⟩ [k? S 0 l] b->G.B id=M b:=by
  rintro b ⟨i,e,he,-,E⟩;omega
 refine(h.2 _ w vs hv' hic).mono ?_;rintro e w' ⟨v,d,m',G',rfl,⟨rfl,rfl⟩,hvd,g,a⟩;obtain⟨fV,fS,fN,fC,fB⟩:=g.ent 0 _ j8;have hlen1:0<m'.length:=(Paa.1 j8).1;have live1:(Ent.live S Ta l).isLive=a35:=rfl;obtain⟨sB,sS,sN,sC⟩:G'.B 0=G.B id/\G'.S 0=G.S id/\G'.N 0=G.N id/\G'.C 0=G.C id:=by
  rcases a.le.id 0 (Nat.lt_succ_self 0)with⟨_,p,h2,W,Z⟩|h
  all_goals simp_all
 have c:∀i x,(m'.set 0 .gone)[i]?=M x->(i=0/\x=.gone)\/(i≠0/\m'[i]?=M x):=by
  grind
 have O:Inv G' w' (m'.set 0 .gone):=by
  refine⟨by simpa using g.n,g.F,?_,?_,g.gl⟩
  .intro i x hx;rcases c i x hx with⟨rfl,rfl⟩|⟨L,hx⟩
   .trivial
   .exact g.ent i x hx
  .intro i j x y hx j6 A Y b hb I;rcases c i x hx with⟨rfl,rfl⟩|⟨L,hx⟩
   .cases A
   .rcases c j y j6 with⟨rfl,rfl⟩|⟨p,j6⟩
    .cases Y
    .exact g.apart i j x y hx j6 A Y b hb I
 have H:∀b,Jg G' (m'.set 0 .gone) b->Jg G' m' b/\G'.B 0≠M b:=by
  rintro b ⟨i,x,hx,A,E⟩;rcases c i x hx with⟨rfl,rfl⟩|⟨L,hx⟩
  .cases A
  .exact⟨⟨i,x,hx,A,E⟩,λh=>L (g.apart i 0 x _ hx j8 A rfl b E h)⟩
 have hF':∀b,(G'.F b\/Jg G' (m'.set 0 .gone) b)->b<w'.heap.size:=by
  rintro b (hb|hb)
  .exact g.F b hb
  .exact(Jg.lt O hb).1
 have R:∀d u,VRel G' w' d u->VRel ⟨λb=>G'.F b\/Jg G' (m'.set 0 .gone) b,G.n,G.B,G.V,G.S,G.N,G.C⟩ w' (Ig 8 (m'.set 0 .gone) d) u:=by
  intro d u hu;have L:=qV O 8 d u hu;refine VRel.free ?_ (DF _ _ _) L;exact⟨λ_ h=>h,λ_ _=>rfl⟩
 have Q:Le G w ⟨λb=>G'.F b\/Jg G' (m'.set 0 .gone) b,G.n,G.B,G.V,G.S,G.N,G.C⟩ w':=
  ⟨λb hb=>.inl (a.le.F b hb),λb hb=>a.le.heap b hb,x? _,λi _=>.inl l5⟩
 have K:∀i x,m[i]?=M x->x.isLive=a35->∀b,G.B i=M b->b<w.heap.size/\¬G.F b:=λi x hx hl b hb=>(hi.ent i x hx).lt hl hb;have notO:∀i x,m[i]?=M x->x.isLive=a35->i≠id->∀b,G.B i=M b->G.B id≠M b:=λi x hx o hne b hb E=>hne (hi.apart i id x _ hx t o live1 b hb E);have q:∀i x,(m.set id (k? S Ta (X.map (Ig 8 (m'.set 0 .gone)))))[i]?=M x->(m[i]?=M x/\i≠id)\/(i=id/\x=k? S Ta (X.map (Ig 8 (m'.set 0 .gone)))):=by
  grind
 refine⟨v,_,_,⟨λb=>G'.F b\/Jg G' (m'.set 0 .gone) b,G.n,G.B,G.V,G.S,G.N,G.C⟩,rfl,⟨rfl,rfl⟩,R _ _ hvd,⟨by simp[hi.n],hF',?_,?_,g.gl.bare λ_ h=>.inl h⟩,⟨Q,a.os,a.tape,a.output,a.size,?_,?_,?_⟩⟩
 .intro i x hx;rcases q i x hx with⟨p,h2⟩|⟨rfl,rfl⟩
  .by_cases o:x.isLive=a35
   .refine(hi.ent i x p).mono Q l5 (λb hb=>?_) (λb hb _ z=>?_)
    .exact a.keep b (K i x p o b hb).1 λho=>notO i x p o h2 b hb (r b ho)
    .rcases z with z|z
     .rcases a.newF b (K i x p o b hb).1 z with h|h
      all_goals grind
     .exact(notO i x p o h2 b hb (r b (a.newB b (K i x p o b hb).1 (H b z).1))).elim
   .cases x with
    |gone=>trivial
    |_=>grind[Ent.isLive]
  .refine⟨eV,eS,l4,l4,?_⟩
   grind[Gy]
 .intro i j x y hx j6 A Y b hb I;rcases q i x hx with⟨p,h2⟩|⟨rfl,rfl⟩<;>rcases q j y j6 with⟨W,Z⟩|⟨rfl,rfl⟩
  .exact hi.apart i j x y p W A Y b hb I
  all_goals grind
 .intro b hb hno;exact a.keep b hb λho=>hno ⟨id,_,t,live1,r b ho⟩
 .intro b hb z;rcases z with z|z
  .rcases a.newF b hb z with h|h
   all_goals grind
  .exact .inr ⟨id,_,t,live1,r b (a.newB b hb (H b z).1)⟩
 .rintro b hb ⟨i,x,hx,A,E⟩;rcases q i x hx with⟨p,h2⟩|⟨rfl,rfl⟩
  .exact⟨i,x,p,A,E⟩
  .exact⟨i,_,t,live1,E⟩
end
def eE(q:Nat):List (List Nat):=(o? q).map o?
theorem lU{q:Nat}:∀j,j<q->∀i,i<j->i∈(eE q).getD j []:=by
 grind[eE]
end Go.Tm
