/-
  The engine: a part of the proof that trees of values are carried along by the program: no condition.
-/
import Derived.Test.YtfanhhhgcabpnaaGreatDoorEA
import Derived.Orders
open Array renaming getD_eq_getD_getElem?→bq,getElem?_eq_getElem→Yn,getElem?_toList→Zn,length_toList→Ao,mem_toList_iff→Tr,range→Jr,replicate→dq
open Bool renaming and_eq_true→xn,false_eq_true→tn,or_eq_true→Vo
open List renaming all_eq_true→qo,append_assoc→Mo,append_nil→bo,drop_eq_getElem_cons→Uo,drop_eq_nil_of_le→Gq,drop_zero→Lp,eq_nil_of_length_eq_zero→Jn,filter_cons→Rq,getD_cons_succ→Bq,getD_cons_zero→iq,getD_eq_getElem?_getD→Dn,getElem?_append_left→Io,getElem?_drop→nq,getElem?_eq_getElem→pn,getElem?_eq_none→Rn,getElem?_eq_some_iff→Mn,getElem?_map→Qo,getElem?_set→rp,getElem?_set_ne→Sp,getElem?_set_self→Ip,getElem?_take→Cp,headD_nil→Qs,length→Yr,length_append→uo,length_cons→jo,length_drop→Gp,length_map→Oo,length_take→No,mapM_cons→Wr,map_cons→Vn,mem_append→Fo,mem_cons→oo,mem_filter→wq,mem_map→Yp,mem_of_getElem?→Bo,mem_range→pq,mem_singleton→Xo,range→wo,replicate→yn,set_comm→Ss,singleton_append→ir,size_toArray→yp,tail_nil→Ts,take_succ_cons→Zo
open List.cons renaming inj→Lr
open Nat renaming add_comm→Yo,add_zero→ep,beq→Wn,beq_eq→xq,eq_or_lt_of_le→Cs,le_refl→En,le_trans→Qp,lt_of_lt_of_le→Eo,lt_or_ge→vo,strongRecOn→Sr
open Option renaming bind_eq_some_iff→Ep,getD_some→cp,map_eq_some_iff→sn
open Option.some renaming injEq→An
open Prod renaming fst→br
open Prod.mk renaming injEq→Bn
set_option linter.all false
namespace Go.Tm
open Go.RowKit (Below)
section
variable {P:Program}
structure StepN (N:Nat) (G:Gh) (w:World) (m:List Ent) (G':Gh) (w':World) (m':List Ent):Prop where
 F:∀b,G.F b→G'.F b
 heap:∀b,G.F b→w'.heap[b]?=w.heap[b]?
 n:N≤G'.n
 id:∀i,i<N→(G'.V i=G.V i∧G'.B i=G.B i∧G'.S i=G.S i∧G'.N i=G.N i∧G'.C i=G.C i)∨G.V i<G'.V i
 os:w'.os=w.os
 tape:w'.tape=w.tape
 output:w'.output=w.output
 size:w.heap.size≤w'.heap.size
 keep:∀b,b<w.heap.size→¬Owned G m b→w'.heap[b]?=w.heap[b]?
 newF:∀b,b<w.heap.size→G'.F b→G.F b∨Owned G m b
 newB:∀b,b<w.heap.size→Owned G' m' b→Owned G m b
theorem Step.toN{N:Nat}{G G':Gh}{w w':World}{m m':List Ent}(h:Step G w m G' w' m') (hN:N≤G.n):StepN N G w m G' w' m':=
 ⟨h.le.F,h.le.heap,Qp hN h.le.n,fun i hi=>h.le.id i (Eo hi hN),h.os,h.tape,h.output,h.size,h.keep,h.newF,h.newB⟩
theorem StepN.toStep{G G':Gh}{w w':World}{m m':List Ent}(h:StepN G.n G w m G' w' m'):Step G w m G' w' m':=
 ⟨⟨h.F,h.heap,h.n,h.id⟩,h.os,h.tape,h.output,h.size,h.keep,h.newF,h.newB⟩
theorem StepN.refl{N:Nat}(G:Gh) (w:World) (m:List Ent) (hN:N≤G.n):StepN N G w m G w m:=(Step.refl G w m).toN hN
theorem StepN.trans{N:Nat}{G G' G'':Gh}{w w' w'':World}{m m' m'':List Ent}(h:StepN N G w m G' w' m') (k:StepN N G' w' m' G'' w'' m''):StepN N G w m G'' w'' m'' where
 F b hb:=k.F b (h.F b hb)
 heap b hb:=(k.heap b (h.F b hb)).trans (h.heap b hb)
 n:=k.n
 id i hi:=by
  have h1:=h.id i hi;have h2:=k.id i hi;rcases h1 with⟨a1,a2,a3,a4,a5⟩|h1<;>rcases h2 with⟨b1,b2,b3,b4,b5⟩|h2
  ·exact .inl ⟨b1.trans a1,b2.trans a2,b3.trans a3,b4.trans a4,b5.trans a5⟩
  ·exact .inr (by omega)
  ·exact .inr (by omega)
  ·exact .inr (by omega)
 os:=k.os.trans h.os
 tape:=k.tape.trans h.tape
 output:=k.output.trans h.output
 size:=Qp h.size k.size
 keep b hb ho:=(k.keep b (Eo hb h.size) fun h'=>ho (h.newB b hb h')).trans (h.keep b hb ho)
 newF b hb hF:=by
  rcases k.newF b (Eo hb h.size) hF with h'|h'
  ·exact h.newF b hb h'
  ·exact .inr (h.newB b hb h')
 newB b hb h':=h.newB b hb (k.newB b (Eo hb h.size) h')
def T(P:Program) (N:Nat) (c:C) (K:Exit→St→Prop) (s:St):Prop:=
 ∀code,comp P code=some c→∀(G:Gh) (w:World) (a:Act),N≤G.n→Rel G w a s→
  code.wp P (fun e a' w'=>∃s' G',K e s'∧Rel G' w' a' s'∧StepN N G w s.m G' w' s'.m) a w
variable {N:Nat}
theorem T.mono{c:C}{K K':Exit→St→Prop}{s:St}(h:T P N c K s) (hK:∀e s',K e s'→K' e s'):T P N c K' s:=
 fun code hc G w a hN hr=>Code.wp_mono (fun _ _ _ ⟨s',G',h1,h2⟩=>⟨s',G',hK _ _ h1,h2⟩) (h code hc G w a hN hr)
theorem T.ghost{c:C}{K:Exit→St→Prop}{s s':St}(hg:∀(G:Gh) (w:World) (a:Act),N≤G.n→Rel G w a s→∃G',Rel G' w a s'∧StepN N G w s.m G' w s'.m) (h:T P N c K s'):T P N c K s:=by
 intro code hc G w a hN hr;obtain⟨G',hr',hs'⟩:=hg G w a hN hr;exact Code.wp_mono (fun _ _ _ ⟨s'',G'',h1,h2,h3⟩=>⟨s'',G'',h1,h2,hs'.trans h3⟩) (h code hc G' w a hs'.n hr')
theorem comp_skip{code:Code}(h:comp P code=some .skip):code=.skip∨∃l,code=.label l:=by
 cases code with
 |region id ops draw=>
  cases draw with
  |false=>simp[comp]at h
  |true=>(simp only[comp]at h;repeat' split at h)<;>simp at h
 |seq a b=>simp only[comp]at h;split at h<;>simp at h
 |cond c a b=>simp only[comp]at h;split at h<;>simp at h
 |skip=>exact .inl rfl
 |label l=>exact .inr ⟨l,rfl⟩
 |_=>simp[comp]at h
theorem comp_ret{code:Code}(h:comp P code=some .ret):code=.ret:=by
 cases code with
 |region id ops draw=>
  cases draw with
  |false=>simp[comp]at h
  |true=>(simp only[comp]at h;repeat' split at h)<;>simp at h
 |seq a b=>simp only[comp]at h;split at h<;>simp at h
 |cond c a b=>simp only[comp]at h;split at h<;>simp at h
 |ret=>rfl
 |_=>simp[comp]at h
theorem comp_exit{code:Code}{i:Nat}(h:comp P code=some (.exit i)):code=.exit i:=by
 cases code with
 |region id ops draw=>
  cases draw with
  |false=>simp[comp]at h
  |true=>(simp only[comp]at h;repeat' split at h)<;>simp at h
 |seq a b=>simp only[comp]at h;split at h<;>simp at h
 |cond c a b=>simp only[comp]at h;split at h<;>simp at h
 |exit j=>simp[comp]at h;rw[h]
 |_=>simp[comp]at h
theorem comp_reg{code:Code}{l:List RI}(h:comp P code=some (.reg l)):∃id ops,code=.region id ops false∧compOps P ops ops.toList=some l:=by
 cases code with
 |region id ops draw=>
  cases draw with
  |true=>(simp only[comp]at h;repeat' split at h)<;>simp at h
  |false=>simp[comp]at h;exact⟨id,ops,rfl,h⟩
 |seq a b=>simp only[comp]at h;split at h<;>simp at h
 |cond c a b=>simp only[comp]at h;split at h<;>simp at h
 |_=>simp[comp]at h
theorem comp_draw{code:Code}{q:Nat}{l:List RI}(h:comp P code=some (.draw q l)):∃id ops,code=.region id ops true∧compOps P ops ops.toList=some l∧drawOk (befores ops) l q=true:=by
 cases code with
 |region id ops draw=>
  cases draw with
  |false=>simp[comp]at h
  |true=>
   simp only[comp]at h;split at h
   ·rename_i rl hrl;split at h
    ·rename_i hok;simp only[An,C.draw.injEq]at h;obtain⟨rfl,rfl⟩:=h;exact⟨id,ops,rfl,hrl,hok⟩
    ·split at h<;>simp at h
   ·cases h
 |seq a b=>simp only[comp]at h;split at h<;>simp at h
 |cond c a b=>simp only[comp]at h;split at h<;>simp at h
 |_=>simp[comp]at h
theorem comp_any{code:Code}{cuts:List Nat}{q:Nat}{bs:List (List Nat)}{l:List RI}(h:comp P code=some (.any cuts q bs l)):∃id ops,code=.region id ops true∧bs=befores ops∧compOps P ops ops.toList=some l∧tailOk (befores ops) l cuts q=true:=by
 cases code with
 |region id ops draw=>
  cases draw with
  |false=>simp[comp]at h
  |true=>
   simp only[comp]at h;split at h
   ·rename_i rl hrl;split at h
    ·simp at h
    ·split at h
     ·rename_i hok;simp only[An,C.any.injEq]at h;obtain⟨rfl,rfl,rfl,rfl⟩:=h;exact⟨id,ops,rfl,rfl,hrl,hok⟩
     ·cases h
   ·cases h
 |seq a b=>simp only[comp]at h;split at h<;>simp at h
 |cond c a b=>simp only[comp]at h;split at h<;>simp at h
 |_=>simp[comp]at h
theorem comp_seq{code:Code}{c d:C}(h:comp P code=some (.seq c d)):∃x y,code=.seq x y∧comp P x=some c∧comp P y=some d:=by
 cases code with
 |region id ops draw=>
  cases draw with
  |false=>simp[comp]at h
  |true=>(simp only[comp]at h;repeat' split at h)<;>simp at h
 |seq a b=>
  simp only[comp]at h;split at h
  ·rename_i x y h1 h2;simp at h;exact⟨a,b,rfl,by rw[h1,h.1],by rw[h2,h.2]⟩
  ·simp at h
 |cond c a b=>simp only[comp]at h;split at h<;>simp at h
 |_=>simp[comp]at h
theorem comp_cond{code:Code}{t:Operand}{c d:C}(h:comp P code=some (.cond t c d)):∃x y,code=.cond t x y∧comp P x=some c∧comp P y=some d:=by
 cases code with
 |region id ops draw=>
  cases draw with
  |false=>simp[comp]at h
  |true=>(simp only[comp]at h;repeat' split at h)<;>simp at h
 |seq a b=>simp only[comp]at h;split at h<;>simp at h
 |cond t' a b=>
  simp only[comp]at h;split at h
  ·rename_i x y h1 h2;simp at h;exact⟨a,b,by rw[h.1],by rw[h1,h.2.1],by rw[h2,h.2.2]⟩
  ·simp at h
 |_=>simp[comp]at h
theorem comp_block{code:Code}{i:Nat}{c:C}(h:comp P code=some (.block i c)):∃x,code=.block i x∧comp P x=some c:=by
 cases code with
 |region id ops draw=>
  cases draw with
  |false=>simp[comp]at h
  |true=>(simp only[comp]at h;repeat' split at h)<;>simp at h
 |seq a b=>simp only[comp]at h;split at h<;>simp at h
 |cond c a b=>simp only[comp]at h;split at h<;>simp at h
 |block j b=>simp[comp]at h;exact⟨b,by rw[h.2],h.1⟩
 |_=>simp[comp]at h
theorem comp_loop{code:Code}{c:C}(h:comp P code=some (.loop c)):∃x,code=.loop x∧comp P x=some c:=by
 cases code with
 |region id ops draw=>
  cases draw with
  |false=>simp[comp]at h
  |true=>(simp only[comp]at h;repeat' split at h)<;>simp at h
 |seq a b=>simp only[comp]at h;split at h<;>simp at h
 |cond c a b=>simp only[comp]at h;split at h<;>simp at h
 |loop b=>simp[comp]at h;exact⟨b,rfl,h⟩
 |_=>simp[comp]at h
theorem T.skip{K:Exit→St→Prop}{s:St}(h:K .normal s):T P N .skip K s:=by
 intro code hc G w a hN hr;rcases comp_skip hc with rfl|⟨l,rfl⟩
 ·exact wp_skip ⟨s,G,h,hr,StepN.refl _ _ _ hN⟩
 ·exact wp_label ⟨s,G,h,hr,StepN.refl _ _ _ hN⟩
theorem T.ret{K:Exit→St→Prop}{s:St}(h:K .ret s):T P N .ret K s:=by
 intro code hc G w a hN hr;obtain rfl:=comp_ret hc;exact wp_ret ⟨s,G,h,hr,StepN.refl _ _ _ hN⟩
theorem T.exit{id:Nat}{K:Exit→St→Prop}{s:St}(h:K (.exit id) s):T P N (.exit id) K s:=by
 intro code hc G w a hN hr;obtain rfl:=comp_exit hc;exact wp_exit ⟨s,G,h,hr,StepN.refl _ _ _ hN⟩
theorem T.reg{l:List RI}{K:Exit→St→Prop}{s:St}(h:RegT P l (K .normal) s):T P N (.reg l) K s:=by
 intro code hc G w a hN hr;obtain⟨id,ops,rfl,hc'⟩:=comp_reg hc;exact wp_region_list (regT_sound hc' h hr fun s' G' w' a' h1 h2 h3=>⟨s',G',h1,h2,h3.toN hN⟩)
theorem T.seq{c d:C}{K:Exit→St→Prop}{s:St}(h:T P N c (fun e s'=>match e with|.normal=>T P N d K s'|e=>K e s') s):T P N (.seq c d) K s:=by
 intro code hc G w a hN hr;obtain⟨x,y,rfl,h1,h2⟩:=comp_seq hc;refine wp_seq (Code.wp_mono ?_ (h x h1 G w a hN hr));rintro e a' w' ⟨s',G',hK,hr',hs'⟩
 cases e with
 |normal=>exact Code.wp_mono (fun _ _ _ ⟨s'',G'',k1,k2,k3⟩=>⟨s'',G'',k1,k2,hs'.trans k3⟩) (hK y h2 G' w' a' hs'.n hr')
 |_=>exact⟨s',G',hK,hr',hs'⟩
theorem T.cond{c:Operand}{x y:C}{t:Bool}{K:Exit→St→Prop}{s:St}(ht:s.ev c=.v (.bool t)) (h1:t=true→T P N x K s) (h2:t=false→T P N y K s):T P N (.cond c x y) K s:=by
 intro code hc G w a hN hr;obtain⟨x',y',rfl,e1,e2⟩:=comp_cond hc;have hv:=hr.ev c;rw[ht]at hv;simp only[VRel]at hv;exact wp_cond_split hv (fun e=>h1 e x' e1 G w a hN hr) (fun e=>h2 e y' e2 G w a hN hr)
theorem T.block{id:Nat}{x:C}{K:Exit→St→Prop}{s:St}(h:T P N x (fun e s'=>match e with|.exit id'=>if id'=id then K .normal s' else K (.exit id') s'|e=>K e s') s):T P N (.block id x) K s:=by
 intro code hc G w a hN hr;obtain⟨b,rfl,hx⟩:=comp_block hc;refine wp_block (Code.wp_mono ?_ (h b hx G w a hN hr));rintro e a' w' ⟨s',G',hK,hr',hs'⟩
 cases e with
 |exit j=>
  simp only[Exit.inBlock];simp only at hK;split
  ·rename_i hj;rw[if_pos hj]at hK;exact⟨s',G',hK,hr',hs'⟩
  ·rename_i hj;rw[if_neg hj]at hK;exact⟨s',G',hK,hr',hs'⟩
 |_=>exact⟨s',G',hK,hr',hs'⟩
theorem wp_loop_ghost{c:Code}{Q:Exit→Act→World→Prop}{X:Type}(J:X→Act→World→Prop) (μ:X→Nat)
 (round:∀x a w,J x a w→c.wp P (Exit.then (fun a' w'=>∃y,J y a' w'∧μ y<μ x) Q) a w):∀(x:X) (a:Act) (w:World),J x a w→(Code.loop c).wp P Q a w:=by
 intro x₀ a₀ w₀ h₀ b k cs;have key:∀n (x:X) a w,μ x=n→J x a w→
  ∃e a' w',Q e a' w'∧Arrives P (lone (b.at a (.code c::.inLoop c::k)) cs w) b k cs e a' w':=by
  intro n
  induction n using Sr with
  |_ n ih=>
   intro x a w hn hI;obtain⟨e,a₁,w₁,hq,harr⟩:=round x a w hI b (.inLoop c::k) cs
   cases e with
   |normal=>
    obtain⟨y,hI₁,hlt⟩:=hq;obtain⟨e₂,a₂,w₂,hq₂,harr₂⟩:=ih (μ y) (hn▸hlt) y a₁ w₁ rfl hI₁;exact⟨e₂,a₂,w₂,hq₂,.of_steps (Steps.trans harr (.one step_inLoop)) harr₂⟩
   |exit id=>exact⟨_,a₁,w₁,hq,.pass (x:=.inLoop c) rfl (fun _ _=>.inl (by simp)) harr⟩
   |goto l=>exact⟨_,a₁,w₁,hq,.pass (x:=.inLoop c) rfl (fun _ _=>.inl (by simp)) harr⟩
   |ret=>exact⟨_,a₁,w₁,hq,.pass (x:=.inLoop c) rfl (fun _ _=>.inl (by simp)) harr⟩
   |panic ch=>exact⟨_,a₁,w₁,hq,.pass (x:=.inLoop c) rfl (fun _ _=>.inl (by simp)) harr⟩
   |outgrown=>exact⟨_,a₁,w₁,hq,.pass (x:=.inLoop c) rfl (fun _ _=>.inl (by simp)) harr⟩
 obtain⟨e,a',w',hq,harr⟩:=key _ x₀ a₀ w₀ rfl h₀;exact⟨e,a',w',hq,.of_steps (.one step_loop) harr⟩
theorem T.loopI{x:C}{K:Exit→St→Prop}{s:St}{X:Type}(J:X→St→Prop) (μ:X→Nat) (x₀:X) (h0:J x₀ s)
 (round:∀y s,J y s→T P N x (fun e s'=>match e with|.normal=>∃z,J z s'∧μ z<μ y|e=>K e s') s):T P N (.loop x) K s:=by
 intro code hc G w a hN hr;obtain⟨b,rfl,hx⟩:=comp_loop hc;refine wp_loop_ghost (J:=fun(y:X) a' w'=>∃s' G',J y s'∧Rel G' w' a' s'∧StepN N G w s.m G' w' s'.m) μ ?_ x₀ a w ⟨s,G,h0,hr,StepN.refl _ _ _ hN⟩;rintro y a1 w1 ⟨s1,G1,hI,hr1,hs1⟩;refine Code.wp_mono ?_ (round y s1 hI b hx G1 w1 a1 hs1.n hr1);rintro e a' w' ⟨s',G',hK,hr',hs'⟩
 cases e with
 |normal=>obtain⟨z,h1,h2⟩:=hK;exact⟨z,⟨s',G',h1,hr',hs1.trans hs'⟩,h2⟩
 |_=>exact⟨s',G',hK,hr',hs1.trans hs'⟩
def resD(s:St):RV→Option D
 |.tmp t=>some (s.t.getD t .dead)
 |.cell A n a=>
  match evalI s (.load A n (.tmp a))with
  |some (d,_)=>some d
  |none=>none
def ressD(s:St):List RV→Option (List D)
 |[]=>some []
 |r::l=>
  match resD s r,ressD s l with
  |some d,some ds=>some (d::ds)
  |_,_=>none
def tupD:List D→D
 |[d]=>d
 |l=>.tup l
def resSem(tmps:Array Value):ResultVar→Sem Value
 |.tmp t=>pure (tmps.getD t undef)
 |.cell a t=>do loadVar t (←asAddr (tmps.getD a undef))
theorem results_eq(fn:Func) (tmps:Array Value):results fn tmps=(do let vs←fn.results.mapM (resSem tmps);pure (if h:vs.size=1 then vs[0]else .tuple vs)):=by
 unfold results;rfl
theorem run_ress:∀{l:List ResultVar}{rl:List RV}{s:St}{G:Gh}{w:World}{a:Act}{ds:List D},compRVs P l=some rl→Rel G w a s→ressD s rl=some ds→
 ∃us:List Value,(l.mapM (resSem a.tmps)).run P w=.ok us w∧VsRel G w ds us
 |[],rl,s,G,w,a,ds,hc,hr,hd=>by
  simp only[compRVs]at hc;injection hc with hc;subst hc;simp only[ressD]at hd;injection hd with hd;subst hd;exact⟨[],by simp,by simp[VsRel]⟩
 |r::l,rl,s,G,w,a,ds,hc,hr,hd=>by
  simp only[compRVs]at hc;split at hc
  ·rename_i x y h1 h2;injection hc with hc;subst hc;simp only[ressD]at hd;split at hd
   ·rename_i d ds' h3 h4;injection hd with hd;subst hd;obtain⟨us,hrun,hv⟩:=run_ress h2 hr h4
    cases r with
    |tmp t=>
     simp only[compRV]at h1;injection h1 with h1;subst h1;simp only[resD]at h3;injection h3 with h3;subst h3;have hx:=hr.ev (.tmp t);simp only[St.ev,Act.eval]at hx;refine⟨a.tmps.getD t undef::us,?_,by simp only[VsRel];exact⟨_,_,rfl,hx,hv⟩⟩;simp only[Wr,resSem,Sem.run_bind,Sem.run_pure,Result.andThen_ok,hrun]
    |cell p t=>
     simp only[compRV,sn]at h1;obtain⟨q,hq,rfl⟩:=h1;simp only[resD]at h3;split at h3
     ·rename_i e m0 he;injection h3 with h3;subst h3;obtain⟨ad,u,hp,hrl,hvd,-⟩:=load_run (P:=P) hr hq he;simp only[Act.eval]at hp;refine⟨u::us,?_,by simp only[VsRel];exact⟨_,_,rfl,hvd,hv⟩⟩;simp only[Wr,resSem,hp,asAddr,Sem.run_bind,Sem.run_pure,Result.andThen_ok,hrl,hrun]
     ·cases h3
   ·cases hd
  ·cases hc
def EndT(rs:List RV) (R:D→List Ent→Prop):Exit→St→Prop
 |.normal,s=>∃ds,ressD s rs=some ds∧R (tupD ds) s.m
 |.ret,s=>∃ds,ressD s rs=some ds∧R (tupD ds) s.m
 |_,_=>False
theorem tup_rel{G:Gh}{w:World}{ds:List D}{us:List Value}(h:VsRel G w ds us):VRel G w (tupD ds) (if h:us.toArray.size=1 then us.toArray[0]else .tuple us.toArray):=by
 match ds,h with
 |[],h=>
  simp only[VsRel]at h;subst h;simp only[yp,List.length_nil,tupD];rw[dif_neg (by decide)];simp only[VRel,VsRel];exact⟨[],rfl,rfl⟩
 |[d],h=>
  simp only[VsRel]at h;obtain⟨u,r,rfl,hv,rfl⟩:=h;simpa [tupD] using hv
 |d::e::l,h=>
  have hl:=h.length;rw[dif_neg (by simp at hl⊢;omega)];simp only[tupD,VRel];exact⟨us,rfl,h⟩
theorem run_results{fn:Func}{F:Fun}{s:St}{G:Gh}{w:World}{a:Act}{ds:List D}(hc:compRVs P fn.results.toList=some F.results) (hr:Rel G w a s) (hd:ressD s F.results=some ds) :
 ∃v,(results fn a.tmps).run P w=.ok v w∧VRel G w (tupD ds) v:=by
 obtain⟨us,hrun,hv⟩:=run_ress hc hr hd;refine⟨_,?_,tup_rel hv⟩;rw[results_eq,Array.mapM_eq_mapM_toList];simp only[Sem.run_bind,Sem.run_map,hrun,Result.andThen_ok,Sem.run_pure]
theorem vs_dead(G:Gh) (w:World):∀n,VsRel G w (yn n .dead) (yn n undef)
 |0=>by simp[VsRel]
 |n+1=>by simp only[List.replicate_succ,VsRel];exact⟨_,_,rfl,by simp[VRel],vs_dead G w n⟩
theorem callT_of{f:FuncId}{F:Fun}{ds:List D}{m:List Ent}{R:D→List Ent→Prop}(hF:compF P f=some F) (hname:((P.funcs[f]?).map fun fn=>fn.name == "runtime.NumGoroutine")=some false)
 (h:T P m.length F.code (EndT F.results R) ⟨ds++yn (F.ntmps-ds.length) .dead,m⟩):CallT P f ds m R:=by
 unfold compF at hF;split at hF
 ·rename_i fn hfn;split at hF
  ·rename_i b r hb hres;simp only[sn]at hF;obtain⟨c,hc,rfl⟩:=hF;refine⟨⟨fn,hfn,by simpa [hfn] using hname,by rw[hb];rfl⟩,fun G w vs hv hi=>?_⟩;refine calls_of_wp hfn hb ?_;have hlen:=hv.length;have hr:Rel G w { tmps:=vs.toArray++dq (fn.ntmps-vs.toArray.size) undef,defers:=[] } ⟨ds++yn (fn.ntmps-ds.length) .dead,m⟩:=by
    refine⟨?_,hi,rfl⟩;simp only[Array.toList_append,Array.toList_replicate,yp,hlen];exact hv.append (vs_dead _ _ _)
   refine Code.wp_mono ?_ (h b hc G w _ (by rw[hi.n];exact En _) hr);rintro e a' w' ⟨s',G',hK,hr',hs0⟩;have hs':Step G w m G' w' s'.m:=by rw[←hi.n]at hs0;exact hs0.toStep
   have fin:(∃ds,ressD s' r=some ds∧R (tupD ds) s'.m)→a'.defers=[]∧∃v,(results fn a'.tmps).run P w'=.ok v w'∧∃v_1 d m' G',Ending.returned v=.returned v_1∧R d m'∧VRel G' w' d v_1∧Inv G' w' m'∧Step G w m G' w' m':=by
    rintro⟨es,hes,hR⟩;obtain⟨v,hrun,hv'⟩:=run_results (F:=⟨fn.ntmps,r,c⟩) hres hr' hes;exact⟨hr'.defers,v,hrun,v,_,_,G',rfl,hR,hv',hr'.inv,hs'⟩
   cases e with
   |normal=>exact fin hK
   |ret=>exact fin hK
   |_=>exact hK.elim
  ·cases hF
 ·cases hF
end
end Go.Tm
namespace Go.Tm
open Go.RowKit (Below)
structure SubF (G:Gh) (w:World) (G':Gh) (w':World):Prop where
 F:∀b,G.F b→G'.F b
 heap:∀b,G.F b→w'.heap[b]?=w.heap[b]?
mutual
theorem VRel.free{G G':Gh}{w w':World}(hle:SubF G w G' w'):∀{d:D}{u:Value},idfree d=true→VRel G w d u→VRel G' w' d u
 |.v x,u,_,h=>by simpa [VRel] using h
 |.agg l,u,hf,h=>by
  simp only[VRel,idfree]at h hf⊢;obtain⟨cs,rfl,h,h1⟩:=h;exact⟨cs,rfl,VsRel.free hle hf h,h1⟩
 |.tup l,u,hf,h=>by
  simp only[VRel,idfree]at h hf⊢;obtain⟨cs,rfl,h⟩:=h;exact⟨cs,rfl,VsRel.free hle hf h⟩
 |.sl S l,u,hf,h=>by
  simp only[VRel,idfree]at h hf⊢;obtain⟨a,n,cap,rfl,hn,hc,h⟩:=h;refine⟨a,n,cap,rfl,hn,hc,?_⟩;rcases h with h|⟨b,off,rfl,hF,hr⟩
  ·exact .inl h
  ·exact .inr ⟨b,off,rfl,hle.F b hF,RowAt.free hle (hle.heap b hF) hf hr⟩
 |.pt d,u,hf,h=>by
  simp only[VRel,idfree]at h hf⊢;obtain⟨b,off,x,rfl,hF,hd,hh⟩:=h;exact⟨b,off,x,rfl,hle.F b hF,VRel.free hle hf hd,hh.mono (hle.heap b hF)⟩
 |.fn f first caps,u,hf,h=>by
  simp only[VRel,idfree,xn]at h hf⊢;obtain⟨fs,cs,rfl,h1,h2⟩:=h;exact⟨fs,cs,rfl,VsRel.free hle hf.1 h1,VsRel.free hle hf.2 h2⟩
 |.ifc t d,u,hf,h=>by
  simp only[VRel,idfree]at h hf⊢;obtain⟨x,rfl,h⟩:=h;exact⟨x,rfl,VRel.free hle hf h⟩
 |.dead,u,_,h=>by simp[VRel]
 |.ref ..,_,hf,_=>by simp[idfree]at hf
 |.own ..,_,hf,_=>by simp[idfree]at hf
 |.view ..,_,hf,_=>by simp[idfree]at hf
 |.mp _,_,hf,_=>by simp[idfree]at hf
theorem VsRel.free{G G':Gh}{w w':World}(hle:SubF G w G' w'):∀{l:List D}{us:List Value},idfrees l=true→VsRel G w l us→VsRel G' w' l us
 |[],us,_,h=>by simpa [VsRel] using h
 |d::l,us,hf,h=>by
  simp only[VsRel,idfrees,xn]at h hf⊢;obtain⟨u,r,rfl,h1,h2⟩:=h;exact⟨u,r,rfl,VRel.free hle hf.1 h1,VsRel.free hle hf.2 h2⟩
theorem RowAt.free{G G':Gh}{w w':World}(hle:SubF G w G' w') {b S:Nat}(hb:w'.heap[b]?=w.heap[b]?) :
 ∀{l:List D} {off:Nat},idfrees l=true→RowAt G w b S l off→RowAt G' w' b S l off
 |[],off,_,h=>by simp[RowAt]
 |d::l,off,hf,h=>by
  simp only[RowAt,idfrees,xn]at h hf⊢;obtain⟨⟨u,h1,h2,h3⟩,h4⟩:=h;exact⟨⟨u,VRel.free hle hf.1 h1,h2,h3.mono hb⟩,RowAt.free hle hb hf.2 h4⟩
end
def froz:Nat→List Ent→D→D
 |0,_,_=>.dead
 |k+1,m,d=>
  match d with
  |.agg l=>.agg (l.map (froz k m))
  |.tup l=>.tup (l.map (froz k m))
  |.sl S l=>if idfrees l then d else .sl S (l.map (froz k m))
  |.pt d=>.pt (froz k m d)
  |.own id ver=>
   match m[id]? with
   |some (.live S ver' l)=>if ver'=ver then .sl S (if idfrees l then l else l.map (froz k m))else .dead
   |_=>.dead
  |.view id ver lo n=>
   match m[id]? with
   |some (.live S ver' l)=>if ver'=ver∧lo+n≤l.length then .sl S (((if idfrees l then l else l.map (froz k m)).drop lo).take n)else .dead
   |_=>.dead
  |.ref id ver x s=>
   match m[id]? with
   |some (.live _ ver' l)=>if ver'=ver∧s=0 then(match l[x]? with|some e=>.pt (froz k m e)|none=>.dead)else .dead
   |_=>.dead
  |.fn f a b=>.fn f (a.map (froz k m)) (b.map (froz k m))
  |.v x=>.v x
  |_=>.dead
theorem idfrees_map{f:D→D}(h:∀d,idfree (f d)=true):∀l:List D,idfrees (l.map f)=true
 |[]=>rfl
 |d::l=>by simp[idfrees,h d,idfrees_map h l]
theorem idfrees_iff:∀{l:List D},idfrees l=true↔∀d∈l,idfree d=true
 |[]=>by simp[idfrees]
 |d::l=>by simp[idfrees,idfrees_iff (l:=l)]
theorem froz_free:∀(k:Nat) (m:List Ent) (d:D),idfree (froz k m d)=true
 |0,m,d=>rfl
 |k+1,m,d=>by
  have ih:=idfrees_map (froz_free k m)
  cases d with
  |agg l=>simpa [froz,idfree] using ih l
  |tup l=>simpa [froz,idfree] using ih l
  |sl S l=>
   simp only[froz];split
   ·rename_i h;simpa [idfree] using h
   ·simpa [idfree] using ih l
  |pt d=>simpa [froz,idfree] using froz_free k m d
  |own id ver=>
   simp only[froz];split
   ·split
    ·simp only[idfree];split
     ·rename_i h;exact h
     ·exact ih _
    ·rfl
   ·rfl
  |view id ver lo n=>
   simp only[froz];split
   ·split
    ·simp only[idfree];rename_i l _ _;have:idfrees (if idfrees l=true then l else l.map (froz k m))=true:=by
      split
      ·rename_i h;exact h
      ·exact ih _
     rw[idfrees_iff]at this⊢;exact fun d hd=>this d (List.mem_of_mem_drop (List.mem_of_mem_take hd))
    ·rfl
   ·rfl
  |ref id ver x s=>
   simp only[froz];split
   ·split
    ·split
     ·simpa [idfree] using froz_free k m _
     ·rfl
    ·rfl
   ·rfl
  |fn f a b=>simp[froz,idfree,ih a,ih b]
  |_=>rfl
def Gh.froz(G:Gh) (m:List Ent):Gh:={ G with F:=fun b=>G.F b∨Owned G m b }
theorem frozen_mono{G:Gh}{w:World}{m:List Ent}:SubF G w (G.froz m) w:=⟨fun _ h=>.inl h,fun _ _=>rfl⟩
theorem vs_map_rel{G:Gh}{w:World}{G':Gh}{f:D→D}(h:∀d u,VRel G w d u→VRel G' w (f d) u):∀{l:List D}{us:List Value},VsRel G w l us→VsRel G' w (l.map f) us
 |[],us,hv=>by simpa [VsRel] using hv
 |d::l,us,hv=>by
  simp only[VsRel,Vn]at hv⊢;obtain⟨u,r,rfl,h1,h2⟩:=hv;exact⟨u,r,rfl,h d u h1,vs_map_rel h h2⟩
theorem row_map_rel{G:Gh}{w:World}{G':Gh}{f:D→D}(h:∀d u,VRel G w d u→VRel G' w (f d) u) {b S:Nat}:∀{l:List D}{off:Nat},RowAt G w b S l off→RowAt G' w b S (l.map f) off
 |[],off,hv=>by simp[RowAt]
 |d::l,off,hv=>by
  simp only[RowAt,Vn]at hv⊢;obtain⟨⟨u,h1,h2,h3⟩,h4⟩:=hv;exact⟨⟨u,h d u h1,h2,h3⟩,row_map_rel h h4⟩
theorem froz_rel{G:Gh}{w:World}{m:List Ent}(hi:Inv G w m):∀(k:Nat) (d:D) (u:Value),VRel G w d u→VRel (G.froz m) w (froz k m d) u
 |0,d,u,_=>by simp[froz,VRel]
 |k+1,d,u,hv=>by
  have ih:=froz_rel hi k
  cases d with
  |v x=>simpa [froz,VRel] using hv
  |agg l=>
   simp only[froz,VRel]at hv⊢;obtain⟨cs,rfl,h1,h2⟩:=hv;exact⟨cs,rfl,vs_map_rel ih h1,h2⟩
  |tup l=>
   simp only[froz,VRel]at hv⊢;obtain⟨cs,rfl,h1⟩:=hv;exact⟨cs,rfl,vs_map_rel ih h1⟩
  |sl S l=>
   simp only[froz];split
   ·rename_i hf;exact hv.free frozen_mono (by simpa [idfree] using hf)
   ·simp only[VRel]at hv⊢;obtain⟨a,n,cap,rfl,hn,hc,h⟩:=hv;refine⟨a,n,cap,rfl,by simpa using hn,hc,?_⟩;rcases h with h|⟨b,off,rfl,hF,hr⟩
    ·exact .inl (by simp[h])
    ·exact .inr ⟨b,off,rfl,.inl hF,row_map_rel ih hr⟩
  |pt d=>
   simp only[froz,VRel]at hv⊢;obtain⟨b,off,x,rfl,hF,hd,hh⟩:=hv;exact⟨b,off,x,rfl,.inl hF,ih d x hd,hh⟩
  |own id ver=>
   simp only[froz];split
   ·rename_i S ver' l hm;split
    ·rename_i hvr;subst hvr;simp only[VRel]at hv⊢;obtain⟨p,n,c,rfl,hid,hver,hx⟩:=hv;obtain⟨a1,a2,a3,a4,a5⟩:=hi.ent _ _ hm;obtain⟨rfl,rfl,rfl⟩:=hx a1;have hlen:(if idfrees l=true then l else l.map (froz k m)).length=l.length:=by split<;>simp
     refine⟨_,_,_,rfl,by rw[hlen];exact a3,by rw[a3];exact a4,?_⟩
     ·rcases a5 with a5|⟨b',cs,T,hb',hF,hblk,hsz,hrow⟩
      ·have h00:=congrArg br a5.2;dsimp only at h00;refine .inl (Jn ?_);rw[hlen];omega
      ·refine .inr ⟨b',(G.C id).2,by rw[hb'];rfl,.inr ⟨id,_,hm,rfl,hb'⟩,?_⟩;split
       ·rename_i hf;exact hrow.free frozen_mono rfl hf
       ·exact row_map_rel ih hrow
    ·simp[VRel]
   ·simp[VRel]
  |view id ver lo n=>
   simp only[froz];split
   ·rename_i S ver' l hm;split
    ·rename_i hvr;obtain⟨rfl,hle⟩:=hvr;simp only[VRel]at hv⊢;obtain⟨p,c,rfl,hnc,hid,hver,hx⟩:=hv;obtain⟨a1,a2,a3,a4,a5⟩:=hi.ent _ _ hm;have hlen:(if idfrees l=true then l else l.map (froz k m)).length=l.length:=by split<;>simp
     have hlen2:(((if idfrees l=true then l else l.map (froz k m)).drop lo).take n).length=n:=by
      rw[No,Gp,hlen];omega
     refine⟨p,n,c,rfl,hlen2.symm,hnc,?_⟩
     ·rcases hx a1 with rfl|⟨b,hb,rfl⟩
      ·exact .inl (by simp)
      ·rcases a5 with a5|⟨b',cs,T,hb',hF,hblk,hsz,hrow⟩
       ·rw[a5.1]at hb;cases hb
       ·rw[hb]at hb';injection hb' with hb';subst hb';refine .inr ⟨b,lo*S+(G.C id).2,by rw[a2],.inr ⟨id,_,hm,rfl,hb⟩,?_⟩;have:RowAt (G.froz m) w b S (if idfrees l=true then l else l.map (froz k m)) (G.C id).2:=by
         split
         ·rename_i hf;exact hrow.free frozen_mono rfl hf
         ·exact row_map_rel ih hrow
        have:=rowAt_take (rowAt_drop this lo) n;rwa [Yo]at this
    ·simp[VRel]
   ·simp[VRel]
  |ref id ver x s=>
   simp only[froz];split
   ·rename_i S ver' l hm;split
    ·rename_i hvr;obtain⟨rfl,rfl⟩:=hvr;split
     ·rename_i e he;simp only[VRel]at hv⊢;obtain⟨p,rfl,hid,hver,hx⟩:=hv;obtain⟨a1,a2,a3,a4,a5⟩:=hi.ent _ _ hm;obtain⟨b,hb,rfl⟩:=hx a1;rcases a5 with a5|⟨b',cs,T,hb',hF,hblk,hsz,hrow⟩
      ·rw[a5.1]at hb;cases hb
      ·rw[hb]at hb';injection hb' with hb';subst hb';obtain⟨u',g1,g2,g3⟩:=rowAt_iff.1 hrow x e he;refine⟨b,_,u',rfl,.inr ⟨id,_,hm,rfl,hb⟩,ih e u' g1,?_⟩;rw[a2,ep,Yo];exact g3
     ·simp[VRel]
    ·simp[VRel]
   ·simp[VRel]
  |fn f a b=>
   simp only[froz,VRel]at hv⊢;obtain⟨fs,cs,rfl,h1,h2⟩:=hv;exact⟨fs,cs,rfl,vs_map_rel ih h1,vs_map_rel ih h2⟩
  |_=>simp[froz,VRel]
def Gh.bare(F:Nat→Prop):Gh:=⟨F,0,fun _=>none,fun _=>0,fun _=>0,fun _=>0,fun _=>(0,0)⟩
theorem gtab_free{g:Nat}{d:D}(h:gtab g=some d):idfree d=true:=by
 unfold gtab at h;split at h
 ·injection h with h;subst h;rfl
 ·cases h
theorem GOK.bare{G G':Gh}{w:World}(h:GOK G w) (hF:∀b,G.F b→G'.F b):GOK G' w:=fun g d hd=>
 VRel.free (G:=G) (G':=G') ⟨hF,fun _ _=>rfl⟩ (d:=.pt d) (by simpa [idfree] using gtab_free hd) (h g d hd)
theorem inv_bare{F:Nat→Prop}{w:World}(h:∀b,F b→b<w.heap.size) (hg:GOK (Gh.bare F) w):Inv (Gh.bare F) w []:=
 ⟨rfl,h,fun i e he=>by simp at he,fun i j e e' he=>by simp at he,hg⟩
theorem owned_nil{G:Gh}{b:Nat}:¬Owned G [] b:=fun⟨i,e,he,_⟩=>by simp at he
theorem back_good{G G':Gh}{F:Nat→Prop}{w w':World}{m m':List Ent}(hi:Inv G w m) (hs:Step (Gh.bare F) w [] G' w' m') (hi':Inv G' w' m') (hF:∀b,G.F b→F b) :
 (∀b,b<w.heap.size→w'.heap[b]?=w.heap[b]?)∧
 (Inv G w' m∧Step G w m G w' m)∧
 ((∀b,F b→G.F b)→Inv { G with F:=fun b=>G'.F b∨Owned G' m' b } w' m∧Step G w m { G with F:=fun b=>G'.F b∨Owned G' m' b } w' m):=by
 have hkeep:∀b,b<w.heap.size→w'.heap[b]?=w.heap[b]?:=fun b hb=>hs.keep b hb owned_nil;have hold:∀i x,m[i]?=some x→x.isLive=true→∀k,G.B i=some k→k<w.heap.size:=fun i x hx hl k hk=>((hi.ent i x hx).lt hl hk).1;refine⟨hkeep,?_,fun hF'=>?_⟩
 ·have hle:Le G w G w':=⟨fun _ h=>h,fun b hb=>hkeep b (hi.F b hb),En _,fun _ _=>.inl ⟨rfl,rfl,rfl,rfl,rfl⟩⟩;refine⟨⟨hi.n,fun b hb=>Eo (hi.F b hb) hs.size,fun i e he=>?_,hi.apart,hi.gl.mono hle⟩,⟨hle,hs.os,hs.tape,hs.output,hs.size,fun b hb _=>hkeep b hb,fun _ _ h=>.inl h,fun _ _ h=>h⟩⟩;by_cases hl:e.isLive=true
  ·exact(hi.ent i e he).mono hle ⟨rfl,rfl,rfl,rfl,rfl⟩ (fun b hb=>hkeep b (hold i e he hl b hb)) (fun _ _ _ h=>h)
  ·cases e with
   |gone=>trivial
   |_=>simp[Ent.isLive]at hl
 ·have hle:Le G w { G with F:=fun b=>G'.F b∨Owned G' m' b } w':=⟨fun b h=>.inl (hs.le.F b (hF b h)),fun b hb=>hkeep b (hi.F b hb),En _,fun _ _=>.inl ⟨rfl,rfl,rfl,rfl,rfl⟩⟩;have hold':∀b,b<w.heap.size→(G'.F b∨Owned G' m' b)→G.F b:=by
   intro b hb h;rcases h with h|h
   ·rcases hs.newF b hb h with h|h
    ·exact hF' b h
    ·exact(owned_nil h).elim
   ·exact(owned_nil (hs.newB b hb h)).elim
  refine⟨⟨hi.n,?_,fun i e he=>?_,hi.apart,hi.gl.mono hle⟩,⟨hle,hs.os,hs.tape,hs.output,hs.size,fun b hb _=>hkeep b hb,fun b hb h=>.inl (hold' b hb h),fun _ _ h=>h⟩⟩
  ·rintro b (h|h)
   ·exact hi'.F b h
   ·exact(Owned.lt hi' h).1
  ·by_cases hl:e.isLive=true
   ·exact(hi.ent i e he).mono hle ⟨rfl,rfl,rfl,rfl,rfl⟩ (fun b hb=>hkeep b (hold i e he hl b hb)) (fun b hb _ h=>hold' b (hold i e he hl b hb) h)
   ·cases e with
    |gone=>trivial
    |_=>simp[Ent.isLive]at hl
theorem callP_of{P:Program}{f:FuncId}{ds:List D}{R:D→Prop}(k:Nat) (hf:idfrees ds=true) (h:CallT P f ds [] fun d m'=>R (froz k m' d)) (m:List Ent) :
 CallT P f ds m fun d m'=>(R d∧idfree d=true)∧m'=m:=by
 refine⟨h.1,fun G w vs hv hi=>?_⟩;have h0:=h.2 (Gh.bare G.F) w vs (VsRel.free (G:=G) (G':=Gh.bare G.F) ⟨fun _ h=>h,fun _ _=>rfl⟩ hf hv) (inv_bare hi.F (hi.gl.bare fun _ h=>h));refine h0.mono ?_;rintro e w' ⟨v,d,m',G',rfl,hR,hvd,hi',hs⟩;obtain⟨-,-,h3⟩:=back_good hi hs hi' (fun _ h=>h);obtain⟨g1,g2⟩:=h3 fun _ h=>h;refine⟨v,froz k m' d,m,_,rfl,⟨⟨hR,froz_free _ _ _⟩,rfl⟩,?_,g1,g2⟩;exact VRel.free (G:=G'.froz m') (G':={ G with F:=fun b=>G'.F b∨Owned G' m' b }) ⟨fun _ h=>h,fun _ _=>rfl⟩ (froz_free _ _ _) (froz_rel hi' k d v hvd)
mutual
def flat:D→Bool
 |.v _=>true
 |.agg l=>flats l
 |.tup l=>flats l
 |.dead=>true
 |_=>false
def flats:List D→Bool
 |[]=>true
 |d::l=>flat d&&flats l
end
mutual
theorem VRel.flat{G G':Gh}{w w':World}:∀{d:D}{u:Value},flat d=true→VRel G w d u→VRel G' w' d u
 |.v x,u,_,h=>by simpa [VRel] using h
 |.agg l,u,hf,h=>by
  simp only[VRel,Tm.flat]at h hf⊢;obtain⟨cs,rfl,h,h1⟩:=h;exact⟨cs,rfl,VsRel.flat hf h,h1⟩
 |.tup l,u,hf,h=>by
  simp only[VRel,Tm.flat]at h hf⊢;obtain⟨cs,rfl,h⟩:=h;exact⟨cs,rfl,VsRel.flat hf h⟩
 |.dead,u,_,h=>by simp[VRel]
 |.sl ..,_,hf,_=>by simp[Tm.flat]at hf
 |.pt ..,_,hf,_=>by simp[Tm.flat]at hf
 |.fn ..,_,hf,_=>by simp[Tm.flat]at hf
 |.ref ..,_,hf,_=>by simp[Tm.flat]at hf
 |.own ..,_,hf,_=>by simp[Tm.flat]at hf
 |.view ..,_,hf,_=>by simp[Tm.flat]at hf
 |.mp _,_,hf,_=>by simp[Tm.flat]at hf
 |.ifc ..,_,hf,_=>by simp[Tm.flat]at hf
theorem VsRel.flat{G G':Gh}{w w':World}:∀{l:List D}{us:List Value},flats l=true→VsRel G w l us→VsRel G' w' l us
 |[],us,_,h=>by simpa [VsRel] using h
 |d::l,us,hf,h=>by
  simp only[VsRel,flats,xn]at h hf⊢;obtain⟨u,r,rfl,h1,h2⟩:=h;exact⟨u,r,rfl,VRel.flat hf.1 h1,VsRel.flat hf.2 h2⟩
end
theorem callB_of{P:Program}{f:FuncId}{ds:List D}{R:D→Prop}{m:List Ent}(k:Nat) (h:CallT P f (ds.map (froz k m)) [] fun d m'=>R d∧flat d=true) :
 CallT P f ds m fun d m'=>R d∧m'=m:=by
 refine⟨h.1,fun G w vs hv hi=>?_⟩;have hv':VsRel (Gh.bare fun b=>G.F b∨Owned G m b) w (ds.map (froz k m)) vs:=
  VsRel.free (G:=G.froz m) (G':=Gh.bare fun b=>G.F b∨Owned G m b) ⟨fun _ h=>h,fun _ _=>rfl⟩ (idfrees_map (froz_free k m) _) (vs_map_rel (froz_rel hi k) hv)
 have h0:=h.2 _ w vs hv' (inv_bare (fun b hb=>by
  rcases hb with hb|hb
  ·exact hi.F b hb
  ·exact(Owned.lt hi hb).1) (hi.gl.bare fun _ h=>.inl h))
 refine h0.mono ?_;rintro e w' ⟨v,d,m',G',rfl,⟨hR,hfl⟩,hvd,hi',hs⟩;obtain⟨-,h2,-⟩:=back_good hi hs hi' (fun _ h=>.inl h);exact⟨v,d,m,G,rfl,⟨hR,rfl⟩,hvd.flat hfl,h2.1,h2.2⟩
theorem RowAt.flat{G G':Gh}{w:World}{b S:Nat}:∀{l:List D}{off:Nat},flats l=true→RowAt G w b S l off→RowAt G' w b S l off
 |[],off,_,h=>by simp[RowAt]
 |d::l,off,hf,h=>by
  simp only[RowAt,flats,xn]at h hf⊢;obtain⟨⟨u,h1,h2,h3⟩,h4⟩:=h;exact⟨⟨u,h1.flat hf.1,h2,h3⟩,RowAt.flat hf.2 h4⟩
theorem callN_of{P:Program}{f:FuncId}{ds:List D}{R:Nat→List D→Prop}{m:List Ent}(k:Nat) (h:CallT P f (ds.map (froz k m)) [] fun d m'=>∃id ver S l,d=.own id ver∧m'[id]?=some (.live S ver l)∧flats l=true∧R S l) :
 CallT P f ds m fun d m'=>(∃S l,d=.sl S l∧R S l)∧m'=m:=by
 refine⟨h.1,fun G w vs hv hi=>?_⟩;have hv':VsRel (Gh.bare fun b=>G.F b∨Owned G m b) w (ds.map (froz k m)) vs:=
  VsRel.free (G:=G.froz m) (G':=Gh.bare fun b=>G.F b∨Owned G m b) ⟨fun _ h=>h,fun _ _=>rfl⟩ (idfrees_map (froz_free k m) _) (vs_map_rel (froz_rel hi k) hv)
 have h0:=h.2 _ w vs hv' (inv_bare (fun b hb=>by
  rcases hb with hb|hb
  ·exact hi.F b hb
  ·exact(Owned.lt hi hb).1) (hi.gl.bare fun _ h=>.inl h))
 refine h0.mono ?_;rintro e w' ⟨v,d,m',G',rfl,⟨id,ver,S,l,rfl,hm',hfl,hR⟩,hvd,hi',hs⟩;obtain⟨-,⟨g1,g2⟩,-⟩:=back_good hi hs hi' (fun _ h=>.inl h);have hold:∀i x,m[i]?=some x→x.isLive=true→∀k,G.B i=some k→k<w.heap.size:=fun i x hx hl k hk=>((hi.ent i x hx).lt hl hk).1;have hnew:∀b,Owned G' m' b→w.heap.size≤b∧b<w'.heap.size:=fun b hb=>by
  refine⟨?_,(Owned.lt hi' hb).1⟩;rcases vo b w.heap.size with h|h
  ·exact(owned_nil (hs.newB b h hb)).elim
  ·exact h
 have hle:Le G w' { G with F:=fun b=>G.F b∨Owned G' m' b } w':=⟨fun _ h=>.inl h,fun _ _=>rfl,En _,fun _ _=>.inl ⟨rfl,rfl,rfl,rfl,rfl⟩⟩;refine⟨v,.sl S l,m,{ G with F:=fun b=>G.F b∨Owned G' m' b },rfl,⟨⟨S,l,rfl,hR⟩,rfl⟩,?_,⟨g1.n,?_,?_,g1.apart,g1.gl.mono hle⟩,⟨g2.le.trans hle,g2.os,g2.tape,g2.output,g2.size,g2.keep,?_,g2.newB⟩⟩
 ·simp only[VRel]at hvd⊢;obtain⟨p,n,c,rfl,-,-,hx⟩:=hvd;obtain⟨a1,a2,a3,a4,a5⟩:=hi'.ent _ _ hm';obtain⟨rfl,rfl,rfl⟩:=hx a1;refine⟨_,_,_,rfl,a3,by rw[a3];exact a4,?_⟩;rcases a5 with a5|⟨b',cs,T,hb',hF,hblk,hsz,hrow⟩
  ·have h00:=congrArg br a5.2;dsimp only at h00;exact .inl (Jn (by omega))
  ·exact .inr ⟨b',_,by rw[hb'];rfl,.inr ⟨id,_,hm',rfl,hb'⟩,hrow.flat hfl⟩
 ·rintro b (hb|hb)
  ·exact g1.F b hb
  ·exact(hnew b hb).2
 ·intro i e he;by_cases hl:e.isLive=true
  ·refine(g1.ent i e he).mono hle ⟨rfl,rfl,rfl,rfl,rfl⟩ (fun _ _=>rfl) (fun b hb _ hF=>?_);rcases hF with hF|hF
   ·exact hF
   ·have:=hold i e he hl b hb;have:=(hnew b hF).1;omega
  ·cases e with
   |gone=>trivial
   |_=>simp[Ent.isLive]at hl
 ·rintro b hb (h|h)
  ·exact .inl h
  ·have:=(hnew b h).1;omega
end Go.Tm
namespace Go.Tm
open Go.RowKit (Below)
mutual
def Sub:D→D→Prop
 |_,.dead=>True
 |.v x,.sl _ l=>x=.slice none 0 0∧l=[]
 |.agg l,.agg r=>Subs l r
 |.tup l,.tup r=>Subs l r
 |.sl S l,.sl S' r=>S=S'∧Subs l r
 |d,e=>d=e
def Subs:List D→List D→Prop
 |[],r=>r=[]
 |d::l,r=>∃e r',r=e::r'∧Sub d e∧Subs l r'
end
theorem Subs.length:∀{l r:List D},Subs l r→l.length=r.length
 |[],r,h=>by simp[Subs]at h;simp[h]
 |d::l,r,h=>by
  simp only[Subs]at h;obtain⟨e,r',rfl,_,h2⟩:=h;simp[Subs.length h2]
mutual
theorem Sub.rel{G:Gh}{w:World}:∀{d e:D}{u:Value},Sub d e→VRel G w d u→VRel G w e u
 |d,.dead,u,_,_=>by simp[VRel]
 |.v x,.sl S l,u,hs,h=>by
  simp only[Sub]at hs;obtain⟨rfl,rfl⟩:=hs;simp only[VRel]at h⊢;exact⟨none,0,0,h,rfl,En _,by simp⟩
 |.agg l,.agg r,u,hs,h=>by
  simp only[Sub]at hs;simp only[VRel]at h⊢;obtain⟨cs,rfl,h,h1⟩:=h;exact⟨cs,rfl,Subs.rel hs h,h1⟩
 |.tup l,.tup r,u,hs,h=>by
  simp only[Sub]at hs;simp only[VRel]at h⊢;obtain⟨cs,rfl,h⟩:=h;exact⟨cs,rfl,Subs.rel hs h⟩
 |.sl S l,.sl S' r,u,hs,h=>by
  simp only[Sub]at hs;obtain⟨rfl,hs⟩:=hs;simp only[VRel]at h⊢;obtain⟨a,n,cap,rfl,hn,hc,h⟩:=h;refine⟨a,n,cap,rfl,by rw[←hs.length];exact hn,hc,?_⟩;rcases h with rfl|⟨b,off,rfl,hF,hr⟩
  ·simp only[Subs]at hs;exact .inl hs
  ·exact .inr ⟨b,off,rfl,hF,Subs.row hs hr⟩
 |.v x,.v y,u,hs,h=>by simp only[Sub]at hs;rw[←hs];exact h
 |.v x,.agg y,u,hs,h=>by simp only[Sub]at hs;cases hs
 |.v x,.tup y,u,hs,h=>by simp only[Sub]at hs;cases hs
 |.v x,.pt y,u,hs,h=>by simp only[Sub]at hs;cases hs
 |.v x,.ref ..,u,hs,h=>by simp only[Sub]at hs;cases hs
 |.v x,.own ..,u,hs,h=>by simp only[Sub]at hs;cases hs
 |.v x,.view ..,u,hs,h=>by simp only[Sub]at hs;cases hs
 |.v x,.fn ..,u,hs,h=>by simp only[Sub]at hs;cases hs
 |.v x,.mp ..,u,hs,h=>by simp only[Sub]at hs;cases hs
 |.v x,.ifc ..,u,hs,h=>by simp only[Sub]at hs;cases hs
 |.agg l,.v y,u,hs,h=>by simp only[Sub]at hs;cases hs
 |.agg l,.tup y,u,hs,h=>by simp only[Sub]at hs;cases hs
 |.agg l,.sl ..,u,hs,h=>by simp only[Sub]at hs;cases hs
 |.agg l,.pt y,u,hs,h=>by simp only[Sub]at hs;cases hs
 |.agg l,.ref ..,u,hs,h=>by simp only[Sub]at hs;cases hs
 |.agg l,.own ..,u,hs,h=>by simp only[Sub]at hs;cases hs
 |.agg l,.view ..,u,hs,h=>by simp only[Sub]at hs;cases hs
 |.agg l,.fn ..,u,hs,h=>by simp only[Sub]at hs;cases hs
 |.agg l,.mp ..,u,hs,h=>by simp only[Sub]at hs;cases hs
 |.agg l,.ifc ..,u,hs,h=>by simp only[Sub]at hs;cases hs
 |.tup l,.v y,u,hs,h=>by simp only[Sub]at hs;cases hs
 |.tup l,.agg y,u,hs,h=>by simp only[Sub]at hs;cases hs
 |.tup l,.sl ..,u,hs,h=>by simp only[Sub]at hs;cases hs
 |.tup l,.pt y,u,hs,h=>by simp only[Sub]at hs;cases hs
 |.tup l,.ref ..,u,hs,h=>by simp only[Sub]at hs;cases hs
 |.tup l,.own ..,u,hs,h=>by simp only[Sub]at hs;cases hs
 |.tup l,.view ..,u,hs,h=>by simp only[Sub]at hs;cases hs
 |.tup l,.fn ..,u,hs,h=>by simp only[Sub]at hs;cases hs
 |.tup l,.mp ..,u,hs,h=>by simp only[Sub]at hs;cases hs
 |.tup l,.ifc ..,u,hs,h=>by simp only[Sub]at hs;cases hs
 |.sl S l,.v y,u,hs,h=>by simp only[Sub]at hs;cases hs
 |.sl S l,.agg y,u,hs,h=>by simp only[Sub]at hs;cases hs
 |.sl S l,.tup ..,u,hs,h=>by simp only[Sub]at hs;cases hs
 |.sl S l,.pt y,u,hs,h=>by simp only[Sub]at hs;cases hs
 |.sl S l,.ref ..,u,hs,h=>by simp only[Sub]at hs;cases hs
 |.sl S l,.own ..,u,hs,h=>by simp only[Sub]at hs;cases hs
 |.sl S l,.view ..,u,hs,h=>by simp only[Sub]at hs;cases hs
 |.sl S l,.fn ..,u,hs,h=>by simp only[Sub]at hs;cases hs
 |.sl S l,.mp ..,u,hs,h=>by simp only[Sub]at hs;cases hs
 |.sl S l,.ifc ..,u,hs,h=>by simp only[Sub]at hs;cases hs
 |.pt x,e,u,hs,h=>by cases e<;>simp only[Sub]at hs<;>first|(simp[VRel];done)|(rw[←hs];exact h)|cases hs
 |.ref a b c d,e,u,hs,h=>by cases e<;>simp only[Sub]at hs<;>first|(simp[VRel];done)|(rw[←hs];exact h)|cases hs
 |.own a b,e,u,hs,h=>by cases e<;>simp only[Sub]at hs<;>first|(simp[VRel];done)|(rw[←hs];exact h)|cases hs
 |.view a b c d,e,u,hs,h=>by cases e<;>simp only[Sub]at hs<;>first|(simp[VRel];done)|(rw[←hs];exact h)|cases hs
 |.fn a b c,e,u,hs,h=>by cases e<;>simp only[Sub]at hs<;>first|(simp[VRel];done)|(rw[←hs];exact h)|cases hs
 |.mp a,e,u,hs,h=>by cases e<;>simp only[Sub]at hs<;>first|(simp[VRel];done)|(rw[←hs];exact h)|cases hs
 |.ifc a b,e,u,hs,h=>by cases e<;>simp only[Sub]at hs<;>first|(simp[VRel];done)|(rw[←hs];exact h)|cases hs
 |.dead,e,u,hs,h=>by cases e<;>simp only[Sub]at hs<;>first|(simp[VRel];done)|(rw[←hs];exact h)|cases hs
theorem Subs.rel{G:Gh}{w:World}:∀{l r:List D}{us:List Value},Subs l r→VsRel G w l us→VsRel G w r us
 |[],r,us,hs,h=>by simp only[Subs]at hs;subst hs;exact h
 |d::l,r,us,hs,h=>by
  simp only[Subs]at hs;obtain⟨e,r',rfl,h1,h2⟩:=hs;simp only[VsRel]at h⊢;obtain⟨u,us',rfl,g1,g2⟩:=h;exact⟨u,us',rfl,Sub.rel h1 g1,Subs.rel h2 g2⟩
theorem Subs.row{G:Gh}{w:World}{b S:Nat}:∀{l r:List D}{off:Nat},Subs l r→RowAt G w b S l off→RowAt G w b S r off
 |[],r,off,hs,h=>by simp only[Subs]at hs;subst hs;exact h
 |d::l,r,off,hs,h=>by
  simp only[Subs]at hs;obtain⟨e,r',rfl,h1,h2⟩:=hs;simp only[RowAt]at h⊢;obtain⟨⟨u,g1,g2,g3⟩,g4⟩:=h;exact⟨⟨u,Sub.rel h1 g1,g2,g3⟩,Subs.row h2 g4⟩
end
mutual
theorem Sub.refl:∀d:D,Sub d d
 |.v x=>by simp[Sub]
 |.agg l=>by simp only[Sub];exact Subs.refl' l
 |.tup l=>by simp only[Sub];exact Subs.refl' l
 |.sl S l=>by simp only[Sub,true_and];exact Subs.refl' l
 |.pt d=>by simp[Sub]
 |.ref ..=>by simp[Sub]
 |.own ..=>by simp[Sub]
 |.view ..=>by simp[Sub]
 |.fn ..=>by simp[Sub]
 |.mp ..=>by simp[Sub]
 |.ifc ..=>by simp[Sub]
 |.dead=>by simp[Sub]
theorem Subs.refl':∀l:List D,Subs l l
 |[]=>by simp[Subs]
 |d::l=>by simp only[Subs];exact⟨d,l,rfl,Sub.refl d,Subs.refl' l⟩
end
section
variable {P:Program} {N:Nat}
theorem T.sub{c:C}{K:Exit→St→Prop}{s:St}(t':List D) (hs:Subs s.t t') (h:T P N c K ⟨t',s.m⟩):T P N c K s:=
 T.ghost (s':=⟨t',s.m⟩) (fun G w _ hN hr=>⟨G,⟨hs.rel hr.t,hr.inv,hr.defers⟩,StepN.refl _ _ _ hN⟩) h
theorem T.adopt{c:C}{K:Exit→St→Prop}{s:St}(i S:Nat) (hi:s.t[i]?=some (.v (.slice none 0 0))) (h:T P N c K ⟨s.t.set i (.own s.m.length 0),s.m++[.live S 0 []]⟩):T P N c K s:=by
 refine T.ghost (fun G w a hN hr=>?_) h;have hadd:=add_good (w':=w) hr.inv none S 0 0 (.live S 0 []) rfl rfl rfl rfl (En _) (fun _ _=>rfl) (fun k h=>by cases h)
  ⟨by simp[Gh.add],by simp[Gh.add],by simp[Gh.add],by simp,.inl ⟨by simp[Gh.add],by simp[Gh.add]⟩⟩
 refine⟨_,⟨?_,hadd.1,hr.defers⟩,hadd.2.toN hN⟩;have hx:=VsRel.get i hr.t;rw[Dn,hi]at hx;simp only[cp,VRel]at hx;have hset:=VsRel.set (d:=.own s.m.length 0) (x:=.slice none 0 0) (own_newB (s:=s) (b:=none) (S:=S) (N:=0) (C:=0) (w':=w) hr.inv.n) i (hr.t.mono hadd.2.le);have hself:a.tmps.toList.set i (.slice none 0 0)=a.tmps.toList:=by
  rw[←hx];apply List.ext_getElem?;intro j;rw[rp];split
  ·rename_i hij;subst hij;split
   ·rename_i hlt;simp[pn hlt]
   ·rename_i hlt;rw[Rn (by omega)]
  ·rfl
 rwa [hself]at hset
mutual
def fz(id ver S:Nat) (l:List D):D→D
 |.agg r=>.agg (fzs id ver S l r)
 |.tup r=>.tup (fzs id ver S l r)
 |.own i v=>if i=id∧v=ver then .sl S l else .own i v
 |.view i v lo n=>if i=id∧v=ver∧lo+n≤l.length then .sl S ((l.drop lo).take n)else .view i v lo n
 |.ref i v x s=>if i=id∧v=ver∧s=0 then(match l[x]? with|some d=>.pt d|none=>.ref i v x s)else .ref i v x s
 |.fn f a b=>.fn f (fzs id ver S l a) (fzs id ver S l b)
 |d=>d
def fzs(id ver S:Nat) (l:List D):List D→List D
 |[]=>[]
 |d::r=>fz id ver S l d::fzs id ver S l r
end
def fzE(id ver S:Nat) (l:List D):Ent→Ent
 |.live S' v r=>.live S' v (fzs id ver S l r)
 |.mp es=>.mp es
 |.gone=>.gone
theorem fzs_map(id ver S:Nat) (l:List D):∀r,fzs id ver S l r=r.map (fz id ver S l)
 |[]=>rfl
 |d::r=>by simp[fzs,fzs_map id ver S l r]
theorem Le.fz{G:Gh}{w:World}(id:Nat):Le G w (G.fz id) w:=by
 refine⟨fun _ h=>.inl h,fun _ _=>rfl,En _,fun i _=>?_⟩;by_cases h:i=id
 ·exact .inr (by simp[Gh.fz,h])
 ·exact .inl (by simp[Gh.fz,h])
mutual
theorem fz_rel{G:Gh}{w:World}{m:List Ent}(hi:Inv G w m) {id ver S:Nat}{l:List D}(hm:m[id]?=some (.live S ver l)):∀{d:D}{u:Value},VRel G w d u→VRel (G.fz id) w (fz id ver S l d) u
 |.v x,u,h=>h.mono (Le.fz id)
 |.sl S l,u,h=>h.mono (Le.fz id)
 |.pt d,u,h=>h.mono (Le.fz id)
 |.ref i v x s,u,h=>by
  simp only[fz];split
  ·rename_i hc;obtain⟨rfl,rfl,rfl⟩:=hc;split
   ·rename_i e he;simp only[VRel]at h⊢;obtain⟨p,rfl,hid,hver,hx⟩:=h;obtain⟨a1,a2,a3,a4,a5⟩:=hi.ent _ _ hm;obtain⟨b,hb,rfl⟩:=hx a1;rcases a5 with a5|⟨b',cs,T,hb',hF,hblk,hsz,hrow⟩
    ·rw[a5.1]at hb;cases hb
    ·rw[hb]at hb';injection hb' with hb';subst hb';obtain⟨u',g1,g2,g3⟩:=rowAt_iff.1 hrow x e he;refine⟨b,_,u',rfl,.inr hb,g1.mono (Le.fz _),?_⟩;rw[a2,ep,Yo];exact g3
   ·exact h.mono (Le.fz _)
  ·exact h.mono (Le.fz id)
 |.mp ..,u,h=>h.mono (Le.fz id)
 |.ifc ..,u,h=>h.mono (Le.fz id)
 |.dead,u,h=>h.mono (Le.fz id)
 |.agg r,u,h=>by
  simp only[fz,VRel]at h⊢;obtain⟨cs,rfl,h,h1⟩:=h;exact⟨cs,rfl,fzs_rel hi hm h,h1⟩
 |.tup r,u,h=>by
  simp only[fz,VRel]at h⊢;obtain⟨cs,rfl,h⟩:=h;exact⟨cs,rfl,fzs_rel hi hm h⟩
 |.fn f a b,u,h=>by
  simp only[fz,VRel]at h⊢;obtain⟨fs,cs,rfl,h1,h2⟩:=h;exact⟨fs,cs,rfl,fzs_rel hi hm h1,fzs_rel hi hm h2⟩
 |.own i v,u,h=>by
  simp only[fz];split
  ·rename_i hc;obtain⟨rfl,rfl⟩:=hc;simp only[VRel]at h⊢;obtain⟨p,n,c,rfl,hid,hver,hx⟩:=h;obtain⟨a1,a2,a3,a4,a5⟩:=hi.ent _ _ hm;obtain⟨rfl,rfl,rfl⟩:=hx a1;refine⟨_,_,_,rfl,a3,by rw[a3];exact a4,?_⟩;rcases a5 with a5|⟨b',cs,T,hb',hF,hblk,hsz,hrow⟩
   ·have h00:=congrArg br a5.2;dsimp only at h00;exact .inl (Jn (by omega))
   ·exact .inr ⟨b',(G.C i).2,by rw[hb'];rfl,.inr hb',hrow.mono (Le.fz _) rfl⟩
  ·exact h.mono (Le.fz id)
 |.view i v lo n,u,h=>by
  simp only[fz];split
  ·rename_i hc;obtain⟨rfl,rfl,hle⟩:=hc;simp only[VRel]at h⊢;obtain⟨p,c,rfl,hnc,hid,hver,hx⟩:=h;obtain⟨a1,a2,a3,a4,a5⟩:=hi.ent _ _ hm;have hlen:((l.drop lo).take n).length=n:=by rw[No,Gp];omega
   refine⟨p,n,c,rfl,hlen.symm,hnc,?_⟩;rcases hx a1 with rfl|⟨b,hb,rfl⟩
   ·exact .inl (by simp)
   ·rcases a5 with a5|⟨b',cs,T,hb',hF,hblk,hsz,hrow⟩
    ·rw[a5.1]at hb;cases hb
    ·rw[hb]at hb';injection hb' with hb';subst hb';refine .inr ⟨b,lo*S+(G.C i).2,by rw[a2],.inr hb,?_⟩;have:=rowAt_take (rowAt_drop (hrow.mono (Le.fz i) rfl) lo) n;rwa [Yo (G.C i).2]at this
  ·exact h.mono (Le.fz id)
theorem fzs_rel{G:Gh}{w:World}{m:List Ent}(hi:Inv G w m) {id ver S:Nat}{l:List D}(hm:m[id]?=some (.live S ver l)):∀{r:List D}{us:List Value},VsRel G w r us→VsRel (G.fz id) w (fzs id ver S l r) us
 |[],us,h=>by simpa [fzs,VsRel] using h
 |d::r,us,h=>by
  simp only[fzs,VsRel]at h⊢;obtain⟨u,us',rfl,h1,h2⟩:=h;exact⟨u,us',rfl,fz_rel hi hm h1,fzs_rel hi hm h2⟩
end
theorem T.freeze{c:C}{K:Exit→St→Prop}{s:St}(id ver S:Nat) (l:List D) (hm:s.m[id]?=some (.live S ver l)) (h:T P N c K ⟨fzs id ver S l s.t,(s.m.map (fzE id ver S l)).set id .gone⟩):T P N c K s:=by
 refine T.ghost (fun G w a hN hr=>?_) h;have hi:=hr.inv;have hle:=Le.fz (G:=G) (w:=w) id;have hget:∀i e,((s.m.map (fzE id ver S l)).set id .gone)[i]?=some e→(i=id∧e=.gone)∨(i≠id∧∃e',s.m[i]?=some e'∧e=fzE id ver S l e'):=by
  intro i e he;rw[rp]at he;split at he
  ·rename_i hij;subst hij;split at he
   ·injection he with he;exact .inl ⟨rfl,he.symm⟩
   ·cases he
  ·rename_i hij;rw[Qo]at he
   cases hs:s.m[i]? with
   |none=>rw[hs]at he;cases he
   |some e'=>rw[hs]at he;injection he with he;exact .inr ⟨fun h=>hij h.symm,e',rfl,he.symm⟩
 have hlive:∀e,(fzE id ver S l e).isLive=e.isLive:=fun e=>by cases e<;>rfl
 have hinv:Inv (G.fz id) w ((s.m.map (fzE id ver S l)).set id .gone):=by
  refine⟨by simp[Gh.fz,hi.n],?_,?_,?_,hi.gl.mono (Le.fz id)⟩
  ·rintro b (h|h)
   ·exact hi.F b h
   ·exact((hi.ent _ _ hm).lt rfl h).1
  ·intro i e he;rcases hget i e he with⟨rfl,rfl⟩|⟨hne,e',he',rfl⟩
   ·trivial
   ·have hent:=hi.ent i e' he';have hF:∀b,G.B i=some b→e'.isLive=true→(G.fz id).F b→G.F b:=by
     rintro b hb hl (h|h)
     ·exact h
     ·exact(hne (hi.apart i id e' _ he' hm hl rfl b hb h)).elim
    have:=hent.mono hle (by simp[Gh.fz,hne]) (fun _ _=>rfl) hF
    cases e' with
    |live S' v r=>
     obtain⟨a1,a2,a3,a4,a5⟩:=this;refine⟨a1,a2,by rw[fzs_map,Oo];exact a3,by rw[fzs_map,Oo];exact a4,?_⟩;rcases a5 with a5|⟨b',cs,T,hb',hF',hblk,hsz,hrow⟩
     ·exact .inl a5
     ·obtain⟨-,-,-,-,a5'⟩:=hent;rcases a5' with a5'|⟨b'',cs',T',hb'',hF'',hblk',hsz',hrow'⟩
      ·have:(G.fz id).B i=G.B i:=rfl;rw[this,a5'.1]at hb';cases hb'
      ·have:(G.fz id).B i=G.B i:=rfl;rw[this,hb'']at hb';injection hb' with hb';subst hb';refine .inr ⟨b'',cs,T,hb'',hF',hblk,hsz,?_⟩;have hmap:=row_map_rel (f:=fz id ver S l) (fun d u h=>fz_rel hi hm h) hrow';rw[fzs_map];exact hmap
    |mp es=>exact this
    |gone=>trivial
  ·intro i j e e' he he' hl hl' b hb hb';rcases hget i e he with⟨rfl,rfl⟩|⟨hne,x,hx,rfl⟩
   ·cases hl
   ·rcases hget j e' he' with⟨rfl,rfl⟩|⟨hne',y,hy,rfl⟩
    ·cases hl'
    ·rw[hlive]at hl hl';exact hi.apart i j x y hx hy hl hl' b hb hb'
 refine⟨G.fz id,⟨fzs_rel hi hm hr.t,hinv,hr.defers⟩,Step.toN ⟨hle,rfl,rfl,rfl,En _,fun _ _ _=>rfl,?_,?_⟩ hN⟩
 ·rintro b hb (h|h)
  ·exact .inl h
  ·exact .inr ⟨id,_,hm,rfl,h⟩
 ·rintro b hb ⟨i,e,he,hl,hB⟩;rcases hget i e he with⟨rfl,rfl⟩|⟨hne,x,hx,rfl⟩
  ·cases hl
  ·exact⟨i,x,hx,by rw[hlive]at hl;exact hl,hB⟩
mutual
def below(k:Nat):D→Bool
 |.agg l=>belows k l
 |.tup l=>belows k l
 |.sl _ l=>belows k l
 |.pt d=>below k d
 |.ref i _ _ _=>decide (i<k)
 |.own i _=>decide (i<k)
 |.view i _ _ _=>decide (i<k)
 |.fn _ a b=>belows k a&&belows k b
 |.mp i=>decide (i<k)
 |.ifc _ d=>below k d
 |_=>true
def belows(k:Nat):List D→Bool
 |[]=>true
 |d::l=>below k d&&belows k l
end
mutual
theorem below_free(k:Nat):∀d:D,idfree d=true→below k d=true
 |.v _,_=>by simp[below]
 |.agg l,h=>by simp only[below];exact belows_free k l (by simpa [idfree] using h)
 |.tup l,h=>by simp only[below];exact belows_free k l (by simpa [idfree] using h)
 |.sl _ l,h=>by simp only[below];exact belows_free k l (by simpa [idfree] using h)
 |.pt d,h=>by simp only[below];exact below_free k d (by simpa [idfree] using h)
 |.ifc _ d,h=>by simp only[below];exact below_free k d (by simpa [idfree] using h)
 |.fn _ a b,h=>by
  simp only[idfree,xn]at h;simp only[below,xn];exact⟨belows_free k a h.1,belows_free k b h.2⟩
 |.dead,_=>by simp[below]
 |.ref ..,h=>by simp[idfree]at h
 |.own ..,h=>by simp[idfree]at h
 |.view ..,h=>by simp[idfree]at h
 |.mp _,h=>by simp[idfree]at h
theorem belows_free(k:Nat):∀l:List D,idfrees l=true→belows k l=true
 |[],_=>by simp[belows]
 |d::l,h=>by
  simp only[idfrees,xn]at h;simp only[belows,xn];exact⟨below_free k d h.1,belows_free k l h.2⟩
end
def Ent.below(k:Nat):Ent→Bool
 |.live _ _ l=>belows k l
 |.mp es=>es.all fun e=>Tm.below k e.2
 |.gone=>true
def Gh.trim(G:Gh) (k:Nat):Gh:={ G with n:=k }
mutual
theorem VRel.trim{G:Gh}{w:World}{k:Nat}:∀{d:D}{u:Value},below k d=true→VRel G w d u→VRel (G.trim k) w d u
 |.v x,u,_,h=>by simpa [VRel] using h
 |.agg l,u,hb,h=>by
  simp only[VRel,below]at h hb⊢;obtain⟨cs,rfl,h,h1⟩:=h;exact⟨cs,rfl,VsRel.trim hb h,h1⟩
 |.tup l,u,hb,h=>by
  simp only[VRel,below]at h hb⊢;obtain⟨cs,rfl,h⟩:=h;exact⟨cs,rfl,VsRel.trim hb h⟩
 |.sl S l,u,hb,h=>by
  simp only[VRel,below]at h hb⊢;obtain⟨a,n,cap,rfl,hn,hc,h⟩:=h;refine⟨a,n,cap,rfl,hn,hc,?_⟩;rcases h with h|⟨b,off,rfl,hF,hr⟩
  ·exact .inl h
  ·exact .inr ⟨b,off,rfl,hF,RowAt.trim hb hr⟩
 |.pt d,u,hb,h=>by
  simp only[VRel,below]at h hb⊢;obtain⟨b,off,x,rfl,hF,hd,hh⟩:=h;exact⟨b,off,x,rfl,hF,VRel.trim hb hd,hh⟩
 |.ref ..,u,hb,h=>by
  simp only[VRel,below,decide_eq_true_eq]at h hb⊢;obtain⟨a,hu,_,h⟩:=h;exact⟨a,hu,hb,h⟩
 |.own ..,u,hb,h=>by
  simp only[VRel,below,decide_eq_true_eq]at h hb⊢;obtain⟨a,n,c,hu,_,h⟩:=h;exact⟨a,n,c,hu,hb,h⟩
 |.view ..,u,hb,h=>by
  simp only[VRel,below,decide_eq_true_eq]at h hb⊢;obtain⟨a,c,hu,hn,_,h⟩:=h;exact⟨a,c,hu,hn,hb,h⟩
 |.mp _,u,hb,h=>by
  simp only[VRel,below,decide_eq_true_eq]at h hb⊢;obtain⟨b,hu,_,h⟩:=h;exact⟨b,hu,hb,h⟩
 |.ifc t d,u,hb,h=>by
  simp only[VRel,below]at h hb⊢;obtain⟨x,rfl,h⟩:=h;exact⟨x,rfl,VRel.trim hb h⟩
 |.fn f first caps,u,hb,h=>by
  simp only[VRel,below,xn]at h hb⊢;obtain⟨fs,cs,rfl,h1,h2⟩:=h;exact⟨fs,cs,rfl,VsRel.trim hb.1 h1,VsRel.trim hb.2 h2⟩
 |.dead,u,_,h=>by simp[VRel]
theorem VsRel.trim{G:Gh}{w:World}{k:Nat}:∀{l:List D}{us:List Value},belows k l=true→VsRel G w l us→VsRel (G.trim k) w l us
 |[],us,_,h=>by simpa [VsRel] using h
 |d::l,us,hb,h=>by
  simp only[VsRel,belows,xn]at h hb⊢;obtain⟨u,r,rfl,h1,h2⟩:=h;exact⟨u,r,rfl,VRel.trim hb.1 h1,VsRel.trim hb.2 h2⟩
theorem RowAt.trim{G:Gh}{w:World}{k b S:Nat}:∀{l:List D}{off:Nat},belows k l=true→RowAt G w b S l off→RowAt (G.trim k) w b S l off
 |[],off,_,h=>by simp[RowAt]
 |d::l,off,hb,h=>by
  simp only[RowAt,belows,xn]at h hb⊢;obtain⟨⟨u,h1,h2,h3⟩,h4⟩:=h;exact⟨⟨u,VRel.trim hb.1 h1,h2,h3⟩,RowAt.trim hb.2 h4⟩
end
theorem MapRel.trim{G:Gh}{w:World}{k:Nat}:∀{l:List (Value×D)}{es:List MapEntry},(l.all fun e=>below k e.2)=true→MapRel G w l es→MapRel (G.trim k) w l es
 |[],es,_,h=>h
 |(q,d)::l,es,hb,h=>by
  simp only[List.all_cons,xn]at hb;obtain⟨e,r,h0,h1,h2,h3⟩:=h;exact⟨e,r,h0,h1,h2.trim hb.1,h3.trim hb.2⟩
theorem T.trim{c:C}{K:Exit→St→Prop}{s:St}(k:Nat) (hN:N≤k) (hk:k≤s.m.length) (ht:belows k s.t=true) (hm:(s.m.take k).all (Ent.below k)=true) (h:T P N c K ⟨s.t,s.m.take k⟩):T P N c K s:=by
 refine T.ghost (fun G w a hN' hr=>?_) h;have hi:=hr.inv;have hget:∀(i:Nat) e,(s.m.take k)[i]?=some e→i<k∧s.m[i]?=some e:=by
  intro i e he;rw[Cp]at he;split at he
  ·rename_i hik;exact⟨hik,he⟩
  ·cases he
 have hinv:Inv (G.trim k) w (s.m.take k):=by
  refine⟨by simp[Gh.trim];omega,hi.F,fun i e he=>?_,fun i j e e' he he' hl hl' b hb hb'=>hi.apart i j e e' (hget i e he).2 (hget j e' he').2 hl hl' b hb hb',hi.gl.bare fun _ h=>h⟩;have hbe:e.below k=true:=qo.1 hm e (Bo he);have hent:=hi.ent i e (hget i e he).2
  cases e with
  |live S ver l=>
   obtain⟨a1,a2,a3,a4,a5⟩:=hent;refine⟨a1,a2,a3,a4,?_⟩;rcases a5 with a5|⟨b',cs,T,hb',hF,hblk,hsz,hrow⟩
   ·exact .inl a5
   ·exact .inr ⟨b',cs,T,hb',hF,hblk,hsz,hrow.trim (by simpa [Ent.below] using hbe)⟩
  |mp es=>
   obtain⟨a1,b,en,cl,a2,a3,a4,a5⟩:=hent;exact⟨a1,b,en,cl,a2,a3,a4,a5.trim (by simpa [Ent.below] using hbe)⟩
  |gone=>trivial
 refine⟨G.trim k,⟨hr.t.trim ht,hinv,hr.defers⟩,⟨fun _ h=>h,fun _ _=>rfl,hN,fun i hi'=>.inl ⟨rfl,rfl,rfl,rfl,rfl⟩,rfl,rfl,rfl,En _,fun _ _ _=>rfl,fun _ _ h=>.inl h,?_⟩⟩;rintro b hb ⟨i,e,he,hl,hB⟩;exact⟨i,e,(hget i e he).2,hl,hB⟩
theorem T.loopS{x:C}{K:Exit→St→Prop}{s:St}{X:Type}(S:X→St) (good:X→Prop) (μ:X→Nat) (x₀:X) (h0:good x₀) (ht:Subs s.t (S x₀).t) (hm:s.m=(S x₀).m)
 (hb:∀y,good y→N≤(S y).m.length∧belows (S y).m.length (S y).t=true∧(S y).m.all (Ent.below (S y).m.length)=true)
 (round:∀y,good y→T P N x (fun e s'=>match e with|.normal=>∃z,good z∧μ z<μ y∧Subs s'.t (S z).t∧∃g,s'.m=(S z).m++g|e=>K e s') (S y)):T P N (.loop x) K s:=by
 refine T.loopI (J:=fun y s'=>good y∧Subs s'.t (S y).t∧∃g,s'.m=(S y).m++g) μ x₀ ⟨h0,ht,[],by simp[hm]⟩ ?_;rintro y s1 ⟨hg,hs1,g,hm1⟩;obtain⟨b1,b2,b3⟩:=hb y hg;refine T.sub (S y).t hs1 ?_;refine T.trim (S y).m.length b1 (by simp[hm1]) b2 (by simpa [hm1] using b3) ?_;have hst:(⟨(S y).t,s1.m.take (S y).m.length⟩:St)=S y:=by
  rw[hm1,List.take_left]
 simp only[hst];refine(round y hg).mono ?_;intro e s' hK
 cases e with
 |normal=>obtain⟨z,k1,k2,k3,k4⟩:=hK;exact⟨z,⟨k1,k3,k4⟩,k2⟩
 |_=>exact hK
end
end Go.Tm
namespace Go.Tm
open Go.RowKit (Below)
theorem ev_congr{s s':St}{x:Operand}(h:∀t∈tmpOf x,s'.t.getD t .dead=s.t.getD t .dead):s'.ev x=s.ev x:=by
 cases x<;>simp[St.ev];rename_i t;have:=h t (by simp[tmpOf]);simpa [Dn] using this
theorem cv_congr{s s':St}{f:Cal}(h:∀t∈f.tmps,s'.t.getD t .dead=s.t.getD t .dead):s'.cv f=s.cv f:=by
 cases f with
 |tmp t=>exact ev_congr (x:=.tmp t) fun t' h'=>h t' (by simpa [Cal.tmps,tmpOf] using h')
 |_=>rfl
theorem bound_congr{s s':St}{d:Nat}{x:Option Operand}(h:∀t∈optOf x,s'.t.getD t .dead=s.t.getD t .dead):bound s' d x=bound s d x:=by
 cases x with
 |none=>rfl
 |some y=>simp only[bound,ev_congr (s:=s) (s':=s') (x:=y) (fun t ht=>h t ht)]
theorem buildD_congr{s s':St}:∀{ps:List (Nat×Nat×Operand)}{l:List D},(∀t∈ps.flatMap (fun p=>tmpOf p.2.2),s'.t.getD t .dead=s.t.getD t .dead)→buildD s' ps l=buildD s ps l
 |[],l,h=>rfl
 |(o,n,x)::ps,l,h=>by
  simp only[buildD,ev_congr (s:=s) (s':=s') (x:=x) (fun t ht=>h t (by simp;exact .inl ht))];split
  ·exact buildD_congr fun t ht=>h t (by simp at ht⊢;exact .inr ht)
  ·rfl
theorem bsliceD_congr{s s':St}{S:Nat}:∀{ps:List (Nat×Operand)}{l:List D},(∀t∈ps.flatMap (fun p=>tmpOf p.2),s'.t.getD t .dead=s.t.getD t .dead)→bsliceD s' S ps l=bsliceD s S ps l
 |[],l,h=>rfl
 |(o,x)::ps,l,h=>by
  simp only[bsliceD,ev_congr (s:=s) (s':=s') (x:=x) (fun t ht=>h t (by simp;exact .inl ht))];split
  ·exact bsliceD_congr fun t ht=>h t (by simp at ht⊢;exact .inr ht)
  ·rfl
theorem map_congr{s s':St}:∀{l:List Operand},(∀t∈l.flatMap tmpOf,s'.t.getD t .dead=s.t.getD t .dead)→l.map s'.ev=l.map s.ev
 |[],h=>rfl
 |x::l,h=>by
  simp only[Vn,ev_congr (s:=s) (s':=s') (x:=x) (fun t ht=>h t (by simp;exact .inl ht))];rw[map_congr fun t ht=>h t (by simp at ht⊢;exact .inr ht)]
theorem gate_congr{s s':St}{g:Option (Tmp×Bool)}(h:∀t∈gReads g,s'.t.getD t .dead=s.t.getD t .dead):gate s' g=gate s g:=by
 cases g with
 |none=>rfl
 |some p=>obtain⟨t,b⟩:=p;simp only[gate,h t (by simp[gReads])]
def topId:D→Option Nat
 |.ref i _ _ _=>some i
 |.own i _=>some i
 |.view i _ _ _=>some i
 |.mp i=>some i
 |_=>none
def I.at?:I→Option Operand
 |.load _ _ x|.slice _ x _ _ _|.iaddr _ x _|.len x|.mlook _ _ _ x _|.mlen x|.nileq _ x=>some x
 |_=>none
theorem look_lenOf{m m':List Ent}{d:D}(h:∀i,topId d=some i→m'[i]?=m[i]?):lenOfD m' d=lenOfD m d:=by
 unfold lenOfD;split<;>first|rfl|(rename_i id ver;rw[h id rfl])|(rename_i id _ _ _;rw[h id rfl])
theorem look_slice{S:Nat}{m m':List Ent}{d:D}{lo hi:Nat}(h:∀i,topId d=some i→m'[i]?=m[i]?):sliceD S m' d lo hi=sliceD S m d lo hi:=by
 unfold sliceD;split<;>first|rfl|(rename_i id ver;rw[h id rfl])|(rename_i id ver l0 n;rw[h id rfl])
theorem evalI_congr{s s':St}{i:I}{d:D}(hc:i.cls≤1) (ht:∀t∈i.reads,s'.t.getD t .dead=s.t.getD t .dead) (hm:∀x id,i.at?=some x→topId (s.ev x)=some id→s'.m[id]?=s.m[id]?)
 {m1:List Ent} (he:evalI s i=some (d,m1)):m1=s.m∧evalI s' i=some (d,s'.m):=by
 cases i with
 |mv x=>
  simp only[evalI,An,Bn]at he⊢;rw[ev_congr (s:=s) (s':=s') (x:=x) (fun t h=>ht t (by simpa [I.reads] using h))];exact⟨he.2.symm,he.1,by trivial⟩
 |pick c a b=>
  simp only[evalI]at he⊢;rw[ev_congr (s:=s) (s':=s') (x:=c) (fun t h=>ht t (by simp[I.reads,h])),ev_congr (s:=s) (s':=s') (x:=a) (fun t h=>ht t (by simp[I.reads,h])),ev_congr (s:=s) (s':=s') (x:=b) (fun t h=>ht t (by simp[I.reads,h]))];split at he
  all_goals first|(simp_all;done)|(simp only[sn,Bn]at he⊢;obtain⟨_,h1,rfl,rfl⟩:=he;exact⟨rfl,_,h1,by simp⟩)|(simp_all;obtain⟨_,h1,h2,h3⟩:=he;exact⟨h3.symm,_,h1,h2⟩)
 |bin op x y=>
  simp only[evalI]at he⊢;rw[ev_congr (s:=s) (s':=s') (x:=x) (fun t h=>ht t (by simp[I.reads,h])),ev_congr (s:=s) (s':=s') (x:=y) (fun t h=>ht t (by simp[I.reads,h]))];split at he
  all_goals first|(simp_all;done)|(simp only[sn,Bn]at he⊢;obtain⟨_,h1,rfl,rfl⟩:=he;exact⟨rfl,_,h1,by simp⟩)|(simp_all;obtain⟨_,h1,h2,h3⟩:=he;exact⟨h3.symm,_,h1,h2⟩)
 |beq n x y=>
  simp only[evalI]at he⊢;rw[ev_congr (s:=s) (s':=s') (x:=x) (fun t h=>ht t (by simp[I.reads,h])),ev_congr (s:=s) (s':=s') (x:=y) (fun t h=>ht t (by simp[I.reads,h]))];split at he
  all_goals first|(simp_all;done)|(simp only[sn,Bn]at he⊢;obtain⟨_,h1,rfl,rfl⟩:=he;exact⟨rfl,_,h1,by simp⟩)|(simp_all;obtain⟨_,h1,h2,h3⟩:=he;exact⟨h3.symm,_,h1,h2⟩)
 |un op x=>
  simp only[evalI]at he⊢;rw[ev_congr (s:=s) (s':=s') (x:=x) (fun t h=>ht t (by simpa [I.reads] using h))];split at he
  all_goals first|(simp_all;done)|(simp only[sn,Bn]at he⊢;obtain⟨_,h1,rfl,rfl⟩:=he;exact⟨rfl,_,h1,by simp⟩)|(simp_all;obtain⟨_,h1,h2,h3⟩:=he;exact⟨h3.symm,_,h1,h2⟩)
 |conv k x=>
  simp only[evalI]at he⊢;rw[ev_congr (s:=s) (s':=s') (x:=x) (fun t h=>ht t (by simpa [I.reads] using h))];split at he
  all_goals first|(simp_all;done)|(simp only[sn,Bn]at he⊢;obtain⟨_,h1,rfl,rfl⟩:=he;exact⟨rfl,_,h1,by simp⟩)|(simp_all;obtain⟨_,h1,h2,h3⟩:=he;exact⟨h3.symm,_,h1,h2⟩)
 |build z ps=>
  simp only[evalI]at he⊢;rw[buildD_congr (s:=s) (s':=s') (fun t h=>ht t (by simpa [I.reads] using h))]
  cases hb:buildD s ps z with
  |none=>simp[hb]at he
  |some l=>simp_all
 |mkifc t x=>
  simp only[evalI,An,Bn]at he⊢;rw[ev_congr (s:=s) (s':=s') (x:=x) (fun t h=>ht t (by simpa [I.reads] using h))];exact⟨he.2.symm,he.1,by trivial⟩
 |tassert ok t z x=>
  simp only[evalI]at he⊢;rw[ev_congr (s:=s) (s':=s') (x:=x) (fun t h=>ht t (by simpa [I.reads] using h))]
  repeat' split at he
  all_goals first|(simp_all;done)|(simp only[sn,Bn]at he⊢;obtain⟨_,h1,rfl,rfl⟩:=he;exact⟨rfl,_,h1,by simp⟩)|(simp_all;obtain⟨_,h1,h2,h3⟩:=he;exact⟨h3.symm,_,h1,h2⟩)
 |capn x=>
  simp only[evalI]at he⊢;rw[ev_congr (s:=s) (s':=s') (x:=x) (fun t h=>ht t (by simpa [I.reads] using h))];split at he
  all_goals first|(simp_all;done)|(simp only[sn,Bn]at he⊢;obtain⟨_,h1,rfl,rfl⟩:=he;exact⟨rfl,_,h1,by simp⟩)|(simp_all;obtain⟨_,h1,h2,h3⟩:=he;exact⟨h3.symm,_,h1,h2⟩)
 |nileq neg x=>
  simp only[evalI]at he⊢;rw[ev_congr (s:=s) (s':=s') (x:=x) (fun t h=>ht t (by simpa [I.reads] using h))];split at he
  ·rename_i hx;simp only[An,Bn]at he;simp[hx,he.1,he.2]
  ·rename_i hx;simp only[An,Bn]at he;simp[hx,he.1,he.2]
  ·rename_i id ver hx;rw[hm x id rfl (by rw[hx];rfl)];split at he
   ·split at he
    ·rename_i h1 h2;simp only[An,Bn]at he;simp[h1,h2,he.1,he.2]
    ·cases he
   ·cases he
  ·cases he
 |clr S z x=>simp[I.cls]at hc
 |mkapp S b z x n=>simp[I.cls]at hc
 |nilc x=>
  simp only[evalI]at he⊢;rw[ev_congr (s:=s) (s':=s') (x:=x) (fun t h=>ht t (by simpa [I.reads] using h))];split at he
  all_goals first|(simp_all;done)|(simp only[sn,Bn]at he⊢;obtain⟨_,h1,rfl,rfl⟩:=he;exact⟨rfl,_,h1,by simp⟩)|(simp_all;obtain⟨_,h1,h2,h3⟩:=he;exact⟨h3.symm,_,h1,h2⟩)
 |faddr A n o x=>
  simp only[evalI]at he⊢;rw[ev_congr (s:=s) (s':=s') (x:=x) (fun t h=>ht t (by simpa [I.reads] using h))];split at he
  all_goals first|(simp_all;done)|(simp only[sn,Bn]at he⊢;obtain⟨_,h1,rfl,rfl⟩:=he;exact⟨rfl,_,h1,by simp⟩)|(simp_all;obtain⟨_,h1,h2,h3⟩:=he;exact⟨h3.symm,_,h1,h2⟩)
 |field A n o x=>
  simp only[evalI]at he⊢;rw[ev_congr (s:=s) (s':=s') (x:=x) (fun t h=>ht t (by simpa [I.reads] using h))];split at he
  all_goals first|(simp_all;done)|(simp only[sn,Bn]at he⊢;obtain⟨_,h1,rfl,rfl⟩:=he;exact⟨rfl,_,h1,by simp⟩)|(simp_all;obtain⟨_,h1,h2,h3⟩:=he;exact⟨h3.symm,_,h1,h2⟩)
 |extract x k=>
  simp only[evalI]at he⊢;rw[ev_congr (s:=s) (s':=s') (x:=x) (fun t h=>ht t (by simpa [I.reads] using h))];split at he
  all_goals first|(simp_all;done)|(simp only[sn,Bn]at he⊢;obtain⟨_,h1,rfl,rfl⟩:=he;exact⟨rfl,_,h1,by simp⟩)|(simp_all;obtain⟨_,h1,h2,h3⟩:=he;exact⟨h3.symm,_,h1,h2⟩)
 |mkfunc f a b=>
  simp only[evalI,An,Bn]at he⊢;rw[map_congr (s:=s) (s':=s') (l:=a) (fun t h=>ht t (by simp[I.reads]at h⊢;exact .inl h)),map_congr (s:=s) (s':=s') (l:=b) (fun t h=>ht t (by simp[I.reads]at h⊢;exact .inr h))];exact⟨he.2.symm,he.1,by trivial⟩
 |aaddr A S n x y=>
  simp only[evalI]at he⊢;rw[ev_congr (s:=s) (s':=s') (x:=x) (fun t h=>ht t (by simp[I.reads,h])),ev_congr (s:=s) (s':=s') (x:=y) (fun t h=>ht t (by simp[I.reads,h]))]
  repeat' split at he
  all_goals first|(simp_all;done)|(simp only[sn,Bn]at he⊢;obtain⟨_,h1,rfl,rfl⟩:=he;exact⟨rfl,_,h1,by simp⟩)|(simp_all;obtain⟨_,h1,h2,h3⟩:=he;exact⟨h3.symm,_,h1,h2⟩)
 |index A S n x y=>
  simp only[evalI]at he⊢;rw[ev_congr (s:=s) (s':=s') (x:=x) (fun t h=>ht t (by simp[I.reads,h])),ev_congr (s:=s) (s':=s') (x:=y) (fun t h=>ht t (by simp[I.reads,h]))];split at he
  ·split at he
   ·rename_i hk;rw[if_pos hk];split at he
    ·simp only[sn,Bn]at he⊢;obtain⟨_,h1,rfl,rfl⟩:=he;exact⟨rfl,_,h1,by simp⟩
    ·cases he
   ·cases he
  ·cases he
 |slen x=>
  simp only[evalI]at he⊢;rw[ev_congr (s:=s) (s':=s') (x:=x) (fun t h=>ht t (by simpa [I.reads] using h))];split at he
  all_goals first|(simp_all;done)|(simp only[sn,Bn]at he⊢;obtain⟨_,h1,rfl,rfl⟩:=he;exact⟨rfl,_,h1,by simp⟩)|(simp_all;obtain⟨_,h1,h2,h3⟩:=he;exact⟨h3.symm,_,h1,h2⟩)
 |len x=>
  simp only[evalI]at he⊢;rw[ev_congr (s:=s) (s':=s') (x:=x) (fun t h=>ht t (by simpa [I.reads] using h)),look_lenOf (fun id h=>hm x id rfl h)]
  cases hb:lenOfD s.m (s.ev x)with
  |none=>simp[hb]at he
  |some l=>simp_all
 |slice S x lo hi mx=>
  simp only[evalI]at he⊢;rw[ev_congr (s:=s) (s':=s') (x:=x) (fun t h=>ht t (by simp[I.reads,h])),look_lenOf (fun id h=>hm x id rfl h)]
  cases hb:lenOfD s.m (s.ev x)with
  |none=>simp[hb]at he
  |some n=>
   simp only[hb]at he⊢;rw[bound_congr (s:=s) (s':=s') (x:=lo) (fun t h=>ht t (by simp[I.reads,h])),bound_congr (s:=s) (s':=s') (x:=hi) (fun t h=>ht t (by simp[I.reads,h])),bound_congr (s:=s) (s':=s') (x:=mx) (fun t h=>ht t (by simp[I.reads,h]))];split at he
   ·rename_i l h k h1 h2 h3;(try simp only);rw[look_slice (fun id h=>hm x id rfl h)];split at he
    ·rename_i hc;rw[if_pos hc]
     cases hs:sliceD S s.m (s.ev x) l h with
     |none=>simp[hs]at he
     |some r=>simp_all
    ·cases he
   ·cases he
 |iaddr S x y=>
  simp only[evalI]at he⊢;rw[ev_congr (s:=s) (s':=s') (x:=x) (fun t h=>ht t (by simp[I.reads,h])),ev_congr (s:=s) (s':=s') (x:=y) (fun t h=>ht t (by simp[I.reads,h]))];split at he
  ·split at he
   ·rename_i k hk;rw[if_pos hk];split at he
    ·repeat' split at he
     all_goals first|(simp_all;done)|(simp only[sn,Bn]at he⊢;obtain⟨_,h1,rfl,rfl⟩:=he;exact⟨rfl,_,h1,by simp⟩)|(simp_all;obtain⟨_,h1,h2,h3⟩:=he;exact⟨h3.symm,_,h1,h2⟩)
    ·rename_i id ver hx;(try simp only);rw[hm x id rfl (by rw[hx];rfl)]
     repeat' split at he
     all_goals first|(simp_all;done)|(simp only[sn,Bn]at he⊢;obtain⟨_,h1,rfl,rfl⟩:=he;exact⟨rfl,_,h1,by simp⟩)|(simp_all;obtain⟨_,h1,h2,h3⟩:=he;exact⟨h3.symm,_,h1,h2⟩)
    ·rename_i id ver lo n hx;(try simp only);rw[hm x id rfl (by rw[hx];rfl)]
     repeat' split at he
     all_goals first|(simp_all;done)|(simp only[sn,Bn]at he⊢;obtain⟨_,h1,rfl,rfl⟩:=he;exact⟨rfl,_,h1,by simp⟩)|(simp_all;obtain⟨_,h1,h2,h3⟩:=he;exact⟨h3.symm,_,h1,h2⟩)
    ·cases he
   ·cases he
  ·cases he
 |load A n x=>
  simp only[evalI]at he⊢;rw[ev_congr (s:=s) (s':=s') (x:=x) (fun t h=>ht t (by simpa [I.reads] using h))];split at he
  ·repeat' split at he
   all_goals simp_all
  ·rename_i id ver idx sub hx;(try simp only);rw[hm x id rfl (by rw[hx];rfl)];split at he
   ·rename_i S ver' l hml;(try simp only);split at he
    ·rename_i hv;rw[if_pos hv];simp only[Ep]at he⊢;obtain⟨e,hl,he⟩:=he;split at he
     ·rename_i hok;simp only[sn,Bn]at he;obtain⟨r,hp,rfl,rfl⟩:=he;exact⟨rfl,e,hl,by rw[if_pos hok,hp];rfl⟩
     ·cases he
    ·cases he
   ·cases he
  ·cases he
 |alloc S z=>simp[I.cls]at hc
 |box S x=>simp[I.cls]at hc
 |bslice S n z ps=>simp[I.cls]at hc
 |mkslice S b z l c=>simp[I.cls]at hc
 |store n x y=>simp[I.cls]at hc
 |append S b x y=>simp[I.cls]at hc
 |fail=>simp[evalI]at he
 |mm b xs=>
  simp only[evalI]at he⊢;rw[map_congr (s:=s) (s':=s') (l:=xs) (fun t h=>ht t (by simpa [I.reads] using h))];split at he
  all_goals first|(simp_all;done)|(simp only[sn,Bn]at he⊢;obtain⟨_,h1,rfl,rfl⟩:=he;exact⟨rfl,_,h1,by simp⟩)|(simp_all;obtain⟨_,h1,h2,h3⟩:=he;exact⟨h3.symm,_,h1,h2⟩)
 |ceq n ks x y=>
  simp only[evalI]at he⊢;rw[ev_congr (s:=s) (s':=s') (x:=x) (fun t h=>ht t (by simp[I.reads,h])),ev_congr (s:=s) (s':=s') (x:=y) (fun t h=>ht t (by simp[I.reads,h]))];split at he
  all_goals first|(simp_all;done)|(simp only[sn,Bn]at he⊢;obtain⟨_,h1,rfl,rfl⟩:=he;exact⟨rfl,_,h1,by simp⟩)|(simp_all;obtain⟨_,h1,h2,h3⟩:=he;exact⟨h3.symm,_,h1,h2⟩)
 |strb S x=>simp[I.cls]at hc
 |trunc S x lo hi=>simp[I.cls]at hc
 |sidx x y=>
  simp only[evalI]at he⊢;rw[ev_congr (s:=s) (s':=s') (x:=x) (fun t h=>ht t (by simp[I.reads,h])),ev_congr (s:=s) (s':=s') (x:=y) (fun t h=>ht t (by simp[I.reads,h]))];split at he
  ·split at he
   ·rename_i hk;rw[dif_pos hk]
    simp_all
   ·cases he
  ·cases he
 |sslice x lo hi=>
  simp only[evalI]at he⊢;rw[ev_congr (s:=s) (s':=s') (x:=x) (fun t h=>ht t (by simp[I.reads,h]))];split at he
  ·rename_i b hb;rw[bound_congr (s:=s) (s':=s') (x:=lo) (fun t h=>ht t (by simp[I.reads,h])),bound_congr (s:=s) (s':=s') (x:=hi) (fun t h=>ht t (by simp[I.reads,h]))];split at he
   ·split at he
    ·rename_i hk
     simp_all
    ·cases he
   ·cases he
  ·cases he
 |mkmap=>simp[I.cls]at hc
 |mput K m k x=>simp[I.cls]at hc
 |mlook K ok z x k=>
  simp only[evalI]at he⊢;rw[ev_congr (s:=s) (s':=s') (x:=x) (fun t h=>ht t (by simp[I.reads,h])),ev_congr (s:=s) (s':=s') (x:=k) (fun t h=>ht t (by simp[I.reads,h]))];split at he
  ·split at he
   ·rename_i hk;rw[if_pos hk];split at he
    ·simp_all
    ·rename_i id hx;(try simp only);rw[hm x id rfl (by rw[hx];rfl)];split at he
     ·split at he
      ·rename_i hall;rw[if_pos hall];split at he<;>simp_all
      ·cases he
     ·cases he
    ·cases he
   ·cases he
  ·cases he
 |mlen x=>
  simp only[evalI]at he⊢;rw[ev_congr (s:=s) (s':=s') (x:=x) (fun t h=>ht t (by simp[I.reads,h]))];split at he
  ·simp_all
  ·rename_i id hx;(try simp only);rw[hm x id rfl (by rw[hx];rfl)];split at he
   ·simp_all
   ·cases he
  ·cases he
def Closed(bs:List (List Nat)) (L:Nat→Bool):Prop:=∀i b,bs[i]?=some b→L i=true→∀e∈b,L e=true
theorem maskOf_bit(acc:List Nat) {L:Nat→Bool}(hacc:∀e,L e=true→∀j,(acc.getD e 0).testBit j=true→L j=true) :
 ∀(b:List Nat) (s:Nat),(∀e∈b,L e=true)→(∀j,s.testBit j=true→L j=true)→∀j,(b.foldl (fun s e=>s ||| 2 ^ e ||| acc.getD e 0) s).testBit j=true→L j=true
 |[],s,_,hs,j,h=>hs j h
 |e::b,s,hb,hs,j,h=>by
  simp only[List.foldl_cons]at h;refine maskOf_bit acc hacc b _ (fun x hx=>hb x (by simp[hx])) (fun k hk=>?_) j h;simp only[Nat.testBit_or,Vo]at hk;rcases hk with(hk|hk)|hk
  ·exact hs k hk
  ·rw[Nat.testBit_two_pow]at hk;have:e=k:=by simpa using hk
   subst this;exact hb e (by simp)
  ·exact hacc e (hb e (by simp)) k hk
theorem masksFrom_bit{bs:List (List Nat)}{L:Nat→Bool}(hL:Closed bs L):∀(k:Nat) (acc:List Nat),acc.length=k→(∀e,L e=true→∀j,(acc.getD e 0).testBit j=true→L j=true)→
 ∀e,L e=true→∀j,((masksFrom acc (bs.drop k)).getD e 0).testBit j=true→L j=true:=by
 intro k;have main:∀(n k:Nat) (acc:List Nat),bs.length-k=n→acc.length=k→(∀e,L e=true→∀j,(acc.getD e 0).testBit j=true→L j=true)→
  ∀e,L e=true→∀j,((masksFrom acc (bs.drop k)).getD e 0).testBit j=true→L j=true:=by
  intro n
  induction n with
  |zero=>
   intro k acc hn hl hacc e he j hj;rw[Gq (by omega)]at hj;exact hacc e he j hj
  |succ n ih=>
   intro k acc hn hl hacc e he j hj;have hk:k<bs.length:=by omega
   rw[Uo hk]at hj;simp only[masksFrom]at hj;refine ih (k+1) (acc++[maskOf acc bs[k]]) (by omega) (by simp[hl]) ?_ e he j hj;intro x hx y hy;rw[Dn,List.getElem?_append]at hy;split at hy
   ·exact hacc x hx y (by rw[Dn];exact hy)
   ·rename_i hlt;by_cases hxk:x=k
    ·subst hxk;rw[hl,Nat.sub_self]at hy;simp only[List.getElem?_cons_zero,cp]at hy;exact maskOf_bit acc hacc _ 0 (fun e' he'=>hL x _ (pn hk) hx e' he') (fun j h=>by simp at h) y hy
    ·rw[Rn (by simp;omega)]at hy;simp at hy
 exact fun acc=>main _ k acc rfl
theorem masks_bit{bs:List (List Nat)}{L:Nat→Bool}(hL:Closed bs L) {e j:Nat}(he:L e=true) (hj:((masks bs).getD e 0).testBit j=true):L j=true:=by
 have:=masksFrom_bit hL 0 [] rfl (fun e _ j h=>by simp at h) e he j;simp only[Lp]at this;exact this hj
end Go.Tm
namespace Go.Tm
open Go.RowKit (Below)
theorem look_some{m:List Ent}{d:D}{n:Nat}(h:lenOfD m d=some n) {id:Nat}(ht:topId d=some id):∃e,m[id]?=some e:=by
 unfold lenOfD at h;split at h<;>simp only[topId,reduceCtorEq,An]at ht
 ·subst ht;split at h
  ·rename_i hm;exact⟨_,hm⟩
  ·cases h
 ·subst ht;split at h
  ·rename_i hm;exact⟨_,hm⟩
  ·cases h
 ·cases h
theorem evalI_looks{s:St}{i:I}{d:D}{m1:List Ent}(he:evalI s i=some (d,m1)) {x:Operand}{id:Nat}(hx:i.at?=some x) (ht:topId (s.ev x)=some id):∃e,s.m[id]?=some e:=by
 cases i<;>simp only[I.at?,reduceCtorEq,An]at hx<;>subst hx
 ·simp only[evalI]at he;split at he
  ·rename_i hx;rw[hx]at ht;cases ht
  ·rename_i hx;rw[hx]at ht;simp only[topId,An]at ht;subst ht;split at he
   ·rename_i hm;exact⟨_,hm⟩
   ·cases he
  ·cases he
 ·simp only[evalI]at he;split at he
  ·rename_i n hn;exact look_some hn ht
  ·cases he
 ·simp only[evalI]at he;split at he
  ·split at he
   ·split at he
    ·rename_i hx;rw[hx]at ht;cases ht
    ·rename_i hx;rw[hx]at ht;simp only[topId,An]at ht;subst ht;split at he
     ·rename_i hm;exact⟨_,hm⟩
     ·cases he
    ·rename_i hx;rw[hx]at ht;simp only[topId,An]at ht;subst ht;split at he
     ·rename_i hm;exact⟨_,hm⟩
     ·cases he
    ·cases he
   ·cases he
  ·cases he
 ·simp only[evalI,sn]at he;obtain⟨n,hn,-⟩:=he;exact look_some hn ht
 ·simp only[evalI]at he;split at he
  ·split at he
   ·split at he
    ·rename_i hx;rw[hx]at ht;cases ht
    ·rename_i hx;rw[hx]at ht;simp only[topId,An]at ht;subst ht;split at he
     ·rename_i hm;exact⟨_,hm⟩
     ·cases he
    ·cases he
   ·cases he
  ·cases he
 ·simp only[evalI]at he;split at he
  ·rename_i hx;rw[hx]at ht;cases ht
  ·rename_i hx;rw[hx]at ht;simp only[topId,An]at ht;subst ht;split at he
   ·rename_i hm;exact⟨_,hm⟩
   ·cases he
  ·cases he
 ·simp only[evalI]at he;split at he
  ·rename_i hx;rw[hx]at ht;cases ht
  ·rename_i hx;rw[hx]at ht;cases ht
  ·rename_i hx;rw[hx]at ht;simp only[topId,An]at ht;subst ht;split at he
   ·rename_i hm;exact⟨_,hm⟩
   ·cases he
  ·cases he
section
variable (dst:Nat→Option Tmp) (dd:Nat→D) (xx:Nat→List Ent) (L:Nat→Bool)
def tS(t0:List D):Nat→List D
 |0=>t0
 |n+1=>if L n then(match dst n with|some y=>(tS t0 n).set y (dd n)|none=>tS t0 n)else tS t0 n
def mS(m0:List Ent):Nat→List Ent
 |0=>m0
 |n+1=>if L n then mS m0 n++xx n else mS m0 n
end
section
variable {dst:Nat→Option Tmp} {dd:Nat→D} {xx:Nat→List Ent} {L:Nat→Bool}
theorem tS_length(t0:List D):∀n,(tS dst dd L t0 n).length=t0.length
 |0=>rfl
 |n+1=>by
  simp only[tS];split
  ·split
   ·simp[tS_length t0 n]
   ·exact tS_length t0 n
  ·exact tS_length t0 n
theorem tS_get(t0:List D) (n y:Nat):(tS dst dd L t0 (n+1)).getD y .dead=if L n=true∧dst n=some y∧y<t0.length then dd n else(tS dst dd L t0 n).getD y .dead:=by
 simp only[tS];by_cases hL:L n=true
 ·rw[if_pos hL]
  cases hd:dst n with
  |none=>simp
  |some z=>
   simp only;rw[Dn,rp];by_cases hz:z=y
   ·subst hz;rw[if_pos rfl,tS_length];by_cases hlt:z<t0.length
    ·simp[hL,hlt]
    ·have h9:(tS dst dd L t0 n).length≤z:=by rw[tS_length];exact Nat.le_of_not_lt hlt
     have hnone:(tS dst dd L t0 n)[z]?=none:=Rn h9;simp[hlt,hnone]
   ·rw[if_neg hz,if_neg (by rintro⟨-,h,-⟩;injection h with h;exact hz h)];rw[Dn]
 ·rw[if_neg hL,if_neg (fun h=>hL h.1)]
theorem tS_reads(t0:List D) {i y:Nat}:∀{q:Nat},i≤q→(∀j,j<q→dst j=some y→(L j=true↔j<i))→(tS dst dd L t0 q).getD y .dead=(tS dst dd (fun _=>true) t0 i).getD y .dead:=by
 have h1:∀n,n≤i→(∀j,j<n→dst j=some y→L j=true)→(tS dst dd L t0 n).getD y .dead=(tS dst dd (fun _=>true) t0 n).getD y .dead:=by
  intro n
  induction n with
  |zero=>intro _ _;rfl
  |succ n ih=>
   intro hn h;rw[tS_get,tS_get,ih (by omega) (fun j hj=>h j (by omega))];by_cases hd:dst n=some y
   ·simp[h n (by omega) hd,hd]
   ·simp[hd]
 intro q
 induction q with
 |zero=>
  intro hi _;have:i=0:=by omega
  subst this;rfl
 |succ q ih=>
  intro hi h;by_cases hq:i=q+1
  ·subst hq;exact h1 (q+1) (En _) fun j hj hd=>(h j hj hd).2 hj
  ·rw[tS_get,if_neg ?_]
   ·exact ih (by omega) fun j hj=>h j (by omega)
   ·rintro⟨hL,hd,-⟩;have:=(h q (by omega) hd).1 hL;omega
theorem mS_prefix(m0:List Ent):∀(q:Nat),(∀i j,i<j→j<q→xx i≠[]→xx j≠[]→L j=true→L i=true)→∃k,k≤q∧mS xx L m0 q=mS xx (fun _=>true) m0 k
 |0,_=>⟨0,En _,rfl⟩
 |q+1,h=>by
  obtain⟨k,hk,he⟩:=mS_prefix m0 q fun i j hij hj=>h i j hij (by omega);by_cases hx:xx q=[]
  ·refine⟨k,by omega,?_⟩;simp only[mS,hx,bo,he,ite_self]
  ·by_cases hL:L q=true
   ·refine⟨q+1,En _,?_⟩;have hall:∀n,n≤q→mS xx L m0 n=mS xx (fun _=>true) m0 n:=by
     intro n
     induction n with
     |zero=>intro _;rfl
     |succ n ih=>
      intro hn;simp only[mS,ih (by omega),if_true];by_cases hxn:xx n=[]
      ·simp[hxn]
      ·rw[if_pos (h n q (by omega) (by omega) hxn hx hL)]
    simp only[mS,hL,if_true,hall q (En _)]
   ·exact⟨k,by omega,by simp only[mS,hL,if_false,tn];exact he⟩
theorem mS_mono(m0:List Ent) {k i:Nat}(h:k≤i):∃r,mS xx (fun _=>true) m0 i=mS xx (fun _=>true) m0 k++r:=by
 induction i with
 |zero=>
  have:k=0:=by omega
  subst this;exact⟨[],by simp⟩
 |succ i ih=>
  by_cases hk:k=i+1
  ·subst hk;exact⟨[],by simp⟩
  ·obtain⟨r,hr⟩:=ih (by omega);exact⟨r++xx i,by simp only[mS,if_true,hr,Mo]⟩
theorem mS_exact(m0:List Ent) {i:Nat}:∀{q:Nat},i≤q→(∀j,j<q→xx j≠[]→(L j=true↔j<i))→mS xx L m0 q=mS xx (fun _=>true) m0 i:=by
 have h1:∀n,n≤i→(∀j,j<n→xx j≠[]→L j=true)→mS xx L m0 n=mS xx (fun _=>true) m0 n:=by
  intro n
  induction n with
  |zero=>intro _ _;rfl
  |succ n ih=>
   intro hn h;simp only[mS,ih (by omega) (fun j hj=>h j (by omega)),if_true];by_cases hxn:xx n=[]
   ·simp[hxn]
   ·rw[if_pos (h n (by omega) hxn)]
 intro q
 induction q with
 |zero=>
  intro hi _;have:i=0:=by omega
  subst this;rfl
 |succ q ih=>
  intro hi h;by_cases hq:i=q+1
  ·subst hq;exact h1 (q+1) (En _) fun j hj hd=>(h j hj hd).2 hj
  ·simp only[mS];by_cases hx:xx q=[]
   ·simp only[hx,bo,ite_self];exact ih (by omega) fun j hj=>h j (by omega)
   ·rw[if_neg ?_]
    ·exact ih (by omega) fun j hj=>h j (by omega)
    ·intro hL;have:=(h q (by omega) hx).1 hL;omega
theorem tS_step(t0:List D) {L':Nat→Bool}{i:Nat}(hi:L i=false) (hL':∀j,L' j=(L j || j==i)):∀{q:Nat},i<q→(∀j,i<j→j<q→∀y,dst i=some y→dst j=some y→L j=false)→
 tS dst dd L' t0 q=(match dst i with|some y=>(tS dst dd L t0 q).set y (dd i)|none=>tS dst dd L t0 q):=by
 have hlow:∀n,n≤i→tS dst dd L' t0 n=tS dst dd L t0 n:=by
  intro n
  induction n with
  |zero=>intro _;rfl
  |succ n ih=>
   intro hn;have:L' n=L n:=by
    rw[hL'];have:(n==i)=false:=by simp;omega
    simp[this]
   simp only[tS,this,ih (by omega)]
 intro q
 induction q with
 |zero=>intro h;omega
 |succ q ih=>
  intro hq hw;by_cases hqi:q=i
  ·subst hqi;have h1:L' q=true:=by rw[hL'];simp
   simp only[tS,h1,if_true,hi,hlow q (En _),tn,if_false]
  ·have h1:L' q=L q:=by
    rw[hL'];have:(q==i)=false:=by simp;omega
    simp[this]
   have ih':=ih (by omega) fun j hj hjq=>hw j hj (by omega);simp only[tS,h1,ih']
   cases hdi:dst i with
   |none=>simp
   |some y=>
    simp only;split
    ·rename_i hLq;split
     ·rename_i z hz;have hne:y≠z:=by
       rintro rfl;have:=hw q (by omega) (by omega) y hdi hz;rw[this]at hLq;cases hLq
      rw[Ss _ _ hne]
     ·rfl
    ·rfl
theorem mS_step(m0:List Ent) {L':Nat→Bool}{i:Nat}(hi:L i=false) (hL':∀j,L' j=(L j || j==i)):∀{q:Nat},i<q→(∀j,i<j→j<q→xx i≠[]→xx j≠[]→L j=false)→
 mS xx L' m0 q=mS xx L m0 q++xx i:=by
 have hlow:∀n,n≤i→mS xx L' m0 n=mS xx L m0 n:=by
  intro n
  induction n with
  |zero=>intro _;rfl
  |succ n ih=>
   intro hn;have:L' n=L n:=by
    rw[hL'];have:(n==i)=false:=by simp;omega
    simp[this]
   simp only[mS,this,ih (by omega)]
 intro q
 induction q with
 |zero=>intro h;omega
 |succ q ih=>
  intro hq hw;by_cases hqi:q=i
  ·subst hqi;have h1:L' q=true:=by rw[hL'];simp
   simp only[mS,h1,if_true,hi,hlow q (En _),tn,if_false]
  ·have h1:L' q=L q:=by
    rw[hL'];have:(q==i)=false:=by simp;omega
    simp[this]
   have ih':=ih (by omega) fun j hj hjq=>hw j hj (by omega);simp only[mS,h1,ih'];split
   ·rename_i hLq;by_cases hxi:xx i=[]
    ·simp[hxi]
    ·by_cases hxq:xx q=[]
     ·simp[hxq]
     ·have:=hw q (by omega) (by omega) hxi hxq;rw[this]at hLq;cases hLq
   ·rfl
end
section
variable {P:Program}
theorem filter_lt{L L':Nat→Bool}{i:Nat}(hi:L i=false) (hL':∀j,L' j=(L j || j==i)):∀{l:List Nat},i∈l→(l.filter fun j=>!L' j).length<(l.filter fun j=>!L j).length
 |[],h=>by cases h
 |a::l,h=>by
  have mono:∀l:List Nat,(l.filter fun j=>!L' j).length≤(l.filter fun j=>!L j).length:=by
   intro l
   induction l with
   |nil=>simp
   |cons b l ih=>
    simp only[Rq,hL' b];cases hb:L b
    ·cases hbi:(b==i)
     ·simp;exact ih
     ·simp;omega
    ·simp;exact ih
  by_cases ha:a=i
  ·subst ha;have h1:L' a=true:=by rw[hL'];simp
   simp only[Rq,h1,hi];have:=mono l;simp;omega
  ·have hin:i∈l:=by
    cases h with
    |head=>exact(ha rfl).elim
    |tail _ h=>exact h
   have ih:=filter_lt hi hL' hin;have h1:L' a=L a:=by
    rw[hL'];have:(a==i)=false:=by simpa using ha
    simp[this]
   simp only[Rq,h1];split
   ·simp;exact ih
   ·exact ih
theorem compOps_get{ops:Array Oper}:∀{l:List Oper}{rl:List RI},compOps P ops l=some rl→rl.length=l.length∧∀(i:Nat) o,l[i]?=some o→∃r,rl[i]?=some r∧compOp P ops o=some r
 |[],rl,h=>by simp[compOps]at h;subst h;simp
 |o::l,rl,h=>by
  simp only[compOps]at h;split at h
  ·rename_i r rs h1 h2;injection h with h;subst h;obtain⟨g1,g2⟩:=compOps_get h2;refine⟨by simp[g1],fun i o' ho=>?_⟩
   cases i with
   |zero=>simp at ho;subst ho;exact⟨r,rfl,h1⟩
   |succ i=>simpa using g2 i o' (by simpa using ho)
  ·cases h
theorem compOp_dst{ops:Array Oper}{o:Oper}{r:RI}(h:compOp P ops o=some r):r.dst=o.dst:=by
 unfold compOp at h;split at h
 ·cases h
 ·split at h
  ·injection h with h;subst h;rfl
  ·simp only[sn]at h;obtain⟨i,-,rfl⟩:=h;rfl
end
end Go.Tm
namespace Go.Tm
open Go.RowKit (Below)
section
variable {P:Program}
theorem regT_op{ops:Array Oper}{Q:Exit→Act→World→Prop}{K:St→Prop}{o:Oper}{r:RI}{rs:List RI}{s:St}{G:Gh}{w:World}{a:Act}(h1:compOp P ops o=some r) (hK:RegT P (r::rs) K s) (hr:Rel G w a s)
 {i:Nat} (hi:ops[i]?=some o) {Kx:Act→World→Prop} (rest:∀{G':Gh} {w':World} {a':Act} {s':St},RegT P rs K s'→Rel G' w' a' s'→Step G w s.m G' w' s'.m→Kx a' w'):wpOp P ops Q i Kx a w:=by
 unfold wpOp;simp only[hi];unfold compOp at h1;split at h1
 ·cases h1
 ·rename_i g hg;obtain⟨hgate1,hgate2⟩:=gate_wanted hr hg;have doI:∀{i:I} {d:D} {m':List Ent},compI' P ops o o.op=some i→evalI s i=some (d,m')→RegT P rs K ({ s with m:=m' }.put o.dst d)→o.wp P a w Kx Q:=by
   intro i d m' hi he hK';exact hr.good (sound_I' hi hr he) fun G' w' u hr' hs'=>rest hK' hr' (by rw[put_m];exact hs')
  have skip:RegT P rs K (s.put o.dst (.v undef))→Kx (a.put o.dst undef) w:=fun hK'=>rest hK' (rel_skip hr o.dst) (by rw[put_m];exact Step.refl _ _ _);split at h1
  ·rename_i f args ho;injection h1 with h1;subst h1;simp only[RegT]at hK;split at hK
   ·rename_i k first caps hfe
    have doC:CallT P k (first++args.map s.ev++caps) s.m (fun d m'=>RegT P rs K ({ s with m:=m' }.put o.dst d))→o.wp P a w Kx Q:=by
     rintro⟨⟨fn,e1,e2,e3⟩,hcall⟩;obtain⟨fs,cs,hrun,hv1,hv2⟩:=run_call hr ho hfe e1 e2 e3;have hcalls:=hcall G w (fs++args.map a.eval++cs) ((hv1.append (vs_map hr _)).append hv2) hr.inv;unfold Oper.wp;rw[hrun,Oper.upon_enter];refine hcalls.mono ?_;rintro e w' ⟨v,d,m',G',rfl,hK',hvd,hi',hs'⟩;exact rest hK' ((hr.step hs'.le hi').put o.dst hvd) (by rw[put_m];exact hs')
    split at hK
    ·exact hK.elim
    ·rename_i hgt;rw[if_pos (hgate1 hgt o rfl)];exact .inl (doC hK)
    ·rename_i c b hgt;rw[hgate2 c b hgt o rfl];by_cases hcb:c=b
     ·rw[if_pos (by simp[hcb])];exact .inl (doC (hK.1 hcb))
     ·rw[if_neg (by simp[hcb])];exact skip (hK.2 hcb)
   ·split at hK
    ·rename_i c b hgt;rw[hgate2 c b hgt o rfl,if_neg (by simp[hK.1])];exact skip hK.2
    ·exact hK.elim
  ·rename_i hno;simp only[sn]at h1;obtain⟨i,hi,rfl⟩:=h1;simp only[RegT]at hK;split at hK
   ·exact hK.elim
   ·rename_i hgt;obtain⟨d,m',he,hK'⟩:=hK;rw[if_pos (hgate1 hgt o rfl)];exact .inl (doI hi he hK')
   ·rename_i c b hgt;rw[hgate2 c b hgt o rfl];by_cases hcb:c=b
    ·obtain⟨d,m',he,hK'⟩:=hK.1 hcb;rw[if_pos (by simp[hcb])];exact .inl (doI hi he hK')
    ·rw[if_neg (by simp[hcb])];exact skip (hK.2 hcb)
theorem getD_set{listed:Array Bool}{i j:Nat}(hi:i<listed.size) (d:Bool):(listed.setIfInBounds i true).getD j d=if j=i then true else listed.getD j d:=by
 simp only[bq,Array.getElem?_setIfInBounds];by_cases h:i=j
 ·subst h;simp[hi]
 ·simp[h,Ne.symm h]
theorem befores_get{ops:Array Oper}{i:Nat}{o:Oper}(h:ops[i]?=some o):(befores ops)[i]?=some ((o.after.toList.filter fun e=>Region.binds .any e).map (·.on)):=by
 unfold befores;rw[Qo,Zn,h];rfl
structure TailFacts (bs:List (List Nat)) (rl:List RI) (q:Nat):Prop where
 len:bs.length=rl.length
 hq:q≤rl.length
 back:∀(i:Nat) b,bs[i]?=some b→∀e∈b,e<i
 tail:∀(i j:Nat),i<j→q≤j→j<rl.length→((masks bs).getD j 0).testBit i=true
theorem tailOk_facts{bs:List (List Nat)}{rl:List RI}{cuts:List Nat}{q:Nat}(h:tailOk bs rl cuts q=true) :
 TailFacts bs rl q∧∀p∈cuts,∀(i j:Nat),i<p→p≤j→j<rl.length→((masks bs).getD j 0).testBit i=true:=by
 unfold tailOk at h;simp only[xn,beq_iff_eq,decide_eq_true_eq,qo,pq,Vo]at h;obtain⟨⟨⟨⟨h0,h1⟩,h2⟩,h3⟩,h4⟩:=h;refine⟨⟨h1,h2,?_,?_⟩,?_⟩
 ·intro i b hb e he;have hi:i<bs.length:=(Mn.1 hb).1;exact h3 i hi e (by rw[Dn,hb];exact he)
 ·intro i j hij hq hj;rcases h4 j hj with h|h
  ·omega
  ·exact h i hij
 ·intro p hp i j hi hj hjn;rcases h0 p hp j hjn with h|h
  ·omega
  ·exact h i hi
structure DrawFacts (bs:List (List Nat)) (rl:List RI) (q:Nat):Prop extends TailFacts bs rl q where
 cls:∀(j:Nat) y,j<q→rl[j]?=some y→y.cls≤2
 apart:∀(i j:Nat) x y,i<j→j<q→rl[i]?=some x→rl[j]?=some y→clash x y=true→((masks bs).getD j 0).testBit i=true
theorem drawOk_facts{bs:List (List Nat)}{rl:List RI}{q:Nat}(h:drawOk bs rl q=true):DrawFacts bs rl q:=by
 unfold drawOk at h;simp only[xn,beq_iff_eq,decide_eq_true_eq,qo,pq]at h;obtain⟨⟨⟨h1,h2⟩,h3⟩,h4⟩:=h;have hy:∀(j:Nat) y,rl[j]?=some y→j<rl.length:=fun j y hj=>(Mn.1 hj).1;refine⟨⟨h1,h2,?_,?_⟩,?_,?_⟩
 rotate_left
 ·intro i j hij hq hj;have:=h4 j hj;rw[pn hj]at this;have hnq:¬j<q:=by omega
  simp only[hnq,if_false,qo,pq]at this;exact this i hij
 rotate_right
 ·intro i b hb e he;have hi:i<bs.length:=(Mn.1 hb).1;have:=h3 i hi e (by rw[Dn,hb];exact he);exact this
 ·intro j y hj hyj;have:=h4 j (hy j y hyj);rw[hyj]at this;simp only[hj,if_true,xn,decide_eq_true_eq]at this;exact this.1
 ·intro i j x y hij hj hx hyj hcl;have:=h4 j (hy j y hyj);rw[hyj]at this;simp only[hj,if_true,xn,decide_eq_true_eq,qo,pq]at this;have:=this.2 i hij;rw[hx]at this;simpa [hcl] using this
section
variable {ops:Array Oper} {Q:Exit→Act→World→Prop} {K:St→Prop} {rl:List RI} {q:Nat}
def lset(listed:Array Bool):Nat→Bool:=fun i=>listed.getD i false
theorem ready_facts(hf:TailFacts (befores ops) rl q) {listed:Array Bool}(hsz:listed.size=ops.size) (hcl:Closed (befores ops) (lset listed)) {i:Nat}(hi:i∈Region.ready .any ops listed) :
 i<ops.size∧lset listed i=false∧(∀j,j≠i→((masks (befores ops)).getD i 0).testBit j=true→lset listed j=true)∧Closed (befores ops) (lset (listed.setIfInBounds i true))∧
 (∀j,lset (listed.setIfInBounds i true) j=(lset listed j || j==i)):=by
 obtain⟨h0,o,ho,hall⟩:=mem_ready.1 hi;have hlt:i<ops.size:=(Array.getElem?_eq_some_iff.1 ho).1;have hnot:lset listed i=false:=by
  unfold lset;simp only[bq]at h0⊢;rw[Yn (by omega)]at h0⊢;simpa using h0
 have hset:∀j,lset (listed.setIfInBounds i true) j=(lset listed j || j==i):=by
  intro j;unfold lset;rw[getD_set (by omega)];by_cases h:j=i<;>simp[h]
 have hcl':Closed (befores ops) (lset (listed.setIfInBounds i true)):=by
  intro j b hb hj e he;rw[hset]at hj⊢;simp only[Vo,beq_iff_eq]at hj⊢;rcases hj with hj|hj
  ·exact .inl (hcl j b hb hj e he)
  ·subst hj;have hbo:=befores_get ho;rw[hb]at hbo;injection hbo with hbo;subst hbo;simp only[Yp,wq,Tr]at he;obtain⟨ed,⟨h1,h2⟩,rfl⟩:=he;exact .inl (hall ed h1 h2)
 refine⟨hlt,hnot,fun j hne hj=>?_,hcl',hset⟩;have:=masks_bit hcl' (e:=i) (by rw[hset];simp) hj;rw[hset]at this;simp only[Vo,beq_iff_eq]at this;rcases this with h|h
 ·exact h
 ·exact(hne h).elim
theorem least_ready(hf:TailFacts (befores ops) rl q) {listed:Array Bool}(hsz:listed.size=ops.size) (hno:Region.ready .any ops listed=[]):∀i,i<ops.size→lset listed i=true:=by
 intro i
 induction i using Sr with
 |_ i ih=>
  intro hi;rcases hb:lset listed i with _|_
  ·exfalso;have:i∈Region.ready .any ops listed:=by
    refine mem_ready.2 ⟨?_,ops[i],Yn hi,fun e he hbi=>?_⟩
    ·unfold lset at hb;simp only[bq]at hb⊢;rw[Yn (by omega)]at hb⊢;simpa using hb
    ·have hbo:=befores_get (Yn hi);have hlt:=hf.back i _ hbo e.on (by
      simp only[Yp,wq,Tr];exact⟨e,⟨he,hbi⟩,rfl⟩)
     exact ih e.on hlt (by omega)
   rw[hno]at this;cases this
  ·rfl
theorem draw_tail(hc:compOps P ops ops.toList=some rl) (hf:TailFacts (befores ops) rl q) :
 ∀(n r:Nat) (fuel:Nat) (listed:Array Bool) (s:St) (G:Gh) (w:World) (a:Act),ops.size-r=n→n≤fuel→q≤r→r≤ops.size→listed.size=ops.size→(∀i,lset listed i=decide (i<r))→
  RegT P (rl.drop r) K s→Rel G w a s→(∀s' G' w' a',K s'→Rel G' w' a' s'→Step G w s.m G' w' s'.m→Q .normal a' w')→wpAny P .any ops Q fuel listed a w:=by
 obtain⟨hlen,hget⟩:=compOps_get hc;simp only[Ao]at hlen;have hclosed:∀(r:Nat) (L:Nat→Bool),(∀i,L i=decide (i<r))→Closed (befores ops) L:=by
  intro r L hL i b hb hi e he;have:=hf.back i b hb e he;rw[hL]at hi⊢;simp at hi⊢;omega
 intro n
 induction n with
 |zero=>
  intro r fuel listed s G w a hn hfuel hq hr hsz hL hK hrel hQ;have hrn:r=ops.size:=by omega
  have hnone:Region.ready .any ops listed=[]:=by
   cases hre:Region.ready .any ops listed with
   |nil=>rfl
   |cons i l=>
    obtain⟨h1,h2,-⟩:=ready_facts hf hsz (hclosed r _ hL) (i:=i) (by rw[hre];simp);rw[hL]at h2;simp at h2;omega
  rw[Gq (by omega)]at hK;have hend:=hQ s G w a hK hrel (Step.refl _ _ _)
  cases fuel with
  |zero=>exact⟨hnone,hend⟩
  |succ fuel=>exact⟨fun _=>hend,fun i hi=>by rw[hnone]at hi;cases hi⟩
 |succ n ih=>
  intro r fuel listed s G w a hn hfuel hq hr hsz hL hK hrel hQ
  cases fuel with
  |zero=>omega
  |succ fuel=>
   have hrlt:r<ops.size:=by omega
   refine⟨fun hno=>?_,fun i hi=>?_⟩
   ·have:=least_ready hf hsz hno r hrlt;rw[hL]at this;simp at this
   ·obtain⟨h1,h2,h3,h4,h5⟩:=ready_facts hf hsz (hclosed r _ hL) hi;have hir:i=r:=by
     rw[hL]at h2;simp at h2;rcases vo r i with h|h
     ·have:=h3 r (by omega) (hf.tail r i h (by omega) (by omega));rw[hL]at this;simp at this
     ·omega
    subst hir;have ho:ops[i]?=some ops[i]:=Yn h1;obtain⟨ri,hri,hco⟩:=hget i ops[i] (by rw[Zn];exact ho);have hri':rl.drop i=ri::rl.drop (i+1):=by
     have hlt:i<rl.length:=(Mn.1 hri).1;rw[Uo hlt];congr 1;exact(Mn.1 hri).2
    rw[hri']at hK;refine regT_op hco hK hrel ho fun hK' hrel' hs'=>?_;refine ih (i+1) fuel (listed.setIfInBounds i true) _ _ _ _ (by omega) (by omega) (by omega) (by omega) (by simp[hsz]) (fun j=>?_) hK' hrel' fun s'' G'' w'' a'' k1 k2 k3=>hQ s'' G'' w'' a'' k1 k2 (hs'.trans k3);rw[h5,hL];rw[Bool.eq_iff_iff];simp;omega
theorem tS_congr{dst:Nat→Option Tmp}{dd:Nat→D}{L L':Nat→Bool}(t0:List D):∀n,(∀j,j<n→L j=L' j)→tS dst dd L t0 n=tS dst dd L' t0 n
 |0,_=>rfl
 |n+1,h=>by simp only[tS,h n (by omega),tS_congr t0 n fun j hj=>h j (by omega)]
theorem mS_congr{xx:Nat→List Ent}{L L':Nat→Bool}(m0:List Ent):∀n,(∀j,j<n→L j=L' j)→mS xx L m0 n=mS xx L' m0 n
 |0,_=>rfl
 |n+1,h=>by simp only[mS,h n (by omega),mS_congr m0 n fun j hj=>h j (by omega)]
theorem count_tail(q:Nat):∀n,((wo n).filter fun j=>!decide (j<q)).length=n-q
 |0=>by simp
 |n+1=>by
  rw[List.range_succ,List.filter_append,uo,count_tail q n];by_cases h:n<q
  ·simp[h];omega
  ·simp[h];omega
theorem getD_some{l:List RI}{i:Nat}(h:i<l.length) (d:RI):l[i]?=some (l.getD i d):=by
 rw[Dn,pn h];rfl
end
end
end Go.Tm
namespace Go.Tm
section
variable {P:Program} {N:Nat}
theorem regT_mono{K K':St→Prop}(h:∀s,K s→K' s):∀{l:List RI}{s:St},RegT P l K s→RegT P l K' s
 |[],s,hk=>h s hk
 |.op dst g i::l,s,hk=>by
  simp only[RegT]at hk⊢;split at hk
  ·exact hk.elim
  ·obtain⟨d,m',h1,h2⟩:=hk;exact⟨d,m',h1,regT_mono h h2⟩
  ·refine⟨fun e=>?_,fun e=>regT_mono h (hk.2 e)⟩;obtain⟨d,m',h1,h2⟩:=hk.1 e;exact⟨d,m',h1,regT_mono h h2⟩
 |.call dst g f args::l,s,hk=>by
  simp only[RegT]at hk⊢;split at hk
  ·split at hk
   ·exact hk.elim
   ·exact hk.mono fun _ _ h2=>regT_mono h h2
   ·exact⟨fun e=>(hk.1 e).mono fun _ _ h2=>regT_mono h h2,fun e=>regT_mono h (hk.2 e)⟩
  ·split at hk
   ·exact⟨hk.1,regT_mono h hk.2⟩
   ·exact hk.elim
section
variable {ops:Array Oper} {Q:Exit→Act→World→Prop} {K:St→Prop} {rl:List RI} {q:Nat}
end
end
end Go.Tm
namespace Go.Tm
section
variable (ww:Nat→Option (Nat×Ent)) (L:Nat→Bool)
def sS(m:List Ent):Nat→List Ent
 |0=>m
 |n+1=>if L n then(match ww n with|some (id,e)=>(sS m n).set id e|none=>sS m n)else sS m n
def lastW(id:Nat):Nat→Option Ent
 |0=>none
 |n+1=>if L n then(match ww n with|some (j,e)=>if j=id then some e else lastW id n|none=>lastW id n)else lastW id n
end
section
variable {ww:Nat→Option (Nat×Ent)} {L:Nat→Bool}
theorem sS_length(m:List Ent):∀n,(sS ww L m n).length=m.length
 |0=>rfl
 |n+1=>by
  simp only[sS]
  repeat' split
  all_goals simp[sS_length m n]
theorem sS_get(m:List Ent) (id:Nat):∀n,id<m.length→(sS ww L m n)[id]?=(match lastW ww L id n with|some e=>some e|none=>m[id]?)
 |0,h=>rfl
 |n+1,h=>by
  simp only[sS,lastW];split
  ·split
   ·rename_i j e hw;rw[rp];by_cases hj:j=id
    ·subst hj;rw[if_pos rfl,if_pos rfl,if_pos (by rw[sS_length];exact h)]
    ·rw[if_neg hj,if_neg hj];exact sS_get m id n h
   ·exact sS_get m id n h
  ·exact sS_get m id n h
theorem lastW_same{id i:Nat}:∀{q:Nat},i≤q→(∀j,j<q→∀e,ww j=some (id,e)→(L j=true↔j<i))→lastW ww L id q=lastW ww (fun _=>true) id i:=by
 have h1:∀n,n≤i→(∀j,j<n→∀e,ww j=some (id,e)→L j=true)→lastW ww L id n=lastW ww (fun _=>true) id n:=by
  intro n
  induction n with
  |zero=>intro _ _;rfl
  |succ n ih=>
   intro hn h;have ih':=ih (by omega) fun j hj=>h j (by omega);simp only[lastW,if_true]
   cases hw:ww n with
   |none=>simp[ih']
   |some p=>
    obtain⟨j,e⟩:=p;simp only;by_cases hj:j=id
    ·subst hj;rw[if_pos (h n (by omega) e hw)];simp
    ·simp[hj,ih']
 intro q
 induction q with
 |zero=>
  intro hi h;have h0:i=0:=by omega
  subst h0;rfl
 |succ q ih=>
  intro hi h;by_cases hq:i=q+1
  ·subst hq;exact h1 _ (En _) fun j hj e he=>(h j hj e he).2 hj
  ·rw[←ih (by omega) fun j hj=>h j (by omega)];simp only[lastW];split
   ·rename_i hL
    cases hw:ww q with
    |none=>rfl
    |some p=>
     obtain⟨j,e⟩:=p;simp only;by_cases hj:j=id
     ·subst hj;have:=(h q (by omega) e hw).1 hL;omega
     ·rw[if_neg hj]
   ·rfl
theorem sS_app(m x:List Ent):∀n,(∀j,j<n→L j=true→∀id e,ww j=some (id,e)→id<m.length)→sS ww L (m++x) n=sS ww L m n++x
 |0,_=>rfl
 |n+1,h=>by
  have ih:=sS_app m x n fun j hj=>h j (by omega);simp only[sS];split
  ·rename_i hL;split
   ·rename_i id e hw;rw[ih,List.set_append_left _ _ (by rw[sS_length];exact h n (by omega) hL id e hw)]
   ·exact ih
  ·exact ih
theorem sS_step(m:List Ent) {L':Nat→Bool}{i:Nat}(hi:L i=false) (hL':∀j,L' j=(L j || j==i)):∀{q:Nat},i<q→(∀j,i<j→j<q→L j=true→∀id e e',ww i=some (id,e)→ww j≠some (id,e'))→
 sS ww L' m q=(match ww i with|some (id,e)=>(sS ww L m q).set id e|none=>sS ww L m q):=by
 have hlow:∀n,n≤i→sS ww L' m n=sS ww L m n:=by
  intro n
  induction n with
  |zero=>intro _;rfl
  |succ n ih=>
   intro hn;have:L' n=L n:=by
    rw[hL'];have:(n==i)=false:=by simp;omega
    simp[this]
   simp only[sS,this,ih (by omega)]
 intro q
 induction q with
 |zero=>intro h;omega
 |succ q ih=>
  intro hq hw;by_cases hqi:q=i
  ·subst hqi;have h1:L' q=true:=by rw[hL'];simp
   simp only[sS,h1,if_true,hi,hlow q (En _),tn,if_false]
  ·have h1:L' q=L q:=by
    rw[hL'];have:(q==i)=false:=by simp;omega
    simp[this]
   have ih':=ih (by omega) fun j hj hjq=>hw j hj (by omega);simp only[sS,h1,ih']
   cases hdi:ww i with
   |none=>simp
   |some p=>
    obtain⟨id,e⟩:=p;simp only;split
    ·rename_i hLq;split
     ·rename_i id' e' hz;have hne:id≠id':=by
       rintro rfl;exact hw q (by omega) (by omega) hLq id e e' hdi hz
      rw[Ss _ _ hne]
     ·rfl
    ·rfl
end
def I.tgt:I→Option Operand
 |.store _ x _=>some x
 |.trunc _ x _ _=>some x
 |.append _ _ x _=>some x
 |_=>none
def I.src:I→Option Operand
 |.append _ _ _ y=>some y
 |_=>none
def setB(s:St):I→Bool
 |.trunc _ x _ _=>match s.ev x with|.own ..=>true|_=>false
 |.append _ _ x _=>match s.ev x with|.own ..=>true|_=>false
 |_=>true
theorem tgt_cls{i:I}{x:Operand}(h:i.tgt=some x):i.cls=3∧((∃n y,i=.store n x y)∨(∃S lo hi,i=.trunc S x lo hi)∨∃S b y,i=.append S b x y):=by
 cases i<;>simp[I.tgt]at h
 ·subst h;exact⟨rfl,.inl ⟨_,_,rfl⟩⟩
 ·subst h;exact⟨rfl,.inr (.inr ⟨_,_,_,rfl⟩)⟩
 ·subst h;exact⟨rfl,.inr (.inl ⟨_,_,_,rfl⟩)⟩
theorem evalI_set1{s:St}{n:Nat}{x y:Operand}{d:D}{m1:List Ent}(he:evalI s (.store n x y)=some (d,m1)) :
 ∃id e,topId (s.ev x)=some id∧m1=s.m.set id e∧(∃e0,s.m[id]?=some e0)∧
  ∀s':St,(∀t∈(I.store n x y).reads,s'.t.getD t .dead=s.t.getD t .dead)→s'.m[id]?=s.m[id]?→evalI s' (.store n x y)=some (d,s'.m.set id e):=by
 simp only[evalI]at he;split at he
 ·rename_i id ver ix sub hx;split at he
  ·rename_i S ver' l hm;split at he
   ·rename_i hc;simp only[Ep]at he;obtain⟨d0,h0,he⟩:=he;split at he
    ·rename_i hc2;injection he with he;injection he with h1 h2;subst h1;subst h2;refine⟨id,_,by rw[hx];rfl,rfl,⟨_,hm⟩,fun s' ht hm'=>?_⟩;have ex:s'.ev x=s.ev x:=ev_congr (fun t h=>ht t (by simp[I.reads,h]));have ey:s'.ev y=s.ev y:=ev_congr (fun t h=>ht t (by simp[I.reads,h]));simp only[evalI,ex,hx,hm',hm,ey];rw[if_pos hc];simp only[h0,Option.bind_some];rw[if_pos hc2]
    ·cases he
   ·cases he
  ·cases he
 ·cases he
theorem evalI_set2{s:St}{S:Nat}{x:Operand}{lo hi:Option Operand}{d:D}{m1:List Ent}(hb:setB s (.trunc S x lo hi)=true) (he:evalI s (.trunc S x lo hi)=some (d,m1)) :
 ∃id e,topId (s.ev x)=some id∧m1=s.m.set id e∧(∃e0,s.m[id]?=some e0)∧
  ∀s':St,(∀t∈(I.trunc S x lo hi).reads,s'.t.getD t .dead=s.t.getD t .dead)→s'.m[id]?=s.m[id]?→evalI s' (.trunc S x lo hi)=some (d,s'.m.set id e):=by
 simp only[setB]at hb;split at hb
 ·rename_i id ver hx;simp only[evalI,hx]at he;split at he
  ·rename_i S' ver' l hm;split at he
   ·rename_i a h hlo hhi;split at he
    ·rename_i hc;injection he with he;injection he with h1 h2;subst h1;subst h2;refine⟨id,_,by rw[hx];rfl,rfl,⟨_,hm⟩,fun s' ht hm'=>?_⟩;have ex:s'.ev x=s.ev x:=ev_congr (fun t h=>ht t (by simp[I.reads,h]));have e1:bound s' 0 lo=bound s 0 lo:=bound_congr (fun t h=>ht t (by simp[I.reads,h]));have e2:bound s' l.length hi=bound s l.length hi:=bound_congr (fun t h=>ht t (by simp[I.reads,h]));simp only[evalI,ex,hx,hm',hm,e1,e2,hlo,hhi];rw[if_pos hc]
    ·cases he
   ·cases he
  ·cases he
 ·cases hb
theorem contents_congr{S:Nat}{m m':List Ent}{d:D}(h:∀id,topId d=some id→m'[id]?=m[id]?):contents S m' d=contents S m d:=by
 cases d with
 |own id v=>simp only[contents];rw[h _ rfl]
 |view id v a b=>simp only[contents];rw[h _ rfl]
 |v x=>simp only[contents];split<;>simp_all
 |_=>rfl
theorem evalI_set3{s:St}{S b:Nat}{x y:Operand}{d:D}{m1:List Ent}(hb:setB s (.append S b x y)=true) (he:evalI s (.append S b x y)=some (d,m1)) :
 ∃id e,topId (s.ev x)=some id∧m1=s.m.set id e∧(∃e0,s.m[id]?=some e0)∧
  ∀s':St,(∀t∈(I.append S b x y).reads,s'.t.getD t .dead=s.t.getD t .dead)→s'.m[id]?=s.m[id]?→(∀id',topId (s.ev y)=some id'→s'.m[id']?=s.m[id']?)→evalI s' (.append S b x y)=some (d,s'.m.set id e):=by
 simp only[setB]at hb;split at hb
 ·rename_i id ver hx;simp only[evalI,hx]at he;split at he
  ·rename_i r hr;split at he
   ·rename_i S' ver' l hm;split at he
    ·rename_i hc;injection he with he;injection he with h1 h2;subst h1;subst h2;refine⟨id,_,by rw[hx];rfl,rfl,⟨_,hm⟩,fun s' ht hm' hs=>?_⟩;have ex:s'.ev x=s.ev x:=ev_congr (fun t h=>ht t (by simp[I.reads,h]));have ey:s'.ev y=s.ev y:=ev_congr (fun t h=>ht t (by simp[I.reads,h]));simp only[evalI,ex,hx,hm',hm,ey,contents_congr hs,hr];rw[if_pos hc]
    ·cases he
   ·cases he
  ·cases he
 ·cases hb
theorem evalI_set{s:St}{i:I}{x:Operand}{d:D}{m1:List Ent}(ht:i.tgt=some x) (hb:setB s i=true) (he:evalI s i=some (d,m1)) :
 ∃id e,topId (s.ev x)=some id∧m1=s.m.set id e∧(∃e0,s.m[id]?=some e0)∧
  (∀s':St,(∀t∈i.reads,s'.t.getD t .dead=s.t.getD t .dead)→s'.m[id]?=s.m[id]?→(∀y,i.src=some y→∀id',topId (s.ev y)=some id'→s'.m[id']?=s.m[id']?)→evalI s' i=some (d,s'.m.set id e)):=by
 rcases(tgt_cls ht).2 with⟨n,y,rfl⟩|⟨S,lo,hi,rfl⟩|⟨S,b,y,rfl⟩
 ·obtain⟨id,e,h1,h2,h3,h4⟩:=evalI_set1 he;exact⟨id,e,h1,h2,h3,fun s' k1 k2 _=>h4 s' k1 k2⟩
 ·obtain⟨id,e,h1,h2,h3,h4⟩:=evalI_set2 hb he;exact⟨id,e,h1,h2,h3,fun s' k1 k2 _=>h4 s' k1 k2⟩
 ·obtain⟨id,e,h1,h2,h3,h4⟩:=evalI_set3 hb he;exact⟨id,e,h1,h2,h3,fun s' k1 k2 k3=>h4 s' k1 k2 (k3 y rfl)⟩
theorem evalI_looksS{s:St}{i:I}{y:Operand}{d:D}{m1:List Ent}(hs:i.src=some y) (he:evalI s i=some (d,m1)) {id:Nat}(h:topId (s.ev y)=some id):∃e,s.m[id]?=some e:=by
 obtain⟨S,b,x,rfl⟩:∃S b x,i=.append S b x y:=by cases i<;>simp[I.src]at hs;subst hs;exact⟨_,_,_,rfl⟩
 simp only[evalI]at he;split at he
 ·rename_i r hr
  cases hy:s.ev y with
  |own a b=>rw[hy]at h hr;simp only[topId,An]at h;subst h;simp only[contents]at hr;split at hr<;>first|exact⟨_,by assumption⟩|cases hr
  |view a b c e=>rw[hy]at h hr;simp only[topId,An]at h;subst h;simp only[contents]at hr;split at hr<;>first|exact⟨_,by assumption⟩|cases hr
  |ref a b c e=>rw[hy]at hr;simp[contents]at hr
  |mp a=>rw[hy]at hr;simp[contents]at hr
  |_=>rw[hy]at h;simp[topId]at h
 ·cases he
theorem tgt_reads{i:I}{x:Operand}(ht:i.tgt=some x):∀t∈tmpOf x,t∈i.reads:=by
 rcases(tgt_cls ht).2 with⟨n,y,rfl⟩|⟨S,lo,hi,rfl⟩|⟨S,b,y,rfl⟩<;>intro t h<;>simp[I.reads,h]
theorem tgt_at{i:I}{x:Operand}(ht:i.tgt=some x):i.at?=none:=by
 rcases(tgt_cls ht).2 with⟨n,y,rfl⟩|⟨S,lo,hi,rfl⟩|⟨S,b,y,rfl⟩<;>rfl
theorem evalI_make'{s s':St}{i:I}{d:D}(hc:i.cls=2) (ht:∀t∈i.reads,s'.t.getD t .dead=s.t.getD t .dead) (hm:s'.m.length=s.m.length) {m1:List Ent}(he:evalI s i=some (d,m1)) :
 ∃e,m1=s.m++[e]∧evalI s' i=some (d,s'.m++[e]):=by
 cases i with
 |alloc S z=>
  simp only[evalI,An,Bn]at he⊢;exact⟨_,he.2.symm,by rw[hm];exact he.1,rfl⟩
 |box S x=>
  simp only[evalI]at he⊢;rw[ev_congr (s:=s) (s':=s') (x:=x) (fun t h=>ht t (by simpa [I.reads] using h))];split at he
  ·rename_i hc;rw[if_pos hc];injection he with he;injection he with h1 h2;exact⟨_,h2.symm,by rw[hm,h1]⟩
  ·cases he
 |bslice S n z ps=>
  simp only[evalI]at he⊢;rw[bsliceD_congr (s:=s) (s':=s') (fun t h=>ht t (by simpa [I.reads] using h))];simp only[sn,Bn]at he;obtain⟨l,h1,h2,h3⟩:=he;exact⟨_,h3.symm,by rw[h1,hm,←h2];rfl⟩
 |mkslice S b z l c=>
  simp only[evalI]at he⊢;rw[ev_congr (s:=s) (s':=s') (x:=l) (fun t h=>ht t (by simp[I.reads,h])),ev_congr (s:=s) (s':=s') (x:=c) (fun t h=>ht t (by simp[I.reads,h]))];split at he
  ·split at he
   ·rename_i hc;rw[if_pos hc];injection he with he;injection he with h1 h2;exact⟨_,h2.symm,by rw[hm,h1]⟩
   ·cases he
  ·cases he
 |mkmap=>
  simp only[evalI,An,Bn]at he⊢;exact⟨_,he.2.symm,by rw[hm];exact he.1,rfl⟩
 |_=>simp[I.cls]at hc
mutual
def idsD:D→List Nat
 |.agg l=>idsDs l
 |.tup l=>idsDs l
 |.sl _ l=>idsDs l
 |.pt d=>idsD d
 |.fn _ a b=>idsDs a++idsDs b
 |.ifc _ d=>idsD d
 |.own id _=>[id]
 |.view id _ _ _=>[id]
 |.ref id _ _ _=>[id]
 |.mp id=>[id]
 |.v _=>[]
 |.dead=>[]
def idsDs:List D→List Nat
 |[]=>[]
 |d::l=>idsD d++idsDs l
end
mutual
theorem id_free:∀{d:D},idfree d=true→idsD d=[]
 |.v _,_=>rfl
 |.agg l,h=>by simp only[idfree]at h;simp only[idsD,ids_free h]
 |.tup l,h=>by simp only[idfree]at h;simp only[idsD,ids_free h]
 |.sl _ l,h=>by simp only[idfree]at h;simp only[idsD,ids_free h]
 |.pt d,h=>by simp only[idfree]at h;simp only[idsD,id_free h]
 |.fn _ a b,h=>by simp only[idfree,xn]at h;simp only[idsD,ids_free h.1,ids_free h.2,bo]
 |.ifc _ d,h=>by simp only[idfree]at h;simp only[idsD,id_free h]
 |.own ..,h=>by simp[idfree]at h
 |.view ..,h=>by simp[idfree]at h
 |.ref ..,h=>by simp[idfree]at h
 |.mp _,h=>by simp[idfree]at h
 |.dead,_=>rfl
theorem ids_free:∀{l:List D},idfrees l=true→idsDs l=[]
 |[],_=>rfl
 |d::l,h=>by simp only[idfrees,xn]at h;simp only[idsDs,id_free h.1,ids_free h.2,bo]
end
def topsD(s:St):List Operand→List Nat
 |[]=>[]
 |x::l=>idsD (s.ev x)++topsD s l
theorem topsD_map{s:St}:∀{l:List Operand},topsD s l=idsDs (l.map s.ev)
 |[]=>rfl
 |x::l=>by simp only[topsD,Vn,idsDs,topsD_map (l:=l)]
mutual
theorem idsD_lt{G:Gh}{w:World}{id:Nat}:∀{d:D}{u:Value},VRel G w d u→id∈idsD d→id<G.n
 |.v x,u,h,hi=>by simp[idsD]at hi
 |.agg l,u,h,hi=>by
  simp only[VRel]at h;simp only[idsD]at hi;obtain⟨cs,rfl,h,-⟩:=h;exact idsDs_lt h hi
 |.tup l,u,h,hi=>by
  simp only[VRel]at h;simp only[idsD]at hi;obtain⟨cs,rfl,h⟩:=h;exact idsDs_lt h hi
 |.sl S l,u,h,hi=>by
  simp only[VRel]at h;simp only[idsD]at hi;obtain⟨a,n,c,rfl,-,-,h|⟨b,off,rfl,-,h⟩⟩:=h
  ·subst h;simp[idsDs]at hi
  ·exact idsRow_lt h hi
 |.pt d,u,h,hi=>by
  simp only[VRel]at h;simp only[idsD]at hi;obtain⟨b,off,x,rfl,-,h,-⟩:=h;exact idsD_lt h hi
 |.ref a b c e,u,h,hi=>by
  simp only[VRel]at h;simp only[idsD,Xo]at hi;obtain⟨_,_,h,_⟩:=h;omega
 |.own a b,u,h,hi=>by
  simp only[VRel]at h;simp only[idsD,Xo]at hi;obtain⟨_,_,_,_,h,_⟩:=h;omega
 |.view a b c e,u,h,hi=>by
  simp only[VRel]at h;simp only[idsD,Xo]at hi;obtain⟨_,_,_,_,h,_⟩:=h;omega
 |.fn f a b,u,h,hi=>by
  simp only[VRel]at h;simp only[idsD,Fo]at hi;obtain⟨fs,cs,rfl,h1,h2⟩:=h;rcases hi with hi|hi
  ·exact idsDs_lt h1 hi
  ·exact idsDs_lt h2 hi
 |.mp a,u,h,hi=>by
  simp only[VRel]at h;simp only[idsD,Xo]at hi;obtain⟨_,_,h,_⟩:=h;omega
 |.ifc t d,u,h,hi=>by
  simp only[VRel]at h;simp only[idsD]at hi;obtain⟨x,rfl,h⟩:=h;exact idsD_lt h hi
 |.dead,u,h,hi=>by simp[idsD]at hi
theorem idsDs_lt{G:Gh}{w:World}{id:Nat}:∀{l:List D}{us:List Value},VsRel G w l us→id∈idsDs l→id<G.n
 |[],us,h,hi=>by simp[idsDs]at hi
 |d::l,us,h,hi=>by
  simp only[VsRel]at h;simp only[idsDs,Fo]at hi;obtain⟨u,r,rfl,h1,h2⟩:=h;rcases hi with hi|hi
  ·exact idsD_lt h1 hi
  ·exact idsDs_lt h2 hi
theorem idsRow_lt{G:Gh}{w:World}{id b S:Nat}:∀{l:List D}{off:Nat},RowAt G w b S l off→id∈idsDs l→id<G.n
 |[],off,h,hi=>by simp[idsDs]at hi
 |d::l,off,h,hi=>by
  simp only[RowAt]at h;simp only[idsDs,Fo]at hi;obtain⟨⟨u,h1,-⟩,h2⟩:=h;rcases hi with hi|hi
  ·exact idsD_lt h1 hi
  ·exact idsRow_lt h2 hi
end
def tops(s:St):List Operand→List Nat
 |[]=>[]
 |x::l=>match topId (s.ev x)with|some id=>id::tops s l|none=>tops s l
def rid(s:St):RI→List Nat
 |.op _ _ i=>
  match i.at? with
  |some x=>tops s [x]
  |none=>match i.tgt with|some x=>tops s (x::i.src.toList)|none=>[]
 |.call _ _ _ args=>topsD s args
theorem tops_hd{s:St}{x:Operand}{l:List Operand}{id:Nat}(h:topId (s.ev x)=some id):id∈tops s (x::l):=by simp[tops,h]
theorem tops_tl{s:St}{x:Operand}{l:List Operand}{id:Nat}(h:id∈tops s l):id∈tops s (x::l):=by simp only[tops];split<;>simp[h]
theorem tops_one{s:St}{x:Operand}{id:Nat}(h:topId (s.ev x)=some id):id∈tops s [x]:=by simp[tops,h]
abbrev Os:=List (D×List Ent×Option (Nat×Ent))
def os0:D×List Ent×Option (Nat×Ent):=(.dead,[],none)
def ri0:RI:=.op none none (.mv (.const undef))
def FloStep2(P:Program) (r:RI) (s:St) (d:D) (x:List Ent) (w:Option (Nat×Ent)):Prop:=
 match r with
 |.op _ g i=>((gate s g=some none∨∃c,gate s g=some (some (c,c)))∧
  ((w=none∧i.cls≤2∧evalI s i=some (d,s.m++x))∨(x=[]∧∃a id e,i.tgt=some a∧topId (s.ev a)=some id∧w=some (id,e)∧evalI s i=some (d,s.m.set id e)∧id<s.m.length∧setB s i=true)))∨
  ((∃c b,gate s g=some (some (c,b))∧c≠b)∧d=.v undef∧x=[]∧w=none)
 |.call _ g f args=>x=[]∧w=none∧
  ((∃k first caps,s.cv f=.fn k first caps∧(gate s g=some none∨∃c,gate s g=some (some (c,c)))∧(∀id∈topsD s args,id<s.m.length)∧∀m,(∀id∈topsD s args,m[id]?=s.m[id]?)→CallT P k (first++args.map s.ev++caps) m fun d' m'=>d'=d∧m'=m)∨((∃c b,gate s g=some (some (c,b))∧c≠b)∧d=.v undef))
def wr(m:List Ent) (w:Option (Nat×Ent)):List Ent:=match w with|some (id,e)=>m.set id e|none=>m
def after2(s:St) (r:RI) (d:D) (x:List Ent) (w:Option (Nat×Ent)):St:=({ s with m:=wr s.m w++x }:St).put r.dst d
theorem after2_t(s:St) (r:RI) (d:D) (x:List Ent) (w:Option (Nat×Ent)):after2 s r d x w=⟨(match r.dst with|some y=>s.t.set y d|none=>s.t),wr s.m w++x⟩:=by
 unfold after2 St.put;cases r.dst<;>rfl
section
variable {P:Program}
def dstC(rl:List RI) (i:Nat):Option Tmp:=(rl.getD i ri0).dst
def ddC(os:Os) (i:Nat):D:=(os.getD i os0).1
def xxC(os:Os) (i:Nat):List Ent:=(os.getD i os0).2.1
def wwC(os:Os) (i:Nat):Option (Nat×Ent):=(os.getD i os0).2.2
def stC2(rl:List RI) (os:Os) (s:St) (L:Nat→Bool) (n:Nat):St:=
 ⟨tS (dstC rl) (ddC os) L s.t n,sS (wwC os) L (mS (xxC os) L s.m n) n⟩
theorem FloStep2.lt{r:RI}{s:St}{d:D}{x:List Ent}{w:Option (Nat×Ent)}(h:FloStep2 P r s d x w) {id:Nat}{e:Ent}(hw:w=some (id,e)):id<s.m.length∧x=[]∧id∈rid s r:=by
 subst hw
 cases r with
 |call dst g f args=>obtain⟨_,h,_⟩:=h;cases h
 |op dst g i=>
  rcases h with⟨_,⟨h,_⟩|⟨hx,a,id',e',ht,h1,h2,h3,h4,_⟩⟩|⟨_,_,_,h⟩
  ·cases h
  ·injection h2 with h2;injection h2 with h2 h5;subst h2;exact⟨h4,hx,by simp only[rid,tgt_at ht,ht];exact tops_hd h1⟩
  ·cases h
theorem rel_id{G:Gh}{w:World}{a:Act}{s:St}(hr:Rel G w a s) {x:Operand}{id:Nat}(h:topId (s.ev x)=some id):id<s.m.length:=by
 have hv:=hr.ev x;have hn:=hr.inv.n;generalize s.ev x=d at *;cases d<;>simp only[topId,reduceCtorEq,An]at h
 ·subst h;simp only[VRel]at hv;obtain⟨_,_,h,_⟩:=hv;omega
 ·subst h;simp only[VRel]at hv;obtain⟨_,_,_,_,h,_⟩:=hv;omega
 ·subst h;simp only[VRel]at hv;obtain⟨_,_,_,_,h,_⟩:=hv;omega
 ·subst h;simp only[VRel]at hv;obtain⟨_,_,h,_⟩:=hv;omega
theorem flo_op2{ops:Array Oper}{o:Oper}{r:RI}(hc:compOp P ops o=some r) {sc s:St}{d:D}{x:List Ent}{wt:Option (Nat×Ent)}(hf:FloStep2 P r sc d x wt) (ht:∀t∈r.reads,s.t.getD t .dead=sc.t.getD t .dead)
 (hm:r.cls=2→s.m.length=sc.m.length) (hm1:∀(id:Nat),id∈rid sc r→(∃e,sc.m[id]?=some e)→id<s.m.length→s.m[id]?=sc.m[id]?)
 {G:Gh} {w:World} {a:Act} (hr:Rel G w a s) {i:Nat} (hi:ops[i]?=some o) {Q:Exit→Act→World→Prop} {K:Act→World→Prop}
 (hK:∀G' w' a',Rel G' w' a' (after2 s r d x wt)→Step G w s.m G' w' (wr s.m wt++x)→(∀id e,wt=some (id,e)→id<s.m.length)→K a' w'):wpOp P ops Q i K a w:=by
 have hdst:=compOp_dst hc;unfold wpOp;simp only[hi];unfold compOp at hc;split at hc
 ·cases hc
 ·rename_i g hg;obtain⟨hgate1,hgate2⟩:=gate_wanted hr hg;have hgt:gate s g=gate sc g:=gate_congr (fun t h=>ht t (by
   split at hc
   ·injection hc with hc;subst hc;simp[RI.reads,h]
   ·simp only[sn]at hc;obtain⟨i,-,rfl⟩:=hc;simp[RI.reads,h]))
  have won:(gate sc g=some none∨∃c,gate sc g=some (some (c,c)))→Region.wanted o (yielded ops a.tmps)=true:=by
   rintro(h|⟨c,h⟩)
   ·exact hgate1 (by rw[hgt,h]) o rfl
   ·rw[hgate2 c c (by rw[hgt,h]) o rfl];simp
  have woff:(∃c b,gate sc g=some (some (c,b))∧c≠b)→Region.wanted o (yielded ops a.tmps)=false:=by
   rintro⟨c,b,h,hne⟩;rw[hgate2 c b (by rw[hgt,h]) o rfl];simpa using hne
  have skip:d=.v undef→x=[]→wt=none→K (a.put o.dst undef) w:=by
   rintro rfl rfl rfl;refine hK G w _ ?_ (by rw[bo];exact Step.refl _ _ _) (fun _ _ h=>by cases h);unfold after2;rw[hdst,bo];exact rel_skip hr o.dst
  split at hc
  ·rename_i f args ho;injection hc with hc;subst hc;obtain⟨rfl,rfl,hf⟩:=hf;have hargs:args.map s.ev=args.map sc.ev:=map_congr (fun t h=>ht t (by simp[RI.reads];simp at h;exact .inr (.inr h)));rcases hf with⟨k,first,caps,hfe,hon,hids,hcall⟩|⟨hoff,hd⟩
   ·have hfe':s.cv f=.fn k first caps:=by rw[cv_congr (s:=sc) (s':=s) (f:=f) (fun t h=>ht t (by simp[RI.reads,h]))];exact hfe
    rw[if_pos (won hon)];refine .inl ?_;obtain⟨⟨fn,e1,e2,e3⟩,hcc⟩:=hcall s.m fun id hid=>by
     refine hm1 id hid ⟨_,pn (hids id hid)⟩ ?_;rw[topsD_map,←hargs]at hid;rw[←hr.inv.n];exact idsDs_lt (vs_map hr _) hid
    obtain⟨fs,cs,hrun,hv1,hv2⟩:=run_call hr ho (cv_ec hfe') e1 e2 e3;rw[←hargs]at hcc;have hcalls:=hcc G w (fs++args.map a.eval++cs) ((hv1.append (vs_map hr _)).append hv2) hr.inv;unfold Oper.wp;rw[hrun,Oper.upon_enter];refine hcalls.mono ?_;rintro e w' ⟨v,d',m',G',rfl,⟨rfl,rfl⟩,hvd,hi',hs'⟩;refine hK G' w' _ ?_ (by rw[bo];exact hs') (fun _ _ h=>by cases h);unfold after2;rw[bo];exact(hr.step hs'.le hi').put o.dst hvd
   ·rw[if_neg (by rw[woff hoff];decide)];exact skip hd rfl rfl
  ·rename_i hno;simp only[sn]at hc;obtain⟨j,hj,rfl⟩:=hc;rcases hf with⟨hon,hev⟩|⟨hoff,hd,hx,hw⟩
   ·rw[if_pos (won hon)];refine .inl ?_;have htj:∀t∈j.reads,s.t.getD t .dead=sc.t.getD t .dead:=fun t h=>ht t (by simp[RI.reads,h]);have evj:∀y,(∀t∈tmpOf y,t∈j.reads)→s.ev y=sc.ev y:=fun y hy=>ev_congr (fun t h=>htj t (hy t h));have hev':evalI s j=some (d,wr s.m wt++x)∧(∀id e,wt=some (id,e)→id<s.m.length):=by
     simp only[RI.cls]at hm;rcases hev with⟨rfl,hcls,hev⟩|⟨rfl,a1,id,e,htg,htop,rfl,hev,hlt,hsb⟩
     ·refine⟨?_,fun _ _ h=>by cases h⟩;simp only[wr];by_cases h2:j.cls=2
      ·obtain⟨e,he1,he2⟩:=evalI_make' (s:=sc) (s':=s) h2 htj (hm h2) hev;have:x=[e]:=List.append_cancel_left he1;rw[this];exact he2
      ·have h1:j.cls≤1:=by omega
       obtain⟨hxm,hres⟩:=evalI_congr (s:=sc) (s':=s) h1 htj (fun y id hy hid=>by
        have hevy:s.ev y=sc.ev y:=evj y (fun t h=>by
         cases j<;>simp only[I.at?,reduceCtorEq,An]at hy<;>subst hy<;>simp[I.reads,h])
        refine hm1 id (by simp only[rid,hy];exact tops_one hid) (evalI_looks hev hy hid) (rel_id hr (by rw[hevy];exact hid))) hev
       have:x=[]:=by
        have:=congrArg Yr hxm;simp at this;exact this
       rw[this,bo];exact hres
     ·obtain⟨id',e',h1,h2,h3,h4⟩:=evalI_set htg hsb hev;rw[htop]at h1;injection h1 with h1;subst h1;have hlt':id<s.m.length:=rel_id hr (x:=a1) (by rw[evj a1 (tgt_reads htg)];exact htop);have hee:e=e':=by
       have:=congrArg (fun m=>m[id]?) h2;simpa [rp,hlt] using this
      subst hee;refine⟨?_,fun id2 e2 h=>by injection h with h;injection h with h _;rw[←h];exact hlt'⟩;rw[bo];refine h4 s htj (hm1 id (by simp only[rid,tgt_at htg,htg];exact tops_hd htop) h3 hlt') fun y hy id' hid'=>?_;have hey:s.ev y=sc.ev y:=evj y (by
       cases j<;>simp[I.src]at hy;subst hy;intro t h;simp[I.reads,h])
      by_cases hq:∃e,sc.m[id']?=some e
      ·exact hm1 id' (by simp only[rid,tgt_at htg,htg,hy];exact tops_tl (tops_one hid')) hq (rel_id hr (by rw[hey];exact hid'))
      ·exact absurd (evalI_looksS hy hev hid') hq
    exact hr.good (sound_I' hj hr hev'.1) fun G' w' u hr' hs'=>hK G' w' _ hr' hs' hev'.2
   ·rw[if_neg (by rw[woff hoff];decide)];exact skip hd hx hw
end
def RI.mild(y:RI):Bool:=
 match y with
 |.op _ _ i=>decide (i.cls≤2) || i.tgt.isSome
 |.call ..=>true
section
variable {P:Program} {ops:Array Oper} {Q:Exit→Act→World→Prop} {K:St→Prop} {rl:List RI} {q:Nat} {ps:List (List Nat)}
end
def neN:Nat→Nat→Bool
 |0,0=>false
 |0,_+1=>true
 |_+1,0=>true
 |a+1,b+1=>neN a b
theorem neN_ne:∀{a b:Nat},neN a b=true→a≠b
 |0,0,h=>by simp[neN]at h
 |0,_+1,_=>by omega
 |_+1,0,_=>by omega
 |a+1,b+1,h=>by have:=neN_ne (a:=a) (b:=b) h;omega
def apart0(a:Nat):List Nat→Bool
 |[]=>true
 |b::l=>neN a b&&apart0 a l
def apart1:List Nat→List Nat→Bool
 |[],_=>true
 |a::l,r=>apart0 a r&&apart1 l r
theorem apart0_ne{a b:Nat}:∀{l:List Nat},apart0 a l=true→b∈l→a≠b
 |[],_,h=>by cases h
 |c::l,h,hm=>by
  simp only[apart0,xn]at h;rcases oo.1 hm with rfl|hm
  ·exact neN_ne h.1
  ·exact apart0_ne h.2 hm
theorem apart1_ne{a:Nat}:∀{l r:List Nat},apart1 l r=true→a∈l→a∉r
 |[],_,_,h=>by cases h
 |c::l,r,h,hm=>by
  simp only[apart1,xn]at h;rcases oo.1 hm with rfl|hm
  ·exact fun hr=>apart0_ne h.1 hr rfl
  ·exact apart1_ne h.2 hm
def apB(fp:List (List Nat)) (f:List Nat):List Nat→Bool
 |[]=>true
 |i::l=>apart1 (fp.getD i []) f&&apB fp f l
theorem apB_one{fp:List (List Nat)}{f:List Nat}{k:Nat}:∀{l:List Nat},apB fp f l=true→k∈l→apart1 (fp.getD k []) f=true
 |[],_,h=>by cases h
 |z::l,h,hm=>by
  simp only[apB,xn]at h;rcases oo.1 hm with rfl|hm
  ·exact h.1
  ·exact apB_one h.2 hm
def DrT2(P:Program):List (List Nat)→List (List Nat)→Nat→List RI→(St→Prop)→St→Prop
 |_,_,0,l,K,s=>RegT P l K s
 |_,_,_+1,[],_,_=>False
 |ps,fp,q+1,.op dst g i::l,K,s=>
  apB fp (rid s (.op dst g i)) (ps.headD [])=true∧
  match gate s g with
  |none=>False
  |some none=>∃d m',setB s i=true∧evalI s i=some (d,m')∧DrT2 P ps.tail (fp++[rid s (.op dst g i)]) q l K ({ s with m:=m' }.put dst d)
  |some (some (c,b))=>(c=b→∃d m',setB s i=true∧evalI s i=some (d,m')∧DrT2 P ps.tail (fp++[rid s (.op dst g i)]) q l K ({ s with m:=m' }.put dst d))∧(c≠b→DrT2 P ps.tail (fp++[rid s (.op dst g i)]) q l K (s.put dst (.v undef)))
 |ps,fp,q+1,.call dst g f args::l,K,s=>
  match s.cv f with
  |.fn k first caps=>
   match gate s g with
   |none=>False
   |some none=>apB fp (topsD s args) (ps.headD [])=true∧∃d,((∀id∈topsD s args,id<s.m.length)∧∀m,(∀id∈topsD s args,m[id]?=s.m[id]?)→CallT P k (first++args.map s.ev++caps) m fun d' m'=>d'=d∧m'=m)∧DrT2 P ps.tail (fp++[topsD s args]) q l K (s.put dst d)
   |some (some (c,b))=>apB fp (topsD s args) (ps.headD [])=true∧(c=b→∃d,((∀id∈topsD s args,id<s.m.length)∧∀m,(∀id∈topsD s args,m[id]?=s.m[id]?)→CallT P k (first++args.map s.ev++caps) m fun d' m'=>d'=d∧m'=m)∧DrT2 P ps.tail (fp++[topsD s args]) q l K (s.put dst d))∧(c≠b→DrT2 P ps.tail (fp++[topsD s args]) q l K (s.put dst (.v undef)))
  |_=>False
section
variable {P:Program} {K:St→Prop}
end
section
variable {P:Program} {N:Nat} {ops:Array Oper} {Q:Exit→Act→World→Prop} {K:St→Prop} {rl:List RI} {q:Nat} {ps:List (List Nat)}
end
end Go.Tm
namespace Go.Tm
open Go.RowKit (Below)
theorem fill_good{G:Gh}{w:World}{m:List Ent}(hi:Inv G w m) {p S ver:Nat}(hm:m[p]?=some (.live S ver [])) (l:List D) (C:Nat) (cs:Array Value) (T:TypeId)
 (hr:RowIn G w S l cs) (hC:l.length≤C) (hcs:C*S≤cs.size) :
 Inv (G.upd p (some w.heap.size) (ver+1) l.length (C,0)) (w.alloc (.cells cs T)) (m.set p (.live S (ver+1) l))∧
  Step G w m (G.upd p (some w.heap.size) (ver+1) l.length (C,0)) (w.alloc (.cells cs T)) (m.set p (.live S (ver+1) l)):=by
 have hkeep:∀k,k<w.heap.size→(w.alloc (.cells cs T)).heap[k]?=w.heap[k]?:=fun k hk=>Below.heap_alloc _ _ _ hk;obtain⟨hV,hS,-⟩:=hi.ent p _ hm;refine change_good hi hm rfl rfl _ _ _ _ (.inl (by omega)) rfl rfl rfl (by simp) (fun k hk _=>hkeep k hk) (fun k h=>by injection h;omega) ?_;have hle:Le G w (G.upd p (some w.heap.size) (ver+1) l.length (C,0)) (w.alloc (.cells cs T)):=by
  refine⟨fun _ h=>h,fun k hk=>hkeep k (hi.F k hk),En _,fun i _=>?_⟩;by_cases h:i=p
  ·subst h;exact .inr (by simp only[Gh.upd,if_pos];omega)
  ·exact .inl (by simp[Gh.upd,h])
 have hblk:(w.alloc (.cells cs T)).heap[w.heap.size]?=some (.cells cs T (0,0)):=by
  show(w.heap.push (.cells cs T))[w.heap.size]?=_;rw[Array.getElem?_push,if_pos rfl]
 refine⟨by simp[Gh.upd],by simpa [Gh.upd] using hS,by simp[Gh.upd],by simpa [Gh.upd] using hC,.inr ⟨w.heap.size,cs,T,by simp[Gh.upd],fun h=>?_,hblk,by simpa [Gh.upd] using hcs,by simpa [Gh.upd] using rowAt_of_rowIn hblk (hr.mono hle)⟩⟩;have:=hi.F _ h;omega
def fillI(s:St) (p:Nat):I→Option (D×Ent)
 |.alloc S z=>match s.m[p]? with
  |some (.live S' ver [])=>if S'=S then some (.ref p (ver+1) 0 0,.live S (ver+1) [z])else none
  |_=>none
 |.box S x=>match s.m[p]? with
  |some (.live S' ver [])=>if S'=S∧(s.ev x).ok=true∧(s.ev x).cells.length=S then some (.ref p (ver+1) 0 0,.live S (ver+1) [s.ev x])else none
  |_=>none
 |.bslice S n z ps=>match s.m[p]? with
  |some (.live S' ver [])=>if S'=S then(bsliceD s S ps (yn n z)).map fun l=>(.own p (ver+1),.live S (ver+1) l)else none
  |_=>none
 |_=>none
section
variable {P:Program} {G:Gh} {w:World} {a:Act} {s:St} {d:D} {e:Ent} {p:Nat}
theorem ref_fill{w':World}{C ver b N:Nat}(hp:p<G.n):VRel (G.upd p (some b) (ver+1) N (C,0)) w' (.ref p (ver+1) 0 0) (.pointer (some ⟨b,0,none⟩)):=by
 simp only[VRel];exact⟨_,rfl,by simpa [Gh.upd] using hp,by simp[Gh.upd],fun _=>⟨b,by simp[Gh.upd],by simp[Gh.upd]⟩⟩
theorem own_fill{w':World}{C ver b N:Nat}(hp:p<G.n):VRel (G.upd p (some b) (ver+1) N (C,0)) w' (.own p (ver+1)) (.slice (some ⟨b,0,none⟩) N C):=by
 simp only[VRel];exact⟨_,_,_,rfl,by simpa [Gh.upd] using hp,by simp[Gh.upd],fun _=>⟨by simp[Gh.upd],by simp[Gh.upd],by simp[Gh.upd]⟩⟩
theorem at_lt{m:List Ent}{x:Ent}(h:m[p]?=some x):p<m.length:=(Mn.1 h).1
theorem f_alloc(hr:Rel G w a s) {t:TypeId}{z:Value}{o:Oper}(ho:o.op=.alloc t) (hz:zeroOf P t=some z) (he:fillI s p (.alloc z.cells.size (leaf z))=some (d,e)) :
 Good G w s.m ((execOp a.eval o).run P w) d (s.m.set p e):=by
 simp only[fillI]at he;split at he
 ·rename_i S' ver hm;split at he
  ·rename_i hS;subst hS;injection he with he;injection he with h1 h2;subst h1;subst h2;obtain⟨hz1,hz2,hz3,-⟩:=run_zero hz w;obtain⟨g1,g2⟩:=fill_good hr.inv hm [leaf z] 1 z.cells t (rowIn_one (leaf_rel z hz2) rfl (all_get hz2)) (by simp) (by simp);refine⟨_,_,_,?_,.inl ⟨_,rfl,ref_fill (C:=1) (N:=1) (by rw[hr.inv.n];exact at_lt hm)⟩,g1,g2⟩;unfold execOp;simp only[ho];simp[Instr.alloc,hz1,newVar,newRow]
  ·cases he
 ·cases he
theorem f_box(hr:Rel G w a s) {t:TypeId}{x:Operand}{S:Nat}{o:Oper}(ho:o.op=.box t x) (he:fillI s p (.box S x)=some (d,e)) :
 Good G w s.m ((execOp a.eval o).run P w) d (s.m.set p e):=by
 simp only[fillI]at he;split at he
 ·rename_i S' ver hm;split at he
  ·rename_i hc;obtain⟨rfl,hok,hlen⟩:=hc;injection he with he;injection he with h1 h2;subst h1;subst h2;have hx:=hr.ev x;obtain⟨hv,h1⟩:=hx.cells hok;have hsz:(a.eval x).cells.size=S':=by rw[←Ao,hv.length];exact hlen
   obtain⟨g1,g2⟩:=fill_good hr.inv hm [s.ev x] 1 (a.eval x).cells t (rowIn_one hx hsz (fun j c hj=>h1 c (by rw[←Zn]at hj;exact Bo hj))) (by simp) (by simp[hsz]);refine⟨_,_,_,?_,.inl ⟨_,rfl,ref_fill (C:=1) (N:=1) (by rw[hr.inv.n];exact at_lt hm)⟩,g1,g2⟩;unfold execOp;simp only[ho];simp[Instr.box,newVar,newRow]
  ·cases he
 ·cases he
theorem f_bslice(hr:Rel G w a s) {t e':TypeId}{n:Nat}{ps:Array (Nat×Operand)}{z:Value}{o:Oper}(ho:o.op=.buildSlice t n ps)
 (ht:P.underlying t=some (.slice e')) (hz:zeroOf P e'=some z) (hsmall:n*z.cells.size≤2 ^ 24) (he:fillI s p (.bslice z.cells.size n (leaf z) ps.toList)=some (d,e)) :
 Good G w s.m ((execOp a.eval o).run P w) d (s.m.set p e):=by
 simp only[fillI]at he;split at he
 ·rename_i S' ver hm;split at he
  ·rename_i hS;subst hS;simp only[sn,Bn]at he;obtain⟨l,hb,rfl,rfl⟩:=he;obtain⟨hz1,hz2,hz3,i,hi,hsz,hzz⟩:=run_zero hz w;obtain⟨cells,hf,hrow,hcs,hlen⟩:=g_fillS hr hb (rowIn_zeros hz2 n) (by simp);simp only[List.length_replicate]at hlen;obtain⟨g1,g2⟩:=fill_good hr.inv hm l n cells e' hrow (by omega) (by rw[hcs,hlen];exact En _);refine⟨_,_,_,?_,.inl ⟨_,rfl,own_fill (N:=l.length) (C:=n) (by rw[hr.inv.n];exact at_lt hm)⟩,g1,g2⟩;unfold execOp;simp only[ho];have hnb:¬(2 ^ 24<n*i.size):=by rw[hsz];omega
   by_cases h0:n*i.size=0
   ·have hn0:n=0:=by
     rcases Nat.mul_eq_zero.1 h0 with h|h
     ·exact h
     ·omega
    subst hn0;rw[hsz.symm]at hf;rw[Nat.zero_mul,show Jr 0 = #[]from rfl,Array.map_empty]at hf;have hf':Instr.fill (fun k=>some (k*i.size,i.size)) #[] (ps.toList.map fun p=>(p.1,a.eval p.2))=some cells:=hf;have hr0:∀f:Nat→Value,Array.map f (Jr 0) = #[]:=fun f=>by apply Array.ext';simp
    simp[Instr.buildSlice,run_underlying ht,run_sizeOf' hi,hr0,hf',newRow,hlen]
   ·rw[hsz.symm]at hf;simp[Instr.buildSlice,run_underlying ht,run_sizeOf' hi,hnb,h0,hz1,hf,newRow,hlen,hsz.symm]
  ·cases he
 ·cases he
theorem sound_fill{ops:Array Oper}{o:Oper}{i:I}(hc:compI' P ops o o.op=some i) (hr:Rel G w a s) (he:fillI s p i=some (d,e)):Good G w s.m ((execOp a.eval o).run P w) d (s.m.set p e):=by
 cases i with
 |alloc S z=>
  obtain⟨t,z',ho,hz,rfl,rfl⟩:∃t z',o.op=.alloc t∧zeroOf P t=some z'∧z'.cells.size=S∧leaf z'=z:=by
   unfold compI' at hc;split at hc
   ·rename_i i' hi';injection hc with hc;subst hc;unfold truncOf at hi'
    repeat' split at hi'
    all_goals first|cases hi'|(simp only[sn]at hi';obtain⟨_,_,h⟩:=hi';cases h)
   ·unfold compI at hc
    repeat' split at hc
    all_goals first
     |cases hc
     |(
      simp only[sn]at hc;obtain⟨z',hz,h⟩:=hc
      first|cases h|skip)
    all_goals first
     |(rename_i t ho;exact⟨_,_,ho,hz,rfl,rfl⟩)
  exact f_alloc hr ho hz he
 |box S x=>
  obtain⟨t,ho⟩:∃t,o.op=.box t x:=by
   unfold compI' at hc;split at hc
   ·rename_i i' hi';injection hc with hc;subst hc;unfold truncOf at hi'
    repeat' split at hi'
    all_goals first|cases hi'|(simp only[sn]at hi';obtain⟨_,_,h⟩:=hi';cases h)
   ·unfold compI at hc
    repeat' split at hc
    all_goals first
     |(injection hc with hc;injection hc with h1 h2;subst h2;rename_i t x' ho;exact⟨_,ho⟩)
     |cases hc
     |(
      simp only[sn]at hc;obtain⟨z',hz,h⟩:=hc;cases h)
  exact f_box hr ho he
 |bslice S n z ps=>
  obtain⟨t,e',ps',z',ho,ht,hz,hsmall,rfl,rfl,rfl⟩:∃t e' ps' z',o.op=.buildSlice t n ps'∧P.underlying t=some (.slice e')∧zeroOf P e'=some z'∧n*z'.cells.size≤2 ^ 24∧z'.cells.size=S∧leaf z'=z∧ps'.toList=ps:=by
   unfold compI' at hc;split at hc
   ·rename_i i' hi';injection hc with hc;subst hc;unfold truncOf at hi'
    repeat' split at hi'
    all_goals first|cases hi'|(simp only[sn]at hi';obtain⟨_,_,h⟩:=hi';cases h)
   ·unfold compI at hc
    repeat' split at hc
    all_goals first
     |(cases hc;exact⟨_,_,_,_,by assumption,by assumption,by assumption,by assumption,rfl,rfl,rfl⟩)
     |cases hc
     |(
      simp only[sn]at hc;obtain⟨z',hz,h⟩:=hc;cases h)
  exact f_bslice hr ho ht hz hsmall he
 |_=>simp[fillI]at he
end
end Go.Tm
namespace Go.Tm
theorem fillI_congr{s s':St}{p:Nat}{i:I}(ht:∀t∈i.reads,s'.t.getD t .dead=s.t.getD t .dead) (hm:s'.m[p]?=s.m[p]?):fillI s' p i=fillI s p i:=by
 cases i with
 |alloc S z=>simp only[fillI,hm]
 |box S x=>
  have:s'.ev x=s.ev x:=ev_congr (fun t h=>ht t (by simpa [I.reads] using h));simp only[fillI,hm,this]
 |bslice S n z ps=>
  have:∀l,bsliceD s' S ps l=bsliceD s S ps l:=fun l=>bsliceD_congr (fun t h=>ht t (by simpa [I.reads] using h));simp only[fillI,hm,this]
 |_=>rfl
theorem fillI_at{s:St}{p:Nat}{i:I}{d:D}{e:Ent}(h:fillI s p i=some (d,e)):p<s.m.length:=by
 rcases vo p s.m.length with h1|h1
 ·exact h1
 ·have hn:=Rn h1;cases i<;>simp[fillI,hn]at h
def rido:Option Nat→St→RI→List Nat
 |some p,_,.op ..=>[p]
 |some _,s,.call _ _ _ args=>topsD s args
 |none,s,r=>rid s r
def FloStepO(P:Program) (o:Option Nat) (r:RI) (s:St) (d:D) (x:List Ent) (w:Option (Nat×Ent)):Prop:=
 match o with
 |none=>FloStep2 P r s d x w
 |some p=>(∃dst i e,r=.op dst none i∧x=[]∧w=some (p,e)∧fillI s p i=some (d,e))∨
  (∃dst f args k first caps e,r=.call dst none f args∧x=[]∧w=some (p,e)∧s.cv f=.fn k first caps∧p∈topsD s args∧(∀id∈topsD s args,id<s.m.length)∧
   ∀m,(∀id∈topsD s args,m[id]?=s.m[id]?)→CallT P k (first++args.map s.ev++caps) m fun d' m'=>d'=d∧m'=m.set p e)
def pO(pl:List (Option Nat)) (i:Nat):Option Nat:=pl.getD i none
theorem pO_drop{pl:List (Option Nat)}{k:Nat}:(pl.drop k).headD none=pO pl k:=by
 unfold pO
 induction k generalizing pl with
 |zero=>cases pl<;>rfl
 |succ k ih=>cases pl with|nil=>rfl|cons a l=>exact ih (pl:=l)
theorem tail_drop{pl:List (Option Nat)}{k:Nat}:(pl.drop k).tail=pl.drop (k+1):=by simp
theorem mS_le{xx:Nat→List Ent}{L:Nat→Bool}(m:List Ent):∀n,m.length≤(mS xx L m n).length
 |0=>En _
 |n+1=>by
  have:=mS_le (xx:=xx) (L:=L) m n;simp only[mS];split
  ·rw[uo];omega
  ·exact this
def FloO(P:Program):List (Option Nat)→List RI→St→Os→List (List Nat)→St→Prop
 |_,[],s,os,rs,s'=>os=[]∧rs=[]∧s'=s
 |pl,r::l,s,os,rs,s'=>∃d x w os' rs',os=(d,x,w)::os'∧rs=rido (pl.headD none) s r::rs'∧FloStepO P (pl.headD none) r s d x w∧FloO P pl.tail l (after2 s r d x w) os' rs' s'
section
variable {P:Program}
theorem FloO.length:∀{l:List RI}{pl:List (Option Nat)}{s s':St}{os:Os}{rs:List (List Nat)},FloO P pl l s os rs s'→os.length=l.length
 |[],pl,s,s',os,rs,h=>by simp[h.1]
 |r::l,pl,s,s',os,rs,h=>by
  obtain⟨d,x,w,os',rs',rfl,rfl,_,h⟩:=h;simp[FloO.length h]
theorem FloStepO.lt{o:Option Nat}{r:RI}{s:St}{d:D}{x:List Ent}{w:Option (Nat×Ent)}(h:FloStepO P o r s d x w) {id:Nat}{e:Ent}(hw:w=some (id,e)):id<s.m.length∧x=[]∧id∈rido o s r:=by
 cases o with
 |none=>exact FloStep2.lt h hw
 |some p=>
  rcases h with⟨dst,i,e',rfl,hx,hw',hf⟩|⟨dst,f,args,k,first,caps,e',rfl,hx,hw',hf,hp,hl,_⟩
  ·rw[hw']at hw;injection hw with hw;injection hw with h1 h2;subst h1;exact⟨fillI_at hf,hx,by simp[rido]⟩
  ·rw[hw']at hw;injection hw with hw;injection hw with h1 h2;subst h1;exact⟨hl _ hp,hx,hp⟩
theorem FloO.get{pl:List (Option Nat)}{rl:List RI}{os:Os}{s0:St}:∀{l:List RI}{k:Nat}{s':St}{os':Os}{rs:List (List Nat)},l=(rl.drop k).take l.length→os'=(os.drop k).take os'.length→
 (∀j,j<k→∀id e,wwC os j=some (id,e)→id<(mS (xxC os) (fun _=>true) s0.m k).length)→FloO P (pl.drop k) l (stC2 rl os s0 (fun _=>true) k) os' rs s'→
 (∀i,i<l.length→FloStepO P (pO pl (k+i)) (rl.getD (k+i) ri0) (stC2 rl os s0 (fun _=>true) (k+i)) (ddC os (k+i)) (xxC os (k+i)) (wwC os (k+i))∧rs.getD i []=rido (pO pl (k+i)) (stC2 rl os s0 (fun _=>true) (k+i)) (rl.getD (k+i) ri0))∧s'=stC2 rl os s0 (fun _=>true) (k+l.length)
 |[],k,s',os',rs,_,_,_,h=>⟨fun i hi=>by simp at hi,by simpa using h.2.2⟩
 |r::l,k,s',os',rs,h1,h2,hv,h=>by
  obtain⟨d,x,w,os'',rs',rfl,rfl,hs,h⟩:=h;rw[pO_drop]at hs;rw[tail_drop]at h;have hr:rl[k]?=some r:=by
   have:=congrArg (fun l=>l[0]?) h1;simpa [Cp,nq] using this.symm
  have ho:os[k]?=some (d,x,w):=by
   have:=congrArg (fun l=>l[0]?) h2;simpa [Cp,nq] using this.symm
  have hr':rl.getD k ri0=r:=by rw[Dn,hr];rfl
  have ho':os.getD k os0=(d,x,w):=by rw[Dn,ho];rfl
  have hd:ddC os k=d:=by unfold ddC;rw[ho']
  have hx:xxC os k=x:=by unfold xxC;rw[ho']
  have hw:wwC os k=w:=by unfold wwC;rw[ho']
  have hds:dstC rl k=r.dst:=by unfold dstC;rw[hr']
  have hm1:mS (xxC os) (fun _=>true) s0.m (k+1)=mS (xxC os) (fun _=>true) s0.m k++x:=by simp[mS,hx]
  have hnext:after2 (stC2 rl os s0 (fun _=>true) k) r d x w=stC2 rl os s0 (fun _=>true) (k+1):=by
   rw[after2_t];simp only[stC2,tS,if_true,St.mk.injEq];refine⟨by rw[hds,hd];first|done|(cases r.dst<;>rfl),?_⟩;rw[hm1];simp only[sS,if_true,hw];rw[sS_app _ _ _ fun j hj _ id e he=>hv j hj id e he]
   cases w with
   |none=>rfl
   |some p=>
    obtain⟨id,e⟩:=p;obtain⟨_,hx0,_⟩:=hs.lt rfl;subst hx0;simp[wr]
  have hv':∀j,j<k+1→∀id e,wwC os j=some (id,e)→id<(mS (xxC os) (fun _=>true) s0.m (k+1)).length:=by
   intro j hj id e he;rw[hm1,uo];by_cases hjk:j=k
   ·subst hjk;rw[hw]at he;have:=(hs.lt he).1;simp only[stC2,sS_length]at this;omega
   ·have:=hv j (by omega) id e he;omega
  rw[hnext]at h;have t1:l=(rl.drop (k+1)).take l.length:=by
   have hk:k<rl.length:=(Mn.1 hr).1;rw[Uo hk,jo,Zo]at h1;exact(Lr h1).2
  have t2:os''=(os.drop (k+1)).take os''.length:=by
   have hk:k<os.length:=(Mn.1 ho).1;rw[Uo hk,jo,Zo]at h2;exact(Lr h2).2
  obtain⟨g1,g2⟩:=FloO.get t1 t2 hv' h;refine⟨fun i hi=>?_,by rw[g2];simp[Nat.add_assoc,Yo 1]⟩
  cases i with
  |zero=>simp only[ep,hr',hd,hx,hw];exact⟨hs,by rw[iq,pO_drop]⟩
  |succ i=>
   have:=g1 i (by simpa using hi);rw[show k+1+i=k+(i+1) by omega]at this;exact this
theorem flo_opO{ops:Array Oper}{o:Oper}{r:RI}(hc:compOp P ops o=some r) {sc s:St}{d:D}{x:List Ent}{wt:Option (Nat×Ent)}{po:Option Nat}(hf:FloStepO P po r sc d x wt) (ht:∀t∈r.reads,s.t.getD t .dead=sc.t.getD t .dead)
 (hm:po=none→r.cls=2→s.m.length=sc.m.length) (hm1:∀(id:Nat),id∈rido po sc r→(∃e,sc.m[id]?=some e)→id<s.m.length→s.m[id]?=sc.m[id]?) (hlen:∀p,po=some p→p<s.m.length)
 {G:Gh} {w:World} {a:Act} (hr:Rel G w a s) {i:Nat} (hi:ops[i]?=some o) {Q:Exit→Act→World→Prop} {K:Act→World→Prop}
 (hK:∀G' w' a',Rel G' w' a' (after2 s r d x wt)→Step G w s.m G' w' (wr s.m wt++x)→(∀id e,wt=some (id,e)→id<s.m.length)→K a' w'):wpOp P ops Q i K a w:=by
 cases po with
 |none=>exact flo_op2 hc hf ht (hm rfl) hm1 hr hi hK
 |some p=>
  rcases hf with⟨dst,j,e,rfl,rfl,rfl,hfill⟩|⟨dst,f,args,k,first,caps,e,rfl,rfl,rfl,hfe,hpt,hids,hcall⟩
  rotate_left
  ·have hdst:=compOp_dst hc;have hp:=hlen p rfl;unfold wpOp;simp only[hi];unfold compOp at hc;split at hc
   ·cases hc
   ·rename_i g hg;split at hc
    ·rename_i f' args' ho;injection hc with hc;injection hc with h1 h2 h3 h4;subst h2;subst h3;subst h4;obtain⟨hgate1,hgate2⟩:=gate_wanted hr hg;rw[if_pos (hgate1 rfl o rfl)];refine .inl ?_;have hfe':s.cv f'=.fn k first caps:=by rw[cv_congr (s:=sc) (s':=s) (f:=f') (fun t h=>ht t (by simp[RI.reads,h]))];exact hfe
     have hargs:args'.map s.ev=args'.map sc.ev:=map_congr (fun t h=>ht t (by simp[RI.reads];simp at h;exact .inr (.inr h)));obtain⟨⟨fn,e1,e2,e3⟩,hcc⟩:=hcall s.m fun id hid=>by
      refine hm1 id hid ⟨_,pn (hids id hid)⟩ ?_;rw[topsD_map,←hargs]at hid;rw[←hr.inv.n];exact idsDs_lt (vs_map hr _) hid
     obtain⟨fs,cs,hrun,hv1,hv2⟩:=run_call hr ho (cv_ec hfe') e1 e2 e3;rw[←hargs]at hcc;have hcalls:=hcc G w (fs++args'.map a.eval++cs) ((hv1.append (vs_map hr _)).append hv2) hr.inv;unfold Oper.wp;rw[hrun,Oper.upon_enter];refine hcalls.mono ?_;rintro e0 w' ⟨v,d',m',G',rfl,⟨rfl,rfl⟩,hvd,hi',hs'⟩;refine hK G' w' _ ?_ (by simpa [wr] using hs') (fun id e' h=>by injection h with h;injection h with h _;rw[←h];exact hp);unfold after2;rw[bo];rw[hdst];exact(hr.step hs'.le hi').put o.dst hvd
    ·rename_i hno;simp only[sn]at hc;obtain⟨j',hj,h⟩:=hc;cases h
  have hdst:=compOp_dst hc;have hp:=hlen p rfl;have hat:=fillI_at hfill;have hfill':fillI s p j=some (d,e):=by
   rw[fillI_congr (s:=sc) (fun t h=>ht t (by simp[RI.reads,h])) (hm1 p (by simp[rido]) ⟨_,pn hat⟩ hp)];exact hfill
  unfold wpOp;simp only[hi];unfold compOp at hc;split at hc
  ·cases hc
  ·rename_i g hg;split at hc
   ·rename_i f args ho;injection hc with hc;cases hc
   ·rename_i hno;simp only[sn]at hc;obtain⟨j',hj,h⟩:=hc;injection h with h1 h2 h3;subst h2;subst h3;obtain⟨hgate1,hgate2⟩:=gate_wanted hr hg;rw[if_pos (hgate1 rfl o rfl)];refine .inl ?_;exact hr.good (sound_fill hj hr hfill') fun G' w' u hr' hs'=>hK G' w' _ (by unfold after2;rw[hdst];simpa [wr] using hr') (by simpa [wr] using hs') (fun id e' h=>by injection h with h;injection h with h _;rw[←h];exact hp)
end
def wB(o:Option Nat):RI→Bool
 |.op _ _ i=>o.isSome || i.tgt.isSome
 |.call ..=>o.isSome
def lB(o:Option Nat):RI→Bool
 |.op _ _ i=>o.isSome || i.tgt.isSome || i.at?.isSome
 |.call ..=>true
def confO(o o':Option Nat) (x y:RI):Bool:=(wB o x&&lB o' y) || (wB o' y&&lB o x)
def clashO(o o':Option Nat) (x y:RI):Bool:=
 (
  match x.dst with
  |some t=>y.reads.contains t || y.dst==some t
  |none=>false) ||
 (
  match y.dst with
  |some t=>x.reads.contains t
  |none=>false) ||
 (o.isNone&&o'.isNone&&x.cls==2&&y.cls==2)
def drawOkO(bs:List (List Nat)) (rl:List RI) (q:Nat) (ps:List (List Nat)) (pl:List (Option Nat)):Bool:=
 let ms:=masks bs
 (wo q).all fun j=>match rl[j]? with
  |none=>false
  |some y=>((pO pl j).isSome || y.mild)&&(wo j).all fun i=>match rl[i]? with
   |none=>false
   |some x=>(ms.getD j 0).testBit i || (!clashO (pO pl i) (pO pl j) x y&&(!confO (pO pl i) (pO pl j) x y || (ps.getD j []).contains i))
structure DrawFactsO (bs:List (List Nat)) (rl:List RI) (q:Nat) (ps:List (List Nat)) (pl:List (Option Nat)):Prop extends TailFacts bs rl q where
 mild:∀(j:Nat) y,j<q→rl[j]?=some y→((pO pl j).isSome || y.mild)=true
 apart:∀(i j:Nat) x y,i<j→j<q→rl[i]?=some x→rl[j]?=some y→clashO (pO pl i) (pO pl j) x y=true→((masks bs).getD j 0).testBit i=true
 pairs:∀(i j:Nat) x y,i<j→j<q→rl[i]?=some x→rl[j]?=some y→confO (pO pl i) (pO pl j) x y=true→((masks bs).getD j 0).testBit i=true∨i∈ps.getD j []
theorem drawOkO_facts{bs:List (List Nat)}{rl:List RI}{q:Nat}{ps:List (List Nat)}{pl:List (Option Nat)}(ht:TailFacts bs rl q) (h:drawOkO bs rl q ps pl=true):DrawFactsO bs rl q ps pl:=by
 unfold drawOkO at h;simp only[qo,pq]at h;refine⟨ht,?_,?_,?_⟩
 ·intro j y hj hy;have:=h j hj;rw[hy]at this;simp only[xn]at this;exact this.1
 ·intro i j x y hij hj hx hy hc;have:=h j hj;rw[hy]at this;simp only[xn,qo,pq]at this;have:=this.2 i hij;rw[hx]at this;simpa [hc] using this
 ·intro i j x y hij hj hx hy hc;have:=h j hj;rw[hy]at this;simp only[xn,qo,pq]at this;have:=this.2 i hij;rw[hx]at this;simp only[hc,Vo,xn,Bool.not_true,tn,false_or,List.contains_iff_mem]at this;rcases this with h1|h1
  ·exact .inl h1
  ·exact .inr h1.2
section
variable {P:Program} {ops:Array Oper} {Q:Exit→Act→World→Prop} {K:St→Prop} {rl:List RI} {q:Nat} {ps:List (List Nat)} {pl:List (Option Nat)}
theorem rid_confO{o o':Option Nat}{s:St}{x y:RI}{id:Nat}(hx:id∈rido o s x) (hy:wB o' y=true):confO o o' x y=true:=by
 have h:lB o x=true:=by
  cases o with
  |some p=>cases x<;>simp[lB]
  |none=>
   cases x with
   |call=>rfl
   |op d g i=>
    simp only[rido,rid]at hx;simp only[lB,Vo];split at hx
    ·rename_i z hz;right;rw[hz];rfl
    ·split at hx
     ·rename_i z hz;left;right;rw[hz];rfl
     ·simp at hx
 simp[confO,hy,h]
theorem confO_comm{o o':Option Nat}{x y:RI}:confO o o' x y=confO o' o y x:=by simp[confO,Bool.or_comm]
theorem FloStepO.wB{o:Option Nat}{r:RI}{s:St}{d:D}{x:List Ent}{p:Nat×Ent}(h:FloStepO P o r s d x (some p)):Go.Tm.wB o r=true:=by
 cases o with
 |some p=>cases r<;>rfl
 |none=>
  cases r with
  |call=>obtain⟨_,h,_⟩:=h;cases h
  |op d g i=>
   rcases h with⟨_,⟨h,_⟩|⟨_,a,_,_,h,_⟩⟩|⟨_,_,_,h⟩
   ·cases h
   ·simp[Go.Tm.wB,h]
   ·cases h
theorem draw_headO(hc:compOps P ops ops.toList=some rl) (hf:DrawFactsO (befores ops) rl q ps pl) {os:Os}{s0:St}
 (hflo:∀i,i<q→FloStepO P (pO pl i) (rl.getD i ri0) (stC2 rl os s0 (fun _=>true) i) (ddC os i) (xxC os i) (wwC os i))
 (hpl:∀i p,pO pl i=some p→p<s0.m.length)
 (hmake:∀i,i<q→xxC os i≠[]→(rl.getD i ri0).cls=2∧pO pl i=none)
 (hap:∀i j,i<j→j<q→i∈ps.getD j []→∀id,id∈rido (pO pl i) (stC2 rl os s0 (fun _=>true) i) (rl.getD i ri0)→id∉rido (pO pl j) (stC2 rl os s0 (fun _=>true) j) (rl.getD j ri0))
 (hT:RegT P (rl.drop q) K (stC2 rl os s0 (fun _=>true) q)) :
 ∀(fuel:Nat) (listed:Array Bool) (G:Gh) (w:World) (a:Act),((wo ops.size).filter fun j=>!lset listed j).length≤fuel→listed.size=ops.size→Closed (befores ops) (lset listed)→
  (∀j,q≤j→lset listed j=false)→Rel G w a (stC2 rl os s0 (lset listed) q)→(∀j,j<q→lset listed j=true→∀id e,wwC os j=some (id,e)→id<(mS (xxC os) (lset listed) s0.m q).length)→
  (∀s' G' w' a',K s'→Rel G' w' a' s'→Step G w (stC2 rl os s0 (lset listed) q).m G' w' s'.m→Q .normal a' w')→wpAny P .any ops Q fuel listed a w:=by
 obtain⟨hlen,hget⟩:=compOps_get hc;simp only[Ao]at hlen;have hq:=hf.hq;have hcongr:∀{L L':Nat→Bool},(∀j,j<q→L j=L' j)→stC2 rl os s0 L q=stC2 rl os s0 L' q:=by
  intro L L' h;have hs:∀(m:List Ent) n,n≤q→sS (wwC os) L m n=sS (wwC os) L' m n:=by
   intro m n
   induction n with
   |zero=>intro _;rfl
   |succ n ih=>intro hn;simp only[sS,h n (by omega),ih (by omega)]
  simp only[stC2,St.mk.injEq];exact⟨tS_congr _ _ fun j hj=>h j hj,by rw[mS_congr _ _ fun j hj=>h j hj,hs _ _ (En _)]⟩
 intro fuel
 induction fuel with
 |zero=>
  intro listed G w a hcard hsz hcl htail hrel hV hQ;have hall:∀i,i<ops.size→lset listed i=true:=by
   intro i hi;rcases hb:lset listed i with _|_
   ·exfalso;have:i∈(wo ops.size).filter fun j=>!lset listed j:=by simp[hi,hb]
    rw[Jn (Nat.le_zero.1 hcard)]at this;cases this
   ·rfl
  have hqn:q=ops.size:=by
   rcases vo q ops.size with h|h
   ·have:=hall q h;rw[htail q (En _)]at this;cases this
   ·omega
  have hst:stC2 rl os s0 (lset listed) q=stC2 rl os s0 (fun _=>true) q:=hcongr fun j hj=>hall j (by omega);refine draw_tail hc hf.toTailFacts 0 q 0 listed _ G w a (by omega) (En _) (En _) (by omega) hsz (fun i=>?_) hT (by rw[←hst];exact hrel) (by rw[←hst];exact hQ);rcases vo i q with h|h
  ·rw[hall i (by omega)];simp[h]
  ·rw[htail i h];simp;omega
 |succ fuel ih=>
  intro listed G w a hcard hsz hcl htail hrel hV hQ;by_cases hdone:∀j,j<q→lset listed j=true
  ·have hst:stC2 rl os s0 (lset listed) q=stC2 rl os s0 (fun _=>true) q:=hcongr fun j hj=>hdone j hj;have hL:∀i,lset listed i=decide (i<q):=fun i=>by
    rcases vo i q with h|h
    ·rw[hdone i h];simp[h]
    ·rw[htail i h];simp;omega
   have hcnt:=count_tail q ops.size;simp only[hL]at hcard;exact draw_tail hc hf.toTailFacts (ops.size-q) q (fuel+1) listed _ G w a rfl (by omega) (En _) (by omega) hsz hL hT (by rw[←hst];exact hrel) (by rw[←hst];exact hQ)
  ·refine⟨fun hno=>(hdone fun j hj=>least_ready hf.toTailFacts hsz hno j (by omega)).elim,fun i hi=>?_⟩;obtain⟨h1,h2,h3,h4,h5⟩:=ready_facts hf.toTailFacts hsz hcl hi;have hiq:i<q:=by
    rcases vo i q with h|h
    ·exact h
    ·exact(hdone fun j hj=>h3 j (by omega) (hf.tail j i (by omega) h (by omega))).elim
   have hgd:∀j,j<q→rl[j]?=some (rl.getD j ri0):=fun j hj=>getD_some (by omega) _;obtain⟨r,hr,hco⟩:=hget i ops[i] (by rw[Zn];exact Yn h1);have hrr:rl.getD i ri0=r:=by have:=hgd i hiq;rw[hr]at this;injection this with this;exact this.symm
   have early:∀j x,j<i→rl[j]?=some x→clashO (pO pl j) (pO pl i) x r=true→lset listed j=true:=fun j x hj hx hcl'=>h3 j (by omega) (hf.apart j i x r hj hiq hx hr hcl');have late:∀j y,i<j→j<q→rl[j]?=some y→clashO (pO pl i) (pO pl j) r y=true→lset listed j=false:=by
    intro j y hj hjq hy hcl';rcases hb:lset listed j with _|_
    ·rfl
    ·have:=masks_bit hcl hb (hf.apart i j r y hj hjq hr hy hcl');rw[h2]at this;cases this
   have hF:=hflo i hiq;rw[hrr]at hF;have hclash2:∀(k l:Nat) (x y:RI),(x.cls=2∧pO pl k=none)→(y.cls=2∧pO pl l=none)→clashO (pO pl k) (pO pl l) x y=true:=fun k l x y hx hy=>by simp[clashO,hx.1,hx.2,hy.1,hy.2]
   have ordered:∀j,j<q→∀id e,wwC os j=some (id,e)→id∈rido (pO pl i) (stC2 rl os s0 (fun _=>true) i) r→(lset listed j=true↔j<i):=by
    intro j hj id e hw hrid;have hFj:=hflo j hj;have hlt:=hFj.lt hw;have hst:Go.Tm.wB (pO pl j) (rl.getD j ri0)=true:=by rw[hw]at hFj;exact hFj.wB
    rcases Nat.lt_trichotomy j i with hji|hji|hji
    ·refine⟨fun _=>hji,fun _=>?_⟩;have hcf:confO (pO pl j) (pO pl i) (rl.getD j ri0) r=true:=by rw[confO_comm];exact rid_confO hrid hst
     rcases hf.pairs j i _ r hji hiq (hgd j hj) hr hcf with h|h
     ·exact h3 j (by omega) h
     ·exact(hap j i hji hiq h id hlt.2.2 (by rw[hrr];exact hrid)).elim
    ·subst hji;rw[h2];simp
    ·refine⟨fun hL=>?_,fun h=>by omega⟩;have hcf:confO (pO pl i) (pO pl j) r (rl.getD j ri0)=true:=rid_confO hrid hst;rcases hf.pairs i j r _ hji hj hr (hgd j hj) hcf with h|h
     ·have:=masks_bit hcl hL h;rw[h2]at this;cases this
     ·exact(hap i j hji hj h id (by rw[hrr];exact hrid) hlt.2.2).elim
   refine flo_opO hco hF (s:=stC2 rl os s0 (lset listed) q) ?_ ?_ ?_ ?_ hrel (Yn h1) ?_
   ·intro y hy;refine tS_reads s0.t (by omega) fun j hj hd=>?_;have hxj:=hgd j hj;constructor
    ·intro hLj;rcases vo j i with h|h
     ·exact h
     ·exfalso;rcases Cs h with h|h
      ·rw[←h,h2]at hLj;cases hLj
      ·have:=late j _ h hj hxj (by
        simp only[dstC]at hd;simp only[clashO,hd,Vo];refine .inl (.inr ?_);simpa using hy)
       rw[this]at hLj;cases hLj
    ·intro hji;exact early j _ hji hxj (by
      simp only[dstC]at hd;simp only[clashO,hd,Vo];refine .inl (.inl (.inl ?_));simpa using hy)
   ·intro hpo hcls;simp only[stC2,sS_length];refine congrArg Yr (mS_exact s0.m (Nat.le_of_lt hiq) fun j hj hx=>?_);have hxj:=hgd j hj;have hcj:=hmake j hj hx;constructor
    ·intro hLj;rcases vo j i with h|h
     ·exact h
     ·exfalso;rcases Cs h with h|h
      ·rw[←h,h2]at hLj;cases hLj
      ·have:=late j _ h hj hxj (hclash2 _ _ _ _ ⟨hcls,hpo⟩ hcj);rw[this]at hLj;cases hLj
    ·intro hji;exact early j _ hji hxj (hclash2 _ _ _ _ hcj ⟨hcls,hpo⟩)
   ·rintro id hrid ⟨e,he⟩ hid;obtain⟨k,hk,hmk'⟩:=mS_prefix (xx:=xxC os) (L:=lset listed) s0.m q fun i1 j1 hij hj hx1 hx2 hL1=>
     masks_bit hcl hL1 (hf.apart i1 j1 _ _ hij hj (hgd i1 (by omega)) (hgd j1 hj) (hclash2 _ _ _ _ (hmake i1 (by omega) hx1) (hmake j1 hj hx2)))
    simp only[stC2,sS_length]at he hid⊢;have hlt:id<(mS (xxC os) (fun _=>true) s0.m i).length:=by
     have:=(Mn.1 he).1;rwa [sS_length]at this
    rw[sS_get _ _ _ hid,sS_get _ _ _ hlt,lastW_same (by omega) fun j hj e hw=>ordered j hj id e hw hrid];have hbase:(mS (xxC os) (lset listed) s0.m q)[id]?=(mS (xxC os) (fun _=>true) s0.m i)[id]?:=by
     rw[hmk']at hid⊢;rcases Nat.le_total i k with h|h
     ·obtain⟨rr,hrr'⟩:=mS_mono (xx:=xxC os) s0.m h;rw[hrr',Io hlt]
     ·obtain⟨rr,hrr'⟩:=mS_mono (xx:=xxC os) s0.m h;rw[hrr',Io hid]
    rw[hbase]
   ·intro p hp;simp only[stC2,sS_length];exact Eo (hpl i p hp) (mS_le _ _)
   ·intro G' w' a' hrel' hs' hlt;have hmstep:mS (xxC os) (lset (listed.setIfInBounds i true)) s0.m q=mS (xxC os) (lset listed) s0.m q++xxC os i:=by
     refine mS_step s0.m h2 h5 hiq ?_;intro j hij hjq hx1 hx2;have:=hmake i hiq hx1;rw[hrr]at this;exact late j _ hij hjq (hgd j hjq) (hclash2 _ _ _ _ this (hmake j hjq hx2))
    have hst:after2 (stC2 rl os s0 (lset listed) q) r (ddC os i) (xxC os i) (wwC os i)=stC2 rl os s0 (lset (listed.setIfInBounds i true)) q:=by
     rw[after2_t];simp only[stC2,St.mk.injEq];constructor
     ·rw[tS_step s0.t h2 h5 hiq ?_]
      ·have hdr:dstC rl i=r.dst:=by unfold dstC;rw[hrr]
       rw[hdr]
       first|done|(cases r.dst<;>rfl)
      ·intro j hij hjq y hdi hdj;unfold dstC at hdi hdj;rw[hrr]at hdi;exact late j _ hij hjq (hgd j hjq) (by
        simp only[clashO,hdi,hdj,Vo];exact .inl (.inl (.inr (by simp))))
     ·rw[hmstep,sS_step _ h2 h5 hiq ?_]
      ·rw[sS_app _ _ _ fun j hj hL id e he=>hV j hj hL id e he]
       cases hw:wwC os i with
       |none=>rfl
       |some p=>
        obtain⟨id,e⟩:=p;have:=(hF.lt hw).2.1;simp only[wr,this,bo]
      ·intro j hij hjq hL id e e' hwi hwj;have:=(ordered j hjq id e' hwj (hF.lt hwi).2.2).1 hL;omega
    rw[hst]at hrel';refine ih (listed.setIfInBounds i true) G' w' a' ?_ (by simp[hsz]) h4 ?_ hrel' ?_ ?_
    ·have:=filter_lt h2 h5 (l:=wo ops.size) (by simp[h1]);omega
    ·intro j hj;rw[h5,htail j hj];simp;omega
    ·intro j hj hL id e he;rw[hmstep,uo];rw[h5,Vo,beq_iff_eq]at hL;rcases hL with hL|rfl
     ·have:=hV j hj hL id e he;omega
     ·have:=hlt id e he;simp only[stC2,sS_length]at this;omega
    ·intro s'' G'' w'' a'' k1 k2 k3;refine hQ s'' G'' w'' a'' k1 k2 (hs'.trans ?_);have hm':wr (stC2 rl os s0 (lset listed) q).m (wwC os i)++xxC os i=(stC2 rl os s0 (lset (listed.setIfInBounds i true)) q).m:=by
      rw[←hst,after2_t]
     rw[hm'];exact k3
end
def DrTO(P:Program):List (Option Nat)→List (List Nat)→List (List Nat)→Nat→List RI→(St→Prop)→St→Prop
 |_,_,_,0,l,K,s=>RegT P l K s
 |_,_,_,_+1,[],_,_=>False
 |pl,ps,fp,q+1,.op dst g i::l,K,s=>
  match pl.headD none with
  |some p=>apB fp [p] (ps.headD [])=true∧g=none∧∃d e,fillI s p i=some (d,e)∧DrTO P pl.tail ps.tail (fp++[[p]]) q l K ({ s with m:=s.m.set p e }.put dst d)
  |none=>
   apB fp (rid s (.op dst g i)) (ps.headD [])=true∧
   match gate s g with
   |none=>False
   |some none=>∃d m',setB s i=true∧evalI s i=some (d,m')∧DrTO P pl.tail ps.tail (fp++[rid s (.op dst g i)]) q l K ({ s with m:=m' }.put dst d)
   |some (some (c,b))=>(c=b→∃d m',setB s i=true∧evalI s i=some (d,m')∧DrTO P pl.tail ps.tail (fp++[rid s (.op dst g i)]) q l K ({ s with m:=m' }.put dst d))∧(c≠b→DrTO P pl.tail ps.tail (fp++[rid s (.op dst g i)]) q l K (s.put dst (.v undef)))
 |pl,ps,fp,q+1,.call dst g f args::l,K,s=>
  match pl.headD none,s.cv f with
  |some p,.fn k first caps=>g=none∧p∈topsD s args∧apB fp (topsD s args) (ps.headD [])=true∧∃d e,((∀id∈topsD s args,id<s.m.length)∧∀m,(∀id∈topsD s args,m[id]?=s.m[id]?)→CallT P k (first++args.map s.ev++caps) m fun d' m'=>d'=d∧m'=m.set p e)∧DrTO P pl.tail ps.tail (fp++[topsD s args]) q l K ({ s with m:=s.m.set p e }.put dst d)
  |none,.fn k first caps=>
   match gate s g with
   |none=>False
   |some none=>apB fp (topsD s args) (ps.headD [])=true∧∃d,((∀id∈topsD s args,id<s.m.length)∧∀m,(∀id∈topsD s args,m[id]?=s.m[id]?)→CallT P k (first++args.map s.ev++caps) m fun d' m'=>d'=d∧m'=m)∧DrTO P pl.tail ps.tail (fp++[topsD s args]) q l K (s.put dst d)
   |some (some (c,b))=>apB fp (topsD s args) (ps.headD [])=true∧(c=b→∃d,((∀id∈topsD s args,id<s.m.length)∧∀m,(∀id∈topsD s args,m[id]?=s.m[id]?)→CallT P k (first++args.map s.ev++caps) m fun d' m'=>d'=d∧m'=m)∧DrTO P pl.tail ps.tail (fp++[topsD s args]) q l K (s.put dst d))∧(c≠b→DrTO P pl.tail ps.tail (fp++[topsD s args]) q l K (s.put dst (.v undef)))
  |none,_=>apB fp (topsD s args) (ps.headD [])=true∧(∃c b,gate s g=some (some (c,b))∧c≠b)∧DrTO P pl.tail ps.tail (fp++[topsD s args]) q l K (s.put dst (.v undef))
  |_,_=>False
section
variable {P:Program} {K:St→Prop}
theorem pO_tail{pl:List (Option Nat)}{j:Nat}:pO pl.tail j=pO pl (j+1):=by unfold pO;cases pl<;>simp
theorem drTO_flo:∀{q:Nat}{l:List RI}{s:St}{pl:List (Option Nat)}{ps:List (List Nat)}{fp:List (List Nat)},DrTO P pl ps fp q l K s→(∀(j:Nat) y,j<q→l[j]?=some y→((pO pl j).isSome || y.mild)=true)→
 ∃os rs s1,FloO P pl (l.take q) s os rs s1∧RegT P (l.drop q) K s1∧(∀j,j<q→∀i∈ps.getD j [],i<fp.length+j→apart1 ((fp++rs).getD i []) (rs.getD j [])=true)
 |0,l,s,pl,ps,fp,h,_=>⟨[],[],s,by simp[FloO],by simpa [DrTO] using h,fun j hj=>by omega⟩
 |q+1,[],s,pl,ps,fp,h,_=>by simp[DrTO]at h
 |q+1,.op dst g i::l,s,pl,ps,fp,h,hc=>by
  have hc':∀(j:Nat) y,j<q→l[j]?=some y→((pO pl.tail j).isSome || y.mild)=true:=fun j y hj hy=>by rw[pO_tail];exact hc (j+1) y (by omega) (by simpa using hy)
  simp only[DrTO]at h;have join:∀{s2:St} {d x w},apB fp (rido (pl.headD none) s (.op dst g i)) (ps.headD [])=true→FloStepO P (pl.headD none) (.op dst g i) s d x w→after2 s (.op dst g i) d x w=s2→DrTO P pl.tail ps.tail (fp++[rido (pl.headD none) s (.op dst g i)]) q l K s2→
   ∃os rs s1,FloO P pl ((RI.op dst g i::l).take (q+1)) s os rs s1∧RegT P ((RI.op dst g i::l).drop (q+1)) K s1∧(∀j,j<q+1→∀i∈ps.getD j [],i<fp.length+j→apart1 ((fp++rs).getD i []) (rs.getD j [])=true):=by
   intro s2 d x w hap hF hs hD;obtain⟨os,rs,s1,h1,h2,h3⟩:=drTO_flo hD hc';refine⟨(d,x,w)::os,rido (pl.headD none) s (.op dst g i)::rs,s1,by simp only[Zo,FloO];exact⟨d,x,w,os,rs,rfl,rfl,hF,by rw[hs];exact h1⟩,by simpa using h2,fun j hj k hk hlt=>?_⟩
   cases j with
   |zero=>
    have hk':k∈ps.headD []:=by cases ps with|nil=>simp at hk|cons a b=>simpa using hk
    have hkf:k<fp.length:=by omega
    have hget:(fp++rido (pl.headD none) s (.op dst g i)::rs).getD k []=fp.getD k []:=by
     rw[Dn,Io hkf,Dn]
    rw[hget,iq];exact apB_one hap hk'
   |succ j=>
    have hk':k∈ps.tail.getD j []:=by cases ps with|nil=>simp at hk|cons a b=>simpa using hk
    have:=h3 j (by omega) k hk' (by simp;omega);rw[Mo,ir]at this;rw[Bq];exact this
  split at h
  ·rename_i p hp;obtain⟨hap,rfl,d,e,hf,hD⟩:=h;exact join (d:=d) (x:=[]) (w:=some (p,e)) (by rw[hp];exact hap) (by rw[hp];exact .inl ⟨dst,i,e,rfl,rfl,rfl,hf⟩) (show after2 s (.op dst none i) d [] (some (p,e))=({ s with m:=s.m.set p e }:St).put dst d by unfold after2;simp[wr,RI.dst]) (by rw[hp];exact hD)
  ·rename_i hp;have hci:(RI.op dst g i).mild=true:=by
    have:=hc 0 _ (by omega) rfl;have h0:pO pl 0=none:=by rw[←hp];cases pl<;>rfl
    simpa [h0] using this
   simp only[hp,rido,FloStepO]at join;obtain⟨hap,h⟩:=h;have on:∀{d:D} {m':List Ent},setB s i=true→evalI s i=some (d,m')→(gate s g=some none∨∃c,gate s g=some (some (c,c)))→DrTO P pl.tail ps.tail (fp++[rid s (.op dst g i)]) q l K ({ s with m:=m' }.put dst d)→
    ∃os rs s1,FloO P pl ((RI.op dst g i::l).take (q+1)) s os rs s1∧RegT P ((RI.op dst g i::l).drop (q+1)) K s1∧(∀j,j<q+1→∀i∈ps.getD j [],i<fp.length+j→apart1 ((fp++rs).getD i []) (rs.getD j [])=true):=by
    intro d m' hsb he hg hD;simp only[RI.mild,Vo,decide_eq_true_eq]at hci;by_cases hcl:i.cls≤2
    ·have ext:∃x,m'=s.m++x:=by
      rcases vo i.cls 2 with h2|h2
      ·exact⟨[],by rw[bo];exact(evalI_congr (s:=s) (s':=s) (by omega) (fun _ _=>rfl) (fun _ _ _ _=>rfl) he).1⟩
      ·obtain⟨e,h,_⟩:=evalI_make' (s:=s) (s':=s) (by omega) (fun _ _=>rfl) rfl he;exact⟨[e],h⟩
     obtain⟨x,rfl⟩:=ext;exact join hap (x:=x) (w:=none) (.inl ⟨hg,.inl ⟨rfl,hcl,he⟩⟩) rfl hD
    ·have ht:i.tgt.isSome=true:=by rcases hci with h|h;exact absurd h hcl;exact h
     obtain⟨a,ha⟩:=Option.isSome_iff_exists.1 ht;obtain⟨id,e,h1,rfl,h3,h4⟩:=evalI_set ha hsb he;refine join hap (x:=[]) (w:=some (id,e)) (.inl ⟨hg,.inr ⟨rfl,a,id,e,ha,h1,rfl,he,?_,hsb⟩⟩) ?_ hD
     ·obtain⟨e0,he0⟩:=h3;exact(Mn.1 he0).1
     ·unfold after2;simp[wr,RI.dst]
   have off:(∃c b,gate s g=some (some (c,b))∧c≠b)→DrTO P pl.tail ps.tail (fp++[rid s (.op dst g i)]) q l K (s.put dst (.v undef))→
    ∃os rs s1,FloO P pl ((RI.op dst g i::l).take (q+1)) s os rs s1∧RegT P ((RI.op dst g i::l).drop (q+1)) K s1∧(∀j,j<q+1→∀i∈ps.getD j [],i<fp.length+j→apart1 ((fp++rs).getD i []) (rs.getD j [])=true):=fun hg hD=>
    join hap (d:=.v undef) (x:=[]) (w:=none) (.inr ⟨hg,rfl,rfl,rfl⟩) (by unfold after2;simp[wr,RI.dst]) hD
   split at h
   ·exact h.elim
   ·rename_i hg;obtain⟨d,m',hsb,he,hD⟩:=h;exact on hsb he (.inl hg) hD
   ·rename_i c b hg;by_cases hcb:c=b
    ·subst hcb;obtain⟨d,m',hsb,he,hD⟩:=h.1 rfl;exact on hsb he (.inr ⟨c,hg⟩) hD
    ·exact off ⟨c,b,hg,hcb⟩ (h.2 hcb)
 |q+1,.call dst g f args::l,s,pl,ps,fp,h,hc=>by
  have hc':∀(j:Nat) y,j<q→l[j]?=some y→((pO pl.tail j).isSome || y.mild)=true:=fun j y hj hy=>by rw[pO_tail];exact hc (j+1) y (by omega) (by simpa using hy)
  rcases hp:pl.headD none with _|p
  rotate_left
  ·simp only[DrTO]at h
   cases hf:s.cv f with
   |fn k first caps=>
    simp only[hp,hf]at h;obtain⟨rfl,hpt,hap,d,e,hcall,hD⟩:=h;obtain⟨os,rs,s1,h1,h2,h3⟩:=drTO_flo hD hc';refine⟨(d,[],some (p,e))::os,topsD s args::rs,s1,?_,by simpa using h2,fun j hj k hk hlt=>?_⟩
    ·simp only[Zo,FloO,hp];refine⟨d,[],some (p,e),os,rs,rfl,rfl,.inr ⟨dst,f,args,k,first,caps,e,rfl,rfl,rfl,hf,hpt,hcall.1,hcall.2⟩,?_⟩;rw[show after2 s (.call dst none f args) d [] (some (p,e))=({ s with m:=s.m.set p e }:St).put dst d by unfold after2;simp[wr,RI.dst]];exact h1
    ·cases j with
     |zero=>
      have hk':k∈ps.headD []:=by cases ps with|nil=>simp at hk|cons a b=>simpa using hk
      have hkf:k<fp.length:=by omega
      have hget:(fp++topsD s args::rs).getD k []=fp.getD k []:=by
       rw[Dn,Io hkf,Dn]
      rw[hget,iq];exact apB_one hap hk'
     |succ j=>
      have hk':k∈ps.tail.getD j []:=by cases ps with|nil=>simp at hk|cons a b=>simpa using hk
      have:=h3 j (by omega) k hk' (by simp;omega);rw[Mo,ir]at this;rw[Bq];exact this
   |_=>simp only[hp,hf]at h
  have haf:∀d,after2 s (.call dst g f args) d [] none=s.put dst d:=fun d=>by unfold after2;simp[wr,RI.dst]
  have join:∀{d},apB fp (topsD s args) (ps.headD [])=true→FloStep2 P (.call dst g f args) s d [] none→DrTO P pl.tail ps.tail (fp++[topsD s args]) q l K (s.put dst d)→
   ∃os rs s1,FloO P pl ((RI.call dst g f args::l).take (q+1)) s os rs s1∧RegT P ((RI.call dst g f args::l).drop (q+1)) K s1∧(∀j,j<q+1→∀i∈ps.getD j [],i<fp.length+j→apart1 ((fp++rs).getD i []) (rs.getD j [])=true):=by
   intro d hap hF hD;obtain⟨os,rs,s1,h1,h2,h3⟩:=drTO_flo hD hc';refine⟨(d,[],none)::os,topsD s args::rs,s1,by simp only[Zo,FloO,hp,rido,rid,FloStepO];exact⟨d,[],none,os,rs,rfl,rfl,hF,by rw[haf];exact h1⟩,by simpa using h2,fun j hj k hk hlt=>?_⟩
   cases j with
   |zero=>
    have hk':k∈ps.headD []:=by cases ps with|nil=>simp at hk|cons a b=>simpa using hk
    have hkf:k<fp.length:=by omega
    have hget:(fp++topsD s args::rs).getD k []=fp.getD k []:=by
     rw[Dn,Io hkf,Dn]
    rw[hget,iq];exact apB_one hap hk'
   |succ j=>
    have hk':k∈ps.tail.getD j []:=by cases ps with|nil=>simp at hk|cons a b=>simpa using hk
    have:=h3 j (by omega) k hk' (by simp;omega);rw[Mo,ir]at this;rw[Bq];exact this
  simp only[DrTO]at h
  cases hf:s.cv f with
  |fn k first caps=>
   simp only[hp,hf]at h;split at h
   ·exact h.elim
   ·rename_i hg;obtain⟨hap,d,hcall,hD⟩:=h;exact join hap ⟨rfl,rfl,.inl ⟨k,first,caps,hf,.inl hg,hcall⟩⟩ hD
   ·rename_i c b hg;obtain⟨hap,h⟩:=h;by_cases hcb:c=b
    ·subst hcb;obtain⟨d,hcall,hD⟩:=h.1 rfl;exact join hap ⟨rfl,rfl,.inl ⟨k,first,caps,hf,.inr ⟨c,hg⟩,hcall⟩⟩ hD
    ·exact join hap ⟨rfl,rfl,.inr ⟨⟨c,b,hg,hcb⟩,rfl⟩⟩ (h.2 hcb)
  |_=>
   simp only[hp,hf]at h;obtain⟨hap,⟨c,b,hg,hcb⟩,hD⟩:=h;exact join hap ⟨rfl,rfl,.inr ⟨⟨c,b,hg,hcb⟩,rfl⟩⟩ hD
end
section
variable {P:Program} {N:Nat} {ops:Array Oper} {Q:Exit→Act→World→Prop} {K:St→Prop} {rl:List RI} {q:Nat} {ps:List (List Nat)} {pl:List (Option Nat)}
theorem any_soundO(hmix:P.follows .mixedOrders=true) (hc:compOps P ops ops.toList=some rl) (hf:DrawFactsO (befores ops) rl q ps pl) {s:St}(hD:DrTO P pl ps [] q rl K s) (hpl:∀i p,pO pl i=some p→p<s.m.length)
 {id:Nat} {G:Gh} {w:World} {a:Act} (hr:Rel G w a s) (hQ:∀s' G' w' a',K s'→Rel G' w' a' s'→Step G w s.m G' w' s'.m→Q .normal a' w'):(Code.region id ops true).wp P Q a w:=by
 obtain⟨os,rs,s1,hF,hT,hap⟩:=drTO_flo hD hf.mild;have hlenT:(rl.take q).length=q:=by rw[No];have:=hf.hq;omega
 have hlenO:=hF.length;rw[hlenT]at hlenO;have h0:stC2 rl os s (fun _=>true) 0=s:=rfl;obtain⟨g1,g2⟩:=FloO.get (pl:=pl) (rl:=rl) (os:=os) (s0:=s) (k:=0) (l:=rl.take q) (os':=os) (s':=s1) (rs:=rs) (by rw[Lp,hlenT]) (by rw[Lp,List.take_length]) (fun j hj=>by omega) (by rw[h0];exact hF);simp only[hlenT,Nat.zero_add]at g1 g2;subst g2;have hL0:∀j,lset (dq ops.size false) j=false:=by
  intro j;unfold lset;simp only[bq,Array.getElem?_replicate];split<;>rfl
 have hst0:stC2 rl os s (lset (dq ops.size false)) q=s:=by
  have ht:∀n,tS (dstC rl) (ddC os) (lset (dq ops.size false)) s.t n=s.t:=by
   intro n
   induction n with
   |zero=>rfl
   |succ n ih=>simp only[tS,hL0,tn,if_false,ih]
  have hm:∀n,mS (xxC os) (lset (dq ops.size false)) s.m n=s.m:=by
   intro n
   induction n with
   |zero=>rfl
   |succ n ih=>simp only[mS,hL0,tn,if_false,ih]
  have hw:∀n,sS (wwC os) (lset (dq ops.size false)) s.m n=s.m:=by
   intro n
   induction n with
   |zero=>rfl
   |succ n ih=>simp only[sS,hL0,tn,if_false,ih]
  unfold stC2;rw[ht,hm,hw]
 refine wp_region_any hmix ?_;have hs:=Same.drew w;refine draw_headO hc hf (fun i hi=>(g1 i hi).1) hpl ?_ ?_ hT ops.size _ G _ a ?_ (by simp) ?_ (fun j _=>hL0 j) ?_ (fun j _ h=>by rw[hL0]at h;cases h) ?_
 ·intro i hi hx;have h:=(g1 i hi).1;rcases hp:pO pl i with _|p
  ·rw[hp]at h;refine⟨?_,rfl⟩
   cases hri:rl.getD i ri0 with
   |call dst g f args=>
    rw[hri]at h;obtain⟨h,_⟩:=h;exact(hx h).elim
   |op dst g j=>
    rw[hri]at h;rcases h with⟨-,⟨_,hcl,h⟩|⟨h,_⟩⟩|⟨-,-,h,_⟩
    ·simp only[RI.cls];rcases vo j.cls 2 with h2|h2
     ·obtain⟨hm,-⟩:=evalI_congr (s:=stC2 rl os s (fun _=>true) i) (s':=stC2 rl os s (fun _=>true) i) (by omega) (fun _ _=>rfl) (fun _ _ _ _=>rfl) h;exfalso;have:=congrArg Yr hm;simp at this;exact hx this
     ·omega
    ·exact(hx h).elim
    ·exact(hx h).elim
  ·rw[hp]at h;rcases h with⟨_,_,_,_,h,_⟩|⟨_,_,_,_,_,_,_,_,h,_⟩
   ·exact(hx h).elim
   ·exact(hx h).elim
 ·intro i j hij hj hi id h1 h2;have:=hap j hj i hi (by simpa using hij);rw[List.nil_append,(g1 i (by omega)).2,(g1 j hj).2]at this;exact apart1_ne this h1 h2
 ·have:=List.length_filter_le (fun j=>!lset (dq ops.size false) j) (wo ops.size);simpa using this
 ·intro i b _ hi;rw[hL0]at hi;cases hi
 ·rw[hst0];exact⟨hr.t.mono (hs.le G),hs.inv hr.inv,hr.defers⟩
 ·intro s' G' w' a' k1 k2 k3;rw[hst0]at k3;exact hQ s' G' w' a' k1 k2 ((hs.step G s.m).trans k3)
def plB(m:List Ent) (pl:List (Option Nat)):Bool:=pl.all fun o=>match o with|some p=>decide (p<m.length)|none=>true
theorem plB_lt{m:List Ent}{pl:List (Option Nat)}(h:plB m pl=true):∀i p,pO pl i=some p→p<m.length:=by
 intro i p hp;unfold plB at h;rw[qo]at h;unfold pO at hp;have hm:some p∈pl:=by
  rw[Dn]at hp
  cases hg:pl[i]? with
  |none=>rw[hg]at hp;cases hp
  |some o=>rw[hg]at hp;rw[←hp];exact Bo hg
 simpa using h _ hm
theorem T.anyO(hm:P.follows .mixedOrders=true) {cuts:List Nat}{bs:List (List Nat)}{l:List RI}{K:Exit→St→Prop}{s:St}(ps:List (List Nat)) (pl:List (Option Nat)) (hok:drawOkO bs l q ps pl=true) (hpl:plB s.m pl=true) (h:DrTO P pl ps [] q l (K .normal) s):T P N (.any cuts q bs l) K s:=by
 intro code hc G w a hN hr;obtain⟨id,ops,rfl,rfl,hc',hto⟩:=comp_any hc;exact any_soundO hm hc' (drawOkO_facts (tailOk_facts hto).1 hok) h (plB_lt hpl) hr fun s' G' w' a' k1 k2 k3=>⟨s',G',k1,k2,k3.toN hN⟩
theorem drT2_TO{K:St→Prop}:∀{q:Nat}{l:List RI}{ps fp:List (List Nat)}{s:St},DrT2 P ps fp q l K s→DrTO P [] ps fp q l K s
 |0,l,ps,fp,s,h=>by simpa only[DrTO,DrT2] using h
 |q+1,[],ps,fp,s,h=>by simp[DrT2]at h
 |q+1,.op dst g i::l,ps,fp,s,h=>by
  simp only[DrTO,DrT2,Qs,Ts]at h⊢;refine⟨h.1,?_⟩;have h2:=h.2
  cases hg:gate s g with
  |none=>simp only[hg]at h2
  |some o=>
   cases o with
   |none=>
    simp only[hg]at h2⊢;obtain⟨d,m',h1,h2,h3⟩:=h2;exact⟨d,m',h1,h2,drT2_TO h3⟩
   |some cb=>
    obtain⟨c,b⟩:=cb;simp only[hg]at h2⊢;refine⟨fun hc=>?_,fun hc=>drT2_TO (h2.2 hc)⟩;obtain⟨d,m',h1,h2,h3⟩:=h2.1 hc;exact⟨d,m',h1,h2,drT2_TO h3⟩
 |q+1,.call dst g f args::l,ps,fp,s,h=>by
  simp only[DrTO,DrT2,Qs,Ts]at h⊢
  cases hf:s.cv f with
  |fn k first caps=>
   simp only[hf]at h⊢
   cases hg:gate s g with
   |none=>simp only[hg]at h
   |some o=>
    cases o with
    |none=>
     simp only[hg]at h⊢;obtain⟨h0,d,h1,h3⟩:=h;exact⟨h0,d,h1,drT2_TO h3⟩
    |some cb=>
     obtain⟨c,b⟩:=cb;simp only[hg]at h⊢;refine⟨h.1,fun hc=>?_,fun hc=>drT2_TO (h.2.2 hc)⟩;obtain⟨d,h1,h3⟩:=h.2.1 hc;exact⟨d,h1,drT2_TO h3⟩
  |_=>simp only[hf]at h
theorem T.any2(hm:P.follows .mixedOrders=true) {cuts:List Nat}{bs:List (List Nat)}{l:List RI}{K:Exit→St→Prop}{s:St}(ps:List (List Nat)) (hok:drawOkO bs l q ps []=true) (h:DrT2 P ps [] q l (K .normal) s):T P N (.any cuts q bs l) K s:=
 T.anyO hm ps [] hok rfl (drT2_TO h)
theorem T.drawO(hm:P.follows .mixedOrders=true) {l:List RI}{K:Exit→St→Prop}{s:St}(h:DrTO P [] [] [] q l (K .normal) s):T P N (.draw q l) K s:=by
 intro code hc G w a hN hr;obtain⟨id,ops,rfl,hc',hok⟩:=comp_draw hc;have hf:=drawOk_facts hok;have hp0:∀i,pO [] i=none:=fun i=>rfl;have notgt:∀(j:Nat) d g i,j<q→l[j]?=some (.op d g i)→i.tgt=none:=by
  intro j d g i hj hl;have h1:=hf.cls j _ hj hl
  cases ht:i.tgt with
  |none=>rfl
  |some x=>have:=(tgt_cls ht).1;simp only[RI.cls]at h1;omega
 refine any_soundO hm hc' (ps:=[]) (pl:=[]) ⟨hf.toTailFacts,?_,?_,?_⟩ h (fun i p hp=>by rw[hp0]at hp;cases hp) hr fun s' G' w' a' k1 k2 k3=>⟨s',G',k1,k2,k3.toN hN⟩
 ·intro j y hj hy;have:=hf.cls j y hj hy;rw[hp0]
  cases y with
  |call=>rfl
  |op d g i=>simp only[RI.mild,RI.cls]at this⊢;simp[this]
 ·intro i j x y hij hj hx hy hcl;refine hf.apart i j x y hij hj hx hy ?_;rw[hp0,hp0]at hcl;have hcc:clashO none none x y=clash x y:=by unfold clashO clash;cases x.dst<;>cases y.dst<;>rfl
  rwa [hcc]at hcl
 ·intro i j x y hij hj hx hy hcf;exfalso;rw[hp0,hp0]at hcf
  cases x with
  |call=>
   cases y with
   |call=>simp[confO,wB]at hcf
   |op d g k=>have:=notgt j d g k hj hy;simp[confO,wB,this]at hcf
  |op d g k=>
   have h1:=notgt i d g k (by omega) hx
   cases y with
   |call=>simp[confO,wB,h1]at hcf
   |op d' g' k'=>have h2:=notgt j d' g' k' hj hy;simp[confO,wB,h1,h2]at hcf
theorem T.drawP(hm:P.follows .mixedOrders=true) {l:List RI}{K:Exit→St→Prop}{s:St}(ps:List (List Nat)) (pl:List (Option Nat)) (hcl:∀i p,pO pl i=some p→∃a b c d,l[i]?=some (.call a b c d))
 (hps:∀j,j<q→∀i,i<j→i∈ps.getD j []) (hpl:plB s.m pl=true) (h:DrTO P pl ps [] q l (K .normal) s):T P N (.draw q l) K s:=by
 intro code hc G w a hN hr;obtain⟨id,ops,rfl,hc',hok⟩:=comp_draw hc;have hf:=drawOk_facts hok;refine any_soundO hm hc' (ps:=ps) (pl:=pl) ⟨hf.toTailFacts,?_,?_,?_⟩ h (plB_lt hpl) hr fun s' G' w' a' k1 k2 k3=>⟨s',G',k1,k2,k3.toN hN⟩
 ·intro j y hj hy;have:=hf.cls j y hj hy
  cases y with
  |call=>simp[RI.mild]
  |op d g i=>simp only[RI.mild,RI.cls]at this⊢;simp[this]
 ·intro i j x y hij hj hx hy hcl';refine hf.apart i j x y hij hj hx hy ?_;have hcc:clashO none none x y=clash x y:=by unfold clashO clash;cases x.dst<;>cases y.dst<;>rfl
  rw[←hcc];have hle:∀o o':Option Nat,clashO o o' x y=true→clashO none none x y=true:=by
   intro o o' h;unfold clashO at h⊢
   revert h
   cases o<;>cases o'<;>simp +contextual
   all_goals (intro h;rcases h with h|h<;>simp[h])
  exact hle _ _ hcl'
 ·intro i j x y hij hj hx hy hcf;exact .inr (hps j hj i hij)
end
end Go.Tm
namespace Go.Tm
section
variable {P:Program} {N:Nat}
mutual
def Ad(n:Nat):D→D→Prop
 |.v x,.own i v=>x=.slice none 0 0∧i=n∧v=0
 |.agg l,.agg r=>Ads n l r
 |d,e=>d=e
def Ads(n:Nat):List D→List D→Prop
 |[],r=>r=[]
 |d::l,r=>∃e r',r=e::r'∧Ad n d e∧Ads n l r'
end
theorem Ad.inv{n:Nat}{d e:D}(h:Ad n d e):(d=.v (.slice none 0 0)∧e=.own n 0)∨(∃l r,d=.agg l∧e=.agg r∧Ads n l r)∨d=e:=by
 cases d<;>cases e<;>simp_all[Ad]
mutual
theorem Ad.rel{G:Gh}{w:World}{n:Nat}(ho:VRel G w (.own n 0) (.slice none 0 0)):∀{d e:D}{u:Value},Ad n d e→VRel G w d u→VRel G w e u
 |.agg l,e,u,hs,h=>by
  rcases hs.inv with⟨h1,_⟩|⟨l',r,h1,rfl,h3⟩|rfl
  ·cases h1
  ·injection h1 with h1;subst h1;simp only[VRel]at h⊢;obtain⟨cs,rfl,h,h1⟩:=h;exact⟨cs,rfl,Ads.rel ho h3 h,h1⟩
  ·exact h
 |.v x,e,u,hs,h=>by
  rcases hs.inv with⟨h1,rfl⟩|⟨_,_,h1,_⟩|rfl
  ·injection h1 with h1;subst h1;simp only[VRel]at h;subst h;exact ho
  ·cases h1
  ·exact h
 |.tup l,e,u,hs,h=>by rcases hs.inv with⟨h1,_⟩|⟨_,_,h1,_⟩|rfl<;>first|cases h1|exact h
 |.sl S l,e,u,hs,h=>by rcases hs.inv with⟨h1,_⟩|⟨_,_,h1,_⟩|rfl<;>first|cases h1|exact h
 |.pt x,e,u,hs,h=>by rcases hs.inv with⟨h1,_⟩|⟨_,_,h1,_⟩|rfl<;>first|cases h1|exact h
 |.ref _ _ _ _,e,u,hs,h=>by rcases hs.inv with⟨h1,_⟩|⟨_,_,h1,_⟩|rfl<;>first|cases h1|exact h
 |.own _ _,e,u,hs,h=>by rcases hs.inv with⟨h1,_⟩|⟨_,_,h1,_⟩|rfl<;>first|cases h1|exact h
 |.view _ _ _ _,e,u,hs,h=>by rcases hs.inv with⟨h1,_⟩|⟨_,_,h1,_⟩|rfl<;>first|cases h1|exact h
 |.fn _ _ _,e,u,hs,h=>by rcases hs.inv with⟨h1,_⟩|⟨_,_,h1,_⟩|rfl<;>first|cases h1|exact h
 |.mp _,e,u,hs,h=>by rcases hs.inv with⟨h1,_⟩|⟨_,_,h1,_⟩|rfl<;>first|cases h1|exact h
 |.ifc _ _,e,u,hs,h=>by rcases hs.inv with⟨h1,_⟩|⟨_,_,h1,_⟩|rfl<;>first|cases h1|exact h
 |.dead,e,u,hs,h=>by rcases hs.inv with⟨h1,_⟩|⟨_,_,h1,_⟩|rfl<;>first|cases h1|exact h
theorem Ads.rel{G:Gh}{w:World}{n:Nat}(ho:VRel G w (.own n 0) (.slice none 0 0)):∀{l r:List D}{us:List Value},Ads n l r→VsRel G w l us→VsRel G w r us
 |[],r,us,hs,h=>by simp only[Ads]at hs;subst hs;exact h
 |d::l,r,us,hs,h=>by
  simp only[Ads]at hs;obtain⟨e,r',rfl,h1,h2⟩:=hs;simp only[VsRel]at h⊢;obtain⟨u,us',rfl,g1,g2⟩:=h;exact⟨u,us',rfl,Ad.rel ho h1 g1,Ads.rel ho h2 g2⟩
end
theorem Ads.row{G:Gh}{w:World}{n b S:Nat}(ho:VRel G w (.own n 0) (.slice none 0 0)):∀{l r:List D}{off:Nat},Ads n l r→RowAt G w b S l off→RowAt G w b S r off
 |[],r,off,hs,h=>by simp only[Ads]at hs;subst hs;exact h
 |d::l,r,off,hs,h=>by
  simp only[Ads]at hs;obtain⟨e,r',rfl,h1,h2⟩:=hs;simp only[RowAt]at h⊢;obtain⟨⟨u,g1,g2,g3⟩,g4⟩:=h;exact⟨⟨u,Ad.rel ho h1 g1,g2,g3⟩,Ads.row ho h2 g4⟩
theorem Ads.length{n:Nat}:∀{l r:List D},Ads n l r→l.length=r.length
 |[],r,h=>by simp[Ads]at h;simp[h]
 |d::l,r,h=>by
  simp only[Ads]at h;obtain⟨e,r',rfl,_,h2⟩:=h;simp[Ads.length h2]
mutual
theorem Ad.refl(n:Nat):∀d:D,Ad n d d
 |.agg l=>by simp only[Ad];exact Ads.refl n l
 |.v x=>by simp[Ad]
 |.tup l=>by simp[Ad]
 |.sl S l=>by simp[Ad]
 |.pt d=>by simp[Ad]
 |.ref ..=>by simp[Ad]
 |.own ..=>by simp[Ad]
 |.view ..=>by simp[Ad]
 |.fn ..=>by simp[Ad]
 |.mp ..=>by simp[Ad]
 |.ifc ..=>by simp[Ad]
 |.dead=>by simp[Ad]
theorem Ads.refl(n:Nat):∀l:List D,Ads n l l
 |[]=>by simp[Ads]
 |d::l=>by simp only[Ads];exact⟨d,l,rfl,Ad.refl n d,Ads.refl n l⟩
end
theorem Ads.cons{n:Nat}{d e:D}{l r:List D}(h1:Ad n d e) (h2:Ads n l r):Ads n (d::l) (e::r):=by
 simp only[Ads];exact⟨e,r,rfl,h1,h2⟩
theorem Ad.nil(n:Nat):Ad n (.v (.slice none 0 0)) (.own n 0):=by simp[Ad]
def AdE(n:Nat):Ent→Ent→Prop
 |.live S v l,.live S' v' l'=>S=S'∧v=v'∧Ads n l l'
 |e,e'=>e=e'
def AdM(n:Nat):List Ent→List Ent→Prop
 |[],r=>r=[]
 |d::l,r=>∃e r',r=e::r'∧AdE n d e∧AdM n l r'
theorem AdE.refl(n:Nat) (e:Ent):AdE n e e:=by cases e<;>simp[AdE,Ads.refl]
theorem AdM.refl(n:Nat):∀m:List Ent,AdM n m m
 |[]=>by simp[AdM]
 |d::l=>by simp only[AdM];exact⟨d,l,rfl,AdE.refl n d,AdM.refl n l⟩
theorem AdM.cons{n:Nat}{d e:Ent}{l r:List Ent}(h1:AdE n d e) (h2:AdM n l r):AdM n (d::l) (e::r):=by
 simp only[AdM];exact⟨e,r,rfl,h1,h2⟩
theorem AdE.live{n S v:Nat}{l r:List D}(h:Ads n l r):AdE n (.live S v l) (.live S v r):=by simp only[AdE];exact⟨trivial,trivial,h⟩
theorem AdM.get{n:Nat}:∀{m m':List Ent},AdM n m m'→m.length=m'.length∧∀(i:Nat) e,m'[i]?=some e→∃e0,m[i]?=some e0∧AdE n e0 e
 |[],m',h=>by simp[AdM]at h;subst h;simp
 |d::m,m',h=>by
  simp only[AdM]at h;obtain⟨e,r',rfl,h1,h2⟩:=h;obtain⟨k1,k2⟩:=AdM.get h2;refine⟨by simp[k1],fun i e' he=>?_⟩
  cases i with
  |zero=>simp at he;subst he;exact⟨d,rfl,h1⟩
  |succ i=>simpa using k2 i e' (by simpa using he)
theorem AdM.append{n:Nat}:∀{m m':List Ent}(x:List Ent),AdM n m m'→AdM n (m++x) (m'++x)
 |[],m',x,h=>by simp[AdM]at h;subst h;exact AdM.refl n x
 |d::m,m',x,h=>by
  simp only[AdM]at h;obtain⟨e,r',rfl,h1,h2⟩:=h;simp only[List.cons_append];exact AdM.cons h1 (AdM.append x h2)
theorem AdE.rel{G:Gh}{w:World}{n i:Nat}{e e':Ent}(ho:VRel G w (.own n 0) (.slice none 0 0)) (h:AdE n e e') (hr:EntRel G w i e):EntRel G w i e':=by
 cases e with
 |live S v l=>
  cases e' with
  |live S' v' l'=>
   simp only[AdE]at h;obtain⟨rfl,rfl,h⟩:=h;obtain⟨a1,a2,a3,a4,a5⟩:=hr;rw[h.length]at a3 a4;refine⟨a1,a2,a3,a4,?_⟩;rcases a5 with a5|⟨b',cs,T,hb',hF,hblk,hsz,hrow⟩
   ·exact .inl a5
   ·exact .inr ⟨b',cs,T,hb',hF,hblk,hsz,Ads.row ho h hrow⟩
  |_=>simp[AdE]at h
 |_=>simp only[AdE]at h;subst h;exact hr
theorem AdE.isLive{n:Nat}{e e':Ent}(h:AdE n e e'):e'.isLive=e.isLive:=by
 cases e<;>cases e'<;>simp_all[AdE,Ent.isLive]
theorem T.adoptM{c:C}{K:Exit→St→Prop}{s:St}(S:Nat) {t':List D}{m':List Ent}(ht:Ads s.m.length s.t t') (hm:AdM s.m.length s.m m') (h:Tm.T P N c K ⟨t',m'++[.live S 0 []]⟩):Tm.T P N c K s:=by
 refine T.ghost (fun G w a hN hr=>?_) h;have hadd:=add_good (w':=w) hr.inv none S 0 0 (.live S 0 []) rfl rfl rfl rfl (En _) (fun _ _=>rfl) (fun k h=>by cases h)
  ⟨by simp[Gh.add],by simp[Gh.add],by simp[Gh.add],by simp,.inl ⟨by simp[Gh.add],by simp[Gh.add]⟩⟩
 have ho:=own_newB (s:=s) (b:=none) (S:=S) (N:=0) (C:=0) (w':=w) hr.inv.n;have hM:=(AdM.append [.live S 0 []] hm).get;have hi:=hadd.1;refine⟨_,⟨Ads.rel ho ht (hr.t.mono hadd.2.le),⟨by rw[hi.n,hM.1],hi.F,fun i e he=>?_,fun i j e e' he he' hl hl' b hb hb'=>?_,hi.gl⟩,hr.defers⟩,?_⟩
 ·obtain⟨e0,h0,h1⟩:=hM.2 i e he;exact h1.rel ho (hi.ent i e0 h0)
 ·obtain⟨e0,h0,h1⟩:=hM.2 i e he;obtain⟨e0',h0',h1'⟩:=hM.2 j e' he';exact hi.apart i j e0 e0' h0 h0' (by rw[←h1.isLive];exact hl) (by rw[←h1'.isLive];exact hl') b hb hb'
 ·refine { hadd.2.toN hN with newB:=fun b hb ho'=>hadd.2.newB b hb ?_ };obtain⟨i,e,he,hl,hB⟩:=ho';obtain⟨e0,h0,h1⟩:=hM.2 i e he;exact⟨i,e0,h0,by rw[←h1.isLive];exact hl,hB⟩
theorem T.addE{c:C}{K:Exit→St→Prop}{s:St}(S:Nat) (h:Tm.T P N c K ⟨s.t,s.m++[.live S 0 []]⟩):Tm.T P N c K s:=
 T.adoptM S (Ads.refl _ _) (AdM.refl _ _) h
theorem T.addEs{c:C}{K:Exit→St→Prop}:∀(l:List Nat) {s:St},Tm.T P N c K ⟨s.t,s.m++l.map fun S=>.live S 0 []⟩→Tm.T P N c K s
 |[],s,h=>by simpa using h
 |S::l,s,h=>T.addE S (T.addEs l (by simpa using h))
end
def adopt1(S t:Nat) (s:St):St:=match s.t[t]? with|some (.v (.slice none 0 0))=>⟨s.t.set t (.own s.m.length 0),s.m++[.live S 0 []]⟩|_=>s
theorem adopt1_T{P:Program}{N:Nat}{c:C}{K:Exit→St→Prop}{S t:Nat}{s:St}(h:Tm.T P N c K (adopt1 S t s)):Tm.T P N c K s:=by
 unfold adopt1 at h;split at h
 ·rename_i ht;exact T.adopt t S ht h
 ·exact h
def adoptX(S id x:Nat) (s:St):St:=
 match s.m[id]? with
 |some (.live S' v l)=>
  match l[x]? with
  |some (.v (.slice none 0 0))=>⟨s.t,s.m.set id (.live S' v (l.set x (.own s.m.length 0)))++[.live S 0 []]⟩
  |_=>s
 |_=>s
theorem Ads.set{n:Nat}:∀{l:List D}{x:Nat},l[x]?=some (.v (.slice none 0 0))→Ads n l (l.set x (.own n 0))
 |[],x,h=>by simp at h
 |d::l,0,h=>by simp at h;subst h;exact Ads.cons (Ad.nil n) (Ads.refl n l)
 |d::l,x+1,h=>Ads.cons (Ad.refl n d) (Ads.set (by simpa using h))
theorem AdM.set{n S v:Nat}{l l':List D}(hl:Ads n l l'):∀{m:List Ent}{id:Nat},m[id]?=some (.live S v l)→AdM n m (m.set id (.live S v l'))
 |[],id,h=>by simp at h
 |e::m,0,h=>by simp at h;subst h;exact AdM.cons (AdE.live hl) (AdM.refl n m)
 |e::m,id+1,h=>AdM.cons (AdE.refl n e) (AdM.set hl (by simpa using h))
theorem adoptX_T{P:Program}{N:Nat}{c:C}{K:Exit→St→Prop}{S id x:Nat}{s:St}(h:Tm.T P N c K (adoptX S id x s)):Tm.T P N c K s:=by
 unfold adoptX at h;split at h
 ·rename_i S' v l hm;split at h
  ·rename_i hx;exact T.adoptM S (Ads.refl _ _) (AdM.set (Ads.set hx) hm) h
  ·exact h
 ·exact h
def adoptXs(S id:Nat):Nat→St→St
 |0,s=>s
 |x+1,s=>adoptX S id x (adoptXs S id x s)
theorem adoptXs_T{P:Program}{N:Nat}{c:C}{K:Exit→St→Prop}{S id:Nat}:∀{x:Nat}{s:St},Tm.T P N c K (adoptXs S id x s)→Tm.T P N c K s
 |0,s,h=>h
 |x+1,s,h=>adoptXs_T (x:=x) (adoptX_T h)
def adoptEls(S:Nat):Nat→St→St
 |0,s=>s
 |id+1,s=>
  match s.m[id]? with
  |some (.live 1 _ l)=>adoptEls S id (adoptXs S id l.length s)
  |_=>adoptEls S id s
theorem adoptEls_T{P:Program}{N:Nat}{c:C}{K:Exit→St→Prop}{S:Nat}:∀{id:Nat}{s:St},Tm.T P N c K (adoptEls S id s)→Tm.T P N c K s
 |0,s,h=>h
 |id+1,s,h=>by
  unfold adoptEls at h;split at h
  ·exact adoptXs_T (adoptEls_T (id:=id) h)
  ·exact adoptEls_T (id:=id) h
def srcOf(y:Nat):List RI→Nat
 |[]=>y
 |.op (some z) _ (.mv (.tmp t))::l=>bif Wn z y then t else srcOf y l
 |_::l=>srcOf y l
def adoptAll(al:List RI):List RI→St→St
 |[],s=>s
 |.op _ _ (.trunc S (.tmp t) _ _)::l,s=>adoptAll al l (adopt1 S (srcOf t al) s)
 |.op _ _ (.append S _ (.tmp t) _)::l,s=>adoptAll al l (adoptEls S s.m.length (adopt1 S (srcOf t al) s))
 |_::l,s=>adoptAll al l s
theorem adoptAll_T{P:Program}{N:Nat}{c:C}{K:Exit→St→Prop}{al:List RI}:∀{l:List RI}{s:St},Tm.T P N c K (adoptAll al l s)→Tm.T P N c K s
 |[],s,h=>h
 |r::l,s,h=>by
  unfold adoptAll at h;split at h
  ·rename_i h0;cases h0
  ·rename_i h0;injection h0 with h1 h2;subst h2;exact adopt1_T (adoptAll_T h)
  ·rename_i h0;injection h0 with h1 h2;subst h2;exact adopt1_T (adoptEls_T (adoptAll_T h))
  ·rename_i h0;injection h0 with h1 h2;subst h2;exact adoptAll_T h
def frz1(s:St) (t:Nat):St:=
 match s.t[t]? with
 |some (.own id ver)=>
  match s.m[id]? with
  |some (.live S v l)=>bif Wn v ver then⟨fzs id ver S l s.t,(s.m.map (fzE id ver S l)).set id .gone⟩else s
  |_=>s
 |_=>s
theorem frz1_T{P:Program}{c:C}{K:Exit→St→Prop}{s:St}{t:Nat}(h:∀N,Tm.T P N c K (frz1 s t)):∀N,Tm.T P N c K s:=by
 intro N;unfold frz1 at h;split at h
 ·split at h
  ·rename_i id ver _ _ S v l hm;cases hb:Wn v ver
   ·rw[hb]at h;exact h N
   ·rw[hb]at h;have:=Nat.eq_of_beq_eq_true hb;subst this;exact T.freeze id v S l hm (h N)
  ·exact h N
 ·exact h N
def frzArgs(al:List RI):List Operand→St→St
 |[],s=>s
 |.tmp t::l,s=>frzArgs al l (frz1 s (srcOf t al))
 |_::l,s=>frzArgs al l s
theorem frzArgs_T{P:Program}{c:C}{K:Exit→St→Prop}{al:List RI}:∀{l:List Operand}{s:St},(∀N,Tm.T P N c K (frzArgs al l s))→∀N,Tm.T P N c K s
 |[],s,h=>h
 |.tmp t::l,s,h=>frz1_T (frzArgs_T (l:=l) h)
 |.const _::l,s,h=>frzArgs_T (l:=l) h
 |.func _::l,s,h=>frzArgs_T (l:=l) h
 |.global _::l,s,h=>frzArgs_T (l:=l) h
def frzAll(FT:Nat→Option (Fun×Nat)) (al:List RI):List RI→St→St
 |[],s=>s
 |.call _ _ (.func k) args::l,s=>
  match FT k with
  |some (_,2)=>frzAll FT al l s
  |_=>frzAll FT al l (frzArgs al args s)
 |_::l,s=>frzAll FT al l s
theorem frzAll_T{P:Program}{c:C}{K:Exit→St→Prop}{FT:Nat→Option (Fun×Nat)}{al:List RI}:∀{l:List RI}{s:St},(∀N,Tm.T P N c K (frzAll FT al l s))→∀N,Tm.T P N c K s
 |[],s,h=>h
 |r::l,s,h=>by
  unfold frzAll at h;split at h
  ·rename_i h0;cases h0
  ·rename_i h0;injection h0 with h1 h2;subst h2;split at h
   ·exact frzAll_T h
   ·exact frzArgs_T (frzAll_T h)
  ·rename_i h0;injection h0 with h1 h2;subst h2;exact frzAll_T h
def makS:RI→Option Nat
 |.op _ none (.alloc S _)=>some S
 |.op _ none (.box S _)=>some S
 |.op _ none (.bslice S _ _ _)=>some S
 |_=>none
def isMk:RI→Bool
 |.op _ _ i=>Wn i.cls 2
 |_=>false
def places:List RI→Nat→List (Option Nat)
 |[],_=>[]
 |r::l,n=>
  match makS r with
  |some _=>bif l.any isMk then some n::places l (n+1)else none::places l n
  |none=>none::places l n
def placeS:List RI→List Nat
 |[]=>[]
 |r::l=>
  match makS r with
  |some S=>bif l.any isMk then S::placeS l else placeS l
  |none=>placeS l
def pairsO(bs:List (List Nat)) (q:Nat) (l:List RI) (pl:List (Option Nat)):List (List Nat):=
 let ms:=masks bs
 (wo q).map fun j=>(wo j).filter fun i=>!(ms.getD j 0).testBit i&&match l[i]?,l[j]? with|some x,some y=>confO (pO pl i) (pO pl j) x y|_,_=>false
def lendOk(m:List Ent) (ds:List D):Bool:=(idsDs ds).all fun id=>match m[id]? with|some (.live _ _ l)=>idfrees l|_=>false
theorem lendOk_at{m:List Ent}{ds:List D}(h:lendOk m ds=true) {id:Nat}(hi:id∈idsDs ds):∃S v l,m[id]?=some (.live S v l)∧idfrees l=true:=by
 have:=qo.1 h id hi;split at this
 ·rename_i S v l hm;exact⟨S,v,l,hm,this⟩
 ·cases this
theorem froz_agree{m m':List Ent}:∀(k:Nat) (d:D),(∀id∈idsD d,m'[id]?=m[id]?∧∃S v l,m[id]?=some (.live S v l)∧idfrees l=true)→froz k m' d=froz k m d
 |0,d,_=>rfl
 |k+1,d,h=>by
  have hl:∀l:List D,(∀id∈idsDs l,m'[id]?=m[id]?∧∃S v l,m[id]?=some (.live S v l)∧idfrees l=true)→l.map (froz k m')=l.map (froz k m):=by
   intro l
   induction l with
   |nil=>intro _;rfl
   |cons x l ih=>
    intro h;simp only[idsDs,Fo]at h;rw[Vn,Vn,froz_agree k x (fun id hi=>h id (.inl hi)),ih (fun id hi=>h id (.inr hi))]
  cases d with
  |agg l=>simp only[froz];rw[hl l (by simpa only[idsD] using h)]
  |tup l=>simp only[froz];rw[hl l (by simpa only[idsD] using h)]
  |sl S l=>simp only[froz];rw[hl l (by simpa only[idsD] using h)]
  |pt d=>simp only[froz];rw[froz_agree k d (by simpa only[idsD] using h)]
  |own id ver=>
   obtain⟨h1,S,v,l,h2,h3⟩:=h id (by simp[idsD]);simp only[froz,h1,h2,h3,if_true]
  |view id ver lo n=>
   obtain⟨h1,S,v,l,h2,h3⟩:=h id (by simp[idsD]);simp only[froz,h1,h2,h3,if_true]
  |ref id ver x s=>
   obtain⟨h1,S,v,l,h2,h3⟩:=h id (by simp[idsD]);simp only[froz,h1,h2];split
   ·split
    ·rename_i e he;rw[froz_agree k e (fun j hj=>by rw[id_free (idfrees_iff.1 h3 e (Bo he))]at hj;cases hj)]
    ·rfl
   ·rfl
  |fn f a b=>
   simp only[idsD,Fo]at h;simp only[froz];rw[hl a (fun id hi=>h id (.inl hi)),hl b (fun id hi=>h id (.inr hi))]
  |_=>rfl
theorem frozs_agree{m m':List Ent}(k:Nat):∀{ds:List D},(∀id∈idsDs ds,m'[id]?=m[id]?∧∃S v l,m[id]?=some (.live S v l)∧idfrees l=true)→ds.map (froz k m')=ds.map (froz k m)
 |[],_=>rfl
 |d::l,h=>by
  simp only[idsDs,Fo]at h;rw[Vn,Vn,froz_agree k d (fun id hi=>h id (.inl hi)),frozs_agree k (fun id hi=>h id (.inr hi))]
def lent(m:List Ent) (d:D):Option D:=
 bif flat d then some d else
 match d with
 |.own id ver=>
  match m[id]? with
  |some (.live S v l)=>bif Wn v ver&&flats l then some (.sl S l)else none
  |_=>none
 |_=>none
theorem callL_of{P:Program}{f:FuncId}{ds:List D}{m m1:List Ent}{d d':D}(k:Nat) (hl:lent m1 d=some d') (h:CallT P f (ds.map (froz k m)) [] fun e m'=>e=d∧m'=m1):CallT P f ds m fun e m'=>e=d'∧m'=m:=by
 unfold lent at hl;cases hf:flat d
 ·rw[hf]at hl;simp only[cond_false]at hl;split at hl
  ·rename_i id ver;split at hl
   ·rename_i S v l hm;cases hb:(Wn v ver&&flats l)
    ·rw[hb]at hl;cases hl
    ·rw[hb]at hl;simp only[xn,xq]at hb;obtain⟨rfl,hfl⟩:=hb;simp only[cond_true,An]at hl;subst hl;refine(callN_of (R:=fun S' l'=>S'=S∧l'=l) k (h.mono ?_)).mono ?_
     ·rintro e m' ⟨rfl,rfl⟩;exact⟨id,v,S,l,rfl,hm,hfl,rfl,rfl⟩
     ·rintro e m' ⟨⟨S',l',rfl,rfl,rfl⟩,rfl⟩;exact⟨rfl,rfl⟩
   ·cases hl
  ·cases hl
 ·rw[hf]at hl;simp only[cond_true,An]at hl;subst hl;refine(callB_of (R:=fun e=>e=d) k (h.mono ?_));rintro e m' ⟨rfl,rfl⟩;exact⟨rfl,hf⟩
end Go.Tm
namespace Go.Tm
def reref(id ver:Nat) (d:D):D:=
 match d with
 |.ref i v x s=>bif Wn i id&&Wn v ver then .ref 0 0 x s else .dead
 |d=>bif idfree d then d else .dead
theorem reref_rel{G G':Gh}{w:World}{id ver:Nat}(hle:SubF G w G' w) (hr:∀x s u,VRel G w (.ref id ver x s) u→VRel G' w (.ref 0 0 x s) u) {d:D}{u:Value}(h:VRel G w d u):VRel G' w (reref id ver d) u:=by
 unfold reref;split
 ·rename_i i v x s;cases hb:(Wn i id&&Wn v ver)
  ·simp[VRel]
  ·simp only[xn,xq]at hb;obtain⟨rfl,rfl⟩:=hb;exact hr x s u h
 ·cases hf:idfree d
  ·simp[VRel]
  ·exact h.free hle hf
section
variable {P:Program}
theorem callW_of{k id S ver:Nat}{l l1:List D}{m m1:List Ent}{ds:List D}{d1:D}
 (hid:m[id]?=some (.live S ver l)) (hl:idfrees l=true) (hm1:m1[0]?=some (.live S 0 l1))
 (h:CallT P k (ds.map (reref id ver)) [.live S 0 l] fun d m'=>d=d1∧m'=m1) :
 CallT P k ds m fun d m'=>d=froz 8 (m1.set 0 .gone) d1∧m'=m.set id (.live S ver (l1.map (froz 8 (m1.set 0 .gone)))):=by
 refine⟨h.1,fun G w vs hv hi=>?_⟩;have hlen:id<m.length:=(Mn.1 hid).1;obtain⟨eV,eS,eN,eC,eB⟩:=hi.ent id _ hid;have hc0:SubF G w ⟨G.F,1,fun _=>G.B id,fun _=>0,fun _=>G.S id,fun _=>G.N id,fun _=>G.C id⟩ w:=⟨fun _ h=>h,fun _ _=>rfl⟩;have hv':=vs_map_rel (G':=⟨G.F,1,fun _=>G.B id,fun _=>0,fun _=>G.S id,fun _=>G.N id,fun _=>G.C id⟩) (f:=reref id ver) (fun d u hu=>reref_rel hc0 (fun x s u hu=>by
  simp only[VRel]at hu⊢;obtain⟨a,rfl,h1,h2,h3⟩:=hu;exact⟨a,rfl,by simp,En _,fun _=>h3 eV⟩) hu) hv
 have hic:Inv ⟨G.F,1,fun _=>G.B id,fun _=>0,fun _=>G.S id,fun _=>G.N id,fun _=>G.C id⟩ w [.live S 0 l]:=by
  refine⟨rfl,hi.F,?_,?_,hi.gl.bare fun _ h=>h⟩
  ·intro i e he
   cases i with
   |zero=>
    simp at he;subst he;refine⟨rfl,eS,eN,eC,?_⟩;rcases eB with h|⟨b,cs,T,h1,h2,h3,h4,h5⟩
    ·exact .inl h
    ·exact .inr ⟨b,cs,T,h1,h2,h3,h4,RowAt.free hc0 rfl hl h5⟩
   |succ i=>simp at he
  ·intro i j e e' hi' hj' _ _ b _ _
   cases i with
   |zero=>cases j with
    |zero=>rfl
    |succ j=>simp at hj'
   |succ i=>simp at hi'
 have own0:∀b,Owned ⟨G.F,1,fun _=>G.B id,fun _=>0,fun _=>G.S id,fun _=>G.N id,fun _=>G.C id⟩ [.live S 0 l] b→G.B id=some b:=by
  rintro b ⟨i,e,he,-,hB⟩;exact hB
 refine(h.2 _ w vs hv' hic).mono ?_;rintro e w' ⟨v,d,m',G',rfl,⟨rfl,rfl⟩,hvd,hi',hs'⟩;obtain⟨fV,fS,fN,fC,fB⟩:=hi'.ent 0 _ hm1;have hlen1:0<m'.length:=(Mn.1 hm1).1;have live1:(Ent.live S ver l).isLive=true:=rfl;obtain⟨sB,sS,sN,sC⟩:G'.B 0=G.B id∧G'.S 0=G.S id∧G'.N 0=G.N id∧G'.C 0=G.C id:=by
  rcases hs'.le.id 0 (Nat.lt_succ_self 0)with⟨_,h1,h2,h3,h4⟩|h
  ·exact⟨h1,h2,h3,h4⟩
  ·dsimp only at h;omega
 have hget1:∀i x,(m'.set 0 .gone)[i]?=some x→(i=0∧x=.gone)∨(i≠0∧m'[i]?=some x):=by
  intro i x hx;by_cases h0:i=0
  ·subst h0;rw[Ip hlen1]at hx;exact .inl ⟨rfl,by injection hx with hx;exact hx.symm⟩
  ·rw[Sp (by omega)]at hx;exact .inr ⟨h0,hx⟩
 have hi2:Inv G' w' (m'.set 0 .gone):=by
  refine⟨by simpa using hi'.n,hi'.F,?_,?_,hi'.gl⟩
  ·intro i x hx;rcases hget1 i x hx with⟨rfl,rfl⟩|⟨h0,hx⟩
   ·trivial
   ·exact hi'.ent i x hx
  ·intro i j x y hx hy lx ly b hb hb';rcases hget1 i x hx with⟨rfl,rfl⟩|⟨h0,hx⟩
   ·cases lx
   ·rcases hget1 j y hy with⟨rfl,rfl⟩|⟨h1,hy⟩
    ·cases ly
    ·exact hi'.apart i j x y hx hy lx ly b hb hb'
 have out0:∀b,Owned G' (m'.set 0 .gone) b→Owned G' m' b∧G'.B 0≠some b:=by
  rintro b ⟨i,x,hx,lx,hB⟩;rcases hget1 i x hx with⟨rfl,rfl⟩|⟨h0,hx⟩
  ·cases lx
  ·exact⟨⟨i,x,hx,lx,hB⟩,fun h=>h0 (hi'.apart i 0 x _ hx hm1 lx rfl b hB h)⟩
 have hF':∀b,(G'.F b∨Owned G' (m'.set 0 .gone) b)→b<w'.heap.size:=by
  rintro b (hb|hb)
  ·exact hi'.F b hb
  ·exact(Owned.lt hi2 hb).1
 have hrel:∀d u,VRel G' w' d u→VRel ⟨fun b=>G'.F b∨Owned G' (m'.set 0 .gone) b,G.n,G.B,G.V,G.S,G.N,G.C⟩ w' (froz 8 (m'.set 0 .gone) d) u:=by
  intro d u hu;have h0:=froz_rel hi2 8 d u hu;refine VRel.free ?_ (froz_free _ _ _) h0;exact⟨fun _ h=>h,fun _ _=>rfl⟩
 have hle:Le G w ⟨fun b=>G'.F b∨Owned G' (m'.set 0 .gone) b,G.n,G.B,G.V,G.S,G.N,G.C⟩ w':=
  ⟨fun b hb=>.inl (hs'.le.F b hb),fun b hb=>hs'.le.heap b hb,En _,fun i _=>.inl (by simp)⟩
 have olt:∀i x,m[i]?=some x→x.isLive=true→∀b,G.B i=some b→b<w.heap.size∧¬G.F b:=fun i x hx hl b hb=>(hi.ent i x hx).lt hl hb;have notO:∀i x,m[i]?=some x→x.isLive=true→i≠id→∀b,G.B i=some b→G.B id≠some b:=fun i x hx hlx hne b hb hB=>hne (hi.apart i id x _ hx hid hlx live1 b hb hB);have hget:∀i x,(m.set id (.live S ver (l1.map (froz 8 (m'.set 0 .gone)))))[i]?=some x→(m[i]?=some x∧i≠id)∨(i=id∧x=.live S ver (l1.map (froz 8 (m'.set 0 .gone)))):=by
  intro i x hx;by_cases h:i=id
  ·subst h;rw[Ip hlen]at hx;exact .inr ⟨rfl,by injection hx with hx;exact hx.symm⟩
  ·rw[Sp (by omega)]at hx;exact .inl ⟨hx,h⟩
 refine⟨v,_,_,⟨fun b=>G'.F b∨Owned G' (m'.set 0 .gone) b,G.n,G.B,G.V,G.S,G.N,G.C⟩,rfl,⟨rfl,rfl⟩,hrel _ _ hvd,⟨by simp[hi.n],hF',?_,?_,hi'.gl.bare fun _ h=>.inl h⟩,⟨hle,hs'.os,hs'.tape,hs'.output,hs'.size,?_,?_,?_⟩⟩
 ·intro i x hx;rcases hget i x hx with⟨h1,h2⟩|⟨rfl,rfl⟩
  ·by_cases hlx:x.isLive=true
   ·refine(hi.ent i x h1).mono hle (by simp) (fun b hb=>?_) (fun b hb _ hF=>?_)
    ·exact hs'.keep b (olt i x h1 hlx b hb).1 fun ho=>notO i x h1 hlx h2 b hb (own0 b ho)
    ·rcases hF with hF|hF
     ·rcases hs'.newF b (olt i x h1 hlx b hb).1 hF with h|h
      ·exact h
      ·exact(notO i x h1 hlx h2 b hb (own0 b h)).elim
     ·exact(notO i x h1 hlx h2 b hb (own0 b (hs'.newB b (olt i x h1 hlx b hb).1 (out0 b hF).1))).elim
   ·cases x with
    |gone=>trivial
    |_=>simp[Ent.isLive]at hlx
  ·refine⟨eV,eS,by rw[Oo,←fN,sN],by rw[Oo,←sC];exact fC,?_⟩;rw[sB,sC]at fB;rcases fB with h|⟨b,cs,T,h1,h2,h3,h4,h5⟩
   ·exact .inl h
   ·refine .inr ⟨b,cs,T,h1,?_,h3,h4,row_map_rel hrel h5⟩;rintro(hF|hF)
    ·exact h2 hF
    ·exact(out0 b hF).2 (by rw[sB];exact h1)
 ·intro i j x y hx hy lx ly b hb hb';rcases hget i x hx with⟨h1,h2⟩|⟨rfl,rfl⟩<;>rcases hget j y hy with⟨h3,h4⟩|⟨rfl,rfl⟩
  ·exact hi.apart i j x y h1 h3 lx ly b hb hb'
  ·exact(notO i x h1 lx h2 b hb hb').elim
  ·exact(notO j y h3 ly h4 b hb' hb).elim
  ·rfl
 ·intro b hb hno;exact hs'.keep b hb fun ho=>hno ⟨id,_,hid,live1,own0 b ho⟩
 ·intro b hb hF;rcases hF with hF|hF
  ·rcases hs'.newF b hb hF with h|h
   ·exact .inl h
   ·exact .inr ⟨id,_,hid,live1,own0 b h⟩
  ·exact .inr ⟨id,_,hid,live1,own0 b (hs'.newB b hb (out0 b hF).1)⟩
 ·rintro b hb ⟨i,x,hx,lx,hB⟩;rcases hget i x hx with⟨h1,h2⟩|⟨rfl,rfl⟩
  ·exact⟨i,x,h1,lx,hB⟩
  ·exact⟨i,_,hid,live1,hB⟩
end
def frzId(s:St) (id:Nat):St:=
 match s.m[id]? with
 |some (.live S v l)=>⟨fzs id v S l s.t,(s.m.map (fzE id v S l)).set id .gone⟩
 |_=>s
theorem frzId_T{P:Program}{c:C}{K:Exit→St→Prop}{s:St}{id:Nat}(h:∀N,Tm.T P N c K (frzId s id)):∀N,Tm.T P N c K s:=by
 intro N;unfold frzId at h;split at h
 ·rename_i S v l hm;exact T.freeze id v S l hm (h N)
 ·exact h N
def frzTree:Nat→List Nat→List Nat→St→St
 |0,_,_,s=>s
 |_+1,_,[],s=>s
 |n+1,keep,id::r,s=>
  match s.m[id]? with
  |some (.live _ _ l)=>
   bif keep.elem id then frzTree n keep (idsDs l++r) s
   else match idsDs l with
    |[]=>frzTree n keep r (frzId s id)
    |js=>frzTree n keep (js++id::r) s
  |_=>frzTree n keep r s
theorem frzTree_T{P:Program}{c:C}{K:Exit→St→Prop}:∀{n:Nat}{keep ids:List Nat}{s:St},(∀N,Tm.T P N c K (frzTree n keep ids s))→∀N,Tm.T P N c K s
 |0,_,_,s,h=>h
 |n+1,_,[],s,h=>h
 |n+1,keep,id::r,s,h=>by
  unfold frzTree at h;split at h
  ·cases hb:keep.elem id
   ·rw[hb]at h;simp only[cond_false]at h;split at h
    ·exact frzId_T (frzTree_T h)
    ·exact frzTree_T h
   ·rw[hb]at h;exact frzTree_T h
  ·exact frzTree_T h
def wcell(FT:Nat→Option (Fun×Nat)) (s:St):RI→Option Nat
 |.call _ none (.func k) args=>
  match FT k with
  |some (_,0)=>args.findSome? fun x=>match x with
   |.tmp t=>match s.t[t]? with
    |some (.ref id _ _ _)=>some id
    |_=>none
   |_=>none
  |_=>none
 |_=>none
def frzW(FT:Nat→Option (Fun×Nat)) (l:List RI) (s:St):St:=
 frzTree 100 (l.filterMap (wcell FT s)) (idsDs ((l.flatMap RI.reads).map fun t=>s.t.getD t .dead)) s
def wpl(FT:Nat→Option (Fun×Nat)) (l:List RI) (s:St):List (Option Nat):=l.map (wcell FT s)
def allPairs(q:Nat):List (List Nat):=(wo q).map wo
theorem allPairs_ok{q:Nat}:∀j,j<q→∀i,i<j→i∈(allPairs q).getD j []:=by
 intro j hj i hi;unfold allPairs;rw[Dn,Qo,List.getElem?_range hj];simpa using hi
theorem wpl_call{FT:Nat→Option (Fun×Nat)}{q:Nat}{l:List RI}{s:St}:∀i p,pO (wpl FT (l.take q) s) i=some p→∃a b c d,l[i]?=some (.call a b c d):=by
 intro i p h;unfold pO wpl at h;rw[Dn,Qo]at h
 cases hl:(l.take q)[i]? with
 |none=>rw[hl]at h;cases h
 |some r=>
  rw[hl]at h;have hl2:l[i]?=some r:=by
   rw[Cp]at hl;split at hl
   ·exact hl
   ·cases hl
  cases r with
  |op d g j=>simp[wcell]at h
  |call a b c d=>exact⟨a,b,c,d,hl2⟩
end Go.Tm
