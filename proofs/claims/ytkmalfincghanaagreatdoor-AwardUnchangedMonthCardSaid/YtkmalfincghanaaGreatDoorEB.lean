/-
  The engine: a part of the proof that trees of values are carried along by the program: no condition.
-/
import Derived.Test.YtkmalfincghanaaGreatDoorEA
import Derived.Orders
open Array renaming getD_eq_getD_getElem?→uac,getElem?_eq_getElem→Vaa,getElem?_replicate→bae,getElem?_toList→aab,length_toList→oab,mem_toList_iff→rae,range→fae,replicate→Wab
open Bool renaming and_eq_true→paa,false_eq_true→naa,or_eq_true→xab
open List renaming all_eq_true→Raa,append_assoc→jab,append_nil→Naa,drop_eq_getElem_cons→nab,drop_eq_nil_of_le→Pac,drop_zero→lac,eq_nil_of_length_eq_zero→Eaa,filter_cons→Gab,getD_cons_succ→vab,getD_cons_zero→pab,getD_eq_getElem?_getD→uaa,getElem?_append_left→Iaa,getElem?_drop→qac,getElem?_eq_getElem→iaa,getElem?_eq_none→Saa,getElem?_eq_some_iff→Caa,getElem?_map→Dab,getElem?_set→fac,getElem?_set_ne→Hac,getElem?_set_self→Yab,getElem?_take→Zab,headD_nil→daf,length→Nad,length_append→Haa,length_cons→Daa,length_filter_le→Maa,length_map→gab,length_take→Qaa,mapM_cons→uae,map_cons→eab,mem_append→Jaa,mem_cons→fab,mem_filter→tab,mem_map→Tab,mem_of_getElem?→kab,mem_range→Nab,mem_singleton→Paa,range→waa,replicate→maa,set_comm→gaf,singleton_append→Fad,size_toArray→pac,tail_nil→iaf,take_length→dab,take_succ_cons→lab
open List.cons renaming inj→uad
open Nat renaming add_assoc→Yac,add_comm→Eab,add_zero→Jab,beq→Uae,eq_or_lt_of_le→vad,le_refl→yaa,le_total→qaf,le_trans→Iab,le_zero→uaf,lt_of_lt_of_le→qab,lt_or_ge→Taa,strongRecOn→Mad,zero_add→Xab
open Option renaming bind_eq_some_iff→rac,getD_some→Qab,map_eq_some_iff→laa
open Option.some renaming injEq→zaa
open Prod.mk renaming injEq→Aaa
set_option linter.all false
namespace Go.Tm
open Go.RowKit (Below)
section
variable {P:Program}
structure StepN (N:Nat) (G:Gh) (w:World) (m:List Ent) (G':Gh) (w':World) (m':List Ent):Prop where
 F:∀b,G.F b→G'.F b
 heap:∀b,G.F b→w'.heap[b]?=w.heap[b]?
 n:N≤G'.n
 id:∀i,i<N→(G'.V i=G.V i∧G'.B i=G.B i∧G'.S i=G.S i∧G'.N i=G.N i∧G'.C i=G.C i)∨G.V i<G'.V i
 os:w'.os=w.os
 tape:w'.tape=w.tape
 output:w'.output=w.output
 size:w.heap.size≤w'.heap.size
 keep:∀b,b<w.heap.size→¬me G m b→w'.heap[b]?=w.heap[b]?
 newF:∀b,b<w.heap.size→G'.F b→G.F b∨me G m b
 newB:∀b,b<w.heap.size→me G' m' b→me G m b
theorem Step.RN{N:Nat}{G G':Gh}{w w':World}{m m':List Ent}(h:Step G w m G' w' m') (hN:N≤G.n):StepN N G w m G' w' m':=
 ⟨h.le.F,h.le.heap,Iab hN h.le.n,fun i hi=>h.le.id i (qab hi hN),h.os,h.tape,h.output,h.size,h.keep,h.newF,h.newB⟩
theorem StepN.toStep{G G':Gh}{w w':World}{m m':List Ent}(h:StepN G.n G w m G' w' m'):Step G w m G' w' m':=
 ⟨⟨h.F,h.heap,h.n,h.id⟩,h.os,h.tape,h.output,h.size,h.keep,h.newF,h.newB⟩
theorem StepN.refl{N:Nat}(G:Gh) (w:World) (m:List Ent) (hN:N≤G.n):StepN N G w m G w m:=(Step.refl G w m).RN hN
theorem StepN.trans{N:Nat}{G G' G'':Gh}{w w' w'':World}{m m' m'':List Ent}(h:StepN N G w m G' w' m') (k:StepN N G' w' m' G'' w'' m''):StepN N G w m G'' w'' m'' where
 F b hb:=k.F b (h.F b hb)
 heap b hb:=(k.heap b (h.F b hb)).trans (h.heap b hb)
 n:=k.n
 id i hi:=by
  have h1:=h.id i hi;have h2:=k.id i hi;rcases h1 with⟨a1,a2,a3,a4,a5⟩|h1<;>rcases h2 with⟨b1,b2,b3,b4,b5⟩|h2
  ·exact .inl ⟨b1.trans a1,b2.trans a2,b3.trans a3,b4.trans a4,b5.trans a5⟩
  ·exact .inr (by omega)
  ·exact .inr (by omega)
  ·exact .inr (by omega)
 os:=k.os.trans h.os
 tape:=k.tape.trans h.tape
 output:=k.output.trans h.output
 size:=Iab h.size k.size
 keep b hb ho:=(k.keep b (qab hb h.size) fun h'=>ho (h.newB b hb h')).trans (h.keep b hb ho)
 newF b hb hF:=by
  rcases k.newF b (qab hb h.size) hF with h'|h'
  ·exact h.newF b hb h'
  ·exact .inr (h.newB b hb h')
 newB b hb h':=h.newB b hb (k.newB b (qab hb h.size) h')
def T(P:Program) (N:Nat) (c:C) (K:Exit→St→Prop) (s:St):Prop:=
 ∀code,comp P code=some c→∀(G:Gh) (w:World) (a:Act),N≤G.n→Rel G w a s→
  code.wp P (fun e a' w'=>∃s' G',K e s'∧Rel G' w' a' s'∧StepN N G w s.m G' w' s'.m) a w
variable {N:Nat}
theorem T.mono{c:C}{K K':Exit→St→Prop}{s:St}(h:T P N c K s) (hK:∀e s',K e s'→K' e s'):T P N c K' s:=
 fun code hc G w a hN hr=>Code.wp_mono (fun _ _ _ ⟨s',G',h1,h2⟩=>⟨s',G',hK _ _ h1,h2⟩) (h code hc G w a hN hr)
theorem T.ghost{c:C}{K:Exit→St→Prop}{s s':St}(hg:∀(G:Gh) (w:World) (a:Act),N≤G.n→Rel G w a s→∃G',Rel G' w a s'∧StepN N G w s.m G' w s'.m) (h:T P N c K s'):T P N c K s:=by
 intro code hc G w a hN hr;obtain⟨G',hr',hs'⟩:=hg G w a hN hr;exact Code.wp_mono (fun _ _ _ ⟨s'',G'',h1,h2,h3⟩=>⟨s'',G'',h1,h2,hs'.trans h3⟩) (h code hc G' w a hs'.n hr')
theorem IK{code:Code}(h:comp P code=some .skip):code=.skip∨∃l,code=.label l:=by
 cases code with
 |region id ops draw=>
  cases draw with
  |false=>simp[comp]at h
  |true=>(simp only[comp]at h;repeat' split at h)<;>simp at h
 |seq a b=>simp only[comp]at h;split at h<;>simp at h
 |cond c a b=>simp only[comp]at h;split at h<;>simp at h
 |skip=>exact .inl rfl
 |label l=>exact .inr ⟨l,rfl⟩
 |_=>simp[comp]at h
theorem FO{code:Code}(h:comp P code=some .ret):code=.ret:=by
 cases code with
 |region id ops draw=>
  cases draw with
  |false=>simp[comp]at h
  |true=>(simp only[comp]at h;repeat' split at h)<;>simp at h
 |seq a b=>simp only[comp]at h;split at h<;>simp at h
 |cond c a b=>simp only[comp]at h;split at h<;>simp at h
 |ret=>rfl
 |_=>simp[comp]at h
theorem ZI{code:Code}{i:Nat}(h:comp P code=some (.exit i)):code=.exit i:=by
 cases code with
 |region id ops draw=>
  cases draw with
  |false=>simp[comp]at h
  |true=>(simp only[comp]at h;repeat' split at h)<;>simp at h
 |seq a b=>simp only[comp]at h;split at h<;>simp at h
 |cond c a b=>simp only[comp]at h;split at h<;>simp at h
 |exit j=>simp[comp]at h;rw[h]
 |_=>simp[comp]at h
theorem aF{code:Code}{l:List RI}(h:comp P code=some (.TF l)):∃id ops,code=.region id ops false∧pf P ops ops.toList=some l:=by
 cases code with
 |region id ops draw=>
  cases draw with
  |true=>(simp only[comp]at h;repeat' split at h)<;>simp at h
  |false=>simp[comp]at h;exact⟨id,ops,rfl,h⟩
 |seq a b=>simp only[comp]at h;split at h<;>simp at h
 |cond c a b=>simp only[comp]at h;split at h<;>simp at h
 |_=>simp[comp]at h
theorem Hw{code:Code}{q:Nat}{l:List RI}(h:comp P code=some (.draw q l)):∃id ops,code=.region id ops true∧pf P ops ops.toList=some l∧qw (Ta ops) l q=true:=by
 cases code with
 |region id ops draw=>
  cases draw with
  |false=>simp[comp]at h
  |true=>
   simp only[comp]at h;split at h
   ·rename_i rl hrl;split at h
    ·rename_i hok;simp only[zaa,C.draw.injEq]at h;obtain⟨rfl,rfl⟩:=h;exact⟨id,ops,rfl,hrl,hok⟩
    ·split at h<;>simp at h
   ·cases h
 |seq a b=>simp only[comp]at h;split at h<;>simp at h
 |cond c a b=>simp only[comp]at h;split at h<;>simp at h
 |_=>simp[comp]at h
theorem JL{code:Code}{cuts:List Nat}{q:Nat}{bs:List (List Nat)}{l:List RI}(h:comp P code=some (.any cuts q bs l)):∃id ops,code=.region id ops true∧bs=Ta ops∧pf P ops ops.toList=some l∧aD (Ta ops) l cuts q=true:=by
 cases code with
 |region id ops draw=>
  cases draw with
  |false=>simp[comp]at h
  |true=>
   simp only[comp]at h;split at h
   ·rename_i rl hrl;split at h
    ·simp at h
    ·split at h
     ·rename_i hok;simp only[zaa,C.any.injEq]at h;obtain⟨rfl,rfl,rfl,rfl⟩:=h;exact⟨id,ops,rfl,rfl,hrl,hok⟩
     ·cases h
   ·cases h
 |seq a b=>simp only[comp]at h;split at h<;>simp at h
 |cond c a b=>simp only[comp]at h;split at h<;>simp at h
 |_=>simp[comp]at h
theorem tL{code:Code}{c d:C}(h:comp P code=some (.seq c d)):∃x y,code=.seq x y∧comp P x=some c∧comp P y=some d:=by
 cases code with
 |region id ops draw=>
  cases draw with
  |false=>simp[comp]at h
  |true=>(simp only[comp]at h;repeat' split at h)<;>simp at h
 |seq a b=>
  simp only[comp]at h;split at h
  ·rename_i x y h1 h2;simp at h;exact⟨a,b,rfl,by rw[h1,h.1],by rw[h2,h.2]⟩
  ·simp at h
 |cond c a b=>simp only[comp]at h;split at h<;>simp at h
 |_=>simp[comp]at h
theorem IJ{code:Code}{t:Operand}{c d:C}(h:comp P code=some (.cond t c d)):∃x y,code=.cond t x y∧comp P x=some c∧comp P y=some d:=by
 cases code with
 |region id ops draw=>
  cases draw with
  |false=>simp[comp]at h
  |true=>(simp only[comp]at h;repeat' split at h)<;>simp at h
 |seq a b=>simp only[comp]at h;split at h<;>simp at h
 |cond t' a b=>
  simp only[comp]at h;split at h
  ·rename_i x y h1 h2;simp at h;exact⟨a,b,by rw[h.1],by rw[h1,h.2.1],by rw[h2,h.2.2]⟩
  ·simp at h
 |_=>simp[comp]at h
theorem cH{code:Code}{i:Nat}{c:C}(h:comp P code=some (.block i c)):∃x,code=.block i x∧comp P x=some c:=by
 cases code with
 |region id ops draw=>
  cases draw with
  |false=>simp[comp]at h
  |true=>(simp only[comp]at h;repeat' split at h)<;>simp at h
 |seq a b=>simp only[comp]at h;split at h<;>simp at h
 |cond c a b=>simp only[comp]at h;split at h<;>simp at h
 |block j b=>simp[comp]at h;exact⟨b,by rw[h.2],h.1⟩
 |_=>simp[comp]at h
theorem SJ{code:Code}{c:C}(h:comp P code=some (.loop c)):∃x,code=.loop x∧comp P x=some c:=by
 cases code with
 |region id ops draw=>
  cases draw with
  |false=>simp[comp]at h
  |true=>(simp only[comp]at h;repeat' split at h)<;>simp at h
 |seq a b=>simp only[comp]at h;split at h<;>simp at h
 |cond c a b=>simp only[comp]at h;split at h<;>simp at h
 |loop b=>simp[comp]at h;exact⟨b,rfl,h⟩
 |_=>simp[comp]at h
theorem T.skip{K:Exit→St→Prop}{s:St}(h:K .normal s):T P N .skip K s:=by
 intro code hc G w a hN hr;rcases IK hc with rfl|⟨l,rfl⟩
 ·exact wp_skip ⟨s,G,h,hr,StepN.refl _ _ _ hN⟩
 ·exact wp_label ⟨s,G,h,hr,StepN.refl _ _ _ hN⟩
theorem T.ret{K:Exit→St→Prop}{s:St}(h:K .ret s):T P N .ret K s:=by
 intro code hc G w a hN hr;obtain rfl:=FO hc;exact wp_ret ⟨s,G,h,hr,StepN.refl _ _ _ hN⟩
theorem T.exit{id:Nat}{K:Exit→St→Prop}{s:St}(h:K (.exit id) s):T P N (.exit id) K s:=by
 intro code hc G w a hN hr;obtain rfl:=ZI hc;exact wp_exit ⟨s,G,h,hr,StepN.refl _ _ _ hN⟩
theorem T.TF{l:List RI}{K:Exit→St→Prop}{s:St}(h:Fh P l (K .normal) s):T P N (.TF l) K s:=by
 intro code hc G w a hN hr;obtain⟨id,ops,rfl,hc'⟩:=aF hc;exact wp_region_list (Gu hc' h hr fun s' G' w' a' h1 h2 h3=>⟨s',G',h1,h2,h3.RN hN⟩)
theorem T.seq{c d:C}{K:Exit→St→Prop}{s:St}(h:T P N c (fun e s'=>match e with|.normal=>T P N d K s'|e=>K e s') s):T P N (.seq c d) K s:=by
 intro code hc G w a hN hr;obtain⟨x,y,rfl,h1,h2⟩:=tL hc;refine wp_seq (Code.wp_mono ?_ (h x h1 G w a hN hr));rintro e a' w' ⟨s',G',hK,hr',hs'⟩
 cases e with
 |normal=>exact Code.wp_mono (fun _ _ _ ⟨s'',G'',k1,k2,k3⟩=>⟨s'',G'',k1,k2,hs'.trans k3⟩) (hK y h2 G' w' a' hs'.n hr')
 |_=>exact⟨s',G',hK,hr',hs'⟩
theorem T.cond{c:Operand}{x y:C}{t:Bool}{K:Exit→St→Prop}{s:St}(ht:s.ev c=.v (.bool t)) (h1:t=true→T P N x K s) (h2:t=false→T P N y K s):T P N (.cond c x y) K s:=by
 intro code hc G w a hN hr;obtain⟨x',y',rfl,e1,e2⟩:=IJ hc;have hv:=hr.ev c;rw[ht]at hv;simp only[VRel]at hv;exact wp_cond_split hv (fun e=>h1 e x' e1 G w a hN hr) (fun e=>h2 e y' e2 G w a hN hr)
theorem T.block{id:Nat}{x:C}{K:Exit→St→Prop}{s:St}(h:T P N x (fun e s'=>match e with|.exit id'=>if id'=id then K .normal s' else K (.exit id') s'|e=>K e s') s):T P N (.block id x) K s:=by
 intro code hc G w a hN hr;obtain⟨b,rfl,hx⟩:=cH hc;refine wp_block (Code.wp_mono ?_ (h b hx G w a hN hr));rintro e a' w' ⟨s',G',hK,hr',hs'⟩
 cases e with
 |exit j=>
  simp only[Exit.inBlock];simp only at hK;split
  ·rename_i hj;rw[if_pos hj]at hK;exact⟨s',G',hK,hr',hs'⟩
  ·rename_i hj;rw[if_neg hj]at hK;exact⟨s',G',hK,hr',hs'⟩
 |_=>exact⟨s',G',hK,hr',hs'⟩
theorem wp_loop_ghost{c:Code}{Q:Exit→Act→World→Prop}{X:Type}(J:X→Act→World→Prop) (μ:X→Nat)
 (round:∀x a w,J x a w→c.wp P (Exit.then (fun a' w'=>∃y,J y a' w'∧μ y<μ x) Q) a w):∀(x:X) (a:Act) (w:World),J x a w→(Code.loop c).wp P Q a w:=by
 intro x₀ a₀ w₀ h₀ b k cs;have key:∀n (x:X) a w,μ x=n→J x a w→
  ∃e a' w',Q e a' w'∧Arrives P (lone (b.at a (.code c::.inLoop c::k)) cs w) b k cs e a' w':=by
  intro n
  induction n using Mad with
  |_ n ih=>
   intro x a w hn hI;obtain⟨e,a₁,w₁,hq,harr⟩:=round x a w hI b (.inLoop c::k) cs
   cases e with
   |normal=>
    obtain⟨y,hI₁,hlt⟩:=hq;obtain⟨e₂,a₂,w₂,hq₂,harr₂⟩:=ih (μ y) (hn▸hlt) y a₁ w₁ rfl hI₁;exact⟨e₂,a₂,w₂,hq₂,.of_steps (Steps.trans harr (.one step_inLoop)) harr₂⟩
   |exit id=>exact⟨_,a₁,w₁,hq,.pass (x:=.inLoop c) rfl (fun _ _=>.inl (by simp)) harr⟩
   |goto l=>exact⟨_,a₁,w₁,hq,.pass (x:=.inLoop c) rfl (fun _ _=>.inl (by simp)) harr⟩
   |ret=>exact⟨_,a₁,w₁,hq,.pass (x:=.inLoop c) rfl (fun _ _=>.inl (by simp)) harr⟩
   |panic ch=>exact⟨_,a₁,w₁,hq,.pass (x:=.inLoop c) rfl (fun _ _=>.inl (by simp)) harr⟩
   |outgrown=>exact⟨_,a₁,w₁,hq,.pass (x:=.inLoop c) rfl (fun _ _=>.inl (by simp)) harr⟩
 obtain⟨e,a',w',hq,harr⟩:=key _ x₀ a₀ w₀ rfl h₀;exact⟨e,a',w',hq,.of_steps (.one step_loop) harr⟩
theorem T.RU{x:C}{K:Exit→St→Prop}{s:St}{X:Type}(J:X→St→Prop) (μ:X→Nat) (x₀:X) (h0:J x₀ s)
 (round:∀y s,J y s→T P N x (fun e s'=>match e with|.normal=>∃z,J z s'∧μ z<μ y|e=>K e s') s):T P N (.loop x) K s:=by
 intro code hc G w a hN hr;obtain⟨b,rfl,hx⟩:=SJ hc;refine wp_loop_ghost (J:=fun(y:X) a' w'=>∃s' G',J y s'∧Rel G' w' a' s'∧StepN N G w s.m G' w' s'.m) μ ?_ x₀ a w ⟨s,G,h0,hr,StepN.refl _ _ _ hN⟩;rintro y a1 w1 ⟨s1,G1,hI,hr1,hs1⟩;refine Code.wp_mono ?_ (round y s1 hI b hx G1 w1 a1 hs1.n hr1);rintro e a' w' ⟨s',G',hK,hr',hs'⟩
 cases e with
 |normal=>obtain⟨z,h1,h2⟩:=hK;exact⟨z,⟨s',G',h1,hr',hs1.trans hs'⟩,h2⟩
 |_=>exact⟨s',G',hK,hr',hs1.trans hs'⟩
def np(s:St):RV→Option D
 |.tmp t=>some (s.t.getD t .dead)
 |.cell A n a=>
  match ea s (.load A n (.tmp a))with
  |some (d,_)=>some d
  |none=>none
def Xa(s:St):List RV→Option (List D)
 |[]=>some []
 |r::l=>
  match np s r,Xa s l with
  |some d,some ds=>some (d::ds)
  |_,_=>none
def Gk:List D→D
 |[d]=>d
 |l=>.tup l
def SC(tmps:Array Value):ResultVar→Sem Value
 |.tmp t=>pure (tmps.getD t undef)
 |.cell a t=>do loadVar t (←asAddr (tmps.getD a undef))
theorem AH(fn:Func) (tmps:Array Value):results fn tmps=(do let vs←fn.results.mapM (SC tmps);pure (if h:vs.size=1 then vs[0]else .tuple vs)):=by
 unfold results;rfl
theorem sE:∀{l:List ResultVar}{rl:List RV}{s:St}{G:Gh}{w:World}{a:Act}{ds:List D},ir P l=some rl→Rel G w a s→Xa s rl=some ds→
 ∃us:List Value,(l.mapM (SC a.tmps)).run P w=.ok us w∧VsRel G w ds us
 |[],rl,s,G,w,a,ds,hc,hr,hd=>by
  simp only[ir]at hc;injection hc with hc;subst hc;simp only[Xa]at hd;injection hd with hd;subst hd;exact⟨[],by simp,by simp[VsRel]⟩
 |r::l,rl,s,G,w,a,ds,hc,hr,hd=>by
  simp only[ir]at hc;split at hc
  ·rename_i x y h1 h2;injection hc with hc;subst hc;simp only[Xa]at hd;split at hd
   ·rename_i d ds' h3 h4;injection hd with hd;subst hd;obtain⟨us,hrun,hv⟩:=sE h2 hr h4
    cases r with
    |tmp t=>
     simp only[wH]at h1;injection h1 with h1;subst h1;simp only[np]at h3;injection h3 with h3;subst h3;have hx:=hr.ev (.tmp t);simp only[St.ev,Act.eval]at hx;refine⟨a.tmps.getD t undef::us,?_,by simp only[VsRel];exact⟨_,_,rfl,hx,hv⟩⟩;simp only[uae,SC,Sem.run_bind,Sem.run_pure,Result.andThen_ok,hrun]
    |cell p t=>
     simp only[wH,laa]at h1;obtain⟨q,hq,rfl⟩:=h1;simp only[np]at h3;split at h3
     ·rename_i e m0 he;injection h3 with h3;subst h3;obtain⟨ad,u,hp,hrl,hvd,-⟩:=Yy (P:=P) hr hq he;simp only[Act.eval]at hp;refine⟨u::us,?_,by simp only[VsRel];exact⟨_,_,rfl,hvd,hv⟩⟩;simp only[uae,SC,hp,asAddr,Sem.run_bind,Sem.run_pure,Result.andThen_ok,hrl,hrun]
     ·cases h3
   ·cases hd
  ·cases hc
def Pu(rs:List RV) (R:D→List Ent→Prop):Exit→St→Prop
 |.normal,s=>∃ds,Xa s rs=some ds∧R (Gk ds) s.m
 |.ret,s=>∃ds,Xa s rs=some ds∧R (Gk ds) s.m
 |_,_=>False
theorem zS{G:Gh}{w:World}{ds:List D}{us:List Value}(h:VsRel G w ds us):VRel G w (Gk ds) (if h:us.toArray.size=1 then us.toArray[0]else .tuple us.toArray):=by
 match ds,h with
 |[],h=>
  simp only[VsRel]at h;subst h;simp only[pac,List.length_nil,Gk];rw[dif_neg (by decide)];simp only[VRel,VsRel];exact⟨[],rfl,rfl⟩
 |[d],h=>
  simp only[VsRel]at h;obtain⟨u,r,rfl,hv,rfl⟩:=h;simpa [Gk] using hv
 |d::e::l,h=>
  have hl:=h.length;rw[dif_neg (by simp at hl⊢;omega)];simp only[Gk,VRel];exact⟨us,rfl,h⟩
theorem ux{fn:Func}{F:Fun}{s:St}{G:Gh}{w:World}{a:Act}{ds:List D}(hc:ir P fn.results.toList=some F.results) (hr:Rel G w a s) (hd:Xa s F.results=some ds) :
 ∃v,(results fn a.tmps).run P w=.ok v w∧VRel G w (Gk ds) v:=by
 obtain⟨us,hrun,hv⟩:=sE hc hr hd;refine⟨_,?_,zS hv⟩;rw[AH,Array.mapM_eq_mapM_toList];simp only[Sem.run_bind,Sem.run_map,hrun,Result.andThen_ok,Sem.run_pure]
theorem zC(G:Gh) (w:World):∀n,VsRel G w (maa n .dead) (maa n undef)
 |0=>by simp[VsRel]
 |n+1=>by simp only[List.replicate_succ,VsRel];exact⟨_,_,rfl,by simp[VRel],zC G w n⟩
theorem Xh{f:FuncId}{F:Fun}{ds:List D}{m:List Ent}{R:D→List Ent→Prop}(hF:vq P f=some F) (hname:((P.funcs[f]?).map fun fn=>fn.name == "runtime.NumGoroutine")=some false)
 (h:T P m.length F.code (Pu F.results R) ⟨ds++maa (F.ntmps-ds.length) .dead,m⟩):CallT P f ds m R:=by
 unfold vq at hF;split at hF
 ·rename_i fn hfn;split at hF
  ·rename_i b r hb hres;simp only[laa]at hF;obtain⟨c,hc,rfl⟩:=hF;refine⟨⟨fn,hfn,by simpa [hfn] using hname,by rw[hb];rfl⟩,fun G w vs hv hi=>?_⟩;refine calls_of_wp hfn hb ?_;have hlen:=hv.length;have hr:Rel G w { tmps:=vs.toArray++Wab (fn.ntmps-vs.toArray.size) undef,defers:=[] } ⟨ds++maa (fn.ntmps-ds.length) .dead,m⟩:=by
    refine⟨?_,hi,rfl⟩;simp only[Array.toList_append,Array.toList_replicate,pac,hlen];exact hv.append (zC _ _ _)
   refine Code.wp_mono ?_ (h b hc G w _ (by rw[hi.n];exact yaa _) hr);rintro e a' w' ⟨s',G',hK,hr',hs0⟩;have hs':Step G w m G' w' s'.m:=by rw[←hi.n]at hs0;exact hs0.toStep
   have fin:(∃ds,Xa s' r=some ds∧R (Gk ds) s'.m)→a'.defers=[]∧∃v,(results fn a'.tmps).run P w'=.ok v w'∧∃v_1 d m' G',Ending.returned v=.returned v_1∧R d m'∧VRel G' w' d v_1∧Inv G' w' m'∧Step G w m G' w' m':=by
    rintro⟨es,hes,hR⟩;obtain⟨v,hrun,hv'⟩:=ux (F:=⟨fn.ntmps,r,c⟩) hres hr' hes;exact⟨hr'.defers,v,hrun,v,_,_,G',rfl,hR,hv',hr'.inv,hs'⟩
   cases e with
   |normal=>exact fin hK
   |ret=>exact fin hK
   |_=>exact hK.elim
  ·cases hF
 ·cases hF
end
end Go.Tm
namespace Go.Tm
open Go.RowKit (Below)
structure SubF (G:Gh) (w:World) (G':Gh) (w':World):Prop where
 F:∀b,G.F b→G'.F b
 heap:∀b,G.F b→w'.heap[b]?=w.heap[b]?
mutual
theorem VRel.free{G G':Gh}{w w':World}(hle:SubF G w G' w'):∀{d:D}{u:Value},la d=true→VRel G w d u→VRel G' w' d u
 |.v x,u,_,h=>by simpa [VRel] using h
 |.agg l,u,hf,h=>by
  simp only[VRel,la]at h hf⊢;obtain⟨cs,rfl,h,h1⟩:=h;exact⟨cs,rfl,VsRel.free hle hf h,h1⟩
 |.tup l,u,hf,h=>by
  simp only[VRel,la]at h hf⊢;obtain⟨cs,rfl,h⟩:=h;exact⟨cs,rfl,VsRel.free hle hf h⟩
 |.sl S l,u,hf,h=>by
  simp only[VRel,la]at h hf⊢;obtain⟨a,n,cap,rfl,hn,hc,h⟩:=h;refine⟨a,n,cap,rfl,hn,hc,?_⟩;rcases h with h|⟨b,off,rfl,hF,hr⟩
  ·exact .inl h
  ·exact .inr ⟨b,off,rfl,hle.F b hF,Ha.free hle (hle.heap b hF) hf hr⟩
 |.pt d,u,hf,h=>by
  simp only[VRel,la]at h hf⊢;obtain⟨b,off,x,rfl,hF,hd,hh⟩:=h;exact⟨b,off,x,rfl,hle.F b hF,VRel.free hle hf hd,hh.mono (hle.heap b hF)⟩
 |.fn f first caps,u,hf,h=>by
  simp only[VRel,la,paa]at h hf⊢;obtain⟨fs,cs,rfl,h1,h2⟩:=h;exact⟨fs,cs,rfl,VsRel.free hle hf.1 h1,VsRel.free hle hf.2 h2⟩
 |.ifc t d,u,hf,h=>by
  simp only[VRel,la]at h hf⊢;obtain⟨x,rfl,h⟩:=h;exact⟨x,rfl,VRel.free hle hf h⟩
 |.dead,u,_,h=>by simp[VRel]
 |.ref ..,_,hf,_=>by simp[la]at hf
 |.own ..,_,hf,_=>by simp[la]at hf
 |.view ..,_,hf,_=>by simp[la]at hf
 |.mp _,_,hf,_=>by simp[la]at hf
theorem VsRel.free{G G':Gh}{w w':World}(hle:SubF G w G' w'):∀{l:List D}{us:List Value},fa l=true→VsRel G w l us→VsRel G' w' l us
 |[],us,_,h=>by simpa [VsRel] using h
 |d::l,us,hf,h=>by
  simp only[VsRel,fa,paa]at h hf⊢;obtain⟨u,r,rfl,h1,h2⟩:=h;exact⟨u,r,rfl,VRel.free hle hf.1 h1,VsRel.free hle hf.2 h2⟩
theorem Ha.free{G G':Gh}{w w':World}(hle:SubF G w G' w') {b S:Nat}(hb:w'.heap[b]?=w.heap[b]?) :
 ∀{l:List D} {off:Nat},fa l=true→Ha G w b S l off→Ha G' w' b S l off
 |[],off,_,h=>by simp[Ha]
 |d::l,off,hf,h=>by
  simp only[Ha,fa,paa]at h hf⊢;obtain⟨⟨u,h1,h2,h3⟩,h4⟩:=h;exact⟨⟨u,VRel.free hle hf.1 h1,h2,h3.mono hb⟩,Ha.free hle hb hf.2 h4⟩
end
def Vd:Nat→List Ent→D→D
 |0,_,_=>.dead
 |k+1,m,d=>
  match d with
  |.agg l=>.agg (l.map (Vd k m))
  |.tup l=>.tup (l.map (Vd k m))
  |.sl S l=>if fa l then d else .sl S (l.map (Vd k m))
  |.pt d=>.pt (Vd k m d)
  |.own id Ga=>
   match m[id]? with
   |some (.live S ver' l)=>if ver'=Ga then .sl S (if fa l then l else l.map (Vd k m))else .dead
   |_=>.dead
  |.view id Ga lo n=>
   match m[id]? with
   |some (.live S ver' l)=>if ver'=Ga∧lo+n≤l.length then .sl S (((if fa l then l else l.map (Vd k m)).drop lo).take n)else .dead
   |_=>.dead
  |.ref id Ga x s=>
   match m[id]? with
   |some (.live _ ver' l)=>if ver'=Ga∧s=0 then(match l[x]? with|some e=>.pt (Vd k m e)|none=>.dead)else .dead
   |_=>.dead
  |.fn f a b=>.fn f (a.map (Vd k m)) (b.map (Vd k m))
  |.v x=>.v x
  |_=>.dead
theorem px{f:D→D}(h:∀d,la (f d)=true):∀l:List D,fa (l.map f)=true
 |[]=>rfl
 |d::l=>by simp[fa,h d,px h l]
theorem gh:∀{l:List D},fa l=true↔∀d∈l,la d=true
 |[]=>by simp[fa]
 |d::l=>by simp[fa,gh (l:=l)]
theorem Ft:∀(k:Nat) (m:List Ent) (d:D),la (Vd k m d)=true
 |0,m,d=>rfl
 |k+1,m,d=>by
  have ih:=px (Ft k m)
  cases d with
  |agg l=>simpa [Vd,la] using ih l
  |tup l=>simpa [Vd,la] using ih l
  |sl S l=>
   simp only[Vd];split
   ·rename_i h;simpa [la] using h
   ·simpa [la] using ih l
  |pt d=>simpa [Vd,la] using Ft k m d
  |own id Ga=>
   simp only[Vd];split
   ·split
    ·simp only[la];split
     ·rename_i h;exact h
     ·exact ih _
    ·rfl
   ·rfl
  |view id Ga lo n=>
   simp only[Vd];split
   ·split
    ·simp only[la];rename_i l _ _;have:fa (if fa l=true then l else l.map (Vd k m))=true:=by
      split
      ·rename_i h;exact h
      ·exact ih _
     rw[gh]at this⊢;exact fun d hd=>this d (List.mem_of_mem_drop (List.mem_of_mem_take hd))
    ·rfl
   ·rfl
  |ref id Ga x s=>
   simp only[Vd];split
   ·split
    ·split
     ·simpa [la] using Ft k m _
     ·rfl
    ·rfl
   ·rfl
  |fn f a b=>simp[Vd,la,ih a,ih b]
  |_=>rfl
def Gh.Vd(G:Gh) (m:List Ent):Gh:={ G with F:=fun b=>G.F b∨me G m b }
theorem Ks{G:Gh}{w:World}{m:List Ent}:SubF G w (G.Vd m) w:=⟨fun _ h=>.inl h,fun _ _=>rfl⟩
theorem Om{G:Gh}{w:World}{G':Gh}{f:D→D}(h:∀d u,VRel G w d u→VRel G' w (f d) u):∀{l:List D}{us:List Value},VsRel G w l us→VsRel G' w (l.map f) us
 |[],us,hv=>by simpa [VsRel] using hv
 |d::l,us,hv=>by
  simp only[VsRel,eab]at hv⊢;obtain⟨u,r,rfl,h1,h2⟩:=hv;exact⟨u,r,rfl,h d u h1,Om h h2⟩
theorem Bn{G:Gh}{w:World}{G':Gh}{f:D→D}(h:∀d u,VRel G w d u→VRel G' w (f d) u) {b S:Nat}:∀{l:List D}{off:Nat},Ha G w b S l off→Ha G' w b S (l.map f) off
 |[],off,hv=>by simp[Ha]
 |d::l,off,hv=>by
  simp only[Ha,eab]at hv⊢;obtain⟨⟨u,h1,h2,h3⟩,h4⟩:=hv;exact⟨⟨u,h d u h1,h2,h3⟩,Bn h h4⟩
theorem iF{G:Gh}{w:World}{m:List Ent}(hi:Inv G w m):∀(k:Nat) (d:D) (u:Value),VRel G w d u→VRel (G.Vd m) w (Vd k m d) u
 |0,d,u,_=>by simp[Vd,VRel]
 |k+1,d,u,hv=>by
  have ih:=iF hi k
  cases d with
  |v x=>simpa [Vd,VRel] using hv
  |agg l=>
   simp only[Vd,VRel]at hv⊢;obtain⟨cs,rfl,h1,h2⟩:=hv;exact⟨cs,rfl,Om ih h1,h2⟩
  |tup l=>
   simp only[Vd,VRel]at hv⊢;obtain⟨cs,rfl,h1⟩:=hv;exact⟨cs,rfl,Om ih h1⟩
  |sl S l=>
   simp only[Vd];split
   ·rename_i hf;exact hv.free Ks (by simpa [la] using hf)
   ·simp only[VRel]at hv⊢;obtain⟨a,n,cap,rfl,hn,hc,h⟩:=hv;refine⟨a,n,cap,rfl,by simpa using hn,hc,?_⟩;rcases h with h|⟨b,off,rfl,hF,hr⟩
    ·exact .inl (by simp[h])
    ·exact .inr ⟨b,off,rfl,.inl hF,Bn ih hr⟩
  |pt d=>
   simp only[Vd,VRel]at hv⊢;obtain⟨b,off,x,rfl,hF,hd,hh⟩:=hv;exact⟨b,off,x,rfl,.inl hF,ih d x hd,hh⟩
  |own id Ga=>
   simp only[Vd];split
   ·rename_i S ver' l hm;split
    ·rename_i hvr;subst hvr;simp only[VRel]at hv⊢;obtain⟨p,n,c,rfl,hid,hver,hx⟩:=hv;obtain⟨a1,a2,a3,a4,a5⟩:=hi.ent _ _ hm;obtain⟨rfl,rfl,rfl⟩:=hx a1;have hlen:(if fa l=true then l else l.map (Vd k m)).length=l.length:=by split<;>simp
     refine⟨_,_,_,rfl,by rw[hlen];exact a3,by rw[a3];exact a4,?_⟩
     ·rcases a5 with a5|⟨b',cs,T,hb',hF,hblk,hsz,hrow⟩
      ·have h00:=congrArg Prod.fst a5.2;dsimp only at h00;refine .inl (Eaa ?_);rw[hlen];omega
      ·refine .inr ⟨b',(G.C id).2,by rw[hb'];rfl,.inr ⟨id,_,hm,rfl,hb'⟩,?_⟩;split
       ·rename_i hf;exact hrow.free Ks rfl hf
       ·exact Bn ih hrow
    ·simp[VRel]
   ·simp[VRel]
  |view id Ga lo n=>
   simp only[Vd];split
   ·rename_i S ver' l hm;split
    ·rename_i hvr;obtain⟨rfl,hle⟩:=hvr;simp only[VRel]at hv⊢;obtain⟨p,c,rfl,hnc,hid,hver,hx⟩:=hv;obtain⟨a1,a2,a3,a4,a5⟩:=hi.ent _ _ hm;have hlen:(if fa l=true then l else l.map (Vd k m)).length=l.length:=by split<;>simp
     have hlen2:(((if fa l=true then l else l.map (Vd k m)).drop lo).take n).length=n:=by
      rw[Qaa,List.length_drop,hlen];omega
     refine⟨p,n,c,rfl,hlen2.symm,hnc,?_⟩
     ·rcases hx a1 with rfl|⟨b,hb,rfl⟩
      ·exact .inl (by simp)
      ·rcases a5 with a5|⟨b',cs,T,hb',hF,hblk,hsz,hrow⟩
       ·rw[a5.1]at hb;cases hb
       ·rw[hb]at hb';injection hb' with hb';subst hb';refine .inr ⟨b,lo*S+(G.C id).2,by rw[a2],.inr ⟨id,_,hm,rfl,hb⟩,?_⟩;have:Ha (G.Vd m) w b S (if fa l=true then l else l.map (Vd k m)) (G.C id).2:=by
         split
         ·rename_i hf;exact hrow.free Ks rfl hf
         ·exact Bn ih hrow
        have:=Ko (Wo this lo) n;rwa [Eab]at this
    ·simp[VRel]
   ·simp[VRel]
  |ref id Ga x s=>
   simp only[Vd];split
   ·rename_i S ver' l hm;split
    ·rename_i hvr;obtain⟨rfl,rfl⟩:=hvr;split
     ·rename_i e he;simp only[VRel]at hv⊢;obtain⟨p,rfl,hid,hver,hx⟩:=hv;obtain⟨a1,a2,a3,a4,a5⟩:=hi.ent _ _ hm;obtain⟨b,hb,rfl⟩:=hx a1;rcases a5 with a5|⟨b',cs,T,hb',hF,hblk,hsz,hrow⟩
      ·rw[a5.1]at hb;cases hb
      ·rw[hb]at hb';injection hb' with hb';subst hb';obtain⟨u',g1,g2,g3⟩:=ld.1 hrow x e he;refine⟨b,_,u',rfl,.inr ⟨id,_,hm,rfl,hb⟩,ih e u' g1,?_⟩;rw[a2,Jab,Eab];exact g3
     ·simp[VRel]
    ·simp[VRel]
   ·simp[VRel]
  |fn f a b=>
   simp only[Vd,VRel]at hv⊢;obtain⟨fs,cs,rfl,h1,h2⟩:=hv;exact⟨fs,cs,rfl,Om ih h1,Om ih h2⟩
  |_=>simp[Vd,VRel]
def Gh.bare(F:Nat→Prop):Gh:=⟨F,0,fun _=>none,fun _=>0,fun _=>0,fun _=>0,fun _=>(0,0)⟩
theorem YJ{g:Nat}{d:D}(h:gtab g=some d):la d=true:=by
 unfold gtab at h;split at h
 ·injection h with h;subst h;rfl
 ·cases h
theorem GOK.bare{G G':Gh}{w:World}(h:GOK G w) (hF:∀b,G.F b→G'.F b):GOK G' w:=fun g d hd=>
 VRel.free (G:=G) (G':=G') ⟨hF,fun _ _=>rfl⟩ (d:=.pt d) (by simpa [la] using YJ hd) (h g d hd)
theorem Ev{F:Nat→Prop}{w:World}(h:∀b,F b→b<w.heap.size) (hg:GOK (Gh.bare F) w):Inv (Gh.bare F) w []:=
 ⟨rfl,h,fun i e he=>by simp at he,fun i j e e' he=>by simp at he,hg⟩
theorem Bt{G:Gh}{b:Nat}:¬me G [] b:=fun⟨i,e,he,_⟩=>by simp at he
theorem iC{G G':Gh}{F:Nat→Prop}{w w':World}{m m':List Ent}(hi:Inv G w m) (hs:Step (Gh.bare F) w [] G' w' m') (hi':Inv G' w' m') (hF:∀b,G.F b→F b) :
 (∀b,b<w.heap.size→w'.heap[b]?=w.heap[b]?)∧
 (Inv G w' m∧Step G w m G w' m)∧
 ((∀b,F b→G.F b)→Inv { G with F:=fun b=>G'.F b∨me G' m' b } w' m∧Step G w m { G with F:=fun b=>G'.F b∨me G' m' b } w' m):=by
 have hkeep:∀b,b<w.heap.size→w'.heap[b]?=w.heap[b]?:=fun b hb=>hs.keep b hb Bt;have hold:∀i x,m[i]?=some x→x.isLive=true→∀k,G.B i=some k→k<w.heap.size:=fun i x hx hl k hk=>((hi.ent i x hx).lt hl hk).1;refine⟨hkeep,?_,fun hF'=>?_⟩
 ·have hle:Le G w G w':=⟨fun _ h=>h,fun b hb=>hkeep b (hi.F b hb),yaa _,fun _ _=>.inl ⟨rfl,rfl,rfl,rfl,rfl⟩⟩;refine⟨⟨hi.n,fun b hb=>qab (hi.F b hb) hs.size,fun i e he=>?_,hi.apart,hi.gl.mono hle⟩,⟨hle,hs.os,hs.tape,hs.output,hs.size,fun b hb _=>hkeep b hb,fun _ _ h=>.inl h,fun _ _ h=>h⟩⟩;by_cases hl:e.isLive=true
  ·exact(hi.ent i e he).mono hle ⟨rfl,rfl,rfl,rfl,rfl⟩ (fun b hb=>hkeep b (hold i e he hl b hb)) (fun _ _ _ h=>h)
  ·cases e with
   |gone=>trivial
   |_=>simp[Ent.isLive]at hl
 ·have hle:Le G w { G with F:=fun b=>G'.F b∨me G' m' b } w':=⟨fun b h=>.inl (hs.le.F b (hF b h)),fun b hb=>hkeep b (hi.F b hb),yaa _,fun _ _=>.inl ⟨rfl,rfl,rfl,rfl,rfl⟩⟩;have hold':∀b,b<w.heap.size→(G'.F b∨me G' m' b)→G.F b:=by
   intro b hb h;rcases h with h|h
   ·rcases hs.newF b hb h with h|h
    ·exact hF' b h
    ·exact(Bt h).elim
   ·exact(Bt (hs.newB b hb h)).elim
  refine⟨⟨hi.n,?_,fun i e he=>?_,hi.apart,hi.gl.mono hle⟩,⟨hle,hs.os,hs.tape,hs.output,hs.size,fun b hb _=>hkeep b hb,fun b hb h=>.inl (hold' b hb h),fun _ _ h=>h⟩⟩
  ·rintro b (h|h)
   ·exact hi'.F b h
   ·exact(me.lt hi' h).1
  ·by_cases hl:e.isLive=true
   ·exact(hi.ent i e he).mono hle ⟨rfl,rfl,rfl,rfl,rfl⟩ (fun b hb=>hkeep b (hold i e he hl b hb)) (fun b hb _ h=>hold' b (hold i e he hl b hb) h)
   ·cases e with
    |gone=>trivial
    |_=>simp[Ent.isLive]at hl
mutual
def flat:D→Bool
 |.v _=>true
 |.agg l=>HB l
 |.tup l=>HB l
 |.dead=>true
 |_=>false
def HB:List D→Bool
 |[]=>true
 |d::l=>flat d&&HB l
end
mutual
theorem VRel.flat{G G':Gh}{w w':World}:∀{d:D}{u:Value},flat d=true→VRel G w d u→VRel G' w' d u
 |.v x,u,_,h=>by simpa [VRel] using h
 |.agg l,u,hf,h=>by
  simp only[VRel,Tm.flat]at h hf⊢;obtain⟨cs,rfl,h,h1⟩:=h;exact⟨cs,rfl,VsRel.flat hf h,h1⟩
 |.tup l,u,hf,h=>by
  simp only[VRel,Tm.flat]at h hf⊢;obtain⟨cs,rfl,h⟩:=h;exact⟨cs,rfl,VsRel.flat hf h⟩
 |.dead,u,_,h=>by simp[VRel]
 |.sl ..,_,hf,_=>by simp[Tm.flat]at hf
 |.pt ..,_,hf,_=>by simp[Tm.flat]at hf
 |.fn ..,_,hf,_=>by simp[Tm.flat]at hf
 |.ref ..,_,hf,_=>by simp[Tm.flat]at hf
 |.own ..,_,hf,_=>by simp[Tm.flat]at hf
 |.view ..,_,hf,_=>by simp[Tm.flat]at hf
 |.mp _,_,hf,_=>by simp[Tm.flat]at hf
 |.ifc ..,_,hf,_=>by simp[Tm.flat]at hf
theorem VsRel.flat{G G':Gh}{w w':World}:∀{l:List D}{us:List Value},HB l=true→VsRel G w l us→VsRel G' w' l us
 |[],us,_,h=>by simpa [VsRel] using h
 |d::l,us,hf,h=>by
  simp only[VsRel,HB,paa]at h hf⊢;obtain⟨u,r,rfl,h1,h2⟩:=h;exact⟨u,r,rfl,VRel.flat hf.1 h1,VsRel.flat hf.2 h2⟩
end
end Go.Tm
namespace Go.Tm
open Go.RowKit (Below)
mutual
def Sub:D→D→Prop
 |_,.dead=>True
 |.v x,.sl _ l=>x=.slice none 0 0∧l=[]
 |.agg l,.agg r=>ra l r
 |.tup l,.tup r=>ra l r
 |.sl S l,.sl S' r=>S=S'∧ra l r
 |d,e=>d=e
def ra:List D→List D→Prop
 |[],r=>r=[]
 |d::l,r=>∃e r',r=e::r'∧Sub d e∧ra l r'
end
theorem ra.length:∀{l r:List D},ra l r→l.length=r.length
 |[],r,h=>by simp[ra]at h;simp[h]
 |d::l,r,h=>by
  simp only[ra]at h;obtain⟨e,r',rfl,_,h2⟩:=h;simp[ra.length h2]
mutual
theorem Sub.rel{G:Gh}{w:World}:∀{d e:D}{u:Value},Sub d e→VRel G w d u→VRel G w e u
 |d,.dead,u,_,_=>by simp[VRel]
 |.v x,.sl S l,u,hs,h=>by
  simp only[Sub]at hs;obtain⟨rfl,rfl⟩:=hs;simp only[VRel]at h⊢;exact⟨none,0,0,h,rfl,yaa _,by simp⟩
 |.agg l,.agg r,u,hs,h=>by
  simp only[Sub]at hs;simp only[VRel]at h⊢;obtain⟨cs,rfl,h,h1⟩:=h;exact⟨cs,rfl,ra.rel hs h,h1⟩
 |.tup l,.tup r,u,hs,h=>by
  simp only[Sub]at hs;simp only[VRel]at h⊢;obtain⟨cs,rfl,h⟩:=h;exact⟨cs,rfl,ra.rel hs h⟩
 |.sl S l,.sl S' r,u,hs,h=>by
  simp only[Sub]at hs;obtain⟨rfl,hs⟩:=hs;simp only[VRel]at h⊢;obtain⟨a,n,cap,rfl,hn,hc,h⟩:=h;refine⟨a,n,cap,rfl,by rw[←hs.length];exact hn,hc,?_⟩;rcases h with rfl|⟨b,off,rfl,hF,hr⟩
  ·simp only[ra]at hs;exact .inl hs
  ·exact .inr ⟨b,off,rfl,hF,ra.row hs hr⟩
 |.v x,.v y,u,hs,h=>by simp only[Sub]at hs;rw[←hs];exact h
 |.v x,.agg y,u,hs,h=>by simp only[Sub]at hs;cases hs
 |.v x,.tup y,u,hs,h=>by simp only[Sub]at hs;cases hs
 |.v x,.pt y,u,hs,h=>by simp only[Sub]at hs;cases hs
 |.v x,.ref ..,u,hs,h=>by simp only[Sub]at hs;cases hs
 |.v x,.own ..,u,hs,h=>by simp only[Sub]at hs;cases hs
 |.v x,.view ..,u,hs,h=>by simp only[Sub]at hs;cases hs
 |.v x,.fn ..,u,hs,h=>by simp only[Sub]at hs;cases hs
 |.v x,.mp ..,u,hs,h=>by simp only[Sub]at hs;cases hs
 |.v x,.ifc ..,u,hs,h=>by simp only[Sub]at hs;cases hs
 |.agg l,.v y,u,hs,h=>by simp only[Sub]at hs;cases hs
 |.agg l,.tup y,u,hs,h=>by simp only[Sub]at hs;cases hs
 |.agg l,.sl ..,u,hs,h=>by simp only[Sub]at hs;cases hs
 |.agg l,.pt y,u,hs,h=>by simp only[Sub]at hs;cases hs
 |.agg l,.ref ..,u,hs,h=>by simp only[Sub]at hs;cases hs
 |.agg l,.own ..,u,hs,h=>by simp only[Sub]at hs;cases hs
 |.agg l,.view ..,u,hs,h=>by simp only[Sub]at hs;cases hs
 |.agg l,.fn ..,u,hs,h=>by simp only[Sub]at hs;cases hs
 |.agg l,.mp ..,u,hs,h=>by simp only[Sub]at hs;cases hs
 |.agg l,.ifc ..,u,hs,h=>by simp only[Sub]at hs;cases hs
 |.tup l,.v y,u,hs,h=>by simp only[Sub]at hs;cases hs
 |.tup l,.agg y,u,hs,h=>by simp only[Sub]at hs;cases hs
 |.tup l,.sl ..,u,hs,h=>by simp only[Sub]at hs;cases hs
 |.tup l,.pt y,u,hs,h=>by simp only[Sub]at hs;cases hs
 |.tup l,.ref ..,u,hs,h=>by simp only[Sub]at hs;cases hs
 |.tup l,.own ..,u,hs,h=>by simp only[Sub]at hs;cases hs
 |.tup l,.view ..,u,hs,h=>by simp only[Sub]at hs;cases hs
 |.tup l,.fn ..,u,hs,h=>by simp only[Sub]at hs;cases hs
 |.tup l,.mp ..,u,hs,h=>by simp only[Sub]at hs;cases hs
 |.tup l,.ifc ..,u,hs,h=>by simp only[Sub]at hs;cases hs
 |.sl S l,.v y,u,hs,h=>by simp only[Sub]at hs;cases hs
 |.sl S l,.agg y,u,hs,h=>by simp only[Sub]at hs;cases hs
 |.sl S l,.tup ..,u,hs,h=>by simp only[Sub]at hs;cases hs
 |.sl S l,.pt y,u,hs,h=>by simp only[Sub]at hs;cases hs
 |.sl S l,.ref ..,u,hs,h=>by simp only[Sub]at hs;cases hs
 |.sl S l,.own ..,u,hs,h=>by simp only[Sub]at hs;cases hs
 |.sl S l,.view ..,u,hs,h=>by simp only[Sub]at hs;cases hs
 |.sl S l,.fn ..,u,hs,h=>by simp only[Sub]at hs;cases hs
 |.sl S l,.mp ..,u,hs,h=>by simp only[Sub]at hs;cases hs
 |.sl S l,.ifc ..,u,hs,h=>by simp only[Sub]at hs;cases hs
 |.pt x,e,u,hs,h=>by cases e<;>simp only[Sub]at hs<;>first|(simp[VRel];done)|(rw[←hs];exact h)|cases hs
 |.ref a b c d,e,u,hs,h=>by cases e<;>simp only[Sub]at hs<;>first|(simp[VRel];done)|(rw[←hs];exact h)|cases hs
 |.own a b,e,u,hs,h=>by cases e<;>simp only[Sub]at hs<;>first|(simp[VRel];done)|(rw[←hs];exact h)|cases hs
 |.view a b c d,e,u,hs,h=>by cases e<;>simp only[Sub]at hs<;>first|(simp[VRel];done)|(rw[←hs];exact h)|cases hs
 |.fn a b c,e,u,hs,h=>by cases e<;>simp only[Sub]at hs<;>first|(simp[VRel];done)|(rw[←hs];exact h)|cases hs
 |.mp a,e,u,hs,h=>by cases e<;>simp only[Sub]at hs<;>first|(simp[VRel];done)|(rw[←hs];exact h)|cases hs
 |.ifc a b,e,u,hs,h=>by cases e<;>simp only[Sub]at hs<;>first|(simp[VRel];done)|(rw[←hs];exact h)|cases hs
 |.dead,e,u,hs,h=>by cases e<;>simp only[Sub]at hs<;>first|(simp[VRel];done)|(rw[←hs];exact h)|cases hs
theorem ra.rel{G:Gh}{w:World}:∀{l r:List D}{us:List Value},ra l r→VsRel G w l us→VsRel G w r us
 |[],r,us,hs,h=>by simp only[ra]at hs;subst hs;exact h
 |d::l,r,us,hs,h=>by
  simp only[ra]at hs;obtain⟨e,r',rfl,h1,h2⟩:=hs;simp only[VsRel]at h⊢;obtain⟨u,us',rfl,g1,g2⟩:=h;exact⟨u,us',rfl,Sub.rel h1 g1,ra.rel h2 g2⟩
theorem ra.row{G:Gh}{w:World}{b S:Nat}:∀{l r:List D}{off:Nat},ra l r→Ha G w b S l off→Ha G w b S r off
 |[],r,off,hs,h=>by simp only[ra]at hs;subst hs;exact h
 |d::l,r,off,hs,h=>by
  simp only[ra]at hs;obtain⟨e,r',rfl,h1,h2⟩:=hs;simp only[Ha]at h⊢;obtain⟨⟨u,g1,g2,g3⟩,g4⟩:=h;exact⟨⟨u,Sub.rel h1 g1,g2,g3⟩,ra.row h2 g4⟩
end
mutual
theorem Sub.refl:∀d:D,Sub d d
 |.v x=>by simp[Sub]
 |.agg l=>by simp only[Sub];exact ra.Gb l
 |.tup l=>by simp only[Sub];exact ra.Gb l
 |.sl S l=>by simp only[Sub,true_and];exact ra.Gb l
 |.pt d=>by simp[Sub]
 |.ref ..=>by simp[Sub]
 |.own ..=>by simp[Sub]
 |.view ..=>by simp[Sub]
 |.fn ..=>by simp[Sub]
 |.mp ..=>by simp[Sub]
 |.ifc ..=>by simp[Sub]
 |.dead=>by simp[Sub]
theorem ra.Gb:∀l:List D,ra l l
 |[]=>by simp[ra]
 |d::l=>by simp only[ra];exact⟨d,l,rfl,Sub.refl d,ra.Gb l⟩
end
section
variable {P:Program} {N:Nat}
theorem T.sub{c:C}{K:Exit→St→Prop}{s:St}(t':List D) (hs:ra s.t t') (h:T P N c K ⟨t',s.m⟩):T P N c K s:=
 T.ghost (s':=⟨t',s.m⟩) (fun G w _ hN hr=>⟨G,⟨hs.rel hr.t,hr.inv,hr.defers⟩,StepN.refl _ _ _ hN⟩) h
theorem T.ax{c:C}{K:Exit→St→Prop}{s:St}(i S:Nat) (hi:s.t[i]?=some (.v (.slice none 0 0))) (h:T P N c K ⟨s.t.set i (.own s.m.length 0),s.m++[.live S 0 []]⟩):T P N c K s:=by
 refine T.ghost (fun G w a hN hr=>?_) h;have hadd:=Ps (w':=w) hr.inv none S 0 0 (.live S 0 []) rfl rfl rfl rfl (yaa _) (fun _ _=>rfl) (fun k h=>by cases h)
  ⟨by simp[Gh.add],by simp[Gh.add],by simp[Gh.add],by simp,.inl ⟨by simp[Gh.add],by simp[Gh.add]⟩⟩
 refine⟨_,⟨?_,hadd.1,hr.defers⟩,hadd.2.RN hN⟩;have hx:=VsRel.get i hr.t;rw[uaa,hi]at hx;simp only[Qab,VRel]at hx;have hset:=VsRel.set (d:=.own s.m.length 0) (x:=.slice none 0 0) (Ds (s:=s) (b:=none) (S:=S) (N:=0) (C:=0) (w':=w) hr.inv.n) i (hr.t.mono hadd.2.le);have hself:a.tmps.toList.set i (.slice none 0 0)=a.tmps.toList:=by
  rw[←hx];apply List.ext_getElem?;intro j;rw[fac];split
  ·rename_i hij;subst hij;split
   ·rename_i hlt;simp[iaa hlt]
   ·rename_i hlt;rw[Saa (by omega)]
  ·rfl
 rwa [hself]at hset
mutual
def below(k:Nat):D→Bool
 |.agg l=>belows k l
 |.tup l=>belows k l
 |.sl _ l=>belows k l
 |.pt d=>below k d
 |.ref i _ _ _=>decide (i<k)
 |.own i _=>decide (i<k)
 |.view i _ _ _=>decide (i<k)
 |.fn _ a b=>belows k a&&belows k b
 |.mp i=>decide (i<k)
 |.ifc _ d=>below k d
 |_=>true
def belows(k:Nat):List D→Bool
 |[]=>true
 |d::l=>below k d&&belows k l
end
mutual
theorem Da(k:Nat):∀d:D,la d=true→below k d=true
 |.v _,_=>by simp[below]
 |.agg l,h=>by simp only[below];exact Mc k l (by simpa [la] using h)
 |.tup l,h=>by simp only[below];exact Mc k l (by simpa [la] using h)
 |.sl _ l,h=>by simp only[below];exact Mc k l (by simpa [la] using h)
 |.pt d,h=>by simp only[below];exact Da k d (by simpa [la] using h)
 |.ifc _ d,h=>by simp only[below];exact Da k d (by simpa [la] using h)
 |.fn _ a b,h=>by
  simp only[la,paa]at h;simp only[below,paa];exact⟨Mc k a h.1,Mc k b h.2⟩
 |.dead,_=>by simp[below]
 |.ref ..,h=>by simp[la]at h
 |.own ..,h=>by simp[la]at h
 |.view ..,h=>by simp[la]at h
 |.mp _,h=>by simp[la]at h
theorem Mc(k:Nat):∀l:List D,fa l=true→belows k l=true
 |[],_=>by simp[belows]
 |d::l,h=>by
  simp only[fa,paa]at h;simp only[belows,paa];exact⟨Da k d h.1,Mc k l h.2⟩
end
def Ent.below(k:Nat):Ent→Bool
 |.live _ _ l=>belows k l
 |.mp es=>es.all fun e=>Tm.below k e.2
 |.gone=>true
def Gh.trim(G:Gh) (k:Nat):Gh:={ G with n:=k }
mutual
theorem VRel.trim{G:Gh}{w:World}{k:Nat}:∀{d:D}{u:Value},below k d=true→VRel G w d u→VRel (G.trim k) w d u
 |.v x,u,_,h=>by simpa [VRel] using h
 |.agg l,u,hb,h=>by
  simp only[VRel,below]at h hb⊢;obtain⟨cs,rfl,h,h1⟩:=h;exact⟨cs,rfl,VsRel.trim hb h,h1⟩
 |.tup l,u,hb,h=>by
  simp only[VRel,below]at h hb⊢;obtain⟨cs,rfl,h⟩:=h;exact⟨cs,rfl,VsRel.trim hb h⟩
 |.sl S l,u,hb,h=>by
  simp only[VRel,below]at h hb⊢;obtain⟨a,n,cap,rfl,hn,hc,h⟩:=h;refine⟨a,n,cap,rfl,hn,hc,?_⟩;rcases h with h|⟨b,off,rfl,hF,hr⟩
  ·exact .inl h
  ·exact .inr ⟨b,off,rfl,hF,Ha.trim hb hr⟩
 |.pt d,u,hb,h=>by
  simp only[VRel,below]at h hb⊢;obtain⟨b,off,x,rfl,hF,hd,hh⟩:=h;exact⟨b,off,x,rfl,hF,VRel.trim hb hd,hh⟩
 |.ref ..,u,hb,h=>by
  simp only[VRel,below,decide_eq_true_eq]at h hb⊢;obtain⟨a,hu,_,h⟩:=h;exact⟨a,hu,hb,h⟩
 |.own ..,u,hb,h=>by
  simp only[VRel,below,decide_eq_true_eq]at h hb⊢;obtain⟨a,n,c,hu,_,h⟩:=h;exact⟨a,n,c,hu,hb,h⟩
 |.view ..,u,hb,h=>by
  simp only[VRel,below,decide_eq_true_eq]at h hb⊢;obtain⟨a,c,hu,hn,_,h⟩:=h;exact⟨a,c,hu,hn,hb,h⟩
 |.mp _,u,hb,h=>by
  simp only[VRel,below,decide_eq_true_eq]at h hb⊢;obtain⟨b,hu,_,h⟩:=h;exact⟨b,hu,hb,h⟩
 |.ifc t d,u,hb,h=>by
  simp only[VRel,below]at h hb⊢;obtain⟨x,rfl,h⟩:=h;exact⟨x,rfl,VRel.trim hb h⟩
 |.fn f first caps,u,hb,h=>by
  simp only[VRel,below,paa]at h hb⊢;obtain⟨fs,cs,rfl,h1,h2⟩:=h;exact⟨fs,cs,rfl,VsRel.trim hb.1 h1,VsRel.trim hb.2 h2⟩
 |.dead,u,_,h=>by simp[VRel]
theorem VsRel.trim{G:Gh}{w:World}{k:Nat}:∀{l:List D}{us:List Value},belows k l=true→VsRel G w l us→VsRel (G.trim k) w l us
 |[],us,_,h=>by simpa [VsRel] using h
 |d::l,us,hb,h=>by
  simp only[VsRel,belows,paa]at h hb⊢;obtain⟨u,r,rfl,h1,h2⟩:=h;exact⟨u,r,rfl,VRel.trim hb.1 h1,VsRel.trim hb.2 h2⟩
theorem Ha.trim{G:Gh}{w:World}{k b S:Nat}:∀{l:List D}{off:Nat},belows k l=true→Ha G w b S l off→Ha (G.trim k) w b S l off
 |[],off,_,h=>by simp[Ha]
 |d::l,off,hb,h=>by
  simp only[Ha,belows,paa]at h hb⊢;obtain⟨⟨u,h1,h2,h3⟩,h4⟩:=h;exact⟨⟨u,VRel.trim hb.1 h1,h2,h3⟩,Ha.trim hb.2 h4⟩
end
theorem Yc.trim{G:Gh}{w:World}{k:Nat}:∀{l:List (Value×D)}{es:List MapEntry},(l.all fun e=>below k e.2)=true→Yc G w l es→Yc (G.trim k) w l es
 |[],es,_,h=>h
 |(q,d)::l,es,hb,h=>by
  simp only[List.all_cons,paa]at hb;obtain⟨e,r,h0,h1,h2,h3⟩:=h;exact⟨e,r,h0,h1,h2.trim hb.1,h3.trim hb.2⟩
theorem T.trim{c:C}{K:Exit→St→Prop}{s:St}(k:Nat) (hN:N≤k) (hk:k≤s.m.length) (ht:belows k s.t=true) (hm:(s.m.take k).all (Ent.below k)=true) (h:T P N c K ⟨s.t,s.m.take k⟩):T P N c K s:=by
 refine T.ghost (fun G w a hN' hr=>?_) h;have hi:=hr.inv;have hget:∀(i:Nat) e,(s.m.take k)[i]?=some e→i<k∧s.m[i]?=some e:=by
  intro i e he;rw[Zab]at he;split at he
  ·rename_i hik;exact⟨hik,he⟩
  ·cases he
 have hinv:Inv (G.trim k) w (s.m.take k):=by
  refine⟨by simp[Gh.trim];omega,hi.F,fun i e he=>?_,fun i j e e' he he' hl hl' b hb hb'=>hi.apart i j e e' (hget i e he).2 (hget j e' he').2 hl hl' b hb hb',hi.gl.bare fun _ h=>h⟩;have hbe:e.below k=true:=Raa.1 hm e (kab he);have hent:=hi.ent i e (hget i e he).2
  cases e with
  |live S Ga l=>
   obtain⟨a1,a2,a3,a4,a5⟩:=hent;refine⟨a1,a2,a3,a4,?_⟩;rcases a5 with a5|⟨b',cs,T,hb',hF,hblk,hsz,hrow⟩
   ·exact .inl a5
   ·exact .inr ⟨b',cs,T,hb',hF,hblk,hsz,hrow.trim (by simpa [Ent.below] using hbe)⟩
  |mp es=>
   obtain⟨a1,b,en,cl,a2,a3,a4,a5⟩:=hent;exact⟨a1,b,en,cl,a2,a3,a4,a5.trim (by simpa [Ent.below] using hbe)⟩
  |gone=>trivial
 refine⟨G.trim k,⟨hr.t.trim ht,hinv,hr.defers⟩,⟨fun _ h=>h,fun _ _=>rfl,hN,fun i hi'=>.inl ⟨rfl,rfl,rfl,rfl,rfl⟩,rfl,rfl,rfl,yaa _,fun _ _ _=>rfl,fun _ _ h=>.inl h,?_⟩⟩;rintro b hb ⟨i,e,he,hl,hB⟩;exact⟨i,e,(hget i e he).2,hl,hB⟩
theorem T.W5{x:C}{K:Exit→St→Prop}{s:St}{X:Type}(S:X→St) (Wm:X→Prop) (μ:X→Nat) (x₀:X) (h0:Wm x₀) (ht:ra s.t (S x₀).t) (hm:s.m=(S x₀).m)
 (hb:∀y,Wm y→N≤(S y).m.length∧belows (S y).m.length (S y).t=true∧(S y).m.all (Ent.below (S y).m.length)=true)
 (round:∀y,Wm y→T P N x (fun e s'=>match e with|.normal=>∃z,Wm z∧μ z<μ y∧ra s'.t (S z).t∧∃g,s'.m=(S z).m++g|e=>K e s') (S y)):T P N (.loop x) K s:=by
 refine T.RU (J:=fun y s'=>Wm y∧ra s'.t (S y).t∧∃g,s'.m=(S y).m++g) μ x₀ ⟨h0,ht,[],by simp[hm]⟩ ?_;rintro y s1 ⟨hg,hs1,g,hm1⟩;obtain⟨b1,b2,b3⟩:=hb y hg;refine T.sub (S y).t hs1 ?_;refine T.trim (S y).m.length b1 (by simp[hm1]) b2 (by simpa [hm1] using b3) ?_;have hst:(⟨(S y).t,s1.m.take (S y).m.length⟩:St)=S y:=by
  rw[hm1,List.take_left]
 simp only[hst];refine(round y hg).mono ?_;intro e s' hK
 cases e with
 |normal=>obtain⟨z,k1,k2,k3,k4⟩:=hK;exact⟨z,⟨k1,k3,k4⟩,k2⟩
 |_=>exact hK
end
end Go.Tm
namespace Go.Tm
open Go.RowKit (Below)
theorem ta{s s':St}{x:Operand}(h:∀t∈Kd x,s'.t.getD t .dead=s.t.getD t .dead):s'.ev x=s.ev x:=by
 cases x<;>simp[St.ev];rename_i t;have:=h t (by simp[Kd]);simpa [uaa] using this
theorem Wz{s s':St}{f:Cal}(h:∀t∈f.tmps,s'.t.getD t .dead=s.t.getD t .dead):s'.cv f=s.cv f:=by
 cases f with
 |tmp t=>exact ta (x:=.tmp t) fun t' h'=>h t' (by simpa [Cal.tmps,Kd] using h')
 |_=>rfl
theorem Lj{s s':St}{d:Nat}{x:Option Operand}(h:∀t∈Px x,s'.t.getD t .dead=s.t.getD t .dead):bound s' d x=bound s d x:=by
 cases x with
 |none=>rfl
 |some y=>simp only[bound,ta (s:=s) (s':=s') (x:=y) (fun t ht=>h t ht)]
theorem Zv{s s':St}:∀{ps:List (Nat×Nat×Operand)}{l:List D},(∀t∈ps.flatMap (fun p=>Kd p.2.2),s'.t.getD t .dead=s.t.getD t .dead)→Wn s' ps l=Wn s ps l
 |[],l,h=>rfl
 |(o,n,x)::ps,l,h=>by
  simp only[Wn,ta (s:=s) (s':=s') (x:=x) (fun t ht=>h t (by simp;exact .inl ht))];split
  ·exact Zv fun t ht=>h t (by simp at ht⊢;exact .inr ht)
  ·rfl
theorem gn{s s':St}{S:Nat}:∀{ps:List (Nat×Operand)}{l:List D},(∀t∈ps.flatMap (fun p=>Kd p.2),s'.t.getD t .dead=s.t.getD t .dead)→wb s' S ps l=wb s S ps l
 |[],l,h=>rfl
 |(o,x)::ps,l,h=>by
  simp only[wb,ta (s:=s) (s':=s') (x:=x) (fun t ht=>h t (by simp;exact .inl ht))];split
  ·exact gn fun t ht=>h t (by simp at ht⊢;exact .inr ht)
  ·rfl
theorem map_congr{s s':St}:∀{l:List Operand},(∀t∈l.flatMap Kd,s'.t.getD t .dead=s.t.getD t .dead)→l.map s'.ev=l.map s.ev
 |[],h=>rfl
 |x::l,h=>by
  simp only[eab,ta (s:=s) (s':=s') (x:=x) (fun t ht=>h t (by simp;exact .inl ht))];rw[map_congr fun t ht=>h t (by simp at ht⊢;exact .inr ht)]
theorem Uy{s s':St}{g:Option (Tmp×Bool)}(h:∀t∈wD g,s'.t.getD t .dead=s.t.getD t .dead):gate s' g=gate s g:=by
 cases g with
 |none=>rfl
 |some p=>obtain⟨t,b⟩:=p;simp only[gate,h t (by simp[wD])]
def tc:D→Option Nat
 |.ref i _ _ _=>some i
 |.own i _=>some i
 |.view i _ _ _=>some i
 |.mp i=>some i
 |_=>none
def I.xU:I→Option Operand
 |.load _ _ x|.slice _ x _ _ _|.iaddr _ x _|.len x|.mlook _ _ _ x _|.mlen x|.nileq _ x=>some x
 |_=>none
theorem lz{m m':List Ent}{d:D}(h:∀i,tc d=some i→m'[i]?=m[i]?):fc m' d=fc m d:=by
 unfold fc;split<;>first|rfl|(rename_i id Ga;rw[h id rfl])|(rename_i id _ _ _;rw[h id rfl])
theorem rH{S:Nat}{m m':List Ent}{d:D}{lo hi:Nat}(h:∀i,tc d=some i→m'[i]?=m[i]?):eo S m' d lo hi=eo S m d lo hi:=by
 unfold eo;split<;>first|rfl|(rename_i id Ga;rw[h id rfl])|(rename_i id Ga l0 n;rw[h id rfl])
theorem Tl{s s':St}{i:I}{d:D}(hc:i.cls≤1) (ht:∀t∈i.reads,s'.t.getD t .dead=s.t.getD t .dead) (hm:∀x id,i.xU=some x→tc (s.ev x)=some id→s'.m[id]?=s.m[id]?)
 {m1:List Ent} (he:ea s i=some (d,m1)):m1=s.m∧ea s' i=some (d,s'.m):=by
 cases i with
 |mv x=>
  simp only[ea,zaa,Aaa]at he⊢;rw[ta (s:=s) (s':=s') (x:=x) (fun t h=>ht t (by simpa [I.reads] using h))];exact⟨he.2.symm,he.1,by trivial⟩
 |pick c a b=>
  simp only[ea]at he⊢;rw[ta (s:=s) (s':=s') (x:=c) (fun t h=>ht t (by simp[I.reads,h])),ta (s:=s) (s':=s') (x:=a) (fun t h=>ht t (by simp[I.reads,h])),ta (s:=s) (s':=s') (x:=b) (fun t h=>ht t (by simp[I.reads,h]))];split at he
  all_goals first|(simp_all;done)|(simp only[laa,Aaa]at he⊢;obtain⟨_,h1,rfl,rfl⟩:=he;exact⟨rfl,_,h1,by simp⟩)|(simp_all;obtain⟨_,h1,h2,h3⟩:=he;exact⟨h3.symm,_,h1,h2⟩)
 |bin op x y=>
  simp only[ea]at he⊢;rw[ta (s:=s) (s':=s') (x:=x) (fun t h=>ht t (by simp[I.reads,h])),ta (s:=s) (s':=s') (x:=y) (fun t h=>ht t (by simp[I.reads,h]))];split at he
  all_goals first|(simp_all;done)|(simp only[laa,Aaa]at he⊢;obtain⟨_,h1,rfl,rfl⟩:=he;exact⟨rfl,_,h1,by simp⟩)|(simp_all;obtain⟨_,h1,h2,h3⟩:=he;exact⟨h3.symm,_,h1,h2⟩)
 |beq n x y=>
  simp only[ea]at he⊢;rw[ta (s:=s) (s':=s') (x:=x) (fun t h=>ht t (by simp[I.reads,h])),ta (s:=s) (s':=s') (x:=y) (fun t h=>ht t (by simp[I.reads,h]))];split at he
  all_goals first|(simp_all;done)|(simp only[laa,Aaa]at he⊢;obtain⟨_,h1,rfl,rfl⟩:=he;exact⟨rfl,_,h1,by simp⟩)|(simp_all;obtain⟨_,h1,h2,h3⟩:=he;exact⟨h3.symm,_,h1,h2⟩)
 |un op x=>
  simp only[ea]at he⊢;rw[ta (s:=s) (s':=s') (x:=x) (fun t h=>ht t (by simpa [I.reads] using h))];split at he
  all_goals first|(simp_all;done)|(simp only[laa,Aaa]at he⊢;obtain⟨_,h1,rfl,rfl⟩:=he;exact⟨rfl,_,h1,by simp⟩)|(simp_all;obtain⟨_,h1,h2,h3⟩:=he;exact⟨h3.symm,_,h1,h2⟩)
 |conv k x=>
  simp only[ea]at he⊢;rw[ta (s:=s) (s':=s') (x:=x) (fun t h=>ht t (by simpa [I.reads] using h))];split at he
  all_goals first|(simp_all;done)|(simp only[laa,Aaa]at he⊢;obtain⟨_,h1,rfl,rfl⟩:=he;exact⟨rfl,_,h1,by simp⟩)|(simp_all;obtain⟨_,h1,h2,h3⟩:=he;exact⟨h3.symm,_,h1,h2⟩)
 |build z ps=>
  simp only[ea]at he⊢;rw[Zv (s:=s) (s':=s') (fun t h=>ht t (by simpa [I.reads] using h))]
  cases hb:Wn s ps z with
  |none=>simp[hb]at he
  |some l=>simp_all
 |mkifc t x=>
  simp only[ea,zaa,Aaa]at he⊢;rw[ta (s:=s) (s':=s') (x:=x) (fun t h=>ht t (by simpa [I.reads] using h))];exact⟨he.2.symm,he.1,by trivial⟩
 |tassert ok t z x=>
  simp only[ea]at he⊢;rw[ta (s:=s) (s':=s') (x:=x) (fun t h=>ht t (by simpa [I.reads] using h))]
  repeat' split at he
  all_goals first|(simp_all;done)|(simp only[laa,Aaa]at he⊢;obtain⟨_,h1,rfl,rfl⟩:=he;exact⟨rfl,_,h1,by simp⟩)|(simp_all;obtain⟨_,h1,h2,h3⟩:=he;exact⟨h3.symm,_,h1,h2⟩)
 |capn x=>
  simp only[ea]at he⊢;rw[ta (s:=s) (s':=s') (x:=x) (fun t h=>ht t (by simpa [I.reads] using h))];split at he
  all_goals first|(simp_all;done)|(simp only[laa,Aaa]at he⊢;obtain⟨_,h1,rfl,rfl⟩:=he;exact⟨rfl,_,h1,by simp⟩)|(simp_all;obtain⟨_,h1,h2,h3⟩:=he;exact⟨h3.symm,_,h1,h2⟩)
 |nileq neg x=>
  simp only[ea]at he⊢;rw[ta (s:=s) (s':=s') (x:=x) (fun t h=>ht t (by simpa [I.reads] using h))];split at he
  ·rename_i hx;simp only[zaa,Aaa]at he;simp[hx,he.1,he.2]
  ·rename_i hx;simp only[zaa,Aaa]at he;simp[hx,he.1,he.2]
  ·rename_i id Ga hx;rw[hm x id rfl (by rw[hx];rfl)];split at he
   ·split at he
    ·rename_i h1 h2;simp only[zaa,Aaa]at he;simp[h1,h2,he.1,he.2]
    ·cases he
   ·cases he
  ·cases he
 |clr S z x=>simp[I.cls]at hc
 |mkapp S b z x n=>simp[I.cls]at hc
 |nilc x=>
  simp only[ea]at he⊢;rw[ta (s:=s) (s':=s') (x:=x) (fun t h=>ht t (by simpa [I.reads] using h))];split at he
  all_goals first|(simp_all;done)|(simp only[laa,Aaa]at he⊢;obtain⟨_,h1,rfl,rfl⟩:=he;exact⟨rfl,_,h1,by simp⟩)|(simp_all;obtain⟨_,h1,h2,h3⟩:=he;exact⟨h3.symm,_,h1,h2⟩)
 |faddr A n o x=>
  simp only[ea]at he⊢;rw[ta (s:=s) (s':=s') (x:=x) (fun t h=>ht t (by simpa [I.reads] using h))];split at he
  all_goals first|(simp_all;done)|(simp only[laa,Aaa]at he⊢;obtain⟨_,h1,rfl,rfl⟩:=he;exact⟨rfl,_,h1,by simp⟩)|(simp_all;obtain⟨_,h1,h2,h3⟩:=he;exact⟨h3.symm,_,h1,h2⟩)
 |field A n o x=>
  simp only[ea]at he⊢;rw[ta (s:=s) (s':=s') (x:=x) (fun t h=>ht t (by simpa [I.reads] using h))];split at he
  all_goals first|(simp_all;done)|(simp only[laa,Aaa]at he⊢;obtain⟨_,h1,rfl,rfl⟩:=he;exact⟨rfl,_,h1,by simp⟩)|(simp_all;obtain⟨_,h1,h2,h3⟩:=he;exact⟨h3.symm,_,h1,h2⟩)
 |extract x k=>
  simp only[ea]at he⊢;rw[ta (s:=s) (s':=s') (x:=x) (fun t h=>ht t (by simpa [I.reads] using h))];split at he
  all_goals first|(simp_all;done)|(simp only[laa,Aaa]at he⊢;obtain⟨_,h1,rfl,rfl⟩:=he;exact⟨rfl,_,h1,by simp⟩)|(simp_all;obtain⟨_,h1,h2,h3⟩:=he;exact⟨h3.symm,_,h1,h2⟩)
 |mkfunc f a b=>
  simp only[ea,zaa,Aaa]at he⊢;rw[map_congr (s:=s) (s':=s') (l:=a) (fun t h=>ht t (by simp[I.reads]at h⊢;exact .inl h)),map_congr (s:=s) (s':=s') (l:=b) (fun t h=>ht t (by simp[I.reads]at h⊢;exact .inr h))];exact⟨he.2.symm,he.1,by trivial⟩
 |aaddr A S n x y=>
  simp only[ea]at he⊢;rw[ta (s:=s) (s':=s') (x:=x) (fun t h=>ht t (by simp[I.reads,h])),ta (s:=s) (s':=s') (x:=y) (fun t h=>ht t (by simp[I.reads,h]))]
  repeat' split at he
  all_goals first|(simp_all;done)|(simp only[laa,Aaa]at he⊢;obtain⟨_,h1,rfl,rfl⟩:=he;exact⟨rfl,_,h1,by simp⟩)|(simp_all;obtain⟨_,h1,h2,h3⟩:=he;exact⟨h3.symm,_,h1,h2⟩)
 |index A S n x y=>
  simp only[ea]at he⊢;rw[ta (s:=s) (s':=s') (x:=x) (fun t h=>ht t (by simp[I.reads,h])),ta (s:=s) (s':=s') (x:=y) (fun t h=>ht t (by simp[I.reads,h]))];split at he
  ·split at he
   ·rename_i hk;rw[if_pos hk];split at he
    ·simp only[laa,Aaa]at he⊢;obtain⟨_,h1,rfl,rfl⟩:=he;exact⟨rfl,_,h1,by simp⟩
    ·cases he
   ·cases he
  ·cases he
 |slen x=>
  simp only[ea]at he⊢;rw[ta (s:=s) (s':=s') (x:=x) (fun t h=>ht t (by simpa [I.reads] using h))];split at he
  all_goals first|(simp_all;done)|(simp only[laa,Aaa]at he⊢;obtain⟨_,h1,rfl,rfl⟩:=he;exact⟨rfl,_,h1,by simp⟩)|(simp_all;obtain⟨_,h1,h2,h3⟩:=he;exact⟨h3.symm,_,h1,h2⟩)
 |len x=>
  simp only[ea]at he⊢;rw[ta (s:=s) (s':=s') (x:=x) (fun t h=>ht t (by simpa [I.reads] using h)),lz (fun id h=>hm x id rfl h)]
  cases hb:fc s.m (s.ev x)with
  |none=>simp[hb]at he
  |some l=>simp_all
 |slice S x lo hi mx=>
  simp only[ea]at he⊢;rw[ta (s:=s) (s':=s') (x:=x) (fun t h=>ht t (by simp[I.reads,h])),lz (fun id h=>hm x id rfl h)]
  cases hb:fc s.m (s.ev x)with
  |none=>simp[hb]at he
  |some n=>
   simp only[hb]at he⊢;rw[Lj (s:=s) (s':=s') (x:=lo) (fun t h=>ht t (by simp[I.reads,h])),Lj (s:=s) (s':=s') (x:=hi) (fun t h=>ht t (by simp[I.reads,h])),Lj (s:=s) (s':=s') (x:=mx) (fun t h=>ht t (by simp[I.reads,h]))];split at he
   ·rename_i l h k h1 h2 h3;(try simp only);rw[rH (fun id h=>hm x id rfl h)];split at he
    ·rename_i hc;rw[if_pos hc]
     cases hs:eo S s.m (s.ev x) l h with
     |none=>simp[hs]at he
     |some r=>simp_all
    ·cases he
   ·cases he
 |iaddr S x y=>
  simp only[ea]at he⊢;rw[ta (s:=s) (s':=s') (x:=x) (fun t h=>ht t (by simp[I.reads,h])),ta (s:=s) (s':=s') (x:=y) (fun t h=>ht t (by simp[I.reads,h]))];split at he
  ·split at he
   ·rename_i k hk;rw[if_pos hk];split at he
    ·repeat' split at he
     all_goals first|(simp_all;done)|(simp only[laa,Aaa]at he⊢;obtain⟨_,h1,rfl,rfl⟩:=he;exact⟨rfl,_,h1,by simp⟩)|(simp_all;obtain⟨_,h1,h2,h3⟩:=he;exact⟨h3.symm,_,h1,h2⟩)
    ·rename_i id Ga hx;(try simp only);rw[hm x id rfl (by rw[hx];rfl)]
     repeat' split at he
     all_goals first|(simp_all;done)|(simp only[laa,Aaa]at he⊢;obtain⟨_,h1,rfl,rfl⟩:=he;exact⟨rfl,_,h1,by simp⟩)|(simp_all;obtain⟨_,h1,h2,h3⟩:=he;exact⟨h3.symm,_,h1,h2⟩)
    ·rename_i id Ga lo n hx;(try simp only);rw[hm x id rfl (by rw[hx];rfl)]
     repeat' split at he
     all_goals first|(simp_all;done)|(simp only[laa,Aaa]at he⊢;obtain⟨_,h1,rfl,rfl⟩:=he;exact⟨rfl,_,h1,by simp⟩)|(simp_all;obtain⟨_,h1,h2,h3⟩:=he;exact⟨h3.symm,_,h1,h2⟩)
    ·cases he
   ·cases he
  ·cases he
 |load A n x=>
  simp only[ea]at he⊢;rw[ta (s:=s) (s':=s') (x:=x) (fun t h=>ht t (by simpa [I.reads] using h))];split at he
  ·repeat' split at he
   all_goals simp_all
  ·rename_i id Ga idx sub hx;(try simp only);rw[hm x id rfl (by rw[hx];rfl)];split at he
   ·rename_i S ver' l hml;(try simp only);split at he
    ·rename_i hv;rw[if_pos hv];simp only[rac]at he⊢;obtain⟨e,hl,he⟩:=he;split at he
     ·rename_i hok;simp only[laa,Aaa]at he;obtain⟨r,hp,rfl,rfl⟩:=he;exact⟨rfl,e,hl,by rw[if_pos hok,hp];rfl⟩
     ·cases he
    ·cases he
   ·cases he
  ·cases he
 |alloc S z=>simp[I.cls]at hc
 |box S x=>simp[I.cls]at hc
 |bslice S n z ps=>simp[I.cls]at hc
 |mkslice S b z l c=>simp[I.cls]at hc
 |store n x y=>simp[I.cls]at hc
 |append S b x y=>simp[I.cls]at hc
 |fail=>simp[ea]at he
 |mm b xs=>
  simp only[ea]at he⊢;rw[map_congr (s:=s) (s':=s') (l:=xs) (fun t h=>ht t (by simpa [I.reads] using h))];split at he
  all_goals first|(simp_all;done)|(simp only[laa,Aaa]at he⊢;obtain⟨_,h1,rfl,rfl⟩:=he;exact⟨rfl,_,h1,by simp⟩)|(simp_all;obtain⟨_,h1,h2,h3⟩:=he;exact⟨h3.symm,_,h1,h2⟩)
 |ceq n ks x y=>
  simp only[ea]at he⊢;rw[ta (s:=s) (s':=s') (x:=x) (fun t h=>ht t (by simp[I.reads,h])),ta (s:=s) (s':=s') (x:=y) (fun t h=>ht t (by simp[I.reads,h]))];split at he
  all_goals first|(simp_all;done)|(simp only[laa,Aaa]at he⊢;obtain⟨_,h1,rfl,rfl⟩:=he;exact⟨rfl,_,h1,by simp⟩)|(simp_all;obtain⟨_,h1,h2,h3⟩:=he;exact⟨h3.symm,_,h1,h2⟩)
 |strb S x=>simp[I.cls]at hc
 |trunc S x lo hi=>simp[I.cls]at hc
 |vr x y=>
  simp only[ea]at he⊢;rw[ta (s:=s) (s':=s') (x:=x) (fun t h=>ht t (by simp[I.reads,h])),ta (s:=s) (s':=s') (x:=y) (fun t h=>ht t (by simp[I.reads,h]))];split at he
  ·split at he
   ·rename_i hk;rw[dif_pos hk]
    simp_all
   ·cases he
  ·cases he
 |sslice x lo hi=>
  simp only[ea]at he⊢;rw[ta (s:=s) (s':=s') (x:=x) (fun t h=>ht t (by simp[I.reads,h]))];split at he
  ·rename_i b hb;rw[Lj (s:=s) (s':=s') (x:=lo) (fun t h=>ht t (by simp[I.reads,h])),Lj (s:=s) (s':=s') (x:=hi) (fun t h=>ht t (by simp[I.reads,h]))];split at he
   ·split at he
    ·rename_i hk
     simp_all
    ·cases he
   ·cases he
  ·cases he
 |mkmap=>simp[I.cls]at hc
 |mput K m k x=>simp[I.cls]at hc
 |mlook K ok z x k=>
  simp only[ea]at he⊢;rw[ta (s:=s) (s':=s') (x:=x) (fun t h=>ht t (by simp[I.reads,h])),ta (s:=s) (s':=s') (x:=k) (fun t h=>ht t (by simp[I.reads,h]))];split at he
  ·split at he
   ·rename_i hk;rw[if_pos hk];split at he
    ·simp_all
    ·rename_i id hx;(try simp only);rw[hm x id rfl (by rw[hx];rfl)];split at he
     ·split at he
      ·rename_i hall;rw[if_pos hall];split at he<;>simp_all
      ·cases he
     ·cases he
    ·cases he
   ·cases he
  ·cases he
 |mlen x=>
  simp only[ea]at he⊢;rw[ta (s:=s) (s':=s') (x:=x) (fun t h=>ht t (by simp[I.reads,h]))];split at he
  ·simp_all
  ·rename_i id hx;(try simp only);rw[hm x id rfl (by rw[hx];rfl)];split at he
   ·simp_all
   ·cases he
  ·cases he
theorem cA{s s':St}{i:I}{d:D}(hc:i.cls=2) (ht:∀t∈i.reads,s'.t.getD t .dead=s.t.getD t .dead) (hm:s'.m=s.m) {m1:List Ent}(he:ea s i=some (d,m1)):ea s' i=some (d,m1)∧∃e,m1=s.m++[e]:=by
 cases i with
 |alloc S z=>simp only[ea,zaa,Aaa]at he⊢;rw[hm];exact⟨he,_,he.2.symm⟩
 |box S x=>
  simp only[ea]at he⊢;rw[ta (s:=s) (s':=s') (x:=x) (fun t h=>ht t (by simpa [I.reads] using h)),hm];split at he
  ·rename_i hc;rw[if_pos hc];refine⟨he,?_⟩;injection he with he;injection he with h1 h2;exact⟨_,h2.symm⟩
  ·cases he
 |bslice S n z ps=>
  simp only[ea]at he⊢;rw[gn (s:=s) (s':=s') (fun t h=>ht t (by simpa [I.reads] using h)),hm];refine⟨he,?_⟩;simp only[laa,Aaa]at he;obtain⟨l,h1,h2,h3⟩:=he;exact⟨_,h3.symm⟩
 |mkslice S b z l c=>
  simp only[ea]at he⊢;rw[ta (s:=s) (s':=s') (x:=l) (fun t h=>ht t (by simp[I.reads,h])),ta (s:=s) (s':=s') (x:=c) (fun t h=>ht t (by simp[I.reads,h])),hm];refine⟨he,?_⟩;split at he
  ·split at he
   ·injection he with he;injection he with h1 h2;exact⟨_,h2.symm⟩
   ·cases he
  ·cases he
 |mkmap=>
  simp only[ea,zaa,Aaa]at he⊢;rw[hm];exact⟨he,_,he.2.symm⟩
 |_=>simp[I.cls]at hc
def Closed(bs:List (List Nat)) (L:Nat→Bool):Prop:=∀i b,bs[i]?=some b→L i=true→∀e∈b,L e=true
theorem lA(acc:List Nat) {L:Nat→Bool}(hacc:∀e,L e=true→∀j,(acc.getD e 0).testBit j=true→L j=true) :
 ∀(b:List Nat) (s:Nat),(∀e∈b,L e=true)→(∀j,s.testBit j=true→L j=true)→∀j,(b.foldl (fun s e=>s ||| 2 ^ e ||| acc.getD e 0) s).testBit j=true→L j=true
 |[],s,_,hs,j,h=>hs j h
 |e::b,s,hb,hs,j,h=>by
  simp only[List.foldl_cons]at h;refine lA acc hacc b _ (fun x hx=>hb x (by simp[hx])) (fun k hk=>?_) j h;simp only[Nat.testBit_or,xab]at hk;rcases hk with(hk|hk)|hk
  ·exact hs k hk
  ·rw[Nat.testBit_two_pow]at hk;have:e=k:=by simpa using hk
   subst this;exact hb e (by simp)
  ·exact hacc e (hb e (by simp)) k hk
theorem kB{bs:List (List Nat)}{L:Nat→Bool}(hL:Closed bs L):∀(k:Nat) (acc:List Nat),acc.length=k→(∀e,L e=true→∀j,(acc.getD e 0).testBit j=true→L j=true)→
 ∀e,L e=true→∀j,((yq acc (bs.drop k)).getD e 0).testBit j=true→L j=true:=by
 intro k;have main:∀(n k:Nat) (acc:List Nat),bs.length-k=n→acc.length=k→(∀e,L e=true→∀j,(acc.getD e 0).testBit j=true→L j=true)→
  ∀e,L e=true→∀j,((yq acc (bs.drop k)).getD e 0).testBit j=true→L j=true:=by
  intro n
  induction n with
  |zero=>
   intro k acc hn hl hacc e he j hj;rw[Pac (by omega)]at hj;exact hacc e he j hj
  |succ n ih=>
   intro k acc hn hl hacc e he j hj;have hk:k<bs.length:=by omega
   rw[nab hk]at hj;simp only[yq]at hj;refine ih (k+1) (acc++[iM acc bs[k]]) (by omega) (by simp[hl]) ?_ e he j hj;intro x hx y hy;rw[uaa,List.getElem?_append]at hy;split at hy
   ·exact hacc x hx y (by rw[uaa];exact hy)
   ·rename_i hlt;by_cases hxk:x=k
    ·subst hxk;rw[hl,Nat.sub_self]at hy;simp only[List.getElem?_cons_zero,Qab]at hy;exact lA acc hacc _ 0 (fun e' he'=>hL x _ (iaa hk) hx e' he') (fun j h=>by simp at h) y hy
    ·rw[Saa (by simp;omega)]at hy;simp at hy
 exact fun acc=>main _ k acc rfl
theorem Eo{bs:List (List Nat)}{L:Nat→Bool}(hL:Closed bs L) {e j:Nat}(he:L e=true) (hj:((Jr bs).getD e 0).testBit j=true):L j=true:=by
 have:=kB hL 0 [] rfl (fun e _ j h=>by simp at h) e he j;simp only[lac]at this;exact this hj
end Go.Tm
namespace Go.Tm
open Go.RowKit (Below)
theorem pC{m:List Ent}{d:D}{n:Nat}(h:fc m d=some n) {id:Nat}(ht:tc d=some id):∃e,m[id]?=some e:=by
 unfold fc at h;split at h<;>simp only[tc,reduceCtorEq,zaa]at ht
 ·subst ht;split at h
  ·rename_i hm;exact⟨_,hm⟩
  ·cases h
 ·subst ht;split at h
  ·rename_i hm;exact⟨_,hm⟩
  ·cases h
 ·cases h
theorem Nx{s:St}{i:I}{d:D}{m1:List Ent}(he:ea s i=some (d,m1)) {x:Operand}{id:Nat}(hx:i.xU=some x) (ht:tc (s.ev x)=some id):∃e,s.m[id]?=some e:=by
 cases i<;>simp only[I.xU,reduceCtorEq,zaa]at hx<;>subst hx
 ·simp only[ea]at he;split at he
  ·rename_i hx;rw[hx]at ht;cases ht
  ·rename_i hx;rw[hx]at ht;simp only[tc,zaa]at ht;subst ht;split at he
   ·rename_i hm;exact⟨_,hm⟩
   ·cases he
  ·cases he
 ·simp only[ea]at he;split at he
  ·rename_i n hn;exact pC hn ht
  ·cases he
 ·simp only[ea]at he;split at he
  ·split at he
   ·split at he
    ·rename_i hx;rw[hx]at ht;cases ht
    ·rename_i hx;rw[hx]at ht;simp only[tc,zaa]at ht;subst ht;split at he
     ·rename_i hm;exact⟨_,hm⟩
     ·cases he
    ·rename_i hx;rw[hx]at ht;simp only[tc,zaa]at ht;subst ht;split at he
     ·rename_i hm;exact⟨_,hm⟩
     ·cases he
    ·cases he
   ·cases he
  ·cases he
 ·simp only[ea,laa]at he;obtain⟨n,hn,-⟩:=he;exact pC hn ht
 ·simp only[ea]at he;split at he
  ·split at he
   ·split at he
    ·rename_i hx;rw[hx]at ht;cases ht
    ·rename_i hx;rw[hx]at ht;simp only[tc,zaa]at ht;subst ht;split at he
     ·rename_i hm;exact⟨_,hm⟩
     ·cases he
    ·cases he
   ·cases he
  ·cases he
 ·simp only[ea]at he;split at he
  ·rename_i hx;rw[hx]at ht;cases ht
  ·rename_i hx;rw[hx]at ht;simp only[tc,zaa]at ht;subst ht;split at he
   ·rename_i hm;exact⟨_,hm⟩
   ·cases he
  ·cases he
 ·simp only[ea]at he;split at he
  ·rename_i hx;rw[hx]at ht;cases ht
  ·rename_i hx;rw[hx]at ht;cases ht
  ·rename_i hx;rw[hx]at ht;simp only[tc,zaa]at ht;subst ht;split at he
   ·rename_i hm;exact⟨_,hm⟩
   ·cases he
  ·cases he
section
variable (dst:Nat→Option Tmp) (dd:Nat→D) (xx:Nat→List Ent) (L:Nat→Bool)
def tS(t0:List D):Nat→List D
 |0=>t0
 |n+1=>if L n then(match dst n with|some y=>(tS t0 n).set y (dd n)|none=>tS t0 n)else tS t0 n
def mS(m0:List Ent):Nat→List Ent
 |0=>m0
 |n+1=>if L n then mS m0 n++xx n else mS m0 n
end
section
variable {dst:Nat→Option Tmp} {dd:Nat→D} {xx:Nat→List Ent} {L:Nat→Bool}
theorem Pq(t0:List D):∀n,(tS dst dd L t0 n).length=t0.length
 |0=>rfl
 |n+1=>by
  simp only[tS];split
  ·split
   ·simp[Pq t0 n]
   ·exact Pq t0 n
  ·exact Pq t0 n
theorem HG(t0:List D) (n y:Nat):(tS dst dd L t0 (n+1)).getD y .dead=if L n=true∧dst n=some y∧y<t0.length then dd n else(tS dst dd L t0 n).getD y .dead:=by
 simp only[tS];by_cases hL:L n=true
 ·rw[if_pos hL]
  cases hd:dst n with
  |none=>simp
  |some z=>
   simp only;rw[uaa,fac];by_cases hz:z=y
   ·subst hz;rw[if_pos rfl,Pq];by_cases hlt:z<t0.length
    ·simp[hL,hlt]
    ·have h9:(tS dst dd L t0 n).length≤z:=by rw[Pq];exact Nat.le_of_not_lt hlt
     have hnone:(tS dst dd L t0 n)[z]?=none:=Saa h9;simp[hlt,hnone]
   ·rw[if_neg hz,if_neg (by rintro⟨-,h,-⟩;injection h with h;exact hz h)];rw[uaa]
 ·rw[if_neg hL,if_neg (fun h=>hL h.1)]
theorem yF(t0:List D) {i y:Nat}:∀{q:Nat},i≤q→(∀j,j<q→dst j=some y→(L j=true↔j<i))→(tS dst dd L t0 q).getD y .dead=(tS dst dd (fun _=>true) t0 i).getD y .dead:=by
 have h1:∀n,n≤i→(∀j,j<n→dst j=some y→L j=true)→(tS dst dd L t0 n).getD y .dead=(tS dst dd (fun _=>true) t0 n).getD y .dead:=by
  intro n
  induction n with
  |zero=>intro _ _;rfl
  |succ n ih=>
   intro hn h;rw[HG,HG,ih (by omega) (fun j hj=>h j (by omega))];by_cases hd:dst n=some y
   ·simp[h n (by omega) hd,hd]
   ·simp[hd]
 intro q
 induction q with
 |zero=>
  intro hi _;have:i=0:=by omega
  subst this;rfl
 |succ q ih=>
  intro hi h;by_cases hq:i=q+1
  ·subst hq;exact h1 (q+1) (yaa _) fun j hj hd=>(h j hj hd).2 hj
  ·rw[HG,if_neg ?_]
   ·exact ih (by omega) fun j hj=>h j (by omega)
   ·rintro⟨hL,hd,-⟩;have:=(h q (by omega) hd).1 hL;omega
theorem tw(m0:List Ent):∀(q:Nat),(∀i j,i<j→j<q→xx i≠[]→xx j≠[]→L j=true→L i=true)→∃k,k≤q∧mS xx L m0 q=mS xx (fun _=>true) m0 k
 |0,_=>⟨0,yaa _,rfl⟩
 |q+1,h=>by
  obtain⟨k,hk,he⟩:=tw m0 q fun i j hij hj=>h i j hij (by omega);by_cases hx:xx q=[]
  ·refine⟨k,by omega,?_⟩;simp only[mS,hx,Naa,he,ite_self]
  ·by_cases hL:L q=true
   ·refine⟨q+1,yaa _,?_⟩;have hall:∀n,n≤q→mS xx L m0 n=mS xx (fun _=>true) m0 n:=by
     intro n
     induction n with
     |zero=>intro _;rfl
     |succ n ih=>
      intro hn;simp only[mS,ih (by omega),if_true];by_cases hxn:xx n=[]
      ·simp[hxn]
      ·rw[if_pos (h n q (by omega) (by omega) hxn hx hL)]
    simp only[mS,hL,if_true,hall q (yaa _)]
   ·exact⟨k,by omega,by simp only[mS,hL,if_false,naa];exact he⟩
theorem Oy(m0:List Ent) {k i:Nat}(h:k≤i):∃r,mS xx (fun _=>true) m0 i=mS xx (fun _=>true) m0 k++r:=by
 induction i with
 |zero=>
  have:k=0:=by omega
  subst this;exact⟨[],by simp⟩
 |succ i ih=>
  by_cases hk:k=i+1
  ·subst hk;exact⟨[],by simp⟩
  ·obtain⟨r,hr⟩:=ih (by omega);exact⟨r++xx i,by simp only[mS,if_true,hr,jab]⟩
theorem OF(m0:List Ent) {i:Nat}:∀{q:Nat},i≤q→(∀j,j<q→xx j≠[]→(L j=true↔j<i))→mS xx L m0 q=mS xx (fun _=>true) m0 i:=by
 have h1:∀n,n≤i→(∀j,j<n→xx j≠[]→L j=true)→mS xx L m0 n=mS xx (fun _=>true) m0 n:=by
  intro n
  induction n with
  |zero=>intro _ _;rfl
  |succ n ih=>
   intro hn h;simp only[mS,ih (by omega) (fun j hj=>h j (by omega)),if_true];by_cases hxn:xx n=[]
   ·simp[hxn]
   ·rw[if_pos (h n (by omega) hxn)]
 intro q
 induction q with
 |zero=>
  intro hi _;have:i=0:=by omega
  subst this;rfl
 |succ q ih=>
  intro hi h;by_cases hq:i=q+1
  ·subst hq;exact h1 (q+1) (yaa _) fun j hj hd=>(h j hj hd).2 hj
  ·simp only[mS];by_cases hx:xx q=[]
   ·simp only[hx,Naa,ite_self];exact ih (by omega) fun j hj=>h j (by omega)
   ·rw[if_neg ?_]
    ·exact ih (by omega) fun j hj=>h j (by omega)
    ·intro hL;have:=(h q (by omega) hx).1 hL;omega
theorem QH(t0:List D) {L':Nat→Bool}{i:Nat}(hi:L i=false) (hL':∀j,L' j=(L j || j==i)):∀{q:Nat},i<q→(∀j,i<j→j<q→∀y,dst i=some y→dst j=some y→L j=false)→
 tS dst dd L' t0 q=(match dst i with|some y=>(tS dst dd L t0 q).set y (dd i)|none=>tS dst dd L t0 q):=by
 have hlow:∀n,n≤i→tS dst dd L' t0 n=tS dst dd L t0 n:=by
  intro n
  induction n with
  |zero=>intro _;rfl
  |succ n ih=>
   intro hn;have:L' n=L n:=by
    rw[hL'];have:(n==i)=false:=by simp;omega
    simp[this]
   simp only[tS,this,ih (by omega)]
 intro q
 induction q with
 |zero=>intro h;omega
 |succ q ih=>
  intro hq hw;by_cases hqi:q=i
  ·subst hqi;have h1:L' q=true:=by rw[hL'];simp
   simp only[tS,h1,if_true,hi,hlow q (yaa _),naa,if_false]
  ·have h1:L' q=L q:=by
    rw[hL'];have:(q==i)=false:=by simp;omega
    simp[this]
   have ih':=ih (by omega) fun j hj hjq=>hw j hj (by omega);simp only[tS,h1,ih']
   cases hdi:dst i with
   |none=>simp
   |some y=>
    simp only;split
    ·rename_i hLq;split
     ·rename_i z hz;have hne:y≠z:=by
       rintro rfl;have:=hw q (by omega) (by omega) y hdi hz;rw[this]at hLq;cases hLq
      rw[gaf _ _ hne]
     ·rfl
    ·rfl
theorem HI(m0:List Ent) {L':Nat→Bool}{i:Nat}(hi:L i=false) (hL':∀j,L' j=(L j || j==i)):∀{q:Nat},i<q→(∀j,i<j→j<q→xx i≠[]→xx j≠[]→L j=false)→
 mS xx L' m0 q=mS xx L m0 q++xx i:=by
 have hlow:∀n,n≤i→mS xx L' m0 n=mS xx L m0 n:=by
  intro n
  induction n with
  |zero=>intro _;rfl
  |succ n ih=>
   intro hn;have:L' n=L n:=by
    rw[hL'];have:(n==i)=false:=by simp;omega
    simp[this]
   simp only[mS,this,ih (by omega)]
 intro q
 induction q with
 |zero=>intro h;omega
 |succ q ih=>
  intro hq hw;by_cases hqi:q=i
  ·subst hqi;have h1:L' q=true:=by rw[hL'];simp
   simp only[mS,h1,if_true,hi,hlow q (yaa _),naa,if_false]
  ·have h1:L' q=L q:=by
    rw[hL'];have:(q==i)=false:=by simp;omega
    simp[this]
   have ih':=ih (by omega) fun j hj hjq=>hw j hj (by omega);simp only[mS,h1,ih'];split
   ·rename_i hLq;by_cases hxi:xx i=[]
    ·simp[hxi]
    ·by_cases hxq:xx q=[]
     ·simp[hxq]
     ·have:=hw q (by omega) (by omega) hxi hxq;rw[this]at hLq;cases hLq
   ·rfl
end
def bw(P:Program) (r:RI) (s:St) (d:D) (x:List Ent):Prop:=
 match r with
 |.op _ g i=>((gate s g=some none∨∃c,gate s g=some (some (c,c)))∧ea s i=some (d,s.m++x))∨((∃c b,gate s g=some (some (c,b))∧c≠b)∧d=.v undef∧x=[])
 |.call _ g f args=>∃k first caps,s.cv f=.fn k first caps∧x=[]∧
  (((gate s g=some none∨∃c,gate s g=some (some (c,c)))∧∀m,CallT P k (first++args.map s.ev++caps) m fun d' m'=>d'=d∧m'=m)∨((∃c b,gate s g=some (some (c,b))∧c≠b)∧d=.v undef))
def after(s:St) (r:RI) (d:D) (x:List Ent):St:=({ s with m:=s.m++x }:St).put r.dst d
def CE(P:Program):List RI→St→List (D×List Ent)→St→Prop
 |[],s,os,s'=>os=[]∧s'=s
 |r::l,s,os,s'=>∃d x os',os=(d,x)::os'∧bw P r s d x∧CE P l (after s r d x) os' s'
section
variable {P:Program}
theorem CE.length:∀{l:List RI}{s s':St}{os:List (D×List Ent)},CE P l s os s'→os.length=l.length
 |[],s,s',os,h=>by simp[h.1]
 |r::l,s,s',os,h=>by
  obtain⟨d,x,os',rfl,_,h⟩:=h;simp[CE.length h]
def ku(rl:List RI) (os:List (D×List Ent)) (s:St) (L:Nat→Bool) (n:Nat):St:=
 ⟨tS (fun i=>(rl.getD i (.op none none (.mv (.const undef)))).dst) (fun i=>(os.getD i (.dead,[])).1) L s.t n,mS (fun i=>(os.getD i (.dead,[])).2) L s.m n⟩
theorem tD(s:St) (r:RI) (d:D) (x:List Ent):(after s r d x).t=(match r.dst with|some y=>s.t.set y d|none=>s.t)∧(after s r d x).m=s.m++x:=by
 unfold after St.put;cases r.dst<;>exact⟨rfl,rfl⟩
theorem CE.get{rl:List RI}{os:List (D×List Ent)}{s0:St}:∀{l:List RI}{k:Nat}{s':St}{os':List (D×List Ent)},l=(rl.drop k).take l.length→os'=(os.drop k).take os'.length→CE P l (ku rl os s0 (fun _=>true) k) os' s'→
 (∀i,i<l.length→bw P (rl.getD (k+i) (.op none none (.mv (.const undef)))) (ku rl os s0 (fun _=>true) (k+i)) (os.getD (k+i) (.dead,[])).1 (os.getD (k+i) (.dead,[])).2)∧s'=ku rl os s0 (fun _=>true) (k+l.length)
 |[],k,s',os',_,_,h=>⟨fun i hi=>by simp at hi,by simpa using h.2⟩
 |r::l,k,s',os',h1,h2,h=>by
  obtain⟨d,x,os'',rfl,hs,h⟩:=h;have hr:rl[k]?=some r:=by
   have:=congrArg (fun l=>l[0]?) h1;simpa [Zab,qac] using this.symm
  have ho:os[k]?=some (d,x):=by
   have:=congrArg (fun l=>l[0]?) h2;simpa [Zab,qac] using this.symm
  have hr':rl.getD k (.op none none (.mv (.const undef)))=r:=by rw[uaa,hr];rfl
  have ho':os.getD k (.dead,[])=(d,x):=by rw[uaa,ho];rfl
  have hnext:after (ku rl os s0 (fun _=>true) k) r d x=ku rl os s0 (fun _=>true) (k+1):=by
   have ha:=tD (ku rl os s0 (fun _=>true) k) r d x;have:after (ku rl os s0 (fun _=>true) k) r d x=⟨(after (ku rl os s0 (fun _=>true) k) r d x).t,(after (ku rl os s0 (fun _=>true) k) r d x).m⟩:=rfl;rw[this,ha.1,ha.2];simp only[ku,tS,mS,if_true,hr',ho']
  rw[hnext]at h;have t1:l=(rl.drop (k+1)).take l.length:=by
   have hk:k<rl.length:=(Caa.1 hr).1;rw[nab hk,Daa,lab]at h1;exact(uad h1).2
  have t2:os''=(os.drop (k+1)).take os''.length:=by
   have hk:k<os.length:=(Caa.1 ho).1;rw[nab hk,Daa,lab]at h2;exact(uad h2).2
  obtain⟨g1,g2⟩:=CE.get t1 t2 h;refine⟨fun i hi=>?_,by rw[g2];simp[Yac,Eab 1]⟩
  cases i with
  |zero=>simp only[Jab,hr',ho'];exact hs
  |succ i=>
   have:=g1 i (by simpa using hi);rwa [show k+1+i=k+(i+1) by omega]at this
theorem filter_lt{L L':Nat→Bool}{i:Nat}(hi:L i=false) (hL':∀j,L' j=(L j || j==i)):∀{l:List Nat},i∈l→(l.filter fun j=>!L' j).length<(l.filter fun j=>!L j).length
 |[],h=>by cases h
 |a::l,h=>by
  have mono:∀l:List Nat,(l.filter fun j=>!L' j).length≤(l.filter fun j=>!L j).length:=by
   intro l
   induction l with
   |nil=>simp
   |cons b l ih=>
    simp only[Gab,hL' b];cases hb:L b
    ·cases hbi:(b==i)
     ·simp;exact ih
     ·simp;omega
    ·simp;exact ih
  by_cases ha:a=i
  ·subst ha;have h1:L' a=true:=by rw[hL'];simp
   simp only[Gab,h1,hi];have:=mono l;simp;omega
  ·have hin:i∈l:=by
    cases h with
    |head=>exact(ha rfl).elim
    |tail _ h=>exact h
   have ih:=filter_lt hi hL' hin;have h1:L' a=L a:=by
    rw[hL'];have:(a==i)=false:=by simpa using ha
    simp[this]
   simp only[Gab,h1];split
   ·simp;exact ih
   ·exact ih
theorem yp{ops:Array Oper}:∀{l:List Oper}{rl:List RI},pf P ops l=some rl→rl.length=l.length∧∀(i:Nat) o,l[i]?=some o→∃r,rl[i]?=some r∧Sk P ops o=some r
 |[],rl,h=>by simp[pf]at h;subst h;simp
 |o::l,rl,h=>by
  simp only[pf]at h;split at h
  ·rename_i r rs h1 h2;injection h with h;subst h;obtain⟨g1,g2⟩:=yp h2;refine⟨by simp[g1],fun i o' ho=>?_⟩
   cases i with
   |zero=>simp at ho;subst ho;exact⟨r,rfl,h1⟩
   |succ i=>simpa using g2 i o' (by simpa using ho)
  ·cases h
theorem Zq{ops:Array Oper}{o:Oper}{r:RI}(h:Sk P ops o=some r):r.dst=o.dst:=by
 unfold Sk at h;split at h
 ·cases h
 ·split at h
  ·injection h with h;subst h;rfl
  ·simp only[laa]at h;obtain⟨i,-,rfl⟩:=h;rfl
theorem ZW{ops:Array Oper}{o:Oper}{r:RI}(hc:Sk P ops o=some r) {sc s:St}{d:D}{x:List Ent}(hf:bw P r sc d x) (ht:∀t∈r.reads,s.t.getD t .dead=sc.t.getD t .dead)
 (hm:r.cls=2→s.m=sc.m) (hm1:∀(id:Nat),(∃e,sc.m[id]?=some e)→id<s.m.length→s.m[id]?=sc.m[id]?) (hcls:r.cls≤2)
 {G:Gh} {w:World} {a:Act} (hr:Rel G w a s) {i:Nat} (hi:ops[i]?=some o) {Q:Exit→Act→World→Prop} {K:Act→World→Prop}
 (hK:∀G' w' a',Rel G' w' a' (after s r d x)→Step G w s.m G' w' (s.m++x)→K a' w'):wpOp P ops Q i K a w:=by
 have hdst:=Zq hc;unfold wpOp;simp only[hi];unfold Sk at hc;split at hc
 ·cases hc
 ·rename_i g hg;obtain⟨hgate1,hgate2⟩:=Wj hr hg;have hgt:gate s g=gate sc g:=Uy (fun t h=>ht t (by
   split at hc
   ·injection hc with hc;subst hc;simp[RI.reads,h]
   ·simp only[laa]at hc;obtain⟨i,-,rfl⟩:=hc;simp[RI.reads,h]))
  have won:(gate sc g=some none∨∃c,gate sc g=some (some (c,c)))→Region.wanted o (yielded ops a.tmps)=true:=by
   rintro(h|⟨c,h⟩)
   ·exact hgate1 (by rw[hgt,h]) o rfl
   ·rw[hgate2 c c (by rw[hgt,h]) o rfl];simp
  have woff:(∃c b,gate sc g=some (some (c,b))∧c≠b)→Region.wanted o (yielded ops a.tmps)=false:=by
   rintro⟨c,b,h,hne⟩;rw[hgate2 c b (by rw[hgt,h]) o rfl];simpa using hne
  have skip:d=.v undef→x=[]→K (a.put o.dst undef) w:=by
   rintro rfl rfl;refine hK G w _ ?_ (by rw[Naa];exact Step.refl _ _ _);unfold after;rw[hdst,Naa];exact xv hr o.dst
  split at hc
  ·rename_i f args ho;injection hc with hc;subst hc;obtain⟨k,first,caps,hfe,rfl,hf⟩:=hf;have hfe':s.cv f=.fn k first caps:=by rw[Wz (s:=sc) (s':=s) (f:=f) (fun t h=>ht t (by simp[RI.reads,h]))];exact hfe
   have hargs:args.map s.ev=args.map sc.ev:=map_congr (fun t h=>ht t (by simp[RI.reads];simp at h;exact .inr (.inr h)));rcases hf with⟨hon,hcall⟩|⟨hoff,hd⟩
   ·rw[if_pos (won hon)];refine .inl ?_;obtain⟨⟨fn,e1,e2,e3⟩,hcc⟩:=hcall s.m;obtain⟨fs,cs,hrun,hv1,hv2⟩:=Ts hr ho (rL hfe') e1 e2 e3;rw[←hargs]at hcc;have hcalls:=hcc G w (fs++args.map a.eval++cs) ((hv1.append (Cs hr _)).append hv2) hr.inv;unfold Oper.wp;rw[hrun,Oper.upon_enter];refine hcalls.mono ?_;rintro e w' ⟨v,d',m',G',rfl,⟨rfl,rfl⟩,hvd,hi',hs'⟩;refine hK G' w' _ ?_ (by rw[Naa];exact hs');unfold after;rw[Naa];exact(hr.step hs'.le hi').put o.dst hvd
   ·rw[if_neg (by rw[woff hoff];decide)];exact skip hd rfl
  ·rename_i hno;simp only[laa]at hc;obtain⟨j,hj,rfl⟩:=hc;rcases hf with⟨hon,hev⟩|⟨hoff,hd,hx⟩
   ·rw[if_pos (won hon)];refine .inl ?_;have hev':ea s j=some (d,s.m++x):=by
     simp only[RI.cls]at hcls hm;have htj:∀t∈j.reads,s.t.getD t .dead=sc.t.getD t .dead:=fun t h=>ht t (by simp[RI.reads,h]);by_cases h2:j.cls=2
     ·rw[hm h2];exact(cA h2 htj (hm h2) hev).1
     ·have h1:j.cls≤1:=by omega
      obtain⟨hxm,hres⟩:=Tl (s:=sc) (s':=s) h1 htj (fun y id hy hid=>by
       refine hm1 id (Nx hev hy hid) ?_;have hvy:=hr.ev y;have hevy:s.ev y=sc.ev y:=ta (fun t h=>htj t (by
        cases j<;>simp only[I.xU,reduceCtorEq,zaa]at hy<;>subst hy<;>simp[I.reads,h]))
       rw[hevy]at hvy;have hn:=hr.inv.n;generalize sc.ev y=dy at *;cases dy<;>simp only[tc,reduceCtorEq,zaa]at hid
       ·subst hid;simp only[VRel]at hvy;obtain⟨_,_,h,_⟩:=hvy;omega
       ·subst hid;simp only[VRel]at hvy;obtain⟨_,_,_,_,h,_⟩:=hvy;omega
       ·subst hid;simp only[VRel]at hvy;obtain⟨_,_,_,_,h,_⟩:=hvy;omega
       ·subst hid;simp only[VRel]at hvy;obtain⟨_,_,h,_⟩:=hvy;omega) hev
      have:x=[]:=by
       have:=congrArg Nad hxm;simp at this;exact this
      rw[this,Naa];exact hres
    exact hr.Wm (Qs hj hr hev') fun G' w' u hr' hs'=>hK G' w' _ hr' hs'
   ·rw[if_neg (by rw[woff hoff];decide)];exact skip hd hx
end
end Go.Tm
namespace Go.Tm
open Go.RowKit (Below)
section
variable {P:Program}
theorem vT{ops:Array Oper}{Q:Exit→Act→World→Prop}{K:St→Prop}{o:Oper}{r:RI}{rs:List RI}{s:St}{G:Gh}{w:World}{a:Act}(h1:Sk P ops o=some r) (hK:Fh P (r::rs) K s) (hr:Rel G w a s)
 {i:Nat} (hi:ops[i]?=some o) {Kx:Act→World→Prop} (rest:∀{G':Gh} {w':World} {a':Act} {s':St},Fh P rs K s'→Rel G' w' a' s'→Step G w s.m G' w' s'.m→Kx a' w'):wpOp P ops Q i Kx a w:=by
 unfold wpOp;simp only[hi];unfold Sk at h1;split at h1
 ·cases h1
 ·rename_i g hg;obtain⟨hgate1,hgate2⟩:=Wj hr hg;have doI:∀{i:I} {d:D} {m':List Ent},Jm P ops o o.op=some i→ea s i=some (d,m')→Fh P rs K ({ s with m:=m' }.put o.dst d)→o.wp P a w Kx Q:=by
   intro i d m' hi he hK';exact hr.Wm (Qs hi hr he) fun G' w' u hr' hs'=>rest hK' hr' (by rw[vx];exact hs')
  have skip:Fh P rs K (s.put o.dst (.v undef))→Kx (a.put o.dst undef) w:=fun hK'=>rest hK' (xv hr o.dst) (by rw[vx];exact Step.refl _ _ _);split at h1
  ·rename_i f args ho;injection h1 with h1;subst h1;simp only[Fh]at hK;split at hK
   ·rename_i k first caps hfe
    have doC:CallT P k (first++args.map s.ev++caps) s.m (fun d m'=>Fh P rs K ({ s with m:=m' }.put o.dst d))→o.wp P a w Kx Q:=by
     rintro⟨⟨fn,e1,e2,e3⟩,hcall⟩;obtain⟨fs,cs,hrun,hv1,hv2⟩:=Ts hr ho hfe e1 e2 e3;have hcalls:=hcall G w (fs++args.map a.eval++cs) ((hv1.append (Cs hr _)).append hv2) hr.inv;unfold Oper.wp;rw[hrun,Oper.upon_enter];refine hcalls.mono ?_;rintro e w' ⟨v,d,m',G',rfl,hK',hvd,hi',hs'⟩;exact rest hK' ((hr.step hs'.le hi').put o.dst hvd) (by rw[vx];exact hs')
    split at hK
    ·exact hK.elim
    ·rename_i hgt;rw[if_pos (hgate1 hgt o rfl)];exact .inl (doC hK)
    ·rename_i c b hgt;rw[hgate2 c b hgt o rfl];by_cases hcb:c=b
     ·rw[if_pos (by simp[hcb])];exact .inl (doC (hK.1 hcb))
     ·rw[if_neg (by simp[hcb])];exact skip (hK.2 hcb)
   ·split at hK
    ·rename_i c b hgt;rw[hgate2 c b hgt o rfl,if_neg (by simp[hK.1])];exact skip hK.2
    ·exact hK.elim
  ·rename_i hno;simp only[laa]at h1;obtain⟨i,hi,rfl⟩:=h1;simp only[Fh]at hK;split at hK
   ·exact hK.elim
   ·rename_i hgt;obtain⟨d,m',he,hK'⟩:=hK;rw[if_pos (hgate1 hgt o rfl)];exact .inl (doI hi he hK')
   ·rename_i c b hgt;rw[hgate2 c b hgt o rfl];by_cases hcb:c=b
    ·obtain⟨d,m',he,hK'⟩:=hK.1 hcb;rw[if_pos (by simp[hcb])];exact .inl (doI hi he hK')
    ·rw[if_neg (by simp[hcb])];exact skip (hK.2 hcb)
theorem TO{listed:Array Bool}{i j:Nat}(hi:i<listed.size) (d:Bool):(listed.setIfInBounds i true).getD j d=if j=i then true else listed.getD j d:=by
 simp only[uac,Array.getElem?_setIfInBounds];by_cases h:i=j
 ·subst h;simp[hi]
 ·simp[h,Ne.symm h]
theorem qx{ops:Array Oper}{i:Nat}{o:Oper}(h:ops[i]?=some o):(Ta ops)[i]?=some ((o.after.toList.filter fun e=>Region.binds .any e).map (·.on)):=by
 unfold Ta;rw[Dab,aab,h];rfl
structure TailFacts (bs:List (List Nat)) (rl:List RI) (q:Nat):Prop where
 len:bs.length=rl.length
 hq:q≤rl.length
 back:∀(i:Nat) b,bs[i]?=some b→∀e∈b,e<i
 tail:∀(i j:Nat),i<j→q≤j→j<rl.length→((Jr bs).getD j 0).testBit i=true
theorem vC{bs:List (List Nat)}{rl:List RI}{cuts:List Nat}{q:Nat}(h:aD bs rl cuts q=true) :
 TailFacts bs rl q∧∀p∈cuts,∀(i j:Nat),i<p→p≤j→j<rl.length→((Jr bs).getD j 0).testBit i=true:=by
 unfold aD at h;simp only[paa,beq_iff_eq,decide_eq_true_eq,Raa,Nab,xab]at h;obtain⟨⟨⟨⟨h0,h1⟩,h2⟩,h3⟩,h4⟩:=h;refine⟨⟨h1,h2,?_,?_⟩,?_⟩
 ·intro i b hb e he;have hi:i<bs.length:=(Caa.1 hb).1;exact h3 i hi e (by rw[uaa,hb];exact he)
 ·intro i j hij hq hj;rcases h4 j hj with h|h
  ·omega
  ·exact h i hij
 ·intro p hp i j hi hj hjn;rcases h0 p hp j hjn with h|h
  ·omega
  ·exact h i hi
structure DrawFacts (bs:List (List Nat)) (rl:List RI) (q:Nat):Prop extends TailFacts bs rl q where
 cls:∀(j:Nat) y,j<q→rl[j]?=some y→y.cls≤2
 apart:∀(i j:Nat) x y,i<j→j<q→rl[i]?=some x→rl[j]?=some y→pq x y=true→((Jr bs).getD j 0).testBit i=true
theorem xo{bs:List (List Nat)}{rl:List RI}{q:Nat}(h:qw bs rl q=true):DrawFacts bs rl q:=by
 unfold qw at h;simp only[paa,beq_iff_eq,decide_eq_true_eq,Raa,Nab]at h;obtain⟨⟨⟨h1,h2⟩,h3⟩,h4⟩:=h;have hy:∀(j:Nat) y,rl[j]?=some y→j<rl.length:=fun j y hj=>(Caa.1 hj).1;refine⟨⟨h1,h2,?_,?_⟩,?_,?_⟩
 rotate_left
 ·intro i j hij hq hj;have:=h4 j hj;rw[iaa hj]at this;have hnq:¬j<q:=by omega
  simp only[hnq,if_false,Raa,Nab]at this;exact this i hij
 rotate_right
 ·intro i b hb e he;have hi:i<bs.length:=(Caa.1 hb).1;have:=h3 i hi e (by rw[uaa,hb];exact he);exact this
 ·intro j y hj hyj;have:=h4 j (hy j y hyj);rw[hyj]at this;simp only[hj,if_true,paa,decide_eq_true_eq]at this;exact this.1
 ·intro i j x y hij hj hx hyj hcl;have:=h4 j (hy j y hyj);rw[hyj]at this;simp only[hj,if_true,paa,decide_eq_true_eq,Raa,Nab]at this;have:=this.2 i hij;rw[hx]at this;simpa [hcl] using this
section
variable {ops:Array Oper} {Q:Exit→Act→World→Prop} {K:St→Prop} {rl:List RI} {q:Nat}
def Ib(listed:Array Bool):Nat→Bool:=fun i=>listed.getD i false
theorem Bp(hf:TailFacts (Ta ops) rl q) {listed:Array Bool}(hsz:listed.size=ops.size) (hcl:Closed (Ta ops) (Ib listed)) {i:Nat}(hi:i∈Region.ready .any ops listed) :
 i<ops.size∧Ib listed i=false∧(∀j,j≠i→((Jr (Ta ops)).getD i 0).testBit j=true→Ib listed j=true)∧Closed (Ta ops) (Ib (listed.setIfInBounds i true))∧
 (∀j,Ib (listed.setIfInBounds i true) j=(Ib listed j || j==i)):=by
 obtain⟨h0,o,ho,hall⟩:=mem_ready.1 hi;have hlt:i<ops.size:=(Array.getElem?_eq_some_iff.1 ho).1;have hnot:Ib listed i=false:=by
  unfold Ib;simp only[uac]at h0⊢;rw[Vaa (by omega)]at h0⊢;simpa using h0
 have hset:∀j,Ib (listed.setIfInBounds i true) j=(Ib listed j || j==i):=by
  intro j;unfold Ib;rw[TO (by omega)];by_cases h:j=i<;>simp[h]
 have hcl':Closed (Ta ops) (Ib (listed.setIfInBounds i true)):=by
  intro j b hb hj e he;rw[hset]at hj⊢;simp only[xab,beq_iff_eq]at hj⊢;rcases hj with hj|hj
  ·exact .inl (hcl j b hb hj e he)
  ·subst hj;have hbo:=qx ho;rw[hb]at hbo;injection hbo with hbo;subst hbo;simp only[Tab,tab,rae]at he;obtain⟨ed,⟨h1,h2⟩,rfl⟩:=he;exact .inl (hall ed h1 h2)
 refine⟨hlt,hnot,fun j hne hj=>?_,hcl',hset⟩;have:=Eo hcl' (e:=i) (by rw[hset];simp) hj;rw[hset]at this;simp only[xab,beq_iff_eq]at this;rcases this with h|h
 ·exact h
 ·exact(hne h).elim
theorem Bs(hf:TailFacts (Ta ops) rl q) {listed:Array Bool}(hsz:listed.size=ops.size) (hno:Region.ready .any ops listed=[]):∀i,i<ops.size→Ib listed i=true:=by
 intro i
 induction i using Mad with
 |_ i ih=>
  intro hi;rcases hb:Ib listed i with _|_
  ·exfalso;have:i∈Region.ready .any ops listed:=by
    refine mem_ready.2 ⟨?_,ops[i],Vaa hi,fun e he hbi=>?_⟩
    ·unfold Ib at hb;simp only[uac]at hb⊢;rw[Vaa (by omega)]at hb⊢;simpa using hb
    ·have hbo:=qx (Vaa hi);have hlt:=hf.back i _ hbo e.on (by
      simp only[Tab,tab,rae];exact⟨e,⟨he,hbi⟩,rfl⟩)
     exact ih e.on hlt (by omega)
   rw[hno]at this;cases this
  ·rfl
theorem Dt(hc:pf P ops ops.toList=some rl) (hf:TailFacts (Ta ops) rl q) :
 ∀(n r:Nat) (fuel:Nat) (listed:Array Bool) (s:St) (G:Gh) (w:World) (a:Act),ops.size-r=n→n≤fuel→q≤r→r≤ops.size→listed.size=ops.size→(∀i,Ib listed i=decide (i<r))→
  Fh P (rl.drop r) K s→Rel G w a s→(∀s' G' w' a',K s'→Rel G' w' a' s'→Step G w s.m G' w' s'.m→Q .normal a' w')→wpAny P .any ops Q fuel listed a w:=by
 obtain⟨hlen,hget⟩:=yp hc;simp only[oab]at hlen;have hclosed:∀(r:Nat) (L:Nat→Bool),(∀i,L i=decide (i<r))→Closed (Ta ops) L:=by
  intro r L hL i b hb hi e he;have:=hf.back i b hb e he;rw[hL]at hi⊢;simp at hi⊢;omega
 intro n
 induction n with
 |zero=>
  intro r fuel listed s G w a hn hfuel hq hr hsz hL hK hrel hQ;have hrn:r=ops.size:=by omega
  have hnone:Region.ready .any ops listed=[]:=by
   cases hre:Region.ready .any ops listed with
   |nil=>rfl
   |cons i l=>
    obtain⟨h1,h2,-⟩:=Bp hf hsz (hclosed r _ hL) (i:=i) (by rw[hre];simp);rw[hL]at h2;simp at h2;omega
  rw[Pac (by omega)]at hK;have hend:=hQ s G w a hK hrel (Step.refl _ _ _)
  cases fuel with
  |zero=>exact⟨hnone,hend⟩
  |succ fuel=>exact⟨fun _=>hend,fun i hi=>by rw[hnone]at hi;cases hi⟩
 |succ n ih=>
  intro r fuel listed s G w a hn hfuel hq hr hsz hL hK hrel hQ
  cases fuel with
  |zero=>omega
  |succ fuel=>
   have hrlt:r<ops.size:=by omega
   refine⟨fun hno=>?_,fun i hi=>?_⟩
   ·have:=Bs hf hsz hno r hrlt;rw[hL]at this;simp at this
   ·obtain⟨h1,h2,h3,h4,h5⟩:=Bp hf hsz (hclosed r _ hL) hi;have hir:i=r:=by
     rw[hL]at h2;simp at h2;rcases Taa r i with h|h
     ·have:=h3 r (by omega) (hf.tail r i h (by omega) (by omega));rw[hL]at this;simp at this
     ·omega
    subst hir;have ho:ops[i]?=some ops[i]:=Vaa h1;obtain⟨ri,hri,hco⟩:=hget i ops[i] (by rw[aab];exact ho);have hri':rl.drop i=ri::rl.drop (i+1):=by
     have hlt:i<rl.length:=(Caa.1 hri).1;rw[nab hlt];congr 1;exact(Caa.1 hri).2
    rw[hri']at hK;refine vT hco hK hrel ho fun hK' hrel' hs'=>?_;refine ih (i+1) fuel (listed.setIfInBounds i true) _ _ _ _ (by omega) (by omega) (by omega) (by omega) (by simp[hsz]) (fun j=>?_) hK' hrel' fun s'' G'' w'' a'' k1 k2 k3=>hQ s'' G'' w'' a'' k1 k2 (hs'.trans k3);rw[h5,hL];rw[Bool.eq_iff_iff];simp;omega
theorem fA{dst:Nat→Option Tmp}{dd:Nat→D}{L L':Nat→Bool}(t0:List D):∀n,(∀j,j<n→L j=L' j)→tS dst dd L t0 n=tS dst dd L' t0 n
 |0,_=>rfl
 |n+1,h=>by simp only[tS,h n (by omega),fA t0 n fun j hj=>h j (by omega)]
theorem Ry{xx:Nat→List Ent}{L L':Nat→Bool}(m0:List Ent):∀n,(∀j,j<n→L j=L' j)→mS xx L m0 n=mS xx L' m0 n
 |0,_=>rfl
 |n+1,h=>by simp only[mS,h n (by omega),Ry m0 n fun j hj=>h j (by omega)]
theorem CB{os:List (D×List Ent)}{s0:St}{L L':Nat→Bool}(n:Nat) (h:∀j,j<n→L j=L' j):ku rl os s0 L n=ku rl os s0 L' n:=by
 unfold ku;rw[fA _ n h,Ry _ n h]
theorem count_tail(q:Nat):∀n,((waa n).filter fun j=>!decide (j<q)).length=n-q
 |0=>by simp
 |n+1=>by
  rw[List.range_succ,List.filter_append,Haa,count_tail q n];by_cases h:n<q
  ·simp[h];omega
  ·simp[h];omega
theorem getD_some{l:List RI}{i:Nat}(h:i<l.length) (d:RI):l[i]?=some (l.getD i d):=by
 rw[uaa,iaa h];rfl
theorem aL(hc:pf P ops ops.toList=some rl) (hf:DrawFacts (Ta ops) rl q) {os:List (D×List Ent)}{s0:St}
 (hflo:∀i,i<q→bw P (rl.getD i (.op none none (.mv (.const undef)))) (ku rl os s0 (fun _=>true) i) (os.getD i (.dead,[])).1 (os.getD i (.dead,[])).2)
 (hmake:∀i,i<q→(os.getD i (.dead,[])).2≠[]→(rl.getD i (.op none none (.mv (.const undef)))).cls=2)
 (hT:Fh P (rl.drop q) K (ku rl os s0 (fun _=>true) q)) :
 ∀(fuel:Nat) (listed:Array Bool) (G:Gh) (w:World) (a:Act),((waa ops.size).filter fun j=>!Ib listed j).length≤fuel→listed.size=ops.size→Closed (Ta ops) (Ib listed)→
  (∀j,q≤j→Ib listed j=false)→Rel G w a (ku rl os s0 (Ib listed) q)→
  (∀s' G' w' a',K s'→Rel G' w' a' s'→Step G w (ku rl os s0 (Ib listed) q).m G' w' s'.m→Q .normal a' w')→wpAny P .any ops Q fuel listed a w:=by
 obtain⟨hlen,hget⟩:=yp hc;simp only[oab]at hlen;have hq:=hf.hq;intro fuel
 induction fuel with
 |zero=>
  intro listed G w a hcard hsz hcl htail hrel hQ;have hall:∀i,i<ops.size→Ib listed i=true:=by
   intro i hi;rcases hb:Ib listed i with _|_
   ·exfalso;have:i∈(waa ops.size).filter fun j=>!Ib listed j:=by simp[hi,hb]
    rw[Eaa (uaf.1 hcard)]at this;cases this
   ·rfl
  have hqn:q=ops.size:=by
   rcases Taa q ops.size with h|h
   ·have:=hall q h;rw[htail q (yaa _)]at this;cases this
   ·omega
  have hst:ku rl os s0 (Ib listed) q=ku rl os s0 (fun _=>true) q:=CB q fun j hj=>hall j (by omega);refine Dt hc hf.toTailFacts 0 q 0 listed _ G w a (by omega) (yaa _) (yaa _) (by omega) hsz (fun i=>?_) hT (by rw[←hst];exact hrel) (by rw[←hst];exact hQ);rcases Taa i q with h|h
  ·rw[hall i (by omega)];simp[h]
  ·rw[htail i h];simp;omega
 |succ fuel ih=>
  intro listed G w a hcard hsz hcl htail hrel hQ;by_cases hdone:∀j,j<q→Ib listed j=true
  ·
    have hst:ku rl os s0 (Ib listed) q=ku rl os s0 (fun _=>true) q:=CB q fun j hj=>hdone j hj;have hL:∀i,Ib listed i=decide (i<q):=fun i=>by
     rcases Taa i q with h|h
     ·rw[hdone i h];simp[h]
     ·rw[htail i h];simp;omega
    have hcnt:=count_tail q ops.size;simp only[hL]at hcard;exact Dt hc hf.toTailFacts (ops.size-q) q (fuel+1) listed _ G w a rfl (by omega) (yaa _) (by omega) hsz hL hT (by rw[←hst];exact hrel) (by rw[←hst];exact hQ)
  ·refine⟨fun hno=>(hdone fun j hj=>Bs hf.toTailFacts hsz hno j (by omega)).elim,fun i hi=>?_⟩;obtain⟨h1,h2,h3,h4,h5⟩:=Bp hf.toTailFacts hsz hcl hi;have hiq:i<q:=by
    rcases Taa i q with h|h
    ·exact h
    ·exact(hdone fun j hj=>h3 j (by omega) (hf.tail j i (by omega) h (by omega))).elim
   have hri:=getD_some (l:=rl) (i:=i) (by omega) (.op none none (.mv (.const undef)));obtain⟨r,hr,hco⟩:=hget i ops[i] (by rw[aab];exact Vaa h1);have hrr:rl.getD i (.op none none (.mv (.const undef)))=r:=by rw[hr]at hri;injection hri with hri;exact hri.symm
   have early:∀j x,j<i→rl[j]?=some x→pq x r=true→Ib listed j=true:=fun j x hj hx hcl'=>h3 j (by omega) (hf.apart j i x r hj hiq hx hr hcl');have late:∀j y,i<j→j<q→rl[j]?=some y→pq r y=true→Ib listed j=false:=by
    intro j y hj hjq hy hcl';rcases hb:Ib listed j with _|_
    ·rfl
    ·have:=Eo hcl hb (hf.apart i j r y hj hjq hr hy hcl');rw[h2]at this;cases this
   have hgetj:∀j,j<q→rl[j]?=some (rl.getD j (.op none none (.mv (.const undef)))):=fun j hj=>getD_some (by omega) _;have hF:=hflo i hiq;rw[hrr]at hF;have hclsr:r.cls≤2:=hf.cls i r hiq hr;have hmk:∀j,j<q→(os.getD j (.dead,[])).2≠[]→(rl.getD j (.op none none (.mv (.const undef)))).cls=2:=hmake;have hclash2:∀x y:RI,x.cls=2→y.cls=2→pq x y=true:=fun x y hx hy=>by simp[pq,hx,hy]
   refine ZW hco hF (s:=ku rl os s0 (Ib listed) q) ?_ ?_ ?_ hclsr hrel (Vaa h1) ?_
   ·
     intro y hy;refine yF s0.t (by omega) fun j hj hd=>?_;have hxj:=hgetj j hj;constructor
     ·intro hLj;rcases Taa j i with h|h
      ·exact h
      ·exfalso;rcases vad h with h|h
       ·rw[←h,h2]at hLj;cases hLj
       ·have:=late j _ h hj hxj (by
         simp only[pq,hd,xab];refine .inl (.inr ?_);simpa using hy)
        rw[this]at hLj;cases hLj
     ·intro hji;exact early j _ hji hxj (by
       simp only[pq,hd,xab];refine .inl (.inl (.inl ?_));simpa using hy)
   ·
     intro hcls;refine OF s0.m (by omega) fun j hj hx=>?_;have hxj:=hgetj j hj;have hcj:=hmk j hj hx;constructor
     ·intro hLj;rcases Taa j i with h|h
      ·exact h
      ·exfalso;rcases vad h with h|h
       ·rw[←h,h2]at hLj;cases hLj
       ·have:=late j _ h hj hxj (hclash2 _ _ hcls hcj);rw[this]at hLj;cases hLj
     ·intro hji;exact early j _ hji hxj (hclash2 _ _ hcj hcls)
   ·
     rintro id ⟨e,he⟩ hid;obtain⟨k,hk,hmk'⟩:=tw (xx:=fun i=>(os.getD i (.dead,[])).2) (L:=Ib listed) s0.m q fun i1 j1 hij hj hx1 hx2 hL1=>
      Eo hcl hL1 (hf.apart i1 j1 _ _ hij hj (hgetj i1 (by omega)) (hgetj j1 hj) (hclash2 _ _ (hmk i1 (by omega) hx1) (hmk j1 hj hx2)))
     simp only[ku]at he hid⊢;rw[hmk']at hid⊢;rcases qaf i k with h|h
     ·obtain⟨rr,hrr'⟩:=Oy (xx:=fun i=>(os.getD i (.dead,[])).2) s0.m h;rw[hrr',Iaa (Caa.1 he).1]
     ·obtain⟨rr,hrr'⟩:=Oy (xx:=fun i=>(os.getD i (.dead,[])).2) s0.m h;rw[hrr',Iaa hid]
   ·
     intro G' w' a' hrel' hs';have hst:after (ku rl os s0 (Ib listed) q) r (os.getD i (.dead,[])).1 (os.getD i (.dead,[])).2=ku rl os s0 (Ib (listed.setIfInBounds i true)) q:=by
      obtain⟨ha1,ha2⟩:=tD (ku rl os s0 (Ib listed) q) r (os.getD i (.dead,[])).1 (os.getD i (.dead,[])).2;have heta:∀z:St,z=⟨z.t,z.m⟩:=fun z=>rfl;rw[heta (after _ _ _ _),ha1,ha2];simp only[ku,St.mk.injEq];constructor
      ·rw[QH s0.t h2 h5 hiq ?_]
       ·simp only[hrr]
       ·intro j hij hjq y hdi hdj;rw[hrr]at hdi;exact late j _ hij hjq (hgetj j hjq) (by
         simp only[pq,hdi,hdj,xab];exact .inl (.inl (.inr (by simp))))
      ·rw[HI s0.m h2 h5 hiq ?_];intro j hij hjq hx1 hx2;have:=hmk i hiq hx1;rw[hrr]at this;exact late j _ hij hjq (hgetj j hjq) (hclash2 _ _ this (hmk j hjq hx2))
     rw[hst]at hrel';refine ih (listed.setIfInBounds i true) G' w' a' ?_ (by simp[hsz]) h4 ?_ hrel' ?_
     ·have:=filter_lt h2 h5 (l:=waa ops.size) (by simp[h1]);omega
     ·intro j hj;rw[h5,htail j hj];simp;omega
     ·intro s'' G'' w'' a'' k1 k2 k3;refine hQ s'' G'' w'' a'' k1 k2 (hs'.trans ?_);have hm':(ku rl os s0 (Ib listed) q).m++(os.getD i (.dead,[])).2=(ku rl os s0 (Ib (listed.setIfInBounds i true)) q).m:=by
       rw[←hst];exact(tD _ _ _ _).2.symm
      rw[hm'];exact k3
theorem CC{r:RI}{s:St}{d:D}{x:List Ent}(h:bw P r s d x) (hcl:r.cls≤2) (hx:x≠[]):r.cls=2:=by
 cases r with
 |call dst g f args=>
  obtain⟨_,_,_,_,h,_⟩:=h;exact(hx h).elim
 |op dst g i=>
  rcases h with⟨-,h⟩|⟨-,-,h⟩
  ·simp only[RI.cls]at hcl⊢;rcases Taa i.cls 2 with h2|h2
   ·obtain⟨hm,-⟩:=Tl (s:=s) (s':=s) (by omega) (fun _ _=>rfl) (fun _ _ _ _=>rfl) h;exfalso;have:=congrArg Nad hm;simp at this;exact hx this
   ·omega
  ·exact(hx h).elim
theorem xH(tr:P.follows .mixedOrders=true) (hc:pf P ops ops.toList=some rl) (hok:qw (Ta ops) rl q=true) {s s1:St}{os:List (D×List Ent)}(hF:CE P (rl.take q) s os s1) (hT:Fh P (rl.drop q) K s1)
 {id:Nat} {G:Gh} {w:World} {a:Act} (hr:Rel G w a s) (hQ:∀s' G' w' a',K s'→Rel G' w' a' s'→Step G w s.m G' w' s'.m→Q .normal a' w'):(Code.region id ops true).wp P Q a w:=by
 have hf:=xo hok;have hlenT:(rl.take q).length=q:=by rw[Qaa];have:=hf.hq;omega
 have hlenO:=hF.length;rw[hlenT]at hlenO;have h0:ku rl os s (fun _=>true) 0=s:=rfl;obtain⟨g1,g2⟩:=CE.get (rl:=rl) (os:=os) (s0:=s) (k:=0) (l:=rl.take q) (os':=os) (s':=s1) (by rw[lac,hlenT]) (by rw[lac,dab]) (by rw[h0];exact hF);simp only[hlenT,Xab]at g1 g2;subst g2;have hL0:∀j,Ib (Wab ops.size false) j=false:=by
  intro j;unfold Ib;simp only[uac,bae];split<;>rfl
 have hst0:ku rl os s (Ib (Wab ops.size false)) q=s:=by
  have ht:∀n,tS (fun i=>(rl.getD i (.op none none (.mv (.const undef)))).dst) (fun i=>(os.getD i (.dead,[])).1) (Ib (Wab ops.size false)) s.t n=s.t:=by
   intro n
   induction n with
   |zero=>rfl
   |succ n ih=>simp only[tS,hL0,naa,if_false,ih]
  have hm:∀n,mS (fun i=>(os.getD i (.dead,[])).2) (Ib (Wab ops.size false)) s.m n=s.m:=by
   intro n
   induction n with
   |zero=>rfl
   |succ n ih=>simp only[mS,hL0,naa,if_false,ih]
  unfold ku;rw[ht,hm]
 refine wp_region_any tr ?_;have hs:=Same.drew w;refine aL hc hf g1 (fun i hi hx=>CC (g1 i hi) (hf.cls i _ hi (getD_some (by have:=hf.hq;omega) _)) hx) hT ops.size _ G _ a ?_ (by simp) ?_ (fun j _=>hL0 j) ?_ ?_
 ·have:=Maa (fun j=>!Ib (Wab ops.size false) j) (waa ops.size);simpa using this
 ·intro i b _ hi;rw[hL0]at hi;cases hi
 ·rw[hst0];exact⟨hr.t.mono (hs.le G),hs.inv hr.inv,hr.defers⟩
 ·intro s' G' w' a' k1 k2 k3;rw[hst0]at k3;exact hQ s' G' w' a' k1 k2 ((hs.step G s.m).trans k3)
end
end
end Go.Tm
namespace Go.Tm
section
variable {P:Program} {N:Nat}
def uE(P:Program):Nat→List RI→(St→Prop)→St→Prop
 |0,l,K,s=>Fh P l K s
 |_+1,[],_,_=>False
 |q+1,.op dst g i::l,K,s=>
  match gate s g with
  |none=>False
  |some none=>∃d m',ea s i=some (d,m')∧uE P q l K ({ s with m:=m' }.put dst d)
  |some (some (c,b))=>(c=b→∃d m',ea s i=some (d,m')∧uE P q l K ({ s with m:=m' }.put dst d))∧(c≠b→uE P q l K (s.put dst (.v undef)))
 |q+1,.call dst g f args::l,K,s=>
  match s.cv f with
  |.fn k first caps=>
   match gate s g with
   |none=>False
   |some none=>∃d,(∀m,CallT P k (first++args.map s.ev++caps) m fun d' m'=>d'=d∧m'=m)∧uE P q l K (s.put dst d)
   |some (some (c,b))=>(c=b→∃d,(∀m,CallT P k (first++args.map s.ev++caps) m fun d' m'=>d'=d∧m'=m)∧uE P q l K (s.put dst d))∧(c≠b→uE P q l K (s.put dst (.v undef)))
  |_=>False
section
variable {ops:Array Oper} {Q:Exit→Act→World→Prop} {K:St→Prop} {rl:List RI} {q:Nat}
end
theorem Lt:∀{q:Nat}{l:List RI}{K:St→Prop}{s:St},uE P q l K s→(∀(j:Nat) y,j<q→l[j]?=some y→y.cls≤2)→∃os s1,CE P (l.take q) s os s1∧Fh P (l.drop q) K s1
 |0,l,K,s,h,_=>⟨[],s,by simp[CE],by simpa [uE] using h⟩
 |q+1,[],K,s,h,_=>by simp[uE]at h
 |q+1,.op dst g i::l,K,s,h,hc=>by
  have hci:i.cls≤2:=hc 0 _ (by omega) rfl;have hc':∀(j:Nat) y,j<q→l[j]?=some y→y.cls≤2:=fun j y hj hy=>hc (j+1) y (by omega) (by simpa using hy);have ext:∀{d:D} {m':List Ent},ea s i=some (d,m')→∃x,m'=s.m++x:=fun {d m'} he=>by
   rcases Taa i.cls 2 with h2|h2
   ·exact⟨[],by rw[Naa];exact(Tl (s:=s) (s':=s) (by omega) (fun _ _=>rfl) (fun _ _ _ _=>rfl) he).1⟩
   ·obtain⟨-,e,h⟩:=cA (s:=s) (s':=s) (by omega) (fun _ _=>rfl) rfl he;exact⟨[e],h⟩
  have on:∀{d:D} {m':List Ent},ea s i=some (d,m')→(gate s g=some none∨∃c,gate s g=some (some (c,c)))→uE P q l K ({ s with m:=m' }.put dst d)→
   ∃os s1,CE P ((RI.op dst g i::l).take (q+1)) s os s1∧Fh P ((RI.op dst g i::l).drop (q+1)) K s1:=by
   intro d m' he hg hD;obtain⟨x,rfl⟩:=ext he;obtain⟨os,s1,h1,h2⟩:=Lt hD hc';exact⟨(d,x)::os,s1,by simp only[lab,CE];exact⟨d,x,os,rfl,.inl ⟨hg,he⟩,h1⟩,by simpa using h2⟩
  simp only[uE]at h;split at h
  ·exact h.elim
  ·rename_i hg;obtain⟨d,m',he,hD⟩:=h;exact on he (.inl hg) hD
  ·rename_i c b hg;by_cases hcb:c=b
   ·subst hcb;obtain⟨d,m',he,hD⟩:=h.1 rfl;exact on he (.inr ⟨c,hg⟩) hD
   ·obtain⟨os,s1,h1,h2⟩:=Lt (h.2 hcb) hc';refine⟨(.v undef,[])::os,s1,?_,by simpa using h2⟩;simp only[lab,CE];refine⟨_,_,os,rfl,.inr ⟨⟨c,b,hg,hcb⟩,rfl,rfl⟩,?_⟩;have:after s (.op dst g i) (.v undef) []=s.put dst (.v undef):=by unfold after;rw[Naa];rfl
    rw[this];exact h1
 |q+1,.call dst g f args::l,K,s,h,hc=>by
  have hc':∀(j:Nat) y,j<q→l[j]?=some y→y.cls≤2:=fun j y hj hy=>hc (j+1) y (by omega) (by simpa using hy);have haf:∀d,after s (.call dst g f args) d []=s.put dst d:=fun d=>by unfold after;rw[Naa];rfl
  simp only[uE]at h;split at h
  ·rename_i k first caps hf
   split at h
   ·exact h.elim
   ·rename_i hg;obtain⟨d,hcall,hD⟩:=h;obtain⟨os,s1,h1,h2⟩:=Lt hD hc';refine⟨(d,[])::os,s1,?_,by simpa using h2⟩;simp only[lab,CE];exact⟨d,[],os,rfl,⟨k,first,caps,hf,rfl,.inl ⟨.inl hg,hcall⟩⟩,by rw[haf];exact h1⟩
   ·rename_i c b hg;by_cases hcb:c=b
    ·subst hcb;obtain⟨d,hcall,hD⟩:=h.1 rfl;obtain⟨os,s1,h1,h2⟩:=Lt hD hc';refine⟨(d,[])::os,s1,?_,by simpa using h2⟩;simp only[lab,CE];exact⟨d,[],os,rfl,⟨k,first,caps,hf,rfl,.inl ⟨.inr ⟨c,hg⟩,hcall⟩⟩,by rw[haf];exact h1⟩
    ·obtain⟨os,s1,h1,h2⟩:=Lt (h.2 hcb) hc';refine⟨(.v undef,[])::os,s1,?_,by simpa using h2⟩;simp only[lab,CE];exact⟨_,[],os,rfl,⟨k,first,caps,hf,rfl,.inr ⟨⟨c,b,hg,hcb⟩,rfl⟩⟩,by rw[haf];exact h1⟩
  ·exact h.elim
theorem T.draw{q:Nat}{l:List RI}{K:Exit→St→Prop}{s:St}(hm:P.follows .mixedOrders=true) (h:uE P q l (K .normal) s):T P N (.draw q l) K s:=by
 intro code hc G w a hN hr;obtain⟨id,ops,rfl,hc',hok⟩:=Hw hc;obtain⟨os,s1,h1,h2⟩:=Lt h (xo hok).cls;exact xH hm hc' hok h1 h2 hr fun s' G' w' a' k1 k2 k3=>⟨s',G',k1,k2,k3.RN hN⟩
end
end Go.Tm
namespace Go.Tm
section
variable (ww:Nat→Option (Nat×Ent)) (L:Nat→Bool)
def sS(m:List Ent):Nat→List Ent
 |0=>m
 |n+1=>if L n then(match ww n with|some (id,e)=>(sS m n).set id e|none=>sS m n)else sS m n
def ct(id:Nat):Nat→Option Ent
 |0=>none
 |n+1=>if L n then(match ww n with|some (j,e)=>if j=id then some e else ct id n|none=>ct id n)else ct id n
end
section
variable {ww:Nat→Option (Nat×Ent)} {L:Nat→Bool}
theorem Kk(m:List Ent):∀n,(sS ww L m n).length=m.length
 |0=>rfl
 |n+1=>by
  simp only[sS]
  repeat' split
  all_goals simp[Kk m n]
theorem iz(m:List Ent) (id:Nat):∀n,id<m.length→(sS ww L m n)[id]?=(match ct ww L id n with|some e=>some e|none=>m[id]?)
 |0,h=>rfl
 |n+1,h=>by
  simp only[sS,ct];split
  ·split
   ·rename_i j e hw;rw[fac];by_cases hj:j=id
    ·subst hj;rw[if_pos rfl,if_pos rfl,if_pos (by rw[Kk];exact h)]
    ·rw[if_neg hj,if_neg hj];exact iz m id n h
   ·exact iz m id n h
  ·exact iz m id n h
theorem mH{id i:Nat}:∀{q:Nat},i≤q→(∀j,j<q→∀e,ww j=some (id,e)→(L j=true↔j<i))→ct ww L id q=ct ww (fun _=>true) id i:=by
 have h1:∀n,n≤i→(∀j,j<n→∀e,ww j=some (id,e)→L j=true)→ct ww L id n=ct ww (fun _=>true) id n:=by
  intro n
  induction n with
  |zero=>intro _ _;rfl
  |succ n ih=>
   intro hn h;have ih':=ih (by omega) fun j hj=>h j (by omega);simp only[ct,if_true]
   cases hw:ww n with
   |none=>simp[ih']
   |some p=>
    obtain⟨j,e⟩:=p;simp only;by_cases hj:j=id
    ·subst hj;rw[if_pos (h n (by omega) e hw)];simp
    ·simp[hj,ih']
 intro q
 induction q with
 |zero=>
  intro hi h;have h0:i=0:=by omega
  subst h0;rfl
 |succ q ih=>
  intro hi h;by_cases hq:i=q+1
  ·subst hq;exact h1 _ (yaa _) fun j hj e he=>(h j hj e he).2 hj
  ·rw[←ih (by omega) fun j hj=>h j (by omega)];simp only[ct];split
   ·rename_i hL
    cases hw:ww q with
    |none=>rfl
    |some p=>
     obtain⟨j,e⟩:=p;simp only;by_cases hj:j=id
     ·subst hj;have:=(h q (by omega) e hw).1 hL;omega
     ·rw[if_neg hj]
   ·rfl
theorem nG(m x:List Ent):∀n,(∀j,j<n→L j=true→∀id e,ww j=some (id,e)→id<m.length)→sS ww L (m++x) n=sS ww L m n++x
 |0,_=>rfl
 |n+1,h=>by
  have ih:=nG m x n fun j hj=>h j (by omega);simp only[sS];split
  ·rename_i hL;split
   ·rename_i id e hw;rw[ih,List.set_append_left _ _ (by rw[Kk];exact h n (by omega) hL id e hw)]
   ·exact ih
  ·exact ih
theorem yR(m:List Ent) {L':Nat→Bool}{i:Nat}(hi:L i=false) (hL':∀j,L' j=(L j || j==i)):∀{q:Nat},i<q→(∀j,i<j→j<q→L j=true→∀id e e',ww i=some (id,e)→ww j≠some (id,e'))→
 sS ww L' m q=(match ww i with|some (id,e)=>(sS ww L m q).set id e|none=>sS ww L m q):=by
 have hlow:∀n,n≤i→sS ww L' m n=sS ww L m n:=by
  intro n
  induction n with
  |zero=>intro _;rfl
  |succ n ih=>
   intro hn;have:L' n=L n:=by
    rw[hL'];have:(n==i)=false:=by simp;omega
    simp[this]
   simp only[sS,this,ih (by omega)]
 intro q
 induction q with
 |zero=>intro h;omega
 |succ q ih=>
  intro hq hw;by_cases hqi:q=i
  ·subst hqi;have h1:L' q=true:=by rw[hL'];simp
   simp only[sS,h1,if_true,hi,hlow q (yaa _),naa,if_false]
  ·have h1:L' q=L q:=by
    rw[hL'];have:(q==i)=false:=by simp;omega
    simp[this]
   have ih':=ih (by omega) fun j hj hjq=>hw j hj (by omega);simp only[sS,h1,ih']
   cases hdi:ww i with
   |none=>simp
   |some p=>
    obtain⟨id,e⟩:=p;simp only;split
    ·rename_i hLq;split
     ·rename_i id' e' hz;have hne:id≠id':=by
       rintro rfl;exact hw q (by omega) (by omega) hLq id e e' hdi hz
      rw[gaf _ _ hne]
     ·rfl
    ·rfl
end
def I.bJ:I→Option Operand
 |.store _ x _=>some x
 |.trunc _ x _ _=>some x
 |.append _ _ x _=>some x
 |_=>none
def I.src:I→Option Operand
 |.append _ _ _ y=>some y
 |_=>none
def De(s:St):I→Bool
 |.trunc _ x _ _=>match s.ev x with|.own ..=>true|_=>false
 |.append _ _ x _=>match s.ev x with|.own ..=>true|_=>false
 |_=>true
theorem Ny{i:I}{x:Operand}(h:i.bJ=some x):i.cls=3∧((∃n y,i=.store n x y)∨(∃S lo hi,i=.trunc S x lo hi)∨∃S b y,i=.append S b x y):=by
 cases i<;>simp[I.bJ]at h
 ·subst h;exact⟨rfl,.inl ⟨_,_,rfl⟩⟩
 ·subst h;exact⟨rfl,.inr (.inr ⟨_,_,_,rfl⟩)⟩
 ·subst h;exact⟨rfl,.inr (.inl ⟨_,_,_,rfl⟩)⟩
theorem qG{s:St}{n:Nat}{x y:Operand}{d:D}{m1:List Ent}(he:ea s (.store n x y)=some (d,m1)) :
 ∃id e,tc (s.ev x)=some id∧m1=s.m.set id e∧(∃e0,s.m[id]?=some e0)∧
  ∀s':St,(∀t∈(I.store n x y).reads,s'.t.getD t .dead=s.t.getD t .dead)→s'.m[id]?=s.m[id]?→ea s' (.store n x y)=some (d,s'.m.set id e):=by
 simp only[ea]at he;split at he
 ·rename_i id Ga ix sub hx;split at he
  ·rename_i S ver' l hm;split at he
   ·rename_i hc;simp only[rac]at he;obtain⟨d0,h0,he⟩:=he;split at he
    ·rename_i hc2;injection he with he;injection he with h1 h2;subst h1;subst h2;refine⟨id,_,by rw[hx];rfl,rfl,⟨_,hm⟩,fun s' ht hm'=>?_⟩;have ex:s'.ev x=s.ev x:=ta (fun t h=>ht t (by simp[I.reads,h]));have ey:s'.ev y=s.ev y:=ta (fun t h=>ht t (by simp[I.reads,h]));simp only[ea,ex,hx,hm',hm,ey];rw[if_pos hc];simp only[h0,Option.bind_some];rw[if_pos hc2]
    ·cases he
   ·cases he
  ·cases he
 ·cases he
theorem BG{s:St}{S:Nat}{x:Operand}{lo hi:Option Operand}{d:D}{m1:List Ent}(hb:De s (.trunc S x lo hi)=true) (he:ea s (.trunc S x lo hi)=some (d,m1)) :
 ∃id e,tc (s.ev x)=some id∧m1=s.m.set id e∧(∃e0,s.m[id]?=some e0)∧
  ∀s':St,(∀t∈(I.trunc S x lo hi).reads,s'.t.getD t .dead=s.t.getD t .dead)→s'.m[id]?=s.m[id]?→ea s' (.trunc S x lo hi)=some (d,s'.m.set id e):=by
 simp only[De]at hb;split at hb
 ·rename_i id Ga hx;simp only[ea,hx]at he;split at he
  ·rename_i S' ver' l hm;split at he
   ·rename_i a h hlo hhi;split at he
    ·rename_i hc;injection he with he;injection he with h1 h2;subst h1;subst h2;refine⟨id,_,by rw[hx];rfl,rfl,⟨_,hm⟩,fun s' ht hm'=>?_⟩;have ex:s'.ev x=s.ev x:=ta (fun t h=>ht t (by simp[I.reads,h]));have e1:bound s' 0 lo=bound s 0 lo:=Lj (fun t h=>ht t (by simp[I.reads,h]));have e2:bound s' l.length hi=bound s l.length hi:=Lj (fun t h=>ht t (by simp[I.reads,h]));simp only[ea,ex,hx,hm',hm,e1,e2,hlo,hhi];rw[if_pos hc]
    ·cases he
   ·cases he
  ·cases he
 ·cases hb
theorem Dz{S:Nat}{m m':List Ent}{d:D}(h:∀id,tc d=some id→m'[id]?=m[id]?):contents S m' d=contents S m d:=by
 cases d with
 |own id v=>simp only[contents];rw[h _ rfl]
 |view id v a b=>simp only[contents];rw[h _ rfl]
 |v x=>simp only[contents];split<;>simp_all
 |_=>rfl
theorem oG{s:St}{S b:Nat}{x y:Operand}{d:D}{m1:List Ent}(hb:De s (.append S b x y)=true) (he:ea s (.append S b x y)=some (d,m1)) :
 ∃id e,tc (s.ev x)=some id∧m1=s.m.set id e∧(∃e0,s.m[id]?=some e0)∧
  ∀s':St,(∀t∈(I.append S b x y).reads,s'.t.getD t .dead=s.t.getD t .dead)→s'.m[id]?=s.m[id]?→(∀id',tc (s.ev y)=some id'→s'.m[id']?=s.m[id']?)→ea s' (.append S b x y)=some (d,s'.m.set id e):=by
 simp only[De]at hb;split at hb
 ·rename_i id Ga hx;simp only[ea,hx]at he;split at he
  ·rename_i r hr;split at he
   ·rename_i S' ver' l hm;split at he
    ·rename_i hc;injection he with he;injection he with h1 h2;subst h1;subst h2;refine⟨id,_,by rw[hx];rfl,rfl,⟨_,hm⟩,fun s' ht hm' hs=>?_⟩;have ex:s'.ev x=s.ev x:=ta (fun t h=>ht t (by simp[I.reads,h]));have ey:s'.ev y=s.ev y:=ta (fun t h=>ht t (by simp[I.reads,h]));simp only[ea,ex,hx,hm',hm,ey,Dz hs,hr];rw[if_pos hc]
    ·cases he
   ·cases he
  ·cases he
 ·cases hb
theorem dC{s:St}{i:I}{x:Operand}{d:D}{m1:List Ent}(ht:i.bJ=some x) (hb:De s i=true) (he:ea s i=some (d,m1)) :
 ∃id e,tc (s.ev x)=some id∧m1=s.m.set id e∧(∃e0,s.m[id]?=some e0)∧
  (∀s':St,(∀t∈i.reads,s'.t.getD t .dead=s.t.getD t .dead)→s'.m[id]?=s.m[id]?→(∀y,i.src=some y→∀id',tc (s.ev y)=some id'→s'.m[id']?=s.m[id']?)→ea s' i=some (d,s'.m.set id e)):=by
 rcases(Ny ht).2 with⟨n,y,rfl⟩|⟨S,lo,hi,rfl⟩|⟨S,b,y,rfl⟩
 ·obtain⟨id,e,h1,h2,h3,h4⟩:=qG he;exact⟨id,e,h1,h2,h3,fun s' k1 k2 _=>h4 s' k1 k2⟩
 ·obtain⟨id,e,h1,h2,h3,h4⟩:=BG hb he;exact⟨id,e,h1,h2,h3,fun s' k1 k2 _=>h4 s' k1 k2⟩
 ·obtain⟨id,e,h1,h2,h3,h4⟩:=oG hb he;exact⟨id,e,h1,h2,h3,fun s' k1 k2 k3=>h4 s' k1 k2 (k3 y rfl)⟩
theorem LC{s:St}{i:I}{y:Operand}{d:D}{m1:List Ent}(hs:i.src=some y) (he:ea s i=some (d,m1)) {id:Nat}(h:tc (s.ev y)=some id):∃e,s.m[id]?=some e:=by
 obtain⟨S,b,x,rfl⟩:∃S b x,i=.append S b x y:=by cases i<;>simp[I.src]at hs;subst hs;exact⟨_,_,_,rfl⟩
 simp only[ea]at he;split at he
 ·rename_i r hr
  cases hy:s.ev y with
  |own a b=>rw[hy]at h hr;simp only[tc,zaa]at h;subst h;simp only[contents]at hr;split at hr<;>first|exact⟨_,by assumption⟩|cases hr
  |view a b c e=>rw[hy]at h hr;simp only[tc,zaa]at h;subst h;simp only[contents]at hr;split at hr<;>first|exact⟨_,by assumption⟩|cases hr
  |ref a b c e=>rw[hy]at hr;simp[contents]at hr
  |mp a=>rw[hy]at hr;simp[contents]at hr
  |_=>rw[hy]at h;simp[tc]at h
 ·cases he
theorem WI{i:I}{x:Operand}(ht:i.bJ=some x):∀t∈Kd x,t∈i.reads:=by
 rcases(Ny ht).2 with⟨n,y,rfl⟩|⟨S,lo,hi,rfl⟩|⟨S,b,y,rfl⟩<;>intro t h<;>simp[I.reads,h]
theorem lH{i:I}{x:Operand}(ht:i.bJ=some x):i.xU=none:=by
 rcases(Ny ht).2 with⟨n,y,rfl⟩|⟨S,lo,hi,rfl⟩|⟨S,b,y,rfl⟩<;>rfl
theorem jx{s s':St}{i:I}{d:D}(hc:i.cls=2) (ht:∀t∈i.reads,s'.t.getD t .dead=s.t.getD t .dead) (hm:s'.m.length=s.m.length) {m1:List Ent}(he:ea s i=some (d,m1)) :
 ∃e,m1=s.m++[e]∧ea s' i=some (d,s'.m++[e]):=by
 cases i with
 |alloc S z=>
  simp only[ea,zaa,Aaa]at he⊢;exact⟨_,he.2.symm,by rw[hm];exact he.1,rfl⟩
 |box S x=>
  simp only[ea]at he⊢;rw[ta (s:=s) (s':=s') (x:=x) (fun t h=>ht t (by simpa [I.reads] using h))];split at he
  ·rename_i hc;rw[if_pos hc];injection he with he;injection he with h1 h2;exact⟨_,h2.symm,by rw[hm,h1]⟩
  ·cases he
 |bslice S n z ps=>
  simp only[ea]at he⊢;rw[gn (s:=s) (s':=s') (fun t h=>ht t (by simpa [I.reads] using h))];simp only[laa,Aaa]at he;obtain⟨l,h1,h2,h3⟩:=he;exact⟨_,h3.symm,by rw[h1,hm,←h2];rfl⟩
 |mkslice S b z l c=>
  simp only[ea]at he⊢;rw[ta (s:=s) (s':=s') (x:=l) (fun t h=>ht t (by simp[I.reads,h])),ta (s:=s) (s':=s') (x:=c) (fun t h=>ht t (by simp[I.reads,h]))];split at he
  ·split at he
   ·rename_i hc;rw[if_pos hc];injection he with he;injection he with h1 h2;exact⟨_,h2.symm,by rw[hm,h1]⟩
   ·cases he
  ·cases he
 |mkmap=>
  simp only[ea,zaa,Aaa]at he⊢;exact⟨_,he.2.symm,by rw[hm];exact he.1,rfl⟩
 |_=>simp[I.cls]at hc
mutual
def pj:D→List Nat
 |.agg l=>Ai l
 |.tup l=>Ai l
 |.sl _ l=>Ai l
 |.pt d=>pj d
 |.fn _ a b=>Ai a++Ai b
 |.ifc _ d=>pj d
 |.own id _=>[id]
 |.view id _ _ _=>[id]
 |.ref id _ _ _=>[id]
 |.mp id=>[id]
 |.v _=>[]
 |.dead=>[]
def Ai:List D→List Nat
 |[]=>[]
 |d::l=>pj d++Ai l
end
mutual
theorem dD:∀{d:D},la d=true→pj d=[]
 |.v _,_=>rfl
 |.agg l,h=>by simp only[la]at h;simp only[pj,ep h]
 |.tup l,h=>by simp only[la]at h;simp only[pj,ep h]
 |.sl _ l,h=>by simp only[la]at h;simp only[pj,ep h]
 |.pt d,h=>by simp only[la]at h;simp only[pj,dD h]
 |.fn _ a b,h=>by simp only[la,paa]at h;simp only[pj,ep h.1,ep h.2,Naa]
 |.ifc _ d,h=>by simp only[la]at h;simp only[pj,dD h]
 |.own ..,h=>by simp[la]at h
 |.view ..,h=>by simp[la]at h
 |.ref ..,h=>by simp[la]at h
 |.mp _,h=>by simp[la]at h
 |.dead,_=>rfl
theorem ep:∀{l:List D},fa l=true→Ai l=[]
 |[],_=>rfl
 |d::l,h=>by simp only[fa,paa]at h;simp only[Ai,dD h.1,ep h.2,Naa]
end
def eb(s:St):List Operand→List Nat
 |[]=>[]
 |x::l=>pj (s.ev x)++eb s l
theorem Jw{s:St}:∀{l:List Operand},eb s l=Ai (l.map s.ev)
 |[]=>rfl
 |x::l=>by simp only[eb,eab,Ai,Jw (l:=l)]
mutual
theorem wy{G:Gh}{w:World}{id:Nat}:∀{d:D}{u:Value},VRel G w d u→id∈pj d→id<G.n
 |.v x,u,h,hi=>by simp[pj]at hi
 |.agg l,u,h,hi=>by
  simp only[VRel]at h;simp only[pj]at hi;obtain⟨cs,rfl,h,-⟩:=h;exact Xo h hi
 |.tup l,u,h,hi=>by
  simp only[VRel]at h;simp only[pj]at hi;obtain⟨cs,rfl,h⟩:=h;exact Xo h hi
 |.sl S l,u,h,hi=>by
  simp only[VRel]at h;simp only[pj]at hi;obtain⟨a,n,c,rfl,-,-,h|⟨b,off,rfl,-,h⟩⟩:=h
  ·subst h;simp[Ai]at hi
  ·exact MB h hi
 |.pt d,u,h,hi=>by
  simp only[VRel]at h;simp only[pj]at hi;obtain⟨b,off,x,rfl,-,h,-⟩:=h;exact wy h hi
 |.ref a b c e,u,h,hi=>by
  simp only[VRel]at h;simp only[pj,Paa]at hi;obtain⟨_,_,h,_⟩:=h;omega
 |.own a b,u,h,hi=>by
  simp only[VRel]at h;simp only[pj,Paa]at hi;obtain⟨_,_,_,_,h,_⟩:=h;omega
 |.view a b c e,u,h,hi=>by
  simp only[VRel]at h;simp only[pj,Paa]at hi;obtain⟨_,_,_,_,h,_⟩:=h;omega
 |.fn f a b,u,h,hi=>by
  simp only[VRel]at h;simp only[pj,Jaa]at hi;obtain⟨fs,cs,rfl,h1,h2⟩:=h;rcases hi with hi|hi
  ·exact Xo h1 hi
  ·exact Xo h2 hi
 |.mp a,u,h,hi=>by
  simp only[VRel]at h;simp only[pj,Paa]at hi;obtain⟨_,_,h,_⟩:=h;omega
 |.ifc t d,u,h,hi=>by
  simp only[VRel]at h;simp only[pj]at hi;obtain⟨x,rfl,h⟩:=h;exact wy h hi
 |.dead,u,h,hi=>by simp[pj]at hi
theorem Xo{G:Gh}{w:World}{id:Nat}:∀{l:List D}{us:List Value},VsRel G w l us→id∈Ai l→id<G.n
 |[],us,h,hi=>by simp[Ai]at hi
 |d::l,us,h,hi=>by
  simp only[VsRel]at h;simp only[Ai,Jaa]at hi;obtain⟨u,r,rfl,h1,h2⟩:=h;rcases hi with hi|hi
  ·exact wy h1 hi
  ·exact Xo h2 hi
theorem MB{G:Gh}{w:World}{id b S:Nat}:∀{l:List D}{off:Nat},Ha G w b S l off→id∈Ai l→id<G.n
 |[],off,h,hi=>by simp[Ai]at hi
 |d::l,off,h,hi=>by
  simp only[Ha]at h;simp only[Ai,Jaa]at hi;obtain⟨⟨u,h1,-⟩,h2⟩:=h;rcases hi with hi|hi
  ·exact wy h1 hi
  ·exact MB h2 hi
end
def fo(s:St):List Operand→List Nat
 |[]=>[]
 |x::l=>match tc (s.ev x)with|some id=>id::fo s l|none=>fo s l
def wj(s:St):RI→List Nat
 |.op _ _ i=>
  match i.xU with
  |some x=>fo s [x]
  |none=>match i.bJ with|some x=>fo s (x::i.src.toList)|none=>[]
 |.call _ _ _ args=>eb s args
theorem UH{s:St}{x:Operand}{l:List Operand}{id:Nat}(h:tc (s.ev x)=some id):id∈fo s (x::l):=by simp[fo,h]
theorem xR{s:St}{x:Operand}{l:List Operand}{id:Nat}(h:id∈fo s l):id∈fo s (x::l):=by simp only[fo];split<;>simp[h]
theorem ND{s:St}{x:Operand}{id:Nat}(h:tc (s.ev x)=some id):id∈fo s [x]:=by simp[fo,h]
abbrev Os:=List (D×List Ent×Option (Nat×Ent))
def r8:D×List Ent×Option (Nat×Ent):=(.dead,[],none)
def DI:RI:=.op none none (.mv (.const undef))
def oq(P:Program) (r:RI) (s:St) (d:D) (x:List Ent) (w:Option (Nat×Ent)):Prop:=
 match r with
 |.op _ g i=>((gate s g=some none∨∃c,gate s g=some (some (c,c)))∧
  ((w=none∧i.cls≤2∧ea s i=some (d,s.m++x))∨(x=[]∧∃a id e,i.bJ=some a∧tc (s.ev a)=some id∧w=some (id,e)∧ea s i=some (d,s.m.set id e)∧id<s.m.length∧De s i=true)))∨
  ((∃c b,gate s g=some (some (c,b))∧c≠b)∧d=.v undef∧x=[]∧w=none)
 |.call _ g f args=>x=[]∧w=none∧
  ((∃k first caps,s.cv f=.fn k first caps∧(gate s g=some none∨∃c,gate s g=some (some (c,c)))∧(∀id∈eb s args,id<s.m.length)∧∀m,(∀id∈eb s args,m[id]?=s.m[id]?)→CallT P k (first++args.map s.ev++caps) m fun d' m'=>d'=d∧m'=m)∨((∃c b,gate s g=some (some (c,b))∧c≠b)∧d=.v undef))
def wr(m:List Ent) (w:Option (Nat×Ent)):List Ent:=match w with|some (id,e)=>m.set id e|none=>m
def ki(s:St) (r:RI) (d:D) (x:List Ent) (w:Option (Nat×Ent)):St:=({ s with m:=wr s.m w++x }:St).put r.dst d
theorem vz(s:St) (r:RI) (d:D) (x:List Ent) (w:Option (Nat×Ent)):ki s r d x w=⟨(match r.dst with|some y=>s.t.set y d|none=>s.t),wr s.m w++x⟩:=by
 unfold ki St.put;cases r.dst<;>rfl
section
variable {P:Program}
def TC(rl:List RI) (i:Nat):Option Tmp:=(rl.getD i DI).dst
def zY(os:Os) (i:Nat):D:=(os.getD i r8).1
def pA(os:Os) (i:Nat):List Ent:=(os.getD i r8).2.1
def rG(os:Os) (i:Nat):Option (Nat×Ent):=(os.getD i r8).2.2
def nj(rl:List RI) (os:Os) (s:St) (L:Nat→Bool) (n:Nat):St:=
 ⟨tS (TC rl) (zY os) L s.t n,sS (rG os) L (mS (pA os) L s.m n) n⟩
theorem oq.lt{r:RI}{s:St}{d:D}{x:List Ent}{w:Option (Nat×Ent)}(h:oq P r s d x w) {id:Nat}{e:Ent}(hw:w=some (id,e)):id<s.m.length∧x=[]∧id∈wj s r:=by
 subst hw
 cases r with
 |call dst g f args=>obtain⟨_,h,_⟩:=h;cases h
 |op dst g i=>
  rcases h with⟨_,⟨h,_⟩|⟨hx,a,id',e',ht,h1,h2,h3,h4,_⟩⟩|⟨_,_,_,h⟩
  ·cases h
  ·injection h2 with h2;injection h2 with h2 h5;subst h2;exact⟨h4,hx,by simp only[wj,lH ht,ht];exact UH h1⟩
  ·cases h
theorem aH{G:Gh}{w:World}{a:Act}{s:St}(hr:Rel G w a s) {x:Operand}{id:Nat}(h:tc (s.ev x)=some id):id<s.m.length:=by
 have hv:=hr.ev x;have hn:=hr.inv.n;generalize s.ev x=d at *;cases d<;>simp only[tc,reduceCtorEq,zaa]at h
 ·subst h;simp only[VRel]at hv;obtain⟨_,_,h,_⟩:=hv;omega
 ·subst h;simp only[VRel]at hv;obtain⟨_,_,_,_,h,_⟩:=hv;omega
 ·subst h;simp only[VRel]at hv;obtain⟨_,_,_,_,h,_⟩:=hv;omega
 ·subst h;simp only[VRel]at hv;obtain⟨_,_,h,_⟩:=hv;omega
theorem cR{ops:Array Oper}{o:Oper}{r:RI}(hc:Sk P ops o=some r) {sc s:St}{d:D}{x:List Ent}{wt:Option (Nat×Ent)}(hf:oq P r sc d x wt) (ht:∀t∈r.reads,s.t.getD t .dead=sc.t.getD t .dead)
 (hm:r.cls=2→s.m.length=sc.m.length) (hm1:∀(id:Nat),id∈wj sc r→(∃e,sc.m[id]?=some e)→id<s.m.length→s.m[id]?=sc.m[id]?)
 {G:Gh} {w:World} {a:Act} (hr:Rel G w a s) {i:Nat} (hi:ops[i]?=some o) {Q:Exit→Act→World→Prop} {K:Act→World→Prop}
 (hK:∀G' w' a',Rel G' w' a' (ki s r d x wt)→Step G w s.m G' w' (wr s.m wt++x)→(∀id e,wt=some (id,e)→id<s.m.length)→K a' w'):wpOp P ops Q i K a w:=by
 have hdst:=Zq hc;unfold wpOp;simp only[hi];unfold Sk at hc;split at hc
 ·cases hc
 ·rename_i g hg;obtain⟨hgate1,hgate2⟩:=Wj hr hg;have hgt:gate s g=gate sc g:=Uy (fun t h=>ht t (by
   split at hc
   ·injection hc with hc;subst hc;simp[RI.reads,h]
   ·simp only[laa]at hc;obtain⟨i,-,rfl⟩:=hc;simp[RI.reads,h]))
  have won:(gate sc g=some none∨∃c,gate sc g=some (some (c,c)))→Region.wanted o (yielded ops a.tmps)=true:=by
   rintro(h|⟨c,h⟩)
   ·exact hgate1 (by rw[hgt,h]) o rfl
   ·rw[hgate2 c c (by rw[hgt,h]) o rfl];simp
  have woff:(∃c b,gate sc g=some (some (c,b))∧c≠b)→Region.wanted o (yielded ops a.tmps)=false:=by
   rintro⟨c,b,h,hne⟩;rw[hgate2 c b (by rw[hgt,h]) o rfl];simpa using hne
  have skip:d=.v undef→x=[]→wt=none→K (a.put o.dst undef) w:=by
   rintro rfl rfl rfl;refine hK G w _ ?_ (by rw[Naa];exact Step.refl _ _ _) (fun _ _ h=>by cases h);unfold ki;rw[hdst,Naa];exact xv hr o.dst
  split at hc
  ·rename_i f args ho;injection hc with hc;subst hc;obtain⟨rfl,rfl,hf⟩:=hf;have hargs:args.map s.ev=args.map sc.ev:=map_congr (fun t h=>ht t (by simp[RI.reads];simp at h;exact .inr (.inr h)));rcases hf with⟨k,first,caps,hfe,hon,hids,hcall⟩|⟨hoff,hd⟩
   ·have hfe':s.cv f=.fn k first caps:=by rw[Wz (s:=sc) (s':=s) (f:=f) (fun t h=>ht t (by simp[RI.reads,h]))];exact hfe
    rw[if_pos (won hon)];refine .inl ?_;obtain⟨⟨fn,e1,e2,e3⟩,hcc⟩:=hcall s.m fun id hid=>by
     refine hm1 id hid ⟨_,iaa (hids id hid)⟩ ?_;rw[Jw,←hargs]at hid;rw[←hr.inv.n];exact Xo (Cs hr _) hid
    obtain⟨fs,cs,hrun,hv1,hv2⟩:=Ts hr ho (rL hfe') e1 e2 e3;rw[←hargs]at hcc;have hcalls:=hcc G w (fs++args.map a.eval++cs) ((hv1.append (Cs hr _)).append hv2) hr.inv;unfold Oper.wp;rw[hrun,Oper.upon_enter];refine hcalls.mono ?_;rintro e w' ⟨v,d',m',G',rfl,⟨rfl,rfl⟩,hvd,hi',hs'⟩;refine hK G' w' _ ?_ (by rw[Naa];exact hs') (fun _ _ h=>by cases h);unfold ki;rw[Naa];exact(hr.step hs'.le hi').put o.dst hvd
   ·rw[if_neg (by rw[woff hoff];decide)];exact skip hd rfl rfl
  ·rename_i hno;simp only[laa]at hc;obtain⟨j,hj,rfl⟩:=hc;rcases hf with⟨hon,hev⟩|⟨hoff,hd,hx,hw⟩
   ·rw[if_pos (won hon)];refine .inl ?_;have htj:∀t∈j.reads,s.t.getD t .dead=sc.t.getD t .dead:=fun t h=>ht t (by simp[RI.reads,h]);have evj:∀y,(∀t∈Kd y,t∈j.reads)→s.ev y=sc.ev y:=fun y hy=>ta (fun t h=>htj t (hy t h));have hev':ea s j=some (d,wr s.m wt++x)∧(∀id e,wt=some (id,e)→id<s.m.length):=by
     simp only[RI.cls]at hm;rcases hev with⟨rfl,hcls,hev⟩|⟨rfl,a1,id,e,htg,htop,rfl,hev,hlt,hsb⟩
     ·refine⟨?_,fun _ _ h=>by cases h⟩;simp only[wr];by_cases h2:j.cls=2
      ·obtain⟨e,he1,he2⟩:=jx (s:=sc) (s':=s) h2 htj (hm h2) hev;have:x=[e]:=List.append_cancel_left he1;rw[this];exact he2
      ·have h1:j.cls≤1:=by omega
       obtain⟨hxm,hres⟩:=Tl (s:=sc) (s':=s) h1 htj (fun y id hy hid=>by
        have hevy:s.ev y=sc.ev y:=evj y (fun t h=>by
         cases j<;>simp only[I.xU,reduceCtorEq,zaa]at hy<;>subst hy<;>simp[I.reads,h])
        refine hm1 id (by simp only[wj,hy];exact ND hid) (Nx hev hy hid) (aH hr (by rw[hevy];exact hid))) hev
       have:x=[]:=by
        have:=congrArg Nad hxm;simp at this;exact this
       rw[this,Naa];exact hres
     ·obtain⟨id',e',h1,h2,h3,h4⟩:=dC htg hsb hev;rw[htop]at h1;injection h1 with h1;subst h1;have hlt':id<s.m.length:=aH hr (x:=a1) (by rw[evj a1 (WI htg)];exact htop);have hee:e=e':=by
       have:=congrArg (fun m=>m[id]?) h2;simpa [fac,hlt] using this
      subst hee;refine⟨?_,fun id2 e2 h=>by injection h with h;injection h with h _;rw[←h];exact hlt'⟩;rw[Naa];refine h4 s htj (hm1 id (by simp only[wj,lH htg,htg];exact UH htop) h3 hlt') fun y hy id' hid'=>?_;have hey:s.ev y=sc.ev y:=evj y (by
       cases j<;>simp[I.src]at hy;subst hy;intro t h;simp[I.reads,h])
      by_cases hq:∃e,sc.m[id']?=some e
      ·exact hm1 id' (by simp only[wj,lH htg,htg,hy];exact xR (ND hid')) hq (aH hr (by rw[hey];exact hid'))
      ·exact absurd (LC hy hev hid') hq
    exact hr.Wm (Qs hj hr hev'.1) fun G' w' u hr' hs'=>hK G' w' _ hr' hs' hev'.2
   ·rw[if_neg (by rw[woff hoff];decide)];exact skip hd hx hw
end
def RI.ky(y:RI):Bool:=
 match y with
 |.op _ _ i=>decide (i.cls≤2) || i.bJ.isSome
 |.call ..=>true
section
variable {P:Program} {ops:Array Oper} {Q:Exit→Act→World→Prop} {K:St→Prop} {rl:List RI} {q:Nat} {ps:List (List Nat)}
end
def rI:Nat→Nat→Bool
 |0,0=>false
 |0,_+1=>true
 |_+1,0=>true
 |a+1,b+1=>rI a b
theorem lQ:∀{a b:Nat},rI a b=true→a≠b
 |0,0,h=>by simp[rI]at h
 |0,_+1,_=>by omega
 |_+1,0,_=>by omega
 |a+1,b+1,h=>by have:=lQ (a:=a) (b:=b) h;omega
def Xr(a:Nat):List Nat→Bool
 |[]=>true
 |b::l=>rI a b&&Xr a l
def gm:List Nat→List Nat→Bool
 |[],_=>true
 |a::l,r=>Xr a r&&gm l r
theorem IB{a b:Nat}:∀{l:List Nat},Xr a l=true→b∈l→a≠b
 |[],_,h=>by cases h
 |c::l,h,hm=>by
  simp only[Xr,paa]at h;rcases fab.1 hm with rfl|hm
  ·exact lQ h.1
  ·exact IB h.2 hm
theorem GB{a:Nat}:∀{l r:List Nat},gm l r=true→a∈l→a∉r
 |[],_,_,h=>by cases h
 |c::l,r,h,hm=>by
  simp only[gm,paa]at h;rcases fab.1 hm with rfl|hm
  ·exact fun hr=>IB h.1 hr rfl
  ·exact GB h.2 hm
def Yu(fp:List (List Nat)) (f:List Nat):List Nat→Bool
 |[]=>true
 |i::l=>gm (fp.getD i []) f&&Yu fp f l
theorem sy{fp:List (List Nat)}{f:List Nat}{k:Nat}:∀{l:List Nat},Yu fp f l=true→k∈l→gm (fp.getD k []) f=true
 |[],_,h=>by cases h
 |z::l,h,hm=>by
  simp only[Yu,paa]at h;rcases fab.1 hm with rfl|hm
  ·exact h.1
  ·exact sy h.2 hm
def Ur(P:Program):List (List Nat)→List (List Nat)→Nat→List RI→(St→Prop)→St→Prop
 |_,_,0,l,K,s=>Fh P l K s
 |_,_,_+1,[],_,_=>False
 |ps,fp,q+1,.op dst g i::l,K,s=>
  Yu fp (wj s (.op dst g i)) (ps.headD [])=true∧
  match gate s g with
  |none=>False
  |some none=>∃d m',De s i=true∧ea s i=some (d,m')∧Ur P ps.tail (fp++[wj s (.op dst g i)]) q l K ({ s with m:=m' }.put dst d)
  |some (some (c,b))=>(c=b→∃d m',De s i=true∧ea s i=some (d,m')∧Ur P ps.tail (fp++[wj s (.op dst g i)]) q l K ({ s with m:=m' }.put dst d))∧(c≠b→Ur P ps.tail (fp++[wj s (.op dst g i)]) q l K (s.put dst (.v undef)))
 |ps,fp,q+1,.call dst g f args::l,K,s=>
  match s.cv f with
  |.fn k first caps=>
   match gate s g with
   |none=>False
   |some none=>Yu fp (eb s args) (ps.headD [])=true∧∃d,((∀id∈eb s args,id<s.m.length)∧∀m,(∀id∈eb s args,m[id]?=s.m[id]?)→CallT P k (first++args.map s.ev++caps) m fun d' m'=>d'=d∧m'=m)∧Ur P ps.tail (fp++[eb s args]) q l K (s.put dst d)
   |some (some (c,b))=>Yu fp (eb s args) (ps.headD [])=true∧(c=b→∃d,((∀id∈eb s args,id<s.m.length)∧∀m,(∀id∈eb s args,m[id]?=s.m[id]?)→CallT P k (first++args.map s.ev++caps) m fun d' m'=>d'=d∧m'=m)∧Ur P ps.tail (fp++[eb s args]) q l K (s.put dst d))∧(c≠b→Ur P ps.tail (fp++[eb s args]) q l K (s.put dst (.v undef)))
  |_=>False
section
variable {P:Program} {K:St→Prop}
end
section
variable {P:Program} {N:Nat} {ops:Array Oper} {Q:Exit→Act→World→Prop} {K:St→Prop} {rl:List RI} {q:Nat} {ps:List (List Nat)}
end
end Go.Tm
namespace Go.Tm
open Go.RowKit (Below)
theorem Vw{G:Gh}{w:World}{m:List Ent}(hi:Inv G w m) {p S Ga:Nat}(hm:m[p]?=some (.live S Ga [])) (l:List D) (C:Nat) (cs:Array Value) (T:TypeId)
 (hr:mf G w S l cs) (hC:l.length≤C) (hcs:C*S≤cs.size) :
 Inv (G.Hd p (some w.heap.size) (Ga+1) l.length (C,0)) (w.alloc (.cells cs T)) (m.set p (.live S (Ga+1) l))∧
  Step G w m (G.Hd p (some w.heap.size) (Ga+1) l.length (C,0)) (w.alloc (.cells cs T)) (m.set p (.live S (Ga+1) l)):=by
 have hkeep:∀k,k<w.heap.size→(w.alloc (.cells cs T)).heap[k]?=w.heap[k]?:=fun k hk=>Below.heap_alloc _ _ _ hk;obtain⟨hV,hS,-⟩:=hi.ent p _ hm;refine Ke hi hm rfl rfl _ _ _ _ (.inl (by omega)) rfl rfl rfl (by simp) (fun k hk _=>hkeep k hk) (fun k h=>by injection h;omega) ?_;have hle:Le G w (G.Hd p (some w.heap.size) (Ga+1) l.length (C,0)) (w.alloc (.cells cs T)):=by
  refine⟨fun _ h=>h,fun k hk=>hkeep k (hi.F k hk),yaa _,fun i _=>?_⟩;by_cases h:i=p
  ·subst h;exact .inr (by simp only[Gh.Hd,if_pos];omega)
  ·exact .inl (by simp[Gh.Hd,h])
 have hblk:(w.alloc (.cells cs T)).heap[w.heap.size]?=some (.cells cs T (0,0)):=by
  show(w.heap.push (.cells cs T))[w.heap.size]?=_;rw[Array.getElem?_push,if_pos rfl]
 refine⟨by simp[Gh.Hd],by simpa [Gh.Hd] using hS,by simp[Gh.Hd],by simpa [Gh.Hd] using hC,.inr ⟨w.heap.size,cs,T,by simp[Gh.Hd],fun h=>?_,hblk,by simpa [Gh.Hd] using hcs,by simpa [Gh.Hd] using Rh hblk (hr.mono hle)⟩⟩;have:=hi.F _ h;omega
def Pj(s:St) (p:Nat):I→Option (D×Ent)
 |.alloc S z=>match s.m[p]? with
  |some (.live S' Ga [])=>if S'=S then some (.ref p (Ga+1) 0 0,.live S (Ga+1) [z])else none
  |_=>none
 |.box S x=>match s.m[p]? with
  |some (.live S' Ga [])=>if S'=S∧(s.ev x).ok=true∧(s.ev x).cells.length=S then some (.ref p (Ga+1) 0 0,.live S (Ga+1) [s.ev x])else none
  |_=>none
 |.bslice S n z ps=>match s.m[p]? with
  |some (.live S' Ga [])=>if S'=S then(wb s S ps (maa n z)).map fun l=>(.own p (Ga+1),.live S (Ga+1) l)else none
  |_=>none
 |_=>none
section
variable {P:Program} {G:Gh} {w:World} {a:Act} {s:St} {d:D} {e:Ent} {p:Nat}
theorem TE{w':World}{C Ga b N:Nat}(hp:p<G.n):VRel (G.Hd p (some b) (Ga+1) N (C,0)) w' (.ref p (Ga+1) 0 0) (.pointer (some ⟨b,0,none⟩)):=by
 simp only[VRel];exact⟨_,rfl,by simpa [Gh.Hd] using hp,by simp[Gh.Hd],fun _=>⟨b,by simp[Gh.Hd],by simp[Gh.Hd]⟩⟩
theorem IM{w':World}{C Ga b N:Nat}(hp:p<G.n):VRel (G.Hd p (some b) (Ga+1) N (C,0)) w' (.own p (Ga+1)) (.slice (some ⟨b,0,none⟩) N C):=by
 simp only[VRel];exact⟨_,_,_,rfl,by simpa [Gh.Hd] using hp,by simp[Gh.Hd],fun _=>⟨by simp[Gh.Hd],by simp[Gh.Hd],by simp[Gh.Hd]⟩⟩
theorem tM{m:List Ent}{x:Ent}(h:m[p]?=some x):p<m.length:=(Caa.1 h).1
theorem JS(hr:Rel G w a s) {t:TypeId}{z:Value}{o:Oper}(ho:o.op=.alloc t) (hz:zeroOf P t=some z) (he:Pj s p (.alloc z.cells.size (leaf z))=some (d,e)) :
 Good G w s.m ((execOp a.eval o).run P w) d (s.m.set p e):=by
 simp only[Pj]at he;split at he
 ·rename_i S' Ga hm;split at he
  ·rename_i hS;subst hS;injection he with he;injection he with h1 h2;subst h1;subst h2;obtain⟨hz1,hz2,hz3,-⟩:=Zi hz w;obtain⟨g1,g2⟩:=Vw hr.inv hm [leaf z] 1 z.cells t (Qt (dq z hz2) rfl (Ky hz2)) (by simp) (by simp);refine⟨_,_,_,?_,.inl ⟨_,rfl,TE (C:=1) (N:=1) (by rw[hr.inv.n];exact tM hm)⟩,g1,g2⟩;unfold execOp;simp only[ho];simp[Instr.alloc,hz1,newVar,newRow]
  ·cases he
 ·cases he
theorem T3(hr:Rel G w a s) {t:TypeId}{x:Operand}{S:Nat}{o:Oper}(ho:o.op=.box t x) (he:Pj s p (.box S x)=some (d,e)) :
 Good G w s.m ((execOp a.eval o).run P w) d (s.m.set p e):=by
 simp only[Pj]at he;split at he
 ·rename_i S' Ga hm;split at he
  ·rename_i hc;obtain⟨rfl,hok,hlen⟩:=hc;injection he with he;injection he with h1 h2;subst h1;subst h2;have hx:=hr.ev x;obtain⟨hv,h1⟩:=hx.cells hok;have hsz:(a.eval x).cells.size=S':=by rw[←oab,hv.length];exact hlen
   obtain⟨g1,g2⟩:=Vw hr.inv hm [s.ev x] 1 (a.eval x).cells t (Qt hx hsz (fun j c hj=>h1 c (by rw[←aab]at hj;exact kab hj))) (by simp) (by simp[hsz]);refine⟨_,_,_,?_,.inl ⟨_,rfl,TE (C:=1) (N:=1) (by rw[hr.inv.n];exact tM hm)⟩,g1,g2⟩;unfold execOp;simp only[ho];simp[Instr.box,newVar,newRow]
  ·cases he
 ·cases he
theorem WN(hr:Rel G w a s) {t e':TypeId}{n:Nat}{ps:Array (Nat×Operand)}{z:Value}{o:Oper}(ho:o.op=.buildSlice t n ps)
 (ht:P.underlying t=some (.slice e')) (hz:zeroOf P e'=some z) (hsmall:n*z.cells.size≤2 ^ 24) (he:Pj s p (.bslice z.cells.size n (leaf z) ps.toList)=some (d,e)) :
 Good G w s.m ((execOp a.eval o).run P w) d (s.m.set p e):=by
 simp only[Pj]at he;split at he
 ·rename_i S' Ga hm;split at he
  ·rename_i hS;subst hS;simp only[laa,Aaa]at he;obtain⟨l,hb,rfl,rfl⟩:=he;obtain⟨hz1,hz2,hz3,i,hi,hsz,hzz⟩:=Zi hz w;obtain⟨cells,hf,hrow,hcs,hlen⟩:=vD hr hb (sn hz2 n) (by simp);simp only[List.length_replicate]at hlen;obtain⟨g1,g2⟩:=Vw hr.inv hm l n cells e' hrow (by omega) (by rw[hcs,hlen];exact yaa _);refine⟨_,_,_,?_,.inl ⟨_,rfl,IM (N:=l.length) (C:=n) (by rw[hr.inv.n];exact tM hm)⟩,g1,g2⟩;unfold execOp;simp only[ho];have hnb:¬(2 ^ 24<n*i.size):=by rw[hsz];omega
   by_cases h0:n*i.size=0
   ·have hn0:n=0:=by
     rcases Nat.mul_eq_zero.1 h0 with h|h
     ·exact h
     ·omega
    subst hn0;rw[hsz.symm]at hf;rw[Nat.zero_mul,show fae 0 = #[]from rfl,Array.map_empty]at hf;have hf':Instr.fill (fun k=>some (k*i.size,i.size)) #[] (ps.toList.map fun p=>(p.1,a.eval p.2))=some cells:=hf;have hr0:∀f:Nat→Value,Array.map f (fae 0) = #[]:=fun f=>by apply Array.ext';simp
    simp[Instr.buildSlice,run_underlying ht,Rc hi,hr0,hf',newRow,hlen]
   ·rw[hsz.symm]at hf;simp[Instr.buildSlice,run_underlying ht,Rc hi,hnb,h0,hz1,hf,newRow,hlen,hsz.symm]
  ·cases he
 ·cases he
theorem GH{ops:Array Oper}{o:Oper}{i:I}(hc:Jm P ops o o.op=some i) (hr:Rel G w a s) (he:Pj s p i=some (d,e)):Good G w s.m ((execOp a.eval o).run P w) d (s.m.set p e):=by
 cases i with
 |alloc S z=>
  obtain⟨t,z',ho,hz,rfl,rfl⟩:∃t z',o.op=.alloc t∧zeroOf P t=some z'∧z'.cells.size=S∧leaf z'=z:=by
   unfold Jm at hc;split at hc
   ·rename_i i' hi';injection hc with hc;subst hc;unfold It at hi'
    repeat' split at hi'
    all_goals first|cases hi'|(simp only[laa]at hi';obtain⟨_,_,h⟩:=hi';cases h)
   ·unfold Fx at hc
    repeat' split at hc
    all_goals first
     |cases hc
     |(
      simp only[laa]at hc;obtain⟨z',hz,h⟩:=hc
      first|cases h|skip)
    all_goals first
     |(rename_i t ho;exact⟨_,_,ho,hz,rfl,rfl⟩)
  exact JS hr ho hz he
 |box S x=>
  obtain⟨t,ho⟩:∃t,o.op=.box t x:=by
   unfold Jm at hc;split at hc
   ·rename_i i' hi';injection hc with hc;subst hc;unfold It at hi'
    repeat' split at hi'
    all_goals first|cases hi'|(simp only[laa]at hi';obtain⟨_,_,h⟩:=hi';cases h)
   ·unfold Fx at hc
    repeat' split at hc
    all_goals first
     |(injection hc with hc;injection hc with h1 h2;subst h2;rename_i t x' ho;exact⟨_,ho⟩)
     |cases hc
     |(
      simp only[laa]at hc;obtain⟨z',hz,h⟩:=hc;cases h)
  exact T3 hr ho he
 |bslice S n z ps=>
  obtain⟨t,e',ps',z',ho,ht,hz,hsmall,rfl,rfl,rfl⟩:∃t e' ps' z',o.op=.buildSlice t n ps'∧P.underlying t=some (.slice e')∧zeroOf P e'=some z'∧n*z'.cells.size≤2 ^ 24∧z'.cells.size=S∧leaf z'=z∧ps'.toList=ps:=by
   unfold Jm at hc;split at hc
   ·rename_i i' hi';injection hc with hc;subst hc;unfold It at hi'
    repeat' split at hi'
    all_goals first|cases hi'|(simp only[laa]at hi';obtain⟨_,_,h⟩:=hi';cases h)
   ·unfold Fx at hc
    repeat' split at hc
    all_goals first
     |(cases hc;exact⟨_,_,_,_,by assumption,by assumption,by assumption,by assumption,rfl,rfl,rfl⟩)
     |cases hc
     |(
      simp only[laa]at hc;obtain⟨z',hz,h⟩:=hc;cases h)
  exact WN hr ho ht hz hsmall he
 |_=>simp[Pj]at he
end
end Go.Tm
namespace Go.Tm
theorem jE{s s':St}{p:Nat}{i:I}(ht:∀t∈i.reads,s'.t.getD t .dead=s.t.getD t .dead) (hm:s'.m[p]?=s.m[p]?):Pj s' p i=Pj s p i:=by
 cases i with
 |alloc S z=>simp only[Pj,hm]
 |box S x=>
  have:s'.ev x=s.ev x:=ta (fun t h=>ht t (by simpa [I.reads] using h));simp only[Pj,hm,this]
 |bslice S n z ps=>
  have:∀l,wb s' S ps l=wb s S ps l:=fun l=>gn (fun t h=>ht t (by simpa [I.reads] using h));simp only[Pj,hm,this]
 |_=>rfl
theorem ME{s:St}{p:Nat}{i:I}{d:D}{e:Ent}(h:Pj s p i=some (d,e)):p<s.m.length:=by
 rcases Taa p s.m.length with h1|h1
 ·exact h1
 ·have hn:=Saa h1;cases i<;>simp[Pj,hn]at h
def Ms:Option Nat→St→RI→List Nat
 |some p,_,.op ..=>[p]
 |some _,s,.call _ _ _ args=>eb s args
 |none,s,r=>wj s r
def Mj(P:Program) (o:Option Nat) (r:RI) (s:St) (d:D) (x:List Ent) (w:Option (Nat×Ent)):Prop:=
 match o with
 |none=>oq P r s d x w
 |some p=>(∃dst i e,r=.op dst none i∧x=[]∧w=some (p,e)∧Pj s p i=some (d,e))∨
  (∃dst f args k first caps e,r=.call dst none f args∧x=[]∧w=some (p,e)∧s.cv f=.fn k first caps∧p∈eb s args∧(∀id∈eb s args,id<s.m.length)∧
   ∀m,(∀id∈eb s args,m[id]?=s.m[id]?)→CallT P k (first++args.map s.ev++caps) m fun d' m'=>d'=d∧m'=m.set p e)
def pO(pl:List (Option Nat)) (i:Nat):Option Nat:=pl.getD i none
theorem OH{pl:List (Option Nat)}{k:Nat}:(pl.drop k).headD none=pO pl k:=by
 unfold pO
 induction k generalizing pl with
 |zero=>cases pl<;>rfl
 |succ k ih=>cases pl with|nil=>rfl|cons a l=>exact ih (pl:=l)
theorem tail_drop{pl:List (Option Nat)}{k:Nat}:(pl.drop k).tail=pl.drop (k+1):=by simp
theorem aV{xx:Nat→List Ent}{L:Nat→Bool}(m:List Ent):∀n,m.length≤(mS xx L m n).length
 |0=>yaa _
 |n+1=>by
  have:=aV (xx:=xx) (L:=L) m n;simp only[mS];split
  ·rw[Haa];omega
  ·exact this
def Ys(P:Program):List (Option Nat)→List RI→St→Os→List (List Nat)→St→Prop
 |_,[],s,os,rs,s'=>os=[]∧rs=[]∧s'=s
 |pl,r::l,s,os,rs,s'=>∃d x w os' rs',os=(d,x,w)::os'∧rs=Ms (pl.headD none) s r::rs'∧Mj P (pl.headD none) r s d x w∧Ys P pl.tail l (ki s r d x w) os' rs' s'
section
variable {P:Program}
theorem Ys.length:∀{l:List RI}{pl:List (Option Nat)}{s s':St}{os:Os}{rs:List (List Nat)},Ys P pl l s os rs s'→os.length=l.length
 |[],pl,s,s',os,rs,h=>by simp[h.1]
 |r::l,pl,s,s',os,rs,h=>by
  obtain⟨d,x,w,os',rs',rfl,rfl,_,h⟩:=h;simp[Ys.length h]
theorem Mj.lt{o:Option Nat}{r:RI}{s:St}{d:D}{x:List Ent}{w:Option (Nat×Ent)}(h:Mj P o r s d x w) {id:Nat}{e:Ent}(hw:w=some (id,e)):id<s.m.length∧x=[]∧id∈Ms o s r:=by
 cases o with
 |none=>exact oq.lt h hw
 |some p=>
  rcases h with⟨dst,i,e',rfl,hx,hw',hf⟩|⟨dst,f,args,k,first,caps,e',rfl,hx,hw',hf,hp,hl,_⟩
  ·rw[hw']at hw;injection hw with hw;injection hw with h1 h2;subst h1;exact⟨ME hf,hx,by simp[Ms]⟩
  ·rw[hw']at hw;injection hw with hw;injection hw with h1 h2;subst h1;exact⟨hl _ hp,hx,hp⟩
theorem Ys.get{pl:List (Option Nat)}{rl:List RI}{os:Os}{s0:St}:∀{l:List RI}{k:Nat}{s':St}{os':Os}{rs:List (List Nat)},l=(rl.drop k).take l.length→os'=(os.drop k).take os'.length→
 (∀j,j<k→∀id e,rG os j=some (id,e)→id<(mS (pA os) (fun _=>true) s0.m k).length)→Ys P (pl.drop k) l (nj rl os s0 (fun _=>true) k) os' rs s'→
 (∀i,i<l.length→Mj P (pO pl (k+i)) (rl.getD (k+i) DI) (nj rl os s0 (fun _=>true) (k+i)) (zY os (k+i)) (pA os (k+i)) (rG os (k+i))∧rs.getD i []=Ms (pO pl (k+i)) (nj rl os s0 (fun _=>true) (k+i)) (rl.getD (k+i) DI))∧s'=nj rl os s0 (fun _=>true) (k+l.length)
 |[],k,s',os',rs,_,_,_,h=>⟨fun i hi=>by simp at hi,by simpa using h.2.2⟩
 |r::l,k,s',os',rs,h1,h2,hv,h=>by
  obtain⟨d,x,w,os'',rs',rfl,rfl,hs,h⟩:=h;rw[OH]at hs;rw[tail_drop]at h;have hr:rl[k]?=some r:=by
   have:=congrArg (fun l=>l[0]?) h1;simpa [Zab,qac] using this.symm
  have ho:os[k]?=some (d,x,w):=by
   have:=congrArg (fun l=>l[0]?) h2;simpa [Zab,qac] using this.symm
  have hr':rl.getD k DI=r:=by rw[uaa,hr];rfl
  have ho':os.getD k r8=(d,x,w):=by rw[uaa,ho];rfl
  have hd:zY os k=d:=by unfold zY;rw[ho']
  have hx:pA os k=x:=by unfold pA;rw[ho']
  have hw:rG os k=w:=by unfold rG;rw[ho']
  have hds:TC rl k=r.dst:=by unfold TC;rw[hr']
  have hm1:mS (pA os) (fun _=>true) s0.m (k+1)=mS (pA os) (fun _=>true) s0.m k++x:=by simp[mS,hx]
  have hnext:ki (nj rl os s0 (fun _=>true) k) r d x w=nj rl os s0 (fun _=>true) (k+1):=by
   rw[vz];simp only[nj,tS,if_true,St.mk.injEq];refine⟨by rw[hds,hd];first|done|(cases r.dst<;>rfl),?_⟩;rw[hm1];simp only[sS,if_true,hw];rw[nG _ _ _ fun j hj _ id e he=>hv j hj id e he]
   cases w with
   |none=>rfl
   |some p=>
    obtain⟨id,e⟩:=p;obtain⟨_,hx0,_⟩:=hs.lt rfl;subst hx0;simp[wr]
  have hv':∀j,j<k+1→∀id e,rG os j=some (id,e)→id<(mS (pA os) (fun _=>true) s0.m (k+1)).length:=by
   intro j hj id e he;rw[hm1,Haa];by_cases hjk:j=k
   ·subst hjk;rw[hw]at he;have:=(hs.lt he).1;simp only[nj,Kk]at this;omega
   ·have:=hv j (by omega) id e he;omega
  rw[hnext]at h;have t1:l=(rl.drop (k+1)).take l.length:=by
   have hk:k<rl.length:=(Caa.1 hr).1;rw[nab hk,Daa,lab]at h1;exact(uad h1).2
  have t2:os''=(os.drop (k+1)).take os''.length:=by
   have hk:k<os.length:=(Caa.1 ho).1;rw[nab hk,Daa,lab]at h2;exact(uad h2).2
  obtain⟨g1,g2⟩:=Ys.get t1 t2 hv' h;refine⟨fun i hi=>?_,by rw[g2];simp[Yac,Eab 1]⟩
  cases i with
  |zero=>simp only[Jab,hr',hd,hx,hw];exact⟨hs,by rw[pab,OH]⟩
  |succ i=>
   have:=g1 i (by simpa using hi);rw[show k+1+i=k+(i+1) by omega]at this;exact this
theorem JR{ops:Array Oper}{o:Oper}{r:RI}(hc:Sk P ops o=some r) {sc s:St}{d:D}{x:List Ent}{wt:Option (Nat×Ent)}{po:Option Nat}(hf:Mj P po r sc d x wt) (ht:∀t∈r.reads,s.t.getD t .dead=sc.t.getD t .dead)
 (hm:po=none→r.cls=2→s.m.length=sc.m.length) (hm1:∀(id:Nat),id∈Ms po sc r→(∃e,sc.m[id]?=some e)→id<s.m.length→s.m[id]?=sc.m[id]?) (hlen:∀p,po=some p→p<s.m.length)
 {G:Gh} {w:World} {a:Act} (hr:Rel G w a s) {i:Nat} (hi:ops[i]?=some o) {Q:Exit→Act→World→Prop} {K:Act→World→Prop}
 (hK:∀G' w' a',Rel G' w' a' (ki s r d x wt)→Step G w s.m G' w' (wr s.m wt++x)→(∀id e,wt=some (id,e)→id<s.m.length)→K a' w'):wpOp P ops Q i K a w:=by
 cases po with
 |none=>exact cR hc hf ht (hm rfl) hm1 hr hi hK
 |some p=>
  rcases hf with⟨dst,j,e,rfl,rfl,rfl,hfill⟩|⟨dst,f,args,k,first,caps,e,rfl,rfl,rfl,hfe,hpt,hids,hcall⟩
  rotate_left
  ·have hdst:=Zq hc;have hp:=hlen p rfl;unfold wpOp;simp only[hi];unfold Sk at hc;split at hc
   ·cases hc
   ·rename_i g hg;split at hc
    ·rename_i f' args' ho;injection hc with hc;injection hc with h1 h2 h3 h4;subst h2;subst h3;subst h4;obtain⟨hgate1,hgate2⟩:=Wj hr hg;rw[if_pos (hgate1 rfl o rfl)];refine .inl ?_;have hfe':s.cv f'=.fn k first caps:=by rw[Wz (s:=sc) (s':=s) (f:=f') (fun t h=>ht t (by simp[RI.reads,h]))];exact hfe
     have hargs:args'.map s.ev=args'.map sc.ev:=map_congr (fun t h=>ht t (by simp[RI.reads];simp at h;exact .inr (.inr h)));obtain⟨⟨fn,e1,e2,e3⟩,hcc⟩:=hcall s.m fun id hid=>by
      refine hm1 id hid ⟨_,iaa (hids id hid)⟩ ?_;rw[Jw,←hargs]at hid;rw[←hr.inv.n];exact Xo (Cs hr _) hid
     obtain⟨fs,cs,hrun,hv1,hv2⟩:=Ts hr ho (rL hfe') e1 e2 e3;rw[←hargs]at hcc;have hcalls:=hcc G w (fs++args'.map a.eval++cs) ((hv1.append (Cs hr _)).append hv2) hr.inv;unfold Oper.wp;rw[hrun,Oper.upon_enter];refine hcalls.mono ?_;rintro e0 w' ⟨v,d',m',G',rfl,⟨rfl,rfl⟩,hvd,hi',hs'⟩;refine hK G' w' _ ?_ (by simpa [wr] using hs') (fun id e' h=>by injection h with h;injection h with h _;rw[←h];exact hp);unfold ki;rw[Naa];rw[hdst];exact(hr.step hs'.le hi').put o.dst hvd
    ·rename_i hno;simp only[laa]at hc;obtain⟨j',hj,h⟩:=hc;cases h
  have hdst:=Zq hc;have hp:=hlen p rfl;have hat:=ME hfill;have hfill':Pj s p j=some (d,e):=by
   rw[jE (s:=sc) (fun t h=>ht t (by simp[RI.reads,h])) (hm1 p (by simp[Ms]) ⟨_,iaa hat⟩ hp)];exact hfill
  unfold wpOp;simp only[hi];unfold Sk at hc;split at hc
  ·cases hc
  ·rename_i g hg;split at hc
   ·rename_i f args ho;injection hc with hc;cases hc
   ·rename_i hno;simp only[laa]at hc;obtain⟨j',hj,h⟩:=hc;injection h with h1 h2 h3;subst h2;subst h3;obtain⟨hgate1,hgate2⟩:=Wj hr hg;rw[if_pos (hgate1 rfl o rfl)];refine .inl ?_;exact hr.Wm (GH hj hr hfill') fun G' w' u hr' hs'=>hK G' w' _ (by unfold ki;rw[hdst];simpa [wr] using hr') (by simpa [wr] using hs') (fun id e' h=>by injection h with h;injection h with h _;rw[←h];exact hp)
end
def wB(o:Option Nat):RI→Bool
 |.op _ _ i=>o.isSome || i.bJ.isSome
 |.call ..=>o.isSome
def lB(o:Option Nat):RI→Bool
 |.op _ _ i=>o.isSome || i.bJ.isSome || i.xU.isSome
 |.call ..=>true
def mq(o o':Option Nat) (x y:RI):Bool:=(wB o x&&lB o' y) || (wB o' y&&lB o x)
def Rk(o o':Option Nat) (x y:RI):Bool:=
 (
  match x.dst with
  |some t=>y.reads.contains t || y.dst==some t
  |none=>false) ||
 (
  match y.dst with
  |some t=>x.reads.contains t
  |none=>false) ||
 (o.isNone&&o'.isNone&&x.cls==2&&y.cls==2)
def rp(bs:List (List Nat)) (rl:List RI) (q:Nat) (ps:List (List Nat)) (pl:List (Option Nat)):Bool:=
 let ms:=Jr bs
 (waa q).all fun j=>match rl[j]? with
  |none=>false
  |some y=>((pO pl j).isSome || y.ky)&&(waa j).all fun i=>match rl[i]? with
   |none=>false
   |some x=>(ms.getD j 0).testBit i || (!Rk (pO pl i) (pO pl j) x y&&(!mq (pO pl i) (pO pl j) x y || (ps.getD j []).contains i))
structure DrawFactsO (bs:List (List Nat)) (rl:List RI) (q:Nat) (ps:List (List Nat)) (pl:List (Option Nat)):Prop extends TailFacts bs rl q where
 ky:∀(j:Nat) y,j<q→rl[j]?=some y→((pO pl j).isSome || y.ky)=true
 apart:∀(i j:Nat) x y,i<j→j<q→rl[i]?=some x→rl[j]?=some y→Rk (pO pl i) (pO pl j) x y=true→((Jr bs).getD j 0).testBit i=true
 pairs:∀(i j:Nat) x y,i<j→j<q→rl[i]?=some x→rl[j]?=some y→mq (pO pl i) (pO pl j) x y=true→((Jr bs).getD j 0).testBit i=true∨i∈ps.getD j []
theorem aB{bs:List (List Nat)}{rl:List RI}{q:Nat}{ps:List (List Nat)}{pl:List (Option Nat)}(ht:TailFacts bs rl q) (h:rp bs rl q ps pl=true):DrawFactsO bs rl q ps pl:=by
 unfold rp at h;simp only[Raa,Nab]at h;refine⟨ht,?_,?_,?_⟩
 ·intro j y hj hy;have:=h j hj;rw[hy]at this;simp only[paa]at this;exact this.1
 ·intro i j x y hij hj hx hy hc;have:=h j hj;rw[hy]at this;simp only[paa,Raa,Nab]at this;have:=this.2 i hij;rw[hx]at this;simpa [hc] using this
 ·intro i j x y hij hj hx hy hc;have:=h j hj;rw[hy]at this;simp only[paa,Raa,Nab]at this;have:=this.2 i hij;rw[hx]at this;simp only[hc,xab,paa,Bool.not_true,naa,false_or,List.contains_iff_mem]at this;rcases this with h1|h1
  ·exact .inl h1
  ·exact .inr h1.2
section
variable {P:Program} {ops:Array Oper} {Q:Exit→Act→World→Prop} {K:St→Prop} {rl:List RI} {q:Nat} {ps:List (List Nat)} {pl:List (Option Nat)}
theorem ZB{o o':Option Nat}{s:St}{x y:RI}{id:Nat}(hx:id∈Ms o s x) (hy:wB o' y=true):mq o o' x y=true:=by
 have h:lB o x=true:=by
  cases o with
  |some p=>cases x<;>simp[lB]
  |none=>
   cases x with
   |call=>rfl
   |op d g i=>
    simp only[Ms,wj]at hx;simp only[lB,xab];split at hx
    ·rename_i z hz;right;rw[hz];rfl
    ·split at hx
     ·rename_i z hz;left;right;rw[hz];rfl
     ·simp at hx
 simp[mq,hy,h]
theorem jG{o o':Option Nat}{x y:RI}:mq o o' x y=mq o' o y x:=by simp[mq,Bool.or_comm]
theorem Mj.wB{o:Option Nat}{r:RI}{s:St}{d:D}{x:List Ent}{p:Nat×Ent}(h:Mj P o r s d x (some p)):Go.Tm.wB o r=true:=by
 cases o with
 |some p=>cases r<;>rfl
 |none=>
  cases r with
  |call=>obtain⟨_,h,_⟩:=h;cases h
  |op d g i=>
   rcases h with⟨_,⟨h,_⟩|⟨_,a,_,_,h,_⟩⟩|⟨_,_,_,h⟩
   ·cases h
   ·simp[Go.Tm.wB,h]
   ·cases h
theorem gG(hc:pf P ops ops.toList=some rl) (hf:DrawFactsO (Ta ops) rl q ps pl) {os:Os}{s0:St}
 (hflo:∀i,i<q→Mj P (pO pl i) (rl.getD i DI) (nj rl os s0 (fun _=>true) i) (zY os i) (pA os i) (rG os i))
 (hpl:∀i p,pO pl i=some p→p<s0.m.length)
 (hmake:∀i,i<q→pA os i≠[]→(rl.getD i DI).cls=2∧pO pl i=none)
 (hap:∀i j,i<j→j<q→i∈ps.getD j []→∀id,id∈Ms (pO pl i) (nj rl os s0 (fun _=>true) i) (rl.getD i DI)→id∉Ms (pO pl j) (nj rl os s0 (fun _=>true) j) (rl.getD j DI))
 (hT:Fh P (rl.drop q) K (nj rl os s0 (fun _=>true) q)) :
 ∀(fuel:Nat) (listed:Array Bool) (G:Gh) (w:World) (a:Act),((waa ops.size).filter fun j=>!Ib listed j).length≤fuel→listed.size=ops.size→Closed (Ta ops) (Ib listed)→
  (∀j,q≤j→Ib listed j=false)→Rel G w a (nj rl os s0 (Ib listed) q)→(∀j,j<q→Ib listed j=true→∀id e,rG os j=some (id,e)→id<(mS (pA os) (Ib listed) s0.m q).length)→
  (∀s' G' w' a',K s'→Rel G' w' a' s'→Step G w (nj rl os s0 (Ib listed) q).m G' w' s'.m→Q .normal a' w')→wpAny P .any ops Q fuel listed a w:=by
 obtain⟨hlen,hget⟩:=yp hc;simp only[oab]at hlen;have hq:=hf.hq;have hcongr:∀{L L':Nat→Bool},(∀j,j<q→L j=L' j)→nj rl os s0 L q=nj rl os s0 L' q:=by
  intro L L' h;have hs:∀(m:List Ent) n,n≤q→sS (rG os) L m n=sS (rG os) L' m n:=by
   intro m n
   induction n with
   |zero=>intro _;rfl
   |succ n ih=>intro hn;simp only[sS,h n (by omega),ih (by omega)]
  simp only[nj,St.mk.injEq];exact⟨fA _ _ fun j hj=>h j hj,by rw[Ry _ _ fun j hj=>h j hj,hs _ _ (yaa _)]⟩
 intro fuel
 induction fuel with
 |zero=>
  intro listed G w a hcard hsz hcl htail hrel hV hQ;have hall:∀i,i<ops.size→Ib listed i=true:=by
   intro i hi;rcases hb:Ib listed i with _|_
   ·exfalso;have:i∈(waa ops.size).filter fun j=>!Ib listed j:=by simp[hi,hb]
    rw[Eaa (uaf.1 hcard)]at this;cases this
   ·rfl
  have hqn:q=ops.size:=by
   rcases Taa q ops.size with h|h
   ·have:=hall q h;rw[htail q (yaa _)]at this;cases this
   ·omega
  have hst:nj rl os s0 (Ib listed) q=nj rl os s0 (fun _=>true) q:=hcongr fun j hj=>hall j (by omega);refine Dt hc hf.toTailFacts 0 q 0 listed _ G w a (by omega) (yaa _) (yaa _) (by omega) hsz (fun i=>?_) hT (by rw[←hst];exact hrel) (by rw[←hst];exact hQ);rcases Taa i q with h|h
  ·rw[hall i (by omega)];simp[h]
  ·rw[htail i h];simp;omega
 |succ fuel ih=>
  intro listed G w a hcard hsz hcl htail hrel hV hQ;by_cases hdone:∀j,j<q→Ib listed j=true
  ·have hst:nj rl os s0 (Ib listed) q=nj rl os s0 (fun _=>true) q:=hcongr fun j hj=>hdone j hj;have hL:∀i,Ib listed i=decide (i<q):=fun i=>by
    rcases Taa i q with h|h
    ·rw[hdone i h];simp[h]
    ·rw[htail i h];simp;omega
   have hcnt:=count_tail q ops.size;simp only[hL]at hcard;exact Dt hc hf.toTailFacts (ops.size-q) q (fuel+1) listed _ G w a rfl (by omega) (yaa _) (by omega) hsz hL hT (by rw[←hst];exact hrel) (by rw[←hst];exact hQ)
  ·refine⟨fun hno=>(hdone fun j hj=>Bs hf.toTailFacts hsz hno j (by omega)).elim,fun i hi=>?_⟩;obtain⟨h1,h2,h3,h4,h5⟩:=Bp hf.toTailFacts hsz hcl hi;have hiq:i<q:=by
    rcases Taa i q with h|h
    ·exact h
    ·exact(hdone fun j hj=>h3 j (by omega) (hf.tail j i (by omega) h (by omega))).elim
   have hgd:∀j,j<q→rl[j]?=some (rl.getD j DI):=fun j hj=>getD_some (by omega) _;obtain⟨r,hr,hco⟩:=hget i ops[i] (by rw[aab];exact Vaa h1);have hrr:rl.getD i DI=r:=by have:=hgd i hiq;rw[hr]at this;injection this with this;exact this.symm
   have early:∀j x,j<i→rl[j]?=some x→Rk (pO pl j) (pO pl i) x r=true→Ib listed j=true:=fun j x hj hx hcl'=>h3 j (by omega) (hf.apart j i x r hj hiq hx hr hcl');have late:∀j y,i<j→j<q→rl[j]?=some y→Rk (pO pl i) (pO pl j) r y=true→Ib listed j=false:=by
    intro j y hj hjq hy hcl';rcases hb:Ib listed j with _|_
    ·rfl
    ·have:=Eo hcl hb (hf.apart i j r y hj hjq hr hy hcl');rw[h2]at this;cases this
   have hF:=hflo i hiq;rw[hrr]at hF;have hclash2:∀(k l:Nat) (x y:RI),(x.cls=2∧pO pl k=none)→(y.cls=2∧pO pl l=none)→Rk (pO pl k) (pO pl l) x y=true:=fun k l x y hx hy=>by simp[Rk,hx.1,hx.2,hy.1,hy.2]
   have ordered:∀j,j<q→∀id e,rG os j=some (id,e)→id∈Ms (pO pl i) (nj rl os s0 (fun _=>true) i) r→(Ib listed j=true↔j<i):=by
    intro j hj id e hw hrid;have hFj:=hflo j hj;have hlt:=hFj.lt hw;have hst:Go.Tm.wB (pO pl j) (rl.getD j DI)=true:=by rw[hw]at hFj;exact hFj.wB
    rcases Nat.lt_trichotomy j i with hji|hji|hji
    ·refine⟨fun _=>hji,fun _=>?_⟩;have hcf:mq (pO pl j) (pO pl i) (rl.getD j DI) r=true:=by rw[jG];exact ZB hrid hst
     rcases hf.pairs j i _ r hji hiq (hgd j hj) hr hcf with h|h
     ·exact h3 j (by omega) h
     ·exact(hap j i hji hiq h id hlt.2.2 (by rw[hrr];exact hrid)).elim
    ·subst hji;rw[h2];simp
    ·refine⟨fun hL=>?_,fun h=>by omega⟩;have hcf:mq (pO pl i) (pO pl j) r (rl.getD j DI)=true:=ZB hrid hst;rcases hf.pairs i j r _ hji hj hr (hgd j hj) hcf with h|h
     ·have:=Eo hcl hL h;rw[h2]at this;cases this
     ·exact(hap i j hji hj h id (by rw[hrr];exact hrid) hlt.2.2).elim
   refine JR hco hF (s:=nj rl os s0 (Ib listed) q) ?_ ?_ ?_ ?_ hrel (Vaa h1) ?_
   ·intro y hy;refine yF s0.t (by omega) fun j hj hd=>?_;have hxj:=hgd j hj;constructor
    ·intro hLj;rcases Taa j i with h|h
     ·exact h
     ·exfalso;rcases vad h with h|h
      ·rw[←h,h2]at hLj;cases hLj
      ·have:=late j _ h hj hxj (by
        simp only[TC]at hd;simp only[Rk,hd,xab];refine .inl (.inr ?_);simpa using hy)
       rw[this]at hLj;cases hLj
    ·intro hji;exact early j _ hji hxj (by
      simp only[TC]at hd;simp only[Rk,hd,xab];refine .inl (.inl (.inl ?_));simpa using hy)
   ·intro hpo hcls;simp only[nj,Kk];refine congrArg Nad (OF s0.m (Nat.le_of_lt hiq) fun j hj hx=>?_);have hxj:=hgd j hj;have hcj:=hmake j hj hx;constructor
    ·intro hLj;rcases Taa j i with h|h
     ·exact h
     ·exfalso;rcases vad h with h|h
      ·rw[←h,h2]at hLj;cases hLj
      ·have:=late j _ h hj hxj (hclash2 _ _ _ _ ⟨hcls,hpo⟩ hcj);rw[this]at hLj;cases hLj
    ·intro hji;exact early j _ hji hxj (hclash2 _ _ _ _ hcj ⟨hcls,hpo⟩)
   ·rintro id hrid ⟨e,he⟩ hid;obtain⟨k,hk,hmk'⟩:=tw (xx:=pA os) (L:=Ib listed) s0.m q fun i1 j1 hij hj hx1 hx2 hL1=>
     Eo hcl hL1 (hf.apart i1 j1 _ _ hij hj (hgd i1 (by omega)) (hgd j1 hj) (hclash2 _ _ _ _ (hmake i1 (by omega) hx1) (hmake j1 hj hx2)))
    simp only[nj,Kk]at he hid⊢;have hlt:id<(mS (pA os) (fun _=>true) s0.m i).length:=by
     have:=(Caa.1 he).1;rwa [Kk]at this
    rw[iz _ _ _ hid,iz _ _ _ hlt,mH (by omega) fun j hj e hw=>ordered j hj id e hw hrid];have hbase:(mS (pA os) (Ib listed) s0.m q)[id]?=(mS (pA os) (fun _=>true) s0.m i)[id]?:=by
     rw[hmk']at hid⊢;rcases qaf i k with h|h
     ·obtain⟨rr,hrr'⟩:=Oy (xx:=pA os) s0.m h;rw[hrr',Iaa hlt]
     ·obtain⟨rr,hrr'⟩:=Oy (xx:=pA os) s0.m h;rw[hrr',Iaa hid]
    rw[hbase]
   ·intro p hp;simp only[nj,Kk];exact qab (hpl i p hp) (aV _ _)
   ·intro G' w' a' hrel' hs' hlt;have hmstep:mS (pA os) (Ib (listed.setIfInBounds i true)) s0.m q=mS (pA os) (Ib listed) s0.m q++pA os i:=by
     refine HI s0.m h2 h5 hiq ?_;intro j hij hjq hx1 hx2;have:=hmake i hiq hx1;rw[hrr]at this;exact late j _ hij hjq (hgd j hjq) (hclash2 _ _ _ _ this (hmake j hjq hx2))
    have hst:ki (nj rl os s0 (Ib listed) q) r (zY os i) (pA os i) (rG os i)=nj rl os s0 (Ib (listed.setIfInBounds i true)) q:=by
     rw[vz];simp only[nj,St.mk.injEq];constructor
     ·rw[QH s0.t h2 h5 hiq ?_]
      ·have hdr:TC rl i=r.dst:=by unfold TC;rw[hrr]
       rw[hdr]
       first|done|(cases r.dst<;>rfl)
      ·intro j hij hjq y hdi hdj;unfold TC at hdi hdj;rw[hrr]at hdi;exact late j _ hij hjq (hgd j hjq) (by
        simp only[Rk,hdi,hdj,xab];exact .inl (.inl (.inr (by simp))))
     ·rw[hmstep,yR _ h2 h5 hiq ?_]
      ·rw[nG _ _ _ fun j hj hL id e he=>hV j hj hL id e he]
       cases hw:rG os i with
       |none=>rfl
       |some p=>
        obtain⟨id,e⟩:=p;have:=(hF.lt hw).2.1;simp only[wr,this,Naa]
      ·intro j hij hjq hL id e e' hwi hwj;have:=(ordered j hjq id e' hwj (hF.lt hwi).2.2).1 hL;omega
    rw[hst]at hrel';refine ih (listed.setIfInBounds i true) G' w' a' ?_ (by simp[hsz]) h4 ?_ hrel' ?_ ?_
    ·have:=filter_lt h2 h5 (l:=waa ops.size) (by simp[h1]);omega
    ·intro j hj;rw[h5,htail j hj];simp;omega
    ·intro j hj hL id e he;rw[hmstep,Haa];rw[h5,xab,beq_iff_eq]at hL;rcases hL with hL|rfl
     ·have:=hV j hj hL id e he;omega
     ·have:=hlt id e he;simp only[nj,Kk]at this;omega
    ·intro s'' G'' w'' a'' k1 k2 k3;refine hQ s'' G'' w'' a'' k1 k2 (hs'.trans ?_);have hm':wr (nj rl os s0 (Ib listed) q).m (rG os i)++pA os i=(nj rl os s0 (Ib (listed.setIfInBounds i true)) q).m:=by
      rw[←hst,vz]
     rw[hm'];exact k3
end
def Ik(P:Program):List (Option Nat)→List (List Nat)→List (List Nat)→Nat→List RI→(St→Prop)→St→Prop
 |_,_,_,0,l,K,s=>Fh P l K s
 |_,_,_,_+1,[],_,_=>False
 |pl,ps,fp,q+1,.op dst g i::l,K,s=>
  match pl.headD none with
  |some p=>Yu fp [p] (ps.headD [])=true∧g=none∧∃d e,Pj s p i=some (d,e)∧Ik P pl.tail ps.tail (fp++[[p]]) q l K ({ s with m:=s.m.set p e }.put dst d)
  |none=>
   Yu fp (wj s (.op dst g i)) (ps.headD [])=true∧
   match gate s g with
   |none=>False
   |some none=>∃d m',De s i=true∧ea s i=some (d,m')∧Ik P pl.tail ps.tail (fp++[wj s (.op dst g i)]) q l K ({ s with m:=m' }.put dst d)
   |some (some (c,b))=>(c=b→∃d m',De s i=true∧ea s i=some (d,m')∧Ik P pl.tail ps.tail (fp++[wj s (.op dst g i)]) q l K ({ s with m:=m' }.put dst d))∧(c≠b→Ik P pl.tail ps.tail (fp++[wj s (.op dst g i)]) q l K (s.put dst (.v undef)))
 |pl,ps,fp,q+1,.call dst g f args::l,K,s=>
  match pl.headD none,s.cv f with
  |some p,.fn k first caps=>g=none∧p∈eb s args∧Yu fp (eb s args) (ps.headD [])=true∧∃d e,((∀id∈eb s args,id<s.m.length)∧∀m,(∀id∈eb s args,m[id]?=s.m[id]?)→CallT P k (first++args.map s.ev++caps) m fun d' m'=>d'=d∧m'=m.set p e)∧Ik P pl.tail ps.tail (fp++[eb s args]) q l K ({ s with m:=s.m.set p e }.put dst d)
  |none,.fn k first caps=>
   match gate s g with
   |none=>False
   |some none=>Yu fp (eb s args) (ps.headD [])=true∧∃d,((∀id∈eb s args,id<s.m.length)∧∀m,(∀id∈eb s args,m[id]?=s.m[id]?)→CallT P k (first++args.map s.ev++caps) m fun d' m'=>d'=d∧m'=m)∧Ik P pl.tail ps.tail (fp++[eb s args]) q l K (s.put dst d)
   |some (some (c,b))=>Yu fp (eb s args) (ps.headD [])=true∧(c=b→∃d,((∀id∈eb s args,id<s.m.length)∧∀m,(∀id∈eb s args,m[id]?=s.m[id]?)→CallT P k (first++args.map s.ev++caps) m fun d' m'=>d'=d∧m'=m)∧Ik P pl.tail ps.tail (fp++[eb s args]) q l K (s.put dst d))∧(c≠b→Ik P pl.tail ps.tail (fp++[eb s args]) q l K (s.put dst (.v undef)))
  |none,_=>Yu fp (eb s args) (ps.headD [])=true∧(∃c b,gate s g=some (some (c,b))∧c≠b)∧Ik P pl.tail ps.tail (fp++[eb s args]) q l K (s.put dst (.v undef))
  |_,_=>False
section
variable {P:Program} {K:St→Prop}
theorem BI{pl:List (Option Nat)}{j:Nat}:pO pl.tail j=pO pl (j+1):=by unfold pO;cases pl<;>simp
theorem Vv:∀{q:Nat}{l:List RI}{s:St}{pl:List (Option Nat)}{ps:List (List Nat)}{fp:List (List Nat)},Ik P pl ps fp q l K s→(∀(j:Nat) y,j<q→l[j]?=some y→((pO pl j).isSome || y.ky)=true)→
 ∃os rs s1,Ys P pl (l.take q) s os rs s1∧Fh P (l.drop q) K s1∧(∀j,j<q→∀i∈ps.getD j [],i<fp.length+j→gm ((fp++rs).getD i []) (rs.getD j [])=true)
 |0,l,s,pl,ps,fp,h,_=>⟨[],[],s,by simp[Ys],by simpa [Ik] using h,fun j hj=>by omega⟩
 |q+1,[],s,pl,ps,fp,h,_=>by simp[Ik]at h
 |q+1,.op dst g i::l,s,pl,ps,fp,h,hc=>by
  have hc':∀(j:Nat) y,j<q→l[j]?=some y→((pO pl.tail j).isSome || y.ky)=true:=fun j y hj hy=>by rw[BI];exact hc (j+1) y (by omega) (by simpa using hy)
  simp only[Ik]at h;have join:∀{s2:St} {d x w},Yu fp (Ms (pl.headD none) s (.op dst g i)) (ps.headD [])=true→Mj P (pl.headD none) (.op dst g i) s d x w→ki s (.op dst g i) d x w=s2→Ik P pl.tail ps.tail (fp++[Ms (pl.headD none) s (.op dst g i)]) q l K s2→
   ∃os rs s1,Ys P pl ((RI.op dst g i::l).take (q+1)) s os rs s1∧Fh P ((RI.op dst g i::l).drop (q+1)) K s1∧(∀j,j<q+1→∀i∈ps.getD j [],i<fp.length+j→gm ((fp++rs).getD i []) (rs.getD j [])=true):=by
   intro s2 d x w hap hF hs hD;obtain⟨os,rs,s1,h1,h2,h3⟩:=Vv hD hc';refine⟨(d,x,w)::os,Ms (pl.headD none) s (.op dst g i)::rs,s1,by simp only[lab,Ys];exact⟨d,x,w,os,rs,rfl,rfl,hF,by rw[hs];exact h1⟩,by simpa using h2,fun j hj k hk hlt=>?_⟩
   cases j with
   |zero=>
    have hk':k∈ps.headD []:=by cases ps with|nil=>simp at hk|cons a b=>simpa using hk
    have hkf:k<fp.length:=by omega
    have hget:(fp++Ms (pl.headD none) s (.op dst g i)::rs).getD k []=fp.getD k []:=by
     rw[uaa,Iaa hkf,uaa]
    rw[hget,pab];exact sy hap hk'
   |succ j=>
    have hk':k∈ps.tail.getD j []:=by cases ps with|nil=>simp at hk|cons a b=>simpa using hk
    have:=h3 j (by omega) k hk' (by simp;omega);rw[jab,Fad]at this;rw[vab];exact this
  split at h
  ·rename_i p hp;obtain⟨hap,rfl,d,e,hf,hD⟩:=h;exact join (d:=d) (x:=[]) (w:=some (p,e)) (by rw[hp];exact hap) (by rw[hp];exact .inl ⟨dst,i,e,rfl,rfl,rfl,hf⟩) (show ki s (.op dst none i) d [] (some (p,e))=({ s with m:=s.m.set p e }:St).put dst d by unfold ki;simp[wr,RI.dst]) (by rw[hp];exact hD)
  ·rename_i hp;have hci:(RI.op dst g i).ky=true:=by
    have:=hc 0 _ (by omega) rfl;have h0:pO pl 0=none:=by rw[←hp];cases pl<;>rfl
    simpa [h0] using this
   simp only[hp,Ms,Mj]at join;obtain⟨hap,h⟩:=h;have on:∀{d:D} {m':List Ent},De s i=true→ea s i=some (d,m')→(gate s g=some none∨∃c,gate s g=some (some (c,c)))→Ik P pl.tail ps.tail (fp++[wj s (.op dst g i)]) q l K ({ s with m:=m' }.put dst d)→
    ∃os rs s1,Ys P pl ((RI.op dst g i::l).take (q+1)) s os rs s1∧Fh P ((RI.op dst g i::l).drop (q+1)) K s1∧(∀j,j<q+1→∀i∈ps.getD j [],i<fp.length+j→gm ((fp++rs).getD i []) (rs.getD j [])=true):=by
    intro d m' hsb he hg hD;simp only[RI.ky,xab,decide_eq_true_eq]at hci;by_cases hcl:i.cls≤2
    ·have ext:∃x,m'=s.m++x:=by
      rcases Taa i.cls 2 with h2|h2
      ·exact⟨[],by rw[Naa];exact(Tl (s:=s) (s':=s) (by omega) (fun _ _=>rfl) (fun _ _ _ _=>rfl) he).1⟩
      ·obtain⟨e,h,_⟩:=jx (s:=s) (s':=s) (by omega) (fun _ _=>rfl) rfl he;exact⟨[e],h⟩
     obtain⟨x,rfl⟩:=ext;exact join hap (x:=x) (w:=none) (.inl ⟨hg,.inl ⟨rfl,hcl,he⟩⟩) rfl hD
    ·have ht:i.bJ.isSome=true:=by rcases hci with h|h;exact absurd h hcl;exact h
     obtain⟨a,ha⟩:=Option.isSome_iff_exists.1 ht;obtain⟨id,e,h1,rfl,h3,h4⟩:=dC ha hsb he;refine join hap (x:=[]) (w:=some (id,e)) (.inl ⟨hg,.inr ⟨rfl,a,id,e,ha,h1,rfl,he,?_,hsb⟩⟩) ?_ hD
     ·obtain⟨e0,he0⟩:=h3;exact(Caa.1 he0).1
     ·unfold ki;simp[wr,RI.dst]
   have off:(∃c b,gate s g=some (some (c,b))∧c≠b)→Ik P pl.tail ps.tail (fp++[wj s (.op dst g i)]) q l K (s.put dst (.v undef))→
    ∃os rs s1,Ys P pl ((RI.op dst g i::l).take (q+1)) s os rs s1∧Fh P ((RI.op dst g i::l).drop (q+1)) K s1∧(∀j,j<q+1→∀i∈ps.getD j [],i<fp.length+j→gm ((fp++rs).getD i []) (rs.getD j [])=true):=fun hg hD=>
    join hap (d:=.v undef) (x:=[]) (w:=none) (.inr ⟨hg,rfl,rfl,rfl⟩) (by unfold ki;simp[wr,RI.dst]) hD
   split at h
   ·exact h.elim
   ·rename_i hg;obtain⟨d,m',hsb,he,hD⟩:=h;exact on hsb he (.inl hg) hD
   ·rename_i c b hg;by_cases hcb:c=b
    ·subst hcb;obtain⟨d,m',hsb,he,hD⟩:=h.1 rfl;exact on hsb he (.inr ⟨c,hg⟩) hD
    ·exact off ⟨c,b,hg,hcb⟩ (h.2 hcb)
 |q+1,.call dst g f args::l,s,pl,ps,fp,h,hc=>by
  have hc':∀(j:Nat) y,j<q→l[j]?=some y→((pO pl.tail j).isSome || y.ky)=true:=fun j y hj hy=>by rw[BI];exact hc (j+1) y (by omega) (by simpa using hy)
  rcases hp:pl.headD none with _|p
  rotate_left
  ·simp only[Ik]at h
   cases hf:s.cv f with
   |fn k first caps=>
    simp only[hp,hf]at h;obtain⟨rfl,hpt,hap,d,e,hcall,hD⟩:=h;obtain⟨os,rs,s1,h1,h2,h3⟩:=Vv hD hc';refine⟨(d,[],some (p,e))::os,eb s args::rs,s1,?_,by simpa using h2,fun j hj k hk hlt=>?_⟩
    ·simp only[lab,Ys,hp];refine⟨d,[],some (p,e),os,rs,rfl,rfl,.inr ⟨dst,f,args,k,first,caps,e,rfl,rfl,rfl,hf,hpt,hcall.1,hcall.2⟩,?_⟩;rw[show ki s (.call dst none f args) d [] (some (p,e))=({ s with m:=s.m.set p e }:St).put dst d by unfold ki;simp[wr,RI.dst]];exact h1
    ·cases j with
     |zero=>
      have hk':k∈ps.headD []:=by cases ps with|nil=>simp at hk|cons a b=>simpa using hk
      have hkf:k<fp.length:=by omega
      have hget:(fp++eb s args::rs).getD k []=fp.getD k []:=by
       rw[uaa,Iaa hkf,uaa]
      rw[hget,pab];exact sy hap hk'
     |succ j=>
      have hk':k∈ps.tail.getD j []:=by cases ps with|nil=>simp at hk|cons a b=>simpa using hk
      have:=h3 j (by omega) k hk' (by simp;omega);rw[jab,Fad]at this;rw[vab];exact this
   |_=>simp only[hp,hf]at h
  have haf:∀d,ki s (.call dst g f args) d [] none=s.put dst d:=fun d=>by unfold ki;simp[wr,RI.dst]
  have join:∀{d},Yu fp (eb s args) (ps.headD [])=true→oq P (.call dst g f args) s d [] none→Ik P pl.tail ps.tail (fp++[eb s args]) q l K (s.put dst d)→
   ∃os rs s1,Ys P pl ((RI.call dst g f args::l).take (q+1)) s os rs s1∧Fh P ((RI.call dst g f args::l).drop (q+1)) K s1∧(∀j,j<q+1→∀i∈ps.getD j [],i<fp.length+j→gm ((fp++rs).getD i []) (rs.getD j [])=true):=by
   intro d hap hF hD;obtain⟨os,rs,s1,h1,h2,h3⟩:=Vv hD hc';refine⟨(d,[],none)::os,eb s args::rs,s1,by simp only[lab,Ys,hp,Ms,wj,Mj];exact⟨d,[],none,os,rs,rfl,rfl,hF,by rw[haf];exact h1⟩,by simpa using h2,fun j hj k hk hlt=>?_⟩
   cases j with
   |zero=>
    have hk':k∈ps.headD []:=by cases ps with|nil=>simp at hk|cons a b=>simpa using hk
    have hkf:k<fp.length:=by omega
    have hget:(fp++eb s args::rs).getD k []=fp.getD k []:=by
     rw[uaa,Iaa hkf,uaa]
    rw[hget,pab];exact sy hap hk'
   |succ j=>
    have hk':k∈ps.tail.getD j []:=by cases ps with|nil=>simp at hk|cons a b=>simpa using hk
    have:=h3 j (by omega) k hk' (by simp;omega);rw[jab,Fad]at this;rw[vab];exact this
  simp only[Ik]at h
  cases hf:s.cv f with
  |fn k first caps=>
   simp only[hp,hf]at h;split at h
   ·exact h.elim
   ·rename_i hg;obtain⟨hap,d,hcall,hD⟩:=h;exact join hap ⟨rfl,rfl,.inl ⟨k,first,caps,hf,.inl hg,hcall⟩⟩ hD
   ·rename_i c b hg;obtain⟨hap,h⟩:=h;by_cases hcb:c=b
    ·subst hcb;obtain⟨d,hcall,hD⟩:=h.1 rfl;exact join hap ⟨rfl,rfl,.inl ⟨k,first,caps,hf,.inr ⟨c,hg⟩,hcall⟩⟩ hD
    ·exact join hap ⟨rfl,rfl,.inr ⟨⟨c,b,hg,hcb⟩,rfl⟩⟩ (h.2 hcb)
  |_=>
   simp only[hp,hf]at h;obtain⟨hap,⟨c,b,hg,hcb⟩,hD⟩:=h;exact join hap ⟨rfl,rfl,.inr ⟨⟨c,b,hg,hcb⟩,rfl⟩⟩ hD
end
section
variable {P:Program} {N:Nat} {ops:Array Oper} {Q:Exit→Act→World→Prop} {K:St→Prop} {rl:List RI} {q:Nat} {ps:List (List Nat)} {pl:List (Option Nat)}
theorem Qu(tr:P.follows .mixedOrders=true) (hc:pf P ops ops.toList=some rl) (hf:DrawFactsO (Ta ops) rl q ps pl) {s:St}(hD:Ik P pl ps [] q rl K s) (hpl:∀i p,pO pl i=some p→p<s.m.length)
 {id:Nat} {G:Gh} {w:World} {a:Act} (hr:Rel G w a s) (hQ:∀s' G' w' a',K s'→Rel G' w' a' s'→Step G w s.m G' w' s'.m→Q .normal a' w'):(Code.region id ops true).wp P Q a w:=by
 obtain⟨os,rs,s1,hF,hT,hap⟩:=Vv hD hf.ky;have hlenT:(rl.take q).length=q:=by rw[Qaa];have:=hf.hq;omega
 have hlenO:=hF.length;rw[hlenT]at hlenO;have h0:nj rl os s (fun _=>true) 0=s:=rfl;obtain⟨g1,g2⟩:=Ys.get (pl:=pl) (rl:=rl) (os:=os) (s0:=s) (k:=0) (l:=rl.take q) (os':=os) (s':=s1) (rs:=rs) (by rw[lac,hlenT]) (by rw[lac,dab]) (fun j hj=>by omega) (by rw[h0];exact hF);simp only[hlenT,Xab]at g1 g2;subst g2;have hL0:∀j,Ib (Wab ops.size false) j=false:=by
  intro j;unfold Ib;simp only[uac,bae];split<;>rfl
 have hst0:nj rl os s (Ib (Wab ops.size false)) q=s:=by
  have ht:∀n,tS (TC rl) (zY os) (Ib (Wab ops.size false)) s.t n=s.t:=by
   intro n
   induction n with
   |zero=>rfl
   |succ n ih=>simp only[tS,hL0,naa,if_false,ih]
  have hm:∀n,mS (pA os) (Ib (Wab ops.size false)) s.m n=s.m:=by
   intro n
   induction n with
   |zero=>rfl
   |succ n ih=>simp only[mS,hL0,naa,if_false,ih]
  have hw:∀n,sS (rG os) (Ib (Wab ops.size false)) s.m n=s.m:=by
   intro n
   induction n with
   |zero=>rfl
   |succ n ih=>simp only[sS,hL0,naa,if_false,ih]
  unfold nj;rw[ht,hm,hw]
 refine wp_region_any tr ?_;have hs:=Same.drew w;refine gG hc hf (fun i hi=>(g1 i hi).1) hpl ?_ ?_ hT ops.size _ G _ a ?_ (by simp) ?_ (fun j _=>hL0 j) ?_ (fun j _ h=>by rw[hL0]at h;cases h) ?_
 ·intro i hi hx;have h:=(g1 i hi).1;rcases hp:pO pl i with _|p
  ·rw[hp]at h;refine⟨?_,rfl⟩
   cases hri:rl.getD i DI with
   |call dst g f args=>
    rw[hri]at h;obtain⟨h,_⟩:=h;exact(hx h).elim
   |op dst g j=>
    rw[hri]at h;rcases h with⟨-,⟨_,hcl,h⟩|⟨h,_⟩⟩|⟨-,-,h,_⟩
    ·simp only[RI.cls];rcases Taa j.cls 2 with h2|h2
     ·obtain⟨hm,-⟩:=Tl (s:=nj rl os s (fun _=>true) i) (s':=nj rl os s (fun _=>true) i) (by omega) (fun _ _=>rfl) (fun _ _ _ _=>rfl) h;exfalso;have:=congrArg Nad hm;simp at this;exact hx this
     ·omega
    ·exact(hx h).elim
    ·exact(hx h).elim
  ·rw[hp]at h;rcases h with⟨_,_,_,_,h,_⟩|⟨_,_,_,_,_,_,_,_,h,_⟩
   ·exact(hx h).elim
   ·exact(hx h).elim
 ·intro i j hij hj hi id h1 h2;have:=hap j hj i hi (by simpa using hij);rw[List.nil_append,(g1 i (by omega)).2,(g1 j hj).2]at this;exact GB this h1 h2
 ·have:=Maa (fun j=>!Ib (Wab ops.size false) j) (waa ops.size);simpa using this
 ·intro i b _ hi;rw[hL0]at hi;cases hi
 ·rw[hst0];exact⟨hr.t.mono (hs.le G),hs.inv hr.inv,hr.defers⟩
 ·intro s' G' w' a' k1 k2 k3;rw[hst0]at k3;exact hQ s' G' w' a' k1 k2 ((hs.step G s.m).trans k3)
def iu(m:List Ent) (pl:List (Option Nat)):Bool:=pl.all fun o=>match o with|some p=>decide (p<m.length)|none=>true
theorem AN{m:List Ent}{pl:List (Option Nat)}(h:iu m pl=true):∀i p,pO pl i=some p→p<m.length:=by
 intro i p hp;unfold iu at h;rw[Raa]at h;unfold pO at hp;have hm:some p∈pl:=by
  rw[uaa]at hp
  cases hg:pl[i]? with
  |none=>rw[hg]at hp;cases hp
  |some o=>rw[hg]at hp;rw[←hp];exact kab hg
 simpa using h _ hm
theorem T.X0(hm:P.follows .mixedOrders=true) {cuts:List Nat}{bs:List (List Nat)}{l:List RI}{K:Exit→St→Prop}{s:St}(ps:List (List Nat)) (pl:List (Option Nat)) (hok:rp bs l q ps pl=true) (hpl:iu s.m pl=true) (h:Ik P pl ps [] q l (K .normal) s):T P N (.any cuts q bs l) K s:=by
 intro code hc G w a hN hr;obtain⟨id,ops,rfl,rfl,hc',hto⟩:=JL hc;exact Qu hm hc' (aB (vC hto).1 hok) h (AN hpl) hr fun s' G' w' a' k1 k2 k3=>⟨s',G',k1,k2,k3.RN hN⟩
theorem zp{K:St→Prop}:∀{q:Nat}{l:List RI}{ps fp:List (List Nat)}{s:St},Ur P ps fp q l K s→Ik P [] ps fp q l K s
 |0,l,ps,fp,s,h=>by simpa only[Ik,Ur] using h
 |q+1,[],ps,fp,s,h=>by simp[Ur]at h
 |q+1,.op dst g i::l,ps,fp,s,h=>by
  simp only[Ik,Ur,daf,iaf]at h⊢;refine⟨h.1,?_⟩;have h2:=h.2
  cases hg:gate s g with
  |none=>simp only[hg]at h2
  |some o=>
   cases o with
   |none=>
    simp only[hg]at h2⊢;obtain⟨d,m',h1,h2,h3⟩:=h2;exact⟨d,m',h1,h2,zp h3⟩
   |some cb=>
    obtain⟨c,b⟩:=cb;simp only[hg]at h2⊢;refine⟨fun hc=>?_,fun hc=>zp (h2.2 hc)⟩;obtain⟨d,m',h1,h2,h3⟩:=h2.1 hc;exact⟨d,m',h1,h2,zp h3⟩
 |q+1,.call dst g f args::l,ps,fp,s,h=>by
  simp only[Ik,Ur,daf,iaf]at h⊢
  cases hf:s.cv f with
  |fn k first caps=>
   simp only[hf]at h⊢
   cases hg:gate s g with
   |none=>simp only[hg]at h
   |some o=>
    cases o with
    |none=>
     simp only[hg]at h⊢;obtain⟨h0,d,h1,h3⟩:=h;exact⟨h0,d,h1,zp h3⟩
    |some cb=>
     obtain⟨c,b⟩:=cb;simp only[hg]at h⊢;refine⟨h.1,fun hc=>?_,fun hc=>zp (h.2.2 hc)⟩;obtain⟨d,h1,h3⟩:=h.2.1 hc;exact⟨d,h1,zp h3⟩
  |_=>simp only[hf]at h
theorem T.baa(hm:P.follows .mixedOrders=true) {cuts:List Nat}{bs:List (List Nat)}{l:List RI}{K:Exit→St→Prop}{s:St}(ps:List (List Nat)) (hok:rp bs l q ps []=true) (h:Ur P ps [] q l (K .normal) s):T P N (.any cuts q bs l) K s:=
 T.X0 hm ps [] hok rfl (zp h)
theorem T.V0(hm:P.follows .mixedOrders=true) {l:List RI}{K:Exit→St→Prop}{s:St}(h:Ik P [] [] [] q l (K .normal) s):T P N (.draw q l) K s:=by
 intro code hc G w a hN hr;obtain⟨id,ops,rfl,hc',hok⟩:=Hw hc;have hf:=xo hok;have hp0:∀i,pO [] i=none:=fun i=>rfl;have notgt:∀(j:Nat) d g i,j<q→l[j]?=some (.op d g i)→i.bJ=none:=by
  intro j d g i hj hl;have h1:=hf.cls j _ hj hl
  cases ht:i.bJ with
  |none=>rfl
  |some x=>have:=(Ny ht).1;simp only[RI.cls]at h1;omega
 refine Qu hm hc' (ps:=[]) (pl:=[]) ⟨hf.toTailFacts,?_,?_,?_⟩ h (fun i p hp=>by rw[hp0]at hp;cases hp) hr fun s' G' w' a' k1 k2 k3=>⟨s',G',k1,k2,k3.RN hN⟩
 ·intro j y hj hy;have:=hf.cls j y hj hy;rw[hp0]
  cases y with
  |call=>rfl
  |op d g i=>simp only[RI.ky,RI.cls]at this⊢;simp[this]
 ·intro i j x y hij hj hx hy hcl;refine hf.apart i j x y hij hj hx hy ?_;rw[hp0,hp0]at hcl;have hcc:Rk none none x y=pq x y:=by unfold Rk pq;cases x.dst<;>cases y.dst<;>rfl
  rwa [hcc]at hcl
 ·intro i j x y hij hj hx hy hcf;exfalso;rw[hp0,hp0]at hcf
  cases x with
  |call=>
   cases y with
   |call=>simp[mq,wB]at hcf
   |op d g k=>have:=notgt j d g k hj hy;simp[mq,wB,this]at hcf
  |op d g k=>
   have h1:=notgt i d g k (by omega) hx
   cases y with
   |call=>simp[mq,wB,h1]at hcf
   |op d' g' k'=>have h2:=notgt j d' g' k' hj hy;simp[mq,wB,h1,h2]at hcf
theorem T.GZ(hm:P.follows .mixedOrders=true) {l:List RI}{K:Exit→St→Prop}{s:St}(ps:List (List Nat)) (pl:List (Option Nat)) (hcl:∀i p,pO pl i=some p→∃a b c d,l[i]?=some (.call a b c d))
 (hps:∀j,j<q→∀i,i<j→i∈ps.getD j []) (hpl:iu s.m pl=true) (h:Ik P pl ps [] q l (K .normal) s):T P N (.draw q l) K s:=by
 intro code hc G w a hN hr;obtain⟨id,ops,rfl,hc',hok⟩:=Hw hc;have hf:=xo hok;refine Qu hm hc' (ps:=ps) (pl:=pl) ⟨hf.toTailFacts,?_,?_,?_⟩ h (AN hpl) hr fun s' G' w' a' k1 k2 k3=>⟨s',G',k1,k2,k3.RN hN⟩
 ·intro j y hj hy;have:=hf.cls j y hj hy
  cases y with
  |call=>simp[RI.ky]
  |op d g i=>simp only[RI.ky,RI.cls]at this⊢;simp[this]
 ·intro i j x y hij hj hx hy hcl';refine hf.apart i j x y hij hj hx hy ?_;have hcc:Rk none none x y=pq x y:=by unfold Rk pq;cases x.dst<;>cases y.dst<;>rfl
  rw[←hcc];have hle:∀o o':Option Nat,Rk o o' x y=true→Rk none none x y=true:=by
   intro o o' h;unfold Rk at h⊢
   revert h
   cases o<;>cases o'<;>simp +contextual
   all_goals (intro h;rcases h with h|h<;>simp[h])
  exact hle _ _ hcl'
 ·intro i j x y hij hj hx hy hcf;exact .inr (hps j hj i hij)
end
end Go.Tm
namespace Go.Tm
section
variable {P:Program} {N:Nat}
mutual
def Ad(n:Nat):D→D→Prop
 |.v x,.own i v=>x=.slice none 0 0∧i=n∧v=0
 |.agg l,.agg r=>Jp n l r
 |d,e=>d=e
def Jp(n:Nat):List D→List D→Prop
 |[],r=>r=[]
 |d::l,r=>∃e r',r=e::r'∧Ad n d e∧Jp n l r'
end
theorem Ad.inv{n:Nat}{d e:D}(h:Ad n d e):(d=.v (.slice none 0 0)∧e=.own n 0)∨(∃l r,d=.agg l∧e=.agg r∧Jp n l r)∨d=e:=by
 cases d<;>cases e<;>simp_all[Ad]
mutual
theorem Ad.rel{G:Gh}{w:World}{n:Nat}(ho:VRel G w (.own n 0) (.slice none 0 0)):∀{d e:D}{u:Value},Ad n d e→VRel G w d u→VRel G w e u
 |.agg l,e,u,hs,h=>by
  rcases hs.inv with⟨h1,_⟩|⟨l',r,h1,rfl,h3⟩|rfl
  ·cases h1
  ·injection h1 with h1;subst h1;simp only[VRel]at h⊢;obtain⟨cs,rfl,h,h1⟩:=h;exact⟨cs,rfl,Jp.rel ho h3 h,h1⟩
  ·exact h
 |.v x,e,u,hs,h=>by
  rcases hs.inv with⟨h1,rfl⟩|⟨_,_,h1,_⟩|rfl
  ·injection h1 with h1;subst h1;simp only[VRel]at h;subst h;exact ho
  ·cases h1
  ·exact h
 |.tup l,e,u,hs,h=>by rcases hs.inv with⟨h1,_⟩|⟨_,_,h1,_⟩|rfl<;>first|cases h1|exact h
 |.sl S l,e,u,hs,h=>by rcases hs.inv with⟨h1,_⟩|⟨_,_,h1,_⟩|rfl<;>first|cases h1|exact h
 |.pt x,e,u,hs,h=>by rcases hs.inv with⟨h1,_⟩|⟨_,_,h1,_⟩|rfl<;>first|cases h1|exact h
 |.ref _ _ _ _,e,u,hs,h=>by rcases hs.inv with⟨h1,_⟩|⟨_,_,h1,_⟩|rfl<;>first|cases h1|exact h
 |.own _ _,e,u,hs,h=>by rcases hs.inv with⟨h1,_⟩|⟨_,_,h1,_⟩|rfl<;>first|cases h1|exact h
 |.view _ _ _ _,e,u,hs,h=>by rcases hs.inv with⟨h1,_⟩|⟨_,_,h1,_⟩|rfl<;>first|cases h1|exact h
 |.fn _ _ _,e,u,hs,h=>by rcases hs.inv with⟨h1,_⟩|⟨_,_,h1,_⟩|rfl<;>first|cases h1|exact h
 |.mp _,e,u,hs,h=>by rcases hs.inv with⟨h1,_⟩|⟨_,_,h1,_⟩|rfl<;>first|cases h1|exact h
 |.ifc _ _,e,u,hs,h=>by rcases hs.inv with⟨h1,_⟩|⟨_,_,h1,_⟩|rfl<;>first|cases h1|exact h
 |.dead,e,u,hs,h=>by rcases hs.inv with⟨h1,_⟩|⟨_,_,h1,_⟩|rfl<;>first|cases h1|exact h
theorem Jp.rel{G:Gh}{w:World}{n:Nat}(ho:VRel G w (.own n 0) (.slice none 0 0)):∀{l r:List D}{us:List Value},Jp n l r→VsRel G w l us→VsRel G w r us
 |[],r,us,hs,h=>by simp only[Jp]at hs;subst hs;exact h
 |d::l,r,us,hs,h=>by
  simp only[Jp]at hs;obtain⟨e,r',rfl,h1,h2⟩:=hs;simp only[VsRel]at h⊢;obtain⟨u,us',rfl,g1,g2⟩:=h;exact⟨u,us',rfl,Ad.rel ho h1 g1,Jp.rel ho h2 g2⟩
end
theorem Jp.row{G:Gh}{w:World}{n b S:Nat}(ho:VRel G w (.own n 0) (.slice none 0 0)):∀{l r:List D}{off:Nat},Jp n l r→Ha G w b S l off→Ha G w b S r off
 |[],r,off,hs,h=>by simp only[Jp]at hs;subst hs;exact h
 |d::l,r,off,hs,h=>by
  simp only[Jp]at hs;obtain⟨e,r',rfl,h1,h2⟩:=hs;simp only[Ha]at h⊢;obtain⟨⟨u,g1,g2,g3⟩,g4⟩:=h;exact⟨⟨u,Ad.rel ho h1 g1,g2,g3⟩,Jp.row ho h2 g4⟩
theorem Jp.length{n:Nat}:∀{l r:List D},Jp n l r→l.length=r.length
 |[],r,h=>by simp[Jp]at h;simp[h]
 |d::l,r,h=>by
  simp only[Jp]at h;obtain⟨e,r',rfl,_,h2⟩:=h;simp[Jp.length h2]
mutual
theorem Ad.refl(n:Nat):∀d:D,Ad n d d
 |.agg l=>by simp only[Ad];exact Jp.refl n l
 |.v x=>by simp[Ad]
 |.tup l=>by simp[Ad]
 |.sl S l=>by simp[Ad]
 |.pt d=>by simp[Ad]
 |.ref ..=>by simp[Ad]
 |.own ..=>by simp[Ad]
 |.view ..=>by simp[Ad]
 |.fn ..=>by simp[Ad]
 |.mp ..=>by simp[Ad]
 |.ifc ..=>by simp[Ad]
 |.dead=>by simp[Ad]
theorem Jp.refl(n:Nat):∀l:List D,Jp n l l
 |[]=>by simp[Jp]
 |d::l=>by simp only[Jp];exact⟨d,l,rfl,Ad.refl n d,Jp.refl n l⟩
end
theorem Jp.cons{n:Nat}{d e:D}{l r:List D}(h1:Ad n d e) (h2:Jp n l r):Jp n (d::l) (e::r):=by
 simp only[Jp];exact⟨e,r,rfl,h1,h2⟩
theorem Ad.nil(n:Nat):Ad n (.v (.slice none 0 0)) (.own n 0):=by simp[Ad]
def NB(n:Nat):Ent→Ent→Prop
 |.live S v l,.live S' v' l'=>S=S'∧v=v'∧Jp n l l'
 |e,e'=>e=e'
def qu(n:Nat):List Ent→List Ent→Prop
 |[],r=>r=[]
 |d::l,r=>∃e r',r=e::r'∧NB n d e∧qu n l r'
theorem NB.refl(n:Nat) (e:Ent):NB n e e:=by cases e<;>simp[NB,Jp.refl]
theorem qu.refl(n:Nat):∀m:List Ent,qu n m m
 |[]=>by simp[qu]
 |d::l=>by simp only[qu];exact⟨d,l,rfl,NB.refl n d,qu.refl n l⟩
theorem qu.cons{n:Nat}{d e:Ent}{l r:List Ent}(h1:NB n d e) (h2:qu n l r):qu n (d::l) (e::r):=by
 simp only[qu];exact⟨e,r,rfl,h1,h2⟩
theorem NB.live{n S v:Nat}{l r:List D}(h:Jp n l r):NB n (.live S v l) (.live S v r):=by simp only[NB];exact⟨trivial,trivial,h⟩
theorem qu.get{n:Nat}:∀{m m':List Ent},qu n m m'→m.length=m'.length∧∀(i:Nat) e,m'[i]?=some e→∃e0,m[i]?=some e0∧NB n e0 e
 |[],m',h=>by simp[qu]at h;subst h;simp
 |d::m,m',h=>by
  simp only[qu]at h;obtain⟨e,r',rfl,h1,h2⟩:=h;obtain⟨k1,k2⟩:=qu.get h2;refine⟨by simp[k1],fun i e' he=>?_⟩
  cases i with
  |zero=>simp at he;subst he;exact⟨d,rfl,h1⟩
  |succ i=>simpa using k2 i e' (by simpa using he)
theorem qu.append{n:Nat}:∀{m m':List Ent}(x:List Ent),qu n m m'→qu n (m++x) (m'++x)
 |[],m',x,h=>by simp[qu]at h;subst h;exact qu.refl n x
 |d::m,m',x,h=>by
  simp only[qu]at h;obtain⟨e,r',rfl,h1,h2⟩:=h;simp only[List.cons_append];exact qu.cons h1 (qu.append x h2)
theorem NB.rel{G:Gh}{w:World}{n i:Nat}{e e':Ent}(ho:VRel G w (.own n 0) (.slice none 0 0)) (h:NB n e e') (hr:El G w i e):El G w i e':=by
 cases e with
 |live S v l=>
  cases e' with
  |live S' v' l'=>
   simp only[NB]at h;obtain⟨rfl,rfl,h⟩:=h;obtain⟨a1,a2,a3,a4,a5⟩:=hr;rw[h.length]at a3 a4;refine⟨a1,a2,a3,a4,?_⟩;rcases a5 with a5|⟨b',cs,T,hb',hF,hblk,hsz,hrow⟩
   ·exact .inl a5
   ·exact .inr ⟨b',cs,T,hb',hF,hblk,hsz,Jp.row ho h hrow⟩
  |_=>simp[NB]at h
 |_=>simp only[NB]at h;subst h;exact hr
theorem NB.isLive{n:Nat}{e e':Ent}(h:NB n e e'):e'.isLive=e.isLive:=by
 cases e<;>cases e'<;>simp_all[NB,Ent.isLive]
theorem T.FW{c:C}{K:Exit→St→Prop}{s:St}(S:Nat) {t':List D}{m':List Ent}(ht:Jp s.m.length s.t t') (hm:qu s.m.length s.m m') (h:Tm.T P N c K ⟨t',m'++[.live S 0 []]⟩):Tm.T P N c K s:=by
 refine T.ghost (fun G w a hN hr=>?_) h;have hadd:=Ps (w':=w) hr.inv none S 0 0 (.live S 0 []) rfl rfl rfl rfl (yaa _) (fun _ _=>rfl) (fun k h=>by cases h)
  ⟨by simp[Gh.add],by simp[Gh.add],by simp[Gh.add],by simp,.inl ⟨by simp[Gh.add],by simp[Gh.add]⟩⟩
 have ho:=Ds (s:=s) (b:=none) (S:=S) (N:=0) (C:=0) (w':=w) hr.inv.n;have hM:=(qu.append [.live S 0 []] hm).get;have hi:=hadd.1;refine⟨_,⟨Jp.rel ho ht (hr.t.mono hadd.2.le),⟨by rw[hi.n,hM.1],hi.F,fun i e he=>?_,fun i j e e' he he' hl hl' b hb hb'=>?_,hi.gl⟩,hr.defers⟩,?_⟩
 ·obtain⟨e0,h0,h1⟩:=hM.2 i e he;exact h1.rel ho (hi.ent i e0 h0)
 ·obtain⟨e0,h0,h1⟩:=hM.2 i e he;obtain⟨e0',h0',h1'⟩:=hM.2 j e' he';exact hi.apart i j e0 e0' h0 h0' (by rw[←h1.isLive];exact hl) (by rw[←h1'.isLive];exact hl') b hb hb'
 ·refine { hadd.2.RN hN with newB:=fun b hb ho'=>hadd.2.newB b hb ?_ };obtain⟨i,e,he,hl,hB⟩:=ho';obtain⟨e0,h0,h1⟩:=hM.2 i e he;exact⟨i,e0,h0,by rw[←h1.isLive];exact hl,hB⟩
end
def Oz(S id x:Nat) (s:St):St:=
 match s.m[id]? with
 |some (.live S' v l)=>
  match l[x]? with
  |some (.v (.slice none 0 0))=>⟨s.t,s.m.set id (.live S' v (l.set x (.own s.m.length 0)))++[.live S 0 []]⟩
  |_=>s
 |_=>s
theorem Jp.set{n:Nat}:∀{l:List D}{x:Nat},l[x]?=some (.v (.slice none 0 0))→Jp n l (l.set x (.own n 0))
 |[],x,h=>by simp at h
 |d::l,0,h=>by simp at h;subst h;exact Jp.cons (Ad.nil n) (Jp.refl n l)
 |d::l,x+1,h=>Jp.cons (Ad.refl n d) (Jp.set (by simpa using h))
theorem qu.set{n S v:Nat}{l l':List D}(hl:Jp n l l'):∀{m:List Ent}{id:Nat},m[id]?=some (.live S v l)→qu n m (m.set id (.live S v l'))
 |[],id,h=>by simp at h
 |e::m,0,h=>by simp at h;subst h;exact qu.cons (NB.live hl) (qu.refl n m)
 |e::m,id+1,h=>qu.cons (NB.refl n e) (qu.set hl (by simpa using h))
theorem oN{P:Program}{N:Nat}{c:C}{K:Exit→St→Prop}{S id x:Nat}{s:St}(h:Tm.T P N c K (Oz S id x s)):Tm.T P N c K s:=by
 unfold Oz at h;split at h
 ·rename_i S' v l hm;split at h
  ·rename_i hx;exact T.FW S (Jp.refl _ _) (qu.set (Jp.set hx) hm) h
  ·exact h
 ·exact h
def Ep(S id:Nat):Nat→St→St
 |0,s=>s
 |x+1,s=>Oz S id x (Ep S id x s)
theorem Qw{P:Program}{N:Nat}{c:C}{K:Exit→St→Prop}{S id:Nat}:∀{x:Nat}{s:St},Tm.T P N c K (Ep S id x s)→Tm.T P N c K s
 |0,s,h=>h
 |x+1,s,h=>Qw (x:=x) (oN h)
def makS:RI→Option Nat
 |.op _ none (.alloc S _)=>some S
 |.op _ none (.box S _)=>some S
 |.op _ none (.bslice S _ _ _)=>some S
 |_=>none
def isMk:RI→Bool
 |.op _ _ i=>Uae i.cls 2
 |_=>false
def places:List RI→Nat→List (Option Nat)
 |[],_=>[]
 |r::l,n=>
  match makS r with
  |some _=>bif l.any isMk then some n::places l (n+1)else none::places l n
  |none=>none::places l n
def lent(m:List Ent) (d:D):Option D:=
 bif flat d then some d else
 match d with
 |.own id Ga=>
  match m[id]? with
  |some (.live S v l)=>bif Uae v Ga&&HB l then some (.sl S l)else none
  |_=>none
 |_=>none
end Go.Tm
namespace Go.Tm
def kx(id Ga:Nat) (d:D):D:=
 match d with
 |.ref i v x s=>bif Uae i id&&Uae v Ga then .ref 0 0 x s else .dead
 |d=>bif la d then d else .dead
theorem XJ{G G':Gh}{w:World}{id Ga:Nat}(hle:SubF G w G' w) (hr:∀x s u,VRel G w (.ref id Ga x s) u→VRel G' w (.ref 0 0 x s) u) {d:D}{u:Value}(h:VRel G w d u):VRel G' w (kx id Ga d) u:=by
 unfold kx;split
 ·rename_i i v x s;cases hb:(Uae i id&&Uae v Ga)
  ·simp[VRel]
  ·simp only[paa,Nat.beq_eq]at hb;obtain⟨rfl,rfl⟩:=hb;exact hr x s u h
 ·cases hf:la d
  ·simp[VRel]
  ·exact h.free hle hf
section
variable {P:Program}
theorem BO{k id S Ga:Nat}{l l1:List D}{m m1:List Ent}{ds:List D}{d1:D}
 (hid:m[id]?=some (.live S Ga l)) (hl:fa l=true) (hm1:m1[0]?=some (.live S 0 l1))
 (h:CallT P k (ds.map (kx id Ga)) [.live S 0 l] fun d m'=>d=d1∧m'=m1) :
 CallT P k ds m fun d m'=>d=Vd 8 (m1.set 0 .gone) d1∧m'=m.set id (.live S Ga (l1.map (Vd 8 (m1.set 0 .gone)))):=by
 refine⟨h.1,fun G w vs hv hi=>?_⟩;have hlen:id<m.length:=(Caa.1 hid).1;obtain⟨eV,eS,eN,eC,eB⟩:=hi.ent id _ hid;have hc0:SubF G w ⟨G.F,1,fun _=>G.B id,fun _=>0,fun _=>G.S id,fun _=>G.N id,fun _=>G.C id⟩ w:=⟨fun _ h=>h,fun _ _=>rfl⟩;have hv':=Om (G':=⟨G.F,1,fun _=>G.B id,fun _=>0,fun _=>G.S id,fun _=>G.N id,fun _=>G.C id⟩) (f:=kx id Ga) (fun d u hu=>XJ hc0 (fun x s u hu=>by
  simp only[VRel]at hu⊢;obtain⟨a,rfl,h1,h2,h3⟩:=hu;exact⟨a,rfl,by simp,yaa _,fun _=>h3 eV⟩) hu) hv
 have hic:Inv ⟨G.F,1,fun _=>G.B id,fun _=>0,fun _=>G.S id,fun _=>G.N id,fun _=>G.C id⟩ w [.live S 0 l]:=by
  refine⟨rfl,hi.F,?_,?_,hi.gl.bare fun _ h=>h⟩
  ·intro i e he
   cases i with
   |zero=>
    simp at he;subst he;refine⟨rfl,eS,eN,eC,?_⟩;rcases eB with h|⟨b,cs,T,h1,h2,h3,h4,h5⟩
    ·exact .inl h
    ·exact .inr ⟨b,cs,T,h1,h2,h3,h4,Ha.free hc0 rfl hl h5⟩
   |succ i=>simp at he
  ·intro i j e e' hi' hj' _ _ b _ _
   cases i with
   |zero=>cases j with
    |zero=>rfl
    |succ j=>simp at hj'
   |succ i=>simp at hi'
 have own0:∀b,me ⟨G.F,1,fun _=>G.B id,fun _=>0,fun _=>G.S id,fun _=>G.N id,fun _=>G.C id⟩ [.live S 0 l] b→G.B id=some b:=by
  rintro b ⟨i,e,he,-,hB⟩;exact hB
 refine(h.2 _ w vs hv' hic).mono ?_;rintro e w' ⟨v,d,m',G',rfl,⟨rfl,rfl⟩,hvd,hi',hs'⟩;obtain⟨fV,fS,fN,fC,fB⟩:=hi'.ent 0 _ hm1;have hlen1:0<m'.length:=(Caa.1 hm1).1;have live1:(Ent.live S Ga l).isLive=true:=rfl;obtain⟨sB,sS,sN,sC⟩:G'.B 0=G.B id∧G'.S 0=G.S id∧G'.N 0=G.N id∧G'.C 0=G.C id:=by
  rcases hs'.le.id 0 (Nat.lt_succ_self 0)with⟨_,h1,h2,h3,h4⟩|h
  ·exact⟨h1,h2,h3,h4⟩
  ·dsimp only at h;omega
 have hget1:∀i x,(m'.set 0 .gone)[i]?=some x→(i=0∧x=.gone)∨(i≠0∧m'[i]?=some x):=by
  intro i x hx;by_cases h0:i=0
  ·subst h0;rw[Yab hlen1]at hx;exact .inl ⟨rfl,by injection hx with hx;exact hx.symm⟩
  ·rw[Hac (by omega)]at hx;exact .inr ⟨h0,hx⟩
 have hi2:Inv G' w' (m'.set 0 .gone):=by
  refine⟨by simpa using hi'.n,hi'.F,?_,?_,hi'.gl⟩
  ·intro i x hx;rcases hget1 i x hx with⟨rfl,rfl⟩|⟨h0,hx⟩
   ·trivial
   ·exact hi'.ent i x hx
  ·intro i j x y hx hy lx ly b hb hb';rcases hget1 i x hx with⟨rfl,rfl⟩|⟨h0,hx⟩
   ·cases lx
   ·rcases hget1 j y hy with⟨rfl,rfl⟩|⟨h1,hy⟩
    ·cases ly
    ·exact hi'.apart i j x y hx hy lx ly b hb hb'
 have out0:∀b,me G' (m'.set 0 .gone) b→me G' m' b∧G'.B 0≠some b:=by
  rintro b ⟨i,x,hx,lx,hB⟩;rcases hget1 i x hx with⟨rfl,rfl⟩|⟨h0,hx⟩
  ·cases lx
  ·exact⟨⟨i,x,hx,lx,hB⟩,fun h=>h0 (hi'.apart i 0 x _ hx hm1 lx rfl b hB h)⟩
 have hF':∀b,(G'.F b∨me G' (m'.set 0 .gone) b)→b<w'.heap.size:=by
  rintro b (hb|hb)
  ·exact hi'.F b hb
  ·exact(me.lt hi2 hb).1
 have hrel:∀d u,VRel G' w' d u→VRel ⟨fun b=>G'.F b∨me G' (m'.set 0 .gone) b,G.n,G.B,G.V,G.S,G.N,G.C⟩ w' (Vd 8 (m'.set 0 .gone) d) u:=by
  intro d u hu;have h0:=iF hi2 8 d u hu;refine VRel.free ?_ (Ft _ _ _) h0;exact⟨fun _ h=>h,fun _ _=>rfl⟩
 have hle:Le G w ⟨fun b=>G'.F b∨me G' (m'.set 0 .gone) b,G.n,G.B,G.V,G.S,G.N,G.C⟩ w':=
  ⟨fun b hb=>.inl (hs'.le.F b hb),fun b hb=>hs'.le.heap b hb,yaa _,fun i _=>.inl (by simp)⟩
 have olt:∀i x,m[i]?=some x→x.isLive=true→∀b,G.B i=some b→b<w.heap.size∧¬G.F b:=fun i x hx hl b hb=>(hi.ent i x hx).lt hl hb;have notO:∀i x,m[i]?=some x→x.isLive=true→i≠id→∀b,G.B i=some b→G.B id≠some b:=fun i x hx hlx hne b hb hB=>hne (hi.apart i id x _ hx hid hlx live1 b hb hB);have hget:∀i x,(m.set id (.live S Ga (l1.map (Vd 8 (m'.set 0 .gone)))))[i]?=some x→(m[i]?=some x∧i≠id)∨(i=id∧x=.live S Ga (l1.map (Vd 8 (m'.set 0 .gone)))):=by
  intro i x hx;by_cases h:i=id
  ·subst h;rw[Yab hlen]at hx;exact .inr ⟨rfl,by injection hx with hx;exact hx.symm⟩
  ·rw[Hac (by omega)]at hx;exact .inl ⟨hx,h⟩
 refine⟨v,_,_,⟨fun b=>G'.F b∨me G' (m'.set 0 .gone) b,G.n,G.B,G.V,G.S,G.N,G.C⟩,rfl,⟨rfl,rfl⟩,hrel _ _ hvd,⟨by simp[hi.n],hF',?_,?_,hi'.gl.bare fun _ h=>.inl h⟩,⟨hle,hs'.os,hs'.tape,hs'.output,hs'.size,?_,?_,?_⟩⟩
 ·intro i x hx;rcases hget i x hx with⟨h1,h2⟩|⟨rfl,rfl⟩
  ·by_cases hlx:x.isLive=true
   ·refine(hi.ent i x h1).mono hle (by simp) (fun b hb=>?_) (fun b hb _ hF=>?_)
    ·exact hs'.keep b (olt i x h1 hlx b hb).1 fun ho=>notO i x h1 hlx h2 b hb (own0 b ho)
    ·rcases hF with hF|hF
     ·rcases hs'.newF b (olt i x h1 hlx b hb).1 hF with h|h
      ·exact h
      ·exact(notO i x h1 hlx h2 b hb (own0 b h)).elim
     ·exact(notO i x h1 hlx h2 b hb (own0 b (hs'.newB b (olt i x h1 hlx b hb).1 (out0 b hF).1))).elim
   ·cases x with
    |gone=>trivial
    |_=>simp[Ent.isLive]at hlx
  ·refine⟨eV,eS,by rw[gab,←fN,sN],by rw[gab,←sC];exact fC,?_⟩;rw[sB,sC]at fB;rcases fB with h|⟨b,cs,T,h1,h2,h3,h4,h5⟩
   ·exact .inl h
   ·refine .inr ⟨b,cs,T,h1,?_,h3,h4,Bn hrel h5⟩;rintro(hF|hF)
    ·exact h2 hF
    ·exact(out0 b hF).2 (by rw[sB];exact h1)
 ·intro i j x y hx hy lx ly b hb hb';rcases hget i x hx with⟨h1,h2⟩|⟨rfl,rfl⟩<;>rcases hget j y hy with⟨h3,h4⟩|⟨rfl,rfl⟩
  ·exact hi.apart i j x y h1 h3 lx ly b hb hb'
  ·exact(notO i x h1 lx h2 b hb hb').elim
  ·exact(notO j y h3 ly h4 b hb' hb).elim
  ·rfl
 ·intro b hb hno;exact hs'.keep b hb fun ho=>hno ⟨id,_,hid,live1,own0 b ho⟩
 ·intro b hb hF;rcases hF with hF|hF
  ·rcases hs'.newF b hb hF with h|h
   ·exact .inl h
   ·exact .inr ⟨id,_,hid,live1,own0 b h⟩
  ·exact .inr ⟨id,_,hid,live1,own0 b (hs'.newB b hb (out0 b hF).1)⟩
 ·rintro b hb ⟨i,x,hx,lx,hB⟩;rcases hget i x hx with⟨h1,h2⟩|⟨rfl,rfl⟩
  ·exact⟨i,x,h1,lx,hB⟩
  ·exact⟨i,_,hid,live1,hB⟩
end
def Ls(q:Nat):List (List Nat):=(waa q).map waa
theorem IE{q:Nat}:∀j,j<q→∀i,i<j→i∈(Ls q).getD j []:=by
 intro j hj i hi;unfold Ls;rw[uaa,Dab,List.getElem?_range hj];simpa using hi
end Go.Tm
