/-
  The engine: a part of the proof that trees of values are carried along by the program: no condition.
-/
import Derived.Test.YtfanhhhgcabpnaaGreatDoorEB
import Derived.ProofKit
import Derived.OpenShut
import Derived.WideShapes
import Derived.Lib.LaidTab
import Derived.SizedLaws
import Derived.Sort.Row
import Derived.Sort.Grow
import Derived.KernelRfl
open Array renaming getElem?_append_left→Hp,getElem?_eq_getElem→Yn,getElem?_eq_none→Fq,getElem?_modify→Mq
open Bool renaming and_eq_true→xn,and_self→Tn,and_true→Nn,false_eq_true→tn,true_and→Kp
open Classical renaming not_not→ko
open Eq renaming trans→rn
open List renaming all_cons→Aq,all_eq_true→qo,append_nil→bo,cons_append→xo,contains_iff_mem→mq,drop_drop→Cr,drop_zero→Lp,eq_nil_of_length_eq_zero→Jn,ext_getElem?→rq,foldlM→Vs,getD_eq_getElem?_getD→Dn,getElem?_cons_succ→qp,getElem?_cons_zero→mo,getElem?_eq_getElem→pn,getElem?_eq_none→Rn,getElem?_eq_some_iff→Mn,getElem?_map→Qo,getElem?_set→rp,getElem_mem→On,length_cons→jo,length_map→Oo,length_nil→vq,map_cons→Vn,map_nil→cr,mem_append→Fo,mem_cons→oo,mem_map_of_mem→Zr,mem_of_getElem?→Bo,nil_append→Jo,nodup_cons→ur,not_mem_nil→Nr,replicate→yn,replicate_succ→jq,replicate_zero→vr,take_add→Us,take_length→Ho,take_of_length_le→Hq
open List.cons renaming injEq→Ap
open Nat renaming add_comm→Yo,add_sub_cancel_left→Vp,add_zero→ep,beq→Wn,beq_eq→xq,le_refl→En,lt_or_ge→vo,lt_succ_self→jr,not_lt_zero→Rr,rec→Ws,sub_zero→Nq,succ_mul→yr,zero_add→oq,zero_le→Jp,zero_lt_succ→Ks
open Option renaming bind_eq_some_iff→Ep,bind_some→nn,map_eq_some_iff→sn,map_some→lp
open Option.some renaming inj→eo,injEq→An
open Prod renaming fst→br
open Prod.mk renaming injEq→Bn
set_option linter.all false
namespace Go.Tm
def eqV:Value→Value→Bool
 |.int j a,.int k b=>j==k&&a==b
 |.bool a,.bool b=>a==b
 |.string a,.string b=>a==b
 |.slice none 0 0,.slice none 0 0=>true
 |.pointer none,.pointer none=>true
 |.map none,.map none=>true
 |.nilFunc,.nilFunc=>true
 |.nilIface,.nilIface=>true
 |.tuple ⟨[]⟩,.tuple ⟨[]⟩=>true
 |_,_=>false
theorem eqV_eq{a b:Value}(h:eqV a b=true):a=b:=by
 unfold eqV at h;split at h
 ·simp at h;rw[h.1,h.2]
 ·simp at h;rw[h]
 ·rw[bytes_beq h]
 all_goals first|rfl|cases h
mutual
def eqD:D→D→Bool
 |.v a,.v b=>eqV a b
 |.agg a,.agg b=>eqDs a b
 |.tup a,.tup b=>eqDs a b
 |.sl S a,.sl T b=>S==T&&eqDs a b
 |.pt a,.pt b=>eqD a b
 |.ref a b c d,.ref e f g h=>a==e&&b==f&&c==g&&d==h
 |.own a b,.own c d=>a==c&&b==d
 |.view a b c d,.view e f g h=>a==e&&b==f&&c==g&&d==h
 |.fn f a b,.fn g c d=>f==g&&eqDs a c&&eqDs b d
 |.mp a,.mp b=>a==b
 |.ifc t a,.ifc u b=>t==u&&eqD a b
 |.dead,.dead=>true
 |_,_=>false
def eqDs:List D→List D→Bool
 |[],[]=>true
 |a::l,b::r=>eqD a b&&eqDs l r
 |_,_=>false
end
mutual
theorem eqD_eq:∀{a b:D},eqD a b=true→a=b
 |.v a,b,h=>by cases b<;>simp only[eqD,tn]at h;rw[eqV_eq h]
 |.agg a,b,h=>by cases b<;>simp only[eqD,tn]at h;rw[eqDs_eq h]
 |.tup a,b,h=>by cases b<;>simp only[eqD,tn]at h;rw[eqDs_eq h]
 |.sl S a,b,h=>by cases b<;>simp only[eqD,tn,xn,beq_iff_eq]at h;rw[h.1,eqDs_eq h.2]
 |.pt a,b,h=>by cases b<;>simp only[eqD,tn]at h;rw[eqD_eq h]
 |.ref ..,b,h=>by cases b<;>simp[eqD]at h;simp[h]
 |.own ..,b,h=>by cases b<;>simp[eqD]at h;simp[h]
 |.view ..,b,h=>by cases b<;>simp[eqD]at h;simp[h]
 |.fn f x y,b,h=>by cases b<;>simp only[eqD,tn,xn,beq_iff_eq]at h;rw[h.1.1,eqDs_eq h.1.2,eqDs_eq h.2]
 |.mp ..,b,h=>by cases b<;>simp[eqD]at h;simp[h]
 |.ifc t x,b,h=>by cases b<;>simp only[eqD,tn,xn,beq_iff_eq]at h;rw[h.1,eqD_eq h.2]
 |.dead,b,h=>by cases b<;>simp[eqD]at h;rfl
theorem eqDs_eq:∀{a b:List D},eqDs a b=true→a=b
 |[],b,h=>by cases b<;>simp[eqDs]at h;rfl
 |a::l,b,h=>by
  cases b<;>simp only[eqDs,tn,xn]at h;rw[eqD_eq h.1,eqDs_eq h.2]
end
def eqKs:List (Value×D)→List (Value×D)→Bool
 |[],[]=>true
 |(a,d)::l,(b,e)::r=>eqV a b&&eqD d e&&eqKs l r
 |_,_=>false
theorem eqKs_eq:∀{a b:List (Value×D)},eqKs a b=true→a=b
 |[],b,h=>by cases b<;>simp[eqKs]at h;rfl
 |(a,d)::l,b,h=>by
  cases b with
  |nil=>simp[eqKs]at h
  |cons p r=>
   obtain⟨b,e⟩:=p;simp only[eqKs,xn]at h;rw[eqV_eq h.1.1,eqD_eq h.1.2,eqKs_eq h.2]
def eqEnt:Ent→Ent→Bool
 |.live a b l,.live c d r=>a==c&&b==d&&eqDs l r
 |.mp a,.mp b=>eqKs a b
 |.gone,.gone=>true
 |_,_=>false
theorem eqEnt_eq{a b:Ent}(h:eqEnt a b=true):a=b:=by
 cases a<;>cases b<;>simp only[eqEnt,tn,xn,beq_iff_eq]at h
 ·rw[h.1.1,h.1.2,eqDs_eq h.2]
 ·rw[eqKs_eq h]
 ·rfl
def eqEnts:List Ent→List Ent→Bool
 |[],[]=>true
 |a::l,b::r=>eqEnt a b&&eqEnts l r
 |_,_=>false
theorem eqEnts_eq:∀{a b:List Ent},eqEnts a b=true→a=b
 |[],b,h=>by cases b<;>simp[eqEnts]at h;rfl
 |a::l,b,h=>by
  cases b<;>simp only[eqEnts,tn,xn]at h;rw[eqEnt_eq h.1,eqEnts_eq h.2]
def eqSt(s t:St):Bool:=eqDs s.t t.t&&eqEnts s.m t.m
theorem eqSt_eq{s t:St}(h:eqSt s t=true):s=t:=by
 simp only[eqSt,xn]at h;have h1:=eqDs_eq h.1;have h2:=eqEnts_eq h.2;cases s;cases t;simp only at h1 h2;rw[h1,h2]
inductive W where
 |c (c:C)
 |l (l:List RI)
 |an (q:Nat) (bs:List (List Nat)) (l:List RI)
 |yo (pl:List (Option Nat)) (ps fp:List (List Nat)) (q:Nat) (l:List RI)
 |f (k:Nat) (ds:List D)
 |p (k:Nat) (ds:List D)
 |q (k:Nat) (ds:List D)
 |w (p k:Nat) (ds:List D)
def wEnd(S ver:Nat) (d:D) (m':List Ent):Option (D×Ent):=
 match (m'[0]?:Option Ent)with
 |some (.live S' v l1)=>bif Wn S' S&&Wn v 0 then some (froz 8 (m'.set 0 .gone) d,.live S ver (l1.map (froz 8 (m'.set 0 .gone))))else none
 |_=>none
def wOk(s:St) (p:Nat) (g:Option (Tmp×Bool)) (ids:List Nat):Bool:=g.isNone&&ids.elem p&&ids.all fun id=>decide (id<s.m.length)
def stepOp(s:St) (dst:Option Tmp) (g:Option (Tmp×Bool)) (i:I):Option St:=
 match gate s g with
 |none=>none
 |some none=>
  match evalI s i with
  |some (d,m')=>some ({ s with m:=m' }.put dst d)
  |none=>none
 |some (some (c,b))=>
  if c=b then
   match evalI s i with
   |some (d,m')=>some ({ s with m:=m' }.put dst d)
   |none=>none
  else some (s.put dst (.v undef))
def gateOn(s:St) (g:Option (Tmp×Bool)):Option Bool:=
 match gate s g with
 |none=>none
 |some none=>some true
 |some (some (c,b))=>some (c==b)
def ended(F:Fun):Option (Exit×St)→Option (D×List Ent)
 |some (.normal,s)|some (.ret,s)=>
  match ressD s F.results with
  |some es=>some (tupD es,s.m)
  |none=>none
 |_=>none
def conD:List D→Option D
 |[.v (.string a),.v (.string b)]=>
  match b.data.toList with
  |[c]=>some (.v (.bool (a.data.toList.contains c)))
  |_=>none
 |_=>none
def SaidOk(P:Program) (md:Nat→Nat) (O:Nat→List D→Option D):Prop:=∀k,3≤md k→∀ds d m,O k ds=some d→CallT P k ds m fun d' m'=>d'=d∧m'=m
def run(FT:Nat→Option (Fun×Nat)) (O:Nat→List D→Option D):Nat→W→St→Option (Exit×St)
 |0,_,_=>none
 |_+1,.c .skip,s=>some (.normal,s)
 |n+1,.c (.reg l),s=>run FT O n (.l l) s
 |n+1,.c (.draw q l),s=>
  if((l.take q).filterMap (wcell FT s)).isEmpty=true then run FT O n (.yo [] [] [] q l) s
  else if plB (frzW FT (l.take q) s).m (wpl FT (l.take q) s)=true then run FT O n (.yo (wpl FT (l.take q) s) (allPairs q) [] q l) (frzW FT (l.take q) s)
  else none
 |n+1,.c (.any _ q bs l),s=>run FT O n (.an q bs l) (frzAll FT l (l.take q) (adoptAll l (l.take q) s))
 |n+1,.c (.seq a b),s=>
  match run FT O n (.c a) s with
  |some (.normal,s')=>run FT O n (.c b) s'
  |r=>r
 |n+1,.c (.cond c a b),s=>
  match s.ev c with
  |.v (.bool true)=>run FT O n (.c a) s
  |.v (.bool false)=>run FT O n (.c b) s
  |_=>none
 |n+1,.c (.block id a),s=>
  match run FT O n (.c a) s with
  |some (.exit j,s')=>if j=id then some (.normal,s')else some (.exit j,s')
  |r=>r
 |n+1,.c (.loop a),s=>
  match run FT O n (.c a) s with
  |some (.normal,s')=>run FT O n (.c (.loop a)) s'
  |r=>r
 |_+1,.c (.exit id),s=>some (.exit id,s)
 |_+1,.c .ret,s=>some (.ret,s)
 |_+1,.c .stuck,_=>none
 |_+1,.l [],s=>some (.normal,s)
 |n+1,.l (.op dst g i::l),s=>
  match stepOp s dst g i with
  |some s'=>run FT O n (.l l) s'
  |none=>none
 |n+1,.l (.call dst g f args::l),s=>
  match s.ec f with
  |.fn k first caps=>
   match gateOn s g with
   |some true=>
    match run FT O n (.f k (first++args.map s.ev++caps)) s with
    |some (_,⟨[d],m'⟩)=>run FT O n (.l l) ({ s with m:=m' }.put dst d)
    |_=>none
   |some false=>run FT O n (.l l) (s.put dst (.v undef))
   |none=>none
  |_=>
   match gateOn s g with
   |some false=>run FT O n (.l l) (s.put dst (.v undef))
   |_=>none
 |n+1,.an q bs l,s=>
  if(drawOkO bs l q (pairsO bs q l (places (l.take q) s.m.length)) (places (l.take q) s.m.length)&&plB (s.m++(placeS (l.take q)).map fun S=>.live S 0 []) (places (l.take q) s.m.length))=true then
   run FT O n (.yo (places (l.take q) s.m.length) (pairsO bs q l (places (l.take q) s.m.length)) [] q l) ⟨s.t,s.m++(placeS (l.take q)).map fun S=>.live S 0 []⟩
  else none
 |n+1,.yo _ _ _ 0 l,s=>run FT O n (.l l) s
 |_+1,.yo _ _ _ (_+1) [],_=>none
 |n+1,.yo pl ps fp (q+1) (.op dst g i::l),s=>
  match pl.headD none with
  |some p=>
   match g with
   |none=>
    match fillI s p i with
    |some (d,e)=>if apB fp [p] (ps.headD [])=true then run FT O n (.yo pl.tail ps.tail (fp++[[p]]) q l) (({ s with m:=s.m.set p e }:St).put dst d)else none
    |none=>none
   |some _=>none
  |none=>
   if(apB fp (rid s (.op dst g i)) (ps.headD [])&&setB s i)=true then
    match stepOp s dst g i with
    |some s'=>run FT O n (.yo pl.tail ps.tail (fp++[rid s (.op dst g i)]) q l) s'
    |none=>none
   else none
 |n+1,.yo pl ps fp (q+1) (.call dst g f args::l),s=>
  match pl.headD none,s.cv f with
  |some p,.fn k first caps=>
   if(apB fp (topsD s args) (ps.headD [])&&wOk s p g (topsD s args))=true then
    match run FT O n (.w p k (first++args.map s.ev++caps)) s with
    |some (_,⟨[d],[e]⟩)=>run FT O n (.yo pl.tail ps.tail (fp++[topsD s args]) q l) (({ s with m:=s.m.set p e }:St).put dst d)
    |_=>none
   else none
  |none,.fn k first caps=>
   if(apB fp (topsD s args) (ps.headD [])&&(idfrees first&&idfrees caps))=true then
    match gateOn s g with
    |some true=>
     match run FT O n (.q k (first++args.map s.ev++caps)) s with
     |some (_,⟨[d],_⟩)=>run FT O n (.yo pl.tail ps.tail (fp++[topsD s args]) q l) (s.put dst d)
     |_=>none
    |some false=>run FT O n (.yo pl.tail ps.tail (fp++[topsD s args]) q l) (s.put dst (.v undef))
    |none=>none
   else none
  |none,_=>
   if apB fp (topsD s args) (ps.headD [])=true then
    match gateOn s g with
    |some false=>run FT O n (.yo pl.tail ps.tail (fp++[topsD s args]) q l) (s.put dst (.v undef))
    |_=>none
   else none
  |_,_=>none
 |n+1,.f k ds,s=>
  match FT k with
  |some (F,0)=>
   match ended F (run FT O n (.c F.code) ⟨ds++yn (F.ntmps-ds.length) .dead,s.m⟩)with
   |some (d,m')=>some (.normal,⟨[d],m'⟩)
   |none=>none
  |some (F,1)=>
   if idfrees ds=true then
    match run FT O n (.p k ds) s with
    |some (_,⟨[d],_⟩)=>some (.normal,⟨[d],s.m⟩)
    |_=>none
   else
    match ended F (run FT O n (.c F.code) ⟨ds++yn (F.ntmps-ds.length) .dead,s.m⟩)with
    |some (d,m')=>some (.normal,⟨[d],m'⟩)
    |none=>none
  |some (F,2)=>
   match ended F (run FT O n (.c F.code) ⟨ds.map (froz 8 s.m)++yn (F.ntmps-ds.length) .dead,[]⟩)with
   |some (d,m')=>
    match lent m' d with
    |some d=>some (.normal,⟨[d],s.m⟩)
    |none=>none
   |none=>none
  |some (_,_+3)=>
   match O k ds with
   |some d=>some (.normal,⟨[d],s.m⟩)
   |none=>none
  |none=>none
 |n+1,.p k ds,_=>
  match FT k with
  |some (_,_+3)=>
   match O k ds with
   |some d=>some (.normal,⟨[d],[]⟩)
   |none=>none
  |some (F,_)=>
   if idfrees ds=true then
    match ended F (run FT O n (.c F.code) ⟨ds++yn (F.ntmps-ds.length) .dead,[]⟩)with
    |some (d,m')=>some (.normal,⟨[froz 8 m' d],[]⟩)
    |none=>none
   else none
  |none=>none
 |n+1,.q k ds,s=>
  if idfrees ds=true then run FT O n (.p k ds) s
  else
   match FT k with
   |some (F,_)=>
    if lendOk s.m ds=true then
     match ended F (run FT O n (.c F.code) ⟨ds.map (froz 8 s.m)++yn (F.ntmps-ds.length) .dead,[]⟩)with
     |some (d,m')=>
      match lent m' d with
      |some d=>some (.normal,⟨[d],[]⟩)
      |none=>none
     |none=>none
    else none
   |none=>none
 |n+1,.w p k ds,s=>
  match FT k,s.m[p]? with
  |some (F,_),some (.live S ver l)=>
   if idfrees l=true then
    match ended F (run FT O n (.c F.code) ⟨ds.map (reref p ver)++yn (F.ntmps-ds.length) .dead,[.live S 0 l]⟩)with
    |some (d,m')=>
     match wEnd S ver d m' with
     |some (d,e)=>some (.normal,⟨[d],[e]⟩)
     |none=>none
    |none=>none
   else none
  |_,_=>none
section
variable {P:Program} {FT:Nat→Option (Fun×Nat)} {O:Nat→List D→Option D}
theorem regT_step{dst:Option Tmp}{g:Option (Tmp×Bool)}{i:I}{l:List RI}{K:St→Prop}{s s':St}(h:stepOp s dst g i=some s') (hK:RegT P l K s'):RegT P (.op dst g i::l) K s:=by
 unfold stepOp at h;simp only[RegT];split at h
 ·cases h
 ·rename_i hg;rw[hg];split at h
  ·rename_i d m' he;injection h with h;subst h;exact⟨d,m',he,hK⟩
  ·cases h
 ·rename_i c b hg;rw[hg];split at h
  ·rename_i hcb;split at h
   ·rename_i d m' he;injection h with h;subst h;exact⟨fun _=>⟨d,m',he,hK⟩,fun hne=>(hne hcb).elim⟩
   ·cases h
  ·rename_i hcb;injection h with h;subst h;exact⟨fun e=>(hcb e).elim,fun _=>hK⟩
theorem drTO_step{dst:Option Tmp}{g:Option (Tmp×Bool)}{i:I}{q:Nat}{l:List RI}{pl:List (Option Nat)}{ps fp:List (List Nat)}{K:St→Prop}{s s':St}(hp:pl.headD none=none) (ha:apB fp (rid s (.op dst g i)) (ps.headD [])=true) (hb:setB s i=true) (h:stepOp s dst g i=some s')
 (hK:DrTO P pl.tail ps.tail (fp++[rid s (.op dst g i)]) q l K s'):DrTO P pl ps fp (q+1) (.op dst g i::l) K s:=by
 unfold stepOp at h;simp only[DrTO,hp];refine⟨ha,?_⟩;split at h
 ·cases h
 ·rename_i hg;rw[hg];split at h
  ·rename_i d m' he;injection h with h;subst h;exact⟨d,m',hb,he,hK⟩
  ·cases h
 ·rename_i c b hg;rw[hg];split at h
  ·rename_i hcb;split at h
   ·rename_i d m' he;injection h with h;subst h;exact⟨fun _=>⟨d,m',hb,he,hK⟩,fun hne=>(hne hcb).elim⟩
   ·cases h
  ·rename_i hcb;injection h with h;subst h;exact⟨fun e=>(hcb e).elim,fun _=>hK⟩
def Say(P:Program) (FT:Nat→Option (Fun×Nat)) (e:Exit) (s':St):W→St→Prop
 |.c c,s=>∀N,T P N c (fun e' s''=>e'=e∧s''=s') s
 |.l l,s=>e=.normal∧RegT P l (fun s''=>s''=s') s
 |.an q bs l,s=>∀N cuts,T P N (.any cuts q bs l) (fun e' s''=>e'=e∧s''=s') s
 |.yo pl ps fp q l,s=>e=.normal∧DrTO P pl ps fp q l (fun s''=>s''=s') s
 |.f k ds,s=>∀d,s'.t=[d]→CallT P k ds s.m fun d' m'=>d'=d∧m'=s'.m
 |.p k ds,_=>∀d,s'.t=[d]→∀m,CallT P k ds m fun d' m'=>d'=d∧m'=m
 |.w p k ds,s=>∀d e,s'.t=[d]→s'.m=[e]→∀m,m[p]?=s.m[p]?→CallT P k ds m fun d' m'=>d'=d∧m'=m.set p e
 |.q k ds,s=>∀d,s'.t=[d]→(∀id∈idsDs ds,id<s.m.length)∧∀m,(∀id∈idsDs ds,m[id]?=s.m[id]?)→CallT P k ds m fun d' m'=>d'=d∧m'=m
theorem ended_end{F:Fun}{r:Option (Exit×St)}{d:D}{m':List Ent}(h:ended F r=some (d,m')):∃e s,r=some (e,s)∧∀(R:D→List Ent→Prop),R d m'→EndT F.results R e s:=by
 unfold ended at h;split at h
 ·rename_i s;split at h
  ·rename_i es hes;injection h with h;injection h with h1 h2;subst h1;subst h2;exact⟨_,s,rfl,fun R hR=>⟨es,hes,hR⟩⟩
  ·cases h
 ·rename_i s;split at h
  ·rename_i es hes;injection h with h;injection h with h1 h2;subst h1;subst h2;exact⟨_,s,rfl,fun R hR=>⟨es,hes,hR⟩⟩
  ·cases h
 ·cases h
theorem call_ended(hFT:∀k F md,FT k=some (F,md)→compF P k=some F∧((P.funcs[k]?).map fun fn=>fn.name == "runtime.NumGoroutine")=some false) {n:Nat}
 (ih:∀w s e s',run FT O n w s=some (e,s')→Say P FT e s' w s) {k:Nat} {F:Fun} {md:Nat} (hk:FT k=some (F,md)) {ds:List D} {m:List Ent} {d:D} {m':List Ent}
 (h:ended F (run FT O n (.c F.code) ⟨ds++yn (F.ntmps-ds.length) .dead,m⟩)=some (d,m')):CallT P k ds m fun d' m''=>d'=d∧m''=m':=by
 obtain⟨e,s,hr,hE⟩:=ended_end h;obtain⟨h1,h2⟩:=hFT k F md hk;have:=ih _ _ _ _ hr;simp only[Say]at this;refine callT_of h1 h2 ((this m.length).mono ?_);rintro e' s'' ⟨rfl,rfl⟩;exact hE _ ⟨rfl,rfl⟩
theorem run_sound(hmix:P.follows .mixedOrders=true) (hFT:∀k F md,FT k=some (F,md)→compF P k=some F∧((P.funcs[k]?).map fun fn=>fn.name == "runtime.NumGoroutine")=some false)
 (hO:∀k F md,FT k=some (F,md+3)→∀ds d m,O k ds=some d→CallT P k ds m fun d' m'=>d'=d∧m'=m) :
 ∀(n:Nat) (w:W) (s:St) (e:Exit) (s':St),run FT O n w s=some (e,s')→Say P FT e s' w s:=by
 intro n
 induction n using Nat.strongRecOn with
 |_ n ih=>
 cases n with
 |zero=>intro w s e s' h;simp[run]at h
 |succ n=>
 have ihn:=ih n (jr n);intro w s e s' h
 cases w with
 |c c=>
  cases c with
  |skip=>
   simp only[run,An,Bn]at h;obtain⟨rfl,rfl⟩:=h;exact fun N=>T.skip ⟨rfl,rfl⟩
  |reg l=>
   simp only[run]at h;obtain⟨rfl,hr⟩:=ihn _ _ _ _ h;exact fun N=>T.reg (regT_mono (fun s'' hs=>⟨rfl,hs⟩) hr)
  |draw q l=>
   simp only[run]at h;split at h
   ·obtain⟨rfl,hr⟩:=ihn _ _ _ _ h;refine fun N=>T.drawO hmix ?_;have he:(fun s''=>s''=s')=(fun s''=>Exit.normal=Exit.normal∧s''=s'):=by funext x;simp
    rw[he]at hr;exact hr
   ·split at h
    ·rename_i hpl;obtain⟨rfl,hr⟩:=ihn _ _ _ _ h;refine frzTree_T fun N=>T.drawP hmix (allPairs q) _ wpl_call allPairs_ok hpl ?_;have he:(fun s''=>s''=s')=(fun s''=>Exit.normal=Exit.normal∧s''=s'):=by funext x;simp
     rw[he]at hr;exact hr
    ·cases h
  |any cuts q bs l=>
   simp only[run]at h;have hr:=ihn _ _ _ _ h;simp only[Say]at hr;intro N;exact adoptAll_T (frzAll_T (fun N=>hr N cuts) N)
  |seq a b=>
   simp only[run]at h;split at h
   ·rename_i s1 h1;have hb:=ihn _ _ _ _ h;have ha:=ihn _ _ _ _ h1;simp only[Say]at ha hb;refine fun N=>T.seq ((ha N).mono ?_);rintro e' s'' ⟨rfl,rfl⟩;exact hb N
   ·rename_i hne;have ha:=ihn _ _ _ _ h;simp only[Say]at ha;refine fun N=>T.seq ((ha N).mono ?_);rintro e' s'' ⟨rfl,rfl⟩
    cases e' with
    |normal=>exact(hne _ h).elim
    |_=>exact⟨rfl,rfl⟩
  |cond c a b=>
   simp only[run]at h;split at h
   ·rename_i hc;have ha:=ihn _ _ _ _ h;simp only[Say]at ha;exact fun N=>T.cond hc (fun _=>ha N) (fun e=>by cases e)
   ·rename_i hc;have ha:=ihn _ _ _ _ h;simp only[Say]at ha;exact fun N=>T.cond hc (fun e=>by cases e) (fun _=>ha N)
   ·cases h
  |block id a=>
   simp only[run]at h;split at h
   ·rename_i j s1 h1;have ha:=ihn _ _ _ _ h1;simp only[Say]at ha;refine fun N=>T.block ((ha N).mono ?_);rintro e' s'' ⟨rfl,rfl⟩;simp only;split at h<;>rename_i hj<;>simp only[An,Bn]at h<;>obtain⟨rfl,rfl⟩:=h
    ·rw[if_pos hj];exact⟨rfl,rfl⟩
    ·rw[if_neg hj];exact⟨rfl,rfl⟩
   ·rename_i hne;have ha:=ihn _ _ _ _ h;simp only[Say]at ha;refine fun N=>T.block ((ha N).mono ?_);rintro e' s'' ⟨rfl,rfl⟩
    cases e' with
    |exit j=>exact(hne _ _ h).elim
    |_=>exact⟨rfl,rfl⟩
  |loop a=>
   intro N;refine T.loopI (J:=fun y s1=>y≤n+1∧run FT O y (.c (.loop a)) s1=some (e,s')) (fun y=>y) (n+1) ⟨En _,h⟩ ?_;rintro y s1 ⟨hy,hr⟩
   cases y with
   |zero=>simp[run]at hr
   |succ y=>
    simp only[run]at hr;have ihy:=ih y (by omega);split at hr
    ·rename_i s2 h2;have ha:=ihy _ _ _ _ h2;simp only[Say]at ha;refine(ha N).mono ?_;rintro e' s'' ⟨rfl,rfl⟩;exact⟨y,⟨by omega,hr⟩,by simp⟩
    ·rename_i hne;have ha:=ihy _ _ _ _ hr;simp only[Say]at ha;refine(ha N).mono ?_;rintro e' s'' ⟨rfl,rfl⟩
     cases e' with
     |normal=>exact(hne _ hr).elim
     |_=>exact⟨rfl,rfl⟩
  |exit id=>
   simp only[run,An,Bn]at h;obtain⟨rfl,rfl⟩:=h;exact fun N=>T.exit ⟨rfl,rfl⟩
  |ret=>
   simp only[run,An,Bn]at h;obtain⟨rfl,rfl⟩:=h;exact fun N=>T.ret ⟨rfl,rfl⟩
  |stuck=>simp[run]at h
 |l l=>
  cases l with
  |nil=>
   simp only[run,An,Bn]at h;obtain⟨rfl,rfl⟩:=h;exact⟨rfl,rfl⟩
  |cons r l=>
   cases r with
   |op dst g i=>
    simp only[run]at h;split at h
    ·rename_i s1 h1;obtain⟨rfl,hr⟩:=ihn _ _ _ _ h;exact⟨rfl,regT_step h1 hr⟩
    ·cases h
   |call dst g f args=>
    simp only[run]at h;split at h
    ·rename_i k first caps hf
     unfold gateOn at h;simp only[Say,RegT,hf];split at h
     ·rename_i hg;split at hg
      ·cases hg
      ·rename_i hgt;rw[hgt];split at h
       ·rename_i d m' hc;obtain⟨rfl,hr⟩:=ihn _ _ _ _ h;have:=ihn _ _ _ _ hc;simp only[Say]at this;refine⟨rfl,(this d rfl).mono ?_⟩;rintro d' m'' ⟨rfl,rfl⟩;exact hr
       ·cases h
      ·rename_i c b hgt;rw[hgt];simp only[An,beq_iff_eq]at hg;split at h
       ·rename_i d m' hc;obtain⟨rfl,hr⟩:=ihn _ _ _ _ h;have:=ihn _ _ _ _ hc;simp only[Say]at this;refine⟨rfl,fun _=>(this d rfl).mono ?_,fun hne=>(hne hg).elim⟩;rintro d' m'' ⟨rfl,rfl⟩;exact hr
       ·cases h
     ·rename_i hg;split at hg
      ·cases hg
      ·cases hg
      ·rename_i c b hgt;rw[hgt];simp only[An,beq_eq_false_iff_ne,ne_eq]at hg;obtain⟨rfl,hr⟩:=ihn _ _ _ _ h;exact⟨rfl,fun e=>(hg e).elim,fun _=>hr⟩
     ·cases h
    ·rename_i hnf;split at h
     ·rename_i hg;obtain⟨rfl,hr⟩:=ihn _ _ _ _ h;refine⟨rfl,?_⟩;unfold gateOn at hg;split at hg
      ·cases hg
      ·cases hg
      ·rename_i c b hgt;simp only[An,beq_eq_false_iff_ne,ne_eq]at hg;simp only[RegT]
       cases hf:s.ec f with
       |fn k first caps=>exact absurd hf (hnf k first caps)
       |_=>simp only[hgt];exact⟨hg,hr⟩
     ·cases h
 |an q bs l=>
  simp only[run]at h;split at h
  ·rename_i hok;rw[xn]at hok;obtain⟨rfl,hr⟩:=ihn _ _ _ _ h;intro N cuts;refine T.addEs (placeS (l.take q)) ?_;refine T.anyO hmix _ _ hok.1 hok.2 ?_;have he:(fun s''=>s''=s')=(fun s''=>Exit.normal=Exit.normal∧s''=s'):=by funext x;simp
   rw[he]at hr;exact hr
  ·cases h
 |yo pl ps fp q l=>
  cases q with
  |zero=>
   simp only[run]at h;obtain⟨rfl,hr⟩:=ihn _ _ _ _ h;exact⟨rfl,by simpa only[DrTO] using hr⟩
  |succ q=>
   cases l with
   |nil=>simp[run]at h
   |cons r l=>
    cases r with
    |op dst g i=>
     simp only[run]at h;split at h
     ·rename_i p hp;split at h
      ·split at h
       ·rename_i d e1 hf;split at h
        ·rename_i hap;obtain⟨rfl,hr⟩:=ihn _ _ _ _ h;refine⟨rfl,?_⟩;simp only[DrTO,hp];exact⟨hap,trivial,d,e1,hf,hr⟩
        ·cases h
       ·cases h
      ·cases h
     ·rename_i hp;split at h
      ·rename_i hap;rw[xn]at hap;split at h
       ·rename_i s1 h1;obtain⟨rfl,hr⟩:=ihn _ _ _ _ h;exact⟨rfl,drTO_step hp hap.1 hap.2 h1 hr⟩
       ·cases h
      ·cases h
    |call dst g f args=>
     simp only[run]at h;split at h
     ·rename_i p k first caps hp hf
      split at h
      ·rename_i hap;simp only[wOk,xn,qo,decide_eq_true_eq,Option.isNone_iff_eq_none]at hap;obtain⟨hap,⟨rfl,hpt⟩,hids⟩:=hap;have hpt':p∈topsD s args:=by simpa using hpt
       split at h
       ·rename_i d e1 hc;obtain⟨rfl,hr⟩:=ihn _ _ _ _ h;have:=ihn _ _ _ _ hc;simp only[Say]at this;refine⟨rfl,?_⟩;simp only[DrTO,hp,hf];exact⟨trivial,hpt',hap,d,e1,⟨hids,fun m hm=>this d e1 rfl rfl m (hm p hpt')⟩,hr⟩
       ·cases h
      ·cases h
     ·rename_i k first caps hp hf
      split at h
      ·rename_i hap;simp only[xn]at hap;obtain⟨hap,hi1,hi2⟩:=hap;have hids:idsDs (first++args.map s.ev++caps)=topsD s args:=by
        have happ:∀a b:List D,idsDs (a++b)=idsDs a++idsDs b:=by
         intro a b
         induction a with
         |nil=>rfl
         |cons x a ih=>simp only[xo,idsDs,ih,List.append_assoc]
        rw[happ,happ,ids_free hi1,ids_free hi2,topsD_map];simp
       unfold gateOn at h;simp only[Say,DrTO,hp,hf];split at h
       ·rename_i hg;split at hg
        ·cases hg
        ·rename_i hgt;rw[hgt];split at h
         ·rename_i d m' hc;obtain⟨rfl,hr⟩:=ihn _ _ _ _ h;have:=ihn _ _ _ _ hc;simp only[Say,hids]at this;exact⟨rfl,hap,d,this d rfl,hr⟩
         ·cases h
        ·rename_i c b hgt;rw[hgt];simp only[An,beq_iff_eq]at hg;split at h
         ·rename_i d m' hc;obtain⟨rfl,hr⟩:=ihn _ _ _ _ h;have:=ihn _ _ _ _ hc;simp only[Say,hids]at this;exact⟨rfl,hap,fun _=>⟨d,this d rfl,hr⟩,fun hne=>(hne hg).elim⟩
         ·cases h
       ·rename_i hg;split at hg
        ·cases hg
        ·cases hg
        ·rename_i c b hgt;rw[hgt];simp only[An,beq_eq_false_iff_ne,ne_eq]at hg;obtain⟨rfl,hr⟩:=ihn _ _ _ _ h;exact⟨rfl,hap,fun e=>(hg e).elim,fun _=>hr⟩
       ·cases h
      ·cases h
     ·rename_i hp hnf;split at h
      ·rename_i hap;split at h
       ·rename_i hg;obtain⟨rfl,hr⟩:=ihn _ _ _ _ h;refine⟨rfl,?_⟩;have hoff:∃c b,gate s g=some (some (c,b))∧c≠b:=by
         unfold gateOn at hg;split at hg
         ·cases hg
         ·cases hg
         ·rename_i c b hgt;simp only[An,beq_eq_false_iff_ne,ne_eq]at hg;exact⟨c,b,hgt,hg⟩
        simp only[DrTO,hp]
        cases hf:s.cv f with
        |fn k first caps=>exact absurd hf (hnf k first caps)
        |_=>exact⟨hap,hoff,hr⟩
       ·cases h
      ·cases h
     ·cases h
 |f k ds=>
  simp only[run]at h;split at h
  ·rename_i F hk;split at h
   ·rename_i d m' hE;simp only[An,Bn]at h;obtain⟨rfl,rfl⟩:=h;intro d0 hd0;simp only[Ap,and_true]at hd0;subst hd0;exact call_ended hFT ihn hk hE
   ·cases h
  ·rename_i F hk;split at h
   ·split at h
    ·rename_i e1 d m1 hp;simp only[An,Bn]at h;obtain⟨rfl,rfl⟩:=h;intro d0 hd0;simp only[Ap,and_true]at hd0;subst hd0;exact ihn _ _ _ _ hp d rfl s.m
    ·cases h
   ·split at h
    ·rename_i d m' hE;simp only[An,Bn]at h;obtain⟨rfl,rfl⟩:=h;intro d0 hd0;simp only[Ap,and_true]at hd0;subst hd0;exact call_ended hFT ihn hk hE
    ·cases h
  ·rename_i F hk;split at h
   ·rename_i d m' hE;split at h
    ·rename_i d2 hl;simp only[An,Bn]at h;obtain⟨rfl,rfl⟩:=h;intro d0 hd0;simp only[Ap,and_true]at hd0;subst hd0;exact callL_of 8 hl (call_ended hFT ihn hk (by simpa using hE))
    ·cases h
   ·cases h
  ·rename_i F md hk;split at h
   ·rename_i d hc;simp only[An,Bn]at h;obtain⟨rfl,rfl⟩:=h;intro d0 hd0;simp only[Ap,and_true]at hd0;subst hd0;exact hO _ _ _ hk _ _ _ hc
   ·cases h
  ·cases h
 |p k ds=>
  simp only[run]at h;split at h
  ·rename_i F md hk;split at h
   ·rename_i d hc;simp only[An,Bn]at h;obtain⟨rfl,rfl⟩:=h;intro d0 hd0 m;simp only[Ap,and_true]at hd0;subst hd0;exact hO _ _ _ hk _ _ _ hc
   ·cases h
  ·rename_i F md _ hk;split at h
   ·rename_i hid;split at h
    ·rename_i d m' hE;simp only[An,Bn]at h;obtain⟨rfl,rfl⟩:=h;intro d0 hd0 m;simp only[Ap,and_true]at hd0;subst hd0;have hc:=call_ended hFT ihn hk hE;refine(callP_of (R:=fun d'=>d'=froz 8 m' d) 8 hid (hc.mono ?_) m).mono ?_
     ·rintro d' m'' ⟨rfl,rfl⟩;rfl
     ·rintro d' m'' ⟨⟨h1,-⟩,h2⟩;exact⟨h1,h2⟩
    ·cases h
   ·cases h
  ·cases h
 |w p k ds=>
  simp only[run]at h;split at h
  ·rename_i F md S ver l hk hm;split at h
   ·rename_i hl;split at h
    ·rename_i d m' hE;split at h
     ·rename_i d2 e2 hw;simp only[An,Bn]at h;obtain⟨rfl,rfl⟩:=h;intro d0 e0 hd0 he0 m hm2;simp only[Ap,and_true]at hd0 he0;subst hd0;subst he0;unfold wEnd at hw;split at hw
      ·rename_i S' v l1 h0;cases hb:(Wn S' S&&Wn v 0)
       ·rw[hb]at hw;cases hw
       ·rw[hb]at hw;simp only[xn,xq]at hb;obtain⟨rfl,rfl⟩:=hb;simp only[cond_true,An,Bn]at hw;obtain⟨rfl,rfl⟩:=hw;exact callW_of (hm2.trans hm) hl h0 (call_ended hFT ihn hk (by simpa using hE))
      ·cases hw
     ·cases h
    ·cases h
   ·cases h
  ·cases h
 |q k ds=>
  simp only[run]at h;split at h
  ·rename_i hid;have:=ihn _ _ _ _ h;simp only[Say]at this⊢;intro d hd;rw[ids_free hid];exact⟨fun _ h=>absurd h Nr,fun m _=>this d hd m⟩
  ·split at h
   ·rename_i F md hk;split at h
    ·rename_i hlo;split at h
     ·rename_i d m' hE;split at h
      ·rename_i d2 hl;simp only[An,Bn]at h;obtain⟨rfl,rfl⟩:=h;intro d0 hd0;simp only[Ap,and_true]at hd0;subst hd0;refine⟨fun id hi=>?_,fun m hm=>?_⟩
       ·obtain⟨S,v,l,h1,-⟩:=lendOk_at hlo hi;exact(Mn.1 h1).1
       ·have hfz:ds.map (froz 8 m)=ds.map (froz 8 s.m):=frozs_agree 8 fun id hi=>by
         obtain⟨S,v,l,h1,h2⟩:=lendOk_at hlo hi;exact⟨hm id hi,S,v,l,h1,h2⟩
        refine callL_of 8 hl ?_;rw[hfz];exact call_ended hFT ihn hk (by simpa using hE)
      ·cases h
     ·cases h
    ·cases h
   ·cases h
def tabOf(L:List (Nat×Fun)) (md:Nat→Nat) (k:Nat):Option (Fun×Nat):=
 match L.lookup k with
 |some F=>some (F,md k)
 |none=>none
def TabOk(P:Program) (L:List (Nat×Fun)):Prop:=∀p∈L,compF P p.1=some p.2∧((P.funcs[p.1]?).map fun fn=>fn.name == "runtime.NumGoroutine")=some false
theorem lookup_mem{k:Nat}{F:Fun}:∀{L:List (Nat×Fun)},L.lookup k=some F→(k,F)∈L
 |[],h=>by simp at h
 |(j,G)::L,h=>by
  rw[List.lookup_cons]at h;split at h
  ·rename_i hk;injection h with h;have:=beq_iff_eq.1 hk;subst this;subst h;exact List.mem_cons_self
  ·exact List.mem_cons_of_mem _ (lookup_mem h)
theorem tabOf_ok{L:List (Nat×Fun)}{md:Nat→Nat}(h:TabOk P L):∀k F m,tabOf L md k=some (F,m)→compF P k=some F∧((P.funcs[k]?).map fun fn=>fn.name == "runtime.NumGoroutine")=some false:=by
 intro k F m hk;unfold tabOf at hk;split at hk
 ·rename_i G hG;injection hk with hk;injection hk with h1 h2;subst h1;exact h _ (lookup_mem hG)
 ·cases hk
theorem tabOf_said{L:List (Nat×Fun)}{md:Nat→Nat}(h:SaidOk P md O):∀k F m,tabOf L md k=some (F,m+3)→∀ds d m,O k ds=some d→CallT P k ds m fun d' m'=>d'=d∧m'=m:=by
 intro k F m hk;unfold tabOf at hk;split at hk
 ·injection hk with hk;injection hk with h1 h2;exact h k (by omega)
 ·cases hk
theorem call_runP(hmix:P.follows .mixedOrders=true) {L:List (Nat×Fun)}(hL:TabOk P L) {md:Nat→Nat}(hS:SaidOk P md O) (n:Nat) {k:Nat}{ds:List D}{d:D}
 (h:(match run (tabOf L md) O n (.p k ds) ⟨[],[]⟩with|some (_,s)=>eqSt s ⟨[d],[]⟩|none=>false)=true) (m:List Ent):CallT P k ds m fun d' m''=>d'=d∧m''=m:=by
 split at h
 ·rename_i e s hr;have:=eqSt_eq h;subst this;exact run_sound hmix (tabOf_ok hL) (tabOf_said hS) n _ _ _ _ hr d rfl m
 ·cases h
end
end Go.Tm
namespace Go.Tm
variable {α:Type}
def fNat(n:Nat) (f:Nat→α):α:=Ws (f 0) (fun k _=>f (k+1)) n
theorem fNat_eq(n:Nat) (f:Nat→α):fNat n f=f n:=by cases n<;>rfl
def fInt(n:Int) (f:Int→α):α:=
 match n with
 |.ofNat n=>fNat n fun n=>f (.ofNat n)
 |.negSucc n=>fNat n fun n=>f (.negSucc n)
theorem fInt_eq(n:Int) (f:Int→α):fInt n f=f n:=by cases n<;>simp[fInt,fNat_eq]
def fV(v:Value) (f:Value→α):α:=
 match v with
 |.int k n=>fInt n fun n=>match k with
  |.i8=>f (.int .i8 n)|.i16=>f (.int .i16 n)|.i32=>f (.int .i32 n)|.i64=>f (.int .i64 n)
  |.u8=>f (.int .u8 n)|.u16=>f (.int .u16 n)|.u32=>f (.int .u32 n)|.u64=>f (.int .u64 n)
 |.bool b=>match b with
  |true=>f (.bool true)
  |false=>f (.bool false)
 |v=>f v
theorem fV_eq(v:Value) (f:Value→α):fV v f=f v:=by
 cases v<;>simp only[fV]
 ·rename_i b;cases b<;>rfl
 ·rename_i k n;rw[fInt_eq];cases k<;>rfl
mutual
def fD(d:D) (f:D→α):α:=
 match d with
 |.v x=>fV x fun x=>f (.v x)
 |.agg l=>fDs l fun l=>f (.agg l)
 |.tup l=>fDs l fun l=>f (.tup l)
 |.sl S l=>fNat S fun S=>fDs l fun l=>f (.sl S l)
 |.pt d=>fD d fun d=>f (.pt d)
 |.ref a b c d=>fNat a fun a=>fNat b fun b=>fNat c fun c=>fNat d fun d=>f (.ref a b c d)
 |.own a b=>fNat a fun a=>fNat b fun b=>f (.own a b)
 |.view a b c d=>fNat a fun a=>fNat b fun b=>fNat c fun c=>fNat d fun d=>f (.view a b c d)
 |.fn g a b=>fNat g fun g=>fDs a fun a=>fDs b fun b=>f (.fn g a b)
 |.mp a=>fNat a fun a=>f (.mp a)
 |.ifc t d=>fNat t fun t=>fD d fun d=>f (.ifc t d)
 |.dead=>f .dead
def fDs(l:List D) (f:List D→α):α:=
 match l with
 |[]=>f []
 |d::l=>fD d fun d=>fDs l fun l=>f (d::l)
end
mutual
theorem fD_eq:∀(d:D) (f:D→α),fD d f=f d
 |.v x,f=>by simp[fD,fV_eq]
 |.agg l,f=>by simp[fD,fDs_eq l]
 |.tup l,f=>by simp[fD,fDs_eq l]
 |.sl S l,f=>by simp[fD,fNat_eq,fDs_eq l]
 |.pt d,f=>by simp[fD,fD_eq d]
 |.ref ..,f=>by simp[fD,fNat_eq]
 |.own ..,f=>by simp[fD,fNat_eq]
 |.view ..,f=>by simp[fD,fNat_eq]
 |.fn g a b,f=>by simp[fD,fNat_eq,fDs_eq a,fDs_eq b]
 |.mp ..,f=>by simp[fD,fNat_eq]
 |.ifc t d,f=>by simp[fD,fNat_eq,fD_eq d]
 |.dead,f=>by simp[fD]
theorem fDs_eq:∀(l:List D) (f:List D→α),fDs l f=f l
 |[],f=>by simp[fDs]
 |d::l,f=>by simp[fDs,fD_eq d,fDs_eq l]
end
def fL{β:Type}(l:List β) (f:List β→α):α:=
 match l with
 |[]=>f []
 |d::l=>fL l fun l=>f (d::l)
theorem fL_eq{β:Type}:∀(l:List β) (f:List β→α),fL l f=f l
 |[],f=>rfl
 |d::l,f=>by simp[fL,fL_eq l]
def fE(e:Ent) (f:Ent→α):α:=
 match e with
 |.live S v l=>fNat S fun S=>fNat v fun v=>fDs l fun l=>f (.live S v l)
 |e=>f e
theorem fE_eq(e:Ent) (f:Ent→α):fE e f=f e:=by cases e<;>simp[fE,fNat_eq,fDs_eq]
def fM(l:List Ent) (f:List Ent→α):α:=
 match l with
 |[]=>f []
 |e::l=>fE e fun e=>fM l fun l=>f (e::l)
theorem fM_eq:∀(l:List Ent) (f:List Ent→α),fM l f=f l
 |[],f=>rfl
 |d::l,f=>by simp[fM,fE_eq,fM_eq l]
def f1{β:Type}(l:List β) (f:List β→α):α:=
 match l with
 |[]=>f []
 |d::l=>f (d::l)
theorem f1_eq{β:Type}(l:List β) (f:List β→α):f1 l f=f l:=by cases l<;>rfl
end Go.Tm
namespace Go.Tm
noncomputable section
def nthD(l:List D):Nat→D:=List.rec (motive:=fun _=>Nat→D) (fun _=>.dead) (fun d _ ih i=>Ws d (fun i _=>ih i) i) l
theorem nthD_eq:∀(l:List D) (i:Nat),nthD l i=l.getD i .dead
 |[],i=>rfl
 |d::l,0=>rfl
 |d::l,i+1=>nthD_eq l i
def setF{α β:Type}(l:List β) (x:β):Nat→(List β→α)→α:=
 List.rec (motive:=fun _=>Nat→(List β→α)→α) (fun _ f=>f []) (fun d l ih i f=>Ws (f (x::l)) (fun i _=>ih i fun l=>f (d::l)) i) l
theorem setF_eq{α β:Type}(x:β):∀(l:List β) (i:Nat) (f:List β→α),setF l x i f=f (l.set i x)
 |[],i,f=>rfl
 |d::l,0,f=>rfl
 |d::l,i+1,f=>setF_eq x l i (fun l=>f (d::l))
def evF(t:List D) (x:Operand):D:=
 match x with
 |.tmp i=>nthD t i
 |x=>St.ev ⟨t,[]⟩ x
theorem evF_eq(s:St) (x:Operand):evF s.t x=s.ev x:=by
 cases x<;>simp[evF,St.ev,nthD_eq]
def ecF(s:St) (f:Cal):D:=
 match f with
 |.tmp t=>evF s.t (.tmp t)
 |f=>s.ec f
theorem ecF_eq(s:St) (f:Cal):ecF s f=s.ec f:=by
 cases f<;>simp[ecF,evF_eq,St.ec]
def cvF(s:St) (f:Cal):D:=
 match f with
 |.tmp t=>evF s.t (.tmp t)
 |f=>s.cv f
theorem cvF_eq(s:St) (f:Cal):cvF s f=s.cv f:=by
 cases f<;>simp[cvF,evF_eq,St.cv]
def modF(k:IntKind):Int:=
 match k with
 |.i8=>256|.i16=>65536|.i32=>4294967296|.i64=>18446744073709551616
 |.u8=>256|.u16=>65536|.u32=>4294967296|.u64=>18446744073709551616
theorem modF_eq(k:IntKind):modF k=2 ^ k.bits:=by cases k<;>rfl
def wrapS(n h m:Int):Int:=bif decide (n % m≥h)then n % m-m else n % m
def wrapF(k:IntKind) (n:Int):Int:=
 match k with
 |.i8=>wrapS n 128 256
 |.i16=>wrapS n 32768 65536
 |.i32=>wrapS n 2147483648 4294967296
 |.i64=>wrapS n 9223372036854775808 18446744073709551616
 |.u8=>n % 256
 |.u16=>n % 65536
 |.u32=>n % 4294967296
 |.u64=>n % 18446744073709551616
theorem wrapF_eq(k:IntKind) (n:Int):wrapF k n=k.wrap n:=by
 cases k<;>simp[wrapF,wrapS,IntKind.wrap,IntKind.bits,IntKind.signed,cond_eq_ite]
def bitJ(op:Nat→Nat→Nat) (k:IntKind) (x y:Int):Value:=.int k (wrapF k (op (x % modF k).toNat (y % modF k).toNat:Nat))
theorem ofInt_nat(k:IntKind) (x:Int):(BitVec.ofInt k.bits x).toNat=(x % modF k).toNat:=by
 rw[BitVec.toNat_ofInt,modF_eq];norm_cast
def binJ(op:BinOp) (j:IntKind) (a:Int) (k:IntKind) (b:Int):Option Value:=
 match op with
 |.add=>bif decide (j=k)then some (.int j (wrapF j (a+b)))else none
 |.sub=>bif decide (j=k)then some (.int j (wrapF j (a-b)))else none
 |.mul=>bif decide (j=k)then some (.int j (wrapF j (a*b)))else none
 |.eql=>bif decide (j=k)then some (.bool (a==b))else none
 |.neq=>bif decide (j=k)then some (.bool (a !=b))else none
 |.lss=>bif decide (j=k)then some (.bool (decide (a<b)))else none
 |.leq=>bif decide (j=k)then some (.bool (decide (a≤b)))else none
 |.gtr=>bif decide (j=k)then some (.bool (decide (b<a)))else none
 |.geq=>bif decide (j=k)then some (.bool (decide (b≤a)))else none
 |.and=>bif decide (j=k)then some (bitJ Nat.land j a b)else none
 |.or=>bif decide (j=k)then some (bitJ Nat.lor j a b)else none
 |.xor=>bif decide (j=k)then some (bitJ Nat.xor j a b)else none
 |.quo=>bif decide (j=k)&&!decide (b=0)then some (.int j (wrapF j (a.tdiv b)))else none
 |.rem=>bif decide (j=k)&&!decide (b=0)then some (.int j (a.tmod b))else none
 |.shl=>bif decide (b<0)then none else some (.int j (wrapF j (a*((2 ^ (min b.toNat j.bits):Nat):Int))))
 |.shr=>bif decide (b<0)then none else some (.int j (a.fdiv ((2 ^ (min b.toNat j.bits):Nat):Int)))
 |op=>pureRun (binOp op 0 (.int j a) (.int k b))
theorem binJ_eq(op:BinOp) (j:IntKind) (a:Int) (k:IntKind) (b:Int):binJ op j a k b=pureRun (binOp op 0 (.int j a) (.int k b)):=by
 have hst:∀{α:Type} (x:String),pureRun (stuck x:Sem α)=none:=fun _=>rfl;have hp:∀{α:Type} (x:α),pureRun (pure x:Sem α)=some x:=fun _=>rfl;have hrt:∀{α:Type} x,pureRun (runtimePanic x:Sem α)=none:=fun _=>rfl;cases op
 case shl=>
  simp only[binJ,binOp,Op.shift,cond_eq_ite,decide_eq_true_eq];split<;>simp[hst,hp,hrt,wrapF_eq]
 case shr=>
  simp only[binJ,binOp,Op.shift,cond_eq_ite,decide_eq_true_eq];split<;>simp[hst,hp,hrt]
 all_goals
  by_cases hjk:j=k
  ·subst hjk;simp[binJ,binOp,Op.intArith,Op.intCmp,Op.intBits,Op.intDiv,hst,hp,hrt,wrapF_eq,bitJ,ofInt_nat,modF_eq];(try rfl);(try (split<;>simp[hst,hp,hrt,wrapF_eq, *]))
  ·simp[binJ,binOp,hjk,hst]
def unJ(op:UnOp) (a:Value):Option Value:=
 match op,a with
 |.not,.bool b=>some (.bool !b)
 |op,a=>pureRun (Op.unary op a)
theorem unJ_eq(op:UnOp) (a:Value):unJ op a=pureRun (Op.unary op a):=by
 unfold unJ;split
 ·rfl
 ·rfl
def ev_mv(s:St) (x:Operand):Option (D×List Ent):=some (evF s.t x,s.m)
def ev_pick(s:St) (c:Operand) (a:Operand) (b:Operand):Option (D×List Ent):=
 match evF s.t c with
 |.v (.bool t)=>some (bif t then evF s.t a else evF s.t b,s.m)
 |_=>none
def ev_bin(s:St) (op:BinOp) (x:Operand) (y:Operand):Option (D×List Ent):=
 match evF s.t x,evF s.t y with
 |.v (.int j a),.v (.int k b)=>(binJ op j a k b).map fun r=>(.v r,s.m)
 |.v (.string a),.v (.string b)=>(pureRun (binOp op 0 (.string a) (.string b))).map fun r=>(.v r,s.m)
 |_,_=>none
def ev_beq(s:St) (neg:Bool) (x:Operand) (y:Operand):Option (D×List Ent):=
 match evF s.t x,evF s.t y with
 |.v (.bool a),.v (.bool b)=>some (.v (.bool ((a==b) !=neg)),s.m)
 |_,_=>none
def ev_un(s:St) (op:UnOp) (x:Operand):Option (D×List Ent):=
 match evF s.t x with
 |.v a=>(unJ op a).map fun r=>(.v r,s.m)
 |_=>none
def ev_conv(s:St) (k:IntKind) (x:Operand):Option (D×List Ent):=
 match evF s.t x with
 |.v (.int _ n)=>some (.v (.int k (wrapF k n)),s.m)
 |_=>none
def ev_alloc(s:St) (S:Nat) (z:D):Option (D×List Ent):=some (.ref s.m.length 0 0 0,s.m++[.live S 0 [z]])
def ev_box(s:St) (S:Nat) (x:Operand):Option (D×List Ent):=if(evF s.t x).ok=true∧(evF s.t x).cells.length=S then some (.ref s.m.length 0 0 0,s.m++[.live S 0 [evF s.t x]])else none
def ev_build(s:St) (z:List D) (ps:List (Nat×Nat×Operand)):Option (D×List Ent):=(buildD s ps z).map fun l=>(.agg l,s.m)
def ev_bslice(s:St) (S:Nat) (n:Nat) (z:D) (ps:List (Nat×Operand)):Option (D×List Ent):=(bsliceD s S ps (yn n z)).map fun l=>(.own s.m.length 0,s.m++[.live S 0 l])
def ev_load(s:St) (A:Bool) (n:Nat) (x:Operand):Option (D×List Ent):=
 match evF s.t x with
 |.pt d=>
  match A,d with
  |true,.agg l=>if l.length=n then some (d,s.m)else none
  |true,_=>none
  |false,.agg _=>none
  |false,d=>if d.ok=true then some (d,s.m)else none
 |.ref id ver idx sub=>
  match s.m[id]? with
  |some (.live _ ver' l)=>if ver'=ver then(l[idx]?).bind fun d=>if d.ok=true then(part A n sub d.cells).map fun r=>(r,s.m)else none else none
  |_=>none
 |_=>none
def ev_store(s:St) (n:Nat) (x:Operand) (y:Operand):Option (D×List Ent):=
 match evF s.t x with
 |.ref id ver idx sub=>
  match s.m[id]? with
  |some (.live S ver' l)=>
   if ver'=ver∧(evF s.t y).ok=true∧(evF s.t y).cells.length=n then
    (l[idx]?).bind fun d=>if d.ok=true∧0<n∧sub+n≤d.cells.length then some (.dead,s.m.set id (.live S ver' (l.set idx (d.upd sub (evF s.t y).cells))))else none
   else none
  |_=>none
 |_=>none
def ev_nilc(s:St) (x:Operand):Option (D×List Ent):=
 match evF s.t x with
 |.ref ..=>some (evF s.t x,s.m)
 |.pt _=>some (evF s.t x,s.m)
 |_=>none
def ev_slice(s:St) (S:Nat) (x:Operand) (lo:Option Operand) (hi:Option Operand) (mx:Option Operand):Option (D×List Ent):=
 match lenOfD s.m (evF s.t x)with
 |some n=>
  match bound s 0 lo,bound s n hi,bound s n mx with
  |some l,some h,some k=>if h≤k∧k≤n then(sliceD S s.m (evF s.t x) l h).map fun r=>(r,s.m)else none
  |_,_,_=>none
 |none=>none
def ev_faddr(s:St) (A:Bool) (n:Nat) (off:Nat) (x:Operand):Option (D×List Ent):=
 match evF s.t x with
 |.pt (.agg l)=>(part A n off l).map fun r=>(.pt r,s.m)
 |.ref id ver idx sub=>some (.ref id ver idx (sub+off),s.m)
 |_=>none
def ev_field(s:St) (A:Bool) (n:Nat) (off:Nat) (x:Operand):Option (D×List Ent):=
 match evF s.t x with
 |.agg l=>(part A n off l).map fun r=>(r,s.m)
 |_=>none
def ev_iaddr(s:St) (S:Nat) (x:Operand) (i:Operand):Option (D×List Ent):=
 match evF s.t i with
 |.v (.int _ k)=>
  if 0≤k then
   match evF s.t x with
   |.sl S' l=>if S'=S then(l[k.toNat]?).map fun d=>(.pt d,s.m)else none
   |.own id ver=>
    match s.m[id]? with
    |some (.live S' ver' l)=>if S'=S∧ver'=ver∧k.toNat<l.length then some (.ref id ver k.toNat 0,s.m)else none
    |_=>none
   |.view id ver lo n=>
    match s.m[id]? with
    |some (.live S' ver' l)=>if S'=S∧ver'=ver∧k.toNat<n∧lo+n≤l.length then some (.ref id ver (lo+k.toNat) 0,s.m)else none
    |_=>none
   |_=>none
  else none
 |_=>none
def ev_aaddr(s:St) (A:Bool) (S:Nat) (len:Nat) (x:Operand) (i:Operand):Option (D×List Ent):=
 match evF s.t i with
 |.v (.int _ k)=>
  if 0≤k∧k.toNat<len then
   match evF s.t x with
   |.pt (.agg l)=>(part A S (k.toNat*S) l).map fun r=>(.pt r,s.m)
   |.ref id ver idx sub=>some (.ref id ver idx (sub+k.toNat*S),s.m)
   |_=>none
  else none
 |_=>none
def ev_index(s:St) (A:Bool) (S:Nat) (len:Nat) (x:Operand) (i:Operand):Option (D×List Ent):=
 match evF s.t i with
 |.v (.int _ k)=>
  if 0≤k∧k.toNat<len then
   match evF s.t x with
   |.agg l=>(part A S (k.toNat*S) l).map fun r=>(r,s.m)
   |_=>none
  else none
 |_=>none
def ev_extract(s:St) (x:Operand) (i:Nat):Option (D×List Ent):=
 match evF s.t x with
 |.tup l=>(l[i]?).map fun d=>(d,s.m)
 |_=>none
def ev_len(s:St) (x:Operand):Option (D×List Ent):=(lenOfD s.m (evF s.t x)).map fun(n:Nat)=>(D.v (.int .i64 (n:Int)),s.m)
def ev_slen(s:St) (x:Operand):Option (D×List Ent):=
 match evF s.t x with
 |.v (.string b)=>some (.v (.int .i64 (b.size:Int)),s.m)
 |_=>none
def ev_append(s:St) (S:Nat) (bytes:Nat) (x:Operand) (y:Operand):Option (D×List Ent):=
 match contents S s.m (evF s.t y)with
 |some r=>
  match evF s.t x with
  |.v (.slice none 0 0)=>if r.length*bytes≤2 ^ 47 then some (.own s.m.length 0,s.m++[.live S 0 r])else none
  |.own id ver=>
   match s.m[id]? with
   |some (.live S' ver' l)=>if S'=S∧ver'=ver∧(l.length+r.length)*bytes≤2 ^ 47 then some (.own id (ver+1),s.m.set id (.live S (ver+1) (l++r)))else none
   |_=>none
  |_=>none
 |none=>none
def ev_mkslice(s:St) (S:Nat) (bytes:Nat) (z:D) (l:Operand) (c:Operand):Option (D×List Ent):=
 match evF s.t l,evF s.t c with
 |.v (.int .i64 n),.v (.int .i64 k)=>
  if 0≤n∧n≤k∧k≤2 ^ 62∧k.toNat*bytes≤2 ^ 48 then some (.own s.m.length 0,s.m++[.live S 0 (yn n.toNat z)])else none
 |_,_=>none
def ev_mkfunc(s:St) (f:FuncId) (first:List Operand) (caps:List Operand):Option (D×List Ent):=some (.fn f (first.map (evF s.t)) (caps.map (evF s.t)),s.m)
def ev_fail(s:St):Option (D×List Ent):=none
def ev_mm(s:St) (isMax:Bool) (xs:List Operand):Option (D×List Ent):=
 match leaves (xs.map (evF s.t))with
 |some vs=>(pureRun (if isMax then Builtin.max_ #[] 0 vs.toArray else Builtin.min_ #[] 0 vs.toArray)).map fun r=>(.v r,s.m)
 |none=>none
def ev_ceq(s:St) (neg:Bool) (ks:List Nat) (x:Operand) (y:Operand):Option (D×List Ent):=
 match evF s.t x,evF s.t y with
 |.agg l,.agg r=>(eqLeaves ks l r).map fun t=>(.v (.bool (t !=neg)),s.m)
 |_,_=>none
def ev_strb(s:St) (S:Nat) (x:Operand):Option (D×List Ent):=
 match evF s.t x with
 |.own id ver=>
  match s.m[id]? with
  |some (.live S' ver' l)=>if S'=S∧ver'=ver∧0<l.length∧l.all isV=true then some (.sl S l,s.m.set id .gone)else none
  |_=>none
 |_=>none
def ev_sidx(s:St) (x:Operand) (i:Operand):Option (D×List Ent):=
 match evF s.t x,evF s.t i with
 |.v (.string b),.v (.int _ k)=>if h:0≤k∧k.toNat<b.size then some (.v (.int .u8 (b[k.toNat]'h.2).toNat),s.m)else none
 |_,_=>none
def ev_sslice(s:St) (x:Operand) (lo:Option Operand) (hi:Option Operand):Option (D×List Ent):=
 match evF s.t x with
 |.v (.string b)=>
  match bound s 0 lo,bound s b.size hi with
  |some l,some h=>if l≤h∧h≤b.size then some (.v (.string (b.extract l h)),s.m)else none
  |_,_=>none
 |_=>none
def ev_mkmap(s:St):Option (D×List Ent):=some (.mp s.m.length,s.m++[.mp []])
def ev_mlook(s:St) (K:Nat) (ok:Bool) (z:D) (x:Operand) (k:Operand):Option (D×List Ent):=
 match evF s.t k with
 |.v kv=>
  if isKey K kv=true then
   match evF s.t x with
   |.v (.map none)=>some (if ok then .tup [z,.v (.bool false)]else z,s.m)
   |.mp id=>
    match s.m[id]? with
    |some (.mp es)=>
     if(es.all fun e=>isKey K e.1)=true then
      match lookD kv es with
      |some d=>some (if ok then .tup [d,.v (.bool true)]else d,s.m)
      |none=>some (if ok then .tup [z,.v (.bool false)]else z,s.m)
     else none
    |_=>none
   |_=>none
  else none
 |_=>none
def ev_mput(s:St) (K:Nat) (m:Operand) (k:Operand) (x:Operand):Option (D×List Ent):=
 match evF s.t k,evF s.t m with
 |.v kv,.mp id=>
  match s.m[id]? with
  |some (.mp es)=>if isKey K kv=true∧(es.all fun e=>isKey K e.1)=true then some (.dead,s.m.set id (.mp (putD kv (evF s.t x) es)))else none
  |_=>none
 |_,_=>none
def ev_mlen(s:St) (x:Operand):Option (D×List Ent):=
 match evF s.t x with
 |.v (.map none)=>some (.v (.int .i64 0),s.m)
 |.mp id=>
  match s.m[id]? with
  |some (.mp es)=>some (.v (.int .i64 (es.length:Int)),s.m)
  |_=>none
 |_=>none
def ev_trunc(s:St) (S:Nat) (x:Operand) (lo hi:Option Operand):Option (D×List Ent):=
 match evF s.t x with
 |.own id ver=>
  match s.m[id]? with
  |some (.live S' ver' l)=>
   match bound s 0 lo,bound s l.length hi with
   |some a,some h=>if a≤h∧S'=S∧ver'=ver∧h≤l.length then some (.own id (ver+1),s.m.set id (.live S (ver+1) ((l.take h).drop a)))else none
   |_,_=>none
  |_=>none
 |d=>
  match lenOfD s.m d with
  |some n=>
   match bound s 0 lo,bound s n hi,bound s n none with
   |some l,some h,some k=>if h≤k∧k≤n then(sliceD S s.m d l h).map fun r=>(r,s.m)else none
   |_,_,_=>none
  |none=>none
def ev_mkifc(s:St) (t:TypeId) (x:Operand):Option (D×List Ent):=some (.ifc t (evF s.t x),s.m)
def ev_tassert(s:St) (ok:Bool) (t:TypeId) (z:D) (x:Operand):Option (D×List Ent):=
 match evF s.t x with
 |.ifc t' d=>if t'=t then some (if ok then .tup [d,.v (.bool true)]else d,s.m)else if ok=true then some (.tup [z,.v (.bool false)],s.m)else none
 |_=>none
def ev_clr(s:St) (S:Nat) (z:D) (x:Operand):Option (D×List Ent):=
 match evF s.t x with
 |.v (.slice none 0 0)=>some (.dead,s.m)
 |.view id ver lo n=>
  match s.m[id]? with
  |some (.live S' ver' l)=>if S'=S∧ver'=ver∧lo+n≤l.length then some (.dead,s.m.set id (.live S ver (l.take lo++yn n z++l.drop (lo+n))))else none
  |_=>none
 |_=>none
def ev_capn(s:St) (x:Operand):Option (D×List Ent):=
 match evF s.t x with
 |.v (.slice none 0 0)=>some (.v (.int .i64 0),s.m)
 |_=>none
def ev_nileq(s:St) (neg:Bool) (x:Operand):Option (D×List Ent):=
 match evF s.t x with
 |.v (.slice a _ _)=>some (.v (.bool (a.isNone !=neg)),s.m)
 |.sl _ (_::_)=>some (.v (.bool neg),s.m)
 |.own id ver=>
  match s.m[id]? with
  |some (.live _ ver' (_::_))=>if ver'=ver then some (.v (.bool neg),s.m)else none
  |_=>none
 |_=>none
def ev_mkapp(s:St) (S:Nat) (bytes:Nat) (z:D) (x:Operand) (n:Operand):Option (D×List Ent):=
 match evF s.t x,evF s.t n with
 |.v (.slice none 0 0),.v (.int .i64 k)=>if 0<k∧k.toNat*bytes≤2 ^ 47 then some (.own s.m.length 0,s.m++[.live S 0 (yn k.toNat z)])else none
 |_,_=>none
def evJ(s:St) (i:I):Option (D×List Ent):=
 match i with
 |.mv x=>ev_mv s x
 |.pick c a b=>ev_pick s c a b
 |.bin op x y=>ev_bin s op x y
 |.beq neg x y=>ev_beq s neg x y
 |.un op x=>ev_un s op x
 |.conv k x=>ev_conv s k x
 |.alloc S z=>ev_alloc s S z
 |.box S x=>ev_box s S x
 |.build z ps=>ev_build s z ps
 |.bslice S n z ps=>ev_bslice s S n z ps
 |.load A n x=>ev_load s A n x
 |.store n x y=>ev_store s n x y
 |.nilc x=>ev_nilc s x
 |.slice S x lo hi mx=>ev_slice s S x lo hi mx
 |.faddr A n off x=>ev_faddr s A n off x
 |.field A n off x=>ev_field s A n off x
 |.iaddr S x i=>ev_iaddr s S x i
 |.aaddr A S len x i=>ev_aaddr s A S len x i
 |.index A S len x i=>ev_index s A S len x i
 |.extract x i=>ev_extract s x i
 |.len x=>ev_len s x
 |.slen x=>ev_slen s x
 |.append S bytes x y=>ev_append s S bytes x y
 |.mkslice S bytes z l c=>ev_mkslice s S bytes z l c
 |.mkfunc f first caps=>ev_mkfunc s f first caps
 |.fail=>ev_fail s
 |.mm isMax xs=>ev_mm s isMax xs
 |.ceq neg ks x y=>ev_ceq s neg ks x y
 |.strb S x=>ev_strb s S x
 |.sidx x i=>ev_sidx s x i
 |.sslice x lo hi=>ev_sslice s x lo hi
 |.mkmap=>ev_mkmap s
 |.mlook K ok z x k=>ev_mlook s K ok z x k
 |.mput K m k x=>ev_mput s K m k x
 |.mlen x=>ev_mlen s x
 |.trunc S x lo hi=>ev_trunc s S x lo hi
 |.mkifc t x=>ev_mkifc s t x
 |.tassert ok t z x=>ev_tassert s ok t z x
 |.clr S z x=>ev_clr s S z x
 |.capn x=>ev_capn s x
 |.nileq neg x=>ev_nileq s neg x
 |.mkapp S bytes z x n=>ev_mkapp s S bytes z x n
theorem evJ_eq(s:St) (i:I):evJ s i=evalI s i:=by
 have h:evF s.t=s.ev:=by funext x;exact evF_eq s x
 cases i<;>simp only[evJ,evalI,ev_mv,ev_pick,ev_bin,ev_beq,ev_un,ev_conv,ev_alloc,ev_box,ev_build,ev_bslice,ev_load,ev_store,ev_nilc,ev_slice,ev_faddr,ev_field,ev_iaddr,ev_aaddr,ev_index,ev_extract,ev_len,ev_slen,ev_append,ev_mkslice,ev_mkfunc,ev_fail,ev_mm,ev_ceq,ev_strb,ev_sidx,ev_sslice,ev_mkmap,ev_mlook,ev_mput,ev_mlen,ev_trunc,ev_mkifc,ev_tassert,ev_clr,ev_capn,ev_nileq,ev_mkapp,h,binJ_eq,wrapF_eq,unJ_eq]<;>rfl
abbrev Kt:=Exit→St→Option (Exit×St)
abbrev Rt:=W→St→Kt→Option (Exit×St)
def putK(t:List D) (dst:Option Tmp) (d:D) (m:List Ent) (f:St→Option (Exit×St)):Option (Exit×St):=
 match dst with
 |some i=>setF t d i fun t=>f1 m fun m=>f ⟨t,m⟩
 |none=>f1 t fun t=>f1 m fun m=>f ⟨t,m⟩
def f0{α:Type}(d:D) (f:D→α):α:=
 match d with
 |.v x=>f (.v x)
 |.agg l=>f (.agg l)
 |.tup l=>f (.tup l)
 |.sl S l=>f (.sl S l)
 |.pt d=>f (.pt d)
 |.ref a b c d=>f (.ref a b c d)
 |.own a b=>f (.own a b)
 |.view a b c d=>f (.view a b c d)
 |.fn g a b=>f (.fn g a b)
 |.mp a=>f (.mp a)
 |.ifc t d=>f (.ifc t d)
 |.dead=>f .dead
theorem f0_eq{α:Type}(d:D) (f:D→α):f0 d f=f d:=by cases d<;>rfl
def fS{α:Type}(d:D) (f:D→α):α:=
 match d with
 |.v x=>fV x fun x=>f (.v x)
 |.agg l=>fL l fun l=>f (.agg l)
 |.tup l=>fL l fun l=>f (.tup l)
 |.sl S l=>fNat S fun S=>fL l fun l=>f (.sl S l)
 |.pt d=>fD d fun d=>f (.pt d)
 |.ref a b c d=>fNat a fun a=>fNat b fun b=>fNat c fun c=>fNat d fun d=>f (.ref a b c d)
 |.own a b=>fNat a fun a=>fNat b fun b=>f (.own a b)
 |.view a b c d=>fNat a fun a=>fNat b fun b=>fNat c fun c=>fNat d fun d=>f (.view a b c d)
 |.fn g a b=>fNat g fun g=>fDs a fun a=>fDs b fun b=>f (.fn g a b)
 |.mp a=>fNat a fun a=>f (.mp a)
 |.ifc t d=>fNat t fun t=>fD d fun d=>f (.ifc t d)
 |.dead=>f .dead
theorem fS_eq{α:Type}(d:D) (f:D→α):fS d f=f d:=by cases d<;>simp[fS,fV_eq,fL_eq,fNat_eq,fD_eq,fDs_eq]
def fLast{α:Type}(l:List Ent) (f:List Ent→α):α:=
 match l with
 |[]=>f []
 |e::l=>
  match l with
  |[]=>fE e fun e=>f [e]
  |e'::l=>fLast (e'::l) fun l=>f (e::l)
theorem fLast_eq{α:Type}:∀(l:List Ent) (f:List Ent→α),fLast l f=f l
 |[],f=>rfl
 |[e],f=>by simp[fLast,fE_eq]
 |e::e'::l,f=>by simp[fLast,fLast_eq (e'::l)]
def fId(i:I) (d:D) (f:D→Option (Exit×St)):Option (Exit×St):=
 match i with
 |.mv _=>f0 d f
 |.pick ..=>f0 d f
 |.nilc _=>f0 d f
 |.extract ..=>f0 d f
 |.mlook ..=>f0 d f
 |.load false _ _=>f0 d f
 |_=>fS d f
theorem fId_eq(i:I) (d:D) (f:D→Option (Exit×St)):fId i d f=f d:=by unfold fId;split<;>simp[f0_eq,fS_eq]
def storeK(s:St) (n:Nat) (x y:Operand) (dst:Option Tmp) (f:St→Option (Exit×St)):Option (Exit×St):=
 match evF s.t x with
 |.ref id ver idx sub=>
  match s.m[id]? with
  |some (.live S ver' l)=>
   if ver'=ver∧(evF s.t y).ok=true∧(evF s.t y).cells.length=n then
    match l[idx]? with
    |some d=>
     if d.ok=true∧0<n∧sub+n≤d.cells.length then
      fD (d.upd sub (evF s.t y).cells) fun d'=>setF l d' idx fun l'=>setF s.m (.live S ver' l') id fun m'=>putK s.t dst .dead m' f
     else none
    |none=>none
   else none
  |_=>none
 |_=>none
def appendK(s:St) (S bytes:Nat) (x y:Operand) (dst:Option Tmp) (f:St→Option (Exit×St)):Option (Exit×St):=
 match contents S s.m (evF s.t y)with
 |some r=>
  match evF s.t x with
  |.v (.slice none 0 0)=>if r.length*bytes≤2 ^ 47 then fNat s.m.length fun id=>fL r fun r=>fL (s.m++[.live S 0 r]) fun m'=>putK s.t dst (.own id 0) m' f else none
  |.own id ver=>
   match s.m[id]? with
   |some (.live S' ver' l)=>
    if S'=S∧ver'=ver∧(l.length+r.length)*bytes≤2 ^ 47 then
     fNat (ver+1) fun v'=>fL (l++r) fun l'=>setF s.m (.live S v' l') id fun m'=>putK s.t dst (.own id v') m' f
    else none
   |_=>none
  |_=>none
 |none=>none
def onK(s:St) (i:I) (dst:Option Tmp) (f:St→Option (Exit×St)):Option (Exit×St):=
 match i with
 |.store n x y=>storeK s n x y dst f
 |.append S b x y=>appendK s S b x y dst f
 |i=>
  match evJ s i with
  |some r=>fId i r.1 fun d=>if i.cls≤1 then putK s.t dst d r.2 f else if i.cls=2 then fLast r.2 fun m'=>putK s.t dst d m' f else fM r.2 fun m'=>putK s.t dst d m' f
  |none=>none
def gateF(s:St) (t:Tmp) (b:Bool):Option Bool:=
 match nthD s.t t with
 |.v x=>match x with
  |.bool c=>some (c==b)
  |_=>some (!b==b)
 |_=>none
def opK(s:St) (dst:Option Tmp) (g:Option (Tmp×Bool)) (i:I) (f:St→Option (Exit×St)):Option (Exit×St):=
 match g with
 |none=>onK s i dst f
 |some tb=>
  match gateF s tb.1 tb.2 with
  |none=>none
  |some true=>onK s i dst f
  |some false=>putK s.t dst (.v undef) s.m f
def goAny(FT:Nat→Option (Fun×Nat)) (rc:Rt) (q:Nat) (bs:List (List Nat)) (l:List RI) (s:St) (k:Kt):Option (Exit×St):=
 fDs (frzAll FT l (l.take q) (adoptAll l (l.take q) s)).t fun t=>fM (frzAll FT l (l.take q) (adoptAll l (l.take q) s)).m fun m=>rc (.an q bs l) ⟨t,m⟩ k
def goDw(FT:Nat→Option (Fun×Nat)) (rc:Rt) (q:Nat) (l:List RI) (s:St) (k:Kt):Option (Exit×St):=
 fL (wpl FT (l.take q) s) fun pl=>fDs (frzW FT (l.take q) s).t fun t=>fM (frzW FT (l.take q) s).m fun m=>
 if plB m pl=true then rc (.yo pl (allPairs q) [] q l) ⟨t,m⟩ k else none
def goC(FT:Nat→Option (Fun×Nat)) (rc:Rt) (c:C) (s:St) (k:Kt):Option (Exit×St):=
 match c with
 |.skip=>k .normal s
 |.reg l=>rc (.l l) s k
 |.draw q l=>if((l.take q).filterMap (wcell FT s)).isEmpty=true then rc (.yo [] [] [] q l) s k else goDw FT rc q l s k
 |.any _ q bs l=>goAny FT rc q bs l s k
 |.seq a b=>rc (.c a) s fun e s'=>match e with|.normal=>rc (.c b) s' k|e=>k e s'
 |.cond c a b=>
  match evF s.t c with
  |.v (.bool t)=>match t with|true=>rc (.c a) s k|false=>rc (.c b) s k
  |_=>none
 |.block id a=>rc (.c a) s fun e s'=>match e with|.exit j=>if j=id then k .normal s' else k (.exit j) s'|e=>k e s'
 |.loop a=>rc (.c a) s fun e s'=>match e with|.normal=>rc (.c (.loop a)) s' k|e=>k e s'
 |.exit id=>k (.exit id) s
 |.ret=>k .ret s
 |.stuck=>none
def goL(rc:Rt) (l:List RI) (s:St) (k:Kt):Option (Exit×St):=
 match l with
 |[]=>k .normal s
 |r::l=>
  match r with
  |.op dst g i=>opK s dst g i fun s'=>rc (.l l) s' k
  |.call dst g f args=>
   match ecF s f with
   |.fn c first caps=>
    match gateOn s g with
    |some true=>fNat c fun c=>fDs (first++args.map (evF s.t)++caps) fun ds=>rc (.f c ds) s fun _ s1=>match s1.t with|[d]=>putK s.t dst d s1.m fun s'=>rc (.l l) s' k|_=>none
    |some false=>putK s.t dst (.v undef) s.m fun s'=>rc (.l l) s' k
    |none=>none
   |_=>
    match gateOn s g with
    |some false=>putK s.t dst (.v undef) s.m fun s'=>rc (.l l) s' k
    |_=>none
def goAn(rc:Rt) (q:Nat) (bs:List (List Nat)) (l:List RI) (s:St) (k:Kt):Option (Exit×St):=
 fNat s.m.length fun n=>fL (places (l.take q) n) fun pl=>fL (pairsO bs q l pl) fun ps=>fL (s.m++(placeS (l.take q)).map fun S=>.live S 0 []) fun m=>
 if(drawOkO bs l q ps pl&&plB m pl)=true then rc (.yo pl ps [] q l) ⟨s.t,m⟩ k else none
def goYO(rc:Rt) (pl:List (Option Nat)) (ps fp:List (List Nat)) (q:Nat) (l:List RI) (s:St) (k:Kt):Option (Exit×St):=
 match q with
 |0=>rc (.l l) s k
 |q+1=>
  match l with
  |[]=>none
  |r::l=>
   match r with
   |.op dst g i=>
    match pl.headD none with
    |some p=>
     match g with
     |none=>
      match fillI s p i with
      |some (d,e)=>if apB fp [p] (ps.headD [])=true then fE e fun e=>fL (s.m.set p e) fun m=>putK s.t dst d m fun s'=>f1 pl.tail fun pl=>f1 ps.tail fun ps=>fL (fp++[[p]]) fun fp=>rc (.yo pl ps fp q l) s' k else none
      |none=>none
     |some _=>none
    |none=>
     fL (rid s (.op dst g i)) fun r=>
     if(apB fp r (ps.headD [])&&setB s i)=true then opK s dst g i fun s'=>f1 pl.tail fun pl=>f1 ps.tail fun ps=>fL (fp++[r]) fun fp=>rc (.yo pl ps fp q l) s' k
     else none
   |.call dst g f args=>
    match pl.headD none,cvF s f with
    |some p,.fn c first caps=>
     fL (topsD s args) fun r=>
     if(apB fp r (ps.headD [])&&wOk s p g r)=true then
      fNat c fun c=>fDs (first++args.map (evF s.t)++caps) fun ds=>rc (.w p c ds) s fun _ s1=>match s1 with|⟨[d],[e]⟩=>fL (s.m.set p e) fun m=>putK s.t dst d m fun s'=>f1 pl.tail fun pl=>f1 ps.tail fun ps=>fL (fp++[r]) fun fp=>rc (.yo pl ps fp q l) s' k|_=>none
     else none
    |none,.fn c first caps=>
     fL (topsD s args) fun r=>
     if(apB fp r (ps.headD [])&&(idfrees first&&idfrees caps))=true then
      match gateOn s g with
      |some true=>fNat c fun c=>fDs (first++args.map (evF s.t)++caps) fun ds=>rc (.q c ds) s fun _ s1=>match s1.t with|[d]=>putK s.t dst d s.m fun s'=>f1 pl.tail fun pl=>f1 ps.tail fun ps=>fL (fp++[r]) fun fp=>rc (.yo pl ps fp q l) s' k|_=>none
      |some false=>putK s.t dst (.v undef) s.m fun s'=>f1 pl.tail fun pl=>f1 ps.tail fun ps=>fL (fp++[r]) fun fp=>rc (.yo pl ps fp q l) s' k
      |none=>none
     else none
    |none,_=>
     fL (topsD s args) fun r=>
     if apB fp r (ps.headD [])=true then
      match gateOn s g with
      |some false=>putK s.t dst (.v undef) s.m fun s'=>f1 pl.tail fun pl=>f1 ps.tail fun ps=>fL (fp++[r]) fun fp=>rc (.yo pl ps fp q l) s' k
      |_=>none
     else none
    |_,_=>none
def endK(F:Fun) (s:St) (f:D→List Ent→Option (Exit×St)):Option (Exit×St):=
 match ressD s F.results with
 |some es=>fD (tupD es) fun d=>f1 s.m fun m=>f d m
 |none=>none
def endKe(F:Fun) (f:D→List Ent→Option (Exit×St)):Kt:=fun e s=>
 match e with
 |.normal=>endK F s f
 |.ret=>endK F s f
 |_=>none
def goF(FT:Nat→Option (Fun×Nat)) (O:Nat→List D→Option D) (rc:Rt) (k:Nat) (ds:List D) (s:St) (kk:Kt):Option (Exit×St):=
 match FT k with
 |some (F,md)=>
  match md with
  |0=>fL (ds++yn (F.ntmps-ds.length) .dead) fun t=>f1 s.m fun m=>rc (.c F.code) ⟨t,m⟩ (endKe F fun d m=>kk .normal ⟨[d],m⟩)
  |md+1=>
   match md with
   |0=>
    if idfrees ds=true then rc (.p k ds) s fun _ s1=>match s1.t with|[d]=>kk .normal ⟨[d],s.m⟩|_=>none
    else fL (ds++yn (F.ntmps-ds.length) .dead) fun t=>f1 s.m fun m=>rc (.c F.code) ⟨t,m⟩ (endKe F fun d m=>kk .normal ⟨[d],m⟩)
   |md+1=>
    match md with
    |0=>fDs (ds.map (froz 8 s.m)++yn (F.ntmps-ds.length) .dead) fun t=>rc (.c F.code) ⟨t,[]⟩ (endKe F fun d m'=>match lent m' d with|some d=>fD d fun d=>kk .normal ⟨[d],s.m⟩|none=>none)
    |_+1=>
     match O k ds with
     |some d=>fD d fun d=>kk .normal ⟨[d],s.m⟩
     |none=>none
 |none=>none
def goP(FT:Nat→Option (Fun×Nat)) (O:Nat→List D→Option D) (rc:Rt) (k:Nat) (ds:List D) (kk:Kt):Option (Exit×St):=
 match FT k with
 |some (_,_+3)=>
  match O k ds with
  |some d=>fD d fun d=>kk .normal ⟨[d],[]⟩
  |none=>none
 |some (F,_)=>
  if idfrees ds=true then fL (ds++yn (F.ntmps-ds.length) .dead) fun t=>rc (.c F.code) ⟨t,[]⟩ (endKe F fun d m'=>fD (froz 8 m' d) fun d=>kk .normal ⟨[d],[]⟩)
  else none
 |none=>none
def goQ(FT:Nat→Option (Fun×Nat)) (rc:Rt) (k:Nat) (ds:List D) (s:St) (kk:Kt):Option (Exit×St):=
 if idfrees ds=true then rc (.p k ds) s kk
 else
  match FT k with
  |some (F,_)=>
   if lendOk s.m ds=true then fDs (ds.map (froz 8 s.m)++yn (F.ntmps-ds.length) .dead) fun t=>rc (.c F.code) ⟨t,[]⟩ (endKe F fun d m'=>match lent m' d with|some d=>fD d fun d=>kk .normal ⟨[d],[]⟩|none=>none)
   else none
  |none=>none
def goW(FT:Nat→Option (Fun×Nat)) (rc:Rt) (p k:Nat) (ds:List D) (s:St) (kk:Kt):Option (Exit×St):=
 match FT k,s.m[p]? with
 |some (F,_),some (.live S ver l)=>
  if idfrees l=true then fDs (ds.map (reref p ver)++yn (F.ntmps-ds.length) .dead) fun t=>rc (.c F.code) ⟨t,[.live S 0 l]⟩ (endKe F fun d m'=>match wEnd S ver d m' with|some (d,e)=>fD d fun d=>fE e fun e=>kk .normal ⟨[d],[e]⟩|none=>none)
  else none
 |_,_=>none
def go(FT:Nat→Option (Fun×Nat)) (O:Nat→List D→Option D) (rc:Rt) (w:W) (s:St) (k:Kt):Option (Exit×St):=
 match w with
 |.c c=>goC FT rc c s k
 |.l l=>goL rc l s k
 |.an q bs l=>goAn rc q bs l s k
 |.yo pl ps fp q l=>goYO rc pl ps fp q l s k
 |.f c ds=>goF FT O rc c ds s k
 |.p c ds=>goP FT O rc c ds k
 |.q c ds=>goQ FT rc c ds s k
 |.w p c ds=>goW FT rc p c ds s k
def runK(FT:Nat→Option (Fun×Nat)) (O:Nat→List D→Option D) (n:Nat):Rt:=Ws (motive:=fun _=>Rt) (fun _ _ _=>none) (fun _ rc w s k=>go FT O rc w s k) n
section
variable {FT:Nat→Option (Fun×Nat)} {O:Nat→List D→Option D}
theorem putK_eq(t:List D) (dst:Option Tmp) (d:D) (m:List Ent) (f:St→Option (Exit×St)):putK t dst d m f=f ((⟨t,m⟩:St).put dst d):=by
 cases dst<;>simp[putK,St.put,setF_eq,f1_eq]
theorem storeK_eq(s:St) (n:Nat) (x y:Operand) (dst:Option Tmp) (f:St→Option (Exit×St)):storeK s n x y dst f=(match evalI s (.store n x y)with|some (d,m')=>f ({ s with m:=m' }.put dst d)|none=>none):=by
 simp only[storeK,evalI,evF_eq,fD_eq,setF_eq,putK_eq]
 cases s.ev x with
 |ref id ver idx sub=>
  simp only
  cases s.m[id]? with
  |none=>rfl
  |some e=>
   cases e with
   |live S ver' l=>
    simp only;split
    ·cases l[idx]? with
     |none=>rfl
     |some d=>
      simp only[nn];split<;>rfl
    ·rfl
   |_=>rfl
 |_=>rfl
theorem appendK_eq(s:St) (S bytes:Nat) (x y:Operand) (dst:Option Tmp) (f:St→Option (Exit×St)):appendK s S bytes x y dst f=(match evalI s (.append S bytes x y)with|some (d,m')=>f ({ s with m:=m' }.put dst d)|none=>none):=by
 simp only[appendK,evalI,evF_eq,fNat_eq,fL_eq,setF_eq,putK_eq]
 cases contents S s.m (s.ev y)with
 |none=>rfl
 |some r=>
  simp only;generalize s.ev x=dx;split
  ·simp only;split<;>rfl
  ·rename_i id ver;simp only
   cases s.m[id]? with
   |none=>rfl
   |some e=>
    cases e with
    |live S' ver' l=>
     simp only;split<;>rfl
    |_=>rfl
  ·rename_i h1 h2;split
   ·rename_i h;split at h
    ·exact(h1 rfl).elim
    ·exact(h2 _ _ rfl).elim
    ·cases h
   ·rfl
theorem onK_eq(s:St) (i:I) (dst:Option Tmp) (f:St→Option (Exit×St)):onK s i dst f=(match evalI s i with|some (d,m')=>f ({ s with m:=m' }.put dst d)|none=>none):=by
 unfold onK;split
 ·exact storeK_eq ..
 ·exact appendK_eq ..
 ·rw[evJ_eq]
  cases evalI s i with
  |none=>rfl
  |some r=>
   simp only[fId_eq,fLast_eq,fM_eq,putK_eq];split
   ·rfl
   ·split<;>rfl
theorem gateF_eq(s:St) (t:Tmp) (b:Bool):gateF s t b=gateOn s (some (t,b)):=by
 unfold gateF gateOn gate;rw[nthD_eq];simp only
 cases s.t.getD t .dead with
 |v x=>cases x<;>first|rfl|(cases b<;>rfl)
 |_=>rfl
theorem opK_eq(s:St) (dst:Option Tmp) (g:Option (Tmp×Bool)) (i:I) (f:St→Option (Exit×St)):opK s dst g i f=(match stepOp s dst g i with|some s'=>f s'|none=>none):=by
 unfold opK
 cases g with
 |none=>
  simp only[onK_eq,stepOp,gate]
  cases evalI s i with
  |none=>rfl
  |some r=>rfl
 |some tb=>
  obtain⟨t,b⟩:=tb;simp only[gateF_eq,onK_eq,putK_eq,stepOp,gateOn]
  cases gate s (some (t,b))with
  |none=>rfl
  |some o=>
   cases o with
   |none=>
    cases evalI s i with
    |none=>rfl
    |some r=>rfl
   |some cb=>
    obtain⟨c,b'⟩:=cb;by_cases h:c=b'
    ·subst h;simp only[beq_self_eq_true,if_true]
     cases evalI s i with
     |none=>rfl
     |some r=>rfl
    ·have:(c==b')=false:=by simpa using h
     simp only[this,h,if_false]
theorem endK_eq{F:Fun}{f:D→List Ent→Option (Exit×St)}(e:Exit) (s:St):endKe F f e s=(match ended F (some (e,s))with|some (d,m)=>f d m|none=>none):=by
 unfold endKe ended endK;cases e<;>simp only
 ·cases ressD s F.results with
  |none=>rfl
  |some es=>simp[fD_eq,f1_eq]
 ·cases ressD s F.results with
  |none=>rfl
  |some es=>simp[fD_eq,f1_eq]
theorem runK_eq:∀(n:Nat) (w:W) (s:St) (k:Kt),runK FT O n w s k=(match run FT O n w s with|some (e,s')=>k e s'|none=>none):=by
 intro n;have hev:∀(s:St) x,evF s.t x=s.ev x:=evF_eq;have hmap:∀(s:St) (l:List Operand),l.map (evF s.t)=l.map s.ev:=fun s l=>by
  have:evF s.t=s.ev:=by funext x;exact evF_eq s x
  rw[this]
 induction n with
 |zero=>intro w s k;rfl
 |succ n ih=>
  intro w s k;have hun:runK FT O (n+1) w s k=go FT O (runK FT O n) w s k:=rfl;rw[hun]
  cases w with
  |c c=>
   cases c with
   |skip=>rfl
   |reg l=>simp only[go,goC,run,ih]
   |draw q l=>
    simp only[go,goC,goDw,run,ih,fL_eq,fDs_eq,fM_eq];split
    ·rfl
    ·split<;>rfl
   |any cuts q bs l=>simp only[go,goC,goAny,run,ih,fDs_eq,fM_eq]
   |seq a b=>
    simp only[go,goC,run,ih]
    cases run FT O n (.c a) s with
    |none=>rfl
    |some r=>obtain⟨e,s'⟩:=r;cases e<;>rfl
   |cond c a b=>
    simp only[go,goC,run,ih,hev]
    cases s.ev c with
    |v x=>
     cases x with
     |bool t=>cases t<;>rfl
     |_=>rfl
    |_=>rfl
   |block id a=>
    simp only[go,goC,run,ih]
    cases run FT O n (.c a) s with
    |none=>rfl
    |some r=>
     obtain⟨e,s'⟩:=r
     cases e with
     |exit j=>by_cases h:j=id<;>simp[h]
     |_=>rfl
   |loop a=>
    simp only[go,goC,run,ih]
    cases run FT O n (.c a) s with
    |none=>rfl
    |some r=>obtain⟨e,s'⟩:=r;cases e<;>rfl
   |exit id=>rfl
   |ret=>rfl
   |stuck=>rfl
  |l l=>
   cases l with
   |nil=>rfl
   |cons r l=>
    cases r with
    |op dst g i=>
     simp only[go,goL,run,ih,opK_eq];cases stepOp s dst g i<;>rfl
    |call dst g f args=>
     simp only[go,goL,run,ih,hev,ecF_eq,hmap,putK_eq,fNat_eq,fDs_eq]
     cases s.ec f with
     |fn c first caps=>
      simp only
      cases gateOn s g with
      |none=>rfl
      |some b=>
       cases b with
       |false=>rfl
       |true=>
        simp only
        cases run FT O n (.f c (first++args.map s.ev++caps)) s with
        |none=>rfl
        |some r=>
         obtain⟨e,t,m⟩:=r
         match t with
         |[]=>rfl
         |[d]=>rfl
         |_::_::_=>rfl
     |_=>
      simp only
      cases gateOn s g with
      |none=>rfl
      |some b=>cases b<;>rfl
  |an q bs l=>
   simp only[go,goAn,run,ih,fNat_eq,fL_eq];split<;>rfl
  |yo pl ps fp q l=>
   cases q with
   |zero=>simp only[go,goYO,run,ih]
   |succ q=>
    cases l with
    |nil=>rfl
    |cons r l=>
     cases r with
     |op dst g i=>
      simp only[go,goYO,run,ih,opK_eq,fL_eq,fE_eq,f1_eq,putK_eq]
      cases pl.headD none with
      |some p=>
       cases g with
       |none=>
        simp only
        cases fillI s p i with
        |none=>rfl
        |some de=>
         obtain⟨d,e⟩:=de;simp only;split<;>rfl
       |some _=>rfl
      |none=>
       simp only;split
       ·cases stepOp s dst g i<;>rfl
       ·rfl
     |call dst g f args=>
      simp only[go,goYO,run,ih,hev,cvF_eq,hmap,putK_eq,fNat_eq,fDs_eq,fL_eq,f1_eq]
      cases pl.headD none with
      |some p=>
       cases s.cv f with
       |fn c first caps=>
        simp only;split
        ·cases run FT O n (.w p c (first++args.map s.ev++caps)) s with
         |none=>rfl
         |some r=>
          obtain⟨e,t,m⟩:=r
          match t,m with
          |[],_=>rfl
          |[d],[]=>rfl
          |[d],[e]=>rfl
          |[d],_::_::_=>rfl
          |_::_::_,_=>rfl
        ·rfl
       |_=>rfl
      |none=>
       cases s.cv f with
       |fn c first caps=>
        simp only;split
        ·cases gateOn s g with
         |none=>rfl
         |some b=>
          cases b with
          |false=>rfl
          |true=>
           simp only
           cases run FT O n (.q c (first++args.map s.ev++caps)) s with
           |none=>rfl
           |some r=>
            obtain⟨e,t,m⟩:=r
            match t with
            |[]=>rfl
            |[d]=>rfl
            |_::_::_=>rfl
        ·rfl
       |_=>
        simp only;split
        ·cases gateOn s g with
         |none=>rfl
         |some b=>cases b<;>rfl
        ·rfl
  |w p c ds=>
   simp only[go,goW,run]
   cases FT c with
   |none=>rfl
   |some q=>
    obtain⟨F,md⟩:=q
    cases s.m[p]? with
    |none=>rfl
    |some x=>
     cases x with
     |live S ver l=>
      simp only;split
      ·simp only[ih,fDs_eq,endK_eq]
       cases run FT O n (.c F.code) ⟨ds.map (reref p ver)++yn (F.ntmps-ds.length) .dead,[.live S 0 l]⟩with
       |none=>rfl
       |some r=>
        obtain⟨e,s'⟩:=r;simp only
        cases ended F (some (e,s'))with
        |none=>rfl
        |some y=>
         obtain⟨d,m⟩:=y;simp only
         cases wEnd S ver d m with
         |none=>rfl
         |some z=>simp only[fD_eq,fE_eq]
      ·rfl
     |_=>rfl
  |q c ds=>
   simp only[go,goQ,run];split
   ·exact ih _ _ _
   ·cases FT c with
    |none=>rfl
    |some p=>
     obtain⟨F,md⟩:=p;simp only;split
     ·simp only[ih,fDs_eq,endK_eq]
      cases run FT O n (.c F.code) ⟨ds.map (froz 8 s.m)++yn (F.ntmps-ds.length) .dead,[]⟩with
      |none=>rfl
      |some r=>
       obtain⟨e,s'⟩:=r;simp only
       cases ended F (some (e,s'))with
       |none=>rfl
       |some p=>
        obtain⟨d,m⟩:=p;simp only
        cases lent m d with
        |none=>rfl
        |some d=>simp only[fD_eq]
     ·rfl
  |f c ds=>
   simp only[go,goF,run]
   cases FT c with
   |none=>rfl
   |some p=>
    obtain⟨F,md⟩:=p
    match md with
    |0=>
     simp only[ih,fL_eq,f1_eq,endK_eq]
     cases run FT O n (.c F.code) ⟨ds++yn (F.ntmps-ds.length) .dead,s.m⟩with
     |none=>rfl
     |some r=>
      obtain⟨e,s'⟩:=r;simp only;cases ended F (some (e,s'))<;>rfl
    |1=>
     simp only[ih,fL_eq,f1_eq,endK_eq];split
     ·cases run FT O n (.p c ds) s with
      |none=>rfl
      |some r=>
       obtain⟨e,t,m⟩:=r
       match t with
       |[]=>rfl
       |[d]=>rfl
       |_::_::_=>rfl
     ·cases run FT O n (.c F.code) ⟨ds++yn (F.ntmps-ds.length) .dead,s.m⟩with
      |none=>rfl
      |some r=>
       obtain⟨e,s'⟩:=r;simp only;cases ended F (some (e,s'))<;>rfl
    |md+3=>
     simp only
     cases O c ds with
     |none=>rfl
     |some d=>simp only[fD_eq]
    |2=>
     simp only[ih,fDs_eq,endK_eq]
     cases run FT O n (.c F.code) ⟨ds.map (froz 8 s.m)++yn (F.ntmps-ds.length) .dead,[]⟩with
     |none=>rfl
     |some r=>
      obtain⟨e,s'⟩:=r;simp only
      cases ended F (some (e,s'))with
      |none=>rfl
      |some p=>
       obtain⟨d,m⟩:=p;simp only
       cases lent m d with
       |none=>rfl
       |some d=>simp only[fD_eq]
  |p c ds=>
   simp only[go,goP,run]
   cases FT c with
   |none=>rfl
   |some p=>
    obtain⟨F,md⟩:=p;have key:(if idfrees ds=true then fL (ds++yn (F.ntmps-ds.length) .dead) fun t=>(runK FT O n) (.c F.code) ⟨t,[]⟩ (endKe F fun d m'=>fD (froz 8 m' d) fun d=>k .normal ⟨[d],[]⟩)else none)=(match (if idfrees ds=true then(match ended F (run FT O n (.c F.code) ⟨ds++yn (F.ntmps-ds.length) .dead,[]⟩)with|some (d,m')=>some (Exit.normal,(⟨[froz 8 m' d],[]⟩:St))|none=>none)else none)with|some (e,s')=>k e s'|none=>none):=by
     split
     ·simp only[ih,fL_eq,endK_eq]
      cases run FT O n (.c F.code) ⟨ds++yn (F.ntmps-ds.length) .dead,[]⟩with
      |none=>rfl
      |some r=>
       obtain⟨e,s'⟩:=r;simp only
       cases ended F (some (e,s'))with
       |none=>rfl
       |some p=>simp[fD_eq]
     ·rfl
    match md with
    |md+3=>
     simp only
     cases O c ds with
     |none=>rfl
     |some d=>simp only[fD_eq]
    |0=>exact key
    |1=>exact key
    |2=>exact key
variable {P:Program}
def okK(r:Option (Exit×St)) (d:D) (m':List Ent):Bool:=
 match r with
 |some (_,s)=>eqSt s ⟨[d],m'⟩
 |none=>false
theorem call_runPK(hmix:P.follows .mixedOrders=true) {L:List (Nat×Fun)}(hL:TabOk P L) {md:Nat→Nat}(hS:SaidOk P md O) (n:Nat) {k:Nat}{ds:List D}{d:D}
 (h:okK (runK (tabOf L md) O n (.p k ds) ⟨[],[]⟩ fun e s=>some (e,s)) d []=true) (m:List Ent):CallT P k ds m fun d' m''=>d'=d∧m''=m:=by
 rw[runK_eq]at h;refine call_runP hmix hL hS n ?_ m;unfold okK at h
 cases hr:run (tabOf L md) O n (.p k ds) ⟨[],[]⟩with
 |none=>rw[hr]at h;exact h
 |some r=>rw[hr]at h;exact h
end
end
end Go.Tm
namespace Go.Tm
variable {P:Program} {N:Nat}
def andT(r:Option (D×List Ent)) (f:D→List Ent→Prop):Prop:=
 match r with
 |some p=>f p.1 p.2
 |none=>False
@[congr] theorem andT_congr{r r':Option (D×List Ent)} {f:D→List Ent→Prop} (h:r=r'):andT r f=andT r' f:=by rw[h]
theorem andT_some(d:D) (m:List Ent) (f:D→List Ent→Prop):andT (some (d,m)) f=f d m:=rn rfl rfl
theorem andT_iff(r:Option (D×List Ent)) (f:D→List Ent→Prop):andT r f↔∃d m',r=some (d,m')∧f d m':=by
 cases r with
 |none=>simp[andT]
 |some p=>
  obtain⟨d,m⟩:=p;simp only[andT];exact⟨fun h=>⟨d,m,rfl,h⟩,fun⟨_,_,h1,h2⟩=>by injection h1 with h1;injection h1 with h1 h3;rw[h1,h3];exact h2⟩
def callX(P:Program) (k:Nat) (ds:List D) (m:List Ent) (f:D→List Ent→Prop):Prop:=CallT P k ds m f
@[congr] theorem callX_congr{k k':Nat} {ds ds':List D} {m m':List Ent} {f:D→List Ent→Prop} (h1:k=k') (h2:ds=ds') (h3:m=m'):callX P k ds m f=callX P k' ds' m' f:=by rw[h1,h2,h3]
theorem callX_eq{k:Nat}{ds:List D}{m m1:List Ent}{d1:D}{f:D→List Ent→Prop}(h:CallT P k ds m fun d m'=>d=d1∧m'=m1) (hf:f d1 m1):callX P k ds m f:=
 h.mono fun d m' ⟨h1,h2⟩=>by rw[h1,h2];exact hf
theorem Subs.cons{d e:D}{l r:List D}(h1:Sub d e) (h2:Subs l r):Subs (d::l) (e::r):=by
 simp only[Subs];exact⟨e,r,rfl,h1,h2⟩
theorem Sub.toDead(d:D):Sub d .dead:=by cases d<;>simp[Sub]
end Go.Tm
namespace Go.Tm
variable {P:Program} {N:Nat}
def gP(p Y N:Prop):Prop:=(p→Y)∧(¬p→N)
theorem gP_T{Y N:Prop}:gP True Y N=Y:=by simp[gP]
theorem gP_F{Y N:Prop}:gP False Y N=N:=by simp[gP]
@[congr] theorem gP_congr{p p' Y N:Prop} (h:p=p'):gP p Y N=gP p' Y N:=by rw[h]
theorem gP.mk{p Y N:Prop}(h1:p→Y) (h2:¬p→N):gP p Y N:=⟨h1,h2⟩
def pin(s:St) (g:Option (Tmp×Bool)) (b:Bool):St:=
 match g with
 |none=>s
 |some (t,_)=>
  match s.t.getD t .dead with
  |.v (.bool _)=>{ s with t:=s.t.set t (.v (.bool b)) }
  |_=>s
theorem set_getD{l:List D}{t:Nat}{d:D}(h:l.getD t .dead=d) (hd:d≠.dead):l.set t d=l:=by
 apply rq;intro j;rw[rp];split
 ·rename_i hj;subst hj;split
  ·rename_i hlt;rw[Dn,pn hlt,Option.getD_some]at h;rw[pn hlt,h]
  ·rename_i hlt;rw[Dn,Rn (by omega)]at h;exact absurd h.symm hd
 ·rfl
theorem pin_yes{s:St}{g:Option (Tmp×Bool)}{c b:Bool}(hg:gate s g=some (some (c,b))) (e:c=b):pin s g b=s:=by
 unfold pin
 cases g with
 |none=>rfl
 |some p=>
  obtain⟨t,b'⟩:=p;simp only;split
  ·rename_i x hx;simp only[gate,hx]at hg;injection hg with hg;injection hg with hg;injection hg with h1 h2;subst h1 h2;subst e;rw[set_getD hx (by simp)]
  ·rfl
theorem pin_no{s:St}{g:Option (Tmp×Bool)}{c b:Bool}(hg:gate s g=some (some (c,b))) (e:c≠b):pin s g (!b)=s:=by
 unfold pin
 cases g with
 |none=>rfl
 |some p=>
  obtain⟨t,b'⟩:=p;simp only;split
  ·rename_i x hx;simp only[gate,hx]at hg;injection hg with hg;injection hg with hg;injection hg with h1 h2;subst h1 h2;have:x = !b':=by cases x<;>cases b'<;>simp_all
   subst this;rw[set_getD hx (by simp)]
  ·rfl
def KO(R:St→Prop) (s:St) (dst:Option Tmp) (d:D) (m':List Ent):Prop:=R ({ s with m:=m' }.put dst d)
def RegZ(P:Program):List RI→(St→Prop)→St→Prop
 |[],K,s=>K s
 |.op dst g i::l,K,s=>
  match gate s g with
  |none=>False
  |some none=>andT (evalI s i) (KO (RegZ P l K) s dst)
  |some (some (c,b))=>gP (c=b) (andT (evalI (pin s g b) i) (KO (RegZ P l K) (pin s g b) dst)) (RegZ P l K ((pin s g (!b)).put dst (.v undef)))
 |.call dst g f args::l,K,s=>
  match s.ec f with
  |.fn k first caps=>
   match gate s g with
   |none=>False
   |some none=>callX P k (first++args.map s.ev++caps) s.m (KO (RegZ P l K) s dst)
   |some (some (c,b))=>gP (c=b) (callX P k (first++args.map (pin s g b).ev++caps) s.m (KO (RegZ P l K) (pin s g b) dst)) (RegZ P l K ((pin s g (!b)).put dst (.v undef)))
  |_=>False
theorem regZ_T:∀{l:List RI}{K:St→Prop}{s:St},RegZ P l K s→RegT P l K s
 |[],K,s,h=>h
 |.op dst g i::l,K,s,h=>by
  simp only[RegZ]at h;simp only[RegT];split at h
  ·exact h.elim
  ·rename_i hg;rw[hg];obtain⟨d,m',h1,h2⟩:=(andT_iff _ _).1 h;exact⟨d,m',h1,regZ_T h2⟩
  ·rename_i c b hg;rw[hg];refine⟨fun e=>?_,fun e=>?_⟩
   ·have h:=h.1 e;rw[pin_yes hg e]at h;obtain⟨d,m',h1,h2⟩:=(andT_iff _ _).1 h;exact⟨d,m',h1,regZ_T h2⟩
   ·have h:=h.2 e;rw[pin_no hg e]at h;exact regZ_T h
 |.call dst g f args::l,K,s,h=>by
  simp only[RegZ]at h;simp only[RegT];split at h
  ·rename_i k first caps hf
   rw[hf];split at h
   ·exact h.elim
   ·rename_i hg;rw[hg];exact h.mono fun _ _ h2=>regZ_T h2
   ·rename_i c b hg;rw[hg];refine⟨fun e=>?_,fun e=>?_⟩
    ·have h:=h.1 e;rw[pin_yes hg e]at h;exact h.mono fun _ _ h2=>regZ_T h2
    ·have h:=h.2 e;rw[pin_no hg e]at h;exact regZ_T h
  ·exact h.elim
def DrX(P:Program):Nat→List RI→(St→Prop)→St→Prop
 |0,l,K,s=>RegZ P l K s
 |_+1,[],_,_=>False
 |q+1,.op dst g i::l,K,s=>
  match gate s g with
  |none=>False
  |some none=>andT (evalI s i) (KO (DrX P q l K) s dst)
  |some (some (c,b))=>gP (c=b) (andT (evalI s i) (KO (DrX P q l K) s dst)) (DrX P q l K (s.put dst (.v undef)))
 |q+1,.call dst g f args::l,K,s=>
  match s.cv f with
  |.fn k first caps=>
   match gate s g with
   |none=>False
   |some none=>∃d,(∀m,CallT P k (first++args.map s.ev++caps) m fun d' m'=>d'=d∧m'=m)∧DrX P q l K (s.put dst d)
   |some (some (c,b))=>(c=b→∃d,(∀m,CallT P k (first++args.map s.ev++caps) m fun d' m'=>d'=d∧m'=m)∧DrX P q l K (s.put dst d))∧(c≠b→DrX P q l K (s.put dst (.v undef)))
  |_=>False
theorem callT_sub{f:FuncId}{ds ds':List D}{m:List Ent}{R:D→List Ent→Prop}(hs:Subs ds ds') (h:CallT P f ds' m R):CallT P f ds m R:=
 ⟨h.1,fun G w vs hv hi=>h.2 G w vs (hs.rel hv) hi⟩
def KS(P:Program) (N:Nat) (b:C) (K:Exit→St→Prop) (e:Exit) (s':St):Prop:=match e with|.normal=>Tm.T P N b K s'|e=>K e s'
theorem KS_normal{b:C}{K:Exit→St→Prop}{s:St}:KS P N b K .normal s=Tm.T P N b K s:=rn rfl rfl
theorem KS_exit{b:C}{K:Exit→St→Prop}{s:St}{i:Nat}:KS P N b K (.exit i) s=K (.exit i) s:=rn rfl rfl
theorem KS_ret{b:C}{K:Exit→St→Prop}{s:St}:KS P N b K .ret s=K .ret s:=rn rfl rfl
def KB(id:Nat) (K:Exit→St→Prop) (e:Exit) (s':St):Prop:=match e with|.exit id'=>if id'=id then K .normal s' else K (.exit id') s'|e=>K e s'
theorem KB_normal{id:Nat}{K:Exit→St→Prop}{s:St}:KB id K .normal s=K .normal s:=rn rfl rfl
theorem KB_exit{id:Nat}{K:Exit→St→Prop}{s:St}{i:Nat}:KB id K (.exit i) s=if i=id then K .normal s else K (.exit i) s:=rn rfl rfl
theorem KB_ret{id:Nat}{K:Exit→St→Prop}{s:St}:KB id K .ret s=K .ret s:=rn rfl rfl
@[congr] theorem T_congr{c:C} {K:Exit→St→Prop} {s s':St} (h:s=s'):Tm.T P N c K s=Tm.T P N c K s':=by rw[h]
section
variable {l:List RI} {K:St→Prop} {s:St} {dst:Option Tmp} {i:I} {q:Nat} {f:Cal} {args:List Operand} {g:Tmp×Bool}
theorem RegZ_nil:RegZ P [] K s=K s:=rn rfl rfl
theorem RegZ_op:RegZ P (.op dst none i::l) K s=andT (evalI s i) (KO (RegZ P l K) s dst):=rn rfl rfl
theorem RegZ_opg:RegZ P (.op dst (some g) i::l) K s =
 match gate s (some g)with
 |none=>False
 |some none=>andT (evalI s i) (KO (RegZ P l K) s dst)
 |some (some (c,b))=>gP (c=b) (andT (evalI (pin s (some g) b) i) (KO (RegZ P l K) (pin s (some g) b) dst)) (RegZ P l K ((pin s (some g) (!b)).put dst (.v undef))):=rn rfl rfl
theorem RegZ_call{k:FuncId}{first caps:List D}(hf:s.ec f=.fn k first caps):RegZ P (.call dst none f args::l) K s=callX P k (first++args.map s.ev++caps) s.m (KO (RegZ P l K) s dst):=by
 simp only[RegZ,hf,gate]
theorem RegZ_callF{k:FuncId}:RegZ P (.call dst none (.func k) args::l) K s=callX P k (args.map s.ev) s.m (KO (RegZ P l K) s dst):=by
 rw[RegZ_call (k:=k) (first:=[]) (caps:=[]) rfl,Jo,bo]
theorem RegZ_callFg{k:FuncId}:RegZ P (.call dst (some g) (.func k) args::l) K s =
 match gate s (some g)with
 |none=>False
 |some none=>callX P k (args.map s.ev) s.m (KO (RegZ P l K) s dst)
 |some (some (c,b))=>gP (c=b) (callX P k (args.map (pin s (some g) b).ev) s.m (KO (RegZ P l K) (pin s (some g) b) dst)) (RegZ P l K ((pin s (some g) (!b)).put dst (.v undef))):=by
 simp only[RegZ,St.ec,St.ev,Jo,bo]
theorem DrX_zero:DrX P 0 l K s=RegZ P l K s:=by simp only[DrX]
theorem DrX_op:DrX P (q+1) (.op dst none i::l) K s=andT (evalI s i) (KO (DrX P q l K) s dst):=rn rfl rfl
theorem DrX_opg:DrX P (q+1) (.op dst (some g) i::l) K s =
 match gate s (some g)with
 |none=>False
 |some none=>andT (evalI s i) (KO (DrX P q l K) s dst)
 |some (some (c,b))=>gP (c=b) (andT (evalI s i) (KO (DrX P q l K) s dst)) (DrX P q l K (s.put dst (.v undef))):=rn rfl rfl
def callQ(P:Program) (k:FuncId) (ds:List D) (R:St→Prop) (s:St) (dst:Option Tmp):Prop:=∃d,(∀m,CallT P k ds m fun d' m'=>d'=d∧m'=m)∧R (s.put dst d)
theorem DrX_callF{k:FuncId}:DrX P (q+1) (.call dst none (.func k) args::l) K s=callQ P k (args.map s.ev) (DrX P q l K) s dst:=by
 simp only[DrX,St.cv,St.ev,Jo,bo,callQ,gate]
theorem DrX_callFg{k:FuncId}:DrX P (q+1) (.call dst (some g) (.func k) args::l) K s =
 match gate s (some g)with
 |none=>False
 |some none=>callQ P k (args.map s.ev) (DrX P q l K) s dst
 |some (some (c,b))=>gP (c=b) (callQ P k (args.map s.ev) (DrX P q l K) s dst) (DrX P q l K (s.put dst (.v undef))):=by
 simp only[DrX,St.cv,St.ev,Jo,bo,callQ,gP]
variable {K':Exit→St→Prop} {a b:C} {c:Operand} {id:Nat} {cuts:List Nat} {bs:List (List Nat)}
end
def At(s' S:St):Prop:=Subs s'.t S.t∧∃g,s'.m=S.m++g
theorem At.mk(t t':List D) (m g:List Ent) (h:Subs t t'):At ⟨t,m++g⟩ ⟨t',m⟩:=⟨h,g,rfl⟩
theorem At.same(t t':List D) (m:List Ent) (h:Subs t t'):At ⟨t,m⟩ ⟨t',m⟩:=⟨h,[],by simp⟩
def Fit(N:Nat) (s:St):Prop:=N≤s.m.length∧belows s.m.length s.t=true∧s.m.all (Ent.below s.m.length)=true
def Stab(N:Nat) (K:Exit→St→Prop):Prop:=∀s s',At s' s→Fit N s→K .normal s→K .normal s'
def Clo(N:Nat) (K:Exit→St→Prop) (e:Exit) (s:St):Prop:=∀(G:Gh) (w:World) (a:Act),N≤G.n→Rel G w a s→∃s' G',K e s'∧Rel G' w a s'∧StepN N G w s.m G' w s'.m
theorem Clo.of{K:Exit→St→Prop}{e:Exit}{s:St}(h:K e s):Clo N K e s:=fun G w a hN hr=>⟨s,G,h,hr,StepN.refl _ _ _ hN⟩
theorem T.clo{c:C}{K:Exit→St→Prop}{s:St}(h:Tm.T P N c (Clo N K) s):Tm.T P N c K s:=by
 intro code hc G w a hN hr;refine Code.wp_mono ?_ (h code hc G w a hN hr);rintro e a' w' ⟨s',G',hK,hr',hs'⟩;obtain⟨s'',G'',k1,k2,k3⟩:=hK G' w' a' hs'.n hr';exact⟨s'',G'',k1,k2,hs'.trans k3⟩
theorem T.at{c:C}{K:Exit→St→Prop}{s S:St}(hs:At s S) (hb:Fit N S) (h:Tm.T P N c K S):Tm.T P N c K s:=by
 obtain⟨h1,g,h2⟩:=hs;obtain⟨b1,b2,b3⟩:=hb;refine T.sub S.t h1 ?_;refine T.trim S.m.length b1 (by simp[h2]) b2 (by simpa [h2] using b3) ?_;have hst:(⟨S.t,s.m.take S.m.length⟩:St)=S:=by rw[h2,List.take_left]
 simp only[hst];exact h
theorem T.seqS{a b:C}{K:Exit→St→Prop}{s:St}(h:Tm.T P N a (KS P N b K) s):Tm.T P N (.seq a b) K s:=T.seq (h.mono fun e s' h'=>by cases e<;>exact h')
theorem stab_S{b:C}{K:Exit→St→Prop}:Stab N (KS P N b K):=fun s s' h1 h2 h3=>T.at h1 h2 h3
def KM{X:Type}(id:Nat) (K:Exit→St→Prop) (S:X→St) (good fin:X→Prop) (μ:X→Nat) (y:X) (e:Exit) (s':St):Prop:=
 match e with|.normal=>∃z,good z∧μ z<μ y∧At s' (S z)|.exit j=>if j=id then(∃z,fin z∧At s' (S z))else K (.exit j) s'|e=>K e s'
section
variable {X:Type} {id:Nat} {K:Exit→St→Prop} {S:X→St} {good fin:X→Prop} {μ:X→Nat} {y:X} {s':St}
theorem KM_exit{j:Nat}:KM id K S good fin μ y (.exit j) s'=if j=id then(∃z,fin z∧At s' (S z))else K (.exit j) s':=rn rfl rfl
end
def KI(id n:Nat) (K:Exit→St→Prop) (S:Nat→St) (i:Nat) (e:Exit) (s':St):Prop:=
 match e with|.normal=>i<n∧At s' (S (i+1))|.exit j=>if j=id then i=n∧At s' (S n)else K (.exit j) s'|e=>K e s'
section
variable {id n i:Nat} {K:Exit→St→Prop} {S:Nat→St} {s':St}
theorem KI_normal:KI id n K S i .normal s'=(i<n∧At s' (S (i+1))):=rn rfl rfl
theorem KI_exit{j:Nat}:KI id n K S i (.exit j) s'=if j=id then i=n∧At s' (S n)else K (.exit j) s':=rn rfl rfl
end
theorem T.blkM{id:Nat}{x:C}{K:Exit→St→Prop}{s:St}{X:Type}(S:X→St) (good fin:X→Prop) (μ:X→Nat) (x₀:X) (h0:good x₀) (hs:At s (S x₀))
 (hb:∀y,good y∨fin y→Fit N (S y))
 (round:∀y,good y→Tm.T P N x (KM id K S good fin μ y) (S y))
 (hst:(∃z,fin z)→Stab N K) (rest:∀z,fin z→K .normal (S z)):Tm.T P N (.block id (.loop x)) K s:=by
 refine T.at hs (hb x₀ (.inl h0)) ?_;refine T.block (T.loopS S good μ x₀ h0 (Subs.refl' _) rfl (fun y hy=>hb y (.inl hy)) fun y hy=>(round y hy).mono ?_);intro e s' h
 cases e with
 |normal=>obtain⟨z,h1,h2,h3,h4⟩:=h;exact⟨z,h1,h2,h3,h4⟩
 |exit j=>
  simp only[KM_exit]at h⊢;split at h
  ·rename_i hj;rw[if_pos hj];obtain⟨z,hz,h1⟩:=h;exact hst ⟨z,hz⟩ (S z) s' h1 (hb z (.inr hz)) (rest z hz)
  ·rename_i hj;rw[if_neg hj];exact h
 |_=>exact h
theorem T.blkI{id:Nat}{x:C}{K:Exit→St→Prop}{s:St}(n:Nat) (S:Nat→St) (hs:At s (S 0)) (hb:∀i,i≤n→Fit N (S i))
 (round:∀i,i≤n→Tm.T P N x (KI id n K S i) (S i))
 (hst:Stab N K) (rest:K .normal (S n)):Tm.T P N (.block id (.loop x)) K s:=by
 refine T.blkM (X:=Nat) S (fun i=>i≤n) (fun i=>i=n) (fun i=>n-i) 0 (Jp _) hs (fun y hy=>hb y (by omega)) (fun i hi=>(round i hi).mono ?_) (fun _=>hst) (fun z hz=>by rw[hz];exact rest);intro e s' h
 cases e with
 |normal=>
  simp only[KI_normal]at h;exact⟨i+1,h.1,by show n-(i+1)<n-i;omega,h.2⟩
 |exit j=>
  simp only[KI_exit,KM_exit]at h⊢;split at h
  ·rename_i hj;rw[if_pos hj];exact⟨n,rfl,h.2⟩
  ·rename_i hj;rw[if_neg hj];exact h
 |_=>exact h
theorem tupD_one(d:D):tupD [d]=d:=rn rfl rfl
theorem tupD_nil:tupD []=.tup []:=rn rfl rfl
theorem tupD_two(d e:D) (l:List D):tupD (d::e::l)=.tup (d::e::l):=rn rfl rfl
theorem andT_ite{c:Prop} [Decidable c] (p:D×List Ent) (f:D→List Ent→Prop):andT (if c then some p else none) f=(c∧f p.1 p.2):=by
 by_cases h:c<;>simp[h,andT]
theorem map_ite{α β:Type}{c:Prop} [Decidable c] (a:α) (g:α→β):(if c then some a else none:Option α).map g=if c then some (g a)else none:=by
 by_cases h:c<;>simp[h]
theorem wrapI{n:Int}(h:-9223372036854775808≤n∧n≤9223372036854775807):wrapF .i64 n=n:=by
 rw[wrapF_eq,IntKind.wrap_i64];omega
section
variable {k:Nat} {m:List Ent} {id ver S lo n:Nat} {l:List D}
end
theorem cast0:((0:Nat):Int)=0:=rn rfl rfl
theorem not_bool(b:Bool):pureRun (Op.unary .not (.bool b))=some (.bool (!b)):=rn rfl rfl
theorem belowsA{k:Nat}{a b:List D}(ha:belows k a=true) (hb:belows k b=true):belows k (a++b)=true:=by
 induction a with
 |nil=>exact hb
 |cons d a ih=>
  simp only[belows,xn,xo]at ha⊢;exact⟨ha.1,ih ha.2⟩
theorem neg_int(k:IntKind) (n:Int):pureRun (Op.unary .neg (.int k n))=some (.int k (wrapF k (-n))):=by
 show some (Value.int k (k.wrap (0-n)))=_;rw[wrapF_eq,Int.zero_sub]
theorem max_int(k:IntKind) (a b:Int):pureRun (Builtin.max_ #[] 0 [Value.int k a,Value.int k b].toArray)=some (.int k (max a b)):=by
 simp only[Builtin.max_,pureRun,Vs,bind_pure,Builtin.max2];by_cases h:a<b
 ·rw[if_pos h,Int.max_eq_right (by omega)];rfl
 ·rw[if_neg h,Int.max_eq_left (by omega)];rfl
theorem min_int(k:IntKind) (a b:Int):pureRun (Builtin.min_ #[] 0 [Value.int k a,Value.int k b].toArray)=some (.int k (min a b)):=by
 simp only[Builtin.min_,pureRun,Vs,bind_pure,Builtin.min2];by_cases h:b<a
 ·rw[if_pos h,Int.min_eq_right (by omega)];rfl
 ·rw[if_neg h,Int.min_eq_left (by omega)];rfl
section
variable {α:Type} {l b c:List α} {a a' x:α}
end
end Go.Tm
namespace Go.Tm
open Go.RowKit (Below)
open Go.WideShapes
inductive Sh where
 |bool
 |int (k:IntKind)
 |str
 |sl (S:Nat) (A:Bool) (e:Sh)
 |cat (l:List Sh)
def aggT(P:Program) (t:TypeId):Bool:=
 match P.underlying t with
 |some (.struct _)=>true
 |some (.array _ _)=>true
 |_=>false
def shFields(f:TypeId→Option Sh) (P:Program):List Field→Nat→Option (List Sh×Nat)
 |[],off=>some ([],off)
 |g::gs,off=>
  if g.offset=off then
   match f g.type,shFields f P gs (off+P.cellsOf g.type)with
   |some s,some (l,e)=>some (s::l,e)
   |_,_=>none
  else none
def shOf(P:Program):Nat→TypeId→Option Sh
 |0,_=>none
 |n+1,t=>
  match P.underlying t with
  |some .bool=>some .bool
  |some (.int k)=>some (.int k)
  |some .string=>some .str
  |some (.slice e)=>if 0<P.cellsOf e∧0<P.bytesOf e then(shOf P n e).map fun s=>.sl (P.cellsOf e) (aggT P e) s else none
  |some (.struct fs)=>
   match shFields (shOf P n) P fs.toList 0 with
   |some (l,e)=>if e=P.cellsOf t then some (.cat l)else none
   |none=>none
  |some (.array k e)=>if P.cellsOf t=k*P.cellsOf e then(shOf P n e).map fun s=>.cat (yn k s)else none
  |_=>none
def wrapD(A:Bool) (cs:List D):D:=bif A then .agg cs else cs.headD .dead
mutual
def Look:Sh→List D→Prop
 |.bool,ds=>∃b,ds=[.v (.bool b)]
 |.int k,ds=>∃n,ds=[.v (.int k n)]∧(Lit.int k n).wf=true
 |.str,ds=>∃s:ByteArray,ds=[.v (.string s)]∧s.size≤maxLen
 |.sl S A e,ds=>∃l,ds=[.sl S l]∧l.length≤140737488355328∧∀d∈l,∃cs,Look e cs∧d=wrapD A cs
 |.cat l,ds=>LookL l ds
def LookL:List Sh→List D→Prop
 |[],ds=>ds=[]
 |s::l,ds=>∃a b,ds=a++b∧Look s a∧LookL l b
end
theorem vs_append{G:Gh}{w:World}:∀{a b:List D}{us vs:List Value},VsRel G w a us→VsRel G w b vs→VsRel G w (a++b) (us++vs)
 |[],b,us,vs,h1,h2=>by simp only[VsRel]at h1;subst h1;exact h2
 |d::a,b,us,vs,h1,h2=>by
  simp only[VsRel]at h1;obtain⟨u,r,rfl,k1,k2⟩:=h1;simp only[xo,VsRel];exact⟨u,_,rfl,k1,vs_append k2 h2⟩
theorem shFields_le{f:TypeId→Option Sh}{P:Program}:∀{fs:List Field}{off:Nat}{l:List Sh}{e:Nat},shFields f P fs off=some (l,e)→off≤e
 |[],off,l,e,h=>by simp[shFields]at h;omega
 |g::gs,off,l,e,h=>by
  simp only[shFields]at h;split at h
  ·split at h
   ·rename_i s l' e' h1 h2;simp at h;have:=shFields_le h2;omega
   ·cases h
  ·cases h
def R0(w:World):Gh:=Gh.bare fun b=>b<w.heap.size
theorem cellT_lt{w:World}{a:Addr}{v:Value}(h:w.cell? a=some v):a.block<w.heap.size:=by
 rcases vo a.block w.heap.size with h'|h'
 ·exact h'
 ·unfold World.cell? at h;rw[Fq h']at h;simp at h
section
variable {H:Type} {enc:TypeId×Value→H} {P:Program} {w:World} {base:Nat} {spare:Nat→Bool} {held:Bool}
theorem weights_mem_all{P:Program}{e:TypeId}:∀{l:List (DataW H)}{d:DataW H},d∈l→∀n∈d.weights P e,n∈DataW.weightsAll P e l
 |[],_,h=>by cases h
 |x::l,d,h=>by
  intro n hn;simp only[DataW.weightsAll,Fo];rcases oo.1 h with rfl|h
  ·exact .inl hn
  ·exact .inr (weights_mem_all h n hn)
theorem fields_tree{n fuel:Nat}{cs:List Value}(ih:∀t cs x s,shOf P n t=some s→DataW.trod enc P w base spare held fuel t cs=some x→(∀n∈x.1.weights P t,n≤reachBytes)→∃ds,Look s ds∧VsRel (R0 w) w ds cs∧∀c∈cs,one c=true) :
 ∀(fs:List Field) (off:Nat) (l:List Sh) (e:Nat),shFields (shOf P n) P fs off=some (l,e)→
  (∀f∈fs,∃x,DataW.trod enc P w base spare held fuel f.type ((cs.drop f.offset).take (P.cellsOf f.type))=some x∧∀n∈x.1.weights P f.type,n≤reachBytes)→
  ∃ds,LookL l ds∧VsRel (R0 w) w ds ((cs.drop off).take (e-off))∧∀c∈(cs.drop off).take (e-off),one c=true
 |[],off,l,e,h,_=>by
  simp[shFields]at h;obtain⟨rfl,rfl⟩:=h;refine⟨[],by simp[LookL],by simp[VsRel],by simp⟩
 |g::gs,off,l,e,h,hx=>by
  simp only[shFields]at h;split at h
  ·rename_i hoff;split at h
   ·rename_i s l' e' h1 h2;simp only[An,Bn]at h;obtain⟨rfl,rfl⟩:=h;obtain⟨x,hx0,hw0⟩:=hx g (by simp);obtain⟨a,k1,k2,k3⟩:=ih _ _ _ _ h1 hx0 hw0;obtain⟨b,m1,m2,m3⟩:=fields_tree ih gs _ _ _ h2 fun f hf=>hx f (by simp[hf]);have hle:=shFields_le h2;have heq:(cs.drop off).take (e'-off)=(cs.drop g.offset).take (P.cellsOf g.type)++(cs.drop (off+P.cellsOf g.type)).take (e'-(off+P.cellsOf g.type)):=by
     rw[show e'-off=P.cellsOf g.type+(e'-(off+P.cellsOf g.type)) by omega,Us,Cr,hoff]
    rw[heq];refine⟨a++b,by simp only[LookL];exact⟨a,b,rfl,k1,m1⟩,vs_append k2 m2,fun c hc=>?_⟩;rcases Fo.1 hc with hc|hc
    ·exact k3 c hc
    ·exact m3 c hc
   ·cases h
  ·cases h
theorem rep_tree{n fuel S:Nat}{cs:List Value}{e:TypeId}{s:Sh}(ih:∀cs x,DataW.trod enc P w base spare held fuel e cs=some x→(∀n∈x.1.weights P e,n≤reachBytes)→∃ds,Look s ds∧VsRel (R0 w) w ds cs∧∀c∈cs,one c=true) :
 ∀(k i:Nat),(∀j,i≤j→j<i+k→∃x,DataW.trod enc P w base spare held fuel e ((cs.drop (j*S)).take S)=some x∧∀n∈x.1.weights P e,n≤reachBytes)→
  ∃ds,LookL (yn k s) ds∧VsRel (R0 w) w ds ((cs.drop (i*S)).take (k*S))∧∀c∈(cs.drop (i*S)).take (k*S),one c=true
 |0,i,_=>⟨[],by simp[LookL],by simp[VsRel],by simp⟩
 |k+1,i,hx=>by
  obtain⟨x,hx0,hw0⟩:=hx i (En _) (by omega);obtain⟨a,k1,k2,k3⟩:=ih _ _ hx0 hw0;obtain⟨b,m1,m2,m3⟩:=rep_tree (n:=n) ih k (i+1) fun j h1 h2=>hx j (by omega) (by omega);have heq:(cs.drop (i*S)).take ((k+1)*S)=(cs.drop (i*S)).take S++(cs.drop ((i+1)*S)).take (k*S):=by
   rw[show(k+1)*S=S+k*S by rw[yr];omega,Us,Cr,yr]
  rw[heq];refine⟨a++b,by simp only[jq,LookL];exact⟨a,b,rfl,k1,m1⟩,vs_append k2 m2,fun c hc=>?_⟩;rcases Fo.1 hc with hc|hc
  ·exact k3 c hc
  ·exact m3 c hc
theorem wrap_rel{A:Bool}{ds:List D}{cs:List Value}(h:VsRel (R0 w) w ds cs) (h1:∀c∈cs,one c=true) (hA:A=false→cs.length=1) :
 ∃u:Value,VRel (R0 w) w (wrapD A ds) u∧u.cells=cs.toArray∧(A=true→u=.agg cs.toArray)∧(A=false→∃c,cs=[c]∧u=c):=by
 cases A with
 |true=>exact⟨.agg cs.toArray,by simp only[wrapD,cond_true,VRel];exact⟨cs,rfl,h,h1⟩,rfl,fun _=>rfl,fun h=>by cases h⟩
 |false=>
  match cs,hA rfl with
  |[c],_=>
   match ds,h with
   |d::r,h=>
    simp only[VsRel]at h;obtain⟨u,us,hu,hv,hr⟩:=h;injection hu with hu1 hu2;subst hu1;have h1c:=h1 c (by simp);have hcells:c.cells=[c].toArray:=by cases c<;>simp[one]at h1c<;>rfl
    exact⟨c,by simpa [wrapD] using hv,hcells,fun h=>Bool.noConfusion h,fun _=>⟨c,rfl,rfl⟩⟩
theorem sh_agg{n:Nat}{t:TypeId}{s:Sh}(h:shOf P n t=some s) {fuel:Nat}{cs:List Value}{x:DataW H×List MemPlace}(hx:DataW.trod enc P w base spare held fuel t cs=some x):aggT P t=false→cs.length=1:=by
 intro hA
 cases n with
 |zero=>simp[shOf]at h
 |succ n=>
  simp only[shOf]at h;simp only[aggT]at hA;split at h
  ·rename_i hu;obtain⟨b,rfl,_⟩:=DataW.trod_bool hu hx;rfl
  ·rename_i hu;obtain⟨b,rfl,_⟩:=DataW.trod_int hu hx;rfl
  ·rename_i hu;obtain⟨b,rfl,_⟩:=DataW.trod_string hu hx;rfl
  ·rename_i hu;rcases DataW.trod_slice hu hx with⟨rfl,_⟩|⟨a,len,cap,elems,rest,m,_,rfl,_⟩<;>rfl
  ·rename_i hu;rw[hu]at hA;cases hA
  ·rename_i hu;rw[hu]at hA;cases hA
  ·cases h
theorem trod_tree:∀(n:Nat) (fuel:Nat) (t:TypeId) (cs:List Value) (x:DataW H×List MemPlace) (s:Sh),shOf P n t=some s→DataW.trod enc P w base spare held fuel t cs=some x→(∀n∈x.1.weights P t,n≤reachBytes)→
 ∃ds,Look s ds∧VsRel (R0 w) w ds cs∧∀c∈cs,one c=true
 |0,fuel,t,cs,x,s,h,_,_=>by simp[shOf]at h
 |n+1,fuel,t,cs,x,s,h,hx,hwt=>by
  simp only[shOf]at h;split at h
  ·rename_i hu;injection h with h;subst h;obtain⟨b,rfl,_⟩:=DataW.trod_bool hu hx;exact⟨[.v (.bool b)],by simp only[Look];exact⟨b,rfl⟩,by simp[VsRel,VRel],by simp[one]⟩
  ·rename_i k hu;injection h with h;subst h;obtain⟨b,rfl,_,hw⟩:=DataW.trod_int hu hx;exact⟨[.v (.int k b)],by simp only[Look];exact⟨b,rfl,hw⟩,by simp[VsRel,VRel],by simp[one]⟩
  ·rename_i hu;injection h with h;subst h;obtain⟨b,rfl,_,hw⟩:=DataW.trod_string hu hx;exact⟨[.v (.string b)],by simp only[Look];exact⟨b,rfl,hw⟩,by simp[VsRel,VRel],by simp[one]⟩
  ·rename_i e hu;split at h
   ·rename_i hpos;simp only[sn]at h;obtain⟨se,hse,rfl⟩:=h;rcases DataW.trod_slice hu hx with⟨rfl,_⟩|⟨a,len,cap,elems,rest,m,_,rfl,rfl,hb,hl,hm,hlen,hel,_,_⟩
    ·refine⟨[.sl (P.cellsOf e) []],by simp only[Look];exact⟨[],rfl,Jp _,fun d hd=>by simp at hd⟩,?_,by simp[one]⟩;simp only[VsRel,VRel];exact⟨_,_,rfl,⟨none,0,0,rfl,rfl,En _,.inl trivial⟩,rfl⟩
    ·simp only[DataW.weights,hu,oo,Fo]at hwt;have hlb:=hwt _ (.inl rfl);have hle:len≤140737488355328:=by
      simp only[Oo]at hlb;have h1:=Nat.le_mul_of_pos_right (elems.length+rest.length) hpos.2;have h2:reachBytes<140737488355328:=by decide
      omega
     have each:∀i,i<len→∃d u,(∃cs,Look se cs∧d=wrapD (aggT P e) cs)∧VRel (R0 w) w d u∧u.cells.size=P.cellsOf e∧(∀j c,u.cells[j]?=some c→one c=true∧w.cell? ((a.add (i*P.cellsOf e)).add j)=some c):=by
      intro i hi;have h1:=hel i hi;rw[pn (by omega)]at h1;obtain⟨ecs,k1,k2⟩:=Ep.1 h1;obtain⟨ds,m1,m2,m3⟩:=trod_tree n _ _ _ _ _ hse k2 (fun q hq=>hwt q (.inr (.inl (weights_mem_all (Zr (On _)) q hq))));obtain⟨_,q1,q2⟩:=World.cells?_some k1;obtain⟨u,r1,r2,_,_⟩:=wrap_rel (A:=aggT P e) m2 m3 (sh_agg hse k2);refine⟨wrapD (aggT P e) ds,u,⟨ds,m1,rfl⟩,r1,by rw[r2];simpa using q1,fun j c hj=>?_⟩;rw[r2]at hj;have hj':ecs[j]?=some c:=by simpa using hj
      have hjl:j<P.cellsOf e:=by rw[←q1];exact(Mn.1 hj').1
      exact⟨m3 c (Bo hj'),by rw[q2 j hjl,hj']⟩
     have hrow:∀k,k≤len→∃l:List D,l.length=k∧(∀d∈l,∃cs,Look se cs∧d=wrapD (aggT P e) cs)∧∀(i:Nat) d,l[i]?=some d→∃u,VRel (R0 w) w d u∧u.cells.size=P.cellsOf e∧(∀j c,u.cells[j]?=some c→one c=true∧w.cell? ((a.add (i*P.cellsOf e)).add j)=some c):=by
      intro k
      induction k with
      |zero=>exact fun _=>⟨[],rfl,fun d hd=>by simp at hd,fun i d hd=>by simp at hd⟩
      |succ k ih=>
       intro hk;obtain⟨l,l1,l2,l3⟩:=ih (by omega);obtain⟨d,u,d1,d2,d3,d4⟩:=each k (by omega);refine⟨l++[d],by simp[l1],fun d' hd'=>?_,fun i d' hd'=>?_⟩
       ·rcases Fo.1 hd' with hd'|hd'
        ·exact l2 d' hd'
        ·simp at hd';rw[hd'];exact d1
       ·rcases vo i l.length with hi|hi
        ·rw[List.getElem?_append_left hi]at hd';exact l3 i d' hd'
        ·rw[List.getElem?_append_right hi]at hd';have:i-l.length=0:=by
          have:=(Mn.1 hd').1;simp at this;omega
         rw[this]at hd';simp at hd';subst hd';have hik:i=k:=by omega
         subst hik;exact⟨u,d2,d3,d4⟩
     obtain⟨l,l1,l2,l3⟩:=hrow len (En _);refine⟨[.sl (P.cellsOf e) l],by simp only[Look];exact⟨l,rfl,by omega,l2⟩,?_,by simp[one]⟩;simp only[VsRel,VRel];refine⟨_,_,rfl,⟨some a,len,cap,rfl,l1.symm,hl,?_⟩,rfl⟩
     cases l with
     |nil=>exact .inl rfl
     |cons d0 l'=>
      obtain⟨u0,_,us,uc⟩:=l3 0 d0 rfl;have h0:∃c,u0.cells[0]?=some c:=⟨u0.cells[0]'(by omega),Yn (by omega)⟩;obtain⟨c,hc⟩:=h0;have hc2:=(uc 0 c hc).2;have hadd:(a.add (0*P.cellsOf e)).add 0=a:=by simp[Addr.add]
      rw[hadd]at hc2;obtain⟨b,off,spot⟩:=a;have hspot:spot=none:=by simpa using World.cell?_spot hc2
      subst hspot;refine .inr ⟨b,off,rfl,cellT_lt hc2,?_⟩;rw[rowAt_iff];intro i d hd;obtain⟨u,u1,u2,u3⟩:=l3 i d hd;refine⟨u,u1,u2,fun j c hj=>?_⟩;obtain⟨c1,c2⟩:=u3 j c hj;refine⟨c1,?_⟩;have haddr:(Addr.add (Addr.add ⟨b,off,none⟩ (i*P.cellsOf e)) j)=⟨b,off+i*P.cellsOf e+j,none⟩:=by
       unfold Addr.add;split<;>split<;>simp_all
      rw[haddr]at c2;exact c2
   ·cases h
  ·rename_i fs hu;split at h
   ·rename_i l e hsf;split at h
    ·rename_i he;injection h with h;subst h;obtain⟨xs,m,rfl,rfl,hlen,hxl,hget⟩:=DataW.trod_struct hu hx;simp only[DataW.weights,hu]at hwt;obtain⟨ds,k1,k2,k3⟩:=fields_tree (n:=n) (fuel:=m) (cs:=cs) (fun t cs x s h1 h2 h3=>trod_tree n _ _ _ _ _ h1 h2 h3) fs.toList 0 l e hsf (fun f hf=>by
      obtain⟨i,hi,hfi⟩:=List.mem_iff_getElem.1 hf;have hi':i<fs.size:=by simpa using hi
      have:=hget i f (by rw[Yn hi'];simpa using hfi);rw[pn (by omega)]at this;exact⟨_,this,fun q hq=>hwt q (DataW.weights_mem_each (j:=i) (t:=f.type) (d:=(xs[i]'(by omega)).1) (by simp only[Qo,pn hi,hfi,lp]) (by rw[Qo,pn (show i<xs.length by omega)];rfl) q hq)⟩)
     rw[Lp,Nq,he,←hlen,Ho]at k2 k3;exact⟨ds,by simp only[Look];exact k1,k2,k3⟩
    ·cases h
   ·cases h
  ·rename_i k e hu;split at h
   ·rename_i he;simp only[sn]at h;obtain⟨se,hse,rfl⟩:=h;obtain⟨xs,m,rfl,rfl,hlen,hxl,hget⟩:=DataW.trod_array hu hx;simp only[DataW.weights,hu]at hwt;obtain⟨ds,k1,k2,k3⟩:=rep_tree (n:=n) (fuel:=m) (S:=P.cellsOf e) (cs:=cs) (e:=e) (s:=se) (fun cs x h2 h3=>trod_tree n _ _ _ _ _ hse h2 h3) k 0 (fun j _ hj=>by
     have:=hget j (by omega);rw[pn (by omega)]at this;exact⟨_,this,fun q hq=>hwt q (weights_mem_all (Zr (On _)) q hq)⟩)
    rw[Nat.zero_mul,Lp,←he,←hlen,Ho]at k2 k3;exact⟨ds,by simp only[Look];exact k1,k2,k3⟩
   ·cases h
  ·cases h
def LookV(A:Bool) (s:Sh) (d:D):Prop:=∃ds,Look s ds∧d=wrapD A ds
theorem arg_tree{n:Nat}{t:TypeId}{s:Sh}{v:Value}{d:DataW H}{p:List MemPlace}{r:Reach}{b0:Nat}(h:shOf P n t=some s) (hx:DataW.Trod enc P w base spare held t v d p) (hv:Value.okWide P w r b0 t v) (hwt:∀n∈d.weights P t,n≤reachBytes) :
 ∃d',LookV (aggT P t) s d'∧VRel (R0 w) w d' v:=by
 obtain⟨fuel,hx⟩:=hx;obtain⟨ds,k1,k2,k3⟩:=trod_tree n _ _ _ _ _ h hx hwt;obtain⟨u,u1,u2,u3,u4⟩:=wrap_rel (A:=aggT P t) k2 k3 (sh_agg h hx);refine⟨wrapD (aggT P t) ds,⟨ds,k1,rfl⟩,?_⟩;have:u=v:=by
  cases hA:aggT P t with
  |true=>
   rw[u3 hA];unfold aggT at hA;split at hA
   ·rename_i hu;simp only[Value.okWide,hu]at hv;obtain⟨cs,rfl,_⟩:=hv;simp[Value.cells]
   ·rename_i hu;simp only[Value.okWide,hu]at hv;obtain⟨cs,rfl,_⟩:=hv;simp[Value.cells]
   ·cases hA
  |false=>
   obtain⟨c,hc,rfl⟩:=u4 hA
   cases n with
   |zero=>simp[shOf]at h
   |succ n=>
    simp only[shOf]at h;unfold aggT at hA;split at h
    ·rename_i hu;obtain⟨b,rfl⟩:=okWide_bool hu hv;simpa [Value.cells] using hc.symm
    ·rename_i hu;obtain⟨b,rfl⟩:=okWide_int hu hv;simpa [Value.cells] using hc.symm
    ·rename_i hu;obtain⟨b,rfl⟩:=okWide_string hu hv;simpa [Value.cells] using hc.symm
    ·rename_i hu;obtain⟨a,l,c',rfl⟩:=okWide_slice hu hv;simpa [Value.cells] using hc.symm
    ·rename_i hu;rw[hu]at hA;cases hA
    ·rename_i hu;rw[hu]at hA;cases hA
    ·cases h
 rw[←this];exact u1
end
theorem stepT_below{G G':Gh}{w w':World}{m':List Ent}(h:Step G w [] G' w' m'):Below w.heap.size w w':=
 ⟨h.os,h.tape,h.output,h.size,fun k hk=>h.keep k hk fun⟨i,e,he,_⟩=>by simp at he⟩
theorem gok_tab{P:Program}{W:World}{name:String}(hg:P.globalNamed name=some 0) (hT:Go.Lib.TabIs P W name .i64 [31,28,31,30,31,30,31,31,30,31,30,31]):GOK (R0 W) W:=by
 intro g d h;unfold gtab at h;split at h
 ·injection h with h;subst h;have hc:=hT.cell hg;refine(by
   simp only[VRel];refine⟨0,0,.agg (([31,28,31,30,31,30,31,31,30,31,30,31]:List Int).map fun n=>Value.int .i64 n).toArray,rfl,?_,⟨_,rfl,?_,?_⟩,?_⟩
   ·exact cellT_lt (a:=⟨0,0,none⟩) (hc 0 (by decide))
   ·simp only[Vn,cr,VsRel,VRel];exact⟨_,_,rfl,rfl,_,_,rfl,rfl,_,_,rfl,rfl,_,_,rfl,rfl,_,_,rfl,rfl,_,_,rfl,rfl,_,_,rfl,rfl,_,_,rfl,rfl,_,_,rfl,rfl,_,_,rfl,rfl,_,_,rfl,rfl,_,_,rfl,rfl,rfl⟩
   ·intro c hc;simp only[Vn,cr,oo,Nr,or_false]at hc;rcases hc with rfl|rfl|rfl|rfl|rfl|rfl|rfl|rfl|rfl|rfl|rfl|rfl<;>rfl
   ·intro j c hj;have hj':(([31,28,31,30,31,30,31,31,30,31,30,31]:List Int).map fun n=>Value.int .i64 n)[j]?=some c:=by simpa [Value.cells] using hj
    obtain⟨hlt,hcj⟩:=Mn.1 hj';have hlt':j<([31,28,31,30,31,30,31,31,30,31,30,31]:List Int).length:=by simpa using hlt
    rw[List.getElem_map]at hcj;subst hcj;refine⟨rfl,?_⟩;rw[oq,hc j hlt',Dn,pn hlt'];rfl:VRel (R0 W) W (.pt (.agg ([31,28,31,30,31,30,31,31,30,31,30,31].map fun n=>.v (.int .i64 n)))) (.pointer (some ⟨0,0,none⟩)))
 ·cases h
theorem law_walk{P:Program}{f:FuncId}{ds:List D}{vs:List Value}{w:World}(h:CallT P f ds [] fun d _=>d=.v (.bool true)) (hv:VsRel (R0 w) w ds vs) (hg:GOK (R0 w) w) :
 Calls P f vs.toArray w fun e w'=>e=.returned (.bool true)∧Below w.heap.size w w':=by
 refine(h.2 (R0 w) w vs hv (inv_bare (fun _ h=>h) hg)).mono ?_;rintro e w' ⟨v,d,m',G',rfl,rfl,hvd,-,hs⟩;simp only[VRel]at hvd;subst hvd;exact⟨rfl,stepT_below hs⟩
end Go.Tm
namespace Go.Tm
variable {P:Program}
theorem binJ_r(op:BinOp) (j k:IntKind) (a b:Int):pureRun (binOp op 0 (.int j a) (.int k b))=binJ op j a k b:=(binJ_eq ..).symm
theorem wrapF_r(k:IntKind) (n:Int):k.wrap n=wrapF k n:=(wrapF_eq k n).symm
end Go.Tm
namespace Go.Tm
variable {P:Program}
abbrev Org:=List (Option Nat×Nat×Nat)
def outB(ρ:Org) (j:Nat):Bool:=ρ.all fun o=>match o.1 with|some k=>k !=j|none=>true
inductive Sbs (ρ:Org) (m:List Ent):List D→List D→Prop
 |nil:Sbs ρ m [] []
 |same {d l r} (hf:idfree d=true) (h:Sbs ρ m l r):Sbs ρ m (d::l) (d::r)
 |dead {d l r} (h:Sbs ρ m l r):Sbs ρ m (d::l) (.dead::r)
 |nils {S l r} (h:Sbs ρ m l r):Sbs ρ m (.v (.slice none 0 0)::l) (.sl S []::r)
 |adopt {S u l r} (i:Nat) (hi:ρ[i]?=some (none,S,u)) (h:Sbs ρ m l r):Sbs ρ m (.v (.slice none 0 0)::l) (.own i u::r)
 |agg {a b l r} (ha:Sbs ρ m a b) (h:Sbs ρ m l r):Sbs ρ m (.agg a::l) (.agg b::r)
 |tup {a b l r} (ha:Sbs ρ m a b) (h:Sbs ρ m l r):Sbs ρ m (.tup a::l) (.tup b::r)
 |sl {S a b l r} (ha:Sbs ρ m a b) (h:Sbs ρ m l r):Sbs ρ m (.sl S a::l) (.sl S b::r)
 |own {j v u i l r} (hi:ρ[i]?=some (some j,v,u)) (h:Sbs ρ m l r):Sbs ρ m (.own j v::l) (.own i u::r)
 |ref {j v u i x s l r} (hi:ρ[i]?=some (some j,v,u)) (h:Sbs ρ m l r):Sbs ρ m (.ref j v x s::l) (.ref i u x s::r)
 |view {j v u i lo n l r} (hi:ρ[i]?=some (some j,v,u)) (h:Sbs ρ m l r):Sbs ρ m (.view j v lo n::l) (.view i u lo n::r)
 |mp {j i l r} (hi:ρ[i]?=some (some j,0,0)) (h:Sbs ρ m l r):Sbs ρ m (.mp j::l) (.mp i::r)
 |froz {S j v a b l r} (hm:m[j]?=some (.live S v a)) (ho:outB ρ j=true) (ha:Sbs ρ m a b) (h:Sbs ρ m l r):Sbs ρ m (.own j v::l) (.sl S b::r)
 |fview {S j v lo n a b l r} (hm:m[j]?=some (.live S v a)) (ho:outB ρ j=true) (hn:lo+n≤a.length) (ha:Sbs ρ m ((a.drop lo).take n) b) (h:Sbs ρ m l r):Sbs ρ m (.view j v lo n::l) (.sl S b::r)
 |fref {S j v x a d e l r} (hm:m[j]?=some (.live S v a)) (ho:outB ρ j=true) (hx:a[x]?=some d) (ha:Sbs ρ m [d] [e]) (h:Sbs ρ m l r):Sbs ρ m (.ref j v x 0::l) (.pt e::r)
 |pt {d e l r} (ha:Sbs ρ m [d] [e]) (h:Sbs ρ m l r):Sbs ρ m (.pt d::l) (.pt e::r)
 |fn {f a b c d l r} (ha:Sbs ρ m a b) (hc:Sbs ρ m c d) (h:Sbs ρ m l r):Sbs ρ m (.fn f a c::l) (.fn f b d::r)
 |ifc {t d e l r} (ha:Sbs ρ m [d] [e]) (h:Sbs ρ m l r):Sbs ρ m (.ifc t d::l) (.ifc t e::r)
def frM(es:List (Value×D)):Bool:=es.all fun p=>idfree p.2
inductive Ets (ρ:Org) (m:List Ent):Org→List Ent→Prop
 |nil:Ets ρ m [] []
 |live {j v u S l l' os es} (hm:m[j]?=some (.live S v l)) (hl:Sbs ρ m l l') (h:Ets ρ m os es):Ets ρ m ((some j,v,u)::os) (.live S u l'::es)
 |new {S u os es} (h:Ets ρ m os es):Ets ρ m ((none,S,u)::os) (.live S u []::es)
 |mp {j es os ees} (hm:m[j]?=some (.mp es)) (hf:frM es=true) (h:Ets ρ m os ees):Ets ρ m ((some j,0,0)::os) (.mp es::ees)
structure Tell (ρ:Org) (s S:St):Prop where
 t:Sbs ρ s.m s.t S.t
 m:Ets ρ s.m ρ S.m
 one:(ρ.filterMap (·.1)).Nodup
def tellG(G:Gh) (m:List Ent) (ρ:Org):Gh where
 F b:=G.F b∨(Owned G m b∧∀(i j:Nat) v,ρ[i]?=some (some j,v)→G.B j≠some b)
 n:=ρ.length
 B i:=match ρ[i]? with|some (some j,_)=>G.B j|_=>none
 V i:=match ρ[i]? with|some (_,_,u)=>u|_=>0
 S i:=match ρ[i]? with|some (some j,_)=>G.S j|some (none,S,_)=>S|_=>0
 N i:=match ρ[i]? with|some (some j,_)=>G.N j|_=>0
 C i:=match ρ[i]? with|some (some j,_)=>G.C j|_=>(0,0)
theorem outB_ne{ρ:Org}{j:Nat}(h:outB ρ j=true):∀(i k:Nat) v,ρ[i]?=some (some k,v)→k≠j:=by
 intro i k v hi;unfold outB at h;rw[qo]at h;have:=h _ (Bo hi);simpa using this
theorem tellG_out{G:Gh}{w:World}{m:List Ent}{ρ:Org}(hi:Inv G w m) (hgo:∀(i j:Nat) v,ρ[i]?=some (some j,v)→∃e:Ent,m[j]?=some e∧e.isLive=true) {j:Nat}{e:Ent}(hm:m[j]?=some e) (hl:e.isLive=true) (ho:outB ρ j=true) {b:Nat}(hb:G.B j=some b):(tellG G m ρ).F b:=by
 refine .inr ⟨⟨j,e,hm,hl,hb⟩,fun i k v hik hB=>?_⟩;obtain⟨e',he',hl'⟩:=hgo i k v hik;exact outB_ne ho i k v hik (hi.apart k j e' e he' hm hl' hl b hB hb)
theorem Sbs.length{ρ:Org}{m:List Ent}{l r:List D}(h:Sbs ρ m l r):l.length=r.length:=by
 induction h<;>simp_all
theorem sbs_lt{ρ:Org}{i:Nat}{o:Option Nat×Nat×Nat}(h:ρ[i]?=some o):i<ρ.length:=by
 rcases vo i ρ.length with h1|h1
 ·exact h1
 ·rw[Rn h1]at h;cases h
theorem Sbs.rel{G:Gh}{w:World}{m:List Ent}{ρ:Org}(hi:Inv G w m) (hgo:∀(i j:Nat) v,ρ[i]?=some (some j,v)→∃e:Ent,m[j]?=some e∧e.isLive=true∧(∀S v' l,e=.live S v' l→v'=v.1)) {l r:List D}(h:Sbs ρ m l r) :
 (∀us,VsRel G w l us→VsRel (tellG G m ρ) w r us)∧(∀b S off,RowAt G w b S l off→RowAt (tellG G m ρ) w b S r off):=by
 have hgo':∀(i j:Nat) v,ρ[i]?=some (some j,v)→∃e:Ent,m[j]?=some e∧e.isLive=true:=fun i j v h=>by obtain⟨e,h1,h2,_⟩:=hgo i j v h;exact⟨e,h1,h2⟩
 have both:∀{d e:D} {l r:List D},(∀u,VRel G w d u→VRel (tellG G m ρ) w e u)→
  ((∀us,VsRel G w l us→VsRel (tellG G m ρ) w r us)∧(∀b S off,RowAt G w b S l off→RowAt (tellG G m ρ) w b S r off))→
  ((∀us,VsRel G w (d::l) us→VsRel (tellG G m ρ) w (e::r) us)∧(∀b S off,RowAt G w b S (d::l) off→RowAt (tellG G m ρ) w b S (e::r) off)):=by
  intro d e l r h1 h2;refine⟨fun us hv=>?_,fun b S off hv=>?_⟩
  ·simp only[VsRel]at hv⊢;obtain⟨u,us',rfl,g1,g2⟩:=hv;exact⟨u,us',rfl,h1 u g1,h2.1 us' g2⟩
  ·simp only[RowAt]at hv⊢;obtain⟨⟨u,g1,g2,g3⟩,g4⟩:=hv;exact⟨⟨u,h1 u g1,g2,g3⟩,h2.2 b S _ g4⟩
 have first:∀{d e:D},(∀us,VsRel G w [d] us→VsRel (tellG G m ρ) w [e] us)→∀u,VRel G w d u→VRel (tellG G m ρ) w e u:=by
  intro d e h u hu;have:=h [u] (by simp only[VsRel];exact⟨u,[],rfl,hu,rfl⟩);simp only[VsRel]at this;obtain⟨u',us',he,h1,_⟩:=this;injection he with he _;rw[he];exact h1
 induction h with
 |nil=>exact⟨fun us h=>by simpa [VsRel] using h,fun _ _ _ _=>by simp[RowAt]⟩
 |same hf h ih=>exact both (fun u hu=>VRel.free (G':=tellG G m ρ) ⟨fun _ h=>Or.inl h,fun _ _=>rfl⟩ hf hu) ih
 |dead h ih=>exact both (fun u _=>by simp[VRel]) ih
 |nils h ih=>exact both (fun u hu=>by simp only[VRel]at hu⊢;exact⟨none,0,0,hu,rfl,En _,by simp⟩) ih
 |adopt i hi' h ih=>
  refine both (fun u hu=>?_) ih;simp only[VRel]at hu⊢;exact⟨none,0,0,hu,sbs_lt hi',by simp[tellG,hi'],fun _=>by simp[tellG,hi']⟩
 |agg ha h iha ih=>
  refine both (fun u hu=>?_) ih;simp only[VRel]at hu⊢;obtain⟨cs,rfl,g1,g2⟩:=hu;exact⟨cs,rfl,iha.1 cs g1,g2⟩
 |tup ha h iha ih=>
  refine both (fun u hu=>?_) ih;simp only[VRel]at hu⊢;obtain⟨cs,rfl,g1⟩:=hu;exact⟨cs,rfl,iha.1 cs g1⟩
 |sl ha h iha ih=>
  refine both (fun u hu=>?_) ih;simp only[VRel]at hu⊢;obtain⟨a,n,cap,rfl,hn,hc,g⟩:=hu;refine⟨a,n,cap,rfl,by rw[←ha.length];exact hn,hc,?_⟩;rcases g with rfl|⟨b,off,rfl,hF,hr⟩
  ·exact .inl (Jn ha.length.symm)
  ·exact .inr ⟨b,off,rfl,.inl hF,iha.2 b _ off hr⟩
 |own hi' h ih=>
  refine both (fun u hu=>?_) ih;obtain⟨e,he,hl,hv⟩:=hgo _ _ _ hi';simp only[VRel]at hu⊢;obtain⟨a,n,c,rfl,g1,g2,g3⟩:=hu;refine⟨a,n,c,rfl,sbs_lt hi',by simp[tellG,hi'],fun _=>?_⟩;have hent:=hi.ent _ _ he
  cases e with
  |live S v' l'=>
   obtain⟨a1,_⟩:=hent;have:=g3 (by rw[a1,hv S v' l' rfl]);simpa [tellG,hi'] using this
  |mp es=>
   obtain⟨a1,_⟩:=hent;have:=g3 (by omega);simpa [tellG,hi'] using this
  |gone=>simp[Ent.isLive]at hl
 |ref hi' h ih=>
  refine both (fun u hu=>?_) ih;obtain⟨e,he,hl,hv⟩:=hgo _ _ _ hi';simp only[VRel]at hu⊢;obtain⟨a,rfl,g1,g2,g3⟩:=hu;refine⟨a,rfl,sbs_lt hi',by simp[tellG,hi'],fun _=>?_⟩;have hent:=hi.ent _ _ he
  cases e with
  |live S v' l'=>
   obtain⟨a1,_⟩:=hent;have:=g3 (by rw[a1,hv S v' l' rfl]);simpa [tellG,hi'] using this
  |mp es=>
   obtain⟨a1,_⟩:=hent;have:=g3 (by omega);simpa [tellG,hi'] using this
  |gone=>simp[Ent.isLive]at hl
 |view hi' h ih=>
  refine both (fun u hu=>?_) ih;obtain⟨e,he,hl,hv⟩:=hgo _ _ _ hi';simp only[VRel]at hu⊢;obtain⟨a,c,rfl,g0,g1,g2,g3⟩:=hu;refine⟨a,c,rfl,g0,sbs_lt hi',by simp[tellG,hi'],fun _=>?_⟩;have hent:=hi.ent _ _ he
  cases e with
  |live S v' l'=>
   obtain⟨a1,_⟩:=hent;have:=g3 (by rw[a1,hv S v' l' rfl]);simpa [tellG,hi'] using this
  |mp es=>
   obtain⟨a1,_⟩:=hent;have:=g3 (by omega);simpa [tellG,hi'] using this
  |gone=>simp[Ent.isLive]at hl
 |mp hi' h ih=>
  refine both (fun u hu=>?_) ih;simp only[VRel]at hu⊢;obtain⟨b,rfl,g1,g2⟩:=hu;obtain⟨e,he,hl,hv⟩:=hgo _ _ _ hi';have hent:=hi.ent _ _ he;refine⟨b,rfl,sbs_lt hi',fun _=>?_⟩
  cases e with
  |live S v' l'=>
   obtain⟨a1,_⟩:=hent;have:=g2 (by rw[a1,hv S v' l' rfl]);simpa [tellG,hi'] using this
  |mp es=>
   obtain⟨a1,_⟩:=hent;have:=g2 (by omega);simpa [tellG,hi'] using this
  |gone=>simp[Ent.isLive]at hl
 |froz hm ho ha h iha ih=>
  refine both (fun u hu=>?_) ih;obtain⟨a1,a2,a3,a4,a5⟩:=hi.ent _ _ hm;simp only[VRel]at hu⊢;obtain⟨a,n,c,rfl,g1,g2,g3⟩:=hu;obtain⟨rfl,rfl,rfl⟩:=g3 a1;refine⟨_,_,_,rfl,by rw[a3,ha.length],by rw[a3];exact a4,?_⟩;rcases a5 with a5|⟨b',cs,T,hb',hF,hblk,hsz,hrow⟩
  ·have h00:=congrArg br a5.2;dsimp only at h00;exact .inl (Jn (by have:=ha.length;omega))
  ·exact .inr ⟨b',(G.C _).2,by rw[hb'];rfl,tellG_out hi hgo' hm rfl ho hb',iha.2 b' _ _ hrow⟩
 |@fview S j v lo n a b l r hm ho hn ha h iha ih=>
  refine both (fun u hu=>?_) ih;obtain⟨a1,a2,a3,a4,a5⟩:=hi.ent _ _ hm;simp only[VRel]at hu⊢;obtain⟨p,c,rfl,hnc,hid,hver,hx⟩:=hu;have hlen:=ha.length;rw[List.length_take,List.length_drop]at hlen;refine⟨p,_,c,rfl,by omega,hnc,?_⟩;rcases hx a1 with rfl|⟨b,hb,rfl⟩
  ·exact .inl (Jn (by omega))
  ·rcases a5 with a5|⟨b',cs,T,hb',hF,hblk,hsz,hrow⟩
   ·rw[a5.1]at hb;cases hb
   ·rw[hb]at hb';injection hb' with hb';subst hb';refine .inr ⟨_,_,rfl,tellG_out hi hgo' hm rfl ho hb,iha.2 _ _ _ ?_⟩;have:=rowAt_take (rowAt_drop hrow lo) n;rw[a2];rwa [Yo]at this
 |fref hm ho hx ha h iha ih=>
  refine both (fun u hu=>?_) ih;obtain⟨a1,a2,a3,a4,a5⟩:=hi.ent _ _ hm;simp only[VRel]at hu⊢;obtain⟨p,rfl,hid,hver,hp⟩:=hu;obtain⟨b,hb,rfl⟩:=hp a1;rcases a5 with a5|⟨b',cs,T,hb',hF,hblk,hsz,hrow⟩
  ·rw[a5.1]at hb;cases hb
  ·rw[hb]at hb';injection hb' with hb';subst hb';obtain⟨u,k1,k2,k3⟩:=rowAt_iff.1 hrow _ _ hx;refine⟨b,_,u,rfl,tellG_out hi hgo' hm rfl ho hb,first iha.1 u k1,?_⟩;rw[a2,ep];rwa [Yo]at k3
 |pt ha h iha ih=>
  refine both (fun u hu=>?_) ih;simp only[VRel]at hu⊢;obtain⟨b,off,x,rfl,hF,hd,hh⟩:=hu;exact⟨b,off,x,rfl,.inl hF,first iha.1 x hd,hh⟩
 |fn ha hc h iha ihc ih=>
  refine both (fun u hu=>?_) ih;simp only[VRel]at hu⊢;obtain⟨fs,cs,rfl,h1,h2⟩:=hu;exact⟨fs,cs,rfl,iha.1 fs h1,ihc.1 cs h2⟩
 |ifc ha h iha ih=>
  refine both (fun u hu=>?_) ih;simp only[VRel]at hu⊢;obtain⟨x,rfl,hd⟩:=hu;exact⟨x,rfl,first iha.1 x hd⟩
theorem Ets.get{ρ:Org}{m:List Ent}{os:Org}{es:List Ent}(h:Ets ρ m os es):os.length=es.length∧∀(i:Nat) e,es[i]?=some e→
 (∃j v u S l l',os[i]?=some (some j,v,u)∧m[j]?=some (.live S v l)∧Sbs ρ m l l'∧e=.live S u l')∨(∃S u,os[i]?=some (none,S,u)∧e=.live S u [])∨(∃j l,os[i]?=some (some j,0,0)∧m[j]?=some (.mp l)∧frM l=true∧e=.mp l):=by
 induction h with
 |nil=>exact⟨rfl,fun i e h=>by simp at h⟩
 |live hm hl h ih=>
  refine⟨by simp[ih.1],fun i e he=>?_⟩
  cases i with
  |zero=>simp only[mo,An]at he;exact .inl ⟨_,_,_,_,_,_,rfl,hm,hl,he.symm⟩
  |succ i=>simpa using ih.2 i e (by simpa using he)
 |new h ih=>
  refine⟨by simp[ih.1],fun i e he=>?_⟩
  cases i with
  |zero=>simp only[mo,An]at he;exact .inr (.inl ⟨_,_,rfl,he.symm⟩)
  |succ i=>simpa using ih.2 i e (by simpa using he)
 |mp hm hf h ih=>
  refine⟨by simp[ih.1],fun i e he=>?_⟩
  cases i with
  |zero=>simp only[mo,An]at he;exact .inr (.inr ⟨_,_,rfl,hm,hf,he.symm⟩)
  |succ i=>simpa using ih.2 i e (by simpa using he)
theorem Ets.src{ρ:Org}{m:List Ent}{os:Org}{es:List Ent}(h:Ets ρ m os es):∀(i j:Nat) v,os[i]?=some (some j,v)→∃e:Ent,m[j]?=some e∧e.isLive=true∧(∀S v' l,e=.live S v' l→v'=v.1):=by
 induction h with
 |nil=>intro i j v h;simp at h
 |live hm hl h ih=>
  intro i j v hi
  cases i with
  |zero=>
   simp only[mo,An,Bn]at hi;obtain⟨rfl,rfl⟩:=hi;exact⟨_,hm,rfl,fun S v' l he=>by injection he with _ he _;exact he.symm⟩
  |succ i=>exact ih i j v (by simpa using hi)
 |new h ih=>
  intro i j v hi
  cases i with
  |zero=>simp at hi
  |succ i=>exact ih i j v (by simpa using hi)
 |mp hm hf h ih=>
  intro i j v hi
  cases i with
  |zero=>
   simp only[mo,An,Bn]at hi;obtain⟨rfl,rfl⟩:=hi;exact⟨_,hm,rfl,fun S v' l he=>nomatch he⟩
  |succ i=>exact ih i j v (by simpa using hi)
theorem MapRel.free{G G':Gh}{w:World}(hG:∀b,G.F b→G'.F b):∀{l:List (Value×D)}{es:List MapEntry},frM l=true→MapRel G w l es→MapRel G' w l es
 |[],es,_,h=>h
 |(k,d)::l,es,hf,h=>by
  simp only[frM,Aq,xn]at hf;obtain⟨e,r,h0,h1,h2,h3⟩:=h;exact⟨e,r,h0,h1,VRel.free (G':=G') ⟨fun _ h=>hG _ h,fun _ _=>rfl⟩ hf.1 h2,MapRel.free hG hf.2 h3⟩
theorem nodup_src{ρ:Org}(h:(ρ.filterMap (·.1)).Nodup):∀(i i' j:Nat) v v',ρ[i]?=some (some j,v)→ρ[i']?=some (some j,v')→i=i':=by
 induction ρ with
 |nil=>intro i i' j v v' h;simp at h
 |cons o os ih=>
  have hmem:∀(i:Nat) j v,os[i]?=some (some j,v)→j∈os.filterMap (·.1):=fun i j v hi=>List.mem_filterMap.2 ⟨_,Bo hi,rfl⟩;intro i i' j v v' hi hi';obtain⟨o1,o2⟩:=o
  cases o1 with
  |none=>
   have h':(os.filterMap (·.1)).Nodup:=by simpa using h
   cases i with
   |zero=>simp at hi
   |succ i=>
    cases i' with
    |zero=>simp at hi'
    |succ i'=>rw[ih h' i i' j v v' (by simpa using hi) (by simpa using hi')]
  |some k=>
   have h:(k::os.filterMap (·.1)).Nodup:=by simpa using h
   rw[ur]at h
   cases i with
   |zero=>
    cases i' with
    |zero=>rfl
    |succ i'=>
     simp only[mo,An,Bn]at hi;exact(h.1 (hi.1▸hmem i' j v' (by simpa using hi'))).elim
   |succ i=>
    cases i' with
    |zero=>
     simp only[mo,An,Bn]at hi';exact(h.1 (hi'.1▸hmem i j v (by simpa using hi))).elim
    |succ i'=>rw[ih h.2 i i' j v v' (by simpa using hi) (by simpa using hi')]
def keepB(ρ:Org):Nat→Bool
 |0=>true
 |n+1=>keepB ρ n&&(match ρ[n]? with|some (some j,v,u)=>j==n&&u==v|_=>false)
theorem keepB_get{ρ:Org}:∀{n:Nat},keepB ρ n=true→∀i,i<n→∃v,ρ[i]?=some (some i,v,v)
 |0,_,i,hi=>absurd hi (Rr i)
 |n+1,h,i,hi=>by
  simp only[keepB,xn]at h;rcases vo i n with h1|h1
  ·exact keepB_get h.1 i h1
  ·obtain rfl:i=n:=by omega
   have h2:=h.2;split at h2
   ·rename_i j v u hj;simp only[xn,beq_iff_eq]at h2;obtain⟨rfl,rfl⟩:=h2;exact⟨_,hj⟩
   ·cases h2
theorem tell_ghost{N:Nat}{ρ:Org}{s S:St}(hk:keepB ρ N=true) (h:Tell ρ s S) {G:Gh}{w:World}{a:Act}(hr:Rel G w a s):Rel (tellG G s.m ρ) w a S∧StepN N G w s.m (tellG G s.m ρ) w S.m:=by
 have hi:=hr.inv;have hgo:=h.m.src;have hget:=h.m.get;have hrow:∀{l r:List D},Sbs ρ s.m l r→∀b S off,RowAt G w b S l off→RowAt (tellG G s.m ρ) w b S r off:=fun hs=>(hs.rel hi hgo).2;have hown:∀b,Owned (tellG G s.m ρ) S.m b→Owned G s.m b:=by
  rintro b ⟨i,e,he,hl,hB⟩;rcases hget.2 i e he with⟨j,v,u,S',l,l',h1,h2,h3,rfl⟩|⟨S',u,h1,rfl⟩|⟨j,l,h1,h2,h3,rfl⟩
  ·exact⟨j,_,h2,rfl,by simpa [tellG,h1] using hB⟩
  ·simp[tellG,h1]at hB
  ·exact⟨j,_,h2,rfl,by simpa [tellG,h1] using hB⟩
 refine⟨⟨(h.t.rel hi hgo).1 _ hr.t,⟨hget.1,?_,?_,?_,hi.gl.bare fun _ h=>.inl h⟩,hr.defers⟩,⟨fun _ hb=>.inl hb,fun _ _=>rfl,?_,?_,rfl,rfl,rfl,En _,fun _ _ _=>rfl,?_,fun b _ hb=>hown b hb⟩⟩
 ·rintro b (hb|hb)
  ·exact hi.F b hb
  ·exact(Owned.lt hi hb.1).1
 ·intro i e he;rcases hget.2 i e he with⟨j,v,u,S',l,l',h1,h2,h3,rfl⟩|⟨S',u,h1,rfl⟩|⟨j,l,h1,h2,h3,rfl⟩
  rotate_left 2
  ·obtain⟨a1,b',en,cl,hb',hF,hblk,hrw⟩:=hi.ent _ _ h2;refine⟨by simp[tellG,h1],b',en,cl,by simpa [tellG,h1] using hb',?_,hblk,MapRel.free (G':=tellG G s.m ρ) (fun _ h=>Or.inl h) h3 hrw⟩;rintro(hb|⟨_,hb⟩)
   ·exact hF hb
   ·exact hb i j (0,0) h1 hb'
  ·obtain⟨a1,a2,a3,a4,a5⟩:=hi.ent _ _ h2;have hlen:=h3.length;refine⟨by simp[tellG,h1],by simpa [tellG,h1] using a2,by simp[tellG,h1];omega,by simp[tellG,h1];omega,?_⟩;rcases a5 with a5|⟨b',cs,T,hb',hF,hblk,hsz,hrw⟩
   ·exact .inl (by simpa [tellG,h1] using a5)
   ·refine .inr ⟨b',cs,T,by simpa [tellG,h1] using hb',?_,hblk,by simpa [tellG,h1] using hsz,by simpa [tellG,h1] using hrow h3 _ _ _ hrw⟩;rintro(hb|⟨_,hb⟩)
    ·exact hF hb
    ·exact hb i j (v,u) h1 hb'
  ·exact⟨by simp[tellG,h1],by simp[tellG,h1],by simp[tellG,h1],by simp,.inl (by simp[tellG,h1])⟩
 ·intro i i' e e' he he' hl hl' b hb hb';have src:∀(i:Nat) e,S.m[i]?=some e→(tellG G s.m ρ).B i=some b→∃j v e0,ρ[i]?=some (some j,v)∧s.m[j]?=some e0∧e0.isLive=true∧G.B j=some b:=by
   intro i e he hb;rcases hget.2 i e he with⟨j,v,u,S1,l,l',h1,h2,h3,rfl⟩|⟨S1,u,h1,rfl⟩|⟨j,l,h1,h2,h3,rfl⟩
   ·exact⟨j,_,_,h1,h2,rfl,by simpa [tellG,h1] using hb⟩
   ·simp[tellG,h1]at hb
   ·exact⟨j,_,_,h1,h2,rfl,by simpa [tellG,h1] using hb⟩
  obtain⟨j,v,e0,h1,h2,h3,h4⟩:=src i e he hb;obtain⟨j',v',e0',g1,g2,g3,g4⟩:=src i' e' he' hb';have hj:j=j':=hi.apart j j' _ _ h2 g2 h3 g3 b h4 g4;subst hj;exact nodup_src h.one _ _ _ _ _ h1 g1
 ·cases N with
  |zero=>exact Jp _
  |succ n=>
   obtain⟨v,hv⟩:=keepB_get hk n (jr n);exact sbs_lt hv
 ·intro i hiN;obtain⟨v,hv⟩:=keepB_get hk i hiN;obtain⟨e,he,hl,hver⟩:=hgo _ _ _ hv;have hent:=hi.ent _ _ he;have hV:G.V i=v:=by
   rcases hget.2 i _ (pn (by rw[←hget.1];exact sbs_lt hv))with⟨j,v',u,S',l,l',h1,h2,h3,h4⟩|⟨S',u,h1,h4⟩|⟨j,l,h1,h2,h3,h4⟩
   ·rw[hv]at h1;injection h1 with h1;injection h1 with h5 h1;injection h5 with h5;injection h1 with h1 h6;subst h5;subst h1;exact(hi.ent _ _ h2).1
   ·rw[hv]at h1;injection h1 with h1;injection h1 with h1;cases h1
   ·rw[hv]at h1;injection h1 with h1;injection h1 with h5 h1;injection h5 with h5;injection h1 with h1 h6;subst h5;subst h1;exact(hi.ent _ _ h2).1
  exact .inl (by simp[tellG,hv,hV])
 ·rintro b _ (hb|⟨hb,_⟩)
  ·exact .inl hb
  ·exact .inr hb
theorem T.tell{N:Nat}(ρ:Org) {c:C}{K:Exit→St→Prop}{s S:St}(hk:keepB ρ N=true) (h:Tell ρ s S) (hT:Tm.T P N c K S):Tm.T P N c K s:=
 T.ghost (fun G w a _ hr=>⟨_,(tell_ghost hk h hr).1,(tell_ghost hk h hr).2⟩) hT
end Go.Tm
namespace Go.Tm
variable {P:Program} {N:Nat}
inductive Ex (σ β ρ:Type) where
 |go (s:σ)
 |brk (b:β)
 |ret (v:ρ)
section
variable {σ β ρ:Type}
def loopN(step:σ→Option (Ex σ β ρ)):Nat→σ→Option (β⊕ρ)
 |0,_=>none
 |n+1,s=>
  match step s with
  |none=>none
  |some (.go s')=>loopN step n s'
  |some (.brk b)=>some (.inl b)
  |some (.ret v)=>some (.inr v)
theorem loopN_mono{step:σ→Option (Ex σ β ρ)}:∀{n:Nat}{s:σ}{r},loopN step n s=some r→∀k,loopN step (n+k) s=some r
 |0,s,r,h,k=>by simp[loopN]at h
 |n+1,s,r,h,k=>by
  rw[show n+1+k=(n+k)+1 by omega];simp only[loopN]at h⊢;split
  ·rename_i h';rw[h']at h;exact h
  ·rename_i h';rw[h']at h;exact loopN_mono h k
  ·rename_i h';rw[h']at h;exact h
  ·rename_i h';rw[h']at h;exact h
open Classical in
noncomputable def loopO(step:σ→Option (Ex σ β ρ)) (s:σ):Option (β⊕ρ):=
 if h:∃n r,loopN step n s=some r then some h.choose_spec.choose else none
theorem loopO_of{step:σ→Option (Ex σ β ρ)}{s:σ}{n:Nat}{r}(h:loopN step n s=some r):loopO step s=some r:=by
 have hex:∃n r,loopN step n s=some r:=⟨n,r,h⟩;unfold loopO;rw[dif_pos hex];have h1:=loopN_mono hex.choose_spec.choose_spec n;have h2:=loopN_mono h hex.choose;rw[Yo,h2]at h1;rw[An];exact(eo h1).symm
theorem loopO_iff{step:σ→Option (Ex σ β ρ)}{s:σ}{r}:loopO step s=some r↔∃n,loopN step n s=some r:=by
 constructor
 ·intro h;unfold loopO at h;split at h
  ·rename_i hex;rw[An]at h;exact⟨hex.choose,h▸hex.choose_spec.choose_spec⟩
  ·cases h
 ·rintro⟨n,h⟩;exact loopO_of h
theorem loopO_go{step:σ→Option (Ex σ β ρ)}{s s':σ}(h:step s=some (.go s')):loopO step s=loopO step s':=by
 apply Option.ext;intro r;simp only[loopO_iff];constructor
 ·rintro⟨n,hn⟩
  cases n with
  |zero=>simp[loopN]at hn
  |succ n=>exact⟨n,by simpa [loopN,h] using hn⟩
 ·rintro⟨n,hn⟩;exact⟨n+1,by simpa [loopN,h] using hn⟩
theorem loopO_brk{step:σ→Option (Ex σ β ρ)}{s:σ}{b:β}(h:step s=some (.brk b)):loopO step s=some (.inl b):=loopO_of (n:=1) (by simp[loopN,h])
theorem loopO_ret{step:σ→Option (Ex σ β ρ)}{s:σ}{v:ρ}(h:step s=some (.ret v)):loopO step s=some (.inr v):=loopO_of (n:=1) (by simp[loopN,h])
end
inductive Tells (N:Nat):St→St→Prop
 |refl (s:St):Tells N s s
 |step {s s' S:St} (ρ:Org) (hk:keepB ρ N=true) (h:Tell ρ s s') (t:Tells N s' S):Tells N s S
theorem Tells.one{s S:St}(ρ:Org) (hk:keepB ρ N=true) (h:Tell ρ s S):Tells N s S:=.step ρ hk h (.refl S)
theorem Tells.trans{a b c:St}(h:Tells N a b) (k:Tells N b c):Tells N a c:=by
 induction h with
 |refl=>exact k
 |step ρ hk h t ih=>exact .step ρ hk h (ih k)
theorem T.tells{c:C}{K:Exit→St→Prop}{s S:St}(h:Tells N s S) (hT:Tm.T P N c K S):Tm.T P N c K s:=by
 induction h with
 |refl=>exact hT
 |step ρ hk h t ih=>exact T.tell ρ hk h (ih hT)
def Stb(N:Nat) (K:Exit→St→Prop):Prop:=∀s S,Tells N s S→K .normal S→K .normal s
theorem stb_S{b:C}{K:Exit→St→Prop}:Stb N (KS P N b K):=fun s S h k=>T.tells h k
theorem stb_B{id:Nat}{K:Exit→St→Prop}(h:Stb N K):Stb N (KB id K):=h
def KL{σ β ρ:Type}(N id:Nat) (K:Exit→St→Prop) (S:σ→St) (B:β→St) (z:Ex σ β ρ) (e:Exit) (s':St):Prop:=
 match e with
 |.normal=>match z with|.go x=>Tells N s' (S x)|_=>False
 |.exit j=>if j=id then(match z with|.brk b=>Tells N s' (B b)|_=>False)else K (.exit j) s'
 |e=>K e s'
section
variable {σ β ρ:Type} {id:Nat} {K:Exit→St→Prop} {S:σ→St} {B:β→St} {s':St}
theorem KL_go{x:σ}:KL N id K S B (.go x:Ex σ β ρ) .normal s'=Tells N s' (S x):=rn rfl rfl
theorem KL_brk{b:β}{j:Nat}:KL N id K S B (.brk b:Ex σ β ρ) (.exit j) s'=if j=id then Tells N s' (B b)else K (.exit j) s':=rn rfl rfl
theorem KL_ret{z:Ex σ β ρ}:KL N id K S B z .ret s'=K .ret s':=rn rfl rfl
theorem KL_out{v:ρ}{j:Nat}:KL N id K S B (.ret v:Ex σ β ρ) (.exit j) s'=if j=id then False else K (.exit j) s':=rn rfl rfl
theorem stb_L{z:Ex σ β ρ}:Stb N (KL N id K S B z):=by
 intro s S' h k
 cases z with
 |go x=>exact h.trans k
 |_=>exact k.elim
theorem T.loopO{x:C}{s:St}(S:σ→St) (B:β→St) (step:σ→Option (Ex σ β ρ)) (x0:σ) {y:β⊕ρ}(hy:Tm.loopO step x0=some y) (hs:Tells N s (S x0)) (hst:Stb N K)
 (round:∀a z,step a=some z→(∀v,z=.ret v→y=.inr v)→Tm.T P N x (KL N id K S B z) (S a))
 (rest:∀b,y=.inl b→K .normal (B b)):Tm.T P N (.block id (.loop x)) K s:=by
 obtain⟨n,hn⟩:=loopO_iff.1 hy;clear hy;refine T.block (T.loopI (X:=Nat×σ) (fun p s=>Tells N s (S p.2)∧loopN step p.1 p.2=some y) (fun p=>p.1) (n,x0) ⟨hs,hn⟩ ?_);rintro⟨n,x1⟩ s1 ⟨hs1,hn1⟩;refine T.tells hs1 ?_
 cases n with
 |zero=>simp[loopN]at hn1
 |succ n=>
  cases hz:step x1 with
  |none=>simp[loopN,hz]at hn1
  |some z=>
   simp only[loopN,hz]at hn1;refine(round x1 z hz (fun v hv=>by subst hv;exact(eo hn1).symm)).mono ?_;intro e s' h
   cases e with
   |normal=>
    cases z with
    |go x2=>exact⟨(n,x2),⟨by simpa [KL_go] using h,hn1⟩,jr n⟩
    |_=>exact(h:False).elim
   |exit j=>
    simp only[KL]at h⊢;split
    ·rename_i hj;rw[if_pos hj]at h
     cases z with
     |brk b=>exact hst _ _ h (rest b (eo hn1).symm)
     |_=>exact h.elim
    ·rename_i hj;rw[if_neg hj]at h;exact h
   |ret=>exact h
   |_=>exact h
end
def KJ{X R:Type}(N:Nat) (K:Exit→St→Prop) (S:X→St) (z:X⊕R) (e:Exit) (s':St):Prop:=
 match e with
 |.normal=>match z with|.inl x=>Tells N s' (S x)|.inr _=>False
 |e=>K e s'
section
variable {X R:Type} {K:Exit→St→Prop} {S:X→St} {s':St}
theorem KJ_normal{x:X}:KJ N K S (.inl x:X⊕R) .normal s'=Tells N s' (S x):=rn rfl rfl
theorem KJ_exit{z:X⊕R}{j:Nat}:KJ N K S z (.exit j) s'=K (.exit j) s':=rn rfl rfl
theorem KJ_ret{z:X⊕R}:KJ N K S z .ret s'=K .ret s':=rn rfl rfl
theorem stb_J{z:X⊕R}:Stb N (KJ N K S z):=by
 intro s S' h k
 cases z with
 |inl x=>exact h.trans k
 |inr _=>exact k.elim
theorem T.join{a b:C}{s:St}(S:X→St) (z:X⊕R) (ha:Tm.T P N a (KJ N K S z) s) (hb:∀x,z=.inl x→Tm.T P N b K (S x)):Tm.T P N (.seq a b) K s:=by
 refine T.seq (ha.mono ?_);intro e s' h
 cases e with
 |normal=>
  cases z with
  |inl x=>exact T.tells (by simpa [KJ_normal] using h) (hb x rfl)
  |inr _=>exact(h:False).elim
 |_=>exact h
end
end Go.Tm
namespace Go.Tm
variable {P:Program}
def Den(P:Program) (k:Nat) (ds:List D) (o:D):Prop:=∀m,CallT P k ds m fun d m'=>d=o∧m'=m
theorem sbs_free{m:List Ent}{l r:List D}(h:Sbs [] m l r):idfrees r=true:=by
 induction h<;>simp_all[idfrees,idfree]
theorem Sbs.v{ρ:Org}{m:List Ent}{x:Value}{l r:List D}(h:Sbs ρ m l r):Sbs ρ m (.v x::l) (.v x::r):=.same rfl h
theorem Sbs.free{ρ:Org}{m:List Ent}:∀{l:List D},idfrees l=true→Sbs ρ m l l
 |[],_=>.nil
 |d::l,h=>by simp only[idfrees,xn]at h;exact .same h.1 (Sbs.free h.2)
theorem Sbs.app{ρ:Org}{m:List Ent}{a b c d:List D}(h1:Sbs ρ m a b) (h2:Sbs ρ m c d):Sbs ρ m (a++c) (b++d):=by
 induction h1 with
 |nil=>exact h2
 |same hf h ih=>exact .same hf ih
 |dead h ih=>exact .dead ih
 |nils h ih=>exact .nils ih
 |adopt i hi h ih=>exact .adopt i hi ih
 |agg ha h _ ih=>exact .agg ha ih
 |tup ha h _ ih=>exact .tup ha ih
 |sl ha h _ ih=>exact .sl ha ih
 |own hi h ih=>exact .own hi ih
 |ref hi h ih=>exact .ref hi ih
 |view hi h ih=>exact .view hi ih
 |mp hi h ih=>exact .mp hi ih
 |froz hm ho ha h _ ih=>exact .froz hm ho ha ih
 |fview hm ho hn ha h _ ih=>exact .fview hm ho hn ha ih
 |fref hm ho hx ha h _ ih=>exact .fref hm ho hx ha ih
 |pt ha h _ ih=>exact .pt ha ih
 |fn ha hc h _ _ ih=>exact .fn ha hc ih
 |ifc ha h _ ih=>exact .ifc ha ih
class Fr {α:Type} (e:α→D):Prop where
 h:∀x,idfree (e x)=true
theorem idfrees_mapF{α:Type}{e:α→D}(h:∀x,idfree (e x)=true):∀l:List α,idfrees (l.map e)=true
 |[]=>rfl
 |x::l=>by simp[idfrees,h x,idfrees_mapF h l]
theorem Fr.l{α:Type}{e:α→D} [Fr e] (l:List α):idfrees (l.map e)=true:=idfrees_mapF Fr.h l
theorem Fr.s{α:Type}{e:α→D} [Fr e] (S:Nat) (l:List α):idfree (.sl S (l.map e))=true:=Fr.l (e:=e) l
theorem tells_rel{N:Nat}{s S:St}(h:Tells N s S):∀{G:Gh}{w:World}{a:Act},N≤G.n→Rel G w a s→∃G',Rel G' w a S∧StepN N G w s.m G' w S.m:=by
 induction h with
 |refl s=>exact fun hN hr=>⟨_,hr,StepN.refl _ _ _ hN⟩
 |step ρ hk h t ih=>
  intro G w a hN hr;obtain⟨h1,h2⟩:=tell_ghost hk h hr;obtain⟨G',h3,h4⟩:=ih h2.n h1;exact⟨G',h3,h2.trans h4⟩
def EndF(rs:List RV) (o:D) (e:Exit) (s:St):Prop:=
 match e with
 |.normal=>∃S,Tells 0 s S∧∃ds,ressD S rs=some ds∧Sbs [] S.m [tupD ds] [o]
 |.ret=>∃S,Tells 0 s S∧∃ds,ressD S rs=some ds∧Sbs [] S.m [tupD ds] [o]
 |_=>False
def endF(r:Option (List D)) (m:List Ent) (o:D):Prop:=∃ds,r=some ds∧Sbs [] m [tupD ds] [o]
def Fin(m:List Ent) (d o:D):Prop:=Sbs [] m [d] [o]
theorem endF_some{ds:List D}{m:List Ent}{o:D}:endF (some ds) m o=Fin m (tupD ds) o:=by simp[endF,Fin]
@[congr] theorem endF_congr{r r':Option (List D)} {m:List Ent} {o:D} (h:r=r'):endF r m o=endF r' m o:=by rw[h]
theorem EndF_ret'{rs:List RV}{o:D}{s:St}(h:endF (ressD s rs) s.m o):EndF rs o .ret s:=by
 obtain⟨ds,h1,h2⟩:=h;exact⟨s,.refl s,ds,h1,h2⟩
theorem stb_F{rs:List RV}{o:D}:Stb 0 (EndF rs o):=by
 rintro s S h ⟨S',h1,h2⟩;exact⟨S',h.trans h1,h2⟩
theorem callS_of{f:FuncId}{ds:List D}{o:D}(hf:idfrees ds=true) (h:CallT P f ds [] fun d m'=>Sbs [] m' [d] [o]):Den P f ds o:=by
 refine fun m=>⟨h.1,fun G w vs hv hi=>?_⟩;have h0:=h.2 (Gh.bare G.F) w vs (VsRel.free (G:=G) (G':=Gh.bare G.F) ⟨fun _ h=>h,fun _ _=>rfl⟩ hf hv) (inv_bare hi.F (hi.gl.bare fun _ h=>h));refine h0.mono ?_;rintro e w' ⟨v,d,m',G',rfl,hR,hvd,hi',hs⟩;obtain⟨-,-,h3⟩:=back_good hi hs hi' (fun _ h=>h);obtain⟨g1,g2⟩:=h3 fun _ h=>h;refine⟨v,o,m,_,rfl,⟨rfl,rfl⟩,?_,g1,g2⟩;have hT:=(hR.rel hi' (fun i j v h=>by simp at h)).1 [v] (by simp only[VsRel];exact⟨v,[],rfl,hvd,rfl⟩);simp only[VsRel]at hT;obtain⟨u,us,he,h1,_⟩:=hT;injection he with he _;subst he;have hfree:=sbs_free hR;simp only[idfrees,Nn]at hfree;refine VRel.free (G:=tellG G' m' []) (G':={ G with F:=fun b=>G'.F b∨Owned G' m' b }) ⟨?_,fun _ _=>rfl⟩ hfree h1;rintro b (hb|⟨hb,_⟩)
 ·exact .inl hb
 ·exact .inr hb
theorem Den.of{k:Nat}{F:Fun}{ds:List D}{o:D}(hF:compF P k=some F) (hname:((P.funcs[k]?).map fun fn=>fn.name == "runtime.NumGoroutine")=some false) (hf:idfrees ds=true)
 (h:T P 0 F.code (EndF F.results o) ⟨ds++yn (F.ntmps-ds.length) .dead,[]⟩):Den P k ds o:=by
 refine callS_of hf (callT_of hF hname ?_);refine T.clo (h.mono ?_);have key:∀(e:Exit) (s:St),(∀s',EndT F.results (fun d m'=>Sbs [] m' [d] [o]) e s' = ∃ds,ressD s' F.results=some ds∧Sbs [] s'.m [tupD ds] [o])→(∃S,Tells 0 s S∧∃ds,ressD S F.results=some ds∧Sbs [] S.m [tupD ds] [o])→Clo 0 (EndT F.results fun d m'=>Sbs [] m' [d] [o]) e s:=by
  intro e s he ⟨S,h1,h2⟩ G w a hN hr;obtain⟨G',h3,h4⟩:=tells_rel h1 hN hr;exact⟨S,G',by rw[he];exact h2,h3,h4⟩
 intro e s hs
 cases e with
 |normal=>exact key _ s (fun _=>rfl) hs
 |ret=>exact key _ s (fun _=>rfl) hs
 |_=>exact(hs:False).elim
theorem callX_lend{k:Nat}{ds ds':List D}{o:D}{m:List Ent}{f:D→List Ent→Prop}(h:Den P k ds' o) (hs:Sbs [] m ds ds') (hfl:flat o=true) (hf:f o m):callX P k ds m f:=by
 refine callX_eq (m1:=m) (d1:=o) ⟨(h []).1,fun G w vs hv hi=>?_⟩ hf;have hv1:=(hs.rel hi (fun i j v h=>by simp at h)).1 vs hv;have hv':VsRel (Gh.bare (tellG G m []).F) w ds' vs:=VsRel.free (G:=tellG G m []) ⟨fun _ h=>h,fun _ _=>rfl⟩ (sbs_free hs) hv1;have h0:=(h []).2 _ w vs hv' (inv_bare (fun b hb=>by
  rcases hb with hb|⟨hb,_⟩
  ·exact hi.F b hb
  ·exact(Owned.lt hi hb).1) (hi.gl.bare fun _ h=>.inl h))
 refine h0.mono ?_;rintro e w' ⟨v,d,m',G',rfl,⟨rfl,-⟩,hvd,hi',hs'⟩;obtain⟨-,h2,-⟩:=back_good hi hs' hi' (fun _ h=>.inl h);exact⟨v,d,m,G,rfl,⟨rfl,rfl⟩,hvd.flat hfl,h2.1,h2.2⟩
def idx{α:Type}(l:List α) (i:Int):Option α:=if 0≤i then l[i.toNat]? else none
def app{α:Type}(b:Nat) (l r:List α):Option (List α):=if(l.length+r.length)*b≤2 ^ 47 then some (l++r)else none
def put{α:Type}(l:List α) (i:Int) (x:α):Option (List α):=if 0≤i∧i.toNat<l.length then some (l.set i.toNat x)else none
def mks{α:Type}(b:Nat) (x:α) (n c:Int):Option (List α):=if 0≤n∧n≤c∧c≤2 ^ 62∧c.toNat*b≤2 ^ 48 then some (yn n.toNat x)else none
def quo(k:IntKind) (a b:Int):Option Int:=if b=0 then none else some (wrapF k (a.tdiv b))
def rem(k:IntKind) (a b:Int):Option Int:=if b=0 then none else some (a.tmod b)
theorem idx_some{α:Type}{l:List α}{i:Int}{x:α}(h:idx l i=some x):0≤i∧l[i.toNat]?=some x:=by
 unfold idx at h;split at h
 ·exact⟨by assumption,h⟩
 ·cases h
theorem app_some{α:Type}{b:Nat}{l r x:List α}(h:app b l r=some x):(l.length+r.length)*b≤140737488355328∧x=l++r:=by
 unfold app at h;split at h
 ·exact⟨by assumption,(eo h).symm⟩
 ·cases h
theorem put_some{α:Type}{l x:List α}{i:Int}{y:α}(h:put l i y=some x):0≤i∧i.toNat<l.length∧x=l.set i.toNat y:=by
 unfold put at h;split at h
 ·rename_i hc;exact⟨hc.1,hc.2,(eo h).symm⟩
 ·cases h
theorem mks_some{α:Type}{b:Nat}{x:α}{n c:Int}{l:List α}(h:mks b x n c=some l):0≤n∧n≤c∧c≤4611686018427387904∧c.toNat*b≤281474976710656∧l=yn n.toNat x:=by
 unfold mks at h;split at h
 ·rename_i hc;exact⟨hc.1,hc.2.1,hc.2.2.1,hc.2.2.2,(eo h).symm⟩
 ·cases h
theorem bsome{α β:Type}{o:Option α}{f:α→Option β}{r:β}(h:o.bind f=some r):∃x,o=some x∧f x=some r:=Ep.1 h
end Go.Tm
namespace Go.Tm
variable {P:Program} {N:Nat}
def SqL(f:D→D→Prop):List D→List D→Prop
 |[],[]=>True
 |d::l,e::r=>f d e∧SqL f l r
 |_,_=>False
def SqS(f:D→D→Prop) (a b:List D):Prop:=(a=b∧idfrees a=true)∨SqL f a b
def Sq(ρ:Org) (m:List Ent):Nat→D→D→Prop
 |0,_,_=>False
 |n+1,d,e=>
  match e with
  |.dead=>True
  |.v y=>match d with|.v x=>x=y|_=>False
  |.agg b=>match d with|.agg a=>SqS (Sq ρ m n) a b|_=>False
  |.tup b=>match d with|.tup a=>SqS (Sq ρ m n) a b|_=>False
  |.sl S b=>
   match d with
   |.v x=>x=.slice none 0 0∧b=[]
   |.sl S' a=>S'=S∧SqS (Sq ρ m n) a b
   |.own j v=>
    match m[j]? with
    |some (.live S' v' a)=>S'=S∧v'=v∧outB ρ j=true∧SqS (Sq ρ m n) a b
    |_=>False
   |.view j v lo k=>
    match m[j]? with
    |some (.live S' v' a)=>S'=S∧v'=v∧outB ρ j=true∧lo+k≤a.length∧SqS (Sq ρ m n) ((a.drop lo).take k) b
    |_=>False
   |_=>False
  |.own i u=>
   match d with
   |.own j v=>ρ[i]?=some (some j,v,u)
   |.v x=>x=.slice none 0 0∧∃S,ρ[i]?=some (none,S,u)
   |_=>False
  |.ref i u x s=>match d with|.ref j v x' s'=>ρ[i]?=some (some j,v,u)∧x'=x∧s'=s|_=>False
  |.view i u lo k=>match d with|.view j v lo' k'=>ρ[i]?=some (some j,v,u)∧lo'=lo∧k'=k|_=>False
  |.pt e'=>
   match d with
   |.pt d'=>(d'=e'∧idfree d'=true)∨Sq ρ m n d' e'
   |.ref j v x s=>
    match m[j]? with
    |some (.live _ v' a)=>v'=v∧s=0∧outB ρ j=true∧(match a[x]? with|some d'=>(d'=e'∧idfree d'=true)∨Sq ρ m n d' e'|none=>False)
    |_=>False
   |_=>False
  |.fn f b d'=>match d with|.fn f' a c=>f'=f∧SqS (Sq ρ m n) a b∧SqS (Sq ρ m n) c d'|_=>False
  |.mp i=>match d with|.mp j=>ρ[i]?=some (some j,0,0)|_=>False
  |.ifc t e'=>match d with|.ifc t' d'=>t'=t∧((d'=e'∧idfree d'=true)∨Sq ρ m n d' e')|_=>False
theorem sqL_sbs{ρ:Org}{m:List Ent}{f:D→D→Prop}(hf:∀d e l r,f d e→Sbs ρ m l r→Sbs ρ m (d::l) (e::r)):∀{a b:List D},SqL f a b→Sbs ρ m a b
 |[],[],_=>.nil
 |d::l,e::r,h=>hf d e l r h.1 (sqL_sbs hf h.2)
 |[],_::_,h=>h.elim
 |_::_,[],h=>h.elim
theorem sqS_sbs{ρ:Org}{m:List Ent}{f:D→D→Prop}(hf:∀d e l r,f d e→Sbs ρ m l r→Sbs ρ m (d::l) (e::r)) {a b:List D}(h:SqS f a b):Sbs ρ m a b:=by
 rcases h with⟨rfl,h⟩|h
 ·exact Sbs.free h
 ·exact sqL_sbs hf h
theorem sq_sbs{ρ:Org}{m:List Ent}:∀(n:Nat) (d e:D) (l r:List D),Sq ρ m n d e→Sbs ρ m l r→Sbs ρ m (d::l) (e::r)
 |0,d,e,l,r,h,_=>h.elim
 |n+1,d,e,l,r,h,hs=>by
  have ih:=sq_sbs (ρ:=ρ) (m:=m) n;have one:∀d' e',((d'=e'∧idfree d'=true)∨Sq ρ m n d' e')→Sbs ρ m [d'] [e']:=by
   rintro d' e' (⟨rfl,h⟩|h)
   ·exact .same h .nil
   ·exact ih _ _ _ _ h .nil
  cases e with
  |dead=>exact .dead hs
  |v y=>cases d<;>simp only[Sq]at h;subst h;exact .v hs
  |agg b=>cases d<;>simp only[Sq]at h;exact .agg (sqS_sbs ih h) hs
  |tup b=>cases d<;>simp only[Sq]at h;exact .tup (sqS_sbs ih h) hs
  |sl S b=>
   cases d with
   |v x=>simp only[Sq]at h;obtain⟨rfl,rfl⟩:=h;exact .nils hs
   |sl S' a=>simp only[Sq]at h;obtain⟨rfl,h⟩:=h;exact .sl (sqS_sbs ih h) hs
   |own j v=>
    simp only[Sq]at h;split at h
    ·rename_i S' v' a hm;obtain⟨rfl,rfl,ho,h⟩:=h;exact .froz hm ho (sqS_sbs ih h) hs
    ·exact h.elim
   |view j v lo k=>
    simp only[Sq]at h;split at h
    ·rename_i S' v' a hm;obtain⟨rfl,rfl,ho,hl,h⟩:=h;exact .fview hm ho hl (sqS_sbs ih h) hs
    ·exact h.elim
   |_=>simp only[Sq]at h
  |own i u=>
   cases d with
   |own j v=>simp only[Sq]at h;exact .own h hs
   |v x=>simp only[Sq]at h;obtain⟨rfl,S,h⟩:=h;exact .adopt i h hs
   |_=>simp only[Sq]at h
  |ref i u x s=>cases d<;>simp only[Sq]at h;obtain⟨h,rfl,rfl⟩:=h;exact .ref h hs
  |view i u lo k=>cases d<;>simp only[Sq]at h;obtain⟨h,rfl,rfl⟩:=h;exact .view h hs
  |pt e'=>
   cases d with
   |pt d'=>simp only[Sq]at h;exact .pt (one _ _ h) hs
   |ref j v x s=>
    simp only[Sq]at h;split at h
    ·rename_i S' v' a hm;obtain⟨rfl,rfl,ho,h⟩:=h;split at h
     ·rename_i d' hd;exact .fref hm ho hd (one _ _ h) hs
     ·exact h.elim
    ·exact h.elim
   |_=>simp only[Sq]at h
  |fn f b d'=>cases d<;>simp only[Sq]at h;obtain⟨rfl,h1,h2⟩:=h;exact .fn (sqS_sbs ih h1) (sqS_sbs ih h2) hs
  |mp i=>cases d<;>simp only[Sq]at h;exact .mp h hs
  |ifc t e'=>cases d<;>simp only[Sq]at h;obtain⟨rfl,h⟩:=h;exact .ifc (one _ _ h) hs
def EtQ(ρ:Org) (m:List Ent):Org→List Ent→Prop
 |[],[]=>True
 |(some j,v,u)::os,.live S u' b::es=>u=u'∧(match m[j]? with|some (.live S' v' a)=>S'=S∧v'=v∧SqS (Sq ρ m 9) a b|_=>False)∧EtQ ρ m os es
 |(none,S,u)::os,.live S' u' b::es=>S=S'∧u=u'∧b=[]∧EtQ ρ m os es
 |(some j,v,u)::os,.mp b::es=>v=0∧u=0∧(match m[j]? with|some (.mp a)=>a=b∧frM b=true|_=>False)∧EtQ ρ m os es
 |_,_=>False
theorem etQ_ets{ρ:Org}{m:List Ent}:∀{os:Org}{es:List Ent},EtQ ρ m os es→Ets ρ m os es
 |[],[],_=>.nil
 |(some j,v,u)::os,.live S u' b::es,h=>by
  simp only[EtQ]at h;obtain⟨rfl,h1,h2⟩:=h;split at h1
  ·rename_i S' v' a hm;obtain⟨rfl,rfl,h1⟩:=h1;exact .live hm (sqS_sbs (sq_sbs 9) h1) (etQ_ets h2)
  ·exact h1.elim
 |(none,S,u)::os,.live S' u' b::es,h=>by
  simp only[EtQ]at h;obtain⟨rfl,rfl,rfl,h2⟩:=h;exact .new (etQ_ets h2)
 |[],_::_,h=>by simp[EtQ]at h
 |_::_,[],h=>by simp[EtQ]at h
 |(some j,v,u)::os,.mp b::es,h=>by
  simp only[EtQ]at h;obtain⟨rfl,rfl,h1,h2⟩:=h;split at h1
  ·rename_i a hm;obtain⟨rfl,h1⟩:=h1;exact .mp hm h1 (etQ_ets h2)
  ·exact h1.elim
 |(some j,v,u)::os,.gone::es,h=>by simp[EtQ]at h
 |(none,S,u)::os,.mp _::es,h=>by simp[EtQ]at h
 |(none,S,u)::os,.gone::es,h=>by simp[EtQ]at h
theorem Tells.q(ρ:Org) {s S:St}(hk:keepB ρ N=true) (h3:(ρ.filterMap (·.1)).Nodup) (h:SqL (Sq ρ s.m 9) s.t S.t∧EtQ ρ s.m ρ S.m):Tells N s S:=
 .one ρ hk ⟨sqL_sbs (sq_sbs 9) h.1,etQ_ets h.2,h3⟩
section
variable {ρ:Org} {m:List Ent} {n:Nat} {d e:D} {a b c l r:List D} {x y:Value} {S S' i j u v k lo q s:Nat}
theorem sqL_nil{f:D→D→Prop}:SqL f [] []=True:=rn rfl rfl
theorem sqL_cons{f:D→D→Prop}:SqL f (d::l) (e::r)=(f d e∧SqL f l r):=rn rfl rfl
theorem sqS_same{f:D→D→Prop}(h:idfrees a=true):SqS f a a=True:=by simp[SqS,h]
theorem sqS_L{f:D→D→Prop}:SqS f (d::l) (e::r)=(((d::l=e::r)∧idfrees (d::l)=true)∨(f d e∧SqL f l r)):=rn rfl rfl
theorem sqS_nil{f:D→D→Prop}:SqS f [] []=True:=by simp[SqS,idfrees]
theorem sq_dead:Sq ρ m (n+1) d .dead=True:=rn rfl rfl
theorem sq_v:Sq ρ m (n+1) (.v x) (.v y)=(x=y):=rn rfl rfl
theorem sq_agg:Sq ρ m (n+1) (.agg a) (.agg b)=SqS (Sq ρ m n) a b:=rn rfl rfl
theorem sq_tup:Sq ρ m (n+1) (.tup a) (.tup b)=SqS (Sq ρ m n) a b:=rn rfl rfl
theorem sq_nils:Sq ρ m (n+1) (.v x) (.sl S b)=(x=.slice none 0 0∧b=[]):=rn rfl rfl
theorem sq_sl:Sq ρ m (n+1) (.sl S' a) (.sl S b)=(S'=S∧SqS (Sq ρ m n) a b):=rn rfl rfl
theorem sq_froz:Sq ρ m (n+1) (.own j v) (.sl S b)=(match m[j]? with|some (.live S' v' a)=>S'=S∧v'=v∧outB ρ j=true∧SqS (Sq ρ m n) a b|_=>False):=rn rfl rfl
theorem sq_fview:Sq ρ m (n+1) (.view j v lo k) (.sl S b)=(match m[j]? with|some (.live S' v' a)=>S'=S∧v'=v∧outB ρ j=true∧lo+k≤a.length∧SqS (Sq ρ m n) ((a.drop lo).take k) b|_=>False):=rn rfl rfl
theorem sq_own:Sq ρ m (n+1) (.own j v) (.own i u)=(ρ[i]?=some (some j,v,u)):=rn rfl rfl
theorem sq_adopt:Sq ρ m (n+1) (.v x) (.own i u)=(x=.slice none 0 0∧∃S,ρ[i]?=some (none,S,u)):=rn rfl rfl
theorem sq_ref:Sq ρ m (n+1) (.ref j v q s) (.ref i u k lo)=(ρ[i]?=some (some j,v,u)∧q=k∧s=lo):=rn rfl rfl
theorem sq_view{lo' k':Nat}:Sq ρ m (n+1) (.view j v lo' k') (.view i u lo k)=(ρ[i]?=some (some j,v,u)∧lo'=lo∧k'=k):=rn rfl rfl
theorem sq_pt:Sq ρ m (n+1) (.pt d) (.pt e)=((d=e∧idfree d=true)∨Sq ρ m n d e):=rn rfl rfl
theorem sq_fref:Sq ρ m (n+1) (.ref j v q s) (.pt e)=(match m[j]? with
 |some (.live _ v' a)=>v'=v∧s=0∧outB ρ j=true∧(match a[q]? with|some d'=>(d'=e∧idfree d'=true)∨Sq ρ m n d' e|none=>False)
 |_=>False):=rn rfl rfl
theorem sq_fn{f f':FuncId}{d':List D}:Sq ρ m (n+1) (.fn f' a c) (.fn f b d')=(f'=f∧SqS (Sq ρ m n) a b∧SqS (Sq ρ m n) c d'):=rn rfl rfl
theorem et_nil:EtQ ρ m [] []=True:=rn rfl rfl
theorem et_live{os:Org}{es:List Ent}{u':Nat}:EtQ ρ m ((some j,v,u)::os) (.live S u' b::es)=(u=u'∧(match m[j]? with|some (.live S' v' a)=>S'=S∧v'=v∧SqS (Sq ρ m 9) a b|_=>False)∧EtQ ρ m os es):=by simp only[EtQ]
theorem et_new{os:Org}{es:List Ent}{u':Nat}:EtQ ρ m ((none,S,u)::os) (.live S' u' b::es)=(S=S'∧u=u'∧b=[]∧EtQ ρ m os es):=by simp only[EtQ]
theorem sq_mp:Sq ρ m (n+1) (.mp j) (.mp i)=(ρ[i]?=some (some j,0,0)):=rn rfl rfl
theorem et_mp{os:Org}{es:List Ent}{b:List (Value×D)}:EtQ ρ m ((some j,v,u)::os) (.mp b::es)=(v=0∧u=0∧(match m[j]? with|some (.mp a)=>a=b∧frM b=true|_=>False)∧EtQ ρ m os es):=by simp only[EtQ]
theorem frM_nil:frM []=true:=rn rfl rfl
theorem outB_nil:outB [] j=true:=rn rfl rfl
theorem outB_cons{o:Option Nat×Nat×Nat}:outB (o::ρ) j=((match o.1 with|some k=>k !=j|none=>true)&&outB ρ j):=rn rfl rfl
end
theorem fin_q{m:List Ent}{d o:D}(h:Sq [] m 9 d o):Fin m d o:=sq_sbs 9 d o [] [] h .nil
theorem sbs0_rel{G:Gh}{w:World}{l r:List D}(h:Sbs [] [] l r):(∀us,VsRel G w l us→VsRel G w r us)∧(∀b S off,RowAt G w b S l off→RowAt G w b S r off):=by
 have both:∀{d e:D} {l r:List D},(∀u,VRel G w d u→VRel G w e u)→
  ((∀us,VsRel G w l us→VsRel G w r us)∧(∀b S off,RowAt G w b S l off→RowAt G w b S r off))→
  ((∀us,VsRel G w (d::l) us→VsRel G w (e::r) us)∧(∀b S off,RowAt G w b S (d::l) off→RowAt G w b S (e::r) off)):=by
  intro d e l r h1 h2;refine⟨fun us hv=>?_,fun b S off hv=>?_⟩
  ·simp only[VsRel]at hv⊢;obtain⟨u,us',rfl,g1,g2⟩:=hv;exact⟨u,us',rfl,h1 u g1,h2.1 us' g2⟩
  ·simp only[RowAt]at hv⊢;obtain⟨⟨u,g1,g2,g3⟩,g4⟩:=hv;exact⟨⟨u,h1 u g1,g2,g3⟩,h2.2 b S _ g4⟩
 have first:∀{d e:D},(∀us,VsRel G w [d] us→VsRel G w [e] us)→∀u,VRel G w d u→VRel G w e u:=by
  intro d e h u hu;have:=h [u] (by simp only[VsRel];exact⟨u,[],rfl,hu,rfl⟩);simp only[VsRel]at this;obtain⟨u',us',he,h1,_⟩:=this;injection he with he _;rw[he];exact h1
 induction h with
 |nil=>exact⟨fun us h=>h,fun _ _ _ h=>h⟩
 |same hf h ih=>exact both (fun u hu=>hu) ih
 |dead h ih=>exact both (fun u _=>by simp[VRel]) ih
 |nils h ih=>exact both (fun u hu=>by simp only[VRel]at hu⊢;exact⟨none,0,0,hu,rfl,En _,by simp⟩) ih
 |agg ha h iha ih=>
  refine both (fun u hu=>?_) ih;simp only[VRel]at hu⊢;obtain⟨cs,rfl,g1,g2⟩:=hu;exact⟨cs,rfl,iha.1 cs g1,g2⟩
 |tup ha h iha ih=>
  refine both (fun u hu=>?_) ih;simp only[VRel]at hu⊢;obtain⟨cs,rfl,g1⟩:=hu;exact⟨cs,rfl,iha.1 cs g1⟩
 |sl ha h iha ih=>
  refine both (fun u hu=>?_) ih;simp only[VRel]at hu⊢;obtain⟨a,n,cap,rfl,hn,hc,g⟩:=hu;refine⟨a,n,cap,rfl,by rw[←ha.length];exact hn,hc,?_⟩;rcases g with rfl|⟨b,off,rfl,hF,hr⟩
  ·exact .inl (Jn ha.length.symm)
  ·exact .inr ⟨b,off,rfl,hF,iha.2 b _ off hr⟩
 |pt ha h iha ih=>
  refine both (fun u hu=>?_) ih;simp only[VRel]at hu⊢;obtain⟨b,off,x,rfl,hF,hd,hh⟩:=hu;exact⟨b,off,x,rfl,hF,first iha.1 x hd,hh⟩
 |fn ha hc h iha ihc ih=>
  refine both (fun u hu=>?_) ih;simp only[VRel]at hu⊢;obtain⟨fs,cs,rfl,h1,h2⟩:=hu;exact⟨fs,cs,rfl,iha.1 fs h1,ihc.1 cs h2⟩
 |ifc ha h iha ih=>
  refine both (fun u hu=>?_) ih;simp only[VRel]at hu⊢;obtain⟨x,rfl,hd⟩:=hu;exact⟨x,rfl,first iha.1 x hd⟩
 |adopt i hi=>simp at hi
 |own hi=>simp at hi
 |ref hi=>simp at hi
 |view hi=>simp at hi
 |mp hi=>simp at hi
 |froz hm=>simp at hm
 |fview hm=>simp at hm
 |fref hm=>simp at hm
theorem callX_q{k:Nat}{ds ds':List D}{o:D}{m:List Ent}{f:D→List Ent→Prop}(h:Den P k ds' o) (hf:f o m) (hs:SqL (Sq [] [] 9) ds ds'):callX P k ds m f:=
 callX_eq (m1:=m) (d1:=o) ⟨(h m).1,fun G w vs hv hi=>(h m).2 G w vs ((sbs0_rel (sqL_sbs (sq_sbs 9) hs)).1 vs hv) hi⟩ hf
theorem callX_ql{k:Nat}{ds ds':List D}{o:D}{m:List Ent}{f:D→List Ent→Prop}(h:Den P k ds' o) (hf:f o m) (hfl:flat o=true) (hs:SqL (Sq [] m 9) ds ds'):callX P k ds m f:=
 callX_lend h (sqL_sbs (sq_sbs 9) hs) hfl hf
section
variable {K:Exit→St→Prop} {s:St} {l:List RI} {a b:C} {c:Operand} {t:Bool} {id q:Nat}
theorem T.rg(h:RegZ P l (K .normal) s):Tm.T P N (.reg l) K s:=T.reg (regZ_T h)
theorem T.cd(ht:s.ev c=.v (.bool t)) (h:gP (t=true) (Tm.T P N a K s) (Tm.T P N b K s)):Tm.T P N (.cond c a b) K s:=
 T.cond ht (fun e=>h.1 e) (fun e=>h.2 (by simp[e]))
theorem T.bk(h:Tm.T P N a (KB id K) s):Tm.T P N (.block id a) K s:=T.block (h.mono fun e s' h'=>by cases e<;>exact h')
theorem T.sr(h:RegZ P l (KS P N b K .normal) s):Tm.T P N (.seq (.reg l) b) K s:=T.seqS (T.rg h)
theorem gP.ite{p q Y N:Prop} [Decidable q] {α:Type}{A B:Option α}{r:α}(h:(if q then A else B)=some r) (hpq:p↔q) (h1:q→A=some r→Y) (h2:¬q→B=some r→N):gP p Y N:=by
 by_cases c:q
 ·rw[if_pos c]at h;exact⟨fun _=>h1 c h,fun hp=>(hp (hpq.2 c)).elim⟩
 ·rw[if_neg c]at h;exact⟨fun hp=>(c (hpq.1 hp)).elim,fun _=>h2 c h⟩
end
def ds:Nat→List D→List D
 |0,l=>l
 |n+1,l=>.dead::ds n l
theorem ds_zero{l:List D}:ds 0 l=l:=rn rfl rfl
theorem ds_succ{n:Nat}{l:List D}:ds (n+1) l=.dead::ds n l:=rn rfl rfl
end Go.Tm
namespace Go.Tm
variable {P:Program} {N:Nat}
def lookR(ok:Bool) (z:D) (m:List Ent) (o:Option D):Option (D×List Ent):=
 match o with
 |some d=>some (if ok then .tup [d,.v (.bool true)]else d,m)
 |none=>some (if ok then .tup [z,.v (.bool false)]else z,m)
def mlk{β:Type}:List (Int×β)→Int→Option β
 |[],_=>none
 |(q,x)::l,k=>if k=q then some x else mlk l k
def mpt{β:Type}(k:Int) (x:β):List (Int×β)→List (Int×β)
 |[]=>[(k,x)]
 |(q,y)::l=>if k=q then(k,x)::l else(q,y)::mpt k x l
def em{β:Type}(e:β→D) (l:List (Int×β)):List (Value×D):=l.map fun p=>(.int .i64 p.1,e p.2)
theorem look_em{β:Type}{e:β→D}{k:Int}:∀{l:List (Int×β)},lookD (.int .i64 k) (em e l)=(mlk l k).map e
 |[]=>rn rfl rfl
 |(q,x)::l=>by
  have ih:=look_em (e:=e) (k:=k) (l:=l);simp only[em]at ih;simp only[em,Vn,lookD,keyEq,mlk,beq_iff_eq,ih];split<;>rfl
theorem put_em{β:Type}{e:β→D}{k:Int}{x:β}:∀{l:List (Int×β)},putD (.int .i64 k) (e x) (em e l)=em e (mpt k x l)
 |[]=>rn rfl rfl
 |(q,y)::l=>by
  have ih:=put_em (e:=e) (k:=k) (x:=x) (l:=l);simp only[em]at ih;simp only[em,Vn,putD,keyEq,mpt,beq_iff_eq,ih];split<;>rfl
theorem all_em{β:Type}{e:β→D}{l:List (Int×β)}:((em e l).all fun q=>isKey 0 q.1)=true:=by
 simp[em,isKey]
theorem em_nil{β:Type}{e:β→D}:em e []=[]:=rn rfl rfl
theorem em_len{β:Type}{e:β→D}{l:List (Int×β)}:(em e l).length=l.length:=by simp[em]
theorem frM_em{β:Type}{e:β→D} [Fr e] {l:List (Int×β)}:frM (em e l)=true:=by
 simp only[frM,em,List.all_map,qo];exact fun x _=>Fr.h x.2
theorem isKey_i{k:Int}:isKey 0 (.int .i64 k)=true:=rn rfl rfl
def sidx(b:ByteArray) (i:Int):Option Int:=if h:0≤i∧i.toNat<b.size then some ((b[i.toNat]'h.2).toNat:Int)else none
def lenIs:Nat→List D→Bool
 |0,[]=>true
 |n+1,_::l=>lenIs n l
 |_,_=>false
theorem lenIs_iff:∀{n:Nat}{l:List D},lenIs n l=true↔l.length=n
 |0,[]=>by simp[lenIs]
 |n+1,_::l=>by simp[lenIs,lenIs_iff (n:=n) (l:=l)]
 |0,_::_=>by simp[lenIs]
 |_+1,[]=>by simp[lenIs]
def has2:Nat→Nat→List D→Bool
 |0,0,_=>true
 |0,n+1,_::l=>has2 0 n l
 |o+1,n,_::l=>has2 o n l
 |_,_,[]=>false
theorem has2_iff:∀{o n:Nat}{l:List D},has2 o n l=true↔o+n≤l.length
 |0,0,l=>by simp[has2]
 |0,n+1,_::l=>by simp[has2,has2_iff (o:=0) (n:=n) (l:=l)]
 |o+1,n,_::l=>by simp[has2,has2_iff (o:=o) (n:=n) (l:=l)];omega
 |0,n+1,[]=>by simp[has2]
 |o+1,n,[]=>by simp[has2]
theorem li_nil:lenIs 0 []=true:=rn rfl rfl
theorem li_cons{n:Nat}{d:D}{l:List D}:lenIs (n+1) (d::l)=lenIs n l:=rn rfl rfl
theorem h2_z{l:List D}:has2 0 0 l=true:=by cases l<;>rfl
theorem h2_n{n:Nat}{d:D}{l:List D}:has2 0 (n+1) (d::l)=has2 0 n l:=rn rfl rfl
theorem h2_o{o n:Nat}{d:D}{l:List D}:has2 (o+1) n (d::l)=has2 o n l:=by cases n<;>rfl
theorem q_mv:type_of% @evalI.eq_1:=by intros;exact rn rfl rfl
theorem q_pick:type_of% @evalI.eq_2:=by intros;exact rn rfl rfl
theorem q_bin:type_of% @evalI.eq_3:=by intros;exact rn rfl rfl
theorem q_beq:type_of% @evalI.eq_4:=by intros;exact rn rfl rfl
theorem q_un:type_of% @evalI.eq_5:=by intros;exact rn rfl rfl
theorem q_conv:type_of% @evalI.eq_6:=by intros;exact rn rfl rfl
theorem q_alloc:type_of% @evalI.eq_7:=by intros;exact rn rfl rfl
theorem q_box{s:St}{S:Nat}{x:Operand}:evalI s (.box S x)=if(s.ev x).ok=true∧lenIs S (s.ev x).cells=true then some (.ref s.m.length 0 0 0,s.m++[.live S 0 [s.ev x]])else none:=by simp only[lenIs_iff,has2_iff];rfl
theorem q_build:type_of% @evalI.eq_9:=by intros;exact rn rfl rfl
theorem q_bslice:type_of% @evalI.eq_10:=by intros;exact rn rfl rfl
theorem q_load{s:St}{A:Bool}{n:Nat}{x:Operand}:evalI s (.load A n x) =
 match s.ev x with
 |.pt d=>
  match A,d with
  |true,.agg l=>if lenIs n l=true then some (d,s.m)else none
  |true,_=>none
  |false,.agg _=>none
  |false,d=>if d.ok=true then some (d,s.m)else none
 |.ref id ver idx sub=>
  match s.m[id]? with
  |some (.live _ ver' l)=>if ver'=ver then(l[idx]?).bind fun d=>if d.ok=true then(part A n sub d.cells).map fun r=>(r,s.m)else none else none
  |_=>none
 |_=>none:=by simp only[lenIs_iff,has2_iff];rfl
theorem q_store{s:St}{n:Nat}{x:Operand}{y:Operand}:evalI s (.store n x y) =
 match s.ev x with
 |.ref id ver idx sub=>
  match s.m[id]? with
  |some (.live S ver' l)=>
   if ver'=ver∧(s.ev y).ok=true∧lenIs n (s.ev y).cells=true then
    (l[idx]?).bind fun d=>if d.ok=true∧0<n∧has2 sub n d.cells=true then some (.dead,s.m.set id (.live S ver' (l.set idx (d.upd sub (s.ev y).cells))))else none
   else none
  |_=>none
 |_=>none:=by simp only[lenIs_iff,has2_iff];rfl
theorem q_nilc:type_of% @evalI.eq_13:=by intros;exact rn rfl rfl
theorem q_slice:type_of% @evalI.eq_14:=by intros;exact rn rfl rfl
theorem q_faddr:type_of% @evalI.eq_15:=by intros;exact rn rfl rfl
theorem q_field:type_of% @evalI.eq_16:=by intros;exact rn rfl rfl
theorem q_iaddr:type_of% @evalI.eq_17:=by intros;exact rn rfl rfl
theorem q_aaddr:type_of% @evalI.eq_18:=by intros;exact rn rfl rfl
theorem q_index:type_of% @evalI.eq_19:=by intros;exact rn rfl rfl
theorem q_extract:type_of% @evalI.eq_20:=by intros;exact rn rfl rfl
theorem q_len:type_of% @evalI.eq_21:=by intros;exact rn rfl rfl
theorem q_slen:type_of% @evalI.eq_22:=by intros;exact rn rfl rfl
theorem q_append:type_of% @evalI.eq_23:=by intros;exact rn rfl rfl
theorem q_mkslice:type_of% @evalI.eq_24:=by intros;exact rn rfl rfl
theorem q_mkfunc:type_of% @evalI.eq_25:=by intros;exact rn rfl rfl
theorem q_fail:type_of% @evalI.eq_26:=by intros;exact rn rfl rfl
theorem q_mm:type_of% @evalI.eq_27:=by intros;exact rn rfl rfl
theorem q_ceq:type_of% @evalI.eq_28:=by intros;exact rn rfl rfl
theorem q_strb:type_of% @evalI.eq_29:=by intros;exact rn rfl rfl
theorem q_sidx{s:St}{x i:Operand}:evalI s (.sidx x i)=(match s.ev x,s.ev i with
 |.v (.string b),.v (.int _ k)=>(sidx b k).map fun n=>(D.v (.int .u8 n),s.m)
 |_,_=>none):=by
 simp only[evalI];generalize s.ev x=a;generalize s.ev i=c;split
 ·rename_i b k' k;by_cases h:0≤k∧k.toNat<b.size<;>simp[sidx,h]
 ·rename_i hx;split
  ·exact(hx _ _ _ rfl rfl).elim
  ·rfl
theorem q_sslice:type_of% @evalI.eq_31:=by intros;exact rn rfl rfl
theorem q_mkmap:type_of% @evalI.eq_32:=by intros;exact rn rfl rfl
theorem q_mlook{s:St}{K:Nat}{ok:Bool}{z:D}{x:Operand}{k:Operand}:evalI s (.mlook K ok z x k) =
 match s.ev k with
 |.v kv=>
  if isKey K kv=true then
   match s.ev x with
   |.v (.map none)=>some (if ok then .tup [z,.v (.bool false)]else z,s.m)
   |.mp id=>
    match s.m[id]? with
    |some (.mp es)=>
     if(es.all fun e=>isKey K e.1)=true then
      lookR ok z s.m (lookD kv es)
     else none
    |_=>none
   |_=>none
  else none
 |_=>none:=by
 simp only[evalI,lookR];rfl
theorem q_mput:type_of% @evalI.eq_34:=by intros;exact rn rfl rfl
theorem q_mlen:type_of% @evalI.eq_35:=by intros;exact rn rfl rfl
theorem q_trunc:type_of% @evalI.eq_36:=by intros;exact rn rfl rfl
theorem q_mkifc:type_of% @evalI.eq_37:=by intros;exact rn rfl rfl
theorem q_tassert:type_of% @evalI.eq_38:=by intros;exact rn rfl rfl
theorem q_clr:type_of% @evalI.eq_39:=by intros;exact rn rfl rfl
theorem q_capn:type_of% @evalI.eq_40:=by intros;exact rn rfl rfl
theorem q_nileq:type_of% @evalI.eq_41:=by intros;exact rn rfl rfl
theorem q_mkapp:type_of% @evalI.eq_42:=by intros;exact rn rfl rfl
def gQ(p:Prop) (R1:St→Prop) (s1:St) (R2:St→Prop) (s2:St):Prop:=gP p (R1 s1) (R2 s2)
theorem gQ_T{R1 R2:St→Prop}{s1 s2:St}:gQ True R1 s1 R2 s2=R1 s1:=gP_T
theorem gQ_F{R1 R2:St→Prop}{s1 s2:St}:gQ False R1 s1 R2 s2=R2 s2:=gP_F
def gD(d:D) (b:Bool) (R1:St→Prop) (s1:St) (R2:St→Prop) (s2 s0:St):Prop:=
 match d with
 |.v (.bool c)=>gQ (c=b) R1 s1 R2 s2
 |.v _=>R2 s0
 |_=>False
theorem gD_bool{c b:Bool}{R1 R2:St→Prop}{s1 s2 s0:St}:gD (.v (.bool c)) b R1 s1 R2 s2 s0=gQ (c=b) R1 s1 R2 s2:=rn rfl rfl
theorem gD_unit{b:Bool}{R1 R2:St→Prop}{s1 s2 s0:St}:gD (.v (.tuple #[])) b R1 s1 R2 s2 s0=R2 s0:=rn rfl rfl
theorem gD_undef{b:Bool}{R1 R2:St→Prop}{s1 s2 s0:St}:gD (.v undef) b R1 s1 R2 s2 s0=R2 s0:=rn rfl rfl
section
variable {t:List D} {m:List Ent} {i:Nat} {b:Bool} {dst:Option Tmp} {l:List RI} {K:St→Prop} {ins:I} {k q:Nat} {args:List Operand}
theorem RegZ_opD:RegZ P (.op dst (some (i,b)) ins::l) K ⟨t,m⟩=gD (t.getD i .dead) b (RegZ P (.op dst none ins::l) K) ⟨t.set i (.v (.bool b)),m⟩ (RegZ P l K) (St.put ⟨t.set i (.v (.bool (!b))),m⟩ dst (.v undef)) (St.put ⟨t,m⟩ dst (.v undef)):=by
 rw[RegZ_opg];simp only[gate,gD,gQ,pin,RegZ_op]
 cases h:t.getD i .dead with
 |v x=>cases x<;>simp[gP]<;>cases b<;>simp
 |_=>rfl
theorem RegZ_callD:RegZ P (.call dst (some (i,b)) (.func k) args::l) K ⟨t,m⟩=gD (t.getD i .dead) b (RegZ P (.call dst none (.func k) args::l) K) ⟨t.set i (.v (.bool b)),m⟩ (RegZ P l K) (St.put ⟨t.set i (.v (.bool (!b))),m⟩ dst (.v undef)) (St.put ⟨t,m⟩ dst (.v undef)):=by
 rw[RegZ_callFg];simp only[gate,gD,gQ,pin,RegZ_callF]
 cases h:t.getD i .dead with
 |v x=>cases x<;>simp[gP]<;>cases b<;>simp
 |_=>rfl
theorem gP_pin{t:List D}{i:Nat}{b c:Bool}(h:t.getD i .dead=.v (.bool c)) {Y N:List D→Prop}:gP (c=b) (Y t) (N t)=gP (c=b) (Y (t.set i (.v (.bool b)))) (N (t.set i (.v (.bool (!b))))):=by
 have hs:=set_getD h (by simp);by_cases hc:c=b
 ·subst hc;rw[hs];simp[gP]
 ·have:(!b)=c:=by cases b<;>cases c<;>simp_all
  rw[this,hs];simp[gP,hc]
theorem RegZ_callT:RegZ P (.call dst none (.tmp i) args::l) K ⟨t,m⟩=(match t.getD i .dead with|.fn k first caps=>callX P k (first++args.map (St.ev ⟨t,m⟩)++caps) m (KO (RegZ P l K) ⟨t,m⟩ dst)|_=>False):=by
 simp only[RegZ,gate,St.ec,St.ev]
 first|done|(cases t.getD i .dead<;>rfl)
theorem DrX_opD:DrX P (q+1) (.op dst (some (i,b)) ins::l) K ⟨t,m⟩=gD (t.getD i .dead) b (DrX P (q+1) (.op dst none ins::l) K) ⟨t.set i (.v (.bool b)),m⟩ (DrX P q l K) (St.put ⟨t.set i (.v (.bool (!b))),m⟩ dst (.v undef)) (St.put ⟨t,m⟩ dst (.v undef)):=by
 rw[DrX_opg];simp only[gate,gD,gQ,DrX_op]
 cases h:t.getD i .dead with
 |v x=>
  cases x with
  |bool c=>exact gP_pin h (Y:=fun t=>andT (evalI ⟨t,m⟩ ins) (KO (DrX P q l K) ⟨t,m⟩ dst)) (N:=fun t=>DrX P q l K (St.put ⟨t,m⟩ dst (.v undef)))
  |_=>cases b<;>simp[gP]
 |_=>rfl
theorem DrX_callD:DrX P (q+1) (.call dst (some (i,b)) (.func k) args::l) K ⟨t,m⟩=gD (t.getD i .dead) b (DrX P (q+1) (.call dst none (.func k) args::l) K) ⟨t.set i (.v (.bool b)),m⟩ (DrX P q l K) (St.put ⟨t.set i (.v (.bool (!b))),m⟩ dst (.v undef)) (St.put ⟨t,m⟩ dst (.v undef)):=by
 rw[DrX_callFg];simp only[gate,gD,gQ,DrX_callF]
 cases h:t.getD i .dead with
 |v x=>
  cases x with
  |bool c=>exact gP_pin h (Y:=fun t=>callQ P k (args.map (St.ev ⟨t,m⟩)) (DrX P q l K) ⟨t,m⟩ dst) (N:=fun t=>DrX P q l K (St.put ⟨t,m⟩ dst (.v undef)))
  |_=>cases b<;>simp[gP]
 |_=>rfl
end
section
variable {t:List D} {m m':List Ent} {i:Nat} {x:Value} {f:FuncId} {g:Nat} {b c:Bool} {d d':D} {k n:Nat} {R:St→Prop} {o:Operand} {s:St}
theorem st_tmp:St.ev ⟨t,m⟩ (.tmp i)=t.getD i .dead:=rn rfl rfl
theorem st_const:St.ev s (.const x)=.v x:=rn rfl rfl
theorem st_func:St.ev s (.func f)=.fn f [] []:=rn rfl rfl
theorem put_some':St.put ⟨t,m⟩ (some i) d=⟨t.set i d,m⟩:=rn rfl rfl
theorem put_none':St.put s none d=s:=rn rfl rfl
theorem KO_some:KO R ⟨t,m⟩ (some i) d m'=R ⟨t.set i d,m'⟩:=rn rfl rfl
theorem KO_none:KO R ⟨t,m⟩ none d m'=R ⟨t,m'⟩:=rn rfl rfl
theorem gate_some:gate ⟨t,m⟩ (some (i,b))=(match t.getD i .dead with|.v (.bool c)=>some (some (c,b))|.v _=>some (some (!b,b))|_=>none):=rn rfl rfl
theorem pin_some:pin ⟨t,m⟩ (some (i,b)) c=(match t.getD i .dead with|.v (.bool _)=>⟨t.set i (.v (.bool c)),m⟩|_=>⟨t,m⟩):=rn rfl rfl
theorem cells_agg{l:List D}:D.cells (.agg l)=l:=rn rfl rfl
theorem cells_v:D.cells (.v x)=[.v x]:=rn rfl rfl
theorem cells_sl{l:List D}:D.cells (.sl n l)=[.sl n l]:=rn rfl rfl
theorem cells_own:D.cells (.own i k)=[.own i k]:=rn rfl rfl
theorem cells_view{a b:Nat}:D.cells (.view i k a b)=[.view i k a b]:=rn rfl rfl
theorem cells_ref{a b:Nat}:D.cells (.ref i k a b)=[.ref i k a b]:=rn rfl rfl
theorem cells_pt:D.cells (.pt d)=[.pt d]:=rn rfl rfl
theorem cells_fn{a b:List D}:D.cells (.fn f a b)=[.fn f a b]:=rn rfl rfl
theorem cells_mp:D.cells (.mp i)=[.mp i]:=rn rfl rfl
theorem ok_agg{l:List D}:D.ok (.agg l)=true:=rn rfl rfl
theorem ok_v:D.ok (.v x)=one x:=rn rfl rfl
theorem ok_sl{l:List D}:D.ok (.sl n l)=true:=rn rfl rfl
theorem ok_own:D.ok (.own i k)=true:=rn rfl rfl
theorem ok_view{a b:Nat}:D.ok (.view i k a b)=true:=rn rfl rfl
theorem ok_ref{a b:Nat}:D.ok (.ref i k a b)=true:=rn rfl rfl
theorem ok_pt:D.ok (.pt d)=true:=rn rfl rfl
theorem ok_fn{a b:List D}:D.ok (.fn f a b)=true:=rn rfl rfl
theorem ok_mp:D.ok (.mp i)=true:=rn rfl rfl
theorem one_int{j:IntKind}{z:Int}:one (.int j z)=true:=rn rfl rfl
theorem one_bool:one (.bool b)=true:=rn rfl rfl
theorem one_str{z:ByteArray}:one (.string z)=true:=rn rfl rfl
theorem one_sl{a b}:one (.slice none a b)=true:=rn rfl rfl
theorem one_map:one (.map none)=true:=rn rfl rfl
theorem one_ptr:one (.pointer none)=true:=rn rfl rfl
theorem len_nil:lenOfD m (.v (.slice none 0 0))=some 0:=rn rfl rfl
theorem len_sl{l:List D}:lenOfD m (.sl n l)=some l.length:=rn rfl rfl
theorem len_own:lenOfD m (.own i k)=(match m[i]? with|some (.live _ ver' l)=>if ver'=k then some l.length else none|_=>none):=rn rfl rfl
theorem len_view{a b:Nat}:lenOfD m (.view i k a b)=(match m[i]? with|some _=>some b|none=>none):=rn rfl rfl
theorem con_nil:contents n m (.v (.slice none 0 0))=some []:=rn rfl rfl
theorem con_sl{l:List D}:contents n m (.sl k l)=(if k=n then some l else none):=rn rfl rfl
theorem con_own:contents n m (.own i k)=(match m[i]? with|some (.live S' ver' l)=>if S'=n∧ver'=k then some l else none|_=>none):=rn rfl rfl
theorem con_view{a b:Nat}:contents n m (.view i k a b)=(match m[i]? with|some (.live S' ver' l)=>if S'=n∧ver'=k∧a+b≤l.length then some ((l.drop a).take b)else none|_=>none):=rn rfl rfl
theorem part_t{l:List D}{off:Nat}:part true n off l=(if has2 off n l=true then some (.agg ((l.drop off).take n))else none):=by simp only[has2_iff];rfl
theorem part_f{l:List D}{off:Nat}:part false n off l=l[off]?:=rn rfl rfl
theorem upd_agg{l r:List D}{a:Nat}:D.upd (.agg l) a r=.agg (splice l a r):=rn rfl rfl
theorem upd_v{r:List D}{a:Nat}:D.upd (.v x) a r=r.headD .dead:=rn rfl rfl
theorem upd_sl{l r:List D}{a:Nat}:D.upd (.sl n l) a r=r.headD .dead:=rn rfl rfl
theorem upd_own{r:List D}{a:Nat}:D.upd (.own i k) a r=r.headD .dead:=rn rfl rfl
theorem upd_pt{r:List D}{a:Nat}:D.upd (.pt d) a r=r.headD .dead:=rn rfl rfl
theorem upd_ref{r:List D}{a b c:Nat}:D.upd (.ref i k b c) a r=r.headD .dead:=rn rfl rfl
theorem head_cons{r:List D}{e:D}:(d::r).headD e=d:=rn rfl rfl
theorem splice_0{l r:List D}:splice (d::l) 0 (d'::r)=d'::splice l 0 r:=by simp[splice]
theorem splice_S{l r:List D}:splice (d::l) (n+1) r=d::splice l n r:=by simp[splice,Nat.add_right_comm]
theorem splice_nil{l:List D}:splice l 0 []=l:=by simp[splice]
theorem build_nil{l:List D}:buildD s [] l=some l:=rn rfl rfl
theorem build_cons{l:List D}{off:Nat}{ps:List (Nat×Nat×Operand)}:buildD s ((off,n,o)::ps) l=(if(s.ev o).ok=true∧lenIs n (s.ev o).cells=true∧has2 off n l=true then buildD s ps (splice l off (s.ev o).cells)else none):=by simp only[lenIs_iff,has2_iff];rfl
theorem bsl_nil{l:List D}:bsliceD s n [] l=some l:=rn rfl rfl
theorem bsl_cons{l:List D}{ps:List (Nat×Operand)}:bsliceD s n ((i,o)::ps) l=(if(s.ev o).ok=true∧lenIs n (s.ev o).cells=true∧has2 i 1 l=true then bsliceD s n ps (l.set i (s.ev o))else none):=by simp only[lenIs_iff,has2_iff];rfl
theorem bnd_none:bound s n none=some n:=rn rfl rfl
theorem bnd_some:bound s n (some o)=(match s.ev o with|.v (.int _ n)=>if 0≤n then some n.toNat else none|_=>none):=rn rfl rfl
theorem sli_nil{lo hi:Nat}:sliceD n m (.v (.slice none 0 0)) lo hi=(if lo=0∧hi=0 then some (.v (.slice none 0 0))else none):=rn rfl rfl
theorem sli_sl{lo hi:Nat}{l:List D}:sliceD n m (.sl k l) lo hi=(if k=n∧lo≤hi∧hi≤l.length then some (.sl n ((l.drop lo).take (hi-lo)))else none):=rn rfl rfl
theorem sli_own{lo hi:Nat}:sliceD n m (.own i k) lo hi=(match m[i]? with|some (.live S' ver' l)=>if S'=n∧ver'=k∧lo≤hi∧hi≤l.length then some (.view i k lo (hi-lo))else none|_=>none):=rn rfl rfl
theorem sli_view{lo hi a b:Nat}:sliceD n m (.view i k a b) lo hi=(match m[i]? with|some (.live S' ver' l)=>if S'=n∧ver'=k∧lo≤hi∧hi≤b∧a+b≤l.length then some (.view i k (a+lo) (hi-lo))else none|_=>none):=rn rfl rfl
theorem lvs_nil:leaves []=some []:=rn rfl rfl
theorem lvs_cons{l:List D}:leaves (.v x::l)=(leaves l).map (x::·):=rn rfl rfl
theorem eql_int{j k:IntKind}{a b:Int}:eqLeaf 0 (.v (.int j a)) (.v (.int k b))=(if j=k then some (a==b)else none):=rn rfl rfl
theorem eql_bool{a b:Bool}:eqLeaf 1 (.v (.bool a)) (.v (.bool b))=some (a==b):=rn rfl rfl
theorem bytes_list{a b:ByteArray}:(a.toList==b.toList)=decide (a=b):=by
 by_cases h:a=b
 ·subst h;simp
 ·rw[decide_eq_false h,beq_eq_false_iff_ne];exact fun he=>h (by cases a;cases b;simp only[ByteArray.toList_eq]at he;simpa using he)
theorem eql_str{a b:ByteArray}:eqLeaf 2 (.v (.string a)) (.v (.string b))=some (decide (a=b)):=by
 rw[←bytes_list];rfl
theorem str_eq{a b:ByteArray}:pureRun (binOp .eql 0 (.string a) (.string b))=some (.bool (decide (a=b))):=by
 rw[←bytes_list];rfl
theorem str_ne{a b:ByteArray}:pureRun (binOp .neq 0 (.string a) (.string b))=some (.bool (!decide (a=b))):=by
 rw[←bytes_list];rfl
theorem eqs_nil:eqLeaves [] [] []=some true:=rn rfl rfl
theorem eqs_cons{ks:List Nat}{xs ys:List D}{e:D}:eqLeaves (k::ks) (d::xs) (e::ys)=(match eqLeaf k d e,eqLeaves ks xs ys with|some a,some b=>some (a&&b)|_,_=>none):=rn rfl rfl
section
variable {j:IntKind} {a b:Int}
theorem bj_add:binJ .add j a j b=some (.int j (wrapF j (a+b))):=by simp[binJ]
theorem bj_sub:binJ .sub j a j b=some (.int j (wrapF j (a-b))):=by simp[binJ]
theorem bj_mul:binJ .mul j a j b=some (.int j (wrapF j (a*b))):=by simp[binJ]
theorem bj_eql:binJ .eql j a j b=some (.bool (a==b)):=by simp[binJ]
theorem bj_neq:binJ .neq j a j b=some (.bool (a !=b)):=by simp[binJ]
theorem bj_lss:binJ .lss j a j b=some (.bool (decide (a<b))):=by simp[binJ]
theorem bj_leq:binJ .leq j a j b=some (.bool (decide (a≤b))):=by simp[binJ]
theorem bj_gtr:binJ .gtr j a j b=some (.bool (decide (b<a))):=by simp[binJ]
theorem bj_geq:binJ .geq j a j b=some (.bool (decide (b≤a))):=by simp[binJ]
theorem bj_quo:binJ .quo j a j b=if b=0 then none else some (.int j (wrapF j (a.tdiv b))):=by
 by_cases h:b=0<;>simp[binJ,h]
theorem bj_rem:binJ .rem j a j b=if b=0 then none else some (.int j (a.tmod b)):=by
 by_cases h:b=0<;>simp[binJ,h]
end
theorem bne_F{b:Bool}:(b !=false)=b:=by cases b<;>rfl
theorem bne_T{b:Bool}:(b !=true) = !b:=by cases b<;>rfl
theorem not_F{b:Bool}:((!b)=false)=(b=true):=by cases b<;>simp
theorem not_T{b:Bool}:((!b)=true)=(b=false):=by cases b<;>simp
theorem ress_nil:ressD s []=some []:=rn rfl rfl
theorem ress_tmp{l:List RV}:ressD ⟨t,m⟩ (.tmp i::l)=(match ressD ⟨t,m⟩ l with|some ds=>some (t.getD i .dead::ds)|none=>none):=by
 simp only[ressD,resD];cases ressD ⟨t,m⟩ l<;>rfl
theorem ress_cell{l:List RV}:ressD ⟨t,m⟩ (.cell b n i::l)=(match evalI ⟨t,m⟩ (.load b n (.tmp i)),ressD ⟨t,m⟩ l with|some (d,_),some ds=>some (d::ds)|_,_=>none):=by
 simp only[ressD,resD];cases evalI ⟨t,m⟩ (.load b n (.tmp i))<;>cases ressD ⟨t,m⟩ l<;>rfl
end
def zx:=(And.intro (And.intro (And.intro (And.intro (And.intro (And.intro (And.intro (And.intro (And.intro @KL_go @KL_brk) (And.intro @KL_ret @KL_out)) (And.intro (And.intro @KJ_normal @KJ_exit) (And.intro @KJ_ret @q_mv))) (And.intro (And.intro (And.intro @q_pick @q_bin) (And.intro @q_beq @q_un)) (And.intro (And.intro @q_conv @q_alloc) (And.intro @q_box @q_build)))) (And.intro (And.intro (And.intro (And.intro @q_bslice @q_load) (And.intro @q_store @q_nilc)) (And.intro (And.intro @q_slice @q_faddr) (And.intro @q_field @q_iaddr))) (And.intro (And.intro (And.intro @q_aaddr @q_index) (And.intro @q_extract @q_len)) (And.intro (And.intro @q_slen @q_append) (And.intro @q_mkslice @q_mkfunc))))) (And.intro (And.intro (And.intro (And.intro (And.intro @q_fail @q_mm) (And.intro @q_ceq @q_strb)) (And.intro (And.intro @q_sidx @q_sslice) (And.intro @q_mkmap @q_mlook))) (And.intro (And.intro (And.intro @q_mput @q_mlen) (And.intro @q_trunc @q_mkifc)) (And.intro (And.intro @q_tassert @q_clr) (And.intro @q_capn @q_nileq)))) (And.intro (And.intro (And.intro (And.intro @q_mkapp @gQ_T) (And.intro @gQ_F @gD_bool)) (And.intro (And.intro @gD_unit @gD_undef) (And.intro @RegZ_opD @RegZ_callD))) (And.intro (And.intro (And.intro @RegZ_callT @DrX_opD) (And.intro @DrX_callD @st_tmp)) (And.intro (And.intro @st_const @st_func) (And.intro @put_some' @put_none')))))) (And.intro (And.intro (And.intro (And.intro (And.intro (And.intro @KO_some @KO_none) (And.intro @gate_some @pin_some)) (And.intro (And.intro @cells_agg @cells_v) (And.intro @cells_sl @cells_own))) (And.intro (And.intro (And.intro @cells_view @cells_ref) (And.intro @cells_pt @cells_fn)) (And.intro (And.intro @cells_mp @ok_agg) (And.intro @ok_v @ok_sl)))) (And.intro (And.intro (And.intro (And.intro @ok_own @ok_view) (And.intro @ok_ref @ok_pt)) (And.intro (And.intro @ok_fn @ok_mp) (And.intro @one_int @one_bool))) (And.intro (And.intro (And.intro @one_str @one_sl) (And.intro @one_map @one_ptr)) (And.intro (And.intro @len_nil @len_sl) (And.intro @len_own @len_view))))) (And.intro (And.intro (And.intro (And.intro (And.intro @con_nil @con_sl) (And.intro @con_own @con_view)) (And.intro (And.intro @part_t @part_f) (And.intro @upd_agg @upd_v))) (And.intro (And.intro (And.intro @upd_sl @upd_own) (And.intro @upd_pt @upd_ref)) (And.intro (And.intro @head_cons @splice_0) (And.intro @splice_S @splice_nil)))) (And.intro (And.intro (And.intro (And.intro @build_nil @build_cons) (And.intro @bsl_nil @bsl_cons)) (And.intro (And.intro @bnd_none @bnd_some) (And.intro @sli_nil @sli_sl))) (And.intro (And.intro (And.intro @sli_own @sli_view) (And.intro @lvs_nil @lvs_cons)) (And.intro (And.intro @eql_int @eql_bool) (And.intro @eql_str @str_eq))))))) (And.intro (And.intro (And.intro (And.intro (And.intro (And.intro (And.intro @str_ne @eqs_nil) (And.intro @eqs_cons @bj_add)) (And.intro (And.intro @bj_sub @bj_mul) (And.intro @bj_eql @bj_neq))) (And.intro (And.intro (And.intro @bj_lss @bj_leq) (And.intro @bj_gtr @bj_geq)) (And.intro (And.intro @bj_quo @bj_rem) (And.intro @bne_F @bne_T)))) (And.intro (And.intro (And.intro (And.intro @not_F @not_T) (And.intro @ress_nil @ress_tmp)) (And.intro (And.intro @ress_cell @mo.{0}) (And.intro @qp.{0} @neg_int))) (And.intro (And.intro (And.intro @max_int @min_int) (And.intro @false_and @and_false)) (And.intro (And.intro @true_or @or_true) (And.intro @or_self @false_or))))) (And.intro (And.intro (And.intro (And.intro (And.intro @or_false @cast0) (And.intro @eq_self.{1} @not_bool)) (And.intro (And.intro @gP_T @gP_F) (And.intro @bne_self_eq_false.{0} @bne_iff_ne.{0}))) (And.intro (And.intro (And.intro @bne_eq_false_iff_eq.{0} @tn) (And.intro @Bool.true_eq_false @false_implies)) (And.intro (And.intro @true_implies @implies_true.{1}) (And.intro @not_true_eq_false @not_false_eq_true)))) (And.intro (And.intro (And.intro (And.intro @beq_self_eq_true.{0} @RegZ_nil) (And.intro @RegZ_op @RegZ_callF)) (And.intro (And.intro @DrX_zero @DrX_op) (And.intro @DrX_callF @KS_normal))) (And.intro (And.intro (And.intro @KS_exit @KS_ret) (And.intro @KB_normal @KB_exit)) (And.intro (And.intro @KB_ret @andT_ite) (And.intro @map_ite @nn.{0,0})))))) (And.intro (And.intro (And.intro (And.intro (And.intro (And.intro @Nat.mul_one @Int.toNat_natCast) (And.intro @Int.natCast_nonneg @tupD_one)) (And.intro (And.intro @tupD_two @tupD_nil) (And.intro @Nat.lt_add_one @Ks))) (And.intro (And.intro (And.intro @true_and @and_true) (And.intro @and_self @Bool.or_false)) (And.intro (And.intro @Bool.false_or @Bool.or_true) (And.intro @Bool.true_or @Bool.or_self)))) (And.intro (And.intro (And.intro (And.intro @andT_some @List.getD_cons_succ.{0}) (And.intro @List.getD_cons_zero.{0} @xo.{0})) (And.intro (And.intro @Jo.{0} @jo.{0}) (And.intro @vq.{0} @List.set_cons_succ.{0}))) (And.intro (And.intro (And.intro @List.set_cons_zero.{0} @Vn.{0,0}) (And.intro @cr.{0,0} @lp.{0,0})) (And.intro (And.intro @Option.map_none.{0,0} @binJ_r) (And.intro @decide_true @cond_true.{1}))))) (And.intro (And.intro (And.intro (And.intro (And.intro @cond_false.{1} @if_true.{1}) (And.intro @if_false.{1} @decide_eq_true_eq)) (And.intro (And.intro @decide_eq_false_iff_not @Kp) (And.intro @Nn @Nat.succ_ne_self))) (And.intro (And.intro (And.intro @Bool.not_true @Bool.not_false) (And.intro @wrapF_r @decide_false)) (And.intro (And.intro @beq_iff_eq.{0} @beq_eq_false_iff_ne.{0}) (And.intro @ne_eq.{1} @oq)))) (And.intro (And.intro (And.intro (And.intro @ep @Oo.{0,0}) (And.intro @En @ite_true.{1})) (And.intro (And.intro @ite_false.{1} @bo.{0}) (And.intro @List.drop_succ_cons.{0} @Lp.{0}))) (And.intro (And.intro (And.intro @List.take_succ_cons.{0} @List.take_zero.{0}) (And.intro @Qo.{0,0} @List.length_append.{0})) (And.intro (And.intro @Jp @Nq) (And.intro @jq.{0} @vr.{0})))))))) (And.intro (And.intro (And.intro (And.intro @lp.{0,0} @li_nil) (And.intro @li_cons @h2_z)) (And.intro (And.intro @h2_n @h2_o) (And.intro @xn @ds_zero))) (And.intro (And.intro (And.intro @ds_succ @endF_some) (And.intro @look_em @all_em)) (And.intro @isKey_i @em_len))))
theorem sqS_map{α:Type}{e:α→D} [Fr e] {f:D→D→Prop}{l:List α}:SqS f (l.map e) (l.map e)=True:=sqS_same (Fr.l l)
theorem nz_S{x:Nat}:(0=x+1)=False:=by simp
theorem nS_z{x:Nat}:(x+1=0)=False:=by simp
theorem nS_S{x y:Nat}:(x+1=y+1)=(x=y):=by simp
def zq:=(And.intro (And.intro (And.intro (And.intro (And.intro (And.intro @nz_S @nS_z) (And.intro @nS_S @sqS_map)) (And.intro (And.intro @sqL_nil @sqL_cons) (And.intro @sqS_L @sqS_nil))) (And.intro (And.intro (And.intro @sq_dead @sq_v) (And.intro @sq_agg @sq_tup)) (And.intro (And.intro @sq_nils @sq_sl) (And.intro @sq_froz @sq_fview)))) (And.intro (And.intro (And.intro (And.intro @sq_own @sq_adopt) (And.intro @sq_ref @sq_view)) (And.intro (And.intro @sq_pt @sq_fref) (And.intro @sq_fn @et_nil))) (And.intro (And.intro (And.intro @et_live @et_new) (And.intro @outB_nil @outB_cons)) (And.intro (And.intro @ds_zero @ds_succ) (And.intro @sq_mp @et_mp))))) (And.intro (And.intro (And.intro (And.intro (And.intro @frM_nil @frM_em) (And.intro @em_nil @jq.{0})) (And.intro (And.intro @vr.{0} @and_self) (And.intro @and_true @true_and))) (And.intro (And.intro (And.intro @or_true @true_or) (And.intro @eq_self.{1} @mo.{0})) (And.intro (And.intro @qp.{0} @An.{0}) (And.intro @Bn.{0,0} @cr.{0,0})))) (And.intro (And.intro (And.intro (And.intro @Vn.{0,0} @List.map_append.{0,0}) (And.intro @Jo.{0} @exists_eq'.{1})) (And.intro (And.intro @Nn @Kp) (And.intro @bne_iff_ne.{0} @ne_eq.{1}))) (And.intro @not_false_eq_true @xn))))
def zs:=(And.intro (And.intro (And.intro @xo.{0} @Jo.{0}) (And.intro @jo.{0} @vq.{0})) (And.intro (And.intro @oq @ds_zero) @ds_succ))
end Go.Tm
namespace Go.Tm
variable {P:Program} {N:Nat}
class StbC (N:Nat) (K:Exit→St→Prop):Prop where
 h:Stb N K
instance {b:C}{K:Exit→St→Prop}:StbC N (KS P N b K):=⟨stb_S⟩
instance {id:Nat}{K:Exit→St→Prop} [h:StbC N K]:StbC N (KB id K):=⟨stb_B h.h⟩
instance {σ β ρ:Type}{id:Nat}{K:Exit→St→Prop}{S:σ→St}{B:β→St}{z:Ex σ β ρ}:StbC N (KL N id K S B z):=⟨stb_L⟩
instance {X R:Type}{K:Exit→St→Prop}{S:X→St}{z:X⊕R}:StbC N (KJ N K S z):=⟨stb_J⟩
instance {rs:List RV}{o:D}:StbC 0 (EndF rs o):=⟨stb_F⟩
theorem T.loopC{σ β ρ:Type}{id:Nat}{K:Exit→St→Prop} [hst:StbC N K] {x:C}{s:St}(S:σ→St) (B:β→St) (step:σ→Option (Ex σ β ρ)) (x0:σ) {y:β⊕ρ}(hy:Tm.loopO step x0=some y) (hs:Tells N s (S x0))
 (round:∀a z,step a=some z→(∀v,z=.ret v→y=.inr v)→Tm.T P N x (KL N id K S B z) (S a))
 (rest:∀b,y=.inl b→K .normal (B b)):Tm.T P N (.block id (.loop x)) K s:=T.loopO S B step x0 hy hs hst.h round rest
theorem frN:idfrees []=true:=rfl
theorem frC{α:Type}{e:α→D} [Fr e] {x:α}{l:List D}(h:idfrees l=true):idfrees (e x::l)=true:=by
 simp only[idfrees,Fr.h,h,Tn]
theorem frF{k:FuncId}{q l:List D}(hc:idfrees q=true) (h:idfrees l=true):idfrees (.fn k [] q::l)=true:=by
 simp only[idfrees,idfree,hc,h,Tn]
theorem callX_c1{k:Nat}{d d':D}{q:List D}{o:D}{m:List Ent}{f:D→List Ent→Prop}(h:Den P k ([d']++q) o) (hq:idfrees q=true) (hf:f o m) (hs:Sq [] [] 9 d d'):callX P k (d::q) m f:=
 callX_eq (m1:=m) (d1:=o) ⟨(h m).1,fun G w vs hv hi=>(h m).2 G w vs ((sbs0_rel (sq_sbs 9 d d' q q hs (Sbs.free hq))).1 vs hv) hi⟩ hf
theorem EndF_n{rs:List RV}{o:D}{s:St}(h:endF (ressD s rs) s.m o):EndF rs o .normal s:=by
 obtain⟨ds,h1,h2⟩:=h;exact⟨s,.refl s,ds,h1,h2⟩
def subh{α:Type}(l:List α) (hi:Int):Option (List α):=if 0≤hi∧hi.toNat≤l.length then some (l.take hi.toNat)else none
def subl{α:Type}(l:List α) (lo:Int):Option (List α):=if 0≤lo∧lo.toNat≤l.length then some (l.drop lo.toNat)else none
section
variable {α:Type} {e:α→D} {l r x:List α} {i:Int} {y:α} {b:Nat}
theorem idx_f(h:idx l i=some y):0≤i∧l[i.toNat]?=some y:=idx_some h
theorem idx_o(h:idx l i=some y):0≤i∧l[i.toNat]?=some y∧i.toNat<l.length:=by
 obtain⟨h1,h2⟩:=idx_some h;refine⟨h1,h2,?_⟩;rcases vo i.toNat l.length with h3|h3
 ·exact h3
 ·rw[Rn h3]at h2;cases h2
theorem app_f(h:app b l r=some x):(l.length+r.length)*b≤2 ^ 47∧l.map e++r.map e=x.map e:=by
 obtain⟨h1,rfl⟩:=app_some h;exact⟨h1,List.map_append.symm⟩
theorem put_f(h:put l i y=some x):i.toNat<l.length∧(l.map e).set i.toNat (e y)=x.map e:=by
 obtain⟨h0,h1,rfl⟩:=put_some h;exact⟨h1,List.map_set.symm⟩
theorem mks_f{n c:Int}(h:mks b y n c=some x):0≤n∧n≤c∧c≤2 ^ 62∧c.toNat*b≤2 ^ 48∧yn n.toNat (e y)=x.map e:=by
 obtain⟨h0,h1,h2,h3,rfl⟩:=mks_some h;exact⟨h0,h1,h2,h3,List.map_replicate.symm⟩
theorem subh_f(h:subh l i=some x):0≤i∧i.toNat≤l.length∧((l.map e).drop 0).take (i.toNat-0)=x.map e:=by
 unfold subh at h;split at h
 ·rename_i hc;obtain rfl:=eo h;exact⟨hc.1,hc.2,by rw[Lp,Nq,List.map_take]⟩
 ·cases h
theorem trunc_f(h:subh l i=some x):0≤i∧i.toNat≤l.length∧(l.map e).take i.toNat=x.map e:=by
 obtain⟨h1,h2,h3⟩:=subh_f (e:=e) h;rw[Lp,Nq]at h3;exact⟨h1,h2,h3⟩
theorem subl_f(h:subl l i=some x):0≤i∧i.toNat≤l.length∧((l.map e).drop i.toNat).take (l.length-i.toNat)=x.map e:=by
 unfold subl at h;split at h
 ·rename_i hc;obtain rfl:=eo h;refine⟨hc.1,hc.2,?_⟩;rw[List.map_drop];exact Hq (by simp)
 ·cases h
theorem front_f(h:subl l i=some x):0≤i∧i.toNat≤l.length∧((l.map e).take l.length).drop i.toNat=x.map e:=by
 obtain⟨h1,h2,h3⟩:=subl_f (e:=e) h;refine⟨h1,h2,?_⟩;rw[←h3,Hq (by simp),Hq (by simp)]
theorem subl_o(h:subl l i=some x):0≤i∧i.toNat≤l.length∧i.toNat+x.length≤l.length∧l.length-i.toNat=x.length∧((l.map e).drop i.toNat).take x.length=x.map e:=by
 obtain⟨h1,h2,h3⟩:=subl_f (e:=e) h;have h4:l.length-i.toNat=x.length:=by
  have:=congrArg List.length h3;simpa using this
 exact⟨h1,h2,by omega,h4,by rw[←h4];exact h3⟩
theorem quo_f{k:IntKind}{a c d:Int}(h:quo k a c=some d):¬c=0∧wrapF k (a.tdiv c)=d:=by
 unfold quo at h;split at h
 ·cases h
 ·exact⟨by assumption,eo h⟩
theorem rem_f{k:IntKind}{a c d:Int}(h:rem k a c=some d):¬c=0∧a.tmod c=d:=by
 unfold rem at h;split at h
 ·cases h
 ·exact⟨by assumption,eo h⟩
end
theorem ds_rep:∀n:Nat,Tm.ds n []=yn n .dead
 |0=>rfl
 |n+1=>by rw[ds_succ,ds_rep n];rfl
theorem Den.at{k:Nat}{F:Fun}{l:List D}{o:D}(n:Nat) (hF:compF P k=some F) (hname:((P.funcs[k]?).map fun fn=>fn.name == "runtime.NumGoroutine")=some false) (hf:idfrees l=true)
 (hn:F.ntmps=l.length+n) (h:T P 0 F.code (EndF F.results o) ⟨l++Tm.ds n [],[]⟩):Den P k l o:=by
 refine Den.of hF hname hf ?_;rw[hn,Vp,←ds_rep];exact h
end Go.Tm
namespace Go.Tm
section
variable {P:Program} {N:Nat} {ops:Array Oper} {Q:Exit→Act→World→Prop} {K:St→Prop} {rl:List RI} {q:Nat} {ps:List (List Nat)}
def opY(R:List (List Nat)→St→Prop) (fp:List (List Nat)) (p:List Nat) (dst:Option Tmp) (i:I) (s:St):Prop:=
 apB fp (rid s (.op dst none i)) p=true∧setB s i=true∧andT (evalI s i) (KO (R (fp++[rid s (.op dst none i)])) s dst)
def skY(R:List (List Nat)→St→Prop) (fp:List (List Nat)) (p:List Nat) (dst:Option Tmp) (i:I) (s:St):Prop:=
 apB fp (rid s (.op dst none i)) p=true∧R (fp++[rid s (.op dst none i)]) (s.put dst (.v undef))
def callL(P:Program) (k:FuncId) (ds:List D) (ids:List Nat) (R:St→Prop) (s:St) (dst:Option Tmp):Prop:=
 ∃d,((∀id∈ids,id<s.m.length)∧∀m,(∀id∈ids,m[id]?=s.m[id]?)→CallT P k ds m fun d' m'=>d'=d∧m'=m)∧R (s.put dst d)
def clY(P:Program) (R:List (List Nat)→St→Prop) (fp:List (List Nat)) (p:List Nat) (k:FuncId) (dst:Option Tmp) (args:List Operand) (s:St):Prop:=apB fp (topsD s args) p=true∧callL P k (args.map s.ev) (topsD s args) (R (fp++[topsD s args])) s dst
def cnY(R:List (List Nat)→St→Prop) (fp:List (List Nat)) (p:List Nat) (dst:Option Tmp) (args:List Operand) (s:St):Prop:=apB fp (topsD s args) p=true∧R (fp++[topsD s args]) (s.put dst (.v undef))
def DrY(P:Program):List (List Nat)→Nat→List RI→(St→Prop)→List (List Nat)→St→Prop
 |_,0,l,K,_,s=>RegZ P l K s
 |_,_+1,[],_,_,_=>False
 |ps,q+1,.op dst none i::l,K,fp,s=>opY (DrY P ps.tail q l K) fp (ps.headD []) dst i s
 |ps,q+1,.op dst (some (t,b)) i::l,K,fp,s=>
  gD (s.t.getD t .dead) b (opY (DrY P ps.tail q l K) fp (ps.headD []) dst i) ⟨s.t.set t (.v (.bool b)),s.m⟩ (skY (DrY P ps.tail q l K) fp (ps.headD []) dst i) ⟨s.t.set t (.v (.bool (!b))),s.m⟩ s
 |ps,q+1,.call dst none (.func k) args::l,K,fp,s=>clY P (DrY P ps.tail q l K) fp (ps.headD []) k dst args s
 |ps,q+1,.call dst (some (t,b)) (.func k) args::l,K,fp,s=>
  gD (s.t.getD t .dead) b (clY P (DrY P ps.tail q l K) fp (ps.headD []) k dst args) ⟨s.t.set t (.v (.bool b)),s.m⟩ (cnY (DrY P ps.tail q l K) fp (ps.headD []) dst args) ⟨s.t.set t (.v (.bool (!b))),s.m⟩ s
 |_,_+1,.call ..::_,_,_,_=>False
theorem gD_cases{d:D}{b:Bool}{t:List D}{i:Nat}(hd:t.getD i .dead=d) {m:List Ent}{R1 R2:St→Prop}(h:gD d b R1 ⟨t.set i (.v (.bool b)),m⟩ R2 ⟨t.set i (.v (.bool (!b))),m⟩ ⟨t,m⟩) :
 match gate ⟨t,m⟩ (some (i,b))with
 |none=>False
 |some none=>True
 |some (some (c,b))=>(c=b→R1 ⟨t,m⟩)∧(c≠b→R2 ⟨t,m⟩):=by
 simp only[gate,hd];unfold gD at h
 cases d with
 |v x=>
  cases x with
  |bool c=>
   simp only[gQ]at h⊢;have hs:=set_getD hd (by simp);refine⟨fun hc=>?_,fun hc=>?_⟩
   ·subst hc;have:=h.1 rfl;rwa [hs]at this
   ·have:=h.2 hc;rwa [show(!b)=c by cases b<;>cases c<;>simp_all,hs]at this
  |_=>cases b<;>simpa using h
 |_=>exact h
theorem drY_T:∀{q:Nat}{l:List RI}{ps:List (List Nat)}{fp:List (List Nat)}{s:St},DrY P ps q l K fp s→DrT2 P ps fp q l K s
 |0,l,ps,fp,s,h=>by simp only[DrY]at h;simp only[DrT2];exact regZ_T h
 |q+1,[],ps,fp,s,h=>by simp only[DrY]at h
 |q+1,.op dst none i::l,ps,fp,s,h=>by
  simp only[DrY,opY]at h;obtain⟨h1,h0,h2⟩:=h;simp only[DrT2,gate];obtain⟨d,m',h3,h4⟩:=(andT_iff _ _).1 h2;exact⟨h1,d,m',h0,h3,drY_T h4⟩
 |q+1,.op dst (some (t,b)) i::l,ps,fp,⟨st,sm⟩,h=>by
  simp only[DrY]at h;have h:=gD_cases rfl h;have hrid:∀s,rid s (.op dst (some (t,b)) i)=rid s (.op dst none i):=fun _=>rfl;simp only[DrT2];rw[hrid];split at h
  ·exact h.elim
  ·rename_i hg;simp only[gate]at hg;split at hg<;>simp at hg
  ·rename_i c b' hg;simp only[hg];by_cases hc:c=b'
   ·obtain⟨h1,h0,h2⟩:=h.1 hc;obtain⟨d,m',h3,h4⟩:=(andT_iff _ _).1 h2;exact⟨h1,fun _=>⟨d,m',h0,h3,drY_T h4⟩,fun hn=>(hn hc).elim⟩
   ·obtain⟨h1,h2⟩:=h.2 hc;exact⟨h1,fun hn=>(hc hn).elim,fun _=>drY_T h2⟩
 |q+1,.call dst none (.func k) args::l,ps,fp,s,h=>by
  simp only[DrY,clY,callL]at h;obtain⟨h0,d,h1,h2⟩:=h;simp only[DrT2,gate];exact⟨h0,d,by simpa only[Jo,bo] using h1,drY_T h2⟩
 |q+1,.call dst (some (t,b)) (.func k) args::l,ps,fp,⟨st,sm⟩,h=>by
  simp only[DrY]at h;have h:=gD_cases rfl h;simp only[DrT2];have hev:St.cv ⟨st,sm⟩ (.func k)=.fn k [] []:=rfl;simp only[hev];split at h
  ·exact h.elim
  ·rename_i hg;simp only[gate]at hg;split at hg<;>simp at hg
  ·rename_i c b' hg;simp only[hg];by_cases hc:c=b'
   ·obtain⟨h0,d,h1,h2⟩:=h.1 hc;exact⟨h0,fun _=>⟨d,by simpa only[Jo,bo] using h1,drY_T h2⟩,fun hn=>(hn hc).elim⟩
   ·obtain⟨h0,h2⟩:=h.2 hc;exact⟨h0,fun hn=>(hc hn).elim,fun _=>drY_T h2⟩
 |q+1,.call dst none (.tmp _) args::l,ps,fp,s,h=>by simp only[DrY]at h
 |q+1,.call dst none (.const _) args::l,ps,fp,s,h=>by simp only[DrY]at h
 |q+1,.call dst none (.global _) args::l,ps,fp,s,h=>by simp only[DrY]at h
 |q+1,.call dst (some _) (.tmp _) args::l,ps,fp,s,h=>by simp only[DrY]at h
 |q+1,.call dst (some _) (.const _) args::l,ps,fp,s,h=>by simp only[DrY]at h
 |q+1,.call dst (some _) (.global _) args::l,ps,fp,s,h=>by simp only[DrY]at h
 |q+1,.call dst none (.meth _ _) args::l,ps,fp,s,h=>by simp only[DrY]at h
 |q+1,.call dst (some _) (.meth _ _) args::l,ps,fp,s,h=>by simp only[DrY]at h
theorem T.dy(hm:P.follows .mixedOrders=true) {l:List RI}{K:Exit→St→Prop}{s:St}(h:DrY P [] q l (K .normal) [] s):T P N (.draw q l) K s:=
 T.drawO hm (drT2_TO (drY_T h))
theorem T.ay(hm:P.follows .mixedOrders=true) {cuts:List Nat}{bs:List (List Nat)}{l:List RI}{K:Exit→St→Prop}{s:St}(ps:List (List Nat)) (hok:drawOkO bs l q ps []=true) (h:DrY P ps q l (K .normal) [] s):T P N (.any cuts q bs l) K s:=
 T.any2 hm ps hok (drY_T h)
end
section
variable {P:Program}
theorem callL_q{k:Nat}{ds ds':List D}{o:D}{R:St→Prop}{s:St}{dst:Option Tmp}(h:Den P k ds' o) (hf:R (s.put dst o)) (hs:SqL (Sq [] [] 9) ds ds'):callL P k ds [] R s dst:=
 ⟨o,⟨fun _ h=>(by cases h),fun m _=>⟨(h m).1,fun G w vs hv hi=>(h m).2 G w vs ((sbs0_rel (sqL_sbs (sq_sbs 9) hs)).1 vs hv) hi⟩⟩,hf⟩
def Lq(m:List Ent) (d e:D):Prop:=
 match d,e with
 |.own j v,.sl S b=>match m[j]? with|some (.live S' v' a)=>S'=S∧v'=v∧a=b∧idfrees a=true|_=>False
 |.view j v lo n,.sl S b=>match m[j]? with|some (.live S' v' a)=>S'=S∧v'=v∧lo+n≤a.length∧(a.drop lo).take n=b∧idfrees b=true|_=>False
 |.ref j v x s,.pt e=>match m[j]? with|some (.live _ v' a)=>v'=v∧s=0∧a[x]?=some e∧idfree e=true|_=>False
 |d,e=>Sq [] [] 9 d e
theorem sbs_up{l r:List D}(h:Sbs [] [] l r) (m:List Ent):Sbs [] m l r:=by
 induction h with
 |nil=>exact .nil
 |same hf h ih=>exact .same hf ih
 |dead h ih=>exact .dead ih
 |nils h ih=>exact .nils ih
 |agg ha h iha ih=>exact .agg iha ih
 |tup ha h iha ih=>exact .tup iha ih
 |sl ha h iha ih=>exact .sl iha ih
 |pt ha h iha ih=>exact .pt iha ih
 |fn ha hc h iha ihc ih=>exact .fn iha ihc ih
 |ifc ha h iha ih=>exact .ifc iha ih
 |adopt i hi=>simp at hi
 |own hi=>simp at hi
 |ref hi=>simp at hi
 |view hi=>simp at hi
 |mp hi=>simp at hi
 |froz hm=>simp at hm
 |fview hm=>simp at hm
 |fref hm=>simp at hm
theorem lq_sbs{m m':List Ent}{ids:List Nat}(hm:∀id∈ids,m'[id]?=m[id]?) {d e:D}{l r:List D}(h:Lq m d e) (hid:(match topId d with|some j=>ids.contains j|none=>true)=true) (hs:Sbs [] m' l r):Sbs [] m' (d::l) (e::r):=by
 unfold Lq at h;split at h
 ·rename_i j v S b;simp only[topId,mq]at hid;split at h
  ·rename_i S' v' a hj;obtain⟨rfl,rfl,rfl,hf⟩:=h;exact .froz (by rw[hm j hid];exact hj) rfl (Sbs.free hf) hs
  ·exact h.elim
 ·rename_i j v lo n S b;simp only[topId,mq]at hid;split at h
  ·rename_i S' v' a hj;obtain⟨rfl,rfl,hn,rfl,hf⟩:=h;exact .fview (by rw[hm j hid];exact hj) rfl hn (Sbs.free hf) hs
  ·exact h.elim
 ·rename_i j v x s e;simp only[topId,mq]at hid;split at h
  ·rename_i S' v' a hj;obtain⟨rfl,rfl,hx,hf⟩:=h;exact .fref (by rw[hm j hid];exact hj) rfl hx (.same hf .nil) hs
  ·exact h.elim
 ·have h1:=sbs_up (sq_sbs 9 d e [] [] h .nil) m';exact Sbs.app (a:=[d]) (b:=[e]) h1 hs
def tidsB(ids:List Nat) (ds:List D):Bool:=ds.all fun d=>match topId d with|some j=>ids.contains j|none=>true
theorem lqL_sbs{m m':List Ent}{ids:List Nat}(hm:∀id∈ids,m'[id]?=m[id]?):∀{a b:List D},SqL (Lq m) a b→tidsB ids a=true→Sbs [] m' a b
 |[],[],_,_=>.nil
 |d::l,e::r,h,ht=>by
  simp only[tidsB,Aq,xn]at ht;exact lq_sbs hm h.1 ht.1 (lqL_sbs hm h.2 ht.2)
 |[],_::_,h,_=>h.elim
 |_::_,[],h,_=>h.elim
theorem callL_ql{k:Nat}{ids:List Nat}{ds ds':List D}{o:D}{R:St→Prop}{s:St}{dst:Option Tmp}(h:Den P k ds' o) (hf:R (s.put dst o)) (hfl:flat o=true) (hi:(ids.all fun i=>decide (i<s.m.length))=true) (ht:tidsB ids ds=true) (hs:SqL (Lq s.m) ds ds'):callL P k ds ids R s dst:=by
 refine⟨o,⟨fun id hid=>?_,fun m hm=>?_⟩,hf⟩
 ·rw[qo]at hi;simpa using hi id hid
 ·exact callX_lend h (lqL_sbs hm hs ht) hfl ⟨rfl,rfl⟩
variable {m:List Ent} {S x y lo n s:Nat} {b:List D} {e:D}
theorem lq_own:Lq m (.own x y) (.sl S b)=(match m[x]? with|some (.live S' v' a)=>S'=S∧v'=y∧a=b∧idfrees a=true|_=>False):=rn rfl rfl
theorem lq_view:Lq m (.view x y lo n) (.sl S b)=(match m[x]? with|some (.live S' v' a)=>S'=S∧v'=y∧lo+n≤a.length∧(a.drop lo).take n=b∧idfrees b=true|_=>False):=rn rfl rfl
theorem lq_ref{z:Nat}:Lq m (.ref x y z s) (.pt e)=(match m[x]? with|some (.live _ v' a)=>v'=y∧s=0∧a[z]?=some e∧idfree e=true|_=>False):=rn rfl rfl
theorem lq_v{z:Value}:Lq m (.v z) e=Sq [] [] 9 (.v z) e:=rn rfl rfl
theorem lq_agg{z:List D}:Lq m (.agg z) e=Sq [] [] 9 (.agg z) e:=rn rfl rfl
theorem lq_sl{z:List D}:Lq m (.sl S z) e=Sq [] [] 9 (.sl S z) e:=rn rfl rfl
theorem lq_pt{z:D}:Lq m (.pt z) e=Sq [] [] 9 (.pt z) e:=rn rfl rfl
theorem lq_fr{α:Type}{f:α→D} [Fr f] {l:List α}:idfrees (l.map f)=true:=Fr.l l
theorem lq_len{α:Type}{f:α→D}{l:List α}:(l.map f).length=l.length:=Oo f
end
end Go.Tm
namespace Go.Tm
variable {P:Program}
theorem rd_mv{s:St}{d:Option Tmp}{g:Option (Tmp×Bool)}{u0:Operand}:rid s (.op d g (.mv u0))=[]:=rn rfl rfl
theorem sb_mv{s:St}{u0:Operand}:setB s (.mv u0)=true:=rn rfl rfl
theorem rd_pick{s:St}{d:Option Tmp}{g:Option (Tmp×Bool)}{u0:Operand}{u1:Operand}{u2:Operand}:rid s (.op d g (.pick u0 u1 u2))=[]:=rn rfl rfl
theorem sb_pick{s:St}{u0:Operand}{u1:Operand}{u2:Operand}:setB s (.pick u0 u1 u2)=true:=rn rfl rfl
theorem rd_bin{s:St}{d:Option Tmp}{g:Option (Tmp×Bool)}{u0:BinOp}{u1:Operand}{u2:Operand}:rid s (.op d g (.bin u0 u1 u2))=[]:=rn rfl rfl
theorem sb_bin{s:St}{u0:BinOp}{u1:Operand}{u2:Operand}:setB s (.bin u0 u1 u2)=true:=rn rfl rfl
theorem rd_beq{s:St}{d:Option Tmp}{g:Option (Tmp×Bool)}{u0:Bool}{u1:Operand}{u2:Operand}:rid s (.op d g (.beq u0 u1 u2))=[]:=rn rfl rfl
theorem sb_beq{s:St}{u0:Bool}{u1:Operand}{u2:Operand}:setB s (.beq u0 u1 u2)=true:=rn rfl rfl
theorem rd_un{s:St}{d:Option Tmp}{g:Option (Tmp×Bool)}{u0:UnOp}{u1:Operand}:rid s (.op d g (.un u0 u1))=[]:=rn rfl rfl
theorem sb_un{s:St}{u0:UnOp}{u1:Operand}:setB s (.un u0 u1)=true:=rn rfl rfl
theorem rd_conv{s:St}{d:Option Tmp}{g:Option (Tmp×Bool)}{u0:IntKind}{u1:Operand}:rid s (.op d g (.conv u0 u1))=[]:=rn rfl rfl
theorem sb_conv{s:St}{u0:IntKind}{u1:Operand}:setB s (.conv u0 u1)=true:=rn rfl rfl
theorem rd_alloc{s:St}{d:Option Tmp}{g:Option (Tmp×Bool)}{u0:Nat}{u1:D}:rid s (.op d g (.alloc u0 u1))=[]:=rn rfl rfl
theorem sb_alloc{s:St}{u0:Nat}{u1:D}:setB s (.alloc u0 u1)=true:=rn rfl rfl
theorem rd_box{s:St}{d:Option Tmp}{g:Option (Tmp×Bool)}{u0:Nat}{u1:Operand}:rid s (.op d g (.box u0 u1))=[]:=rn rfl rfl
theorem sb_box{s:St}{u0:Nat}{u1:Operand}:setB s (.box u0 u1)=true:=rn rfl rfl
theorem rd_build{s:St}{d:Option Tmp}{g:Option (Tmp×Bool)}{u0:List D}{u1:List (Nat×Nat×Operand)}:rid s (.op d g (.build u0 u1))=[]:=rn rfl rfl
theorem sb_build{s:St}{u0:List D}{u1:List (Nat×Nat×Operand)}:setB s (.build u0 u1)=true:=rn rfl rfl
theorem rd_bslice{s:St}{d:Option Tmp}{g:Option (Tmp×Bool)}{u0:Nat}{u1:Nat}{u2:D}{u3:List (Nat×Operand)}:rid s (.op d g (.bslice u0 u1 u2 u3))=[]:=rn rfl rfl
theorem sb_bslice{s:St}{u0:Nat}{u1:Nat}{u2:D}{u3:List (Nat×Operand)}:setB s (.bslice u0 u1 u2 u3)=true:=rn rfl rfl
theorem rd_load{s:St}{d:Option Tmp}{g:Option (Tmp×Bool)}{u0:Bool}{u1:Nat}{u2:Operand}:rid s (.op d g (.load u0 u1 u2))=tops s [u2]:=rn rfl rfl
theorem sb_load{s:St}{u0:Bool}{u1:Nat}{u2:Operand}:setB s (.load u0 u1 u2)=true:=rn rfl rfl
theorem rd_store{s:St}{d:Option Tmp}{g:Option (Tmp×Bool)}{u0:Nat}{u1:Operand}{u2:Operand}:rid s (.op d g (.store u0 u1 u2))=tops s [u1]:=rn rfl rfl
theorem sb_store{s:St}{u0:Nat}{u1:Operand}{u2:Operand}:setB s (.store u0 u1 u2)=true:=rn rfl rfl
theorem rd_nilc{s:St}{d:Option Tmp}{g:Option (Tmp×Bool)}{u0:Operand}:rid s (.op d g (.nilc u0))=[]:=rn rfl rfl
theorem sb_nilc{s:St}{u0:Operand}:setB s (.nilc u0)=true:=rn rfl rfl
theorem rd_slice{s:St}{d:Option Tmp}{g:Option (Tmp×Bool)}{u0:Nat}{u1:Operand}{u2:Option Operand}{u3:Option Operand}{u4:Option Operand}:rid s (.op d g (.slice u0 u1 u2 u3 u4))=tops s [u1]:=rn rfl rfl
theorem sb_slice{s:St}{u0:Nat}{u1:Operand}{u2:Option Operand}{u3:Option Operand}{u4:Option Operand}:setB s (.slice u0 u1 u2 u3 u4)=true:=rn rfl rfl
theorem rd_faddr{s:St}{d:Option Tmp}{g:Option (Tmp×Bool)}{u0:Bool}{u1:Nat}{u2:Nat}{u3:Operand}:rid s (.op d g (.faddr u0 u1 u2 u3))=[]:=rn rfl rfl
theorem sb_faddr{s:St}{u0:Bool}{u1:Nat}{u2:Nat}{u3:Operand}:setB s (.faddr u0 u1 u2 u3)=true:=rn rfl rfl
theorem rd_field{s:St}{d:Option Tmp}{g:Option (Tmp×Bool)}{u0:Bool}{u1:Nat}{u2:Nat}{u3:Operand}:rid s (.op d g (.field u0 u1 u2 u3))=[]:=rn rfl rfl
theorem sb_field{s:St}{u0:Bool}{u1:Nat}{u2:Nat}{u3:Operand}:setB s (.field u0 u1 u2 u3)=true:=rn rfl rfl
theorem rd_iaddr{s:St}{d:Option Tmp}{g:Option (Tmp×Bool)}{u0:Nat}{u1:Operand}{u2:Operand}:rid s (.op d g (.iaddr u0 u1 u2))=tops s [u1]:=rn rfl rfl
theorem sb_iaddr{s:St}{u0:Nat}{u1:Operand}{u2:Operand}:setB s (.iaddr u0 u1 u2)=true:=rn rfl rfl
theorem rd_aaddr{s:St}{d:Option Tmp}{g:Option (Tmp×Bool)}{u0:Bool}{u1:Nat}{u2:Nat}{u3:Operand}{u4:Operand}:rid s (.op d g (.aaddr u0 u1 u2 u3 u4))=[]:=rn rfl rfl
theorem sb_aaddr{s:St}{u0:Bool}{u1:Nat}{u2:Nat}{u3:Operand}{u4:Operand}:setB s (.aaddr u0 u1 u2 u3 u4)=true:=rn rfl rfl
theorem rd_index{s:St}{d:Option Tmp}{g:Option (Tmp×Bool)}{u0:Bool}{u1:Nat}{u2:Nat}{u3:Operand}{u4:Operand}:rid s (.op d g (.index u0 u1 u2 u3 u4))=[]:=rn rfl rfl
theorem sb_index{s:St}{u0:Bool}{u1:Nat}{u2:Nat}{u3:Operand}{u4:Operand}:setB s (.index u0 u1 u2 u3 u4)=true:=rn rfl rfl
theorem rd_extract{s:St}{d:Option Tmp}{g:Option (Tmp×Bool)}{u0:Operand}{u1:Nat}:rid s (.op d g (.extract u0 u1))=[]:=rn rfl rfl
theorem sb_extract{s:St}{u0:Operand}{u1:Nat}:setB s (.extract u0 u1)=true:=rn rfl rfl
theorem rd_len{s:St}{d:Option Tmp}{g:Option (Tmp×Bool)}{u0:Operand}:rid s (.op d g (.len u0))=tops s [u0]:=rn rfl rfl
theorem sb_len{s:St}{u0:Operand}:setB s (.len u0)=true:=rn rfl rfl
theorem rd_slen{s:St}{d:Option Tmp}{g:Option (Tmp×Bool)}{u0:Operand}:rid s (.op d g (.slen u0))=[]:=rn rfl rfl
theorem sb_slen{s:St}{u0:Operand}:setB s (.slen u0)=true:=rn rfl rfl
theorem rd_append{s:St}{d:Option Tmp}{g:Option (Tmp×Bool)}{u0:Nat}{u1:Nat}{u2:Operand}{u3:Operand}:rid s (.op d g (.append u0 u1 u2 u3))=tops s [u2,u3]:=rn rfl rfl
theorem sb_append{s:St}{u0:Nat}{u1:Nat}{u2:Operand}{u3:Operand}:setB s (.append u0 u1 u2 u3)=(match s.ev u2 with|.own ..=>true|_=>false):=rn rfl rfl
theorem rd_mkslice{s:St}{d:Option Tmp}{g:Option (Tmp×Bool)}{u0:Nat}{u1:Nat}{u2:D}{u3:Operand}{u4:Operand}:rid s (.op d g (.mkslice u0 u1 u2 u3 u4))=[]:=rn rfl rfl
theorem sb_mkslice{s:St}{u0:Nat}{u1:Nat}{u2:D}{u3:Operand}{u4:Operand}:setB s (.mkslice u0 u1 u2 u3 u4)=true:=rn rfl rfl
theorem rd_mkfunc{s:St}{d:Option Tmp}{g:Option (Tmp×Bool)}{u0:FuncId}{u1:List Operand}{u2:List Operand}:rid s (.op d g (.mkfunc u0 u1 u2))=[]:=rn rfl rfl
theorem sb_mkfunc{s:St}{u0:FuncId}{u1:List Operand}{u2:List Operand}:setB s (.mkfunc u0 u1 u2)=true:=rn rfl rfl
theorem rd_fail{s:St}{d:Option Tmp}{g:Option (Tmp×Bool)}  : rid s (.op d g (.fail))=[]:=rn rfl rfl
theorem sb_fail{s:St}  : setB s (.fail)=true:=rn rfl rfl
theorem rd_mm{s:St}{d:Option Tmp}{g:Option (Tmp×Bool)}{u0:Bool}{u1:List Operand}:rid s (.op d g (.mm u0 u1))=[]:=rn rfl rfl
theorem sb_mm{s:St}{u0:Bool}{u1:List Operand}:setB s (.mm u0 u1)=true:=rn rfl rfl
theorem rd_ceq{s:St}{d:Option Tmp}{g:Option (Tmp×Bool)}{u0:Bool}{u1:List Nat}{u2:Operand}{u3:Operand}:rid s (.op d g (.ceq u0 u1 u2 u3))=[]:=rn rfl rfl
theorem sb_ceq{s:St}{u0:Bool}{u1:List Nat}{u2:Operand}{u3:Operand}:setB s (.ceq u0 u1 u2 u3)=true:=rn rfl rfl
theorem rd_strb{s:St}{d:Option Tmp}{g:Option (Tmp×Bool)}{u0:Nat}{u1:Operand}:rid s (.op d g (.strb u0 u1))=[]:=rn rfl rfl
theorem sb_strb{s:St}{u0:Nat}{u1:Operand}:setB s (.strb u0 u1)=true:=rn rfl rfl
theorem rd_sidx{s:St}{d:Option Tmp}{g:Option (Tmp×Bool)}{u0:Operand}{u1:Operand}:rid s (.op d g (.sidx u0 u1))=[]:=rn rfl rfl
theorem sb_sidx{s:St}{u0:Operand}{u1:Operand}:setB s (.sidx u0 u1)=true:=rn rfl rfl
theorem rd_sslice{s:St}{d:Option Tmp}{g:Option (Tmp×Bool)}{u0:Operand}{u1:Option Operand}{u2:Option Operand}:rid s (.op d g (.sslice u0 u1 u2))=[]:=rn rfl rfl
theorem sb_sslice{s:St}{u0:Operand}{u1:Option Operand}{u2:Option Operand}:setB s (.sslice u0 u1 u2)=true:=rn rfl rfl
theorem rd_mkmap{s:St}{d:Option Tmp}{g:Option (Tmp×Bool)}  : rid s (.op d g (.mkmap))=[]:=rn rfl rfl
theorem sb_mkmap{s:St}  : setB s (.mkmap)=true:=rn rfl rfl
theorem rd_mlook{s:St}{d:Option Tmp}{g:Option (Tmp×Bool)}{u0:Nat}{u1:Bool}{u2:D}{u3:Operand}{u4:Operand}:rid s (.op d g (.mlook u0 u1 u2 u3 u4))=tops s [u3]:=rn rfl rfl
theorem sb_mlook{s:St}{u0:Nat}{u1:Bool}{u2:D}{u3:Operand}{u4:Operand}:setB s (.mlook u0 u1 u2 u3 u4)=true:=rn rfl rfl
theorem rd_mput{s:St}{d:Option Tmp}{g:Option (Tmp×Bool)}{u0:Nat}{u1:Operand}{u2:Operand}{u3:Operand}:rid s (.op d g (.mput u0 u1 u2 u3))=[]:=rn rfl rfl
theorem sb_mput{s:St}{u0:Nat}{u1:Operand}{u2:Operand}{u3:Operand}:setB s (.mput u0 u1 u2 u3)=true:=rn rfl rfl
theorem rd_mlen{s:St}{d:Option Tmp}{g:Option (Tmp×Bool)}{u0:Operand}:rid s (.op d g (.mlen u0))=tops s [u0]:=rn rfl rfl
theorem sb_mlen{s:St}{u0:Operand}:setB s (.mlen u0)=true:=rn rfl rfl
theorem rd_trunc{s:St}{d:Option Tmp}{g:Option (Tmp×Bool)}{u0:Nat}{u1:Operand}{u2:Option Operand}{u3:Option Operand}:rid s (.op d g (.trunc u0 u1 u2 u3))=tops s [u1]:=rn rfl rfl
theorem sb_trunc{s:St}{u0:Nat}{u1:Operand}{u2:Option Operand}{u3:Option Operand}:setB s (.trunc u0 u1 u2 u3)=(match s.ev u1 with|.own ..=>true|_=>false):=rn rfl rfl
theorem rd_mkifc{s:St}{d:Option Tmp}{g:Option (Tmp×Bool)}{u0:TypeId}{u1:Operand}:rid s (.op d g (.mkifc u0 u1))=[]:=rn rfl rfl
theorem sb_mkifc{s:St}{u0:TypeId}{u1:Operand}:setB s (.mkifc u0 u1)=true:=rn rfl rfl
theorem rd_tassert{s:St}{d:Option Tmp}{g:Option (Tmp×Bool)}{u0:Bool}{u1:TypeId}{u2:D}{u3:Operand}:rid s (.op d g (.tassert u0 u1 u2 u3))=[]:=rn rfl rfl
theorem sb_tassert{s:St}{u0:Bool}{u1:TypeId}{u2:D}{u3:Operand}:setB s (.tassert u0 u1 u2 u3)=true:=rn rfl rfl
theorem rd_clr{s:St}{d:Option Tmp}{g:Option (Tmp×Bool)}{u0:Nat}{u1:D}{u2:Operand}:rid s (.op d g (.clr u0 u1 u2))=[]:=rn rfl rfl
theorem sb_clr{s:St}{u0:Nat}{u1:D}{u2:Operand}:setB s (.clr u0 u1 u2)=true:=rn rfl rfl
theorem rd_capn{s:St}{d:Option Tmp}{g:Option (Tmp×Bool)}{u0:Operand}:rid s (.op d g (.capn u0))=[]:=rn rfl rfl
theorem sb_capn{s:St}{u0:Operand}:setB s (.capn u0)=true:=rn rfl rfl
theorem rd_nileq{s:St}{d:Option Tmp}{g:Option (Tmp×Bool)}{u0:Bool}{u1:Operand}:rid s (.op d g (.nileq u0 u1))=tops s [u1]:=rn rfl rfl
theorem sb_nileq{s:St}{u0:Bool}{u1:Operand}:setB s (.nileq u0 u1)=true:=rn rfl rfl
theorem rd_mkapp{s:St}{d:Option Tmp}{g:Option (Tmp×Bool)}{u0:Nat}{u1:Nat}{u2:D}{u3:Operand}{u4:Operand}:rid s (.op d g (.mkapp u0 u1 u2 u3 u4))=[]:=rn rfl rfl
theorem sb_mkapp{s:St}{u0:Nat}{u1:Nat}{u2:D}{u3:Operand}{u4:Operand}:setB s (.mkapp u0 u1 u2 u3 u4)=true:=rn rfl rfl
section
variable {ps:List (List Nat)} {q k t:Nat} {b:Bool} {dst:Option Tmp} {i:I} {l:List RI} {K:St→Prop} {fp:List (List Nat)} {s:St} {args:List Operand} {R:List (List Nat)→St→Prop} {p f g:List Nat} {x y:Nat} {o:Operand} {os:List Operand} {st:List D} {m:List Ent} {S:Nat} {r:List D}
theorem dy_zero:DrY P ps 0 l K fp s=RegZ P l K s:=by simp only[DrY]
theorem dy_op:DrY P ps (q+1) (.op dst none i::l) K fp s=opY (DrY P ps.tail q l K) fp (ps.headD []) dst i s:=by simp only[DrY]
theorem dy_opg:DrY P ps (q+1) (.op dst (some (t,b)) i::l) K fp ⟨st,m⟩=gD (st.getD t .dead) b (opY (DrY P ps.tail q l K) fp (ps.headD []) dst i) ⟨st.set t (.v (.bool b)),m⟩ (skY (DrY P ps.tail q l K) fp (ps.headD []) dst i) ⟨st.set t (.v (.bool (!b))),m⟩ ⟨st,m⟩:=by simp only[DrY]
theorem dy_call:DrY P ps (q+1) (.call dst none (.func k) args::l) K fp s=clY P (DrY P ps.tail q l K) fp (ps.headD []) k dst args s:=by simp only[DrY]
theorem dy_callg:DrY P ps (q+1) (.call dst (some (t,b)) (.func k) args::l) K fp ⟨st,m⟩=gD (st.getD t .dead) b (clY P (DrY P ps.tail q l K) fp (ps.headD []) k dst args) ⟨st.set t (.v (.bool b)),m⟩ (cnY (DrY P ps.tail q l K) fp (ps.headD []) dst args) ⟨st.set t (.v (.bool (!b))),m⟩ ⟨st,m⟩:=by simp only[DrY]
theorem opY_q:opY R fp p dst i s=(apB fp (rid s (.op dst none i)) p=true∧setB s i=true∧andT (evalI s i) (KO (R (fp++[rid s (.op dst none i)])) s dst)):=rn rfl rfl
theorem skY_q:skY R fp p dst i s=(apB fp (rid s (.op dst none i)) p=true∧R (fp++[rid s (.op dst none i)]) (s.put dst (.v undef))):=rn rfl rfl
theorem clY_q:clY P R fp p k dst args s=(apB fp (topsD s args) p=true∧callL P k (args.map s.ev) (topsD s args) (R (fp++[topsD s args])) s dst):=rn rfl rfl
theorem cnY_q:cnY R fp p dst args s=(apB fp (topsD s args) p=true∧R (fp++[topsD s args]) (s.put dst (.v undef))):=rn rfl rfl
theorem td_nil:topsD s []=[]:=rn rfl rfl
theorem td_cons:topsD s (o::os)=idsD (s.ev o)++topsD s os:=rn rfl rfl
theorem id_v{z:Value}:idsD (.v z)=[]:=rn rfl rfl
theorem id_agg:idsD (.agg r)=idsDs r:=rn rfl rfl
theorem id_tup:idsD (.tup r)=idsDs r:=rn rfl rfl
theorem id_sl:idsD (.sl S r)=idsDs r:=rn rfl rfl
theorem id_pt{d:D}:idsD (.pt d)=idsD d:=rn rfl rfl
theorem id_fn{a c:List D}:idsD (.fn k a c)=idsDs a++idsDs c:=rn rfl rfl
theorem id_dead:idsD .dead=[]:=rn rfl rfl
theorem id_own:idsD (.own x y)=[x]:=rn rfl rfl
theorem id_ref{u v:Nat}:idsD (.ref x y u v)=[x]:=rn rfl rfl
theorem id_view{u v:Nat}:idsD (.view x y u v)=[x]:=rn rfl rfl
theorem id_nil:idsDs []=[]:=rn rfl rfl
theorem id_cons{d:D}:idsDs (d::r)=idsD d++idsDs r:=rn rfl rfl
theorem id_map{α:Type}{f:α→D} [Fr f] {l:List α}:idsDs (l.map f)=[]:=ids_free (Fr.l l)
theorem tops_nil:tops s []=[]:=rn rfl rfl
theorem tops_cons:tops s (o::os)=(match topId (s.ev o)with|some id=>id::tops s os|none=>tops s os):=rn rfl rfl
theorem ap_nil:apB fp f []=true:=rn rfl rfl
theorem ap_cons{j:Nat}:apB fp f (j::p)=(apart1 (fp.getD j []) f&&apB fp f p):=rn rfl rfl
theorem ap_n1:apart1 [] f=true:=rn rfl rfl
theorem ap_n2:apart1 (x::g) f=(apart0 x f&&apart1 g f):=rn rfl rfl
theorem ap_0:apart0 x []=true:=rn rfl rfl
theorem ap_s:apart0 x (y::g)=(neN x y&&apart0 x g):=rn rfl rfl
theorem ne_00:neN 0 0=false:=rn rfl rfl
theorem ne_0S:neN 0 (y+1)=true:=rn rfl rfl
theorem ne_S0:neN (x+1) 0=true:=rn rfl rfl
theorem ne_SS:neN (x+1) (y+1)=neN x y:=rn rfl rfl
theorem top_v{z:Value}:topId (.v z)=none:=rn rfl rfl
theorem top_agg:topId (.agg r)=none:=rn rfl rfl
theorem top_tup:topId (.tup r)=none:=rn rfl rfl
theorem top_sl:topId (.sl S r)=none:=rn rfl rfl
theorem top_pt{d:D}:topId (.pt d)=none:=rn rfl rfl
theorem top_dead:topId .dead=none:=rn rfl rfl
theorem top_own:topId (.own x y)=some x:=rn rfl rfl
theorem top_ref{u v:Nat}:topId (.ref x y u v)=some x:=rn rfl rfl
theorem top_view{u v:Nat}:topId (.view x y u v)=some x:=rn rfl rfl
theorem hd_n{l:List Nat}{ps:List (List Nat)}:(l::ps).headD []=l:=rn rfl rfl
theorem tl_n{l:List Nat}{ps:List (List Nat)}:(l::ps).tail=ps:=rn rfl rfl
theorem hd_0:([]:List (List Nat)).headD []=[]:=rn rfl rfl
theorem tl_0:([]:List (List Nat)).tail=[]:=rn rfl rfl
end
def zy:=(And.intro (And.intro (And.intro (And.intro (And.intro (And.intro (And.intro (And.intro @rd_mv @sb_mv) (And.intro @rd_pick @sb_pick)) (And.intro (And.intro @rd_bin @sb_bin) (And.intro @rd_beq @sb_beq))) (And.intro (And.intro (And.intro @rd_un @sb_un) (And.intro @rd_conv @sb_conv)) (And.intro (And.intro @rd_alloc @sb_alloc) (And.intro @rd_box @sb_box)))) (And.intro (And.intro (And.intro (And.intro @rd_build @sb_build) (And.intro @rd_bslice @sb_bslice)) (And.intro (And.intro @rd_load @sb_load) (And.intro @rd_store @sb_store))) (And.intro (And.intro (And.intro @rd_nilc @sb_nilc) (And.intro @rd_slice @sb_slice)) (And.intro (And.intro @rd_faddr @sb_faddr) (And.intro @rd_field @sb_field))))) (And.intro (And.intro (And.intro (And.intro (And.intro @rd_iaddr @sb_iaddr) (And.intro @rd_aaddr @sb_aaddr)) (And.intro (And.intro @rd_index @sb_index) (And.intro @rd_extract @sb_extract))) (And.intro (And.intro (And.intro @rd_len @sb_len) (And.intro @rd_slen @sb_slen)) (And.intro (And.intro @rd_append @sb_append) (And.intro @rd_mkslice @sb_mkslice)))) (And.intro (And.intro (And.intro (And.intro @rd_mkfunc @sb_mkfunc) (And.intro @rd_fail @sb_fail)) (And.intro (And.intro @rd_mm @sb_mm) (And.intro @rd_ceq @sb_ceq))) (And.intro (And.intro (And.intro @rd_strb @sb_strb) (And.intro @rd_sidx @sb_sidx)) (And.intro (And.intro @rd_sslice @sb_sslice) (And.intro @rd_mkmap @sb_mkmap)))))) (And.intro (And.intro (And.intro (And.intro (And.intro (And.intro @rd_mlook @sb_mlook) (And.intro @rd_mput @sb_mput)) (And.intro (And.intro @rd_mlen @sb_mlen) (And.intro @rd_trunc @sb_trunc))) (And.intro (And.intro (And.intro @rd_mkifc @sb_mkifc) (And.intro @rd_tassert @sb_tassert)) (And.intro (And.intro @rd_clr @sb_clr) (And.intro @rd_capn @sb_capn)))) (And.intro (And.intro (And.intro (And.intro @rd_nileq @sb_nileq) (And.intro @rd_mkapp @sb_mkapp)) (And.intro (And.intro @dy_zero @dy_op) (And.intro @dy_opg @dy_call))) (And.intro (And.intro (And.intro @dy_callg @opY_q) (And.intro @skY_q @clY_q)) (And.intro (And.intro @cnY_q @td_nil) (And.intro @td_cons @id_v))))) (And.intro (And.intro (And.intro (And.intro (And.intro @id_agg @id_tup) (And.intro @id_sl @id_pt)) (And.intro (And.intro @id_fn @id_dead) (And.intro @id_own @id_ref))) (And.intro (And.intro (And.intro @id_view @id_nil) (And.intro @id_cons @id_map)) (And.intro (And.intro @tops_nil @tops_cons) (And.intro @ap_nil @ap_cons)))) (And.intro (And.intro (And.intro (And.intro @ap_n1 @ap_n2) (And.intro @ap_0 @ap_s)) (And.intro (And.intro @ne_00 @ne_0S) (And.intro @ne_S0 @ne_SS))) (And.intro (And.intro (And.intro @top_v @top_agg) (And.intro @top_tup @top_sl)) (And.intro (And.intro @top_pt @top_dead) (And.intro @top_own @top_ref))))))) (And.intro (And.intro (And.intro (And.intro @top_view @hd_n) (And.intro @tl_n @hd_0)) (And.intro (And.intro @tl_0 @lq_own) (And.intro @lq_view @lq_ref))) (And.intro (And.intro (And.intro @lq_v @lq_agg) (And.intro @lq_sl @lq_pt)) (And.intro @lq_fr @lq_len))))
end Go.Tm
namespace Go.Tm
section
variable {P:Program} {N:Nat} {ops:Array Oper} {Q:Exit→Act→World→Prop} {K:St→Prop} {rl:List RI} {q:Nat} {ps:List (List Nat)} {pl:List (Option Nat)}
def filY(R:List (List Nat)→St→Prop) (fp:List (List Nat)) (p:List Nat) (k:Nat) (dst:Option Tmp) (i:I) (s:St):Prop:=
 apB fp [k] p=true∧match fillI s k i with
  |some (d,e)=>R (fp++[[k]]) (({ s with m:=s.m.set k e }:St).put dst d)
  |none=>False
def callE(P:Program) (k:FuncId) (ds:List D) (ids:List Nat) (fp:List (List Nat)) (p:List Nat) (x:Nat) (f:D→Ent→Prop) (s:St):Prop:=
 (ids.elem x&&apB fp ids p)=true∧∃d e,((∀id∈ids,id<s.m.length)∧∀m,(∀id∈ids,m[id]?=s.m[id]?)→CallT P k ds m fun d' m'=>d'=d∧m'=m.set x e)∧f d e
def cwY(P:Program) (R:List (List Nat)→St→Prop) (fp:List (List Nat)) (p:List Nat) (x:Nat) (k:FuncId) (dst:Option Tmp) (args:List Operand) (s:St):Prop:=
 callE P k (args.map s.ev) (topsD s args) fp p x (fun d e=>R (fp++[topsD s args]) (({ s with m:=s.m.set x e }:St).put dst d)) s
def DrYO(P:Program):List (Option Nat)→List (List Nat)→Nat→List RI→(St→Prop)→List (List Nat)→St→Prop
 |_,_,0,l,K,_,s=>RegZ P l K s
 |_,_,_+1,[],_,_,_=>False
 |some k::pl,ps,q+1,.op dst none i::l,K,fp,s=>filY (DrYO P pl ps.tail q l K) fp (ps.headD []) k dst i s
 |none::pl,ps,q+1,.op dst none i::l,K,fp,s=>opY (DrYO P pl ps.tail q l K) fp (ps.headD []) dst i s
 |none::pl,ps,q+1,.op dst (some (t,b)) i::l,K,fp,s=>
  gD (s.t.getD t .dead) b (opY (DrYO P pl ps.tail q l K) fp (ps.headD []) dst i) ⟨s.t.set t (.v (.bool b)),s.m⟩ (skY (DrYO P pl ps.tail q l K) fp (ps.headD []) dst i) ⟨s.t.set t (.v (.bool (!b))),s.m⟩ s
 |none::pl,ps,q+1,.call dst none (.func k) args::l,K,fp,s=>clY P (DrYO P pl ps.tail q l K) fp (ps.headD []) k dst args s
 |some x::pl,ps,q+1,.call dst none (.func k) args::l,K,fp,s=>cwY P (DrYO P pl ps.tail q l K) fp (ps.headD []) x k dst args s
 |_,_,_+1,_::_,_,_,_=>False
theorem drYO_T:∀{q:Nat}{l:List RI}{pl:List (Option Nat)}{ps:List (List Nat)}{fp:List (List Nat)}{s:St},DrYO P pl ps q l K fp s→DrTO P pl ps fp q l K s
 |0,l,pl,ps,fp,s,h=>by simp only[DrYO]at h;simp only[DrTO];exact regZ_T h
 |q+1,[],pl,ps,fp,s,h=>by simp[DrYO]at h
 |q+1,.op dst none i::l,some k::pl,ps,fp,s,h=>by
  simp only[DrYO,filY]at h;obtain⟨h1,h2⟩:=h;split at h2
  ·rename_i d e hf;simp only[DrTO];exact⟨h1,trivial,d,e,hf,drYO_T h2⟩
  ·exact h2.elim
 |q+1,.op dst none i::l,none::pl,ps,fp,s,h=>by
  simp only[DrYO,opY]at h;obtain⟨h1,h0,h2⟩:=h;simp only[DrTO,gate];obtain⟨d,m',h3,h4⟩:=(andT_iff _ _).1 h2;exact⟨h1,d,m',h0,h3,drYO_T h4⟩
 |q+1,.op dst (some (t,b)) i::l,none::pl,ps,fp,⟨st,sm⟩,h=>by
  simp only[DrYO]at h;have h:=gD_cases rfl h;have hrid:∀s,rid s (.op dst (some (t,b)) i)=rid s (.op dst none i):=fun _=>rfl;simp only[DrTO];show apB fp (rid _ (.op dst (some (t,b)) i)) (ps.headD [])=true∧_;rw[hrid];split at h
  ·exact h.elim
  ·rename_i hg;simp only[gate]at hg;split at hg<;>simp at hg
  ·rename_i c b' hg;refine⟨?_,?_⟩
   ·by_cases hc:c=b'
    ·exact(h.1 hc).1
    ·exact(h.2 hc).1
   rw[hg];by_cases hc:c=b'
   ·obtain⟨h1,h0,h2⟩:=h.1 hc;obtain⟨d,m',h3,h4⟩:=(andT_iff _ _).1 h2;exact⟨fun _=>⟨d,m',h0,h3,drYO_T h4⟩,fun hn=>(hn hc).elim⟩
   ·obtain⟨h1,h2⟩:=h.2 hc;exact⟨fun hn=>(hc hn).elim,fun _=>drYO_T h2⟩
 |q+1,.call dst none (.func k) args::l,none::pl,ps,fp,s,h=>by
  simp only[DrYO,clY,callL]at h;obtain⟨h0,d,h1,h2⟩:=h;simp only[DrTO,gate];exact⟨h0,d,by simpa only[Jo,bo] using h1,drYO_T h2⟩
 |q+1,.op dst g i::l,[],ps,fp,s,h=>by simp[DrYO]at h
 |q+1,.op dst (some g) i::l,some k::pl,ps,fp,s,h=>by simp[DrYO]at h
 |q+1,.call dst g f args::l,[],ps,fp,s,h=>by simp[DrYO]at h
 |q+1,.call dst none (.func k) args::l,some x::pl,ps,fp,s,h=>by
  simp only[DrYO,cwY,callE]at h;obtain⟨h0,d,e,h1,h2⟩:=h;simp only[xn,List.elem_eq_mem,decide_eq_true_eq]at h0;obtain⟨h0,h0'⟩:=h0;simp only[DrTO];exact⟨trivial,h0,h0',d,e,by simpa only[Jo,bo] using h1,drYO_T h2⟩
 |q+1,.call dst (some g) f args::l,some x::pl,ps,fp,s,h=>by simp[DrYO]at h
 |q+1,.call dst none (.tmp _) args::l,some x::pl,ps,fp,s,h=>by simp[DrYO]at h
 |q+1,.call dst none (.const _) args::l,some x::pl,ps,fp,s,h=>by simp[DrYO]at h
 |q+1,.call dst none (.global _) args::l,some x::pl,ps,fp,s,h=>by simp[DrYO]at h
 |q+1,.call dst none (.meth _ _) args::l,some x::pl,ps,fp,s,h=>by simp[DrYO]at h
 |q+1,.call dst (some g) f args::l,none::pl,ps,fp,s,h=>by simp[DrYO]at h
 |q+1,.call dst none (.tmp _) args::l,none::pl,ps,fp,s,h=>by simp[DrYO]at h
 |q+1,.call dst none (.const _) args::l,none::pl,ps,fp,s,h=>by simp[DrYO]at h
 |q+1,.call dst none (.global _) args::l,none::pl,ps,fp,s,h=>by simp[DrYO]at h
 |q+1,.call dst none (.meth _ _) args::l,none::pl,ps,fp,s,h=>by simp[DrYO]at h
theorem T.ao(hm:P.follows .mixedOrders=true) {cuts:List Nat}{bs:List (List Nat)}{l:List RI}{K:Exit→St→Prop}{s:St}(ps:List (List Nat)) (pl:List (Option Nat)) (hok:drawOkO bs l q ps pl=true) (hpl:plB s.m pl=true) (h:DrYO P pl ps q l (K .normal) [] s):T P N (.any cuts q bs l) K s:=
 T.anyO hm ps pl hok hpl (drYO_T h)
def onlyC:List (Option Nat)→List RI→Bool
 |none::pl,_::l=>onlyC pl l
 |some _::pl,.call ..::l=>onlyC pl l
 |[],_=>true
 |_,_=>false
theorem onlyC_ok:∀{pl:List (Option Nat)}{l:List RI},onlyC pl l=true→∀i p,pO pl i=some p→∃a b c d,l[i]?=some (.call a b c d)
 |[],l,_,i,p,h=>by simp[pO]at h
 |none::pl,[],h,_,_,_=>by simp[onlyC]at h
 |some _::pl,[],h,_,_,_=>by simp[onlyC]at h
 |none::pl,y::l,h,0,p,h2=>by simp[pO]at h2
 |none::pl,y::l,h,i+1,p,h2=>by
  simp only[onlyC]at h;simpa using onlyC_ok h i p (by simpa [pO] using h2)
 |some x::pl,.call a b c d::l,h,0,p,h2=>⟨a,b,c,d,rfl⟩
 |some x::pl,.call a b c d::l,h,i+1,p,h2=>by
  simp only[onlyC]at h;simpa using onlyC_ok h i p (by simpa [pO] using h2)
 |some x::pl,.op a b c::l,h,_,_,_=>by simp[onlyC]at h
theorem T.dp(hm:P.follows .mixedOrders=true) {l:List RI}{K:Exit→St→Prop}{s:St}(ps:List (List Nat)) (pl:List (Option Nat)) (hps:ps=allPairs q) (hcl:onlyC pl l=true) (hpl:plB s.m pl=true) (h:DrYO P pl ps q l (K .normal) [] s):T P N (.draw q l) K s:=by
 subst hps;exact T.drawP hm (allPairs q) pl (onlyC_ok hcl) allPairs_ok hpl (drYO_T h)
end
end Go.Tm
namespace Go.Tm
section
variable {P:Program} {pl:List (Option Nat)} {ps:List (List Nat)} {q k t:Nat} {b:Bool} {dst:Option Tmp} {i:I} {l:List RI} {K:St→Prop} {fp:List (List Nat)} {s:St} {st:List D} {m:List Ent} {args:List Operand} {R:List (List Nat)→St→Prop} {p:List Nat} {z:D} {S:Nat} {x:Operand}
theorem do_zero:DrYO P pl ps 0 l K fp s=RegZ P l K s:=by simp only[DrYO]
theorem do_fil:DrYO P (some k::pl) ps (q+1) (.op dst none i::l) K fp s=filY (DrYO P pl ps.tail q l K) fp (ps.headD []) k dst i s:=by simp only[DrYO]
theorem do_op:DrYO P (none::pl) ps (q+1) (.op dst none i::l) K fp s=opY (DrYO P pl ps.tail q l K) fp (ps.headD []) dst i s:=by simp only[DrYO]
theorem do_opg:DrYO P (none::pl) ps (q+1) (.op dst (some (t,b)) i::l) K fp ⟨st,m⟩=gD (st.getD t .dead) b (opY (DrYO P pl ps.tail q l K) fp (ps.headD []) dst i) ⟨st.set t (.v (.bool b)),m⟩ (skY (DrYO P pl ps.tail q l K) fp (ps.headD []) dst i) ⟨st.set t (.v (.bool (!b))),m⟩ ⟨st,m⟩:=by simp only[DrYO]
theorem do_call:DrYO P (none::pl) ps (q+1) (.call dst none (.func k) args::l) K fp s=clY P (DrYO P pl ps.tail q l K) fp (ps.headD []) k dst args s:=by simp only[DrYO]
theorem do_callw{x:Nat}:DrYO P (some x::pl) ps (q+1) (.call dst none (.func k) args::l) K fp s=cwY P (DrYO P pl ps.tail q l K) fp (ps.headD []) x k dst args s:=by simp only[DrYO]
theorem cwY_q{R:List (List Nat)→St→Prop}{p:List Nat}{x:Nat}:cwY P R fp p x k dst args s=callE P k (args.map s.ev) (topsD s args) fp p x (fun d e=>R (fp++[topsD s args]) (({ s with m:=s.m.set x e }:St).put dst d)) s:=rn rfl rfl
theorem filY_q:filY R fp p k dst i s=(apB fp [k] p=true∧match fillI s k i with|some (d,e)=>R (fp++[[k]]) (({ s with m:=s.m.set k e }:St).put dst d)|none=>False):=rn rfl rfl
theorem fi_alloc:fillI s k (.alloc S z)=(match s.m[k]? with|some (.live S' ver [])=>if S'=S then some (.ref k (ver+1) 0 0,.live S (ver+1) [z])else none|_=>none):=rn rfl rfl
theorem fi_box:fillI s k (.box S x)=(match s.m[k]? with|some (.live S' ver [])=>if S'=S∧(s.ev x).ok=true∧lenIs S (s.ev x).cells=true then some (.ref k (ver+1) 0 0,.live S (ver+1) [s.ev x])else none|_=>none):=by simp only[lenIs_iff];rfl
theorem fi_bsl{n:Nat}{qs:List (Nat×Operand)}:fillI s k (.bslice S n z qs)=(match s.m[k]? with|some (.live S' ver [])=>if S'=S then(bsliceD s S qs (yn n z)).map fun l=>(.own k (ver+1),.live S (ver+1) l)else none|_=>none):=rn rfl rfl
end
def zo:=(And.intro (And.intro (And.intro (And.intro @do_zero @do_fil) (And.intro @do_op @do_opg)) (And.intro (And.intro @do_call @do_callw) (And.intro @cwY_q @filY_q))) (And.intro (And.intro @fi_alloc @fi_box) @fi_bsl))
end Go.Tm
namespace Go.Tm
theorem vs_swap{G G':Gh}{w w':World}(hle:SubF G w G' w') {d d':D}(hd:∀u,VRel G w d u→VRel G' w' d' u) {post:List D}(hpost:idfrees post=true) :
 ∀{pre:List D} {us:List Value},idfrees pre=true→VsRel G w (pre++d::post) us→VsRel G' w' (pre++d'::post) us
 |[],us,_,h=>by
  simp only[Jo,VsRel]at h⊢;obtain⟨u,r,rfl,h1,h2⟩:=h;exact⟨u,r,rfl,hd u h1,VsRel.free hle hpost h2⟩
 |p::pre,us,hp,h=>by
  simp only[idfrees,xn]at hp;simp only[xo,VsRel]at h⊢;obtain⟨u,r,rfl,h1,h2⟩:=h;exact⟨u,r,rfl,VRel.free hle hp.1 h1,vs_swap hle hd hpost hp.2 h2⟩
section
variable {P:Program}
end
end Go.Tm
namespace Go.Tm
variable {P:Program}
def CallZ(P:Program) (f:FuncId) (ds:List D) (m:List Ent) (R:D→List Ent→Prop):Prop:=
 Enters P f∧∀(G:Gh) (w:World) (vs:List Value),VsRel G w ds vs→Inv G w m→
  Calls P f vs.toArray w fun e w'=>∃v d m' G',e=.returned v∧R d m'∧VRel G' w' d v∧Inv G' w' m'∧StepN 0 G w m G' w' m'
theorem callZ_of{f:FuncId}{F:Fun}{ds:List D}{m:List Ent}{R:D→List Ent→Prop}(hF:compF P f=some F) (hname:((P.funcs[f]?).map fun fn=>fn.name == "runtime.NumGoroutine")=some false)
 (h:T P 0 F.code (EndT F.results R) ⟨ds++yn (F.ntmps-ds.length) .dead,m⟩):CallZ P f ds m R:=by
 unfold compF at hF;split at hF
 ·rename_i fn hfn;split at hF
  ·rename_i b r hb hres;simp only[sn]at hF;obtain⟨c,hc,rfl⟩:=hF;refine⟨⟨fn,hfn,by simpa [hfn] using hname,by rw[hb];rfl⟩,fun G w vs hv hi=>?_⟩;refine calls_of_wp hfn hb ?_;have hlen:=hv.length;have hr:Rel G w { tmps:=vs.toArray++Array.replicate (fn.ntmps-vs.toArray.size) undef,defers:=[] } ⟨ds++yn (fn.ntmps-ds.length) .dead,m⟩:=by
    refine⟨?_,hi,rfl⟩;simp only[Array.toList_append,Array.toList_replicate,List.size_toArray,hlen];exact hv.append (vs_dead _ _ _)
   refine Code.wp_mono ?_ (h b hc G w _ (Jp _) hr);rintro e a' w' ⟨s',G',hK,hr',hs0⟩;have fin:(∃ds,ressD s' r=some ds∧R (tupD ds) s'.m)→a'.defers=[]∧∃v,(results fn a'.tmps).run P w'=.ok v w'∧∃v_1 d m' G',Ending.returned v=.returned v_1∧R d m'∧VRel G' w' d v_1∧Inv G' w' m'∧StepN 0 G w m G' w' m':=by
    rintro⟨es,hes,hR⟩;obtain⟨v,hrun,hv'⟩:=run_results (F:=⟨fn.ntmps,r,c⟩) hres hr' hes;exact⟨hr'.defers,v,hrun,v,_,_,G',rfl,hR,hv',hr'.inv,hs0⟩
   cases e with
   |normal=>exact fin hK
   |ret=>exact fin hK
   |_=>exact hK.elim
  ·cases hF
 ·cases hF
theorem frameC{k id S ver:Nat}{l:List D}{m:List Ent}{pre post:List D}{o:D}
 (hid:m[id]?=some (.live S ver l)) (hpre:idfrees pre=true) (hpost:idfrees post=true) (hl:idfrees l=true)
 (h:CallZ P k (pre++.own 0 0::post) [.live S 0 l] fun d m'=>Sbs [] m' [d] [o]) :
 CallT P k (pre++.own id ver::post) m fun d m'=>d=o∧m'=m.set id .gone:=by
 refine⟨h.1,fun G w vs hv hi=>?_⟩;have hlen:id<m.length:=(Mn.1 hid).1;obtain⟨eV,eS,eN,eC,eB⟩:=hi.ent id _ hid;have hc0:SubF G w ⟨G.F,1,fun _=>G.B id,fun _=>0,fun _=>G.S id,fun _=>G.N id,fun _=>G.C id⟩ w:=⟨fun _ h=>h,fun _ _=>rfl⟩;have hv':=vs_swap hc0 (d:=.own id ver) (d':=.own 0 0) (fun u hu=>by
  simp only[VRel]at hu⊢;obtain⟨a,n,c,rfl,h1,h2,h3⟩:=hu;exact⟨a,n,c,rfl,by simp,En _,fun _=>h3 eV⟩) hpost hpre hv
 have hic:Inv ⟨G.F,1,fun _=>G.B id,fun _=>0,fun _=>G.S id,fun _=>G.N id,fun _=>G.C id⟩ w [.live S 0 l]:=by
  refine⟨rfl,hi.F,?_,?_,hi.gl.bare fun _ h=>h⟩
  ·intro i e he
   cases i with
   |zero=>
    simp at he;subst he;refine⟨rfl,eS,eN,eC,?_⟩;rcases eB with h|⟨b,cs,T,h1,h2,h3,h4,h5⟩
    ·exact .inl h
    ·exact .inr ⟨b,cs,T,h1,h2,h3,h4,RowAt.free hc0 rfl hl h5⟩
   |succ i=>simp at he
  ·intro i j e e' hi' hj' _ _ b _ _
   cases i with
   |zero=>cases j with
    |zero=>rfl
    |succ j=>simp at hj'
   |succ i=>simp at hi'
 have own0:∀b,Owned ⟨G.F,1,fun _=>G.B id,fun _=>0,fun _=>G.S id,fun _=>G.N id,fun _=>G.C id⟩ [.live S 0 l] b→G.B id=some b:=by
  rintro b ⟨i,e,he,-,hB⟩;exact hB
 refine(h.2 _ w vs hv' hic).mono ?_;rintro e w' ⟨v,d,m',G',rfl,hR,hvd,hi',hs'⟩;have live1:(Ent.live S ver l).isLive=true:=rfl;have hT:=(hR.rel hi' (fun i j v h=>by simp at h)).1 [v] (by simp only[VsRel];exact⟨v,[],rfl,hvd,rfl⟩);simp only[VsRel]at hT;obtain⟨u,us,he,h1,_⟩:=hT;injection he with he _;subst he;have hfree:=sbs_free hR;simp only[idfrees,Nn]at hfree;have hle:Le G w ⟨fun b=>G'.F b∨Owned G' m' b,G.n,G.B,G.V,G.S,G.N,G.C⟩ w':=by
  refine⟨fun b hb=>.inl (hs'.F b hb),fun b hb=>hs'.heap b hb,En _,fun i _=>.inl (by simp)⟩
 have olt:∀i x,m[i]?=some x→x.isLive=true→∀b,G.B i=some b→b<w.heap.size∧¬G.F b:=fun i x hx hl b hb=>(hi.ent i x hx).lt hl hb;have notO:∀i x,m[i]?=some x→x.isLive=true→i≠id→∀b,G.B i=some b→G.B id≠some b:=fun i x hx hlx hne b hb hB=>hne (hi.apart i id x _ hx hid hlx live1 b hb hB);have hget:∀i x,(m.set id .gone)[i]?=some x→(m[i]?=some x∧i≠id)∨(i=id∧x=.gone):=by
  intro i x hx;by_cases h:i=id
  ·subst h;rw[List.getElem?_set_self hlen]at hx;exact .inr ⟨rfl,by injection hx with hx;exact hx.symm⟩
  ·rw[List.getElem?_set_ne (by omega)]at hx;exact .inl ⟨hx,h⟩
 refine⟨v,o,_,⟨fun b=>G'.F b∨Owned G' m' b,G.n,G.B,G.V,G.S,G.N,G.C⟩,rfl,⟨rfl,rfl⟩,?_,⟨by simp[hi.n],?_,?_,?_,hi'.gl.bare fun _ h=>.inl h⟩,⟨hle,hs'.os,hs'.tape,hs'.output,hs'.size,?_,?_,?_⟩⟩
 ·refine VRel.free (G:=tellG G' m' []) ⟨?_,fun _ _=>rfl⟩ hfree h1;rintro b (hb|⟨hb,_⟩)
  ·exact .inl hb
  ·exact .inr hb
 ·rintro b (hb|hb)
  ·exact hi'.F b hb
  ·exact(Owned.lt hi' hb).1
 ·intro i x hx;rcases hget i x hx with⟨h1,h2⟩|⟨rfl,rfl⟩
  ·by_cases hlx:x.isLive=true
   ·refine(hi.ent i x h1).mono hle (by simp) (fun b hb=>?_) (fun b hb _ hF=>?_)
    ·exact hs'.keep b (olt i x h1 hlx b hb).1 fun ho=>notO i x h1 hlx h2 b hb (own0 b ho)
    ·rcases hF with hF|hF
     ·rcases hs'.newF b (olt i x h1 hlx b hb).1 hF with h|h
      ·exact h
      ·exact(notO i x h1 hlx h2 b hb (own0 b h)).elim
     ·exact(notO i x h1 hlx h2 b hb (own0 b (hs'.newB b (olt i x h1 hlx b hb).1 hF))).elim
   ·cases x with
    |gone=>trivial
    |_=>simp[Ent.isLive]at hlx
  ·trivial
 ·intro i j x y hx hy lx ly b hb hb';rcases hget i x hx with⟨h1,h2⟩|⟨rfl,rfl⟩
  ·rcases hget j y hy with⟨h3,h4⟩|⟨rfl,rfl⟩
   ·exact hi.apart i j x y h1 h3 lx ly b hb hb'
   ·cases ly
  ·cases lx
 ·intro b hb hno;exact hs'.keep b hb fun ho=>hno ⟨id,_,hid,live1,own0 b ho⟩
 ·intro b hb hF;rcases hF with hF|hF
  ·rcases hs'.newF b hb hF with h|h
   ·exact .inl h
   ·exact .inr ⟨id,_,hid,live1,own0 b h⟩
  ·exact .inr ⟨id,_,hid,live1,own0 b (hs'.newB b hb hF)⟩
 ·rintro b hb ⟨i,x,hx,lx,hB⟩;rcases hget i x hx with⟨h1,h2⟩|⟨rfl,rfl⟩
  ·exact⟨i,x,h1,lx,hB⟩
  ·cases lx
def DenC(P:Program) (k:Nat) (pre post:List D) (S:Nat) (l:List D) (o:D):Prop:=∀m id ver,m[id]?=some (.live S ver l)→CallT P k (pre++.own id ver::post) m fun d m'=>d=o∧m'=m.set id .gone
def DenW(P:Program) (k:Nat) (pre post:List D) (S:Nat) (l l':List D) (o:D):Prop:=∀m id ver,m[id]?=some (.live S ver l)→CallT P k (pre++.own id ver::post) m fun d m'=>d=o∧m'=m.set id (.live S ver l')
theorem DenC.at{k:Nat}{F:Fun}{pre post:List D}{S:Nat}{l:List D}{o:D}(n:Nat) (hF:compF P k=some F) (hname:((P.funcs[k]?).map fun fn=>fn.name == "runtime.NumGoroutine")=some false)
 (hpre:idfrees pre=true) (hpost:idfrees post=true) (hl:idfrees l=true) (hn:F.ntmps=(pre++.own 0 0::post).length+n)
 (h:T P 0 F.code (EndF F.results o) ⟨(pre++.own 0 0::post)++Tm.ds n [],[.live S 0 l]⟩):DenC P k pre post S l o:=by
 intro m id ver hm;refine frameC hm hpre hpost hl (callZ_of hF hname ?_);rw[hn,Vp,←ds_rep];refine T.clo (h.mono ?_);have key:∀(e:Exit) (s:St),(∀s',EndT F.results (fun d m'=>Sbs [] m' [d] [o]) e s' = ∃ds,ressD s' F.results=some ds∧Sbs [] s'.m [tupD ds] [o])→(∃S,Tells 0 s S∧∃ds,ressD S F.results=some ds∧Sbs [] S.m [tupD ds] [o])→Clo 0 (EndT F.results fun d m'=>Sbs [] m' [d] [o]) e s:=by
  intro e s he ⟨S,h1,h2⟩ G w a hN hr;obtain⟨G',h3,h4⟩:=tells_rel h1 hN hr;exact⟨S,G',by rw[he];exact h2,h3,h4⟩
 intro e s hs
 cases e with
 |normal=>exact key _ s (fun _=>rfl) hs
 |ret=>exact key _ s (fun _=>rfl) hs
 |_=>exact(hs:False).elim
theorem callX_C{k id S ver:Nat}{pre post l ds:List D}{o:D}{m:List Ent}{f:D→List Ent→Prop}(h:DenC P k pre post S l o) (hds:ds=pre++.own id ver::post) (hm:m[id]?=some (.live S ver l)) (hf:f o (m.set id .gone)):callX P k ds m f:=by
 subst hds;exact callX_eq (h m id ver hm) hf
theorem callX_W{k id S ver:Nat}{pre post l l' ds:List D}{o:D}{m:List Ent}{f:D→List Ent→Prop}(h:DenW P k pre post S l l' o) (hds:ds=pre++.own id ver::post) (hm:m[id]?=some (.live S ver l)) (hf:f o (m.set id (.live S ver l'))):callX P k ds m f:=by
 subst hds;exact callX_eq (h m id ver hm) hf
theorem den_calls{k:Nat}{vs:List Value}{v:Value}(hE:Enters P k) (h:∀w,Calls P k vs.toArray w fun e w'=>e=.returned v∧w'=w):Den P k (vs.map .v) (.v v):=by
 refine fun m=>⟨hE,fun G w us hv hi=>?_⟩;have:∀(vs us:List Value),VsRel G w (vs.map .v) us→us=vs:=by
  intro vs
  induction vs with
  |nil=>intro us h;simpa [VsRel] using h
  |cons x l ih=>
   intro us h;simp only[Vn,VsRel,VRel]at h;obtain⟨u,r,rfl,rfl,h2⟩:=h;rw[ih r h2]
 obtain rfl:=this vs us hv;refine(h w).mono ?_;rintro e w' ⟨rfl,rfl⟩;exact⟨_,_,_,G,rfl,⟨rfl,rfl⟩,by simp[VRel],hi,Step.refl _ _ _⟩
end Go.Tm
namespace Go.Tm
open Go.Sort
variable {P:Program}
def eI(n:Int):D:=.v (.int .i64 n)
theorem row_cell{G:Gh}{w:World}{b:Nat}:∀{zs:List Int}{off:Nat},RowAt G w b 1 (zs.map eI) off→∀j (h:j<zs.length),w.cell? ⟨b,off+j,none⟩=some (.int .i64 zs[j])
 |[],_,_,j,h=>absurd h (Rr j)
 |z::zs,off,hr,j,h=>by
  simp only[Vn,RowAt]at hr;obtain⟨⟨u,h1,h2,h3⟩,h4⟩:=hr;simp only[eI,VRel]at h1;subst h1
  cases j with
  |zero=>exact(h3 0 (.int .i64 z) rfl).2
  |succ j=>
   have:=row_cell h4 j (by simpa using h);rw[show off+(j+1)=off+1+j by omega];simpa using this
theorem row_of{G:Gh}{w:World}{b:Nat}:∀{zs:List Int}{off:Nat},(∀j (h:j<zs.length),w.cell? ⟨b,off+j,none⟩=some (.int .i64 zs[j]))→RowAt G w b 1 (zs.map eI) off
 |[],_,_=>by simp[RowAt]
 |z::zs,off,hr=>by
  simp only[Vn,RowAt];refine⟨⟨.int .i64 z,by simp[eI,VRel],rfl,?_⟩,row_of fun j h=>?_⟩
  ·intro j c hc
   cases j with
   |zero=>
    have:c=.int .i64 z:=by simpa [Value.cells] using hc.symm
    subst this;exact⟨rfl,hr 0 (Ks _)⟩
   |succ j=>simp[Value.cells]at hc
  ·have:=hr (j+1) (by simpa using h);rw[show off+1+j=off+(j+1) by omega];simpa using this
theorem holds_of{w:World}{b off:Nat}{cs:Array Value}{T:TypeId}{zs:List Int}(hb:w.heap[b]?=some (.cells cs T (0,0))) (h:∀j (h:j<zs.length),w.cell? ⟨b,off+j,none⟩=some (.int .i64 zs[j])):Holds (Value.int .i64) w b off zs.toArray:=by
 intro j hj;have hj':j<zs.length:=by simpa using hj
 refine⟨?_,?_⟩
 ·rw[h j hj'];simp[getElem!_pos,hj']
 ·simp[World.frozen?,hb]
theorem put_row{w:World}{b off:Nat}{cs:Array Value}{T:TypeId}{ys:List Int}{n:Nat}{os:Array Obj}(hb:w.heap[b]?=some (.cells cs T (0,0))) (hlen:off+ys.length≤cs.size) {w':World}(hw:w'=grow (putRow (Value.int .i64) (Sort.ahead w n) b off ys.toArray) os) :
 w'.os=w.os∧w'.tape=w.tape∧w'.output=w.output∧w.heap.size≤w'.heap.size∧(∀k,k<w.heap.size→k≠b→w'.heap[k]?=w.heap[k]?)∧
  w'.heap[b]?=some (.cells (putCells (Value.int .i64) off ys.toArray cs) T (0,0))∧∀j (h:j<ys.length),w'.cell? ⟨b,off+j,none⟩=some (.int .i64 ys[j]):=by
 subst hw;have hbs:b<w.heap.size:=by
  rcases vo b w.heap.size with h|h
  ·exact h
  ·rw[Fq h]at hb;cases hb
 have hheap:(grow (putRow (Value.int .i64) (Sort.ahead w n) b off ys.toArray) os).heap=w.heap.modify b (onCells (putCells (Value.int .i64) off ys.toArray))++os:=rfl;have hbb:(grow (putRow (Value.int .i64) (Sort.ahead w n) b off ys.toArray) os).heap[b]?=some (.cells (putCells (Value.int .i64) off ys.toArray cs) T (0,0)):=by
  rw[hheap,Hp (by simpa using hbs),Mq,if_pos rfl,hb];rfl
 refine⟨rfl,rfl,rfl,?_,?_,hbb,?_⟩
 ·rw[hheap];simp
 ·intro k hk hne;rw[hheap,Hp (by simpa using hk),Mq,if_neg (fun h=>hne h.symm)]
 ·intro j hj;simp only[World.cell?,hbb,Option.isSome_none,tn,if_false];simp only[putCells,Array.getElem?_mapIdx];rw[Yn (show off+j<cs.size by omega),lp,if_pos ⟨by omega,by simpa using hj⟩];simp[getElem!_pos,hj]
theorem callT_rowW{k:FuncId}(hE:Enters P k) {id ver:Nat}{m:List Ent}{zs ys:List Int}(hm:m[id]?=some (.live 1 ver (zs.map eI))) (hlen:ys.length=zs.length)
 (h1:∀w b off cap,Holds (Value.int .i64) w b off zs.toArray→b<w.heap.size→Calls P k #[.slice (some ⟨b,off,none⟩) zs.length cap] w fun e w'=>e=.returned (.tuple #[])∧∃n os,w'=grow (putRow (Value.int .i64) (Sort.ahead w n) b off ys.toArray) os)
 (h0:∀w cap,Calls P k #[.slice none 0 cap] w fun e w'=>e=.returned (.tuple #[])∧w'=w) :
 CallT P k [.own id ver] m fun d m'=>d=.tup []∧m'=m.set id (.live 1 ver (ys.map eI)):=by
 refine⟨hE,fun G w vs hv hi=>?_⟩;obtain⟨eV,eS,eN,eC,eB⟩:=hi.ent id _ hm;simp only[VsRel,VRel]at hv;obtain⟨u,r,rfl,⟨a,n,c,rfl,g1,g2,g3⟩,rfl⟩:=hv;obtain⟨rfl,rfl,rfl⟩:=g3 eV;simp only[Oo]at eN eC;rcases eB with⟨hB,hC⟩|⟨b,cs,T,hB,hF,hb,hc,hr⟩
 ·have h00:=congrArg br hC;dsimp only at h00;have hz:zs=[]:=Jn (by omega);have hy:ys=[]:=Jn (by rw[hlen,hz];rfl);subst hz hy;rw[hB,eN];refine(h0 w _).mono ?_;rintro e w' ⟨rfl,rfl⟩;refine⟨_,_,_,G,rfl,⟨rfl,rfl⟩,by simp[VRel,VsRel],?_,?_⟩
  ·have:m.set id (.live 1 ver (([]:List Int).map eI))=m:=by
    apply rq;intro i;rw[rp];split
    ·rename_i h;subst h;split
     ·exact hm.symm
     ·rename_i h;exact absurd (Mn.1 hm).1 h
    ·rfl
   rw[this];exact hi
  ·have:m.set id (.live 1 ver (([]:List Int).map eI))=m:=by
    apply rq;intro i;rw[rp];split
    ·rename_i h;subst h;split
     ·exact hm.symm
     ·rename_i h;exact absurd (Mn.1 hm).1 h
    ·rfl
   rw[this];exact Step.refl _ _ _
 ·rw[hB,eN];have hbs:b<w.heap.size:=by
   rcases vo b w.heap.size with h|h
   ·exact h
   ·rw[Fq h]at hb;cases hb
  refine(h1 w b _ _ (holds_of hb (row_cell hr)) hbs).mono ?_;rintro e w' ⟨rfl,n,os,hw⟩;obtain⟨p1,p2,p3,p4,p5,p6,p7⟩:=put_row hb (by omega) hw;have hg:=change_good (w':=w') hi hm rfl (e':=.live 1 ver (ys.map eI)) rfl (G.B id) ver (G.N id) (G.C id) (.inr ⟨eV.symm,rfl,rfl,rfl⟩) p1 p2 p3 p4
   (fun k hk hne=>p5 k hk (fun h=>hne (by rw[hB,h]))) (fun k hk=>.inl hk) (by
    refine⟨by simp[Gh.upd],by simp[Gh.upd,eS],by simp[Gh.upd,eN,hlen],by simp[Gh.upd];omega,.inr ⟨b,_,T,by simp[Gh.upd,hB],hF,p6,?_,row_of (by simpa [Gh.upd] using p7)⟩⟩;simpa [Gh.upd,putCells] using hc)
  exact⟨_,_,_,_,rfl,⟨rfl,rfl⟩,by simp[VRel,VsRel],hg.1,hg.2⟩
theorem callT_rowA{k:FuncId}(hE:Enters P k) {id ver:Nat}{m:List Ent}{zs ys:List Int}(hm:m[id]?=some (.live 1 ver (zs.map eI))) (hlen:ys.length≤zs.length)
 (h1:∀w b off cap,Holds (Value.int .i64) w b off zs.toArray→zs.length≤cap→Calls P k #[.slice (some ⟨b,off,none⟩) zs.length cap] w fun e w'=>e=.returned (.slice (some ⟨b,off,none⟩) ys.length cap)∧∃n xs,xs.length+ys.length=zs.length∧w'=grow (putRow (Value.int .i64) (Sort.ahead w n) b off (ys++xs).toArray) #[])
 (h0:∀w cap,Calls P k #[.slice none 0 cap] w fun e w'=>e=.returned (.slice none 0 cap)∧w'=w) :
 CallT P k [.own id ver] m fun d m'=>d=.own id (ver+1)∧m'=m.set id (.live 1 (ver+1) (ys.map eI)):=by
 refine⟨hE,fun G w vs hv hi=>?_⟩;obtain⟨eV,eS,eN,eC,eB⟩:=hi.ent id _ hm;simp only[VsRel,VRel]at hv;obtain⟨u,r,rfl,⟨a,n,c,rfl,g1,g2,g3⟩,rfl⟩:=hv;obtain⟨rfl,rfl,rfl⟩:=g3 eV;simp only[Oo]at eN eC;rcases eB with⟨hB,hC⟩|⟨b,cs,T,hB,hF,hb,hc,hr⟩
 ·have h00:=congrArg br hC;dsimp only at h00;have hz:zs=[]:=Jn (by omega);have hy:ys=[]:=Jn (by rw[hz]at hlen;simpa using hlen);subst hz hy;rw[hB,eN];refine(h0 w _).mono ?_;rintro e w' ⟨rfl,rfl⟩;have hg:=change_good (w':=w') hi hm rfl (e':=.live 1 (ver+1) (([]:List Int).map eI)) rfl none (ver+1) 0 (G.C id) (.inl (by omega)) rfl rfl rfl (En _)
   (fun k hk hne=>rfl) (fun k hk=>by cases hk) (by
    refine⟨by simp[Gh.upd],by simp[Gh.upd,eS],by simp[Gh.upd],by simp[Gh.upd],.inl ⟨by simp[Gh.upd],by simp[Gh.upd,hC]⟩⟩)
  refine⟨_,_,_,_,rfl,⟨rfl,rfl⟩,?_,hg.1,hg.2⟩;simp only[VRel];exact⟨_,_,_,rfl,g1,by simp[Gh.upd],fun _=>by simp[Gh.upd]⟩
 ·rw[hB,eN];refine(h1 w b _ _ (holds_of hb (row_cell hr)) eC).mono ?_;rintro e w' ⟨rfl,n,xs,hx,hw⟩;obtain⟨p1,p2,p3,p4,p5,p6,p7⟩:=put_row hb (by simp;omega) hw;have hg:=change_good (w':=w') hi hm rfl (e':=.live 1 (ver+1) (ys.map eI)) rfl (G.B id) (ver+1) ys.length (G.C id) (.inl (by omega)) p1 p2 p3 p4
   (fun k hk hne=>p5 k hk (fun h=>hne (by rw[hB,h]))) (fun k hk=>.inl hk) (by
    refine⟨by simp[Gh.upd],by simp[Gh.upd,eS],by simp[Gh.upd],by simp[Gh.upd];omega,.inr ⟨b,_,T,by simp[Gh.upd,hB],hF,p6,?_,row_of fun j h=>?_⟩⟩
    ·simpa [Gh.upd,putCells] using hc
    ·have:=p7 j (by simp;omega);simp only[Gh.upd,if_pos];rw[this,List.getElem_append_left h])
  refine⟨_,_,_,_,rfl,⟨rfl,rfl⟩,?_,hg.1,hg.2⟩;simp only[VRel];exact⟨_,_,_,rfl,g1,by simp[Gh.upd],fun _=>by simp[Gh.upd,hB]⟩
theorem denW_row{k:FuncId}(hE:Enters P k) {zs ys:List Int}(hlen:ys.length=zs.length)
 (h1:∀w b off cap,Holds (Value.int .i64) w b off zs.toArray→b<w.heap.size→Calls P k #[.slice (some ⟨b,off,none⟩) zs.length cap] w fun e w'=>e=.returned (.tuple #[])∧∃n os,w'=grow (putRow (Value.int .i64) (Sort.ahead w n) b off ys.toArray) os)
 (h0:∀w cap,Calls P k #[.slice none 0 cap] w fun e w'=>e=.returned (.tuple #[])∧w'=w):DenW P k [] [] 1 (zs.map eI) (ys.map eI) (.tup []):=
 fun m id ver hm=>callT_rowW hE hm hlen h1 h0
end Go.Tm
namespace Go.Tm
variable {P:Program} {N:Nat}
end Go.Tm
namespace Go.Tm
end Go.Tm
namespace Go.Tm
def mc(f:D→D→Bool):List D→List D→Bool
 |[],[]=>true
 |d::l,e::r=>f d e&&mc f l r
 |_,_=>false
def Lb(f:D→D→Bool) (a b:List D):Bool:=mc f a b
def bc:Value→Bool
 |.slice none 0 0=>true
 |_=>false
def xc(o:Option (Option Nat×Nat×Nat)) (j v u:Nat):Bool:=
 match o with
 |some (some j',v',u')=>Wn j' j&&(Wn v' v&&Wn u' u)
 |_=>false
def fb(ρ:Org) (m:List Ent):Nat→D→D→Bool
 |0,_,_=>false
 |n+1,d,e=>
  match e with
  |.dead=>true
  |.v y=>match d with|.v x=>eqV x y|_=>false
  |.agg b=>match d with|.agg a=>Lb (fb ρ m n) a b|_=>false
  |.tup b=>match d with|.tup a=>Lb (fb ρ m n) a b|_=>false
  |.sl S b=>
   match d with
   |.v x=>bc x&&b.isEmpty
   |.sl S' a=>Wn S' S&&Lb (fb ρ m n) a b
   |.own j v=>
    match m[j]? with
    |some (.live S' v' a)=>Wn S' S&&(Wn v' v&&(outB ρ j&&Lb (fb ρ m n) a b))
    |_=>false
   |.view j v lo k=>
    match m[j]? with
    |some (.live S' v' a)=>Wn S' S&&(Wn v' v&&(outB ρ j&&(Nat.ble (lo+k) a.length&&Lb (fb ρ m n) ((a.drop lo).take k) b)))
    |_=>false
   |_=>false
  |.own i u=>
   match d with
   |.own j v=>xc ρ[i]? j v u
   |_=>false
  |.ref i u x s=>match d with|.ref j v x' s'=>xc ρ[i]? j v u&&(Wn x' x&&Wn s' s)|_=>false
  |.pt e'=>
   match d with
   |.pt d'=>fb ρ m n d' e'
   |.ref j v x s=>
    match m[j]? with
    |some (.live _ v' a)=>Wn v' v&&(Wn s 0&&(outB ρ j&&(match a[x]? with|some d'=>fb ρ m n d' e'|none=>false)))
    |_=>false
   |_=>false
  |.fn f b d'=>match d with|.fn f' a c=>Wn f' f&&(Lb (fb ρ m n) a b&&Lb (fb ρ m n) c d')|_=>false
  |_=>false
theorem Kb{f:D→D→Bool}{g:D→D→Prop}(h:∀d e,f d e=true→g d e):∀{a b:List D},mc f a b=true→SqL g a b
 |[],[],_=>trivial
 |d::l,e::r,hh=>by
  simp only[mc,xn]at hh;exact⟨h _ _ hh.1,Kb h hh.2⟩
 |[],_::_,hh=>by simp[mc]at hh
 |_::_,[],hh=>by simp[mc]at hh
theorem Qb{o:Option (Option Nat×Nat×Nat)}{j v u:Nat}(h:xc o j v u=true):o=some (some j,v,u):=by
 unfold xc at h;split at h
 ·simp only[xn,xq]at h;obtain⟨rfl,rfl,rfl⟩:=h;rfl
 ·cases h
theorem Dc{x:Value}(h:bc x=true):x=.slice none 0 0:=by
 unfold bc at h;split at h
 ·rfl
 ·cases h
theorem nd{ρ:Org}{m:List Ent}:∀(n:Nat) (d e:D),fb ρ m n d e=true→Sq ρ m n d e
 |0,d,e,h=>by simp[fb]at h
 |n+1,d,e,h=>by
  have ih:=nd (ρ:=ρ) (m:=m) n;have ihL:∀{a b:List D},Lb (fb ρ m n) a b=true→SqS (Sq ρ m n) a b:=fun h=>.inr (Kb ih h)
  cases e with
  |dead=>trivial
  |v y=>cases d<;>simp only[fb,tn]at h;exact eqV_eq h
  |agg b=>cases d<;>simp only[fb,tn]at h;exact ihL h
  |tup b=>cases d<;>simp only[fb,tn]at h;exact ihL h
  |sl S b=>
   cases d with
   |v x=>
    simp only[fb,xn]at h;exact⟨Dc h.1,by cases b<;>simp_all⟩
   |sl S' a=>simp only[fb,xn,xq]at h;exact⟨h.1,ihL h.2⟩
   |own j v=>
    simp only[fb]at h;simp only[Sq];split at h
    ·rename_i S' v' a hm;simp only[xn,xq]at h;(try simp only[hm]);exact⟨h.1,h.2.1,h.2.2.1,ihL h.2.2.2⟩
    ·cases h
   |view j v lo k=>
    simp only[fb]at h;simp only[Sq];split at h
    ·rename_i S' v' a hm;simp only[xn,xq,Nat.ble_eq]at h;(try simp only[hm]);exact⟨h.1,h.2.1,h.2.2.1,h.2.2.2.1,ihL h.2.2.2.2⟩
    ·cases h
   |_=>simp only[fb,tn]at h
  |own i u=>cases d<;>simp only[fb,tn]at h;exact Qb h
  |ref i u x s=>cases d<;>simp only[fb,tn,xn,xq]at h;exact⟨Qb h.1,h.2.1,h.2.2⟩
  |pt e'=>
   cases d with
   |pt d'=>simp only[fb]at h;exact .inr (ih _ _ h)
   |ref j v x s=>
    simp only[fb]at h;simp only[Sq];split at h
    ·rename_i S' v' a hm;simp only[xn,xq]at h;obtain⟨h1,h2,h3,h4⟩:=h;(try simp only[hm]);refine⟨h1,h2,h3,?_⟩;split at h4
     ·rename_i d' hd;(try simp only[hd]);exact .inr (ih _ _ h4)
     ·cases h4
    ·cases h
   |_=>simp only[fb,tn]at h
  |fn f b d'=>cases d<;>simp only[fb,tn,xn,xq]at h;exact⟨h.1,ihL h.2.1,ihL h.2.2⟩
  |_=>cases d<;>simp only[fb,tn]at h
def Lc(ρ:Org) (m:List Ent):Org→List Ent→Bool
 |[],[]=>true
 |(some j,v,u)::os,.live S u' b::es=>Wn u u'&&((match m[j]? with|some (.live S' v' a)=>Wn S' S&&(Wn v' v&&Lb (fb ρ m 9) a b)|_=>false)&&Lc ρ m os es)
 |_,_=>false
theorem kf{ρ:Org}{m:List Ent}:∀{os:Org}{es:List Ent},Lc ρ m os es=true→EtQ ρ m os es
 |[],[],_=>trivial
 |(some j,v,u)::os,.live S u' b::es,h=>by
  simp only[Lc,xn,xq]at h;obtain⟨h1,h2,h3⟩:=h;simp only[EtQ];refine⟨h1,?_,kf h3⟩;split at h2
  ·rename_i S' v' a hm;simp only[xn,xq]at h2;(try simp only[hm]);exact⟨h2.1,h2.2.1,.inr (Kb (nd 9) h2.2.2)⟩
  ·cases h2
 |(none,S,u)::os,.live S' u' b::es,h=>by simp[Lc]at h
 |[],_::_,h=>by simp[Lc]at h
 |_::_,[],h=>by simp[Lc]at h
 |(some j,v,u)::os,.mp _::es,h=>by simp[Lc]at h
 |(some j,v,u)::os,.gone::es,h=>by simp[Lc]at h
 |(none,S,u)::os,.mp _::es,h=>by simp[Lc]at h
 |(none,S,u)::os,.gone::es,h=>by simp[Lc]at h
def Ib:List Nat→Bool
 |[]=>true
 |x::l=>!l.elem x&&Ib l
theorem Db:∀{l:List Nat},Ib l=true→l.Nodup
 |[],_=>List.nodup_nil
 |x::l,h=>by
  simp only[Ib,xn,Bool.not_eq_true']at h;refine ur.2 ⟨fun hx=>?_,Db h.2⟩;have:=List.elem_eq_true_of_mem hx;rw[h.1]at this;cases this
def od(ρ:Org) (s S:St):Bool:=Ib (ρ.filterMap (·.1))&&(mc (fb ρ s.m 9) s.t S.t&&Lc ρ s.m ρ S.m)
theorem pd{ρ:Org}{s S:St}(h:od ρ s S=true):Tells 0 s S:=by
 simp only[od,xn]at h;exact Tells.q ρ rfl (Db h.1) ⟨Kb (nd 9) h.2.1,kf h.2.2⟩
end Go.Tm
namespace Go.Tm
variable {P:Program}
def refsOf(m:List Ent):List D→List Nat→List Nat
 |[],acc=>acc
 |.ref j v _ _::l,acc=>refsOf m l (bif acc.elem j then acc else match m[j]? with|some (.live _ v' _)=>bif Wn v' v then acc++[j]else acc|_=>acc)
 |_::l,acc=>refsOf m l acc
def posOf(j:Nat):List Nat→Nat→Option Nat
 |[],_=>none
 |x::l,i=>bif Wn x j then some i else posOf j l (i+1)
def Mc(kept:List Nat) (m:List Ent):Nat→D→D
 |0,_=>.dead
 |n+1,d=>
  match d with
  |.v x=>.v x
  |.agg l=>.agg (l.map (Mc kept m n))
  |.tup l=>.tup (l.map (Mc kept m n))
  |.sl S l=>.sl S (l.map (Mc kept m n))
  |.pt e=>.pt (Mc kept m n e)
  |.fn f a c=>.fn f (a.map (Mc kept m n)) (c.map (Mc kept m n))
  |.own j v=>
   bif kept.elem j then .dead else
   match m[j]? with
   |some (.live S v' a)=>bif Wn v' v then .sl S (a.map (Mc kept m n))else .dead
   |_=>.dead
  |.view j v lo k=>
   bif kept.elem j then .dead else
   match m[j]? with
   |some (.live S v' a)=>bif Wn v' v then .sl S (((a.drop lo).take k).map (Mc kept m n))else .dead
   |_=>.dead
  |.ref j v x s=>
   match m[j]? with
   |some (.live _ v' a)=>
    bif Wn v' v then
     match posOf j kept 0 with
     |some i=>.ref i 0 x s
     |none=>bif Wn s 0 then(match a[x]? with|some e=>.pt (Mc kept m n e)|none=>.dead)else .dead
    else .dead
   |_=>.dead
  |_=>.dead
def Mk(m:List Ent) (kept:List Nat):Org:=kept.map fun(j:Nat)=>match (m[j]?:Option Ent)with|some (.live _ v _)=>(some j,v,0)|_=>(some j,0,0)
def Af(m:List Ent) (kept:List Nat):List Ent:=kept.map fun(j:Nat)=>match (m[j]?:Option Ent)with|some (.live S _ a)=>.live S 0 (a.map (Mc kept m 8))|_=>.gone
def Sk(s:St):Option St:=
 let kept:=refsOf s.m s.t []
 let S:St:=⟨s.t.map (Mc kept s.m 8),Af s.m kept⟩
 bif od (Mk s.m kept) s S then some S else none
theorem Bf{s S:St}(h:Sk s=some S):Tells 0 s S:=by
 unfold Sk at h;simp only[cond_eq_ite]at h;split at h
 ·rename_i hb;injection h with h;subst h;exact pd hb
 ·cases h
noncomputable def ic(FT:Nat→Option (Fun×Nat)) (O:Nat→List D→Option D) (n:Nat) (p:List Nat):C→Nat→St→(Nat→Kt)→Option (Exit×St)
 |.seq a b,i,s,k=>ic FT O n p a i s fun i e s'=>match e with|.normal=>ic FT O n p b i s' k|e=>k i e s'
 |c,i,s,k=>runK FT O n (.c c) s fun e s'=>match e with|.normal=>(bif p.elem i then(match Sk s' with|some S=>k (i+1) .normal S|none=>none)else k (i+1) .normal s')|e=>k (i+1) e s'
def ZQ(e:Exit) (s1:St) (e':Exit) (s'':St):Prop:=e'=e∧(s''=s1∨(e=.normal∧Tells 0 s'' s1))
theorem jc(hmix:P.follows .mixedOrders=true) {FT:Nat→Option (Fun×Nat)}{O:Nat→List D→Option D}(hFT:∀k F md,FT k=some (F,md)→compF P k=some F∧((P.funcs[k]?).map fun fn=>fn.name == "runtime.NumGoroutine")=some false)
 (hO:∀k F md,FT k=some (F,md+3)→∀ds d m,O k ds=some d→CallT P k ds m fun d' m'=>d'=d∧m'=m) (n:Nat) (p:List Nat) :
 ∀(c:C) (i:Nat) (s:St) (k:Nat→Kt) (r:Exit×St),ic FT O n p c i s k=some r→∃j e s1,k j e s1=some r∧T P 0 c (ZQ e s1) s:=by
 have base:∀(c:C) (i:Nat) (s:St) (k:Nat→Kt) (r:Exit×St),(runK FT O n (.c c) s fun e s'=>match e with|.normal=>(bif p.elem i then(match Sk s' with|some S=>k (i+1) .normal S|none=>none)else k (i+1) .normal s')|e=>k (i+1) e s')=some r→∃j e s1,k j e s1=some r∧T P 0 c (ZQ e s1) s:=by
  intro c i s k r h;rw[runK_eq]at h;split at h
  ·rename_i e s1 hr;have hT:=run_sound hmix hFT hO n (.c c) s e s1 hr 0;by_cases he:e=.normal
   ·subst he;simp only at h;cases hp:p.elem i
    ·rw[hp]at h;refine⟨i+1,.normal,_,h,hT.mono ?_⟩;rintro e' s'' ⟨rfl,rfl⟩;exact⟨rfl,.inl rfl⟩
    ·rw[hp]at h;simp only[cond_true]at h;split at h
     ·rename_i S hS;refine⟨i+1,.normal,_,h,hT.mono ?_⟩;rintro e' s'' ⟨rfl,rfl⟩;exact⟨rfl,.inr ⟨rfl,Bf hS⟩⟩
     ·cases h
   ·have h':k (i+1) e s1=some r:=by
     cases e<;>first|exact(he rfl).elim|exact h
    refine⟨i+1,e,s1,h',hT.mono ?_⟩;rintro e' s'' ⟨rfl,rfl⟩;exact⟨rfl,.inl rfl⟩
  ·cases h
 intro c
 induction c with
 |seq a b iha ihb=>
  intro i s k r h;simp only[ic]at h;obtain⟨j,e,s1,h1,h2⟩:=iha _ _ _ _ h;by_cases he:e=.normal
  ·subst he;obtain⟨j2,e2,s2,h3,h4⟩:=ihb _ _ _ _ h1;refine⟨j2,e2,s2,h3,T.seq (h2.mono ?_)⟩;rintro e' s'' ⟨rfl,rfl|⟨-,hq⟩⟩
   ·exact h4
   ·exact T.tells hq h4
  ·have h1':k j e s1=some r:=by
    cases e<;>first|exact(he rfl).elim|exact h1
   refine⟨j,e,s1,h1',T.seq (h2.mono ?_)⟩;rintro e' s'' ⟨rfl,rfl|⟨h,-⟩⟩
   ·cases e'<;>first|exact(he rfl).elim|exact⟨rfl,.inl rfl⟩
   ·exact(he h).elim
 |_=>intro i s k r h;exact base _ i s k r (by simpa only[ic] using h)
def Wm(F:Fun) (r:Option (Exit×St)):Bool:=
 match r with
 |some (.ret,s)=>(match ressD s F.results with|some [.v (.bool true)]=>true|_=>false)
 |_=>false
theorem Kc(hmix:P.follows .mixedOrders=true) {L:List (Nat×Fun)}(hL:TabOk P L) {md:Nat→Nat}{O:Nat→List D→Option D}(hS:SaidOk P md O) (n:Nat) (p:List Nat) {k:Nat}{F:Fun}(hF:compF P k=some F) (hname:((P.funcs[k]?).map fun fn=>fn.name == "runtime.NumGoroutine")=some false)
 (h:Wm F (ic (tabOf L md) O n p F.code 0 ⟨yn F.ntmps .dead,[]⟩ fun _ e s=>some (e,s))=true):Den P k [] (.v (.bool true)):=by
 refine Den.of hF hname rfl ?_
 cases hr:ic (tabOf L md) O n p F.code 0 ⟨yn F.ntmps .dead,[]⟩ fun _ e s=>some (e,s)with
 |none=>rw[hr]at h;cases h
 |some r=>
  rw[hr]at h;obtain⟨j,e,s1,h1,h2⟩:=jc hmix (tabOf_ok hL) (tabOf_said hS) n p _ _ _ _ _ hr;simp only[An]at h1;subst h1;simp only[vq,Nq,Jo];refine h2.mono ?_;rintro e' s'' ⟨rfl,hs⟩
  cases e' with
  |ret=>
   obtain rfl:s''=s1:=by rcases hs with h|⟨h,-⟩;exact h;cases h
   refine⟨s'',.refl _,[.v (.bool true)],?_,.same rfl .nil⟩;simp only[Wm]at h;split at h
   ·rename_i hh;exact hh
   ·cases h
  |_=>cases h
end Go.Tm
namespace Go.Tm
def compIU(E:List (Nat×List Nat)) (P:Program) (ops:Array Oper) (o:Oper) (op:Op):Option I:=
 match op with
 |.binOp b t x y _=>
  match E.lookup t with
  |some ks=>some (.ceq (decide (b=.neq)) ks x y)
  |none=>compI' P ops o op
 |_=>compI' P ops o op
def compOpU(E:List (Nat×List Nat)) (P:Program) (ops:Array Oper) (o:Oper):Option RI:=
 match guardOf ops o.guard with
 |none=>none
 |some g=>
  match callOf P o.op with
  |some (f,args)=>some (.call o.dst g f args)
  |none=>(compIU E P ops o o.op).map fun i=>.op o.dst g i
def compOpsU(E:List (Nat×List Nat)) (P:Program) (ops:Array Oper):List Oper→Option (List RI)
 |[]=>some []
 |o::l=>
  match compOpU E P ops o,compOpsU E P ops l with
  |some r,some rs=>some (r::rs)
  |_,_=>none
def compU(E:List (Nat×List Nat)) (P:Program):Code→Option C
 |.skip=>some .skip
 |.region _ ops false=>(compOpsU E P ops ops.toList).map .reg
 |.region _ ops true=>
  match compOpsU E P ops ops.toList with
  |some rl=>
   if drawOk (befores ops) rl (qOf (befores ops) rl.length)=true then some (.draw (qOf (befores ops) rl.length) rl)
   else some (.any (cutsOf (befores ops) rl.length (qOf (befores ops) rl.length)) (qOf (befores ops) rl.length) (befores ops) rl)
  |none=>none
 |.seq a b=>
  match compU E P a,compU E P b with
  |some x,some y=>some (.seq x y)
  |_,_=>none
 |.cond c a b=>
  match compU E P a,compU E P b with
  |some x,some y=>some (.cond c x y)
  |_,_=>none
 |.block id a=>(compU E P a).map (.block id)
 |.loop a=>(compU E P a).map .loop
 |.exit id=>some (.exit id)
 |.ret=>some .ret
 |.label _=>some .skip
 |.rangeFunc ..=>some .stuck
 |_=>none
def compFU(E:List (Nat×List Nat)) (P:Program) (f:FuncId):Option Fun:=
 match P.funcs[f]? with
 |some fn=>
  match fn.body,compRVs P fn.results.toList with
  |some b,some r=>(compU E P b).map fun c=>⟨fn.ntmps,r,c⟩
  |_,_=>none
 |none=>none
theorem u8l{n:Nat}{h:n<2 ^ 8}:(⟨⟨⟨n,h⟩⟩⟩:UInt8)=UInt8.ofNat n:=by
 apply UInt8.toBitVec_inj.1;simp only[BitVec.ofFin_eq_ofNat];rfl
theorem arl{l:List UInt8}:(⟨l⟩:Array UInt8)=l.toArray:=rfl
structure Kf (P:Program) (n:Nat) where
 F:Fun
 ok:compF P n=some F
 nm:((P.funcs[n]?).map fun fn=>fn.name == "runtime.NumGoroutine")=some false
theorem Kf.o{P:Program}{n:Nat}(K:Kf P n):compF P n=some K.F∧((P.funcs[n]?).map fun fn=>fn.name == "runtime.NumGoroutine")=some false:=⟨K.ok,K.nm⟩
abbrev Kf.of(E:List (Nat×List Nat)) {P:Program}{n:Nat}{F:Fun}(_:compFU E P n=some F:=by conv=>lhs;reduce;try simp only[Int.reduceOfNat,Int.reduceNegSucc,u8l,arl,UInt8.reduceOfNat]) (ok:compF P n=some F:=by kernel_rfl) (nm:((P.funcs[n]?).map fun fn=>fn.name == "runtime.NumGoroutine")=some false:=by kernel_rfl):Kf P n:=⟨F,ok,nm⟩
end Go.Tm
namespace Go.Tm
theorem ss:type_of% @T.seqS:=@T.seqS
theorem rg:type_of% @T.rg:=@T.rg
theorem sr:type_of% @T.sr:=@T.sr
theorem cd:type_of% @T.cd:=@T.cd
theorem bk:type_of% @T.bk:=@T.bk
theorem sk:type_of% @T.skip:=@T.skip
theorem xt:type_of% @T.exit:=@T.exit
theorem ay:type_of% @T.ay:=@T.ay
theorem dy:type_of% @T.dy:=@T.dy
theorem ao:type_of% @T.ao:=@T.ao
theorem tl:type_of% @T.tells:=@T.tells
theorem cq:type_of% @callX_q:=@callX_q
theorem lq:type_of% @callL_q:=@callL_q
theorem bs:type_of% @bsome:=@bsome
theorem lc:type_of% @T.loopC:=@T.loopC
theorem tj:type_of% @T.join:=@T.join
theorem lv:type_of% @callL_ql:=@callL_ql
theorem cv:type_of% @callX_ql:=@callX_ql
section
variable {P:Program} {N:Nat}
theorem jn{X:Type}{a b:C}{K:Exit→St→Prop}{s:St} [StbC N K] (S:X→St) {o:Option X}{β:Type}{f:X→Option β}{r:β}(h:o.bind f=some r) (ha:∀z,o=some z→Tm.T P N a (KJ N K S (.inl z:X⊕Unit)) s) (hb:∀z,o=some z→f z=some r→Tm.T P N b K (S z)):Tm.T P N (.seq a b) K s:=by
 obtain⟨z,h1,h2⟩:=bsome h;refine T.join (R:=Unit) S (.inl z) (ha z h1) ?_;rintro _ ⟨⟩;exact hb z h1 h2
theorem gi{p q Y N:Prop} [Decidable q] {α:Type}{A B:Option α}{r:α}(h:(if q then A else B)=some r) (h1:q→A=some r→Y) (h2:¬q→B=some r→N) (hpq:p=q:=by rfl):gP p Y N:=gP.ite h (iff_of_eq hpq) h1 h2
theorem rt:type_of% @T.ret:=@T.ret
theorem er:type_of% @EndF_ret':=@EndF_ret'
end
theorem eT{α:Type} [BEq α] [LawfulBEq α] {a b:α}(h:a=b):(a==b)=true:=beq_iff_eq.2 h
theorem eF{α:Type} [BEq α] [LawfulBEq α] {a b:α}(h:¬a=b):(a==b)=false:=beq_eq_false_iff_ne.2 h
theorem eD{α:Type} [BEq α] [LawfulBEq α] {a b:α}(h:¬ ¬a=b):(a==b)=true:=beq_iff_eq.2 (ko.1 h)
theorem nT{α:Type} [BEq α] [LawfulBEq α] {a b:α}(h:¬a=b):(a !=b)=true:=bne_iff_ne.2 h
theorem nF{α:Type} [BEq α] [LawfulBEq α] {a b:α}(h:a=b):(a !=b)=false:=by simpa using h
theorem nD{α:Type} [BEq α] [LawfulBEq α] {a b:α}(h:¬ ¬a=b):(a !=b)=false:=nF (ko.1 h)
theorem bI{α β:Type}{l:List α}{i:Int}{g:α→Option β}{r:β}(h:(idx l i).bind g=some r):∃x,0≤i∧l[i.toNat]?=some x∧g x=some r:=by
 obtain⟨x,h1,h2⟩:=bsome h;obtain⟨h3,h4⟩:=idx_f h1;exact⟨x,h3,h4,h2⟩
theorem bO{α β:Type}{l:List α}{i:Int}{g:α→Option β}{r:β}(h:(idx l i).bind g=some r):∃x,0≤i∧l[i.toNat]?=some x∧i.toNat<l.length∧g x=some r:=by
 obtain⟨x,h1,h2⟩:=bsome h;obtain⟨h3,h4,h5⟩:=idx_o h1;exact⟨x,h3,h4,h5,h2⟩
section
variable {P:Program} {N:Nat}
theorem jm{X:Type}{a b:C}{K:Exit→St→Prop}{s:St} [StbC N K] {o:Option X}{β:Type}{f:X→Option β}{r:β}(h:o.bind f=some r) (S:X→St) (ha:∀z,o=some z→Tm.T P N a (KJ N K S (.inl z:X⊕Unit)) s) (hb:∀z,o=some z→f z=some r→Tm.T P N b K (S z)):Tm.T P N (.seq a b) K s:=jn S h ha hb
theorem lm{σ β ρ:Type}{id:Nat}{K:Exit→St→Prop} [hst:StbC N K] {x:C}{s:St}{step:σ→Option (Ex σ β ρ)}{x0:σ}{y:β⊕ρ}(hy:Tm.loopO step x0=some y) (S:σ→St) (B:β→St) (hs:Tells N s (S x0))
 (round:∀a z,step a=some z→(∀v,z=.ret v→y=.inr v)→Tm.T P N x (KL N id K S B z) (S a))
 (rest:∀b,y=.inl b→K .normal (B b)):Tm.T P N (.block id (.loop x)) K s:=T.loopC S B step x0 hy hs round rest
end
abbrev ok(i:Nat):Option Nat×Nat×Nat:=(some i,0,0)
abbrev ov(i v:Nat):Option Nat×Nat×Nat:=(some i,v,0)
abbrev on(S:Nat):Option Nat×Nat×Nat:=(none,S,0)
theorem tq{N:Nat}(ρ:Org) {s S:St}(h:SqL (Sq ρ s.m 9) s.t S.t∧EtQ ρ s.m ρ S.m) (hk:keepB ρ N=true:=by rfl) (h3:(ρ.filterMap (·.1)).Nodup:=by decide):Tells N s S:=Tells.q ρ hk h3 h
theorem fq:type_of% @fin_q:=@fin_q
theorem zr:type_of% (And.intro (And.intro @endF_some @ress_nil) (And.intro @ress_tmp @ress_cell)):=And.intro (And.intro @endF_some @ress_nil) (And.intro @ress_tmp @ress_cell)
class FrL (l:List D):Prop where
 h:idfrees l=true
instance:FrL []:=⟨rfl⟩
instance {α:Type}{e:α→D} [Fr e] {x:α}{l:List D} [FrL l]:FrL (e x::l):=⟨frC FrL.h⟩
theorem dk{P:Program}{k:Nat}{l:List D}{o:D}(n:Nat) (K:Kf P k) (h:T P 0 K.F.code (EndF K.F.results o) ⟨l++Tm.ds n [],[]⟩) (hf:idfrees l=true:=by exact FrL.h) (hn:K.F.ntmps=l.length+n:=by rfl):Den P k l o:=Den.at n K.ok K.nm hf hn h
end Go.Tm
