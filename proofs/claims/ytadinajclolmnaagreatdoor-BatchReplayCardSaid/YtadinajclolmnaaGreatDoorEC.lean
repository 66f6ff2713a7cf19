/-
  The engine: a part of the proof that trees of values are carried along by the program: no condition.
-/
import Derived.Test.YtadinajclolmnaaGreatDoorEB
import Derived.ProofKit
import Derived.OpenShut
import Derived.WideShapes
import Derived.Lib.LaidTab
import Derived.SizedLaws
import Derived.Sort.Row
import Derived.Sort.Grow
import Derived.KernelRfl
open Go renaming Value->a32,World->a33,Operand->a34,Program->a35,TypeId->a36,FuncId->a38,IntKind->a39
open Option renaming some->M,none->u4
open Decidable renaming decide->D1
open Go.IntKind renaming i64->b!
open Go.Tm.D renaming dead->a!
open And renaming intro->ak
open Bool renaming and_eq_true->D?,and_true->Y',false_eq_true->M',false_or->η,not_false->Κ,not_true->Z?,or_false->ζ,or_self->ε,or_true->δ,true_and->X?,true_eq_false->hag,true_or->γ,true->a29,false->a30
open Classical renaming not_not->E!
open Eq renaming trans->P!
open Int renaming natCast_nonneg->cah,toNat_natCast->oag
open List renaming all_cons->Iag,all_eq_true->Λ,append_nil->R?,cons_append->B',contains_iff_mem->Saf,drop_drop->Mag,drop_succ_cons->Sah,drop_zero->Eag,eq_nil_of_length_eq_zero->vaf,ext_getElem?->bah,foldlM->Zaj,getD_cons_succ->P?,getD_cons_zero->U!,getElem?_cons_succ->xag,getElem?_cons_zero->Aaf,getElem?_eq_getElem->x!,getElem?_eq_some_iff->Τ,getElem_mem->E',length_append->G!,length_cons->w!,length_map->Kaf,length_nil->A?,map_cons->w?,map_nil->D!,mem_append->Ρ,mem_cons->X',mem_map_of_mem->maj,nil_append->G?,not_mem_nil->pah,replicate->h!,replicate_zero->iai,set_cons_succ->Μ,set_cons_zero->Ω,take_length->υ,take_of_length_le->Ψ,take_succ_cons->Χ,take_zero->Bag
open List.cons renaming injEq->Aag
open Nat renaming add_zero->Hag,beq->zai,le_refl->A',lt_add_one->Qaj,lt_succ_self->Aai,mul_one->qai,not_lt_zero->daj,rec->cak,sub_zero->Rah,succ_ne_self->κ,zero_add->Z!,zero_le->Q?,zero_lt_succ->Bai
open Option renaming bind_eq_some_iff->eah,bind_some->b?,map_eq_some_iff->A!,map_none->θ,map_some->Β
open Option.some renaming inj->R',injEq->M?
open Prod renaming fst->vaj
open Prod.mk renaming injEq->F!
set_option linter.all false
namespace Go.Tm
variable {a b x c:a34}{t r ds' pre post:List D}{dst d:Option Tmp}{g:Option (Tmp×Bool)}{i k id j off lo hi u Ca:Nat}{s' s1 s2 s0:St}{F:S?}{m' es:List Ent}{md:Nat->Nat}{L:List (Nat×S?)}{f R:D->List Ent->Prop}{X:Type}{p:Prop}{rs:List RV}{w w':a33}{cs:Array a32}{G:Gh}{vs:List a32}{z:a32}{ys:List Int}{cuts ids:List Nat}
def eqV:a32->a32->Bool
 |.int j a,.int k b=>j==k&&a==b
 |.bool a,.bool b=>a==b
 |.string a,.string b=>a==b
 |.slice u4 0 0,.slice u4 0 0=>a29
 |.pointer u4,.pointer u4=>a29
 |.map u4,.map u4=>a29
 |.nilFunc,.nilFunc=>a29
 |.nilIface,.nilIface=>a29
 |.tuple ⟨[]⟩,.tuple ⟨[]⟩=>a29
 |_,_=>a30
theorem Faa{a b:a32}(h:eqV a b=a29):a=b:=by
 unfold eqV at h;split at h
 .simp at h;rw[h.1,h.2]
 .simp at h;rw[h]
 .rw[ω h]
 all_goals first|rfl|cases h
mutual
def gR:D->D->Bool
 |.v a,.v b=>eqV a b
 |.agg a,.agg b=>jJ a b
 |.tup a,.tup b=>jJ a b
 |.sl S a,.sl T b=>S==T&&jJ a b
 |.pt a,.pt b=>gR a b
 |.ref a b c d,.ref e f g h=>a==e&&b==f&&c==g&&d==h
 |.own a b,.own c d=>a==c&&b==d
 |.view a b c d,.view e f g h=>a==e&&b==f&&c==g&&d==h
 |.fn f a b,.fn g c d=>f==g&&jJ a c&&jJ b d
 |.mp a,.mp b=>a==b
 |.ifc t a,.ifc u b=>t==u&&gR a b
 |a!,a!=>a29
 |_,_=>a30
def jJ:List D->List D->Bool
 |[],[]=>a29
 |a::l,b::r=>gR a b&&jJ l r
 |_,_=>a30
end
mutual
theorem JO:∀{a b:D},gR a b=a29->a=b
 |.v a,b,h=>by cases b<;>simp only[gR,M']at h;rw[Faa h]
 |.agg a,b,h=>by cases b<;>simp only[gR,M']at h;rw[Ow h]
 |.tup a,b,h=>by cases b<;>simp only[gR,M']at h;rw[Ow h]
 |.sl S a,b,h=>by cases b<;>simp only[gR,M',D?,T!]at h;rw[h.1,Ow h.2]
 |.pt a,b,h=>by cases b<;>simp only[gR,M']at h;rw[JO h]
 |.ref ..,b,h=>by cases b<;>simp[gR]at h;simp[h]
 |.own ..,b,h=>by cases b<;>simp[gR]at h;simp[h]
 |.view ..,b,h=>by cases b<;>simp[gR]at h;simp[h]
 |.fn f x y,b,h=>by cases b<;>simp only[gR,M',D?,T!]at h;rw[h.1.1,Ow h.1.2,Ow h.2]
 |.mp ..,b,h=>by cases b<;>simp[gR]at h;simp[h]
 |.ifc t x,b,h=>by cases b<;>simp only[gR,M',D?,T!]at h;rw[h.1,JO h.2]
 |a!,b,h=>by cases b<;>simp[gR]at h;rfl
theorem Ow:∀{a b:List D},jJ a b=a29->a=b
 |[],b,h=>by cases b<;>simp[jJ]at h;rfl
 |a::l,b,h=>by
  cases b<;>simp only[jJ,M',D?]at h;rw[JO h.1,Ow h.2]
end
def J3:List (a32×D)->List (a32×D)->Bool
 |[],[]=>a29
 |(a,d)::l,(b,e)::r=>eqV a b&&gR d e&&J3 l r
 |_,_=>a30
theorem HX:∀{a b:List (a32×D)},J3 a b=a29->a=b
 |[],b,h=>by cases b<;>simp[J3]at h;rfl
 |(a,d)::l,b,h=>by
  cases b with
  |nil=>simp[J3]at h
  |cons p r=>
   obtain⟨b,e⟩:=p;simp only[J3,D?]at h;rw[Faa h.1.1,JO h.1.2,HX h.2]
def Daa:Ent->Ent->Bool
 |.live a b l,.live c d r=>a==c&&b==d&&jJ l r
 |.mp a,.mp b=>J3 a b
 |.gone,.gone=>a29
 |_,_=>a30
theorem Eaa{a b:Ent}(h:Daa a b=a29):a=b:=by
 cases a<;>cases b<;>simp only[Daa,M',D?,T!]at h
 .rw[h.1.1,h.1.2,Ow h.2]
 .rw[HX h]
 .rfl
def kJ:List Ent->List Ent->Bool
 |[],[]=>a29
 |a::l,b::r=>Daa a b&&kJ l r
 |_,_=>a30
theorem EM:∀{a b:List Ent},kJ a b=a29->a=b
 |[],b,h=>by cases b<;>simp[kJ]at h;rfl
 |a::l,b,h=>by
  cases b<;>simp only[kJ,M',D?]at h;rw[Eaa h.1,EM h.2]
def av3(s t:St):Bool:=jJ s.t t.t&&kJ s.m t.m
theorem av2{s t:St}(h:av3 s t=a29):s=t:=by
 simp only[av3,D?]at h;have a:=Ow h.1;have h2:=EM h.2;cases s;cases t;simp only at a h2;rw[a,h2]
inductive W where
 |c (c:C)
 |l (l:List RI)
 |an (q:Nat) (bs:List (List Nat)) (l:List RI)
 |yo (pl:List (Option Nat)) (ps fp:List (List Nat)) (q:Nat) (l:List RI)
 |f (k:Nat) (ds:List D)
 |p (k:Nat) (ds:List D)
 |q (k:Nat) (ds:List D)
 |w (p k:Nat) (ds:List D)
def ad6(S Ca:Nat) (d:D) (m':List Ent):Option (D×Ent):=
 match (m'[0]?:Option Ent)with
 |some (.live S' v a)=>bif zai S' S&&zai v 0 then M (ob 8 (m'.set 0 .gone) d,.live S Ca (a.map (ob 8 (m'.set 0 .gone))))else u4
 |_=>u4
def wOk(s:St) (p:Nat) (g:Option (Tmp×Bool)) (ids:List Nat):Bool:=g.isNone&&ids.elem p&&ids.all λid=>D1 (id<s.m.length)
def jw(s:St) (dst:Option Tmp) (g:Option (Tmp×Bool)) (i:I):Option St:=
 match d? s g with
 |none=>u4
 |some u4=>
  match ba s i with
  |some (d,m')=>M ({ s with m:=m' }.put dst d)
  |none=>u4
 |some (M (c,b))=>
  if c=b then
   match ba s i with
   |some (d,m')=>M ({ s with m:=m' }.put dst d)
   |none=>u4
  else M (s.put dst (.v undef))
def Pl(s:St) (g:Option (Tmp×Bool)):Option Bool:=
 match d? s g with
 |none=>u4
 |some u4=>M a29
 |some (M (c,b))=>M (c==b)
def H'(F:S?):Option (Exit×St)->Option (D×List Ent)
 |some (.normal,s)|some (.ret,s)=>
  match qa s F.results with
  |some es=>M (ig es,s.m)
  |none=>u4
 |_=>u4
def vU(P:a35) (md:Nat->Nat) (O:Nat->List D->Option D):Prop:=∀k,3<=md k->∀ds d m,O k ds=M d->CallT P k ds m λd' m'=>d'=d/\m'=m
def run(FT:Nat->Option (S?×Nat)) (O:Nat->List D->Option D):Nat->W->St->Option (Exit×St)
 |0,_,_=>u4
 |_+1,.c .skip,s=>M (.normal,s)
 |n+1,.c (.vD l),s=>run FT O n (.l l) s
 |n+1,.c (.draw q l),s=>
  if((l.take q).filterMap (NT FT s)).isEmpty=a29 then run FT O n (.yo [] [] [] q l) s
  else if uB (at3 FT (l.take q) s).m (wpl FT (l.take q) s)=a29 then run FT O n (.yo (wpl FT (l.take q) s) (au q) [] q l) (at3 FT (l.take q) s)
  else u4
 |n+1,.c (.any _ q bs l),s=>run FT O n (.an q bs l) (pA FT l (l.take q) (Yt l (l.take q) s))
 |n+1,.c (.seq a b),s=>
  match run FT O n (.c a) s with
  |some (.normal,s')=>run FT O n (.c b) s'
  |r=>r
 |n+1,.c (.cond c a b),s=>
  match s.ev c with
  |.v (.bool a29)=>run FT O n (.c a) s
  |.v (.bool a30)=>run FT O n (.c b) s
  |_=>u4
 |n+1,.c (.block id a),s=>
  match run FT O n (.c a) s with
  |some (.exit j,s')=>if j=id then M (.normal,s')else M (.exit j,s')
  |r=>r
 |n+1,.c (.loop a),s=>
  match run FT O n (.c a) s with
  |some (.normal,s')=>run FT O n (.c (.loop a)) s'
  |r=>r
 |_+1,.c (.exit id),s=>M (.exit id,s)
 |_+1,.c .ret,s=>M (.ret,s)
 |_+1,.c .stuck,_=>u4
 |_+1,.l [],s=>M (.normal,s)
 |n+1,.l (.op dst g i::l),s=>
  match jw s dst g i with
  |some s'=>run FT O n (.l l) s'
  |none=>u4
 |n+1,.l (.call dst g f args::l),s=>
  match s.ec f with
  |.fn k first caps=>
   match Pl s g with
   |some a29=>
    match run FT O n (.f k (first++args.map s.ev++caps)) s with
    |some (_,⟨[d],m'⟩)=>run FT O n (.l l) ({ s with m:=m' }.put dst d)
    |_=>u4
   |some a30=>run FT O n (.l l) (s.put dst (.v undef))
   |none=>u4
  |_=>
   match Pl s g with
   |some a30=>run FT O n (.l l) (s.put dst (.v undef))
   |_=>u4
 |n+1,.an q bs l,s=>
  if(Mt bs l q (WV bs q l (v! (l.take q) s.m.length)) (v! (l.take q) s.m.length)&&uB (s.m++(aD (l.take q)).map λS=>.live S 0 []) (v! (l.take q) s.m.length))=a29 then
   run FT O n (.yo (v! (l.take q) s.m.length) (WV bs q l (v! (l.take q) s.m.length)) [] q l) ⟨s.t,s.m++(aD (l.take q)).map λS=>.live S 0 []⟩
  else u4
 |n+1,.yo _ _ _ 0 l,s=>run FT O n (.l l) s
 |_+1,.yo _ _ _ (_+1) [],_=>u4
 |n+1,.yo pl ps fp (q+1) (.op dst g i::l),s=>
  match pl.headD u4 with
  |some p=>
   match g with
   |none=>
    match Bl s p i with
    |some (d,e)=>if Mx fp [p] (ps.headD [])=a29 then run FT O n (.yo pl.tail ps.tail (fp++[[p]]) q l) (({ s with m:=s.m.set p e }:St).put dst d)else u4
    |none=>u4
   |some _=>u4
  |none=>
   if(Mx fp (Nd s (.op dst g i)) (ps.headD [])&&Mf s i)=a29 then
    match jw s dst g i with
    |some s'=>run FT O n (.yo pl.tail ps.tail (fp++[Nd s (.op dst g i)]) q l) s'
    |none=>u4
   else u4
 |n+1,.yo pl ps fp (q+1) (.call dst g f args::l),s=>
  match pl.headD u4,s.cv f with
  |some p,.fn k first caps=>
   if(Mx fp (yb s args) (ps.headD [])&&wOk s p g (yb s args))=a29 then
    match run FT O n (.w p k (first++args.map s.ev++caps)) s with
    |some (_,⟨[d],[e]⟩)=>run FT O n (.yo pl.tail ps.tail (fp++[yb s args]) q l) (({ s with m:=s.m.set p e }:St).put dst d)
    |_=>u4
   else u4
  |none,.fn k first caps=>
   if(Mx fp (yb s args) (ps.headD [])&&(ea first&&ea caps))=a29 then
    match Pl s g with
    |some a29=>
     match run FT O n (.q k (first++args.map s.ev++caps)) s with
     |some (_,⟨[d],_⟩)=>run FT O n (.yo pl.tail ps.tail (fp++[yb s args]) q l) (s.put dst d)
     |_=>u4
    |some a30=>run FT O n (.yo pl.tail ps.tail (fp++[yb s args]) q l) (s.put dst (.v undef))
    |none=>u4
   else u4
  |none,_=>
   if Mx fp (yb s args) (ps.headD [])=a29 then
    match Pl s g with
    |some a30=>run FT O n (.yo pl.tail ps.tail (fp++[yb s args]) q l) (s.put dst (.v undef))
    |_=>u4
   else u4
  |_,_=>u4
 |n+1,.f k ds,s=>
  match FT k with
  |some (F,0)=>
   match H' F (run FT O n (.c F.code) ⟨ds++h! (F.ntmps-ds.length) a!,s.m⟩)with
   |some (d,m')=>M (.normal,⟨[d],m'⟩)
   |none=>u4
  |some (F,1)=>
   if ea ds=a29 then
    match run FT O n (.p k ds) s with
    |some (_,⟨[d],_⟩)=>M (.normal,⟨[d],s.m⟩)
    |_=>u4
   else
    match H' F (run FT O n (.c F.code) ⟨ds++h! (F.ntmps-ds.length) a!,s.m⟩)with
    |some (d,m')=>M (.normal,⟨[d],m'⟩)
    |none=>u4
  |some (F,2)=>
   match H' F (run FT O n (.c F.code) ⟨ds.map (ob 8 s.m)++h! (F.ntmps-ds.length) a!,[]⟩)with
   |some (d,m')=>
    match ZR m' d with
    |some d=>M (.normal,⟨[d],s.m⟩)
    |none=>u4
   |none=>u4
  |some (_,_+3)=>
   match O k ds with
   |some d=>M (.normal,⟨[d],s.m⟩)
   |none=>u4
  |none=>u4
 |n+1,.p k ds,_=>
  match FT k with
  |some (_,_+3)=>
   match O k ds with
   |some d=>M (.normal,⟨[d],[]⟩)
   |none=>u4
  |some (F,_)=>
   if ea ds=a29 then
    match H' F (run FT O n (.c F.code) ⟨ds++h! (F.ntmps-ds.length) a!,[]⟩)with
    |some (d,m')=>M (.normal,⟨[ob 8 m' d],[]⟩)
    |none=>u4
   else u4
  |none=>u4
 |n+1,.q k ds,s=>
  if ea ds=a29 then run FT O n (.p k ds) s
  else
   match FT k with
   |some (F,_)=>
    if IV s.m ds=a29 then
     match H' F (run FT O n (.c F.code) ⟨ds.map (ob 8 s.m)++h! (F.ntmps-ds.length) a!,[]⟩)with
     |some (d,m')=>
      match ZR m' d with
      |some d=>M (.normal,⟨[d],[]⟩)
      |none=>u4
     |none=>u4
    else u4
   |none=>u4
 |n+1,.w p k ds,s=>
  match FT k,s.m[p]? with
  |some (F,_),M (.live S Ca l)=>
   if ea l=a29 then
    match H' F (run FT O n (.c F.code) ⟨ds.map (KA p Ca)++h! (F.ntmps-ds.length) a!,[.live S 0 l]⟩)with
    |some (d,m')=>
     match ad6 S Ca d m' with
     |some (d,e)=>M (.normal,⟨[d],[e]⟩)
     |none=>u4
    |none=>u4
   else u4
  |_,_=>u4
section
variable {P:a35} {FT:Nat->Option (S?×Nat)} {O:Nat->List D->Option D}
theorem q6{i:I}{l:List RI}{K:St->Prop}{s:St}(h:jw s dst g i=M s') (f:Wf P l K s'):Wf P (.op dst g i::l) K s:=by
 unfold jw at h;simp only[Wf];split at h
 .cases h
 .rename_i j;rw[j];split at h
  .rename_i d m' he;injection h with h;subst h;exact⟨d,m',he,f⟩
  .cases h
 .rename_i c b j;rw[j];split at h
  .rename_i a;split at h
   .rename_i d m' he;injection h with h;subst h;exact⟨λ_=>⟨d,m',he,f⟩,λk=>(k a).elim⟩
   .cases h
  .rename_i a;injection h with h;subst h;exact⟨λe=>(a e).elim,λ_=>f⟩
theorem B2{i:I}{q:Nat}{l:List RI}{pl:List (Option Nat)}{ps fp:List (List Nat)}{K:St->Prop}{s:St}(m:pl.headD u4=u4) (ha:Mx fp (Nd s (.op dst g i)) (ps.headD [])=a29) (hb:Mf s i=a29) (h:jw s dst g i=M s')
 (f:Nj P pl.tail ps.tail (fp++[Nd s (.op dst g i)]) q l K s'):Nj P pl ps fp (q+1) (.op dst g i::l) K s:=by
 unfold jw at h;simp only[Nj,m];refine⟨ha,?_⟩;split at h
 .cases h
 .rename_i j;rw[j];split at h
  .rename_i d m' he;injection h with h;subst h;exact⟨d,m',hb,he,f⟩
  .cases h
 .rename_i c b j;rw[j];split at h
  .rename_i a;split at h
   .rename_i d m' he;injection h with h;subst h;exact⟨λ_=>⟨d,m',hb,he,f⟩,λk=>(k a).elim⟩
   .cases h
  .rename_i a;injection h with h;subst h;exact⟨λe=>(a e).elim,λ_=>f⟩
def iM(P:a35) (FT:Nat->Option (S?×Nat)) (e:Exit) (s':St):W->St->Prop
 |.c c,s=>∀N,T P N c (λe' a=>e'=e/\a=s') s
 |.l l,s=>e=.normal/\Wf P l (λa=>a=s') s
 |.an q bs l,s=>∀N cuts,T P N (.any cuts q bs l) (λe' a=>e'=e/\a=s') s
 |.yo pl ps fp q l,s=>e=.normal/\Nj P pl ps fp q l (λa=>a=s') s
 |.f k ds,s=>∀d,s'.t=[d]->CallT P k ds s.m λd' m'=>d'=d/\m'=s'.m
 |.p k ds,_=>∀d,s'.t=[d]->∀m,CallT P k ds m λd' m'=>d'=d/\m'=m
 |.w p k ds,s=>∀d e,s'.t=[d]->s'.m=[e]->∀m,m[p]?=s.m[p]?->CallT P k ds m λd' m'=>d'=d/\m'=m.set p e
 |.q k ds,s=>∀d,s'.t=[d]->(∀id∈Oe ds,id<s.m.length)/\∀m,(∀id∈Oe ds,m[id]?=s.m[id]?)->CallT P k ds m λd' m'=>d'=d/\m'=m
theorem I3{r:Option (Exit×St)}{d:D}(h:H' F r=M (d,m')):∃e s,r=M (e,s)/\∀(R:D->List Ent->Prop),R d m'->Um F.results R e s:=by
 unfold H' at h;split at h
 .rename_i s;split at h
  .rename_i es a;injection h with h;injection h with b h2;subst b;subst h2;exact⟨_,s,rfl,λR c=>⟨es,a,c⟩⟩
  .cases h
 .rename_i s;split at h
  .rename_i es a;injection h with h;injection h with b h2;subst b;subst h2;exact⟨_,s,rfl,λR c=>⟨es,a,c⟩⟩
  .cases h
 .cases h
theorem Ps(a:∀k F md,FT k=M (F,md)->cu P k=M F/\((P.funcs[k]?).map λfn=>fn.name == "runtime.NumGoroutine")=M a30) {n:Nat}
 (i:∀w s e s',run FT O n w s=M (e,s')->iM P FT e s' w s) {md:Nat} (hk:FT k=M (F,md)) {ds:List D} {m:List Ent} {d:D} 
 (h:H' F (run FT O n (.c F.code) ⟨ds++h! (F.ntmps-ds.length) a!,m⟩)=M (d,m')):CallT P k ds m λd' b=>d'=d/\b=m':=by
 obtain⟨e,s,hr,g⟩:=I3 h;obtain⟨f,h2⟩:=a k F md hk;have:=i _ _ _ _ hr;simp only[iM]at this;refine Lb f h2 ((this m.length).mono ?_);rintro e' s'' ⟨rfl,rfl⟩;exact g _ ⟨rfl,rfl⟩
theorem z6(Ie:P.follows .mixedOrders=a29) (H:∀k F md,FT k=M (F,md)->cu P k=M F/\((P.funcs[k]?).map λfn=>fn.name == "runtime.NumGoroutine")=M a30)
 (hO:∀k F md,FT k=M (F,md+3)->∀ds d m,O k ds=M d->CallT P k ds m λd' m'=>d'=d/\m'=m) :
 ∀(n:Nat) (w:W) (s:St) (e:Exit) (s':St),run FT O n w s=M (e,s')->iM P FT e s' w s:=by
 intro n
 induction n using Nat.strongRecOn with
 |_ n ih=>
 cases n with
 |zero=>intro w s e s' h;simp[run]at h
 |succ n=>
 have o:=ih n (Aai n);intro w s e s' h
 cases w with
 |c c=>
  cases c with
  |skip=>
   simp only[run,M?,F!]at h;obtain⟨rfl,rfl⟩:=h;exact λN=>T.skip ⟨rfl,rfl⟩
  |vD l=>
   simp only[run]at h;obtain⟨rfl,hr⟩:=o _ _ _ _ h;exact λN=>T.vD (Nq (λz hs=>⟨rfl,hs⟩) hr)
  |draw q l=>
   simp only[run]at h;split at h
   .obtain⟨rfl,hr⟩:=o _ _ _ _ h;refine λN=>T.drawO Ie ?_;have he:(λz=>z=s')=(λz=>Exit.normal=Exit.normal/\z=s'):=by funext x;simp
    rw[he]at hr;exact hr
   .split at h
    .rename_i hpl;obtain⟨rfl,hr⟩:=o _ _ _ _ h;refine ky λN=>T.drawP Ie (au q) _ Dae pG hpl ?_;have he:(λz=>z=s')=(λz=>Exit.normal=Exit.normal/\z=s'):=by funext x;simp
     rw[he]at hr;exact hr
    .cases h
  |any cuts q bs l=>
   simp only[run]at h;have hr:=o _ _ _ _ h;simp only[iM]at hr;intro N;exact Fy (cE (λN=>hr N cuts) N)
  |seq a b=>
   simp only[run]at h;split at h
   .rename_i s1 G;have hb:=o _ _ _ _ h;have ha:=o _ _ _ _ G;simp only[iM]at ha hb;refine λN=>T.seq ((ha N).mono ?_);rintro e' z ⟨rfl,rfl⟩;exact hb N
   .rename_i C;have ha:=o _ _ _ _ h;simp only[iM]at ha;refine λN=>T.seq ((ha N).mono ?_);rintro e' z ⟨rfl,rfl⟩
    cases e' with
    |normal=>exact(C _ h).elim
    |_=>exact⟨rfl,rfl⟩
  |cond c a b=>
   simp only[run]at h;split at h
   .rename_i hc;have ha:=o _ _ _ _ h;simp only[iM]at ha;exact λN=>T.cond hc (λ_=>ha N) (λe=>by cases e)
   .rename_i hc;have ha:=o _ _ _ _ h;simp only[iM]at ha;exact λN=>T.cond hc (λe=>by cases e) (λ_=>ha N)
   .cases h
  |block id a=>
   simp only[run]at h;split at h
   .rename_i j s1 G;have ha:=o _ _ _ _ G;simp only[iM]at ha;refine λN=>T.block ((ha N).mono ?_);rintro e' z ⟨rfl,rfl⟩;simp only;split at h<;>rename_i hj<;>simp only[M?,F!]at h<;>obtain⟨rfl,rfl⟩:=h
    .rw[J hj];exact⟨rfl,rfl⟩
    .rw[s7 hj];exact⟨rfl,rfl⟩
   .rename_i C;have ha:=o _ _ _ _ h;simp only[iM]at ha;refine λN=>T.block ((ha N).mono ?_);rintro e' z ⟨rfl,rfl⟩
    cases e' with
    |exit j=>exact(C _ _ h).elim
    |_=>exact⟨rfl,rfl⟩
  |loop a=>
   intro N;refine T.Iab (o4:=λy s1=>y<=n+1/\run FT O y (.c (.loop a)) s1=M (e,s')) (λy=>y) (n+1) ⟨A' _,h⟩ ?_;rintro y s1 ⟨hy,hr⟩
   cases y with
   |zero=>simp[run]at hr
   |succ y=>
    simp only[run]at hr;have ihy:=ih y U;split at hr
    .rename_i s2 h2;have ha:=ihy _ _ _ _ h2;simp only[iM]at ha;refine(ha N).mono ?_;rintro e' z ⟨rfl,rfl⟩;exact⟨y,⟨U,hr⟩,p6⟩
    .rename_i C;have ha:=ihy _ _ _ _ hr;simp only[iM]at ha;refine(ha N).mono ?_;rintro e' z ⟨rfl,rfl⟩
     cases e' with
     |normal=>exact(C _ hr).elim
     |_=>exact⟨rfl,rfl⟩
  |exit id=>
   simp only[run,M?,F!]at h;obtain⟨rfl,rfl⟩:=h;exact λN=>T.exit ⟨rfl,rfl⟩
  |ret=>
   simp only[run,M?,F!]at h;obtain⟨rfl,rfl⟩:=h;exact λN=>T.ret ⟨rfl,rfl⟩
  |stuck=>simp[run]at h
 |l l=>
  cases l with
  |nil=>
   simp only[run,M?,F!]at h;obtain⟨rfl,rfl⟩:=h;exact⟨rfl,rfl⟩
  |cons r l=>
   cases r with
   |op dst g i=>
    simp only[run]at h;split at h
    .rename_i s1 G;obtain⟨rfl,hr⟩:=o _ _ _ _ h;exact⟨rfl,q6 G hr⟩
    .cases h
   |call dst g f args=>
    simp only[run]at h;split at h
    .rename_i k first caps hf
     unfold Pl at h;simp only[iM,Wf,hf];split at h
     .rename_i A;split at A
      .cases A
      .rename_i B;rw[B];split at h
       .rename_i d m' hc;obtain⟨rfl,hr⟩:=o _ _ _ _ h;have:=o _ _ _ _ hc;simp only[iM]at this;refine⟨rfl,(this d rfl).mono ?_⟩;rintro d' X ⟨rfl,rfl⟩;exact hr
       .cases h
      .rename_i c b B;rw[B];simp only[M?,T!]at A;split at h
       .rename_i d m' hc;obtain⟨rfl,hr⟩:=o _ _ _ _ h;have:=o _ _ _ _ hc;simp only[iM]at this;refine⟨rfl,λ_=>(this d rfl).mono ?_,λC=>(C A).elim⟩;rintro d' X ⟨rfl,rfl⟩;exact hr
       .cases h
     .rename_i A;split at A
      .cases A
      .cases A
      .rename_i c b B;rw[B];simp only[M?,beq_eq_false_iff_ne,ne_eq]at A;obtain⟨rfl,hr⟩:=o _ _ _ _ h;exact⟨rfl,λe=>(A e).elim,λ_=>hr⟩
     .cases h
    .rename_i o0;split at h
     .rename_i A;obtain⟨rfl,hr⟩:=o _ _ _ _ h;refine⟨rfl,?_⟩;unfold Pl at A;split at A
      .cases A
      .cases A
      .rename_i c b B;simp only[M?,beq_eq_false_iff_ne,ne_eq]at A;simp only[Wf]
       cases hf:s.ec f with
       |fn k first caps=>exact absurd hf (o0 k first caps)
       |_=>simp only[B];exact⟨A,hr⟩
     .cases h
 |an q bs l=>
  simp only[run]at h;split at h
  .rename_i V;rw[D?]at V;obtain⟨rfl,hr⟩:=o _ _ _ _ h;intro N cuts;refine T.addEs (aD (l.take q)) ?_;refine T.anyO Ie _ _ V.1 V.2 ?_;have he:(λz=>z=s')=(λz=>Exit.normal=Exit.normal/\z=s'):=by funext x;simp
   rw[he]at hr;exact hr
  .cases h
 |yo pl ps fp q l=>
  cases q with
  |zero=>
   simp only[run]at h;obtain⟨rfl,hr⟩:=o _ _ _ _ h;exact⟨rfl,by simpa only[Nj] using hr⟩
  |succ q=>
   cases l with
   |nil=>simp[run]at h
   |cons r l=>
    cases r with
    |op dst g i=>
     simp only[run]at h;split at h
     .rename_i p K;split at h
      .split at h
       .rename_i d e1 hf;split at h
        .rename_i u;obtain⟨rfl,hr⟩:=o _ _ _ _ h;refine⟨rfl,?_⟩;simp only[Nj,K];exact⟨u,trivial,d,e1,hf,hr⟩
        .cases h
       .cases h
      .cases h
     .rename_i K;split at h
      .rename_i u;rw[D?]at u;split at h
       .rename_i s1 G;obtain⟨rfl,hr⟩:=o _ _ _ _ h;exact⟨rfl,B2 K u.1 u.2 G hr⟩
       .cases h
      .cases h
    |call dst g f args=>
     simp only[run]at h;split at h
     .rename_i p k first caps K hf
      split at h
      .rename_i u;simp only[wOk,D?,Λ,R2,Option.isNone_iff_eq_none]at u;obtain⟨u,⟨rfl,hpt⟩,E⟩:=u;have n6:p∈yb s args:=by simpa using hpt
       split at h
       .rename_i d e1 hc;obtain⟨rfl,hr⟩:=o _ _ _ _ h;have:=o _ _ _ _ hc;simp only[iM]at this;refine⟨rfl,?_⟩;simp only[Nj,K,hf];exact⟨trivial,n6,u,d,e1,⟨E,λm hm=>this d e1 rfl rfl m (hm p n6)⟩,hr⟩
       .cases h
      .cases h
     .rename_i k first caps K hf
      split at h
      .rename_i u;simp only[D?]at u;obtain⟨u,hi1,hi2⟩:=u;have E:Oe (first++args.map s.ev++caps)=yb s args:=by
        have L:∀a b:List D,Oe (a++b)=Oe a++Oe b:=by
         intro a b
         induction a with
         |nil=>rfl
         |cons x a ih=>simp only[B',Oe,ih,List.append_assoc]
        rw[L,L,Ep hi1,Ep hi2,CB];simp
       unfold Pl at h;simp only[iM,Nj,K,hf];split at h
       .rename_i A;split at A
        .cases A
        .rename_i B;rw[B];split at h
         .rename_i d m' hc;obtain⟨rfl,hr⟩:=o _ _ _ _ h;have:=o _ _ _ _ hc;simp only[iM,E]at this;exact⟨rfl,u,d,this d rfl,hr⟩
         .cases h
        .rename_i c b B;rw[B];simp only[M?,T!]at A;split at h
         .rename_i d m' hc;obtain⟨rfl,hr⟩:=o _ _ _ _ h;have:=o _ _ _ _ hc;simp only[iM,E]at this;exact⟨rfl,u,λ_=>⟨d,this d rfl,hr⟩,λC=>(C A).elim⟩
         .cases h
       .rename_i A;split at A
        .cases A
        .cases A
        .rename_i c b B;rw[B];simp only[M?,beq_eq_false_iff_ne,ne_eq]at A;obtain⟨rfl,hr⟩:=o _ _ _ _ h;exact⟨rfl,u,λe=>(A e).elim,λ_=>hr⟩
       .cases h
      .cases h
     .rename_i K o0;split at h
      .rename_i u;split at h
       .rename_i A;obtain⟨rfl,hr⟩:=o _ _ _ _ h;refine⟨rfl,?_⟩;have hoff:∃c b,d? s g=M (M (c,b))/\c≠b:=by
         unfold Pl at A;split at A
         .cases A
         .cases A
         .rename_i c b B;simp only[M?,beq_eq_false_iff_ne,ne_eq]at A;exact⟨c,b,B,A⟩
        simp only[Nj,K]
        cases hf:s.cv f with
        |fn k first caps=>exact absurd hf (o0 k first caps)
        |_=>exact⟨u,hoff,hr⟩
       .cases h
      .cases h
     .cases h
 |f k ds=>
  simp only[run]at h;split at h
  .rename_i F hk;split at h
   .rename_i d m' I;simp only[M?,F!]at h;obtain⟨rfl,rfl⟩:=h;intro d0 t;simp only[Aag,and_true]at t;subst t;exact Ps H o hk I
   .cases h
  .rename_i F hk;split at h
   .split at h
    .rename_i e1 d m1 K;simp only[M?,F!]at h;obtain⟨rfl,rfl⟩:=h;intro d0 t;simp only[Aag,and_true]at t;subst t;exact o _ _ _ _ K d rfl s.m
    .cases h
   .split at h
    .rename_i d m' I;simp only[M?,F!]at h;obtain⟨rfl,rfl⟩:=h;intro d0 t;simp only[Aag,and_true]at t;subst t;exact Ps H o hk I
    .cases h
  .rename_i F hk;split at h
   .rename_i d m' I;split at h
    .rename_i d2 hl;simp only[M?,F!]at h;obtain⟨rfl,rfl⟩:=h;intro d0 t;simp only[Aag,and_true]at t;subst t;exact xQ 8 hl (Ps H o hk (by simpa using I))
    .cases h
   .cases h
  .rename_i F md hk;split at h
   .rename_i d hc;simp only[M?,F!]at h;obtain⟨rfl,rfl⟩:=h;intro d0 t;simp only[Aag,and_true]at t;subst t;exact hO _ _ _ hk _ _ _ hc
   .cases h
  .cases h
 |p k ds=>
  simp only[run]at h;split at h
  .rename_i F md hk;split at h
   .rename_i d hc;simp only[M?,F!]at h;obtain⟨rfl,rfl⟩:=h;intro d0 t m;simp only[Aag,and_true]at t;subst t;exact hO _ _ _ hk _ _ _ hc
   .cases h
  .rename_i F md _ hk;split at h
   .rename_i Q;split at h
    .rename_i d m' I;simp only[M?,F!]at h;obtain⟨rfl,rfl⟩:=h;intro d0 t m;simp only[Aag,and_true]at t;subst t;have hc:=Ps H o hk I;refine(Cp (R:=λd'=>d'=ob 8 m' d) 8 Q (hc.mono ?_) m).mono ?_
     .rintro d' X ⟨rfl,rfl⟩;rfl
     .rintro d' X ⟨⟨G,-⟩,h2⟩;exact⟨G,h2⟩
    .cases h
   .cases h
  .cases h
 |w p k ds=>
  simp only[run]at h;split at h
  .rename_i F md S Ca l hk hm;split at h
   .rename_i hl;split at h
    .rename_i d m' I;split at h
     .rename_i d2 e2 hw;simp only[M?,F!]at h;obtain⟨rfl,rfl⟩:=h;intro d0 e0 t Y m hm2;simp only[Aag,and_true]at t Y;subst t;subst Y;unfold ad6 at hw;split at hw
      .rename_i S' v l1 h0;cases hb:(zai S' S&&zai v 0)
       .rw[hb]at hw;cases hw
       .rw[hb]at hw;simp only[D?,Nat.beq_eq]at hb;obtain⟨rfl,rfl⟩:=hb;simp only[cond_true,M?,F!]at hw;obtain⟨rfl,rfl⟩:=hw;exact AQ (hm2.trans hm) hl h0 (Ps H o hk (by simpa using I))
      .cases hw
     .cases h
    .cases h
   .cases h
  .cases h
 |q k ds=>
  simp only[run]at h;split at h
  .rename_i Q;have:=o _ _ _ _ h;simp only[iM]at this⊢;intro d hd;rw[Ep Q];exact⟨λ_ h=>absurd h pah,λm _=>this d hd m⟩
  .split at h
   .rename_i F md hk;split at h
    .rename_i Z;split at h
     .rename_i d m' I;split at h
      .rename_i d2 hl;simp only[M?,F!]at h;obtain⟨rfl,rfl⟩:=h;intro d0 t;simp only[Aag,and_true]at t;subst t;refine⟨λid hi=>?_,λm hm=>?_⟩
       .obtain⟨S,v,l,G,-⟩:=dN Z hi;exact(Τ.1 G).1
       .have hfz:ds.map (ob 8 m)=ds.map (ob 8 s.m):=HG 8 λid hi=>by
         obtain⟨S,v,l,G,h2⟩:=dN Z hi;exact⟨hm id hi,S,v,l,G,h2⟩
        refine xQ 8 hl ?_;rw[hfz];exact Ps H o hk (by simpa using I)
      .cases h
     .cases h
    .cases h
   .cases h
def GK(L:List (Nat×S?)) (md:Nat->Nat) (k:Nat):Option (S?×Nat):=
 match L.lookup k with
 |some F=>M (F,md k)
 |none=>u4
def iQ(P:a35) (L:List (Nat×S?)):Prop:=∀p∈L,cu P p.1=M p.2/\((P.funcs[p.1]?).map λfn=>fn.name == "runtime.NumGoroutine")=M a30
theorem OJ{k:Nat}{F:S?}:∀{L:List (Nat×S?)},L.lookup k=M F->(k,F)∈L
 |[],h=>by simp at h
 |(j,G)::L,h=>by
  rw[List.lookup_cons]at h;split at h
  .rename_i hk;injection h with h;have:=beq_iff_eq.1 hk;subst this;subst h;exact List.mem_cons_self
  .exact List.mem_cons_of_mem _ (OJ h)
theorem Rad(h:iQ P L):∀k F m,GK L md k=M (F,m)->cu P k=M F/\((P.funcs[k]?).map λfn=>fn.name == "runtime.NumGoroutine")=M a30:=by
 intro k F m hk;unfold GK at hk;split at hk
 .rename_i G b;injection hk with hk;injection hk with a h2;subst a;exact h _ (OJ b)
 .cases hk
theorem IW(h:vU P md O):∀k F m,GK L md k=M (F,m+3)->∀ds d m,O k ds=M d->CallT P k ds m λd' m'=>d'=d/\m'=m:=by
 intro k F m hk;unfold GK at hk;split at hk
 .injection hk with hk;injection hk with h1 h2;exact h k U
 .cases hk
theorem U0(Ie:P.follows .mixedOrders=a29) (b:iQ P L) (hS:vU P md O) (n:Nat) {ds:List D}{d:D}
 (h:(match run (GK L md) O n (.p k ds) ⟨[],[]⟩with|some (_,s)=>av3 s ⟨[d],[]⟩|none=>a30)=a29) (m:List Ent):CallT P k ds m λd' a=>d'=d/\a=m:=by
 split at h
 .rename_i e s hr;have:=av2 h;subst this;exact z6 Ie (Rad b) (IW hS) n _ _ _ _ hr d rfl m
 .cases h
end
variable {α:Type}
def Ol(n:Nat) (f:Nat->α):α:=cak (f 0) (λk _=>f (k+1)) n
theorem Cn(n:Nat) (f:Nat->α):Ol n f=f n:=by cases n<;>rfl
def aX0(n:Int) (f:Int->α):α:=
 match n with
 |.ofNat n=>Ol n λn=>f (.ofNat n)
 |.negSucc n=>Ol n λn=>f (.negSucc n)
theorem au4(n:Int) (f:Int->α):aX0 n f=f n:=by cases n<;>simp[aX0,Cn]
def fV(v:a32) (f:a32->α):α:=
 match v with
 |.int k n=>aX0 n λn=>match k with
  |.i8=>f (.int .i8 n)|.i16=>f (.int .i16 n)|.i32=>f (.int .i32 n)|b!=>f (.int b! n)
  |.u8=>f (.int .u8 n)|.u16=>f (.int .u16 n)|.u32=>f (.int .u32 n)|.u64=>f (.int .u64 n)
 |.bool b=>match b with
  |true=>f (.bool a29)
  |false=>f (.bool a30)
 |v=>f v
theorem aD6(v:a32) (f:a32->α):fV v f=f v:=by
 cases v<;>simp only[fV]
 .rename_i b;cases b<;>rfl
 .rename_i k n;rw[au4];cases k<;>rfl
mutual
def fD(d:D) (f:D->α):α:=
 match d with
 |.v x=>fV x λx=>f (.v x)
 |.agg l=>PM l λl=>f (.agg l)
 |.tup l=>PM l λl=>f (.tup l)
 |.sl S l=>Ol S λS=>PM l λl=>f (.sl S l)
 |.pt d=>fD d λd=>f (.pt d)
 |.ref a b c d=>Ol a λa=>Ol b λb=>Ol c λc=>Ol d λd=>f (.ref a b c d)
 |.own a b=>Ol a λa=>Ol b λb=>f (.own a b)
 |.view a b c d=>Ol a λa=>Ol b λb=>Ol c λc=>Ol d λd=>f (.view a b c d)
 |.fn g a b=>Ol g λg=>PM a λa=>PM b λb=>f (.fn g a b)
 |.mp a=>Ol a λa=>f (.mp a)
 |.ifc t d=>Ol t λt=>fD d λd=>f (.ifc t d)
 |a!=>f a!
def PM(l:List D) (f:List D->α):α:=
 match l with
 |[]=>f []
 |d::l=>fD d λd=>PM l λl=>f (d::l)
end
mutual
theorem gy:∀(d:D) (f:D->α),fD d f=f d
 |.v x,f=>by simp[fD,aD6]
 |.agg l,f=>by simp[fD,qq l]
 |.tup l,f=>by simp[fD,qq l]
 |.sl S l,f=>by simp[fD,Cn,qq l]
 |.pt d,f=>by simp[fD,gy d]
 |.ref ..,f=>by simp[fD,Cn]
 |.own ..,f=>by simp[fD,Cn]
 |.view ..,f=>by simp[fD,Cn]
 |.fn g a b,f=>by simp[fD,Cn,qq a,qq b]
 |.mp ..,f=>by simp[fD,Cn]
 |.ifc t d,f=>by simp[fD,Cn,gy d]
 |a!,f=>by simp[fD]
theorem qq:∀(l:List D) (f:List D->α),PM l f=f l
 |[],f=>by simp[PM]
 |d::l,f=>by simp[PM,gy d,qq l]
end
def fL{β:Type}(l:List β) (f:List β->α):α:=
 match l with
 |[]=>f []
 |d::l=>fL l λl=>f (d::l)
theorem pC{β:Type}:∀(l:List β) (f:List β->α),fL l f=f l
 |[],f=>rfl
 |d::l,f=>by simp[fL,pC l]
def fE(e:Ent) (f:Ent->α):α:=
 match e with
 |.live S v l=>Ol S λS=>Ol v λv=>PM l λl=>f (.live S v l)
 |e=>f e
theorem cY(e:Ent) (f:Ent->α):fE e f=f e:=by cases e<;>simp[fE,Cn,qq]
def fM(l:List Ent) (f:List Ent->α):α:=
 match l with
 |[]=>f []
 |e::l=>fE e λe=>fM l λl=>f (e::l)
theorem dY:∀(l:List Ent) (f:List Ent->α),fM l f=f l
 |[],f=>rfl
 |d::l,f=>by simp[fM,cY,dY l]
def f1{β:Type}(l:List β) (f:List β->α):α:=
 match l with
 |[]=>f []
 |d::l=>f (d::l)
theorem sJ{β:Type}(l:List β) (f:List β->α):f1 l f=f l:=by cases l<;>rfl
noncomputable section
def aO5(l:List D):Nat->D:=List.rec (motive:=λ_=>Nat->D) (λ_=>a!) (λd _ a i=>cak d (λi _=>a i) i) l
def aP:∀(l:List D) (i:Nat),aO5 l i=l.getD i a!
 |[],i=>rfl
 |d::l,0=>rfl
 |d::l,i+1=>aP l i
def Aad{α β:Type}(l:List β) (x:β):Nat->(List β->α)->α:=
 List.rec (motive:=λ_=>Nat->(List β->α)->α) (λ_ f=>f []) (λd l a i f=>cak (f (x::l)) (λi _=>a i λl=>f (d::l)) i) l
def YH{α β:Type}(x:β):∀(l:List β) (i:Nat) (f:List β->α),Aad l x i f=f (l.set i x)
 |[],i,f=>rfl
 |d::l,0,f=>rfl
 |d::l,i+1,f=>YH x l i (λl=>f (d::l))
def Nl(t:List D) (x:a34):D:=
 match x with
 |.tmp i=>aO5 t i
 |x=>St.ev ⟨t,[]⟩ x
theorem NC(s:St) (x:a34):Nl s.t x=s.ev x:=by
 cases x<;>simp[Nl,St.ev,aP]
def ecF(s:St) (f:Cal):D:=
 match f with
 |.tmp t=>Nl s.t (.tmp t)
 |f=>s.ec f
theorem aY4(s:St) (f:Cal):ecF s f=s.ec f:=by
 cases f<;>simp[ecF,NC,St.ec]
def cvF(s:St) (f:Cal):D:=
 match f with
 |.tmp t=>Nl s.t (.tmp t)
 |f=>s.cv f
theorem aZ3(s:St) (f:Cal):cvF s f=s.cv f:=by
 cases f<;>simp[cvF,NC,St.cv]
def wv(k:a39):Int:=
 match k with
 |.i8=>256|.i16=>65536|.i32=>4294967296|b!=>18446744073709551616
 |.u8=>256|.u16=>65536|.u32=>4294967296|.u64=>18446744073709551616
theorem RY(k:a39):wv k=2 ^ k.bits:=by cases k<;>rfl
def BC(n h m:Int):Int:=bif D1 (n % m>=h)then n % m-m else n % m
def aa(k:a39) (n:Int):Int:=
 match k with
 |.i8=>BC n 128 256
 |.i16=>BC n 32768 65536
 |.i32=>BC n 2147483648 4294967296
 |b!=>BC n 9223372036854775808 18446744073709551616
 |.u8=>n % 256
 |.u16=>n % 65536
 |.u32=>n % 4294967296
 |.u64=>n % 18446744073709551616
theorem Qb(k:a39) (n:Int):aa k n=k.wrap n:=by
 cases k<;>simp[aa,BC,IntKind.wrap,IntKind.bits,IntKind.signed,cond_eq_ite]
def cx(op:Nat->Nat->Nat) (k:a39) (x y:Int):a32:=.int k (aa k (op (x % wv k).toNat (y % wv k).toNat:Nat))
theorem y5(k:a39) (x:Int):(BitVec.ofInt k.bits x).toNat=(x % wv k).toNat:=by
 rw[BitVec.toNat_ofInt,RY];norm_cast
def Fa(op:BinOp) (j:a39) (a:Int) (k:a39) (b:Int):Option a32:=
 match op with
 |.add=>bif D1 (j=k)then M (.int j (aa j (a+b)))else u4
 |.sub=>bif D1 (j=k)then M (.int j (aa j (a-b)))else u4
 |.mul=>bif D1 (j=k)then M (.int j (aa j (a*b)))else u4
 |.eql=>bif D1 (j=k)then M (.bool (a==b))else u4
 |.neq=>bif D1 (j=k)then M (.bool (a !=b))else u4
 |.lss=>bif D1 (j=k)then M (.bool (D1 (a<b)))else u4
 |.leq=>bif D1 (j=k)then M (.bool (D1 (a<=b)))else u4
 |.gtr=>bif D1 (j=k)then M (.bool (D1 (b<a)))else u4
 |.geq=>bif D1 (j=k)then M (.bool (D1 (b<=a)))else u4
 |.and=>bif D1 (j=k)then M (cx Nat.land j a b)else u4
 |.or=>bif D1 (j=k)then M (cx Nat.lor j a b)else u4
 |.xor=>bif D1 (j=k)then M (cx Nat.xor j a b)else u4
 |.quo=>bif D1 (j=k)&&!D1 (b=0)then M (.int j (aa j (a.tdiv b)))else u4
 |.rem=>bif D1 (j=k)&&!D1 (b=0)then M (.int j (a.tmod b))else u4
 |.shl=>bif D1 (b<0)then u4 else M (.int j (aa j (a*((2 ^ (min b.toNat j.bits):Nat):Int))))
 |.shr=>bif D1 (b<0)then u4 else M (.int j (a.fdiv ((2 ^ (min b.toNat j.bits):Nat):Int)))
 |op=>Yd (binOp op 0 (.int j a) (.int k b))
theorem ug(op:BinOp) (j:a39) (a:Int) (k:a39) (b:Int):Fa op j a k b=Yd (binOp op 0 (.int j a) (.int k b)):=by
 have c:∀{α:Type} (x:String),Yd (stuck x:Sem α)=u4:=λ_=>rfl;have f:∀{α:Type} (x:α),Yd (pure x:Sem α)=M x:=λ_=>rfl;have d:∀{α:Type} x,Yd (runtimePanic x:Sem α)=u4:=λ_=>rfl;cases op
 case shl=>
  simp only[Fa,binOp,Op.shift,cond_eq_ite,R2];split<;>simp[c,f,d,Qb]
 case shr=>
  simp only[Fa,binOp,Op.shift,cond_eq_ite,R2];split<;>simp[c,f,d]
 all_goals
  by_cases e:j=k
  .subst e;simp[Fa,binOp,Op.intArith,Op.intCmp,Op.intBits,Op.intDiv,c,f,d,Qb,cx,y5,RY];(try rfl);(try (split<;>simp[c,f,d,Qb, *]))
  .simp[Fa,binOp,e,c]
def unJ(op:UnOp) (a:a32):Option a32:=
 match op,a with
 |.not,.bool b=>M (.bool !b)
 |op,a=>Yd (Op.unary op a)
theorem aI0(op:UnOp) (a:a32):unJ op a=Yd (Op.unary op a):=by
 unfold unJ;split
 .rfl
 .rfl
def aD8(s:St) (x:a34):Option (D×List Ent):=M (Nl s.t x,s.m)
def RX(s:St) (c:a34) (a:a34) (b:a34):Option (D×List Ent):=
 match Nl s.t c with
 |.v (.bool t)=>M (bif t then Nl s.t a else Nl s.t b,s.m)
 |_=>u4
def Jaa(s:St) (op:BinOp) (x:a34) (y:a34):Option (D×List Ent):=
 match Nl s.t x,Nl s.t y with
 |.v (.int j a),.v (.int k b)=>(Fa op j a k b).map λr=>(.v r,s.m)
 |.v (.string a),.v (.string b)=>(Yd (binOp op 0 (.string a) (.string b))).map λr=>(.v r,s.m)
 |_,_=>u4
def Iaa(s:St) (neg:Bool) (x:a34) (y:a34):Option (D×List Ent):=
 match Nl s.t x,Nl s.t y with
 |.v (.bool a),.v (.bool b)=>M (.v (.bool ((a==b) !=neg)),s.m)
 |_,_=>u4
def aD7(s:St) (op:UnOp) (x:a34):Option (D×List Ent):=
 match Nl s.t x with
 |.v a=>(unJ op a).map λr=>(.v r,s.m)
 |_=>u4
def LX(s:St) (k:a39) (x:a34):Option (D×List Ent):=
 match Nl s.t x with
 |.v (.int _ n)=>M (.v (.int k (aa k n)),s.m)
 |_=>u4
def jR(s:St) (S:Nat) (z:D):Option (D×List Ent):=M (.ref s.m.length 0 0 0,s.m++[.live S 0 [z]])
def Kaa(s:St) (S:Nat) (x:a34):Option (D×List Ent):=if(Nl s.t x).ok=a29/\(Nl s.t x).cells.length=S then M (.ref s.m.length 0 0 0,s.m++[.live S 0 [Nl s.t x]])else u4
def kR(s:St) (z:List D) (ps:List (Nat×Nat×a34)):Option (D×List Ent):=(Wa s ps z).map λl=>(.agg l,s.m)
def JM(s:St) (S:Nat) (n:Nat) (z:D) (ps:List (Nat×a34)):Option (D×List Ent):=(oa s S ps (h! n z)).map λl=>(.own s.m.length 0,s.m++[.live S 0 l])
def NX(s:St) (A:Bool) (n:Nat) (x:a34):Option (D×List Ent):=
 match Nl s.t x with
 |.pt d=>
  match A,d with
  |true,.agg l=>if l.length=n then M (d,s.m)else u4
  |true,_=>u4
  |false,.agg _=>u4
  |false,d=>if d.ok=a29 then M (d,s.m)else u4
 |.ref id Ca e! sub=>
  match s.m[id]? with
  |some (.live _ a l)=>if a=Ca then(l[e!]?).bind λd=>if d.ok=a29 then(part A n sub d.cells).map λr=>(r,s.m)else u4 else u4
  |_=>u4
 |_=>u4
def vR(s:St) (n:Nat) (x:a34) (y:a34):Option (D×List Ent):=
 match Nl s.t x with
 |.ref id Ca e! sub=>
  match s.m[id]? with
  |some (.live S a l)=>
   if a=Ca/\(Nl s.t y).ok=a29/\(Nl s.t y).cells.length=n then
    (l[e!]?).bind λd=>if d.ok=a29/\0<n/\sub+n<=d.cells.length then M (a!,s.m.set id (.live S a (l.set e! (d.Xb sub (Nl s.t y).cells))))else u4
   else u4
  |_=>u4
 |_=>u4
def QX(s:St) (x:a34):Option (D×List Ent):=
 match Nl s.t x with
 |.ref ..=>M (Nl s.t x,s.m)
 |.pt _=>M (Nl s.t x,s.m)
 |_=>u4
def uR(s:St) (S:Nat) (x:a34) (lo:Option a34) (hi:Option a34) (mx:Option a34):Option (D×List Ent):=
 match pa s.m (Nl s.t x)with
 |some n=>
  match bound s 0 lo,bound s n hi,bound s n mx with
  |some l,M h,M k=>if h<=k/\k<=n then(Ta S s.m (Nl s.t x) l h).map λr=>(r,s.m)else u4
  |_,_,_=>u4
 |none=>u4
def lR(s:St) (A:Bool) (n:Nat) (off:Nat) (x:a34):Option (D×List Ent):=
 match Nl s.t x with
 |.pt (.agg l)=>(part A n off l).map λr=>(.pt r,s.m)
 |.ref id Ca e! sub=>M (.ref id Ca e! (sub+off),s.m)
 |_=>u4
def mR(s:St) (A:Bool) (n:Nat) (off:Nat) (x:a34):Option (D×List Ent):=
 match Nl s.t x with
 |.agg l=>(part A n off l).map λr=>(r,s.m)
 |_=>u4
def nR(s:St) (S:Nat) (x:a34) (i:a34):Option (D×List Ent):=
 match Nl s.t i with
 |.v (.int _ k)=>
  if 0<=k then
   match Nl s.t x with
   |.sl S' l=>if S'=S then(l[k.toNat]?).map λd=>(.pt d,s.m)else u4
   |.own id Ca=>
    match s.m[id]? with
    |some (.live S' a l)=>if S'=S/\a=Ca/\k.toNat<l.length then M (.ref id Ca k.toNat 0,s.m)else u4
    |_=>u4
   |.view id Ca lo n=>
    match s.m[id]? with
    |some (.live S' a l)=>if S'=S/\a=Ca/\k.toNat<n/\lo+n<=l.length then M (.ref id Ca (lo+k.toNat) 0,s.m)else u4
    |_=>u4
   |_=>u4
  else u4
 |_=>u4
def iR(s:St) (A:Bool) (S:Nat) (len:Nat) (x:a34) (i:a34):Option (D×List Ent):=
 match Nl s.t i with
 |.v (.int _ k)=>
  if 0<=k/\k.toNat<len then
   match Nl s.t x with
   |.pt (.agg l)=>(part A S (k.toNat*S) l).map λr=>(.pt r,s.m)
   |.ref id Ca e! sub=>M (.ref id Ca e! (sub+k.toNat*S),s.m)
   |_=>u4
  else u4
 |_=>u4
def oR(s:St) (A:Bool) (S:Nat) (len:Nat) (x:a34) (i:a34):Option (D×List Ent):=
 match Nl s.t i with
 |.v (.int _ k)=>
  if 0<=k/\k.toNat<len then
   match Nl s.t x with
   |.agg l=>(part A S (k.toNat*S) l).map λr=>(r,s.m)
   |_=>u4
  else u4
 |_=>u4
def oJ(s:St) (x:a34) (i:Nat):Option (D×List Ent):=
 match Nl s.t x with
 |.tup l=>(l[i]?).map λd=>(d,s.m)
 |_=>u4
def Naa(s:St) (x:a34):Option (D×List Ent):=(pa s.m (Nl s.t x)).map λ(n:Nat)=>(D.v (.int b! (n:Int)),s.m)
def TX(s:St) (x:a34):Option (D×List Ent):=
 match Nl s.t x with
 |.v (.string b)=>M (.v (.int b! (b.size:Int)),s.m)
 |_=>u4
def IM(s:St) (S:Nat) (bytes:Nat) (x:a34) (y:a34):Option (D×List Ent):=
 match c! S s.m (Nl s.t y)with
 |some r=>
  match Nl s.t x with
  |.v (.slice u4 0 0)=>if r.length*bytes<=2 ^ 47 then M (.own s.m.length 0,s.m++[.live S 0 r])else u4
  |.own id Ca=>
   match s.m[id]? with
   |some (.live S' a l)=>if S'=S/\a=Ca/\(l.length+r.length)*bytes<=2 ^ 47 then M (.own id (Ca+1),s.m.set id (.live S (Ca+1) (l++r)))else u4
   |_=>u4
  |_=>u4
 |none=>u4
def pJ(s:St) (S:Nat) (bytes:Nat) (z:D) (l:a34) (c:a34):Option (D×List Ent):=
 match Nl s.t l,Nl s.t c with
 |.v (.int b! n),.v (.int b! k)=>
  if 0<=n/\n<=k/\k<=2 ^ 62/\k.toNat*bytes<=2 ^ 48 then M (.own s.m.length 0,s.m++[.live S 0 (h! n.toNat z)])else u4
 |_,_=>u4
def LM(s:St) (f:a38) (first:List a34) (caps:List a34):Option (D×List Ent):=M (.fn f (first.map (Nl s.t)) (caps.map (Nl s.t)),s.m)
def MX(s:St):Option (D×List Ent):=u4
def aD9(s:St) (isMax:Bool) (xs:List a34):Option (D×List Ent):=
 match d! (xs.map (Nl s.t))with
 |some vs=>(Yd (if isMax then Builtin.max_ #[] 0 vs.toArray else Builtin.min_ #[] 0 vs.toArray)).map λr=>(.v r,s.m)
 |none=>u4
def Laa(s:St) (neg:Bool) (ks:List Nat) (x:a34) (y:a34):Option (D×List Ent):=
 match Nl s.t x,Nl s.t y with
 |.agg l,.agg r=>(Zc ks l r).map λt=>(.v (.bool (t !=neg)),s.m)
 |_,_=>u4
def UX(s:St) (S:Nat) (x:a34):Option (D×List Ent):=
 match Nl s.t x with
 |.own id Ca=>
  match s.m[id]? with
  |some (.live S' a l)=>if S'=S/\a=Ca/\0<l.length/\l.all isV=a29 then M (.sl S l,s.m.set id .gone)else u4
  |_=>u4
 |_=>u4
def SX(s:St) (x:a34) (i:a34):Option (D×List Ent):=
 match Nl s.t x,Nl s.t i with
 |.v (.string b),.v (.int _ k)=>if h:0<=k/\k.toNat<b.size then M (.v (.int .u8 (b[k.toNat]'h.2).toNat),s.m)else u4
 |_,_=>u4
def MM(s:St) (x:a34) (lo:Option a34) (hi:Option a34):Option (D×List Ent):=
 match Nl s.t x with
 |.v (.string b)=>
  match bound s 0 lo,bound s b.size hi with
  |some l,M h=>if l<=h/\h<=b.size then M (.v (.string (b.extract l h)),s.m)else u4
  |_,_=>u4
 |_=>u4
def rR(s:St):Option (D×List Ent):=M (.mp s.m.length,s.m++[.mp []])
def sR(s:St) (K:Nat) (ok:Bool) (z:D) (x:a34) (k:a34):Option (D×List Ent):=
 match Nl s.t k with
 |.v a=>
  if u! K a=a29 then
   match Nl s.t x with
   |.v (.map u4)=>M (if ok then .tup [z,.v (.bool a30)]else z,s.m)
   |.mp id=>
    match s.m[id]? with
    |some (.mp es)=>
     if(es.all λe=>u! K e.1)=a29 then
      match fo a es with
      |some d=>M (if ok then .tup [d,.v (.bool a29)]else d,s.m)
      |none=>M (if ok then .tup [z,.v (.bool a30)]else z,s.m)
     else u4
    |_=>u4
   |_=>u4
  else u4
 |_=>u4
def PX(s:St) (K:Nat) (m:a34) (k:a34) (x:a34):Option (D×List Ent):=
 match Nl s.t k,Nl s.t m with
 |.v a,.mp id=>
  match s.m[id]? with
  |some (.mp es)=>if u! K a=a29/\(es.all λe=>u! K e.1)=a29 then M (a!,s.m.set id (.mp (Er a (Nl s.t x) es)))else u4
  |_=>u4
 |_,_=>u4
def OX(s:St) (x:a34):Option (D×List Ent):=
 match Nl s.t x with
 |.v (.map u4)=>M (.v (.int b! 0),s.m)
 |.mp id=>
  match s.m[id]? with
  |some (.mp es)=>M (.v (.int b! (es.length:Int)),s.m)
  |_=>u4
 |_=>u4
def wR(s:St) (S:Nat) (x:a34) (lo hi:Option a34):Option (D×List Ent):=
 match Nl s.t x with
 |.own id Ca=>
  match s.m[id]? with
  |some (.live S' b l)=>
   match bound s 0 lo,bound s l.length hi with
   |some a,M h=>if a<=h/\S'=S/\b=Ca/\h<=l.length then M (.own id (Ca+1),s.m.set id (.live S (Ca+1) ((l.take h).drop a)))else u4
   |_,_=>u4
  |_=>u4
 |d=>
  match pa s.m d with
  |some n=>
   match bound s 0 lo,bound s n hi,bound s n u4 with
   |some l,M h,M k=>if h<=k/\k<=n then(Ta S s.m d l h).map λr=>(r,s.m)else u4
   |_,_,_=>u4
  |none=>u4
def qR(s:St) (t:a36) (x:a34):Option (D×List Ent):=M (.ifc t (Nl s.t x),s.m)
def qJ(s:St) (ok:Bool) (t:a36) (z:D) (x:a34):Option (D×List Ent):=
 match Nl s.t x with
 |.ifc t' d=>if t'=t then M (if ok then .tup [d,.v (.bool a29)]else d,s.m)else if ok=a29 then M (.tup [z,.v (.bool a30)],s.m)else u4
 |_=>u4
def Maa(s:St) (S:Nat) (z:D) (x:a34):Option (D×List Ent):=
 match Nl s.t x with
 |.v (.slice u4 0 0)=>M (a!,s.m)
 |.view id Ca lo n=>
  match s.m[id]? with
  |some (.live S' a l)=>if S'=S/\a=Ca/\lo+n<=l.length then M (a!,s.m.set id (.live S Ca (l.take lo++h! n z++l.drop (lo+n))))else u4
  |_=>u4
 |_=>u4
def KX(s:St) (x:a34):Option (D×List Ent):=
 match Nl s.t x with
 |.v (.slice u4 0 0)=>M (.v (.int b! 0),s.m)
 |_=>u4
def tR(s:St) (neg:Bool) (x:a34):Option (D×List Ent):=
 match Nl s.t x with
 |.v (.slice a _ _)=>M (.v (.bool (a.isNone !=neg)),s.m)
 |.sl _ (_::_)=>M (.v (.bool neg),s.m)
 |.own id Ca=>
  match s.m[id]? with
  |some (.live _ b (_::_))=>if b=Ca then M (.v (.bool neg),s.m)else u4
  |_=>u4
 |_=>u4
def pR(s:St) (S:Nat) (bytes:Nat) (z:D) (x:a34) (n:a34):Option (D×List Ent):=
 match Nl s.t x,Nl s.t n with
 |.v (.slice u4 0 0),.v (.int b! k)=>if 0<k/\k.toNat*bytes<=2 ^ 47 then M (.own s.m.length 0,s.m++[.live S 0 (h! k.toNat z)])else u4
 |_,_=>u4
def evJ(s:St) (i:I):Option (D×List Ent):=
 match i with
 |.mv x=>aD8 s x
 |.pick c a b=>RX s c a b
 |.bin op x y=>Jaa s op x y
 |.beq neg x y=>Iaa s neg x y
 |.un op x=>aD7 s op x
 |.conv k x=>LX s k x
 |.alloc S z=>jR s S z
 |.box S x=>Kaa s S x
 |.build z ps=>kR s z ps
 |.bslice S n z ps=>JM s S n z ps
 |.load A n x=>NX s A n x
 |.store n x y=>vR s n x y
 |.nilc x=>QX s x
 |.slice S x lo hi mx=>uR s S x lo hi mx
 |.faddr A n off x=>lR s A n off x
 |.field A n off x=>mR s A n off x
 |.iaddr S x i=>nR s S x i
 |.aaddr A S len x i=>iR s A S len x i
 |.index A S len x i=>oR s A S len x i
 |.extract x i=>oJ s x i
 |.len x=>Naa s x
 |.slen x=>TX s x
 |.append S bytes x y=>IM s S bytes x y
 |.mkslice S bytes z l c=>pJ s S bytes z l c
 |.mkfunc f first caps=>LM s f first caps
 |.fail=>MX s
 |.mm isMax xs=>aD9 s isMax xs
 |.ceq neg ks x y=>Laa s neg ks x y
 |.strb S x=>UX s S x
 |.xy x i=>SX s x i
 |.sslice x lo hi=>MM s x lo hi
 |.mkmap=>rR s
 |.mlook K ok z x k=>sR s K ok z x k
 |.mput K m k x=>PX s K m k x
 |.mlen x=>OX s x
 |.trunc S x lo hi=>wR s S x lo hi
 |.mkifc t x=>qR s t x
 |.tassert ok t z x=>qJ s ok t z x
 |.clr S z x=>Maa s S z x
 |.capn x=>KX s x
 |.Mp neg x=>tR s neg x
 |.mkapp S bytes z x n=>pR s S bytes z x n
theorem aX3(s:St) (i:I):evJ s i=ba s i:=by
 have h:Nl s.t=s.ev:=by funext x;exact NC s x
 cases i<;>simp only[evJ,ba,aD8,RX,Jaa,Iaa,aD7,LX,jR,Kaa,kR,JM,NX,vR,QX,uR,lR,mR,nR,iR,oR,oJ,Naa,TX,IM,pJ,LM,MX,aD9,Laa,UX,SX,MM,rR,sR,PX,OX,wR,qR,qJ,Maa,KX,tR,pR,h,ug,Qb,aI0]<;>rfl
abbrev Kt:=Exit->St->Option (Exit×St)
abbrev Rt:=W->St->Kt->Option (Exit×St)
def DA(t:List D) (dst:Option Tmp) (d:D) (m:List Ent) (f:St->Option (Exit×St)):Option (Exit×St):=
 match dst with
 |some i=>Aad t d i λt=>f1 m λm=>f ⟨t,m⟩
 |none=>f1 t λt=>f1 m λm=>f ⟨t,m⟩
def f0{α:Type}(d:D) (f:D->α):α:=
 match d with
 |.v x=>f (.v x)
 |.agg l=>f (.agg l)
 |.tup l=>f (.tup l)
 |.sl S l=>f (.sl S l)
 |.pt d=>f (.pt d)
 |.ref a b c d=>f (.ref a b c d)
 |.own a b=>f (.own a b)
 |.view a b c d=>f (.view a b c d)
 |.fn g a b=>f (.fn g a b)
 |.mp a=>f (.mp a)
 |.ifc t d=>f (.ifc t d)
 |a!=>f a!
theorem bH6{α:Type}(d:D) (f:D->α):f0 d f=f d:=by cases d<;>rfl
def fS{α:Type}(d:D) (f:D->α):α:=
 match d with
 |.v x=>fV x λx=>f (.v x)
 |.agg l=>fL l λl=>f (.agg l)
 |.tup l=>fL l λl=>f (.tup l)
 |.sl S l=>Ol S λS=>fL l λl=>f (.sl S l)
 |.pt d=>fD d λd=>f (.pt d)
 |.ref a b c d=>Ol a λa=>Ol b λb=>Ol c λc=>Ol d λd=>f (.ref a b c d)
 |.own a b=>Ol a λa=>Ol b λb=>f (.own a b)
 |.view a b c d=>Ol a λa=>Ol b λb=>Ol c λc=>Ol d λd=>f (.view a b c d)
 |.fn g a b=>Ol g λg=>PM a λa=>PM b λb=>f (.fn g a b)
 |.mp a=>Ol a λa=>f (.mp a)
 |.ifc t d=>Ol t λt=>fD d λd=>f (.ifc t d)
 |a!=>f a!
theorem bH5{α:Type}(d:D) (f:D->α):fS d f=f d:=by cases d<;>simp[fS,aD6,pC,Cn,gy,qq]
def AR{α:Type}(l:List Ent) (f:List Ent->α):α:=
 match l with
 |[]=>f []
 |e::l=>
  match l with
  |[]=>fE e λe=>f [e]
  |e'::l=>AR (e'::l) λl=>f (e::l)
theorem BR{α:Type}:∀(l:List Ent) (f:List Ent->α),AR l f=f l
 |[],f=>rfl
 |[e],f=>by simp[AR,cY]
 |e::e'::l,f=>by simp[AR,BR (e'::l)]
def fId(i:I) (d:D) (f:D->Option (Exit×St)):Option (Exit×St):=
 match i with
 |.mv _=>f0 d f
 |.pick ..=>f0 d f
 |.nilc _=>f0 d f
 |.extract ..=>f0 d f
 |.mlook ..=>f0 d f
 |.load a30 _ _=>f0 d f
 |_=>fS d f
theorem aX1(i:I) (d:D) (f:D->Option (Exit×St)):fId i d f=f d:=by unfold fId;split<;>simp[bH6,bH5]
def FW(s:St) (n:Nat) (x y:a34) (dst:Option Tmp) (f:St->Option (Exit×St)):Option (Exit×St):=
 match Nl s.t x with
 |.ref id Ca e! sub=>
  match s.m[id]? with
  |some (.live S a l)=>
   if a=Ca/\(Nl s.t y).ok=a29/\(Nl s.t y).cells.length=n then
    match l[e!]? with
    |some d=>
     if d.ok=a29/\0<n/\sub+n<=d.cells.length then
      fD (d.Xb sub (Nl s.t y).cells) λd'=>Aad l d' e! λl'=>Aad s.m (.live S a l') id λm'=>DA s.t dst .dead m' f
     else u4
    |none=>u4
   else u4
  |_=>u4
 |_=>u4
def aO(s:St) (S bytes:Nat) (x y:a34) (dst:Option Tmp) (f:St->Option (Exit×St)):Option (Exit×St):=
 match c! S s.m (Nl s.t y)with
 |some r=>
  match Nl s.t x with
  |.v (.slice u4 0 0)=>if r.length*bytes<=2 ^ 47 then Ol s.m.length λid=>fL r λr=>fL (s.m++[.live S 0 r]) λm'=>DA s.t dst (.own id 0) m' f else u4
  |.own id Ca=>
   match s.m[id]? with
   |some (.live S' a l)=>
    if S'=S/\a=Ca/\(l.length+r.length)*bytes<=2 ^ 47 then
     Ol (Ca+1) λb=>fL (l++r) λl'=>Aad s.m (.live S b l') id λm'=>DA s.t dst (.own id b) m' f
    else u4
   |_=>u4
  |_=>u4
 |none=>u4
def onK(s:St) (i:I) (dst:Option Tmp) (f:St->Option (Exit×St)):Option (Exit×St):=
 match i with
 |.store n x y=>FW s n x y dst f
 |.append S b x y=>aO s S b x y dst f
 |i=>
  match evJ s i with
  |some r=>fId i r.1 λd=>if i.cls<=1 then DA s.t dst d r.2 f else if i.cls=2 then AR r.2 λm'=>DA s.t dst d m' f else fM r.2 λm'=>DA s.t dst d m' f
  |none=>u4
def jab(s:St) (t:Tmp) (b:Bool):Option Bool:=
 match aO5 s.t t with
 |.v x=>match x with
  |.bool c=>M (c==b)
  |_=>M (!b==b)
 |_=>u4
def opK(s:St) (dst:Option Tmp) (g:Option (Tmp×Bool)) (i:I) (f:St->Option (Exit×St)):Option (Exit×St):=
 match g with
 |none=>onK s i dst f
 |some tb=>
  match jab s tb.1 tb.2 with
  |none=>u4
  |some a29=>onK s i dst f
  |some a30=>DA s.t dst (.v undef) s.m f
def aC9(FT:Nat->Option (S?×Nat)) (rc:Rt) (q:Nat) (bs:List (List Nat)) (l:List RI) (s:St) (k:Kt):Option (Exit×St):=
 PM (pA FT l (l.take q) (Yt l (l.take q) s)).t λt=>fM (pA FT l (l.take q) (Yt l (l.take q) s)).m λm=>rc (.an q bs l) ⟨t,m⟩ k
def bE5(FT:Nat->Option (S?×Nat)) (rc:Rt) (q:Nat) (l:List RI) (s:St) (k:Kt):Option (Exit×St):=
 fL (wpl FT (l.take q) s) λpl=>PM (at3 FT (l.take q) s).t λt=>fM (at3 FT (l.take q) s).m λm=>
 if uB m pl=a29 then rc (.yo pl (au q) [] q l) ⟨t,m⟩ k else u4
def goC(FT:Nat->Option (S?×Nat)) (rc:Rt) (c:C) (s:St) (k:Kt):Option (Exit×St):=
 match c with
 |.skip=>k .normal s
 |.vD l=>rc (.l l) s k
 |.draw q l=>if((l.take q).filterMap (NT FT s)).isEmpty=a29 then rc (.yo [] [] [] q l) s k else bE5 FT rc q l s k
 |.any _ q bs l=>aC9 FT rc q bs l s k
 |.seq a b=>rc (.c a) s λe s'=>match e with|.normal=>rc (.c b) s' k|e=>k e s'
 |.cond c a b=>
  match Nl s.t c with
  |.v (.bool t)=>match t with|true=>rc (.c a) s k|false=>rc (.c b) s k
  |_=>u4
 |.block id a=>rc (.c a) s λe s'=>match e with|.exit j=>if j=id then k .normal s' else k (.exit j) s'|e=>k e s'
 |.loop a=>rc (.c a) s λe s'=>match e with|.normal=>rc (.c (.loop a)) s' k|e=>k e s'
 |.exit id=>k (.exit id) s
 |.ret=>k .ret s
 |.stuck=>u4
def goL(rc:Rt) (l:List RI) (s:St) (k:Kt):Option (Exit×St):=
 match l with
 |[]=>k .normal s
 |r::l=>
  match r with
  |.op dst g i=>opK s dst g i λs'=>rc (.l l) s' k
  |.call dst g f args=>
   match ecF s f with
   |.fn c first caps=>
    match Pl s g with
    |some a29=>Ol c λc=>PM (first++args.map (Nl s.t)++caps) λds=>rc (.f c ds) s λ_ s1=>match s1.t with|[d]=>DA s.t dst d s1.m λs'=>rc (.l l) s' k|_=>u4
    |some a30=>DA s.t dst (.v undef) s.m λs'=>rc (.l l) s' k
    |none=>u4
   |_=>
    match Pl s g with
    |some a30=>DA s.t dst (.v undef) s.m λs'=>rc (.l l) s' k
    |_=>u4
def bE6(rc:Rt) (q:Nat) (bs:List (List Nat)) (l:List RI) (s:St) (k:Kt):Option (Exit×St):=
 Ol s.m.length λn=>fL (v! (l.take q) n) λpl=>fL (WV bs q l pl) λps=>fL (s.m++(aD (l.take q)).map λS=>.live S 0 []) λm=>
 if(Mt bs l q ps pl&&uB m pl)=a29 then rc (.yo pl ps [] q l) ⟨s.t,m⟩ k else u4
def ar8(rc:Rt) (pl:List (Option Nat)) (ps fp:List (List Nat)) (q:Nat) (l:List RI) (s:St) (k:Kt):Option (Exit×St):=
 match q with
 |0=>rc (.l l) s k
 |q+1=>
  match l with
  |[]=>u4
  |r::l=>
   match r with
   |.op dst g i=>
    match pl.headD u4 with
    |some p=>
     match g with
     |none=>
      match Bl s p i with
      |some (d,e)=>if Mx fp [p] (ps.headD [])=a29 then fE e λe=>fL (s.m.set p e) λm=>DA s.t dst d m λs'=>f1 pl.tail λpl=>f1 ps.tail λps=>fL (fp++[[p]]) λfp=>rc (.yo pl ps fp q l) s' k else u4
      |none=>u4
     |some _=>u4
    |none=>
     fL (Nd s (.op dst g i)) λr=>
     if(Mx fp r (ps.headD [])&&Mf s i)=a29 then opK s dst g i λs'=>f1 pl.tail λpl=>f1 ps.tail λps=>fL (fp++[r]) λfp=>rc (.yo pl ps fp q l) s' k
     else u4
   |.call dst g f args=>
    match pl.headD u4,cvF s f with
    |some p,.fn c first caps=>
     fL (yb s args) λr=>
     if(Mx fp r (ps.headD [])&&wOk s p g r)=a29 then
      Ol c λc=>PM (first++args.map (Nl s.t)++caps) λds=>rc (.w p c ds) s λ_ s1=>match s1 with|⟨[d],[e]⟩=>fL (s.m.set p e) λm=>DA s.t dst d m λs'=>f1 pl.tail λpl=>f1 ps.tail λps=>fL (fp++[r]) λfp=>rc (.yo pl ps fp q l) s' k|_=>u4
     else u4
    |none,.fn c first caps=>
     fL (yb s args) λr=>
     if(Mx fp r (ps.headD [])&&(ea first&&ea caps))=a29 then
      match Pl s g with
      |some a29=>Ol c λc=>PM (first++args.map (Nl s.t)++caps) λds=>rc (.q c ds) s λ_ s1=>match s1.t with|[d]=>DA s.t dst d s.m λs'=>f1 pl.tail λpl=>f1 ps.tail λps=>fL (fp++[r]) λfp=>rc (.yo pl ps fp q l) s' k|_=>u4
      |some a30=>DA s.t dst (.v undef) s.m λs'=>f1 pl.tail λpl=>f1 ps.tail λps=>fL (fp++[r]) λfp=>rc (.yo pl ps fp q l) s' k
      |none=>u4
     else u4
    |none,_=>
     fL (yb s args) λr=>
     if Mx fp r (ps.headD [])=a29 then
      match Pl s g with
      |some a30=>DA s.t dst (.v undef) s.m λs'=>f1 pl.tail λpl=>f1 ps.tail λps=>fL (fp++[r]) λfp=>rc (.yo pl ps fp q l) s' k
      |_=>u4
     else u4
    |_,_=>u4
def aX7(F:S?) (s:St) (f:D->List Ent->Option (Exit×St)):Option (Exit×St):=
 match qa s F.results with
 |some es=>fD (ig es) λd=>f1 s.m λm=>f d m
 |none=>u4
def UD(F:S?) (f:D->List Ent->Option (Exit×St)):Kt:=λe s=>
 match e with
 |.normal=>aX7 F s f
 |.ret=>aX7 F s f
 |_=>u4
def goF(FT:Nat->Option (S?×Nat)) (O:Nat->List D->Option D) (rc:Rt) (k:Nat) (ds:List D) (s:St) (a:Kt):Option (Exit×St):=
 match FT k with
 |some (F,md)=>
  match md with
  |0=>fL (ds++h! (F.ntmps-ds.length) a!) λt=>f1 s.m λm=>rc (.c F.code) ⟨t,m⟩ (UD F λd m=>a .normal ⟨[d],m⟩)
  |md+1=>
   match md with
   |0=>
    if ea ds=a29 then rc (.p k ds) s λ_ s1=>match s1.t with|[d]=>a .normal ⟨[d],s.m⟩|_=>u4
    else fL (ds++h! (F.ntmps-ds.length) a!) λt=>f1 s.m λm=>rc (.c F.code) ⟨t,m⟩ (UD F λd m=>a .normal ⟨[d],m⟩)
   |md+1=>
    match md with
    |0=>PM (ds.map (ob 8 s.m)++h! (F.ntmps-ds.length) a!) λt=>rc (.c F.code) ⟨t,[]⟩ (UD F λd m'=>match ZR m' d with|some d=>fD d λd=>a .normal ⟨[d],s.m⟩|none=>u4)
    |_+1=>
     match O k ds with
     |some d=>fD d λd=>a .normal ⟨[d],s.m⟩
     |none=>u4
 |none=>u4
def goP(FT:Nat->Option (S?×Nat)) (O:Nat->List D->Option D) (rc:Rt) (k:Nat) (ds:List D) (a:Kt):Option (Exit×St):=
 match FT k with
 |some (_,_+3)=>
  match O k ds with
  |some d=>fD d λd=>a .normal ⟨[d],[]⟩
  |none=>u4
 |some (F,_)=>
  if ea ds=a29 then fL (ds++h! (F.ntmps-ds.length) a!) λt=>rc (.c F.code) ⟨t,[]⟩ (UD F λd m'=>fD (ob 8 m' d) λd=>a .normal ⟨[d],[]⟩)
  else u4
 |none=>u4
def goQ(FT:Nat->Option (S?×Nat)) (rc:Rt) (k:Nat) (ds:List D) (s:St) (a:Kt):Option (Exit×St):=
 if ea ds=a29 then rc (.p k ds) s a
 else
  match FT k with
  |some (F,_)=>
   if IV s.m ds=a29 then PM (ds.map (ob 8 s.m)++h! (F.ntmps-ds.length) a!) λt=>rc (.c F.code) ⟨t,[]⟩ (UD F λd m'=>match ZR m' d with|some d=>fD d λd=>a .normal ⟨[d],[]⟩|none=>u4)
   else u4
  |none=>u4
def goW(FT:Nat->Option (S?×Nat)) (rc:Rt) (p k:Nat) (ds:List D) (s:St) (a:Kt):Option (Exit×St):=
 match FT k,s.m[p]? with
 |some (F,_),M (.live S Ca l)=>
  if ea l=a29 then PM (ds.map (KA p Ca)++h! (F.ntmps-ds.length) a!) λt=>rc (.c F.code) ⟨t,[.live S 0 l]⟩ (UD F λd m'=>match ad6 S Ca d m' with|some (d,e)=>fD d λd=>fE e λe=>a .normal ⟨[d],[e]⟩|none=>u4)
  else u4
 |_,_=>u4
def go(FT:Nat->Option (S?×Nat)) (O:Nat->List D->Option D) (rc:Rt) (w:W) (s:St) (k:Kt):Option (Exit×St):=
 match w with
 |.c c=>goC FT rc c s k
 |.l l=>goL rc l s k
 |.an q bs l=>bE6 rc q bs l s k
 |.yo pl ps fp q l=>ar8 rc pl ps fp q l s k
 |.f c ds=>goF FT O rc c ds s k
 |.p c ds=>goP FT O rc c ds k
 |.q c ds=>goQ FT rc c ds s k
 |.w p c ds=>goW FT rc p c ds s k
def ab6(FT:Nat->Option (S?×Nat)) (O:Nat->List D->Option D) (n:Nat):Rt:=cak (motive:=λ_=>Rt) (λ_ _ _=>u4) (λ_ rc w s k=>go FT O rc w s k) n
section
variable {FT:Nat->Option (S?×Nat)} {O:Nat->List D->Option D}
theorem Zy(t:List D) (dst:Option Tmp) (d:D) (m:List Ent) (f:St->Option (Exit×St)):DA t dst d m f=f ((⟨t,m⟩:St).put dst d):=by
 cases dst<;>simp[DA,St.put,YH,sJ]
theorem R6(s:St) (n:Nat) (x y:a34) (dst:Option Tmp) (f:St->Option (Exit×St)):FW s n x y dst f=(match ba s (.store n x y)with|some (d,m')=>f ({ s with m:=m' }.put dst d)|none=>u4):=by
 simp only[FW,ba,NC,gy,YH,Zy]
 cases s.ev x with
 |ref id Ca e! sub=>
  simp only
  cases s.m[id]? with
  |none=>rfl
  |some e=>
   cases e with
   |live S ver' l=>
    simp only;split
    .cases l[e!]? with
     |none=>rfl
     |some d=>
      simp only[b?];split<;>rfl
    .rfl
   |_=>rfl
 |_=>rfl
theorem AU(s:St) (S bytes:Nat) (x y:a34) (dst:Option Tmp) (f:St->Option (Exit×St)):aO s S bytes x y dst f=(match ba s (.append S bytes x y)with|some (d,m')=>f ({ s with m:=m' }.put dst d)|none=>u4):=by
 simp only[aO,ba,NC,Cn,pC,YH,Zy]
 cases c! S s.m (s.ev y)with
 |none=>rfl
 |some r=>
  simp only;generalize s.ev x=dx;split
  .simp only;split<;>rfl
  .rename_i id Ca;simp only
   cases s.m[id]? with
   |none=>rfl
   |some e=>
    cases e with
    |live S' ver' l=>
     simp only;split<;>rfl
    |_=>rfl
  .rename_i a h2;split
   .rename_i h;split at h
    .exact(a rfl).elim
    .exact(h2 _ _ rfl).elim
    .cases h
   .rfl
theorem jac(s:St) (i:I) (dst:Option Tmp) (f:St->Option (Exit×St)):onK s i dst f=(match ba s i with|some (d,m')=>f ({ s with m:=m' }.put dst d)|none=>u4):=by
 unfold onK;split
 .exact R6 ..
 .exact AU ..
 .rw[aX3]
  cases ba s i with
  |none=>rfl
  |some r=>
   simp only[aX1,BR,dY,Zy];split
   .rfl
   .split<;>rfl
theorem kab(s:St) (t:Tmp) (b:Bool):jab s t b=Pl s (M (t,b)):=by
 unfold jab Pl d?;rw[aP];simp only
 cases s.t.getD t .dead with
 |v x=>cases x<;>first|rfl|(cases b<;>rfl)
 |_=>rfl
theorem lac(s:St) (dst:Option Tmp) (g:Option (Tmp×Bool)) (i:I) (f:St->Option (Exit×St)):opK s dst g i f=(match jw s dst g i with|some s'=>f s'|none=>u4):=by
 unfold opK
 cases g with
 |none=>
  simp only[jac,jw,d?]
  cases ba s i with
  |none=>rfl
  |some r=>rfl
 |some tb=>
  obtain⟨t,b⟩:=tb;simp only[kab,jac,Zy,jw,Pl]
  cases d? s (M (t,b))with
  |none=>rfl
  |some o=>
   cases o with
   |none=>
    cases ba s i with
    |none=>rfl
    |some r=>rfl
   |some d=>
    obtain⟨c,a⟩:=d;by_cases h:c=a
    .subst h;simp only[beq_self_eq_true,B?]
     cases ba s i with
     |none=>rfl
     |some r=>rfl
    .have:(c==a)=a30:=by simpa using h
     simp only[this,h,G1]
theorem jB{f:D->List Ent->Option (Exit×St)}(e:Exit) (s:St):UD F f e s=(match H' F (M (e,s))with|some (d,m)=>f d m|none=>u4):=by
 unfold UD H' aX7;cases e<;>simp only
 .cases qa s F.results with
  |none=>rfl
  |some es=>simp[gy,sJ]
 .cases qa s F.results with
  |none=>rfl
  |some es=>simp[gy,sJ]
theorem aj9:∀(n:Nat) (w:W) (s:St) (k:Kt),ab6 FT O n w s k=(match run FT O n w s with|some (e,s')=>k e s'|none=>u4):=by
 intro n;have A:∀(s:St) x,Nl s.t x=s.ev x:=NC;have u:∀(s:St) (l:List a34),l.map (Nl s.t)=l.map s.ev:=λs l=>by
  have:Nl s.t=s.ev:=by funext x;exact NC s x
  rw[this]
 induction n with
 |zero=>intro w s k;rfl
 |succ n o=>
  intro w s k;have B:ab6 FT O (n+1) w s k=go FT O (ab6 FT O n) w s k:=rfl;rw[B]
  cases w with
  |c c=>
   cases c with
   |skip=>rfl
   |vD l=>simp only[go,goC,run,o]
   |draw q l=>
    simp only[go,goC,bE5,run,o,pC,qq,dY];split
    .rfl
    .split<;>rfl
   |any cuts q bs l=>simp only[go,goC,aC9,run,o,qq,dY]
   |seq a b=>
    simp only[go,goC,run,o]
    cases run FT O n (.c a) s with
    |none=>rfl
    |some r=>obtain⟨e,s'⟩:=r;cases e<;>rfl
   |cond c a b=>
    simp only[go,goC,run,o,A]
    cases s.ev c with
    |v x=>
     cases x with
     |bool t=>cases t<;>rfl
     |_=>rfl
    |_=>rfl
   |block id a=>
    simp only[go,goC,run,o]
    cases run FT O n (.c a) s with
    |none=>rfl
    |some r=>
     obtain⟨e,s'⟩:=r
     cases e with
     |exit j=>by_cases h:j=id<;>simp[h]
     |_=>rfl
   |loop a=>
    simp only[go,goC,run,o]
    cases run FT O n (.c a) s with
    |none=>rfl
    |some r=>obtain⟨e,s'⟩:=r;cases e<;>rfl
   |exit id=>rfl
   |ret=>rfl
   |stuck=>rfl
  |l l=>
   cases l with
   |nil=>rfl
   |cons r l=>
    cases r with
    |op dst g i=>
     simp only[go,goL,run,o,lac];cases jw s dst g i<;>rfl
    |call dst g f args=>
     simp only[go,goL,run,o,A,aY4,u,Zy,Cn,qq]
     cases s.ec f with
     |fn c first caps=>
      simp only
      cases Pl s g with
      |none=>rfl
      |some b=>
       cases b with
       |false=>rfl
       |true=>
        simp only
        cases run FT O n (.f c (first++args.map s.ev++caps)) s with
        |none=>rfl
        |some r=>
         obtain⟨e,t,m⟩:=r
         match t with
         |[]=>rfl
         |[d]=>rfl
         |_::_::_=>rfl
     |_=>
      simp only
      cases Pl s g with
      |none=>rfl
      |some b=>cases b<;>rfl
  |an q bs l=>
   simp only[go,bE6,run,o,Cn,pC];split<;>rfl
  |yo pl ps fp q l=>
   cases q with
   |zero=>simp only[go,ar8,run,o]
   |succ q=>
    cases l with
    |nil=>rfl
    |cons r l=>
     cases r with
     |op dst g i=>
      simp only[go,ar8,run,o,lac,pC,cY,sJ,Zy]
      cases pl.headD u4 with
      |some p=>
       cases g with
       |none=>
        simp only
        cases Bl s p i with
        |none=>rfl
        |some C=>
         obtain⟨d,e⟩:=C;simp only;split<;>rfl
       |some _=>rfl
      |none=>
       simp only;split
       .cases jw s dst g i<;>rfl
       .rfl
     |call dst g f args=>
      simp only[go,ar8,run,o,A,aZ3,u,Zy,Cn,qq,pC,sJ]
      cases pl.headD u4 with
      |some p=>
       cases s.cv f with
       |fn c first caps=>
        simp only;split
        .cases run FT O n (.w p c (first++args.map s.ev++caps)) s with
         |none=>rfl
         |some r=>
          obtain⟨e,t,m⟩:=r
          match t,m with
          |[],_=>rfl
          |[d],[]=>rfl
          |[d],[e]=>rfl
          |[d],_::_::_=>rfl
          |_::_::_,_=>rfl
        .rfl
       |_=>rfl
      |none=>
       cases s.cv f with
       |fn c first caps=>
        simp only;split
        .cases Pl s g with
         |none=>rfl
         |some b=>
          cases b with
          |false=>rfl
          |true=>
           simp only
           cases run FT O n (.q c (first++args.map s.ev++caps)) s with
           |none=>rfl
           |some r=>
            obtain⟨e,t,m⟩:=r
            match t with
            |[]=>rfl
            |[d]=>rfl
            |_::_::_=>rfl
        .rfl
       |_=>
        simp only;split
        .cases Pl s g with
         |none=>rfl
         |some b=>cases b<;>rfl
        .rfl
  |w p c ds=>
   simp only[go,goW,run]
   cases FT c with
   |none=>rfl
   |some q=>
    obtain⟨F,md⟩:=q
    cases s.m[p]? with
    |none=>rfl
    |some x=>
     cases x with
     |live S Ca l=>
      simp only;split
      .simp only[o,qq,jB]
       cases run FT O n (.c F.code) ⟨ds.map (KA p Ca)++h! (F.ntmps-ds.length) a!,[.live S 0 l]⟩with
       |none=>rfl
       |some r=>
        obtain⟨e,s'⟩:=r;simp only
        cases H' F (M (e,s'))with
        |none=>rfl
        |some y=>
         obtain⟨d,m⟩:=y;simp only
         cases ad6 S Ca d m with
         |none=>rfl
         |some z=>simp only[gy,cY]
      .rfl
     |_=>rfl
  |q c ds=>
   simp only[go,goQ,run];split
   .exact o _ _ _
   .cases FT c with
    |none=>rfl
    |some p=>
     obtain⟨F,md⟩:=p;simp only;split
     .simp only[o,qq,jB]
      cases run FT O n (.c F.code) ⟨ds.map (ob 8 s.m)++h! (F.ntmps-ds.length) a!,[]⟩with
      |none=>rfl
      |some r=>
       obtain⟨e,s'⟩:=r;simp only
       cases H' F (M (e,s'))with
       |none=>rfl
       |some p=>
        obtain⟨d,m⟩:=p;simp only
        cases ZR m d with
        |none=>rfl
        |some d=>simp only[gy]
     .rfl
  |f c ds=>
   simp only[go,goF,run]
   cases FT c with
   |none=>rfl
   |some p=>
    obtain⟨F,md⟩:=p
    match md with
    |0=>
     simp only[o,pC,sJ,jB]
     cases run FT O n (.c F.code) ⟨ds++h! (F.ntmps-ds.length) a!,s.m⟩with
     |none=>rfl
     |some r=>
      obtain⟨e,s'⟩:=r;simp only;cases H' F (M (e,s'))<;>rfl
    |1=>
     simp only[o,pC,sJ,jB];split
     .cases run FT O n (.p c ds) s with
      |none=>rfl
      |some r=>
       obtain⟨e,t,m⟩:=r
       match t with
       |[]=>rfl
       |[d]=>rfl
       |_::_::_=>rfl
     .cases run FT O n (.c F.code) ⟨ds++h! (F.ntmps-ds.length) a!,s.m⟩with
      |none=>rfl
      |some r=>
       obtain⟨e,s'⟩:=r;simp only;cases H' F (M (e,s'))<;>rfl
    |md+3=>
     simp only
     cases O c ds with
     |none=>rfl
     |some d=>simp only[gy]
    |2=>
     simp only[o,qq,jB]
     cases run FT O n (.c F.code) ⟨ds.map (ob 8 s.m)++h! (F.ntmps-ds.length) a!,[]⟩with
     |none=>rfl
     |some r=>
      obtain⟨e,s'⟩:=r;simp only
      cases H' F (M (e,s'))with
      |none=>rfl
      |some p=>
       obtain⟨d,m⟩:=p;simp only
       cases ZR m d with
       |none=>rfl
       |some d=>simp only[gy]
  |p c ds=>
   simp only[go,goP,run]
   cases FT c with
   |none=>rfl
   |some p=>
    obtain⟨F,md⟩:=p;have key:(if ea ds=a29 then fL (ds++h! (F.ntmps-ds.length) a!) λt=>(ab6 FT O n) (.c F.code) ⟨t,[]⟩ (UD F λd m'=>fD (ob 8 m' d) λd=>k .normal ⟨[d],[]⟩)else u4)=(match (if ea ds=a29 then(match H' F (run FT O n (.c F.code) ⟨ds++h! (F.ntmps-ds.length) a!,[]⟩)with|some (d,m')=>M (Exit.normal,(⟨[ob 8 m' d],[]⟩:St))|none=>u4)else u4)with|some (e,s')=>k e s'|none=>u4):=by
     split
     .simp only[o,pC,jB]
      cases run FT O n (.c F.code) ⟨ds++h! (F.ntmps-ds.length) a!,[]⟩with
      |none=>rfl
      |some r=>
       obtain⟨e,s'⟩:=r;simp only
       cases H' F (M (e,s'))with
       |none=>rfl
       |some p=>simp[gy]
     .rfl
    match md with
    |md+3=>
     simp only
     cases O c ds with
     |none=>rfl
     |some d=>simp only[gy]
    |0=>exact key
    |1=>exact key
    |2=>exact key
variable {P:a35}
def okK(r:Option (Exit×St)) (d:D) (m':List Ent):Bool:=
 match r with
 |some (_,s)=>av3 s ⟨[d],m'⟩
 |none=>a30
theorem JU(Ie:P.follows .mixedOrders=a29) (b:iQ P L) (hS:vU P md O) (n:Nat) {ds:List D}{d:D}
 (h:okK (ab6 (GK L md) O n (.p k ds) ⟨[],[]⟩ λe s=>M (e,s)) d []=a29) (m:List Ent):CallT P k ds m λd' a=>d'=d/\a=m:=by
 rw[aj9]at h;refine U0 Ie b hS n ?_ m;unfold okK at h
 cases hr:run (GK L md) O n (.p k ds) ⟨[],[]⟩with
 |none=>rw[hr]at h;exact h
 |some r=>rw[hr]at h;exact h
end
end
variable {P:a35} {N:Nat}
def jq(r:Option (D×List Ent)) (f:D->List Ent->Prop):Prop:=
 match r with
 |some p=>f p.1 p.2
 |none=>False
@[congr] theorem bb2{r a:Option (D×List Ent)} {f:D->List Ent->Prop} (h:r=a):jq r f=jq a f:=by rw[h]
theorem Wc(d:D) (m:List Ent) (f:D->List Ent->Prop):jq (M (d,m)) f=f d m:=f'
theorem aj(r:Option (D×List Ent)) (f:D->List Ent->Prop):jq r f↔∃d m',r=M (d,m')/\f d m':=by
 cases r with
 |none=>simp[jq]
 |some p=>
  obtain⟨d,m⟩:=p;simp only[jq]
  grind
def Ae(P:a35) (k:Nat) (ds:List D) (m:List Ent) (f:D->List Ent->Prop):Prop:=CallT P k ds m f
@[congr] theorem aG1{k a:Nat} {ds ds':List D} {m m':List Ent} {f:D->List Ent->Prop} (h1:k=a) (h2:ds=ds') (h3:m=m'):Ae P k ds m f=Ae P a ds' m' f:=p5
def cr{ds:List D}{m:List Ent}(h:CallT P k ds m R) (a:∀d m',R d m'->f d m'):Ae P k ds m f:=h.mono a
theorem La{ds:List D}{m m1:List Ent}{d1:D}(h:CallT P k ds m λd m'=>d=d1/\m'=m1) (hf:f d1 m1):Ae P k ds m f:=
 h.mono λd m' ⟨h1,h2⟩=>p5
def Xr(P:a35):List RI->(St->Prop)->St->Prop
 |[],K,s=>K s
 |.op dst g i::l,K,s=>
  match d? s g with
  |none=>False
  |some u4=>jq (ba s i) λd m'=>Xr P l K ({ s with m:=m' }.put dst d)
  |some (M (c,b))=>(c=b->jq (ba s i) λd m'=>Xr P l K ({ s with m:=m' }.put dst d))/\(c≠b->Xr P l K (s.put dst (.v undef)))
 |.call dst g f args::l,K,s=>
  match s.ec f with
  |.fn k first caps=>
   match d? s g with
   |none=>False
   |some u4=>Ae P k (first++args.map s.ev++caps) s.m λd m'=>Xr P l K ({ s with m:=m' }.put dst d)
   |some (M (c,b))=>(c=b->Ae P k (first++args.map s.ev++caps) s.m λd m'=>Xr P l K ({ s with m:=m' }.put dst d))/\(c≠b->Xr P l K (s.put dst (.v undef)))
  |_=>False
theorem dD:∀{l:List RI}{K:St->Prop}{s:St},Xr P l K s->Wf P l K s
 |[],K,s,h=>h
 |.op dst g i::l,K,s,h=>by
  simp only[Xr]at h;simp only[Wf];split at h
  .simp_all
  .rename_i a;rw[a];obtain⟨d,m',j,h2⟩:=(aj _ _).1 h;exact⟨d,m',j,dD h2⟩
  .rename_i c b a;rw[a];refine⟨λe=>?_,λe=>dD (h.2 e)⟩;obtain⟨d,m',j,h2⟩:=(aj _ _).1 (h.1 e);exact⟨d,m',j,dD h2⟩
 |.call dst g f args::l,K,s,h=>by
  simp only[Xr]at h;simp only[Wf];split at h
  .rename_i k first caps hf
   rw[hf];split at h
   .simp_all
   .rename_i a;rw[a];exact h.mono λ_ _ h2=>dD h2
   .rename_i c b a;rw[a];exact⟨λe=>(h.1 e).mono λ_ _ h2=>dD h2,λe=>dD (h.2 e)⟩
  simp_all
def C.loops:C->Bool
 |.loop _=>a29
 |.any ..=>a29
 |.draw ..=>a29
 |.seq a b=>a.loops || b.loops
 |.cond _ a b=>a.loops || b.loops
 |.block _ a=>a.loops
 |_=>a30
def Y(P:a35) (N:Nat):C->(Exit->St->Prop)->St->Prop
 |.skip,K,s=>K .normal s
 |.vD l,K,s=>Xr P l (K .normal) s
 |.draw q l,K,s=>T P N (.draw q l) K s
 |.any cuts q bs l,K,s=>T P N (.any cuts q bs l) K s
 |.seq a b,K,s=>
  match a.loops with
  |true=>T P N (.seq a b) K s
  |false=>Y P N a (λe s'=>match e with|.normal=>Y P N b K s'|e=>K e s') s
 |.cond c a b,K,s=>
  match s.ev c with
  |.v (.bool t)=>(t=a29->Y P N a K s)/\(t=a30->Y P N b K s)
  |_=>False
 |.block id a,K,s=>
  match a.loops with
  |true=>T P N (.block id a) K s
  |false=>Y P N a (λe s'=>match e with|.exit d=>if d=id then K .normal s' else K (.exit d) s'|e=>K e s') s
 |.loop a,K,s=>T P N (.loop a) K s
 |.exit id,K,s=>K (.exit id) s
 |.ret,K,s=>K .ret s
 |.stuck,_,_=>False
theorem Y.T:∀{c:C}{K:Exit->St->Prop}{s:St},Y P N c K s->T P N c K s
 |.skip,K,s,h=>T.skip h
 |.vD l,K,s,h=>T.vD (dD h)
 |.draw q l,K,s,h=>h
 |.any cuts q bs l,K,s,h=>h
 |.seq a b,K,s,h=>by
  simp only[Y]at h;split at h
  .exact h
  .refine T.seq ((Y.T h).mono ?_);intro e s' d
   cases e with
   |normal=>exact Y.T d
   |_=>exact d
 |.cond c a b,K,s,h=>by
  simp only[Y]at h;split at h
  .rename_i t ht;exact T.cond ht (λe=>Y.T (h.1 e)) (λe=>Y.T (h.2 e))
  .exact h.elim
 |.block id a,K,s,h=>by
  simp only[Y]at h;split at h
  .exact h
  .exact T.block ((Y.T h).mono λe s' d=>by cases e<;>exact d)
 |.loop a,K,s,h=>h
 |.exit id,K,s,h=>T.exit h
 |.ret,K,s,h=>T.ret h
 |.stuck,_,_,h=>by simp only[Y]at h
def bN8{X:Type}(S:X->St) (Ql:X->Prop) (s':St):Prop:=∃z,Ql z/\fa s'.t (S z).t/\∃g,s'.m=(S z).m++g
theorem T.FU{x b:C}{K:Exit->St->Prop}{s:St}(S:X->St) (Ql fin:X->Prop) (μ:X->Nat) (x₀:X) (f:Ql x₀) (ht:fa s.t (S x₀).t) (hm:s.m=(S x₀).m)
 (hb:∀y,Ql y\/fin y->N<=(S y).m.length/\f? (S y).m.length (S y).t=a29/\(S y).m.all (Ent.below (S y).m.length)=a29)
 (round:∀y,Ql y->Tm.T P N x (λe s'=>match e with|.normal=>∃z,Ql z/\μ z<μ y/\fa s'.t (S z).t/\∃g,s'.m=(S z).m++g|.exit j=>j=id/\bN8 S fin s'|e=>K e s') (S y))
 {K':Exit->St->Prop} (i:∀s',Tm.T P N b K' s'->K .normal s') (rest:∀z,fin z->Tm.T P N b K' (S z)):Tm.T P N (.block id (.loop x)) K s:=by
 have bare:∀s',bN8 S fin s'->K .normal s':=by
  rintro s' ⟨z,k,h,g,h2⟩;obtain⟨c,d,b3⟩:=hb z (.inr k);refine i s' ?_;refine T.sub (S z).t h ?_;refine T.trim (S z).m.length c s5 d p5 ?_
  simp_all
 refine T.block (T.loopS S Ql μ x₀ f ht hm (λy a=>hb y (.inl a)) λy a=>(round y a).mono ?_)
 grind
theorem fa.cons{d e:D}{l:List D}(h1:k? d e) (h2:fa l r):fa (d::l) (e::r):=by
 simp only[fa]
 grind
theorem k?.wa(d:D):k? d a!:=by cases d<;>simp[k?]
theorem nY{N:Nat}{s:St}(hN:N=0) (hm:s.m=[]) (ht:ea s.t=a29):N<=s.m.length/\f? s.m.length s.t=a29/\s.m.all (Ent.below s.m.length)=a29:=by
 grind[ua]
variable {P:a35} {N:Nat}
def gP(p Y N:Prop):Prop:=(p->Y)/\(¬p->N)
theorem aV8{Y N:Prop}:gP True Y N=Y:=by simp[gP]
theorem aV9{Y N:Prop}:gP False Y N=N:=by simp[gP]
@[congr] theorem bG9{p a Y N:Prop} (h:p=a):gP p Y N=gP a Y N:=by rw[h]
theorem gP.mk{Y N:Prop}(a:p->Y) (h2:¬p->N):gP p Y N:=⟨a,h2⟩
def Ee(s:St) (g:Option (Tmp×Bool)) (b:Bool):St:=
 match g with
 |none=>s
 |some (t,_)=>
  match s.t.getD t .dead with
  |.v (.bool _)=>{ s with t:=s.t.set t (.v (.bool b)) }
  |_=>s
theorem TE{l:List D}{t:Nat}{d:D}(h:l.getD t a!=d) (hd:d≠a!):l.set t d=l:=by
 apply bah
 grind
theorem gZ{s:St}{c b:Bool}(hg:d? s g=M (M (c,b))) (e:c=b):Ee s g b=s:=by
 unfold Ee
 cases g with
 |none=>rfl
 |some p=>
  obtain⟨t,b'⟩:=p;simp only;split
  all_goals simp_all[d?,TE]
theorem rac{s:St}{c b:Bool}(a:d? s g=M (M (c,b))) (e:c≠b):Ee s g (!b)=s:=by
 unfold Ee
 cases g with
 |none=>rfl
 |some p=>
  obtain⟨t,d⟩:=p;simp only;split
  .rename_i x hx;simp only[d?,hx]at a;injection a with a;injection a with a;injection a with f h2;subst f h2;have:x = !d:=by cases x<;>cases d<;>simp_all
   simp_all[TE]
  .rfl
def KO(R:St->Prop) (s:St) (dst:Option Tmp) (d:D) (m':List Ent):Prop:=R ({ s with m:=m' }.put dst d)
def bN5{R:St->Prop}{s:St}{d:D}:KO R s dst d m'=R ({ s with m:=m' }.put dst d):=f'
def nf(P:a35):List RI->(St->Prop)->St->Prop
 |[],K,s=>K s
 |.op dst g i::l,K,s=>
  match d? s g with
  |none=>False
  |some u4=>jq (ba s i) (KO (nf P l K) s dst)
  |some (M (c,b))=>gP (c=b) (jq (ba (Ee s g b) i) (KO (nf P l K) (Ee s g b) dst)) (nf P l K ((Ee s g (!b)).put dst (.v undef)))
 |.call dst g f args::l,K,s=>
  match s.ec f with
  |.fn k first caps=>
   match d? s g with
   |none=>False
   |some u4=>Ae P k (first++args.map s.ev++caps) s.m (KO (nf P l K) s dst)
   |some (M (c,b))=>gP (c=b) (Ae P k (first++args.map (Ee s g b).ev++caps) s.m (KO (nf P l K) (Ee s g b) dst)) (nf P l K ((Ee s g (!b)).put dst (.v undef)))
  |_=>False
theorem Ir:∀{l:List RI}{K:St->Prop}{s:St},nf P l K s->Wf P l K s
 |[],K,s,h=>h
 |.op dst g i::l,K,s,h=>by
  simp only[nf]at h;simp only[Wf];split at h
  .simp_all
  .rename_i a;rw[a];obtain⟨d,m',j,h2⟩:=(aj _ _).1 h;exact⟨d,m',j,Ir h2⟩
  .rename_i c b a;rw[a];refine⟨λe=>?_,λe=>?_⟩
   .have h:=h.1 e;rw[gZ a e]at h;obtain⟨d,m',j,h2⟩:=(aj _ _).1 h;exact⟨d,m',j,Ir h2⟩
   .have h:=h.2 e;rw[rac a e]at h;exact Ir h
 |.call dst g f args::l,K,s,h=>by
  simp only[nf]at h;simp only[Wf];split at h
  .rename_i k first caps hf
   rw[hf];split at h
   .simp_all
   .rename_i a;rw[a];exact h.mono λ_ _ h2=>Ir h2
   .rename_i c b a;rw[a];refine⟨λe=>?_,λe=>?_⟩
    .have h:=h.1 e;rw[gZ a e]at h;exact h.mono λ_ _ h2=>Ir h2
    .have h:=h.2 e;rw[rac a e]at h;exact Ir h
  simp_all
def Ey(P:a35):Nat->List RI->(St->Prop)->St->Prop
 |0,l,K,s=>nf P l K s
 |_+1,[],_,_=>False
 |q+1,.op dst g i::l,K,s=>
  match d? s g with
  |none=>False
  |some u4=>jq (ba s i) (KO (Ey P q l K) s dst)
  |some (M (c,b))=>gP (c=b) (jq (ba s i) (KO (Ey P q l K) s dst)) (Ey P q l K (s.put dst (.v undef)))
 |q+1,.call dst g f args::l,K,s=>
  match s.cv f with
  |.fn k first caps=>
   match d? s g with
   |none=>False
   |some u4=>∃d,(∀m,CallT P k (first++args.map s.ev++caps) m λd' m'=>d'=d/\m'=m)/\Ey P q l K (s.put dst d)
   |some (M (c,b))=>(c=b->∃d,(∀m,CallT P k (first++args.map s.ev++caps) m λd' m'=>d'=d/\m'=m)/\Ey P q l K (s.put dst d))/\(c≠b->Ey P q l K (s.put dst (.v undef)))
  |_=>False
theorem TI:∀{q:Nat}{l:List RI}{K:St->Prop}{s:St},Ey P q l K s->RP P q l K s
 |0,l,K,s,h=>by simp only[Ey]at h;simp only[RP];exact Ir h
 |_+1,[],K,s,h=>by simp only[Ey]at h
 |q+1,.op dst g i::l,K,s,h=>by
  simp only[Ey]at h;simp only[RP];split at h
  .simp_all
  .rename_i j;rw[j];obtain⟨d,m',a,h2⟩:=(aj _ _).1 h;exact⟨d,m',a,TI h2⟩
  .rename_i c b j;rw[j];refine⟨λe=>?_,λe=>TI (h.2 e)⟩;obtain⟨d,m',a,h2⟩:=(aj _ _).1 (h.1 e);exact⟨d,m',a,TI h2⟩
 |q+1,.call dst g f args::l,K,s,h=>by
  simp only[Ey]at h;simp only[RP];split at h
  .rename_i k first caps hf
   rw[hf];split at h
   .simp_all
   .rename_i j;rw[j];obtain⟨d,a,h2⟩:=h;exact⟨d,a,TI h2⟩
   .rename_i c b j;rw[j];refine⟨λe=>?_,λe=>TI (h.2 e)⟩;obtain⟨d,a,h2⟩:=h.1 e;exact⟨d,a,TI h2⟩
  simp_all
def C.Jf:C->Bool
 |.loop _=>a29
 |.any ..=>a29
 |.seq a b=>a.Jf || b.Jf
 |.cond _ a b=>a.Jf || b.Jf
 |.block _ a=>a.Jf
 |_=>a30
def C.va:C->Bool
 |.loop _=>a29
 |_=>a30
def T0{f:a38}{ds:List D}{m:List Ent}(a:fa ds ds') (h:CallT P f ds' m R):CallT P f ds m R:=
 ⟨h.1,λG w vs hv hi=>h.2 G w vs (a.rel hv) hi⟩
def KS(P:a35) (N:Nat) (b:C) (K:Exit->St->Prop) (e:Exit) (s':St):Prop:=match e with|.normal=>Tm.T P N b K s'|e=>K e s'
def eM{b:C}{K:Exit->St->Prop}{s:St}:KS P N b K .normal s=Tm.T P N b K s:=f'
def aX{b:C}{K:Exit->St->Prop}{s:St}:KS P N b K (.exit i) s=K (.exit i) s:=f'
def H8{b:C}{K:Exit->St->Prop}{s:St}:KS P N b K .ret s=K .ret s:=f'
def KZ(R:St->Prop) (K:Exit->St->Prop) (e:Exit) (s':St):Prop:=match e with|.normal=>R s'|e=>K e s'
def KB(id:Nat) (K:Exit->St->Prop) (e:Exit) (s':St):Prop:=match e with|.exit a=>if a=id then K .normal s' else K (.exit a) s'|e=>K e s'
def aM{K:Exit->St->Prop}{s:St}:KB id K .normal s=K .normal s:=f'
def ZW{K:Exit->St->Prop}{s:St}:KB id K (.exit i) s=if i=id then K .normal s else K (.exit i) s:=f'
def G8{K:Exit->St->Prop}{s:St}:KB id K .ret s=K .ret s:=f'
@[congr] theorem bO1{c:C} {K:Exit->St->Prop} {s s':St} (h:s=s'):Tm.T P N c K s=Tm.T P N c K s':=by rw[h]
def Z(P:a35) (N:Nat):C->(Exit->St->Prop)->St->Prop
 |.skip,K,s=>K .normal s
 |.vD l,K,s=>nf P l (K .normal) s
 |.draw q l,K,s=>Ey P q l (K .normal) s
 |.any cuts q bs l,K,s=>T P N (.any cuts q bs l) K s
 |.seq a b,K,s=>
  match a.Jf with
  |true=>Z P N a (KS P N b K) s
  |false=>Z P N a (KZ (Z P N b K) K) s
 |.cond c a b,K,s=>
  match s.ev c with
  |.v (.bool t)=>gP (t=a29) (Z P N a K s) (Z P N b K s)
  |_=>False
 |.block id a,K,s=>
  match a.va with
  |true=>T P N (.block id a) K s
  |false=>Z P N a (KB id K) s
 |.loop a,K,s=>T P N (.loop a) K s
 |.exit id,K,s=>K (.exit id) s
 |.ret,K,s=>K .ret s
 |.stuck,_,_=>False
theorem Z.T(hm:P.follows .mixedOrders=a29):∀{c:C}{K:Exit->St->Prop}{s:St},Z P N c K s->T P N c K s
 |.skip,K,s,h=>T.skip h
 |.vD l,K,s,h=>T.vD (Ir h)
 |.draw q l,K,s,h=>T.draw hm (TI h)
 |.any cuts q bs l,K,s,h=>h
 |.seq a b,K,s,h=>by
  simp only[Z]at h;split at h
  .refine T.seq ((Z.T hm h).mono ?_);intro e s' d;cases e<;>exact d
  .refine T.seq ((Z.T hm h).mono ?_);intro e s' d
   cases e with
   |normal=>exact Z.T hm d
   |_=>exact d
 |.cond c a b,K,s,h=>by
  simp only[Z]at h;split at h
  .rename_i t ht;exact T.cond ht (λe=>Z.T hm (h.1 e)) (λe=>Z.T hm (h.2 (by simp[e])))
  .exact h.elim
 |.block id a,K,s,h=>by
  simp only[Z]at h;split at h
  .exact h
  .exact T.block ((Z.T hm h).mono λe s' d=>by cases e<;>exact d)
 |.loop a,K,s,h=>h
 |.exit id,K,s,h=>T.exit h
 |.ret,K,s,h=>T.ret h
 |.stuck,_,_,h=>by simp only[Z]at h
section
variable {l:List RI} {K:St->Prop} {s:St} {dst:Option Tmp} {i:I} {q:Nat} {f:Cal} {args:List a34} {g:Tmp×Bool}
def cQ:nf P [] K s=K s:=f'
def QN:nf P (.op dst u4 i::l) K s=jq (ba s i) (KO (nf P l K) s dst):=f'
def dQ:nf P (.op dst (M g) i::l) K s =
 match d? s (M g)with
 |none=>False
 |some u4=>jq (ba s i) (KO (nf P l K) s dst)
 |some (M (c,b))=>gP (c=b) (jq (ba (Ee s (M g) b) i) (KO (nf P l K) (Ee s (M g) b) dst)) (nf P l K ((Ee s (M g) (!b)).put dst (.v undef))):=f'
theorem rF{k:a38}{first caps:List D}(hf:s.ec f=.fn k first caps):nf P (.call dst u4 f args::l) K s=Ae P k (first++args.map s.ev++caps) s.m (KO (nf P l K) s dst):=by
 simp only[nf,hf,d?]
theorem CC{k:a38}:nf P (.call dst u4 (.func k) args::l) K s=Ae P k (args.map s.ev) s.m (KO (nf P l K) s dst):=by
 rw[rF (k:=k) (first:=[]) (caps:=[]) rfl,G?,R?]
theorem oG{k:a38}:nf P (.call dst (M g) (.func k) args::l) K s =
 match d? s (M g)with
 |none=>False
 |some u4=>Ae P k (args.map s.ev) s.m (KO (nf P l K) s dst)
 |some (M (c,b))=>gP (c=b) (Ae P k (args.map (Ee s (M g) b).ev) s.m (KO (nf P l K) (Ee s (M g) b) dst)) (nf P l K ((Ee s (M g) (!b)).put dst (.v undef))):=by
 simp only[nf,St.ec,St.ev,G?,R?]
theorem SP:Ey P 0 l K s=nf P l K s:=by simp only[Ey]
theorem rU:Ey P (q+1) (.op dst u4 i::l) K s=jq (ba s i) (KO (Ey P q l K) s dst):=f'
def XW:Ey P (q+1) (.op dst (M g) i::l) K s =
 match d? s (M g)with
 |none=>False
 |some u4=>jq (ba s i) (KO (Ey P q l K) s dst)
 |some (M (c,b))=>gP (c=b) (jq (ba s i) (KO (Ey P q l K) s dst)) (Ey P q l K (s.put dst (.v undef))):=f'
def oM(P:a35) (k:a38) (ds:List D) (R:St->Prop) (s:St) (dst:Option Tmp):Prop:=∃d,(∀m,CallT P k ds m λd' m'=>d'=d/\m'=m)/\R (s.put dst d)
theorem oF{k:a38}:Ey P (q+1) (.call dst u4 (.func k) args::l) K s=oM P k (args.map s.ev) (Ey P q l K) s dst:=by
 simp only[Ey,St.cv,St.ev,G?,R?,oM,d?]
theorem lI{k:a38}:Ey P (q+1) (.call dst (M g) (.func k) args::l) K s =
 match d? s (M g)with
 |none=>False
 |some u4=>oM P k (args.map s.ev) (Ey P q l K) s dst
 |some (M (c,b))=>gP (c=b) (oM P k (args.map s.ev) (Ey P q l K) s dst) (Ey P q l K (s.put dst (.v undef))):=by
 simp only[Ey,St.cv,St.ev,G?,R?,oM,gP]
variable {K':Exit->St->Prop} {a b:C} {c:a34} {id:Nat} {cuts:List Nat} {bs:List (List Nat)}
def Zm:Z P N .skip K' s=K' .normal s:=f'
def As:Z P N (.vD l) K' s=nf P l (K' .normal) s:=f'
def Wm:Z P N (.draw q l) K' s=Ey P q l (K' .normal) s:=f'
def ts:Z P N (.any cuts q bs l) K' s=Tm.T P N (.any cuts q bs l) K' s:=f'
def KZb(P:a35) (N:Nat) (b:C) (K':Exit->St->Prop):Exit->St->Prop:=KZ (Z P N b K') K'
def Kc:KZb P N b K' .normal s=Z P N b K' s:=f'
def Vf:KZb P N b K' (.exit id) s=K' (.exit id) s:=f'
def Ai:KZb P N b K' .ret s=K' .ret s:=f'
def Ds:Z P N (.seq a b) K' s=match a.Jf with
 |true=>Z P N a (KS P N b K') s
 |false=>Z P N a (KZb P N b K') s:=f'
def Vm:Z P N (.cond c a b) K' s=match s.ev c with
 |.v (.bool t)=>gP (t=a29) (Z P N a K' s) (Z P N b K' s)
 |_=>False:=f'
def Di:Z P N (.block id a) K' s=match a.va with
 |true=>Tm.T P N (.block id a) K' s
 |false=>Z P N a (KB id K') s:=f'
def Ym:Z P N (.loop a) K' s=Tm.T P N (.loop a) K' s:=f'
def Xm:Z P N (.exit id) K' s=K' (.exit id) s:=f'
def Cs:Z P N .ret K' s=K' .ret s:=f'
end
def At(s' S:St):Prop:=fa s'.t S.t/\∃g,s'.m=S.m++g
def At.mk(t t':List D) (m g:List Ent) (h:fa t t'):At ⟨t,m++g⟩ ⟨t',m⟩:=⟨h,g,rfl⟩
theorem At.same(t t':List D) (m:List Ent) (h:fa t t'):At ⟨t,m⟩ ⟨t',m⟩:=⟨h,[],p6⟩
theorem At.cut(n:Nat) {t':List D}{m:List Ent}(a:fa t t') (h2:m.take n=m'):At ⟨t,m⟩ ⟨t',m'⟩:=⟨a,m.drop n,by grind[List.take_append_drop]⟩
def Fit(N:Nat) (s:St):Prop:=N<=s.m.length/\f? s.m.length s.t=a29/\s.m.all (Ent.below s.m.length)=a29
theorem k?.inv{a b:D}(h:k? a b):b=a!\/(∃S,a=.v (.slice u4 0 0)/\b=.sl S [])\/(∃l r,a=.agg l/\b=.agg r/\fa l r)\/(∃l r,a=.tup l/\b=.tup r/\fa l r)\/(∃S l r,a=.sl S l/\b=.sl S r/\fa l r)\/a=b:=by
 cases b with
 |dead=>simp
 |v x=>cases a<;>simp_all[k?]
 |agg r=>cases a<;>simp_all[k?]
 |tup r=>cases a<;>simp_all[k?]
 |sl S r=>
  cases a with
  |sl S' l=>simp only[k?]at h;grind
  |_=>simp_all[k?]
 |pt x=>cases a<;>simp_all[k?]
 |ref _ _ _ _=>cases a<;>simp_all[k?]
 |own _ _=>cases a<;>simp_all[k?]
 |view _ _ _ _=>cases a<;>simp_all[k?]
 |fn _ _ _=>cases a<;>simp_all[k?]
 |mp _=>cases a<;>simp_all[k?]
 |ifc _ _=>cases a<;>simp_all[k?]
mutual
theorem k?.trans:∀{a b c:D},k? a b->k? b c->k? a c
 |a,a!,c,d,h2=>by
  rcases h2.inv with rfl|⟨_,h,_⟩|⟨_,_,h,_⟩|⟨_,_,h,_⟩|⟨_,_,_,h,_⟩|rfl
  .exact k?.wa _
  .cases h
  .cases h
  .cases h
  .cases h
  .exact k?.wa _
 |a,.agg r,c,d,h2=>by
  rcases d.inv with h|⟨_,_,h⟩|⟨l,j,rfl,h,g⟩|⟨_,_,_,h,_⟩|⟨_,_,_,_,h,_⟩|rfl
  .cases h
  .cases h
  .injection h with h;subst h;rcases h2.inv with rfl|⟨_,h,_⟩|⟨j,q,h,rfl,e⟩|⟨_,_,h,_⟩|⟨_,_,_,h,_⟩|rfl
   .exact k?.wa _
   .cases h
   .injection h with h;subst h;simp only[k?];exact fa.trans g e
   .cases h
   .cases h
   .exact d
  .cases h
  .cases h
  .exact h2
 |a,.tup r,c,d,h2=>by
  rcases d.inv with h|⟨_,_,h⟩|⟨_,_,_,h,_⟩|⟨l,j,rfl,h,g⟩|⟨_,_,_,_,h,_⟩|rfl
  .cases h
  .cases h
  .cases h
  .injection h with h;subst h;rcases h2.inv with rfl|⟨_,h,_⟩|⟨_,_,h,_⟩|⟨j,q,h,rfl,e⟩|⟨_,_,_,h,_⟩|rfl
   .exact k?.wa _
   .cases h
   .cases h
   .injection h with h;subst h;simp only[k?];exact fa.trans g e
   .cases h
   .exact d
  .cases h
  .exact h2
 |a,.sl S r,c,d,h2=>by
  rcases h2.inv with rfl|⟨_,h,_⟩|⟨_,_,h,_⟩|⟨_,_,h,_⟩|⟨S',l',q,h,rfl,e⟩|rfl
  .exact k?.wa _
  .cases h
  .cases h
  .cases h
  .injection h with i f;subst i;subst f;rcases d.inv with h|⟨_,rfl,h⟩|⟨_,_,_,h,_⟩|⟨_,_,_,h,_⟩|⟨_,l,_,rfl,h,g⟩|rfl
   .cases h
   .injection h with i f;subst f;simp only[fa]at e;subst e;simp[k?]
   .cases h
   .cases h
   .injection h with i f;subst i;subst f;simp only[k?,aaD];exact fa.trans g e
   .exact h2
  .exact d
 |a,.v x,c,d,h2=>by
  rcases d.inv with h|⟨_,_,h⟩|⟨_,_,_,h,_⟩|⟨_,_,_,h,_⟩|⟨_,_,_,_,h,_⟩|rfl<;>first|cases h|exact h2
 |a,.pt x,c,d,h2=>by
  rcases d.inv with h|⟨_,_,h⟩|⟨_,_,_,h,_⟩|⟨_,_,_,h,_⟩|⟨_,_,_,_,h,_⟩|rfl<;>first|cases h|exact h2
 |a,.ref _ _ _ _,c,d,h2=>by
  rcases d.inv with h|⟨_,_,h⟩|⟨_,_,_,h,_⟩|⟨_,_,_,h,_⟩|⟨_,_,_,_,h,_⟩|rfl<;>first|cases h|exact h2
 |a,.own _ _,c,d,h2=>by
  rcases d.inv with h|⟨_,_,h⟩|⟨_,_,_,h,_⟩|⟨_,_,_,h,_⟩|⟨_,_,_,_,h,_⟩|rfl<;>first|cases h|exact h2
 |a,.view _ _ _ _,c,d,h2=>by
  rcases d.inv with h|⟨_,_,h⟩|⟨_,_,_,h,_⟩|⟨_,_,_,h,_⟩|⟨_,_,_,_,h,_⟩|rfl<;>first|cases h|exact h2
 |a,.fn _ _ _,c,d,h2=>by
  rcases d.inv with h|⟨_,_,h⟩|⟨_,_,_,h,_⟩|⟨_,_,_,h,_⟩|⟨_,_,_,_,h,_⟩|rfl<;>first|cases h|exact h2
 |a,.mp _,c,d,h2=>by
  rcases d.inv with h|⟨_,_,h⟩|⟨_,_,_,h,_⟩|⟨_,_,_,h,_⟩|⟨_,_,_,_,h,_⟩|rfl<;>first|cases h|exact h2
 |a,.ifc _ _,c,d,h2=>by
  rcases d.inv with h|⟨_,_,h⟩|⟨_,_,_,h,_⟩|⟨_,_,_,h,_⟩|⟨_,_,_,_,h,_⟩|rfl<;>first|cases h|exact h2
theorem fa.trans:∀{a b c:List D},fa a b->fa b c->fa a c
 |[],b,c,f,h2=>by simp only[fa]at f;subst f;exact h2
 |d::a,b,c,f,h2=>by
  simp only[fa]at f;obtain⟨e,r,rfl,g,h⟩:=f;simp only[fa]at h2;obtain⟨e',r',rfl,k3,k4⟩:=h2;exact fa.cons (k?.trans g k3) (fa.trans h k4)
end
theorem At.trans{a b c:St}(d:At a b) (h2:At b c):At a c:=by
 obtain⟨d,g,k1⟩:=d;obtain⟨h2,e,k2⟩:=h2;exact⟨d.trans h2,e++g,p5⟩
def fQ(N:Nat) (K:Exit->St->Prop):Prop:=∀s s',At s' s->Fit N s->K .normal s->K .normal s'
theorem pQ{s S:St}(o4:At s S) (hb:Fit N S):∀(G:Gh) (w:a33) (a:Act),N<=G.n->p! G w a s->∃G',p! G' w a S/\x' N G w s.m G' w S.m:=by
 intro G w a hN' d;obtain⟨E,g,h2⟩:=o4;obtain⟨hN,ht,z⟩:=hb;have v:S.m=s.m.take S.m.length:=p5
 have hk:S.m.length<=s.m.length:=s5
 have hm:(s.m.take S.m.length).all (Ent.below S.m.length)=a29:=s5
 have hr:p! G w a ⟨S.t,s.m⟩:=⟨E.rel d.t,d.inv,d.defers⟩;generalize r:S.m.length=k at *;obtain⟨St,Sm⟩:=S;simp only at v ht r hr;subst v;clear d h2 r z;have hi:=hr.inv;have c:∀(i:Nat) e,(s.m.take k)[i]?=M e->i<k/\s.m[i]?=M e:=by
  grind
 have q:Inv (G.trim k) w (s.m.take k):=by
  refine⟨by grind[Gh.trim],hi.F,λi e he=>?_,λi j e e' he x hl y b hb o=>hi.apart i j e e' (c i e he).2 (c j e' x).2 hl y b hb o,hi.gl.bare λ_ h=>h⟩;have hbe:e.below k=a29:=Λ.1 hm e (List.mem_of_getElem? he);have f:=hi.ent i e (c i e he).2
  cases e with
  |live S Ca l=>
   obtain⟨a1,a2,a3,a4,a5⟩:=f;refine⟨a1,a2,a3,a4,?_⟩;rcases a5 with a5|⟨B,cs,T,o,I,p,A,u⟩
   .exact .inl a5
   .exact .inr ⟨B,cs,T,o,I,p,A,u.trim (by grind[Ent.below])⟩
  |mp es=>
   obtain⟨a1,b,D,C,a2,a3,a4,a5⟩:=f;exact⟨a1,b,D,C,a2,a3,a4,a5.trim (by grind[Ent.below])⟩
  |gone=>trivial
 refine⟨G.trim k,⟨hr.t.trim ht,q,hr.defers⟩,⟨λ_ h=>h,λ_ _=>rfl,hN,λi hi'=>.inl ⟨rfl,rfl,rfl,rfl,rfl⟩,rfl,rfl,rfl,A' _,λ_ _ _=>rfl,λ_ _ h=>.inl h,?_⟩⟩;rintro b hb ⟨i,e,he,hl,H⟩;exact⟨i,e,(c i e he).2,hl,H⟩
def EP(N:Nat) (K:Exit->St->Prop) (e:Exit) (s:St):Prop:=∀(G:Gh) (w:a33) (a:Act),N<=G.n->p! G w a s->∃s' G',K e s'/\p! G' w a s'/\x' N G w s.m G' w s'.m
theorem EP.of{K:Exit->St->Prop}{e:Exit}{s:St}(h:K e s):EP N K e s:=λG w a hN hr=>⟨s,G,h,hr,x'.refl _ _ _ hN⟩
theorem T.K7{c:C}{K:Exit->St->Prop}{s:St}(h:Tm.T P N c (EP N K) s):Tm.T P N c K s:=by
 intro code hc G w a hN hr;refine Code.wp_mono ?_ (h code hc G w a hN hr);rintro e a' w' ⟨s',G',i,f,b⟩
 cases e with
 |goto l=>exact i.elim
 |_=>
  obtain⟨g,d,j,k,k3⟩:=i G' w' a' b.n f;exact⟨g,d,j,k,b.trans k3⟩
theorem Qu{K:Exit->St->Prop}:fQ N (EP N K):=by
 intro s s' e h2 f G w a hN hr;obtain⟨G',g,d⟩:=pQ e h2 G w a hN hr;obtain⟨c,b,m1,m2,m3⟩:=f G' w a d.n g;exact⟨c,b,m1,m2,d.trans m3⟩
theorem T.at{c:C}{K:Exit->St->Prop}{s S:St}(e:At s S) (hb:Fit N S) (h:Tm.T P N c K S):Tm.T P N c K s:=by
 obtain⟨d,g,h2⟩:=e;obtain⟨a,b,b3⟩:=hb;refine T.sub S.t d ?_;refine T.trim S.m.length a s5 b p5 ?_
 simp_all
theorem T.kl{a b:C}{K:Exit->St->Prop}{s:St}(h:Tm.T P N a (KS P N b K) s):Tm.T P N (.seq a b) K s:=T.seq (h.mono λe s' c=>by cases e<;>exact c)
theorem Oi{b:C}{K:Exit->St->Prop}:fQ N (KS P N b K):=λs s' a h2 c=>T.at a h2 c
def Pu{K:Exit->St->Prop}(h:fQ N K):fQ N (KB id K):=h
def KM{X:Type}(id:Nat) (K:Exit->St->Prop) (S:X->St) (Ql fin:X->Prop) (μ:X->Nat) (y:X) (e:Exit) (s':St):Prop:=
 match e with|.normal=>∃z,Ql z/\μ z<μ y/\At s' (S z)|.exit j=>if j=id then(∃z,fin z/\At s' (S z))else K (.exit j) s'|e=>K e s'
section
variable {X:Type} {id:Nat} {K:Exit->St->Prop} {S:X->St} {Ql fin:X->Prop} {μ:X->Nat} {y:X} {s':St}
def Jm:KM id K S Ql fin μ y .normal s' = ∃z,Ql z/\μ z<μ y/\At s' (S z):=f'
def Xp:KM id K S Ql fin μ y (.exit j) s'=if j=id then(∃z,fin z/\At s' (S z))else K (.exit j) s':=f'
def bc8:KM id K S Ql fin μ y .ret s'=K .ret s':=f'
end
def KI(id n:Nat) (K:Exit->St->Prop) (S:Nat->St) (i:Nat) (e:Exit) (s':St):Prop:=
 match e with|.normal=>i<n/\At s' (S (i+1))|.exit j=>if j=id then i=n/\At s' (S n)else K (.exit j) s'|e=>K e s'
section
variable {id n i:Nat} {K:Exit->St->Prop} {S:Nat->St} {s':St}
def Qi:KI id n K S i .normal s'=(i<n/\At s' (S (i+1))):=f'
def Bw:KI id n K S i (.exit j) s'=if j=id then i=n/\At s' (S n)else K (.exit j) s':=f'
def bd3:KI id n K S i .ret s'=K .ret s':=f'
end
theorem Ru{K:Exit->St->Prop}{S:X->St}{Ql fin:X->Prop}{μ:X->Nat}{y:X}:fQ N (KM id K S Ql fin μ y):=by
 rintro s s' a - ⟨z,b,c,k3⟩;exact⟨z,b,c,a.trans k3⟩
theorem iw{n:Nat}{K:Exit->St->Prop}{S:Nat->St}:fQ N (KI id n K S i):=by
 rintro s s' a - ⟨b,c⟩;exact⟨b,a.trans c⟩
theorem T.zL{x:C}{K:Exit->St->Prop}{s:St}(S:X->St) (Ql fin:X->Prop) (μ:X->Nat) (x₀:X) (d:Ql x₀) (g:At s (S x₀))
 (hb:∀y,Ql y\/fin y->Fit N (S y))
 (round:∀y,Ql y->Tm.T P N x (KM id K S Ql fin μ y) (S y))
 (a:(∃z,fin z)->fQ N K) (rest:∀z,fin z->K .normal (S z)):Tm.T P N (.block id (.loop x)) K s:=by
 refine T.at g (hb x₀ (.inl d)) ?_;refine T.block (T.loopS S Ql μ x₀ d (fa.Da _) rfl (λy b=>hb y (.inl b)) λy b=>(round y b).mono ?_);intro e s' h
 cases e with
 |normal=>obtain⟨z,f,h2,h3,h4⟩:=h;grind
 |exit j=>
  simp only[Xp]at h⊢;split at h
  .rename_i hj;rw[J hj];obtain⟨z,c,f⟩:=h;exact a ⟨z,c⟩ (S z) s' f (hb z (.inr c)) (rest z c)
  simp_all
 |_=>exact h
theorem T.LB{x:C}{K:Exit->St->Prop}{s:St}(n:Nat) (S:Nat->St) (b:At s (S 0)) (hb:∀i,i<=n->Fit N (S i))
 (round:∀i,i<=n->Tm.T P N x (KI id n K S i) (S i))
 (a:fQ N K) (rest:K .normal (S n)):Tm.T P N (.block id (.loop x)) K s:=by
 refine T.zL (X:=Nat) S (λi=>i<=n) (λi=>i=n) (λi=>n-i) 0 (Q? _) b (λy hy=>hb y U) (λi hi=>(round i hi).mono ?_) (λ_=>a) (λz hz=>p5);intro e s' h
 cases e with
 |normal=>
  simp only[Qi]at h;exact⟨i+1,h.1,s5,h.2⟩
 |exit j=>
  simp only[Bw,Xp]at h⊢
  grind
 |_=>exact h
theorem DD{l:List Ent}{p:Ent->Bool}{e:Ent}(h:l.all p=a29) (he:p e=a29):(l.set i e).all p=a29:=by
 grind
def av4(r:Option (List D)) (f:List D->Prop):Prop:=∃ds,r=M ds/\f ds
theorem H3(ds:List D) (f:List D->Prop):av4 (M ds) f=f ds:=by
 simp[av4]
theorem TP{s:St}:Um rs R .normal s=av4 (qa s rs) λds=>R (ig ds) s.m:=f'
def D8{s:St}:Um rs R .ret s=av4 (qa s rs) λds=>R (ig ds) s.m:=f'
def RZ{s:St}:Um rs R (.exit i) s=False:=f'
def IT(d:D):ig [d]=d:=f'
def HT:ig []=.tup []:=f'
def JT(d e:D) (l:List D):ig (d::e::l)=.tup (d::e::l):=f'
theorem kQ{c:Prop} [Decidable c] (p:D×List Ent) (f:D->List Ent->Prop):jq (if c then M p else u4) f=(c/\f p.1 p.2):=by
 by_cases h:c<;>simp[h,jq]
theorem MY{α β:Type}{c:Prop} [Decidable c] (a:α) (g:α->β):(if c then M a else u4:Option α).map g=if c then M (g a)else u4:=by
 simp
theorem Z3{α:Type}{l:List α}{a:α}{n:Nat}(h:l.length=n):(l++[a])[n]?=M a:=p5
def r4{α:Type}{l r:List α}{n:Nat}(h:n<l.length):(l++r)[n]?=l[n]?:=List.getElem?_append_left h
theorem M6{α:Type}{l r:List α}{a:α}{n:Nat}(h:n<l.length):(l++r).set n a=l.set n a++r:=p5
theorem L6{α:Type}{l:List α}{a b:α}{n:Nat}(h:l.length=n):(l++[a]).set n b=l++[b]:=by
 simp_all
theorem BJ{α:Type}{l:List α}{a:α}{n:Nat}(h:n<l.length):(l.set n a)[n]?=M a:=p5
theorem sv{α:Type}{l:List α}{a:α}{n:Nat}(h:n≠k):(l.set n a)[k]?=l[k]?:=p5
theorem HN{α:Type}{l:List α}{a:α}{n:Nat}(h:l[n]?=M a):l.set n a=l:=by
 apply bah
 grind
def N6{α:Type}{l:List α}{a b:α}{n:Nat}:(l.set n a).set n b=l.set n b:=List.set_set ..
theorem ab5(k:Nat) (h:k<9223372036854775808):aa b! (k:Int)=(k:Int):=by
 grind[Qb,IntKind.wrap_i64]
theorem WA(i:Nat) (h:i<9223372036854775807):aa b! ((i:Int)+1)=((i+1:Nat):Int):=ab5 (i+1) U
theorem De{n:Int}(h:-9223372036854775808<=n/\n<=9223372036854775807):aa b! n=n:=by
 grind[Qb,IntKind.wrap_i64]
theorem iY(a b:Nat):Int.fdiv (a:Int) (b:Int)=((a / b:Nat):Int):=(Int.fdiv_eq_ediv_of_nonneg _ U).trans U
theorem Fae(r:Nat):aa .u8 (r:Int)=((BitVec.ofNat 8 r).toNat:Int):=by
 grind[aa]
section
variable {k:Nat} {m:List Ent} {id Ca S lo n:Nat} {l:List D}
def yJ{x:a32}:ob (k+1) m (.v x)=.v x:=f'
def bE:ob (k+1) m (.tup l)=.tup (l.map (ob k m)):=f'
def GR:ob (k+1) m (.agg l)=.agg (l.map (ob k m)):=f'
theorem mA(h:m[id]?=M (.live S Ca l)) (hf:ea l=a29):ob (k+1) m (.own id Ca)=.sl S l:=by simp_all[ob]
theorem T3(h:m[id]?=M (.live S Ca l)) (hf:ea l=a29) (hl:lo+n<=l.length):ob (k+1) m (.view id Ca lo n)=.sl S ((l.drop lo).take n):=by
 simp_all[ob]
end
theorem iI{n:Int}(h:0<=n/\n<18446744073709551616):aa .u64 n=n:=by grind[aa]
theorem Wb(h:k<18446744073709551616):aa .u64 (k:Int)=(k:Int):=iI U
def tX:((0:Nat):Int)=0:=f'
def Np(b:Bool):Yd (Op.unary .not (.bool b))=M (.bool (!b)):=f'
theorem Gs(a b:Nat):((a:Int)<(b:Int))↔a<b:=U
theorem HD{a b:List D}(ha:f? k a=a29) (hb:f? k b=a29):f? k (a++b)=a29:=by
 induction a with
 |nil=>grind
 |cons d a ih=>
  simp_all[f?]
theorem Dq{a b:List D}:f? k (a++b)=(f? k a&&f? k b):=by
 induction a with
 |nil=>simp[f?]
 |cons d a ih=>grind[f?]
theorem MR{a b:List D}(ha:ea a=a29) (hb:ea b=a29):ea (a++b)=a29:=by
 grind[Ch]
theorem WY(k:a39) (n:Int):Yd (Op.unary .neg (.int k n))=M (.int k (aa k (-n))):=by
 show M (Value.int k (k.wrap (0-n)))=_
 grind[Qb]
theorem NY(k:a39) (a b:Int):Yd (Builtin.max_ #[] 0 [Value.int k a,Value.int k b].toArray)=M (.int k (max a b)):=by
 simp only[Builtin.max_,Yd,Zaj,bind_pure,Builtin.max2];by_cases h:a<b
 .rw[J h,Int.max_eq_right U];rfl
 .rw[s7 h,Int.max_eq_left U];rfl
theorem PY(k:a39) (a b:Int):Yd (Builtin.min_ #[] 0 [Value.int k a,Value.int k b].toArray)=M (.int k (min a b)):=by
 simp only[Builtin.min_,Yd,Zaj,bind_pure,Builtin.min2];by_cases h:b<a
 .rw[J h,Int.min_eq_right U];rfl
 .rw[s7 h,Int.min_eq_left U];rfl
section
variable {α:Type} {l b c:List α} {a a' x:α}
theorem gq1:((l++[a])++b)[l.length]?=M a:=p6
theorem gq2:(((l++[a])++b)++c)[l.length]?=M a:=p6
theorem gq3{d:List α}:((((l++[a])++b)++c)++d)[l.length]?=M a:=p6
theorem bS0:(((l++[a])++[a'])++c)[l.length+1]?=M a':=by
 simp
theorem bR9{d:List α}:((((l++[a])++[a'])++c)++d)[l.length+1]?=M a':=p6
theorem sq1:((l++[a])++b).set l.length x=(l++[x])++b:=p6
theorem sq2:(((l++[a])++b)++c).set l.length x=((l++[x])++b)++c:=p6
theorem sq3{d:List α}:((((l++[a])++b)++c)++d).set l.length x=(((l++[x])++b)++c)++d:=p6
theorem bP1:(((l++[a])++[a'])++c).set (l.length+1) x=((l++[a])++[x])++c:=by
 simp
end
open Go.RowKit (Below)
open Go.WideShapes
inductive Sh where
 |bool
 |int (k:a39)
 |str
 |sl (S B:Nat) (A:Bool) (e:Sh)
 |cat (l:List Sh)
def aggT(P:a35) (t:a36):Bool:=
 match P.underlying t with
 |some (.struct _)=>a29
 |some (.array _ _)=>a29
 |_=>a30
def Cu(f:a36->Option Sh) (P:a35):List Field->Nat->Option (List Sh×Nat)
 |[],off=>M ([],off)
 |g::gs,off=>
  if g.offset=off then
   match f g.type,Cu f P gs (off+P.cellsOf g.type)with
   |some s,M (l,e)=>M (s::l,e)
   |_,_=>u4
  else u4
def shOf(P:a35):Nat->a36->Option Sh
 |0,_=>u4
 |n+1,t=>
  match P.underlying t with
  |some .bool=>M .bool
  |some (.int k)=>M (.int k)
  |some .string=>M .str
  |some (.slice e)=>if 0<P.cellsOf e/\0<P.bytesOf e then(shOf P n e).map λs=>.sl (P.cellsOf e) (P.bytesOf e) (aggT P e) s else u4
  |some (.struct fs)=>
   match Cu (shOf P n) P fs.toList 0 with
   |some (l,e)=>if e=P.cellsOf t then M (.cat l)else u4
   |none=>u4
  |some (.array k e)=>if P.cellsOf t=k*P.cellsOf e then(shOf P n e).map λs=>.cat (h! k s)else u4
  |_=>u4
def xp(A:Bool) (cs:List D):D:=bif A then .agg cs else cs.headD a!
mutual
def qk:Sh->List D->Prop
 |.bool,ds=>∃b,ds=[.v (.bool b)]
 |.int k,ds=>∃n,ds=[.v (.int k n)]/\(Lit.int k n).wf=a29
 |.str,ds=>∃s:ByteArray,ds=[.v (.string s)]/\s.size<=maxLen
 |.sl S B A e,ds=>∃l,ds=[.sl S l]/\l.length*B<=140737488355328/\∀d∈l,∃cs,qk e cs/\d=xp A cs
 |.cat l,ds=>Cw l ds
def Cw:List Sh->List D->Prop
 |[],ds=>ds=[]
 |s::l,ds=>∃a b,ds=a++b/\qk s a/\Cw l b
end
theorem mG{G:Gh}{w:a33}:∀{a b:List D}{us vs:List a32},VsRel G w a us->VsRel G w b vs->VsRel G w (a++b) (us++vs)
 |[],b,us,vs,c,h2=>by simp only[VsRel]at c;simp_all
 |d::a,b,us,vs,c,h2=>by
  simp only[VsRel]at c;obtain⟨u,r,rfl,e,f⟩:=c;simp only[B',VsRel];exact⟨u,_,rfl,e,mG f h2⟩
theorem ZG{f:a36->Option Sh}{P:a35}:∀{fs:List Field}{off:Nat}{l:List Sh}{e:Nat},Cu f P fs off=M (l,e)->off<=e
 |[],off,l,e,h=>by grind[Cu]
 |g::gs,off,l,e,h=>by
  simp only[Cu]at h;split at h
  .split at h
   .rename_i s l' e' h1 h2;simp at h;have:=ZG h2;omega
   .cases h
  .cases h
def R0(w:a33):Gh:=Gh.bare λb=>b<w.heap.size
theorem BQ{a:Addr}{v:a32}(h:w.cell? a=M v):a.block<w.heap.size:=by
 grind[World.cell?]
section
variable {H:Type} {enc:a36×a32->H} {P:a35} {w:a33} {base:Nat} {spare:Nat->Bool} {held:Bool}
theorem Wu{P:a35}{e:a36}:∀{l:List (DataW H)}{d:DataW H},d∈l->∀n∈d.weights P e,n∈DataW.weightsAll P e l
 |[],_,h=>by cases h
 |x::l,d,h=>by
  intro n hn;simp only[DataW.weightsAll,Ρ];rcases X'.1 h with rfl|h
  .simp_all
  .exact .inr (Wu h n hn)
theorem EG{n fuel:Nat}{cs:List a32}(m:∀t cs x s,shOf P n t=M s->DataW.trod enc P w base spare held fuel t cs=M x->(∀n∈x.1.weights P t,n<=reachBytes)->∃ds,qk s ds/\VsRel (R0 w) w ds cs/\∀c∈cs,one c=a29) :
 ∀(fs:List Field) (off:Nat) (l:List Sh) (e:Nat),Cu (shOf P n) P fs off=M (l,e)->
  (∀f∈fs,∃x,DataW.trod enc P w base spare held fuel f.type ((cs.drop f.offset).take (P.cellsOf f.type))=M x/\∀n∈x.1.weights P f.type,n<=reachBytes)->
  ∃ds,Cw l ds/\VsRel (R0 w) w ds ((cs.drop off).take (e-off))/\∀c∈(cs.drop off).take (e-off),one c=a29
 |[],off,l,e,h,_=>by
  simp[Cu]at h;obtain⟨rfl,rfl⟩:=h;refine⟨[],by simp[Cw],by simp[VsRel],p6⟩
 |g::gs,off,l,e,h,hx=>by
  simp only[Cu]at h;split at h
  .rename_i d;split at h
   .rename_i s l' e' o h2;simp only[M?,F!]at h;obtain⟨rfl,rfl⟩:=h;obtain⟨x,k,j⟩:=hx g p6;obtain⟨a,k1,p,k3⟩:=m _ _ _ _ o k j;obtain⟨b,m1,m2,m3⟩:=EG m gs _ _ _ h2 λf hf=>hx f s5;have hle:=ZG h2;have i:(cs.drop off).take (e'-off)=(cs.drop g.offset).take (P.cellsOf g.type)++(cs.drop (off+P.cellsOf g.type)).take (e'-(off+P.cellsOf g.type)):=by
     rw[show e'-off=P.cellsOf g.type+(e'-(off+P.cellsOf g.type)) by omega,List.take_add,Mag,d]
    rw[i];refine⟨a++b,by simp only[Cw];grind,mG p m2,λc hc=>?_⟩
    grind
   .cases h
  .cases h
theorem NS{n fuel S:Nat}{cs:List a32}{e:a36}{s:Sh}(h:∀cs x,DataW.trod enc P w base spare held fuel e cs=M x->(∀n∈x.1.weights P e,n<=reachBytes)->∃ds,qk s ds/\VsRel (R0 w) w ds cs/\∀c∈cs,one c=a29) :
 ∀(k i:Nat),(∀j,i<=j->j<i+k->∃x,DataW.trod enc P w base spare held fuel e ((cs.drop (j*S)).take S)=M x/\∀n∈x.1.weights P e,n<=reachBytes)->
  ∃ds,Cw (h! k s) ds/\VsRel (R0 w) w ds ((cs.drop (i*S)).take (k*S))/\∀c∈(cs.drop (i*S)).take (k*S),one c=a29
 |0,i,_=>⟨[],by simp[Cw],by simp[VsRel],p6⟩
 |k+1,i,hx=>by
  obtain⟨x,g,f⟩:=hx i (A' _) U;obtain⟨a,k1,l,k3⟩:=h _ _ g f;obtain⟨b,m1,m2,m3⟩:=NS (n:=n) h k (i+1) λj h1 h2=>hx j U U;have d:(cs.drop (i*S)).take ((k+1)*S)=(cs.drop (i*S)).take S++(cs.drop ((i+1)*S)).take (k*S):=by
   grind[Nat.succ_mul,Mag]
  rw[d];refine⟨a++b,by simp only[List.replicate_succ,Cw];grind,mG l m2,λc hc=>?_⟩
  grind
theorem RT{A:Bool}{ds:List D}{cs:List a32}(h:VsRel (R0 w) w ds cs) (f:∀c∈cs,one c=a29) (hA:A=a30->cs.length=1) :
 ∃u:a32,VRel (R0 w) w (xp A ds) u/\u.cells=cs.toArray/\(A=a29->u=.agg cs.toArray)/\(A=a30->∃c,cs=[c]/\u=c):=by
 cases A with
 |true=>exact⟨.agg cs.toArray,by simp only[xp,cond_true,VRel];simp_all,rfl,λ_=>rfl,λh=>by cases h⟩
 |false=>
  match cs,hA rfl with
  |[c],_=>
   match ds,h with
   |d::r,h=>
    simp only[VsRel]at h;obtain⟨u,us,hu,hv,hr⟩:=h;injection hu with e hu2;subst e;have b:=f c p6;have a:c.cells=[c].toArray:=by cases c<;>simp[one]at b<;>rfl
    exact⟨c,by grind[xp],a,λh=>Bool.noConfusion h,λ_=>⟨c,rfl,rfl⟩⟩
theorem Dad{n:Nat}{t:a36}{s:Sh}(h:shOf P n t=M s) {fuel:Nat}{cs:List a32}{x:DataW H×List MemPlace}(hx:DataW.trod enc P w base spare held fuel t cs=M x):aggT P t=a30->cs.length=1:=by
 intro hA
 cases n with
 |zero=>grind[shOf]
 |succ n=>
  simp only[shOf]at h;simp only[aggT]at hA;split at h
  .rename_i hu;obtain⟨b,rfl,_⟩:=DataW.trod_bool hu hx;rfl
  .rename_i hu;obtain⟨b,rfl,_⟩:=DataW.trod_int hu hx;rfl
  .rename_i hu;obtain⟨b,rfl,_⟩:=DataW.trod_string hu hx;rfl
  .rename_i hu;rcases DataW.trod_slice hu hx with⟨rfl,_⟩|⟨a,len,cap,elems,rest,m,_,rfl,_⟩<;>rfl
  all_goals simp_all
theorem DB:∀(n:Nat) (fuel:Nat) (t:a36) (cs:List a32) (x:DataW H×List MemPlace) (s:Sh),shOf P n t=M s->DataW.trod enc P w base spare held fuel t cs=M x->(∀n∈x.1.weights P t,n<=reachBytes)->
 ∃ds,qk s ds/\VsRel (R0 w) w ds cs/\∀c∈cs,one c=a29
 |0,fuel,t,cs,x,s,h,_,_=>by grind[shOf]
 |n+1,fuel,t,cs,x,s,h,hx,o=>by
  simp only[shOf]at h;split at h
  .rename_i hu;injection h with h;subst h;obtain⟨b,rfl,_⟩:=DataW.trod_bool hu hx;exact⟨[.v (.bool b)],by simp only[qk];simp,by simp[VsRel,VRel],by simp[one]⟩
  .rename_i k hu;injection h with h;subst h;obtain⟨b,rfl,_,hw⟩:=DataW.trod_int hu hx;exact⟨[.v (.int k b)],by simp only[qk];simp_all,by simp[VsRel,VRel],by simp[one]⟩
  .rename_i hu;injection h with h;subst h;obtain⟨b,rfl,_,hw⟩:=DataW.trod_string hu hx;exact⟨[.v (.string b)],by simp only[qk];simp_all,by simp[VsRel,VRel],by simp[one]⟩
  .rename_i e hu;split at h
   .rename_i hpos;simp only[A!]at h;obtain⟨G,p,rfl⟩:=h;rcases DataW.trod_slice hu hx with⟨rfl,_⟩|⟨a,len,cap,elems,rest,m,_,rfl,rfl,hb,hl,hm,g,K,_,_⟩
    .refine⟨[.sl (P.cellsOf e) []],by simp only[qk];simp,?_,by simp[one]⟩;simp only[VsRel,VRel]
     grind
    .simp only[DataW.weights,hu,X',Ρ]at o;have L:=o _ (.inl rfl);have hle:len*P.bytesOf e<=140737488355328:=by
      simp only[Kaf]at L;have C:=Nat.mul_le_mul_right (P.bytesOf e) (show len<=elems.length+rest.length by omega)
      grind[reachBytes]
     have each:∀i,i<len->∃d u,(∃cs,qk G cs/\d=xp (aggT P e) cs)/\VRel (R0 w) w d u/\u.cells.size=P.cellsOf e/\(∀j c,u.cells[j]?=M c->one c=a29/\w.cell? ((a.add (i*P.cellsOf e)).add j)=M c):=by
      intro i hi;have C:=K i hi;rw[x! U]at C;obtain⟨ecs,O,y⟩:=eah.1 C;obtain⟨ds,m1,m2,m3⟩:=DB n _ _ _ _ _ p y (λq hq=>o q (.inr (.inl (Wu (maj (E' _)) q hq))));obtain⟨_,q1,q2⟩:=World.cells?_some O;obtain⟨u,r1,r2,_,_⟩:=RT (A:=aggT P e) m2 m3 (Dad p y)
      grind
     have F:∀k,k<=len->∃l:List D,l.length=k/\(∀d∈l,∃cs,qk G cs/\d=xp (aggT P e) cs)/\∀(i:Nat) d,l[i]?=M d->∃u,VRel (R0 w) w d u/\u.cells.size=P.cellsOf e/\(∀j c,u.cells[j]?=M c->one c=a29/\w.cell? ((a.add (i*P.cellsOf e)).add j)=M c):=by
      intro k
      induction k with
      |zero=>simp
      |succ k V=>
       intro hk;obtain⟨l,R,W,Q⟩:=V U;obtain⟨d,u,d1,d2,d3,d4⟩:=each k U;refine⟨l++[d],s5,λd' o4=>?_,λi d' o4=>?_⟩
       all_goals grind
     obtain⟨l,R,W,Q⟩:=F len (A' _);refine⟨[.sl (P.cellsOf e) l],by simp only[qk];simp_all,?_,by simp[one]⟩;simp only[VsRel,VRel];refine⟨_,_,rfl,⟨M a,len,cap,rfl,R.symm,hl,?_⟩,rfl⟩
     cases l with
     |nil=>simp
     |cons d0 l'=>
      obtain⟨T,_,us,uc⟩:=Q 0 d0 rfl;have o0:∃c,T.cells[0]?=M c:=⟨T.cells[0]' U,Array.getElem?_eq_getElem U⟩;obtain⟨c,hc⟩:=o0;have z:=(uc 0 c hc).2;have E:(a.add (0*P.cellsOf e)).add 0=a:=by simp[Addr.add]
      rw[E]at z;obtain⟨b,off,spot⟩:=a;have B:spot=u4:=by simpa using World.cell?_spot z
      subst B;refine .inr ⟨b,off,rfl,BQ z,?_⟩;rw[ue];intro i d hd;obtain⟨u,X,Y,Z⟩:=Q i d hd;refine⟨u,X,Y,λj c hj=>?_⟩;obtain⟨c1,c2⟩:=Z j c hj;refine⟨c1,?_⟩;have haddr:(Addr.add (Addr.add ⟨b,off,u4⟩ (i*P.cellsOf e)) j)=⟨b,off+i*P.cellsOf e+j,u4⟩:=by
       unfold Addr.add
       grind
      simp_all
   .cases h
  .rename_i fs hu;split at h
   .rename_i l e n6;split at h
    .rename_i he;injection h with h;subst h;obtain⟨xs,m,rfl,rfl,g,N,r⟩:=DataW.trod_struct hu hx;simp only[DataW.weights,hu]at o;obtain⟨ds,O,y,k3⟩:=EG (n:=n) (fuel:=m) (cs:=cs) (λt cs x s C h2 I=>DB n _ _ _ _ _ C h2 I) fs.toList 0 l e n6 (λf hf=>by
      obtain⟨i,hi,hfi⟩:=List.mem_iff_getElem.1 hf;have hi':i<fs.size:=U
      have:=r i f p5;rw[x! U]at this;exact⟨_,this,λq hq=>o q (DataW.weights_mem_each (j:=i) (t:=f.type) (d:=(xs[i]' U).1) p5 p5 q hq)⟩)
     rw[Eag,Rah,he,←g,υ]at y k3;exact⟨ds,by simp only[qk];omega,y,k3⟩
    .cases h
   .cases h
  .rename_i k e hu;split at h
   .rename_i he;simp only[A!]at h;obtain⟨G,p,rfl⟩:=h;obtain⟨xs,m,rfl,rfl,g,N,r⟩:=DataW.trod_array hu hx;simp only[DataW.weights,hu]at o;obtain⟨ds,O,y,k3⟩:=NS (n:=n) (fuel:=m) (S:=P.cellsOf e) (cs:=cs) (e:=e) (s:=G) (λcs x h2 I=>DB n _ _ _ _ _ p h2 I) k 0 (λj _ hj=>by
     grind[Wu,maj,E'])
    rw[Nat.zero_mul,Eag,←he,←g,υ]at y k3;exact⟨ds,by simp only[qk];omega,y,k3⟩
   .cases h
  .cases h
def LookV(A:Bool) (s:Sh) (d:D):Prop:=∃ds,qk s ds/\d=xp A ds
theorem arg_tree{n:Nat}{t:a36}{s:Sh}{v:a32}{d:DataW H}{p:List MemPlace}{r:Reach}{f:Nat}(h:shOf P n t=M s) (hx:DataW.Trod enc P w base spare held t v d p) (hv:Value.okWide P w r f t v) (e:∀n∈d.weights P t,n<=reachBytes) :
 ∃d',LookV (aggT P t) s d'/\VRel (R0 w) w d' v:=by
 obtain⟨fuel,hx⟩:=hx;obtain⟨ds,g,i,k3⟩:=DB n _ _ _ _ _ h hx e;obtain⟨u,u1,u2,j,k⟩:=RT (A:=aggT P t) i k3 (Dad h hx);refine⟨xp (aggT P t) ds,⟨ds,g,rfl⟩,?_⟩;have:u=v:=by
  cases hA:aggT P t with
  |true=>
   rw[j hA];unfold aggT at hA;split at hA
   .rename_i hu;simp only[Value.okWide,hu]at hv;obtain⟨cs,rfl,_⟩:=hv;simp[Value.cells]
   .rename_i hu;simp only[Value.okWide,hu]at hv;obtain⟨cs,rfl,_⟩:=hv;simp[Value.cells]
   simp_all
  |false=>
   obtain⟨c,hc,rfl⟩:=k hA
   cases n with
   |zero=>grind[shOf]
   |succ n=>
    simp only[shOf]at h;unfold aggT at hA;split at h
    .rename_i hu;obtain⟨b,rfl⟩:=okWide_bool hu hv;grind[Value.cells]
    .rename_i hu;obtain⟨b,rfl⟩:=okWide_int hu hv;grind[Value.cells]
    .rename_i hu;obtain⟨b,rfl⟩:=okWide_string hu hv;grind[Value.cells]
    .rename_i hu;obtain⟨a,l,c',rfl⟩:=okWide_slice hu hv;grind[Value.cells]
    all_goals simp_all
 simp_all
end
theorem fT{G':Gh}(h:Step G w [] G' w' m'):Below w.heap.size w w':=
 ⟨h.os,h.tape,h.output,h.size,λk hk=>h.keep k hk λ⟨i,e,he,_⟩=>by simp at he⟩
theorem gok_tab{P:a35}{W:a33}{name:String}(i:P.globalNamed name=M 0) (f:Go.Lib.TabIs P W name b! [31,28,31,30,31,30,31,31,30,31,30,31]):GOK (R0 W) W:=by
 intro g d h;unfold gtab at h;split at h
 .injection h with h;subst h;have hc:=f.cell i;refine(by
   simp only[VRel];refine⟨0,0,.agg (([31,28,31,30,31,30,31,31,30,31,30,31]:List Int).map λn=>Value.int b! n).toArray,rfl,?_,⟨_,rfl,?_,?_⟩,?_⟩
   .exact BQ (a:=⟨0,0,u4⟩) (hc 0 s6)
   .simp only[w?,D!,VsRel,VRel];simp
   .intro c hc;simp only[w?,D!,X',pah,or_false]at hc;rcases hc with rfl|rfl|rfl|rfl|rfl|rfl|rfl|rfl|rfl|rfl|rfl|rfl<;>rfl
   .intro j c hj;have e:(([31,28,31,30,31,30,31,31,30,31,30,31]:List Int).map λn=>Value.int b! n)[j]?=M c:=by grind[Value.cells]
    obtain⟨hlt,b⟩:=Τ.1 e;have hlt':j<([31,28,31,30,31,30,31,31,30,31,30,31]:List Int).length:=s5
    rw[List.getElem_map]at b;subst b;refine⟨rfl,?_⟩
    simp_all:VRel (R0 W) W (.pt (.agg ([31,28,31,30,31,30,31,31,30,31,30,31].map λn=>.v (.int b! n)))) (.pointer (M ⟨0,0,u4⟩)))
 .cases h
theorem law_walk{P:a35}{f:a38}{ds:List D}(h:CallT P f ds [] λd _=>d=.v (.bool a29)) (hv:VsRel (R0 w) w ds vs) (b:GOK (R0 w) w) :
 Calls P f vs.toArray w λe w'=>e=.returned (.bool a29)/\Below w.heap.size w w':=by
 refine(h.2 (R0 w) w vs hv (Tv (λ_ h=>h) b)).mono ?_;rintro e w' ⟨v,d,m',G',rfl,rfl,a,-,c⟩;simp only[VRel]at a;subst a;exact⟨rfl,fT c⟩
variable {P:a35}
def w9(op:BinOp) (j k:a39) (a b:Int):Yd (binOp op 0 (.int j a) (.int k b))=Fa op j a k b:=(ug ..).symm
def LZ(k:a39) (n:Int):k.wrap n=aa k n:=(Qb k n).symm
def zz:=(ak (ak (ak (ak (ak (ak @Aaf.{0} (ak @xag.{0} @WY)) (ak (ak @NY @PY) (ak @false_and @and_false))) (ak (ak @true_or (ak @or_true @or_self)) (ak (ak @false_or @or_false) (ak @tX @eq_self.{1})))) (ak (ak (ak @Np (ak @aV8 @aV9)) (ak (ak @bne_self_eq_false.{0} @bne_iff_ne.{0}) (ak @bne_eq_false_iff_eq.{0} @M'))) (ak (ak (ak @hag @false_implies) (ak @true_implies @implies_true.{1})) (ak (ak @not_true_eq_false @not_false_eq_true) (ak @beq_self_eq_true.{0} @cQ))))) (ak (ak (ak (ak @QN (ak @dQ @CC)) (ak (ak @oG @SP) (ak @rU @XW))) (ak (ak (ak @oF @lI) (ak @Zm @As)) (ak (ak @Wm @ts) (ak @Ds @Vm)))) (ak (ak (ak @Di (ak @Ym @Xm)) (ak (ak @Cs @bN5) (ak @Kc @Vf))) (ak (ak (ak @Ai @eM) (ak @aX @H8)) (ak (ak @aM @ZW) (ak @G8 @Jm)))))) (ak (ak (ak (ak (ak @Xp (ak @bc8 @Qi)) (ak (ak @Bw @bd3) (ak @kQ @MY))) (ak (ak @b?.{0,0} (ak @qai @oag)) (ak (ak @cah @TP) (ak @D8 @RZ)))) (ak (ak (ak @H3 (ak @IT @JT)) (ak (ak @HT @Qaj) (ak @Bai @true_and))) (ak (ak (ak @and_true @and_self) (ak @ζ @η)) (ak (ak @δ @γ) (ak @ε @Wc))))) (ak (ak (ak (ak @P?.{0} (ak @U!.{0} @B'.{0})) (ak (ak @G?.{0} @w!.{0}) (ak @A?.{0} @Μ.{0}))) (ak (ak (ak @Ω.{0} @w?.{0,0}) (ak @D!.{0,0} @Β.{0,0})) (ak (ak @θ.{0,0} @w9) (ak @decide_true @cond_true.{1})))) (ak (ak (ak @cond_false.{1} (ak @if_true.{1} @if_false.{1})) (ak (ak @decide_eq_true_eq @decide_eq_false_iff_not) (ak @X? @Y'))) (ak (ak (ak @κ @Z?) (ak @Κ @LZ)) (ak (ak @decide_false @beq_iff_eq.{0}) (ak @beq_eq_false_iff_ne.{0} @ne_eq.{1})))))))
def zc:=(ak (ak (ak @Sah.{0} (ak @Eag.{0} @Χ.{0})) (ak @Bag.{0} (ak @List.take_nil.{0} @List.drop_nil.{0}))) (ak (ak @Z! (ak @Hag @Kaf.{0,0})) (ak (ak @A' @ite_true.{1}) (ak @ite_false.{1} @R?.{0}))))
def zm:=(ak (ak (ak (ak @gq1 @gq2) (ak @gq3 @bS0)) (ak (ak @bR9 @sq1) (ak @sq2 (ak @sq3 @bP1)))) (ak (ak (ak @Z3 @r4) (ak @M6 @L6)) (ak (ak @BJ @sv) (ak @N6 (ak @List.length_set.{0} @G!.{0})))))
variable {P:a35}
abbrev Wq:=List (Option Nat×Nat×Nat)
variable {os:Wq}
def Bt(ρ:Wq) (j:Nat):Bool:=ρ.all λo=>match o.1 with|some k=>k !=j|none=>a29
inductive t! (ρ:Wq) (m:List Ent):List D->List D->Prop
 |nil:t! ρ m [] []
 |same {d l r} (hf:sa d=a29) (h:t! ρ m l r):t! ρ m (d::l) (d::r)
 |dead {d l r} (h:t! ρ m l r):t! ρ m (d::l) (a!::r)
 |nils {S l r} (h:t! ρ m l r):t! ρ m (.v (.slice u4 0 0)::l) (.sl S []::r)
 |Mv {S u l r} (i:Nat) (hi:ρ[i]?=M (u4,S,u)) (h:t! ρ m l r):t! ρ m (.v (.slice u4 0 0)::l) (.own i u::r)
 |agg {a b l r} (ha:t! ρ m a b) (h:t! ρ m l r):t! ρ m (.agg a::l) (.agg b::r)
 |tup {a b l r} (ha:t! ρ m a b) (h:t! ρ m l r):t! ρ m (.tup a::l) (.tup b::r)
 |sl {S a b l r} (ha:t! ρ m a b) (h:t! ρ m l r):t! ρ m (.sl S a::l) (.sl S b::r)
 |own {j v u i l r} (hi:ρ[i]?=M (M j,v,u)) (h:t! ρ m l r):t! ρ m (.own j v::l) (.own i u::r)
 |ref {j v u i x s l r} (hi:ρ[i]?=M (M j,v,u)) (h:t! ρ m l r):t! ρ m (.ref j v x s::l) (.ref i u x s::r)
 |view {j v u i lo n l r} (hi:ρ[i]?=M (M j,v,u)) (h:t! ρ m l r):t! ρ m (.view j v lo n::l) (.view i u lo n::r)
 |mp {j i l r} (hi:ρ[i]?=M (M j,0,0)) (h:t! ρ m l r):t! ρ m (.mp j::l) (.mp i::r)
 |ob {S j v a b l r} (hm:m[j]?=M (.live S v a)) (ho:Bt ρ j=a29) (ha:t! ρ m a b) (h:t! ρ m l r):t! ρ m (.own j v::l) (.sl S b::r)
 |fview {S j v lo n a b l r} (hm:m[j]?=M (.live S v a)) (ho:Bt ρ j=a29) (hn:lo+n<=a.length) (ha:t! ρ m ((a.drop lo).take n) b) (h:t! ρ m l r):t! ρ m (.view j v lo n::l) (.sl S b::r)
 |fref {S j v x a d e l r} (hm:m[j]?=M (.live S v a)) (ho:Bt ρ j=a29) (hx:a[x]?=M d) (ha:t! ρ m [d] [e]) (h:t! ρ m l r):t! ρ m (.ref j v x 0::l) (.pt e::r)
 |pt {d e l r} (ha:t! ρ m [d] [e]) (h:t! ρ m l r):t! ρ m (.pt d::l) (.pt e::r)
 |fn {f a b c d l r} (ha:t! ρ m a b) (hc:t! ρ m c d) (h:t! ρ m l r):t! ρ m (.fn f a c::l) (.fn f b d::r)
 |ifc {t d e l r} (ha:t! ρ m [d] [e]) (h:t! ρ m l r):t! ρ m (.ifc t d::l) (.ifc t e::r)
def frM(es:List (a32×D)):Bool:=es.all λp=>sa p.2
inductive Ets (ρ:Wq) (m:List Ent):Wq->List Ent->Prop
 |nil:Ets ρ m [] []
 |live {j v u S l l' os es} (hm:m[j]?=M (.live S v l)) (hl:t! ρ m l l') (h:Ets ρ m os es):Ets ρ m ((M j,v,u)::os) (.live S u l'::es)
 |new {S u os es} (h:Ets ρ m os es):Ets ρ m ((u4,S,u)::os) (.live S u []::es)
 |mp {j es os ees} (hm:m[j]?=M (.mp es)) (hf:frM es=a29) (h:Ets ρ m os ees):Ets ρ m ((M j,0,0)::os) (.mp es::ees)
variable {m:List Ent}
structure az0 (ρ:Wq) (s S:St):Prop where
 t:t! ρ s.m s.t S.t
 m:Ets ρ s.m ρ S.m
 one:(ρ.filterMap (·.1)).Nodup
variable {S:St}
def Fb(G:Gh) (m:List Ent) (ρ:Wq):Gh where
 F b:=G.F b\/(Oc G m b/\∀(i j:Nat) v,ρ[i]?=M (M j,v)->G.B j≠M b)
 n:=ρ.length
 B i:=match ρ[i]? with|some (M j,_)=>G.B j|_=>u4
 V i:=match ρ[i]? with|some (_,_,u)=>u|_=>0
 S i:=match ρ[i]? with|some (M j,_)=>G.S j|some (u4,S,_)=>S|_=>0
 N i:=match ρ[i]? with|some (M j,_)=>G.N j|_=>0
 C i:=match ρ[i]? with|some (M j,_)=>G.C j|_=>(0,0)
theorem aZ{ρ:Wq}(h:Bt ρ j=a29):∀(i k:Nat) v,ρ[i]?=M (M k,v)->k≠j:=by
 grind[Bt]
theorem kG{ρ:Wq}(hi:Inv G w m) (d:∀(i j:Nat) v,ρ[i]?=M (M j,v)->∃e:Ent,m[j]?=M e/\e.isLive=a29) {e:Ent}(hm:m[j]?=M e) (hl:e.isLive=a29) (ho:Bt ρ j=a29) {b:Nat}(hb:G.B j=M b):(Fb G m ρ).F b:=by
 refine .inr ⟨⟨j,e,hm,hl,hb⟩,λi k v a g=>?_⟩;obtain⟨e',c,f⟩:=d i k v a;exact aZ ho i k v a (hi.apart k j e' e c hm f hl b g hb)
theorem t!.length{ρ:Wq}{m:List Ent}{l r:List D}(h:t! ρ m l r):l.length=r.length:=by
 induction h<;>simp_all
theorem mD{ρ:Wq}{o:Option Nat×Nat×Nat}(h:ρ[i]?=M o):i<ρ.length:=by
 grind
theorem t!.rel{ρ:Wq}(hi:Inv G w m) (z:∀(i j:Nat) v,ρ[i]?=M (M j,v)->∃e:Ent,m[j]?=M e/\e.isLive=a29/\(∀S E l,e=.live S E l->E=v.1)) {l:List D}(h:t! ρ m l r) :
 (∀us,VsRel G w l us->VsRel (Fb G m ρ) w r us)/\(∀b S off,Va G w b S l off->Va (Fb G m ρ) w b S r off):=by
 have y:∀(i j:Nat) v,ρ[i]?=M (M j,v)->∃e:Ent,m[j]?=M e/\e.isLive=a29:=λi j v h=>s5
 have both:∀{d e:D} {l r:List D},(∀u,VRel G w d u->VRel (Fb G m ρ) w e u)->
  ((∀us,VsRel G w l us->VsRel (Fb G m ρ) w r us)/\(∀b S off,Va G w b S l off->Va (Fb G m ρ) w b S r off))->
  ((∀us,VsRel G w (d::l) us->VsRel (Fb G m ρ) w (e::r) us)/\(∀b S off,Va G w b S (d::l) off->Va (Fb G m ρ) w b S (e::r) off)):=by
  intro d e l r h1 h2;refine⟨λus hv=>?_,λb S off hv=>?_⟩
  .simp only[VsRel]at hv⊢
   grind
  .simp only[Va]at hv⊢
   grind
 have first:∀{d e:D},(∀us,VsRel G w [d] us->VsRel (Fb G m ρ) w [e] us)->∀u,VRel G w d u->VRel (Fb G m ρ) w e u:=by
  intro d e h u hu;have:=h [u] (by simp only[VsRel];simp_all);simp only[VsRel]at this
  simp_all
 induction h with
 |nil=>exact⟨λus h=>by simpa [VsRel] using h,λ_ _ _ _=>by simp[Va]⟩
 |same hf h o=>exact both (λu hu=>VRel.free (G':=Fb G m ρ) ⟨λ_ h=>Or.inl h,λ_ _=>rfl⟩ hf hu) o
 |dead h o=>exact both (λu _=>Q!) o
 |nils h o=>exact both (λu hu=>by simp only[VRel]at hu⊢;grind) o
 |Mv i k h o=>
  refine both (λu hu=>?_) o;simp only[VRel]at hu⊢;exact⟨u4,0,0,hu,mD k,by grind[Fb],λ_=>by grind[Fb]⟩
 |agg ha h q o=>
  refine both (λu hu=>?_) o;simp only[VRel]at hu⊢
  grind
 |tup ha h q o=>
  refine both (λu hu=>?_) o;simp only[VRel]at hu⊢
  grind
 |sl ha h q o=>
  refine both (λu hu=>?_) o;simp only[VRel]at hu⊢;obtain⟨a,n,cap,rfl,hn,hc,g⟩:=hu;refine⟨a,n,cap,rfl,by rw[←ha.length];omega,hc,?_⟩;rcases g with rfl|⟨b,off,rfl,B,hr⟩
  .exact .inl (vaf ha.length.symm)
  .exact .inr ⟨b,off,rfl,.inl B,q.2 b _ off hr⟩
 |own k h o=>
  refine both (λu hu=>?_) o;obtain⟨e,he,hl,hv⟩:=z _ _ _ k;simp only[VRel]at hu⊢;obtain⟨a,n,c,rfl,g1,g2,g3⟩:=hu;refine⟨a,n,c,rfl,mD k,by grind[Fb],λ_=>?_⟩;have f:=hi.ent _ _ he
  cases e with
  |live S E l'=>
   obtain⟨a1,_⟩:=f;have:=g3 s5
   grind[Fb]
  |mp es=>
   obtain⟨a1,_⟩:=f
   grind[Fb]
  |gone=>grind[Ent.isLive]
 |ref k h o=>
  refine both (λu hu=>?_) o;obtain⟨e,he,hl,hv⟩:=z _ _ _ k;simp only[VRel]at hu⊢;obtain⟨a,rfl,g1,g2,g3⟩:=hu;refine⟨a,rfl,mD k,by grind[Fb],λ_=>?_⟩;have f:=hi.ent _ _ he
  cases e with
  |live S E l'=>
   obtain⟨a1,_⟩:=f;have:=g3 s5;simpa [Fb,k] using this
  |mp es=>
   obtain⟨a1,_⟩:=f;have:=g3 U;simpa [Fb,k] using this
  |gone=>grind[Ent.isLive]
 |view k h o=>
  refine both (λu hu=>?_) o;obtain⟨e,he,hl,hv⟩:=z _ _ _ k;simp only[VRel]at hu⊢;obtain⟨a,c,rfl,N,g1,g2,g3⟩:=hu;refine⟨a,c,rfl,N,mD k,by grind[Fb],λ_=>?_⟩;have f:=hi.ent _ _ he
  cases e with
  |live S E l'=>
   obtain⟨a1,_⟩:=f;have:=g3 s5;simpa [Fb,k] using this
  |mp es=>
   obtain⟨a1,_⟩:=f;have:=g3 U;simpa [Fb,k] using this
  |gone=>grind[Ent.isLive]
 |mp k h o=>
  refine both (λu hu=>?_) o;simp only[VRel]at hu⊢;obtain⟨b,rfl,g1,g2⟩:=hu;obtain⟨e,he,hl,hv⟩:=z _ _ _ k;have f:=hi.ent _ _ he;refine⟨b,rfl,mD k,λ_=>?_⟩
  cases e with
  |live S E l'=>
   obtain⟨a1,_⟩:=f;have:=g2 s5
   grind[Fb]
  |mp es=>
   obtain⟨a1,_⟩:=f
   grind[Fb]
  |gone=>grind[Ent.isLive]
 |ob hm ho ha h q o=>
  refine both (λu hu=>?_) o;obtain⟨a1,a2,a3,a4,a5⟩:=hi.ent _ _ hm;simp only[VRel]at hu⊢;obtain⟨a,n,c,rfl,g1,g2,g3⟩:=hu;obtain⟨rfl,rfl,rfl⟩:=g3 a1;refine⟨_,_,_,rfl,by rw[a3,ha.length],U,?_⟩;rcases a5 with a5|⟨o4,cs,T,s,B,A,H,t⟩
  .have K:=congrArg vaj a5.2;dsimp only at K;exact .inl (vaf (by have:=ha.length;omega))
  .exact .inr ⟨o4,(G.C _).2,p5,kG hi y hm rfl ho s,q.2 o4 _ _ t⟩
 |@fview S j v lo n a b l r hm ho hn ha h q o=>
  refine both (λu hu=>?_) o;obtain⟨a1,a2,a3,a4,a5⟩:=hi.ent _ _ hm;simp only[VRel]at hu⊢;obtain⟨p,c,rfl,n6,L,I,hx⟩:=hu;have F:=ha.length;rw[List.length_take,List.length_drop]at F;refine⟨p,_,c,rfl,U,n6,?_⟩;rcases hx a1 with rfl|⟨b,hb,rfl⟩
  .grind
  .rcases a5 with a5|⟨o4,cs,T,s,B,A,H,t⟩
   .simp_all
   .rw[hb]at s;injection s with s;subst s;refine .inr ⟨_,_,rfl,kG hi y hm rfl ho hb,q.2 _ _ _ ?_⟩
    grind[Ft,Et]
 |fref hm ho hx ha h q o=>
  refine both (λu hu=>?_) o;obtain⟨a1,a2,a3,a4,a5⟩:=hi.ent _ _ hm;simp only[VRel]at hu⊢;obtain⟨p,rfl,L,I,O⟩:=hu;obtain⟨b,hb,rfl⟩:=O a1;rcases a5 with a5|⟨o4,cs,T,s,B,A,H,t⟩
  .simp_all
  .rw[hb]at s;injection s with s;subst s;obtain⟨u,P,k2,k3⟩:=ue.1 t _ _ hx;refine⟨b,_,u,rfl,kG hi y hm rfl ho hb,first q.1 u P,?_⟩
   grind
 |pt ha h q o=>
  refine both (λu hu=>?_) o;simp only[VRel]at hu⊢;obtain⟨b,off,x,rfl,B,hd,hh⟩:=hu;exact⟨b,off,x,rfl,.inl B,first q.1 x hd,hh⟩
 |fn ha hc h q ihc o=>
  refine both (λu hu=>?_) o;simp only[VRel]at hu⊢
  grind
 |ifc ha h q o=>
  refine both (λu hu=>?_) o;simp only[VRel]at hu⊢
  grind
theorem Ets.get{ρ:Wq}(h:Ets ρ m os es):os.length=es.length/\∀(i:Nat) e,es[i]?=M e->
 (∃j v u S l l',os[i]?=M (M j,v,u)/\m[j]?=M (.live S v l)/\t! ρ m l l'/\e=.live S u l')\/(∃S u,os[i]?=M (u4,S,u)/\e=.live S u [])\/(∃j l,os[i]?=M (M j,0,0)/\m[j]?=M (.mp l)/\frM l=a29/\e=.mp l):=by
 induction h with
 |nil=>simp
 |live hm hl h a=>
  grind
 |new h a=>
  grind
 |mp hm hf h a=>
  grind
theorem Ets.src{ρ:Wq}(h:Ets ρ m os es):∀(i j:Nat) v,os[i]?=M (M j,v)->∃e:Ent,m[j]?=M e/\e.isLive=a29/\(∀S a l,e=.live S a l->a=v.1):=by
 induction h with
 |nil=>simp
 |live hm hl h b=>
  intro i j v hi
  cases i with
  |zero=>
   simp only[Aaf,M?,F!]at hi;obtain⟨rfl,rfl⟩:=hi;exact⟨_,hm,rfl,λS a l he=>p5⟩
  |succ i=>grind
 |new h b=>
  grind
 |mp hm hf h b=>
  intro i j v hi
  cases i with
  |zero=>
   simp only[Aaf,M?,F!]at hi;obtain⟨rfl,rfl⟩:=hi;exact⟨_,hm,rfl,λS a l he=>nomatch he⟩
  |succ i=>grind
theorem Od.free{G G':Gh}{w:a33}(a:∀b,G.F b->G'.F b):∀{l:List (a32×D)}{es:List MapEntry},frM l=a29->Od G w l es->Od G' w l es
 |[],es,_,h=>h
 |(k,d)::l,es,hf,h=>by
  simp only[frM,Iag,D?]at hf;obtain⟨e,r,c,f,h2,g⟩:=h;exact⟨e,r,c,f,VRel.free (G':=G') ⟨λ_ h=>a _ h,λ_ _=>rfl⟩ hf.1 h2,Od.free a hf.2 g⟩
theorem pN{ρ:Wq}(h:(ρ.filterMap (·.1)).Nodup):∀(i a j:Nat) v b,ρ[i]?=M (M j,v)->ρ[a]?=M (M j,b)->i=a:=by
 induction ρ with
 |nil=>simp
 |cons o os ih=>
  grind
def pz(ρ:Wq):Nat->Bool
 |0=>a29
 |n+1=>pz ρ n&&(match ρ[n]? with|some (M j,v,u)=>j==n&&D1 (v<=u)|_=>a30)
theorem PF{ρ:Wq}:∀{n:Nat},pz ρ n=a29->∀i,i<n->∃v u,v<=u/\ρ[i]?=M (M i,v,u)
 |0,_,i,hi=>absurd hi (daj i)
 |n+1,h,i,hi=>by
  simp only[pz,D?]at h;rcases Nat.lt_or_ge i n with a|a
  .exact PF h.1 i a
  grind
theorem Ht{N:Nat}{ρ:Wq}{s:St}(hk:pz ρ N=a29) (h:az0 ρ s S) {a:Act}(hr:p! G w a s):p! (Fb G s.m ρ) w a S/\x' N G w s.m (Fb G s.m ρ) w S.m:=by
 have hi:=hr.inv;have p:=h.m.src;have d:=h.m.get;have hrow:∀{l r:List D},t! ρ s.m l r->∀b S off,Va G w b S l off->Va (Fb G s.m ρ) w b S r off:=λL=>(L.rel hi p).2;have q:∀b,Oc (Fb G s.m ρ) S.m b->Oc G s.m b:=by
  rintro b ⟨i,e,he,hl,hB⟩;rcases d.2 i e he with⟨j,v,u,S',l,l',c,h2,f,rfl⟩|⟨S',u,c,rfl⟩|⟨j,l,c,h2,f,rfl⟩
  .exact⟨j,_,h2,rfl,by grind[Fb]⟩
  .grind[Fb]
  .exact⟨j,_,h2,rfl,by grind[Fb]⟩
 refine⟨⟨(h.t.rel hi p).1 _ hr.t,⟨d.1,?_,?_,?_,hi.gl.bare λ_ h=>.inl h⟩,hr.defers⟩,⟨λ_ hb=>.inl hb,λ_ _=>rfl,?_,?_,rfl,rfl,rfl,A' _,λ_ _ _=>rfl,?_,λb _ hb=>q b hb⟩⟩
 .rintro b (hb|hb)
  .exact hi.F b hb
  .exact(Oc.lt hi hb.1).1
 .intro i e he;rcases d.2 i e he with⟨j,v,u,S',l,l',c,h2,f,rfl⟩|⟨S',u,c,rfl⟩|⟨j,l,c,h2,f,rfl⟩
  rotate_left 2
  .obtain⟨a1,z,I,H,o,K,g,x⟩:=hi.ent _ _ h2;refine⟨by grind[Fb],z,I,H,by grind[Fb],?_,g,Od.free (G':=Fb G s.m ρ) (λ_ h=>Or.inl h) f x⟩;rintro(hb|⟨_,hb⟩)
   all_goals grind
  .obtain⟨a1,a2,a3,a4,a5⟩:=hi.ent _ _ h2;have hlen:=f.length;refine⟨by grind[Fb],by grind[Fb],by grind[Fb],by grind[Fb],?_⟩;rcases a5 with a5|⟨z,cs,T,o,K,g,hsz,x⟩
   .grind[Fb]
   .refine .inr ⟨z,cs,T,by grind[Fb],?_,g,by grind[Fb],by grind[Fb]⟩;rintro(hb|⟨_,hb⟩)
    all_goals grind
  .exact⟨by grind[Fb],by grind[Fb],by grind[Fb],p6,.inl (by grind[Fb])⟩
 .intro i n6 e e' he A hl hl' b hb o;have src:∀(i:Nat) e,S.m[i]?=M e->(Fb G s.m ρ).B i=M b->∃j v e0,ρ[i]?=M (M j,v)/\s.m[j]?=M e0/\e0.isLive=a29/\G.B j=M b:=by
   intro i e he hb;rcases d.2 i e he with⟨j,v,u,S1,l,l',c,h2,f,rfl⟩|⟨S1,u,c,rfl⟩|⟨j,l,c,h2,f,rfl⟩
   .exact⟨j,_,_,c,h2,rfl,by grind[Fb]⟩
   .grind[Fb]
   .exact⟨j,_,_,c,h2,rfl,by grind[Fb]⟩
  obtain⟨j,v,e0,c,h2,f,y⟩:=src i e he hb;obtain⟨E,O,e0',g1,g2,g3,g4⟩:=src n6 e' A o;have hj:j=E:=hi.apart j E _ _ h2 g2 f g3 b y g4;subst hj;exact pN h.one _ _ _ _ _ c g1
 .cases N with
  |zero=>omega
  |succ n=>
   obtain⟨v,u,-,hv⟩:=PF hk n (Aai n);exact mD hv
 .intro i C;obtain⟨v,u0,hvu,hv⟩:=PF hk i C;obtain⟨e,he,hl,hver⟩:=p _ _ _ hv;have hent:=hi.ent _ _ he;have hV:G.V i=v:=by
   rcases d.2 i _ (x! s5)with⟨j,O,u,S',l,l',c,h2,f,y⟩|⟨S',u,c,y⟩|⟨j,l,c,h2,f,y⟩
   .rw[hv]at c;injection c with c;injection c with k c;injection k with k;injection c with c o4;subst k;subst c;exact(hi.ent _ _ h2).1
   .simp_all
   .rw[hv]at c;injection c with c;injection c with k c;injection k with k;injection c with c o4;subst k;subst c;exact(hi.ent _ _ h2).1
  grind[Fb]
 .rintro b _ (hb|⟨hb,_⟩)
  all_goals simp_all
theorem T.tell{N:Nat}(ρ:Wq) {c:C}{K:Exit->St->Prop}{s:St}(hk:pz ρ N=a29) (h:az0 ρ s S) (b:Tm.T P N c K S):Tm.T P N c K s:=
 T.ghost (λG w a _ hr=>⟨_,(Ht hk h hr).1,(Ht hk h hr).2⟩) b
variable {P:a35} {N:Nat}
inductive Ex (σ β ρ:Type) where
 |go (s:σ)
 |brk (b:β)
 |ret (v:ρ)
variable {β σ:Type}{ρ:Wq}
section
variable {σ β ρ:Type}
def Es(step:σ->Option (Ex σ β ρ)):Nat->σ->Option (β⊕ρ)
 |0,_=>u4
 |n+1,s=>
  match step s with
  |none=>u4
  |some (.go s')=>Es step n s'
  |some (.brk b)=>M (.inl b)
  |some (.ret v)=>M (.inr v)
theorem WC{step:σ->Option (Ex σ β ρ)}:∀{n:Nat}{s:σ}{r},Es step n s=M r->∀k,Es step (n+k) s=M r
 |0,s,r,h,k=>by grind[Es]
 |n+1,s,r,h,k=>by
  rw[show n+1+k=(n+k)+1 by omega];simp only[Es]at h⊢;split
  .simp_all
  .rename_i a;rw[a]at h;exact WC h k
  all_goals simp_all
open Classical in
noncomputable def ja(step:σ->Option (Ex σ β ρ)) (s:σ):Option (β⊕ρ):=
 if h:∃n r,Es step n s=M r then M h.choose_spec.choose else u4
theorem QJ{step:σ->Option (Ex σ β ρ)}{s:σ}{n:Nat}{r}(h:Es step n s=M r):ja step s=M r:=by
 have a:∃n r,Es step n s=M r:=⟨n,r,h⟩;unfold ja;rw[dif_pos a];have h1:=WC a.choose_spec.choose_spec n
 grind[WC]
theorem iN{step:σ->Option (Ex σ β ρ)}{s:σ}{r}:ja step s=M r↔∃n,Es step n s=M r:=by
 grind[ja,QJ]
theorem Gc{step:σ->Option (Ex σ β ρ)}{s s':σ}(h:step s=M (.go s')):ja step s=ja step s':=by
 apply Option.ext;intro r;simp only[iN];constructor
 .rintro⟨n,hn⟩
  cases n with
  |zero=>grind[Es]
  |succ n=>grind[Es]
 .rintro⟨n,hn⟩;exact⟨n+1,by grind[Es]⟩
theorem Gb{step:σ->Option (Ex σ β ρ)}{s:σ}{b:β}(h:step s=M (.brk b)):ja step s=M (.inl b):=QJ (n:=1) (by grind[Es])
theorem ep{step:σ->Option (Ex σ β ρ)}{s:σ}{v:ρ}(h:step s=M (.ret v)):ja step s=M (.inr v):=QJ (n:=1) (by grind[Es])
end
inductive i! (N:Nat):St->St->Prop
 |refl (s:St):i! N s s
 |step {s s' S:St} (ρ:Wq) (hk:pz ρ N=a29) (h:az0 ρ s s') (t:i! N s' S):i! N s S
theorem i!.one{s:St}(ρ:Wq) (hk:pz ρ N=a29) (h:az0 ρ s S):i! N s S:=.step ρ hk h (.refl S)
theorem i!.trans{a b c:St}(h:i! N a b) (k:i! N b c):i! N a c:=by
 induction h with
 |refl=>exact k
 |step ρ hk h t d=>exact .step ρ hk h (d k)
theorem T.QK{c:C}{K:Exit->St->Prop}{s:St}(h:i! N s S) (hT:Tm.T P N c K S):Tm.T P N c K s:=by
 induction h with
 |refl=>omega
 |step ρ hk h t ih=>grind[T.tell]
def Stb(N:Nat) (K:Exit->St->Prop):Prop:=∀s S,i! N s S->K .normal S->K .normal s
def bf8{b:C}{K:Exit->St->Prop}:Stb N (KS P N b K):=λs S h k=>T.QK h k
def bg2{K:Exit->St->Prop}(h:Stb N K):Stb N (KB id K):=h
def KL{σ β ρ:Type}(N id:Nat) (K:Exit->St->Prop) (S:σ->St) (B:β->St) (z:Ex σ β ρ) (e:Exit) (s':St):Prop:=
 match e with
 |.normal=>match z with|.go x=>i! N s' (S x)|_=>False
 |.exit j=>if j=id then(match z with|.brk b=>i! N s' (B b)|_=>False)else K (.exit j) s'
 |e=>K e s'
section
variable {σ β ρ:Type} {id:Nat} {K:Exit->St->Prop} {S:σ->St} {B:β->St} {s':St}
theorem aH2{x:σ}:KL N id K S B (.go x:Ex σ β ρ) .normal s'=i! N s' (S x):=f'
def bd1{b:β}:KL N id K S B (.brk b:Ex σ β ρ) (.exit j) s'=if j=id then i! N s' (B b)else K (.exit j) s':=f'
def bc9{z:Ex σ β ρ}:KL N id K S B z .ret s'=K .ret s':=f'
def bd0{v:ρ}:KL N id K S B (.ret v:Ex σ β ρ) (.exit j) s'=if j=id then False else K (.exit j) s':=f'
theorem bf9{z:Ex σ β ρ}:Stb N (KL N id K S B z):=by
 intro s S' h k
 cases z with
 |go x=>exact h.trans k
 |_=>exact k.elim
theorem T.ja{x:C}{s:St}(S:σ->St) (B:β->St) (step:σ->Option (Ex σ β ρ)) (x0:σ) {y:β⊕ρ}(g:Tm.ja step x0=M y) (l:i! N s (S x0)) (f:Stb N K)
 (round:∀a z,step a=M z->(∀v,z=.ret v->y=.inr v)->Tm.T P N x (KL N id K S B z) (S a))
 (rest:∀b,y=.inl b->K .normal (B b)):Tm.T P N (.block id (.loop x)) K s:=by
 obtain⟨n,hn⟩:=iN.1 g;clear g;refine T.block (T.Iab (X:=Nat×σ) (λp s=>i! N s (S p.2)/\Es step p.1 p.2=M y) (λp=>p.1) (n,x0) ⟨l,hn⟩ ?_);rintro⟨n,k⟩ s1 ⟨d,c⟩;refine T.QK d ?_
 cases n with
 |zero=>grind[Es]
 |succ n=>
  cases i:step k with
  |none=>grind[Es]
  |some z=>
   simp only[Es,i]at c;refine(round k z i (λv hv=>p5)).mono ?_;intro e s' h
   cases e with
   |normal=>
    cases z with
    |go m=>exact⟨(n,m),⟨by grind[aH2],c⟩,Aai n⟩
    |_=>exact(h:False).elim
   |exit j=>
    simp only[KL]at h⊢;split
    .rename_i hj;rw[J hj]at h
     cases z with
     |brk b=>exact f _ _ h (rest b (R' c).symm)
     |_=>simp_all
    simp_all
   |ret=>exact h
   |_=>exact h
end
def KJ{X R:Type}(N:Nat) (K:Exit->St->Prop) (S:X->St) (z:X⊕R) (e:Exit) (s':St):Prop:=
 match e with
 |.normal=>match z with|.inl x=>i! N s' (S x)|.inr _=>False
 |e=>K e s'
section
variable {X R:Type} {K:Exit->St->Prop} {S:X->St} {s':St}
theorem dM{x:X}:KJ N K S (.inl x:X⊕R) .normal s'=i! N s' (S x):=f'
def aA0{z:X⊕R}:KJ N K S z (.exit j) s'=K (.exit j) s':=f'
def bd2{z:X⊕R}:KJ N K S z .ret s'=K .ret s':=f'
theorem bg0{z:X⊕R}:Stb N (KJ N K S z):=by
 intro s S' h k
 cases z with
 |inl x=>exact h.trans k
 |inr _=>exact k.elim
theorem T.join{a b:C}{s:St}(S:X->St) (z:X⊕R) (ha:Tm.T P N a (KJ N K S z) s) (hb:∀x,z=.inl x->Tm.T P N b K (S x)):Tm.T P N (.seq a b) K s:=by
 refine T.seq (ha.mono ?_);intro e s' h
 cases e with
 |normal=>
  cases z with
  |inl x=>exact T.QK (by grind[dM]) (hb x rfl)
  |inr _=>exact(h:False).elim
 |_=>exact h
end
variable {P:a35}
def k!(P:a35) (k:Nat) (ds:List D) (o:D):Prop:=∀m,CallT P k ds m λd m'=>d=o/\m'=m
theorem AK{l:List D}(h:t! [] m l r):ea r=a29:=by
 induction h<;>simp_all[ea,sa]
theorem t!.v{ρ:Wq}{m:List Ent}{x:a32}{l r:List D}(h:t! ρ m l r):t! ρ m (.v x::l) (.v x::r):=.same rfl h
theorem t!.free{ρ:Wq}{m:List Ent}:∀{l:List D},ea l=a29->t! ρ m l l
 |[],_=>.nil
 |d::l,h=>by simp only[ea,D?]at h;exact .same h.1 (t!.free h.2)
theorem t!.app{a b c d:List D}(f:t! ρ m a b) (h2:t! ρ m c d):t! ρ m (a++c) (b++d):=by
 induction f with
 |nil=>exact h2
 |same hf h e=>exact .same hf e
 |dead h e=>exact .dead e
 |nils h e=>exact .nils e
 |Mv i hi h e=>exact .Mv i hi e
 |agg ha h _ e=>exact .agg ha e
 |tup ha h _ e=>exact .tup ha e
 |sl ha h _ e=>exact .sl ha e
 |own hi h e=>exact .own hi e
 |ref hi h e=>exact .ref hi e
 |view hi h e=>exact .view hi e
 |mp hi h e=>exact .mp hi e
 |ob hm ho ha h _ e=>exact .ob hm ho ha e
 |fview hm ho hn ha h _ e=>exact .fview hm ho hn ha e
 |fref hm ho hx ha h _ e=>exact .fref hm ho hx ha e
 |pt ha h _ e=>exact .pt ha e
 |fn ha hc h _ _ e=>exact .fn ha hc e
 |ifc ha h _ e=>exact .ifc ha e
class Fr {α:Type} (e:α->D):Prop where
 h:∀x,sa (e x)=a29
variable {e:a34}
theorem eE{α:Type}{e:α->D}(h:∀x,sa (e x)=a29):∀l:List α,ea (l.map e)=a29
 |[]=>rfl
 |x::l=>by simp[ea,h x,eE h l]
theorem Fr.l{α:Type}{e:α->D} [Fr e] (l:List α):ea (l.map e)=a29:=eE Fr.h l
def Fr.s{α:Type}{e:α->D} [Fr e] (S:Nat) (l:List α):sa (.sl S (l.map e))=a29:=Fr.l (e:=e) l
theorem It{N:Nat}{s:St}(h:i! N s S):∀{G:Gh}{w:a33}{a:Act},N<=G.n->p! G w a s->∃G',p! G' w a S/\x' N G w s.m G' w S.m:=by
 induction h with
 |refl s=>grind[x'.refl]
 |step ρ hk h t e=>
  intro G w a hN hr;obtain⟨b,h2⟩:=Ht hk h hr;obtain⟨G',c,d⟩:=e h2.n b;exact⟨G',c,h2.trans d⟩
def Fx(rs:List RV) (o:D) (e:Exit) (s:St):Prop:=
 match e with
 |.normal=>∃S,i! 0 s S/\∃ds,qa S rs=M ds/\t! [] S.m [ig ds] [o]
 |.ret=>∃S,i! 0 s S/\∃ds,qa S rs=M ds/\t! [] S.m [ig ds] [o]
 |_=>False
def cR(r:Option (List D)) (m:List Ent) (o:D):Prop:=∃ds,r=M ds/\t! [] m [ig ds] [o]
def Fin(m:List Ent) (d o:D):Prop:=t! [] m [d] [o]
theorem Wo{ds:List D}{o:D}:cR (M ds) m o=Fin m (ig ds) o:=by simp[cR,Fin]
@[congr] theorem aX9{r a:Option (List D)} {m:List Ent} {o:D} (h:r=a):cR r m o=cR a m o:=by rw[h]
theorem Bq{o:D}{s:St}(h:cR (qa s rs) s.m o):Fx rs o .ret s:=by
 obtain⟨ds,a,h2⟩:=h;exact⟨s,.refl s,ds,a,h2⟩
theorem bg1{o:D}:Stb 0 (Fx rs o):=by
 rintro s S h ⟨S',a,h2⟩;exact⟨S',h.trans a,h2⟩
theorem BI{f:a38}{ds:List D}{o:D}(hf:ea ds=a29) (h:CallT P f ds [] λd m'=>t! [] m' [d] [o]):k! P f ds o:=by
 refine λm=>⟨h.1,λG w vs hv hi=>?_⟩;have l:=h.2 (Gh.bare G.F) w vs (VsRel.free (G:=G) (G':=Gh.bare G.F) ⟨λ_ h=>h,λ_ _=>rfl⟩ hf hv) (Tv hi.F (hi.gl.bare λ_ h=>h));refine l.mono ?_;rintro e w' ⟨v,d,m',G',rfl,g,hvd,c,q⟩;obtain⟨-,-,p⟩:=Nx hi q c (λ_ h=>h);obtain⟨g1,g2⟩:=p λ_ h=>h;refine⟨v,o,m,_,rfl,⟨rfl,rfl⟩,?_,g1,g2⟩;have k:=(g.rel c (λi j v h=>s5)).1 [v] (by simp only[VsRel];simp_all);simp only[VsRel]at k;obtain⟨u,us,he,n,_⟩:=k;injection he with he _;subst he;have a:=AK g;simp only[ea,Y']at a;refine VRel.free (G:=Fb G' m' []) (G':={ G with F:=λb=>G'.F b\/Oc G' m' b }) ⟨?_,λ_ _=>rfl⟩ a n;rintro b (hb|⟨hb,_⟩)
 all_goals simp_all
theorem k!.of{ds:List D}{o:D}(g:cu P k=M F) (b:((P.funcs[k]?).map λfn=>fn.name == "runtime.NumGoroutine")=M a30) (hf:ea ds=a29)
 (h:T P 0 F.code (Fx F.results o) ⟨ds++h! (F.ntmps-ds.length) a!,[]⟩):k! P k ds o:=by
 refine BI hf (Lb g b ?_);refine T.K7 (h.mono ?_);have key:∀(e:Exit) (s:St),(∀s',Um F.results (λd m'=>t! [] m' [d] [o]) e s' = ∃ds,qa s' F.results=M ds/\t! [] s'.m [ig ds] [o])->(∃S,i! 0 s S/\∃ds,qa S F.results=M ds/\t! [] S.m [ig ds] [o])->EP 0 (Um F.results λd m'=>t! [] m' [d] [o]) e s:=by
  intro e s he ⟨S,f,h2⟩ G w a hN hr;obtain⟨G',h3,h4⟩:=It f hN hr
  grind
 intro e s c
 cases e with
 |normal=>exact key _ s (λ_=>rfl) c
 |ret=>exact key _ s (λ_=>rfl) c
 |_=>exact(c:False).elim
theorem JC{ds:List D}{o:D}(h:k! P k ds' o) (q:t! [] m ds ds') (a:flat o=a29) (hf:f o m):Ae P k ds m f:=by
 refine La (m1:=m) (d1:=o) ⟨(h []).1,λG w vs hv hi=>?_⟩ hf;have n:=(q.rel hi (λi j v h=>s5)).1 vs hv;have l:VsRel (Gh.bare (Fb G m []).F) w ds' vs:=VsRel.free (G:=Fb G m []) ⟨λ_ h=>h,λ_ _=>rfl⟩ (AK q) n;have r:=(h []).2 _ w vs l (Tv (λb hb=>by
  rcases hb with hb|⟨hb,_⟩
  .exact hi.F b hb
  .exact(Oc.lt hi hb).1) (hi.gl.bare λ_ h=>.inl h))
 refine r.mono ?_;rintro e w' ⟨v,d,m',G',rfl,⟨rfl,-⟩,p,c,g⟩;obtain⟨-,h2,-⟩:=Nx hi g c (λ_ h=>.inl h);exact⟨v,d,m,G,rfl,⟨rfl,rfl⟩,p.flat a,h2.1,h2.2⟩
def e!{α:Type}(l:List α) (i:Int):Option α:=if 0<=i then l[i.toNat]? else u4
def app{α:Type}(b:Nat) (l r:List α):Option (List α):=if(l.length+r.length)*b<=2 ^ 47 then M (l++r)else u4
def put{α:Type}(l:List α) (i:Int) (x:α):Option (List α):=if 0<=i/\i.toNat<l.length then M (l.set i.toNat x)else u4
def uz{α:Type}(b:Nat) (x:α) (n c:Int):Option (List α):=if 0<=n/\n<=c/\c<=2 ^ 62/\c.toNat*b<=2 ^ 48 then M (h! n.toNat x)else u4
def quo(k:a39) (a b:Int):Option Int:=if b=0 then u4 else M (aa k (a.tdiv b))
def rem(k:a39) (a b:Int):Option Int:=if b=0 then u4 else M (a.tmod b)
theorem rA{α:Type}{l:List α}{i:Int}{x:α}(h:e! l i=M x):0<=i/\l[i.toNat]?=M x:=by
 grind[e!]
theorem mQ{α:Type}{b:Nat}{l r x:List α}(h:app b l r=M x):(l.length+r.length)*b<=140737488355328/\x=l++r:=by
 grind[app]
theorem wac{α:Type}{l x:List α}{i:Int}{y:α}(h:put l i y=M x):0<=i/\i.toNat<l.length/\x=l.set i.toNat y:=by
 grind[put]
theorem Uab{α:Type}{b:Nat}{x:α}{n c:Int}{l:List α}(h:uz b x n c=M l):0<=n/\n<=c/\c<=4611686018427387904/\c.toNat*b<=281474976710656/\l=h! n.toNat x:=by
 grind[uz]
theorem Uj{α:Type}{o:Option α}{f:α->Option β}{r:β}(h:o.bind f=M r):∃x,o=M x/\f x=M r:=eah.1 h
variable {P:a35} {N:Nat}
def lC(f:D->D->Prop):List D->List D->Prop
 |[],[]=>True
 |d::l,e::r=>f d e/\lC f l r
 |_,_=>False
def jz(f:D->D->Prop) (a b:List D):Prop:=(a=b/\ea a=a29)\/lC f a b
def Sq(ρ:Wq) (m:List Ent):Nat->D->D->Prop
 |0,_,_=>False
 |n+1,d,e=>
  match e with
  |a!=>True
  |.v y=>match d with|.v x=>x=y|_=>False
  |.agg b=>match d with|.agg a=>jz (Sq ρ m n) a b|_=>False
  |.tup b=>match d with|.tup a=>jz (Sq ρ m n) a b|_=>False
  |.sl S b=>
   match d with
   |.v x=>x=.slice u4 0 0/\b=[]
   |.sl S' a=>S'=S/\jz (Sq ρ m n) a b
   |.own j v=>
    match m[j]? with
    |some (.live S' g a)=>S'=S/\g=v/\Bt ρ j=a29/\jz (Sq ρ m n) a b
    |_=>False
   |.view j v lo k=>
    match m[j]? with
    |some (.live S' g a)=>S'=S/\g=v/\Bt ρ j=a29/\lo+k<=a.length/\jz (Sq ρ m n) ((a.drop lo).take k) b
    |_=>False
   |_=>False
  |.own i u=>
   match d with
   |.own j v=>ρ[i]?=M (M j,v,u)
   |.v x=>x=.slice u4 0 0/\∃S,ρ[i]?=M (u4,S,u)
   |_=>False
  |.ref i u x s=>match d with|.ref j v p s'=>ρ[i]?=M (M j,v,u)/\p=x/\s'=s|_=>False
  |.view i u lo k=>match d with|.view j v h o=>ρ[i]?=M (M j,v,u)/\h=lo/\o=k|_=>False
  |.pt e'=>
   match d with
   |.pt d'=>(d'=e'/\sa d'=a29)\/Sq ρ m n d' e'
   |.ref j v x s=>
    match m[j]? with
    |some (.live _ g a)=>g=v/\s=0/\Bt ρ j=a29/\(match a[x]? with|some d'=>(d'=e'/\sa d'=a29)\/Sq ρ m n d' e'|none=>False)
    |_=>False
   |_=>False
  |.fn f b d'=>match d with|.fn l a c=>l=f/\jz (Sq ρ m n) a b/\jz (Sq ρ m n) c d'|_=>False
  |.mp i=>match d with|.mp j=>ρ[i]?=M (M j,0,0)|_=>False
  |.ifc t e'=>match d with|.ifc t' d'=>t'=t/\((d'=e'/\sa d'=a29)\/Sq ρ m n d' e')|_=>False
theorem Yw{ρ:Wq}{m:List Ent}{f:D->D->Prop}(hf:∀d e l r,f d e->t! ρ m l r->t! ρ m (d::l) (e::r)):∀{a b:List D},lC f a b->t! ρ m a b
 |[],[],_=>.nil
 |d::l,e::r,h=>hf d e l r h.1 (Yw hf h.2)
 |[],_::_,h=>h.elim
 |_::_,[],h=>h.elim
theorem Zw{f:D->D->Prop}(hf:∀d e l r,f d e->t! ρ m l r->t! ρ m (d::l) (e::r)) {a b:List D}(h:jz f a b):t! ρ m a b:=by
 rcases h with⟨rfl,h⟩|h
 all_goals grind[t!.free,Yw]
theorem gw{ρ:Wq}{m:List Ent}:∀(n:Nat) (d e:D) (l r:List D),Sq ρ m n d e->t! ρ m l r->t! ρ m (d::l) (e::r)
 |0,d,e,l,r,h,_=>h.elim
 |n+1,d,e,l,r,h,c=>by
  have g:=gw (ρ:=ρ) (m:=m) n;have one:∀d' e',((d'=e'/\sa d'=a29)\/Sq ρ m n d' e')->t! ρ m [d'] [e']:=by
   rintro d' e' (⟨rfl,h⟩|h)
   .exact .same h .nil
   .exact g _ _ _ _ h .nil
  cases e with
  |dead=>exact .dead c
  |v y=>cases d<;>simp only[Sq]at h;subst h;exact .v c
  |agg b=>cases d<;>simp only[Sq]at h;exact .agg (Zw g h) c
  |tup b=>cases d<;>simp only[Sq]at h;exact .tup (Zw g h) c
  |sl S b=>
   cases d with
   |v x=>simp only[Sq]at h;obtain⟨rfl,rfl⟩:=h;exact .nils c
   |sl S' a=>simp only[Sq]at h;obtain⟨rfl,h⟩:=h;exact .sl (Zw g h) c
   |own j v=>
    simp only[Sq]at h;split at h
    .rename_i S' o a hm;obtain⟨rfl,rfl,ho,h⟩:=h;exact .ob hm ho (Zw g h) c
    simp_all
   |view j v lo k=>
    simp only[Sq]at h;split at h
    .rename_i S' o a hm;obtain⟨rfl,rfl,ho,hl,h⟩:=h;exact .fview hm ho hl (Zw g h) c
    simp_all
   |_=>simp only[Sq]at h
  |own i u=>
   cases d with
   |own j v=>simp only[Sq]at h;exact .own h c
   |v x=>simp only[Sq]at h;obtain⟨rfl,S,h⟩:=h;exact .Mv i h c
   |_=>simp only[Sq]at h
  |ref i u x s=>cases d<;>simp only[Sq]at h;obtain⟨h,rfl,rfl⟩:=h;exact .ref h c
  |view i u lo k=>cases d<;>simp only[Sq]at h;obtain⟨h,rfl,rfl⟩:=h;exact .view h c
  |pt e'=>
   cases d with
   |pt d'=>simp only[Sq]at h;exact .pt (one _ _ h) c
   |ref j v x s=>
    simp only[Sq]at h;split at h
    .rename_i S' o a hm;obtain⟨rfl,rfl,ho,h⟩:=h;split at h
     .rename_i d' hd;exact .fref hm ho hd (one _ _ h) c
     simp_all
    simp_all
   |_=>simp only[Sq]at h
  |fn f b d'=>cases d<;>simp only[Sq]at h;obtain⟨rfl,p,h2⟩:=h;exact .fn (Zw g p) (Zw g h2) c
  |mp i=>cases d<;>simp only[Sq]at h;exact .mp h c
  |ifc t e'=>cases d<;>simp only[Sq]at h;obtain⟨rfl,h⟩:=h;exact .ifc (one _ _ h) c
def qF(ρ:Wq) (m:List Ent):Wq->List Ent->Prop
 |[],[]=>True
 |(M j,v,u)::os,.live S c b::es=>u=c/\(match m[j]? with|some (.live S' d a)=>S'=S/\d=v/\jz (Sq ρ m 9) a b|_=>False)/\qF ρ m os es
 |(u4,S,u)::os,.live S' c b::es=>S=S'/\u=c/\b=[]/\qF ρ m os es
 |(M j,v,u)::os,.mp b::es=>v=0/\u=0/\(match m[j]? with|some (.mp a)=>a=b/\frM b=a29|_=>False)/\qF ρ m os es
 |_,_=>False
theorem GH{ρ:Wq}{m:List Ent}:∀{os:Wq}{es:List Ent},qF ρ m os es->Ets ρ m os es
 |[],[],_=>.nil
 |(M j,v,u)::os,.live S d b::es,h=>by
  simp only[qF]at h;obtain⟨rfl,c,h2⟩:=h;split at c
  .rename_i S' v' a hm;obtain⟨rfl,rfl,c⟩:=c;exact .live hm (Zw (gw 9) c) (GH h2)
  simp_all
 |(u4,S,u)::os,.live S' d b::es,h=>by
  simp only[qF]at h;obtain⟨rfl,rfl,rfl,h2⟩:=h;exact .new (GH h2)
 |[],_::_,h=>by simp[qF]at h
 |_::_,[],h=>by simp[qF]at h
 |(M j,v,u)::os,.mp b::es,h=>by
  simp only[qF]at h;obtain⟨rfl,rfl,c,h2⟩:=h;split at c
  .rename_i a hm;obtain⟨rfl,c⟩:=c;exact .mp hm c (GH h2)
  simp_all
 |(M j,v,u)::os,.gone::es,h=>by simp[qF]at h
 |(u4,S,u)::os,.mp _::es,h=>by simp[qF]at h
 |(u4,S,u)::os,.gone::es,h=>by simp[qF]at h
def i!.q(ρ:Wq) {s:St}(hk:pz ρ N=a29) (a:(ρ.filterMap (·.1)).Nodup) (h:lC (Sq ρ s.m 9) s.t S.t/\qF ρ s.m ρ S.m):i! N s S:=
 .one ρ hk ⟨Yw (gw 9) h.1,GH h.2,a⟩
section
variable {ρ:Wq} {m:List Ent} {n:Nat} {d e:D} {a b c l r:List D} {x y:a32} {S S' i j u v k lo q s:Nat}
def ah6{f:D->D->Prop}:lC f [] []=True:=f'
def Kad{f:D->D->Prop}:lC f (d::l) (e::r)=(f d e/\lC f l r):=f'
theorem vh{f:D->D->Prop}(h:ea a=a29):jz f a a=True:=by simp[jz,h]
theorem bg7{f:D->D->Prop}:jz f (d::l) (e::r)=(((d::l=e::r)/\ea (d::l)=a29)\/(f d e/\lC f l r)):=f'
theorem ah4{f:D->D->Prop}:jz f [] []=True:=by simp[jz,ea]
theorem ah3:Sq ρ m (n+1) d a!=True:=f'
def bP0:Sq ρ m (n+1) (.v x) (.v y)=(x=y):=f'
def aK3:Sq ρ m (n+1) (.agg a) (.agg b)=jz (Sq ρ m n) a b:=f'
def aK0:Sq ρ m (n+1) (.tup a) (.tup b)=jz (Sq ρ m n) a b:=f'
def ag9:Sq ρ m (n+1) (.v x) (.sl S b)=(x=.slice u4 0 0/\b=[]):=f'
def bg3:Sq ρ m (n+1) (.sl S' a) (.sl S b)=(S'=S/\jz (Sq ρ m n) a b):=f'
def ah0:Sq ρ m (n+1) (.own j v) (.sl S b)=(match m[j]? with|some (.live S' c a)=>S'=S/\c=v/\Bt ρ j=a29/\jz (Sq ρ m n) a b|_=>False):=f'
def Mad:Sq ρ m (n+1) (.view j v lo k) (.sl S b)=(match m[j]? with|some (.live S' c a)=>S'=S/\c=v/\Bt ρ j=a29/\lo+k<=a.length/\jz (Sq ρ m n) ((a.drop lo).take k) b|_=>False):=f'
def aK2:Sq ρ m (n+1) (.own j v) (.own i u)=(ρ[i]?=M (M j,v,u)):=f'
def Lad:Sq ρ m (n+1) (.v x) (.own i u)=(x=.slice u4 0 0/\∃S,ρ[i]?=M (u4,S,u)):=f'
def aK1:Sq ρ m (n+1) (.ref j v q s) (.ref i u k lo)=(ρ[i]?=M (M j,v,u)/\q=k/\s=lo):=f'
def ag8{a b:Nat}:Sq ρ m (n+1) (.view j v a b) (.view i u lo k)=(ρ[i]?=M (M j,v,u)/\a=lo/\b=k):=f'
def bg4:Sq ρ m (n+1) (.pt d) (.pt e)=((d=e/\sa d=a29)\/Sq ρ m n d e):=f'
def ah1:Sq ρ m (n+1) (.ref j v q s) (.pt e)=(match m[j]? with
 |some (.live _ b a)=>b=v/\s=0/\Bt ρ j=a29/\(match a[q]? with|some d'=>(d'=e/\sa d'=a29)\/Sq ρ m n d' e|none=>False)
 |_=>False):=f'
def bg6{f d:a38}{d':List D}:Sq ρ m (n+1) (.fn d a c) (.fn f b d')=(d=f/\jz (Sq ρ m n) a b/\jz (Sq ρ m n) c d'):=f'
def aX4:qF ρ m [] []=True:=f'
theorem au6{c:Nat}:qF ρ m ((M j,v,u)::os) (.live S c b::es)=(u=c/\(match m[j]? with|some (.live S' d a)=>S'=S/\d=v/\jz (Sq ρ m 9) a b|_=>False)/\qF ρ m os es):=by simp only[qF]
theorem aX5{a:Nat}:qF ρ m ((u4,S,u)::os) (.live S' a b::es)=(S=S'/\u=a/\b=[]/\qF ρ m os es):=by simp only[qF]
theorem bg5:Sq ρ m (n+1) (.mp j) (.mp i)=(ρ[i]?=M (M j,0,0)):=f'
theorem bH7{b:List (a32×D)}:qF ρ m ((M j,v,u)::os) (.mp b::es)=(v=0/\u=0/\(match m[j]? with|some (.mp a)=>a=b/\frM b=a29|_=>False)/\qF ρ m os es):=by simp only[qF]
theorem at5:frM []=a29:=f'
def nac:Bt [] j=a29:=f'
def F5{o:Option Nat×Nat×Nat}:Bt (o::ρ) j=((match o.1 with|some k=>k !=j|none=>a29)&&Bt ρ j):=f'
end
def GG{d o:D}(h:Sq [] m 9 d o):Fin m d o:=gw 9 d o [] [] h .nil
theorem RE{l:List D}(h:t! [] [] l r):(∀us,VsRel G w l us->VsRel G w r us)/\(∀b S off,Va G w b S l off->Va G w b S r off):=by
 have both:∀{d e:D} {l r:List D},(∀u,VRel G w d u->VRel G w e u)->
  ((∀us,VsRel G w l us->VsRel G w r us)/\(∀b S off,Va G w b S l off->Va G w b S r off))->
  ((∀us,VsRel G w (d::l) us->VsRel G w (e::r) us)/\(∀b S off,Va G w b S (d::l) off->Va G w b S (e::r) off)):=by
  intro d e l r h1 h2;refine⟨λus hv=>?_,λb S off hv=>?_⟩
  .simp only[VsRel]at hv⊢
   grind
  .simp only[Va]at hv⊢
   grind
 have first:∀{d e:D},(∀us,VsRel G w [d] us->VsRel G w [e] us)->∀u,VRel G w d u->VRel G w e u:=by
  intro d e h u hu;have:=h [u] (by simp only[VsRel];simp_all);simp only[VsRel]at this
  simp_all
 induction h with
 |nil=>simp
 |same hf h c=>exact both (λu hu=>hu) c
 |dead h c=>exact both (λu _=>Q!) c
 |nils h c=>exact both (λu hu=>by simp only[VRel]at hu⊢;grind) c
 |agg ha h f c=>
  refine both (λu hu=>?_) c;simp only[VRel]at hu⊢
  grind
 |tup ha h f c=>
  refine both (λu hu=>?_) c;simp only[VRel]at hu⊢
  grind
 |sl ha h f c=>
  refine both (λu hu=>?_) c;simp only[VRel]at hu⊢;obtain⟨a,n,cap,rfl,hn,hc,g⟩:=hu;refine⟨a,n,cap,rfl,by rw[←ha.length];omega,hc,?_⟩;rcases g with rfl|⟨b,off,rfl,hF,hr⟩
  .exact .inl (vaf ha.length.symm)
  grind
 |pt ha h f c=>
  refine both (λu hu=>?_) c;simp only[VRel]at hu⊢
  grind
 |fn ha hc h f ihc c=>
  refine both (λu hu=>?_) c;simp only[VRel]at hu⊢
  grind
 |ifc ha h f c=>
  refine both (λu hu=>?_) c;simp only[VRel]at hu⊢
  grind
 |Mv i hi=>simp at hi
 |own hi=>simp at hi
 |ref hi=>simp at hi
 |view hi=>simp at hi
 |mp hi=>simp at hi
 |ob hm=>simp at hm
 |fview hm=>simp at hm
 |fref hm=>simp at hm
def BH{ds:List D}{o:D}(h:k! P k ds' o) (hf:f o m) (a:lC (Sq [] [] 9) ds ds'):Ae P k ds m f:=
 La (m1:=m) (d1:=o) ⟨(h m).1,λG w vs hv hi=>(h m).2 G w vs ((RE (Yw (gw 9) a)).1 vs hv) hi⟩ hf
def CI{ds:List D}{o:D}(h:k! P k ds' o) (hf:f o m) (a:flat o=a29) (b:lC (Sq [] m 9) ds ds'):Ae P k ds m f:=
 JC h (Yw (gw 9) b) a hf
section
variable {K:Exit->St->Prop} {s:St} {l:List RI} {a b:C} {c:a34} {t:Bool} {id q:Nat}
def T.rg(h:nf P l (K .normal) s):Tm.T P N (.vD l) K s:=T.vD (Ir h)
theorem T.cd(ht:s.ev c=.v (.bool t)) (h:gP (t=a29) (Tm.T P N a K s) (Tm.T P N b K s)):Tm.T P N (.cond c a b) K s:=
 T.cond ht (λe=>h.1 e) (λe=>h.2 s5)
theorem T.bk(h:Tm.T P N a (KB id K) s):Tm.T P N (.block id a) K s:=T.block (h.mono λe s' b=>by cases e<;>exact b)
def T.sr(h:nf P l (KS P N b K .normal) s):Tm.T P N (.seq (.vD l) b) K s:=T.kl (T.rg h)
theorem gP.ite{q Y N:Prop} [Decidable q] {α:Type}{A B:Option α}{r:α}(h:(if q then A else B)=M r) (a:p↔q) (d:q->A=M r->Y) (h2:¬q->B=M r->N):gP p Y N:=by
 by_cases c:q
 .rw[J c]at h;exact⟨λ_=>d c h,λb=>(b (a.2 c)).elim⟩
 .rw[s7 c]at h;exact⟨λb=>(c (a.1 b)).elim,λ_=>h2 c h⟩
end
def ds:Nat->List D->List D
 |0,l=>l
 |n+1,l=>a!::ds n l
def Ml{l:List D}:ds 0 l=l:=f'
def Yj{n:Nat}{l:List D}:ds (n+1) l=a!::ds n l:=f'
def rpS{α:Type}{a:α}:h! 1 a=[a]/\h! 2 a=[a,a]/\h! 3 a=[a,a,a]/\h! 55 a=[a,a,a,a,a,a,a,a,a,a,a,a,a,a,a,a,a,a,a,a,a,a,a,a,a,a,a,a,a,a,a,a,a,a,a,a,a,a,a,a,a,a,a,a,a,a,a,a,a,a,a,a,a,a,a]:=⟨rfl,rfl,rfl,rfl⟩
variable {P:a35} {N:Nat}
def sz(ok:Bool) (z:D) (m:List Ent) (o:Option D):Option (D×List Ent):=
 match o with
 |some d=>M (if ok then .tup [d,.v (.bool a29)]else d,m)
 |none=>M (if ok then .tup [z,.v (.bool a30)]else z,m)
def Uq{β:Type}:List (Int×β)->Int->Option β
 |[],_=>u4
 |(q,x)::l,k=>if k=q then M x else Uq l k
def ZC{β:Type}(k:Int) (x:β):List (Int×β)->List (Int×β)
 |[]=>[(k,x)]
 |(q,y)::l=>if k=q then(k,x)::l else(q,y)::ZC k x l
def em{β:Type}(e:β->D) (l:List (Int×β)):List (a32×D):=l.map λp=>(.int b! p.1,e p.2)
theorem IY{β:Type}{e:β->D}{k:Int}:∀{l:List (Int×β)},fo (.int b! k) (em e l)=(Uq l k).map e
 |[]=>f'
 |(q,x)::l=>by
  have a:=IY (e:=e) (k:=k) (l:=l);simp only[em]at a;simp only[em,w?,fo,Iq,Uq,T!,a];split<;>rfl
theorem aG{β:Type}{e:β->D}{k:Int}{x:β}:∀{l:List (Int×β)},Er (.int b! k) (e x) (em e l)=em e (ZC k x l)
 |[]=>f'
 |(q,y)::l=>by
  have a:=aG (e:=e) (k:=k) (x:=x) (l:=l);simp only[em]at a;simp only[em,w?,Er,Iq,ZC,T!,a];split<;>rfl
theorem bb5{e:β->D}{l:List (Int×β)}:((em e l).all λq=>u! 0 q.1)=a29:=by
 simp[em,u!]
theorem aY2{e:β->D}:em e []=[]:=f'
theorem aY3{e:β->D}{l:List (Int×β)}:(em e l).length=l.length:=by simp[em]
theorem MF{e:β->D} [Fr e] {l:List (Int×β)}:frM (em e l)=a29:=by
 simp only[frM,em,List.all_map,Λ];exact λx _=>Fr.h x.2
def aq8{k:Int}:u! 0 (.int b! k)=a29:=f'
def xy(b:ByteArray) (i:Int):Option Int:=if h:0<=i/\i.toNat<b.size then M ((b[i.toNat]'h.2).toNat:Int)else u4
def Wv:Nat->List D->Bool
 |0,[]=>a29
 |n+1,_::l=>Wv n l
 |_,_=>a30
theorem vt:∀{n:Nat}{l:List D},Wv n l=a29↔l.length=n
 |0,[]=>by simp[Wv]
 |n+1,_::l=>by simp[Wv,vt (n:=n) (l:=l)]
 |0,_::_=>by simp[Wv]
 |_+1,[]=>by simp[Wv]
def qA:Nat->Nat->List D->Bool
 |0,0,_=>a29
 |0,n+1,_::l=>qA 0 n l
 |o+1,n,_::l=>qA o n l
 |_,_,[]=>a30
theorem ou:∀{o n:Nat}{l:List D},qA o n l=a29↔o+n<=l.length
 |0,0,l=>by simp[qA]
 |0,n+1,_::l=>by simp[qA,ou (o:=0) (n:=n) (l:=l)]
 |o+1,n,_::l=>by simp[qA,ou (o:=o) (n:=n) (l:=l)];omega
 |0,n+1,[]=>by simp[qA]
 |o+1,n,[]=>by simp[qA]
theorem aQ3:Wv 0 []=a29:=f'
def ap4{n:Nat}{d:D}{l:List D}:Wv (n+1) (d::l)=Wv n l:=f'
theorem bR6{l:List D}:qA 0 0 l=a29:=by cases l<;>rfl
def bR8{n:Nat}{d:D}{l:List D}:qA 0 (n+1) (d::l)=qA 0 n l:=f'
theorem bR7{o n:Nat}{d:D}{l:List D}:qA (o+1) n (d::l)=qA o n l:=by cases n<;>rfl
theorem bP8:type_of% @ba.eq_1:=by intros;exact P! rfl rfl
theorem aM8:type_of% @ba.eq_2:=by intros;exact P! rfl rfl
theorem bi2:type_of% @ba.eq_3:=by intros;exact P! rfl rfl
theorem bi3:type_of% @ba.eq_4:=by intros;exact P! rfl rfl
theorem bP7:type_of% @ba.eq_5:=by intros;exact P! rfl rfl
theorem aN4:type_of% @ba.eq_6:=by intros;exact P! rfl rfl
theorem an0:type_of% @ba.eq_7:=by intros;exact P! rfl rfl
theorem bi1{s:St}{S:Nat}:ba s (.box S x)=if(s.ev x).ok=a29/\Wv S (s.ev x).cells=a29 then M (.ref s.m.length 0 0 0,s.m++[.live S 0 [s.ev x]])else u4:=by simp only[vt,ou];rfl
theorem am9:type_of% @ba.eq_9:=by intros;exact P! rfl rfl
theorem yac:type_of% @ba.eq_10:=by intros;exact P! rfl rfl
theorem aN2{s:St}{A:Bool}{n:Nat}:ba s (.load A n x) =
 match s.ev x with
 |.pt d=>
  match A,d with
  |true,.agg l=>if Wv n l=a29 then M (d,s.m)else u4
  |true,_=>u4
  |false,.agg _=>u4
  |false,d=>if d.ok=a29 then M (d,s.m)else u4
 |.ref id Ca e! sub=>
  match s.m[id]? with
  |some (.live _ a l)=>if a=Ca then(l[e!]?).bind λd=>if d.ok=a29 then(part A n sub d.cells).map λr=>(r,s.m)else u4 else u4
  |_=>u4
 |_=>u4:=by simp only[vt,ou];rfl
theorem al8{s:St}{n:Nat}{y:a34}:ba s (.store n x y) =
 match s.ev x with
 |.ref id Ca e! sub=>
  match s.m[id]? with
  |some (.live S a l)=>
   if a=Ca/\(s.ev y).ok=a29/\Wv n (s.ev y).cells=a29 then
    (l[e!]?).bind λd=>if d.ok=a29/\0<n/\qA sub n d.cells=a29 then M (a!,s.m.set id (.live S a (l.set e! (d.Xb sub (s.ev y).cells))))else u4
   else u4
  |_=>u4
 |_=>u4:=by simp only[vt,ou];rfl
theorem aM9:type_of% @ba.eq_13:=by intros;exact P! rfl rfl
theorem al9:type_of% @ba.eq_14:=by intros;exact P! rfl rfl
theorem am8:type_of% @ba.eq_15:=by intros;exact P! rfl rfl
theorem am7:type_of% @ba.eq_16:=by intros;exact P! rfl rfl
theorem am6:type_of% @ba.eq_17:=by intros;exact P! rfl rfl
theorem an1:type_of% @ba.eq_18:=by intros;exact P! rfl rfl
theorem am5:type_of% @ba.eq_19:=by intros;exact P! rfl rfl
theorem L5:type_of% @ba.eq_20:=by intros;exact P! rfl rfl
theorem bh8:type_of% @ba.eq_21:=by intros;exact P! rfl rfl
theorem aM6:type_of% @ba.eq_22:=by intros;exact P! rfl rfl
theorem xac:type_of% @ba.eq_23:=by intros;exact P! rfl rfl
theorem M5:type_of% @ba.eq_24:=by intros;exact P! rfl rfl
theorem zac:type_of% @ba.eq_25:=by intros;exact P! rfl rfl
theorem aN3:type_of% @ba.eq_26:=by intros;exact P! rfl rfl
theorem bP9:type_of% @ba.eq_27:=by intros;exact P! rfl rfl
theorem bi0:type_of% @ba.eq_28:=by intros;exact P! rfl rfl
theorem aM5:type_of% @ba.eq_29:=by intros;exact P! rfl rfl
theorem aM7{s:St}{i:a34}:ba s (.xy x i)=(match s.ev x,s.ev i with
 |.v (.string b),.v (.int _ k)=>(xy b k).map λn=>(D.v (.int .u8 n),s.m)
 |_,_=>u4):=by
 simp only[ba];generalize s.ev x=a;generalize s.ev i=c;split
 .rename_i b k' k;by_cases h:0<=k/\k.toNat<b.size<;>simp[xy,h]
 .rename_i hx;split
  .exact(hx _ _ _ rfl rfl).elim
  .rfl
theorem Aac:type_of% @ba.eq_31:=by intros;exact P! rfl rfl
theorem am2:type_of% @ba.eq_32:=by intros;exact P! rfl rfl
theorem am1{s:St}{K:Nat}{ok:Bool}{z:D}{k:a34}:ba s (.mlook K ok z x k) =
 match s.ev k with
 |.v a=>
  if u! K a=a29 then
   match s.ev x with
   |.v (.map u4)=>M (if ok then .tup [z,.v (.bool a30)]else z,s.m)
   |.mp id=>
    match s.m[id]? with
    |some (.mp es)=>
     if(es.all λe=>u! K e.1)=a29 then
      sz ok z s.m (fo a es)
     else u4
    |_=>u4
   |_=>u4
  else u4
 |_=>u4:=by
 simp only[ba,sz];rfl
theorem aN0:type_of% @ba.eq_34:=by intros;exact P! rfl rfl
theorem aN1:type_of% @ba.eq_35:=by intros;exact P! rfl rfl
theorem al7:type_of% @ba.eq_36:=by intros;exact P! rfl rfl
theorem am3:type_of% @ba.eq_37:=by intros;exact P! rfl rfl
theorem N5:type_of% @ba.eq_38:=by intros;exact P! rfl rfl
theorem bh9:type_of% @ba.eq_39:=by intros;exact P! rfl rfl
theorem aN5:type_of% @ba.eq_40:=by intros;exact P! rfl rfl
theorem am0:type_of% @ba.eq_41:=by intros;exact P! rfl rfl
theorem am4:type_of% @ba.eq_42:=by intros;exact P! rfl rfl
def gQ(p:Prop) (a:St->Prop) (s1:St) (b:St->Prop) (s2:St):Prop:=gP p (a s1) (b s2)
def bT4{a b:St->Prop}:gQ True a s1 b s2=a s1:=aV8
def bT5{b a:St->Prop}:gQ False b s1 a s2=a s2:=aV9
def gD(d:D) (b:Bool) (e:St->Prop) (s1:St) (a:St->Prop) (s2 s0:St):Prop:=
 match d with
 |.v (.bool c)=>gQ (c=b) e s1 a s2
 |.v _=>a s0
 |_=>False
def at2{c b:Bool}{a d:St->Prop}:gD (.v (.bool c)) b a s1 d s2 s0=gQ (c=b) a s1 d s2:=f'
def at1{b:Bool}{c a:St->Prop}:gD (.v (.tuple #[])) b c s1 a s2 s0=a s0:=f'
def Zaa{b:Bool}{c a:St->Prop}:gD (.v undef) b c s1 a s2 s0=a s0:=f'
section
variable {t:List D} {m:List Ent} {i:Nat} {b:Bool} {dst:Option Tmp} {l:List RI} {K:St->Prop} {ins:I} {k q:Nat} {args:List a34}
theorem Q8:nf P (.op dst (M (i,b)) ins::l) K ⟨t,m⟩=gD (t.getD i a!) b (nf P (.op dst u4 ins::l) K) ⟨t.set i (.v (.bool b)),m⟩ (nf P l K) (St.put ⟨t.set i (.v (.bool (!b))),m⟩ dst (.v undef)) (St.put ⟨t,m⟩ dst (.v undef)):=by
 rw[dQ];simp only[d?,gD,gQ,Ee,QN]
 cases h:t.getD i .dead with
 |v x=>cases x<;>simp[gP]<;>cases b<;>simp
 |_=>rfl
theorem tU:nf P (.call dst (M (i,b)) (.func k) args::l) K ⟨t,m⟩=gD (t.getD i a!) b (nf P (.call dst u4 (.func k) args::l) K) ⟨t.set i (.v (.bool b)),m⟩ (nf P l K) (St.put ⟨t.set i (.v (.bool (!b))),m⟩ dst (.v undef)) (St.put ⟨t,m⟩ dst (.v undef)):=by
 rw[oG];simp only[d?,gD,gQ,Ee,CC]
 cases h:t.getD i .dead with
 |v x=>cases x<;>simp[gP]<;>cases b<;>simp
 |_=>rfl
theorem aab{t:List D}{i:Nat}{b c:Bool}(h:t.getD i a!=.v (.bool c)) {Y N:List D->Prop}:gP (c=b) (Y t) (N t)=gP (c=b) (Y (t.set i (.v (.bool b)))) (N (t.set i (.v (.bool (!b))))):=by
 have a:=TE h p6;by_cases hc:c=b
 .subst hc;rw[a];simp[gP]
 .have:(!b)=c:=by cases b<;>cases c<;>simp_all
  rw[this,a];simp[gP,hc]
theorem uU:nf P (.call dst u4 (.tmp i) args::l) K ⟨t,m⟩=(match t.getD i .dead with|.fn k first caps=>Ae P k (first++args.map (St.ev ⟨t,m⟩)++caps) m (KO (nf P l K) ⟨t,m⟩ dst)|_=>False):=by
 simp only[nf,d?,St.ec,St.ev]
 first|done|(cases t.getD i a!<;>rfl)
theorem aA3:Ey P (q+1) (.op dst (M (i,b)) ins::l) K ⟨t,m⟩=gD (t.getD i a!) b (Ey P (q+1) (.op dst u4 ins::l) K) ⟨t.set i (.v (.bool b)),m⟩ (Ey P q l K) (St.put ⟨t.set i (.v (.bool (!b))),m⟩ dst (.v undef)) (St.put ⟨t,m⟩ dst (.v undef)):=by
 rw[XW];simp only[d?,gD,gQ,rU]
 cases h:t.getD i .dead with
 |v x=>
  cases x with
  |bool c=>exact aab h (Y:=λt=>jq (ba ⟨t,m⟩ ins) (KO (Ey P q l K) ⟨t,m⟩ dst)) (N:=λt=>Ey P q l K (St.put ⟨t,m⟩ dst (.v undef)))
  |_=>cases b<;>simp[gP]
 |_=>rfl
theorem QZ:Ey P (q+1) (.call dst (M (i,b)) (.func k) args::l) K ⟨t,m⟩=gD (t.getD i a!) b (Ey P (q+1) (.call dst u4 (.func k) args::l) K) ⟨t.set i (.v (.bool b)),m⟩ (Ey P q l K) (St.put ⟨t.set i (.v (.bool (!b))),m⟩ dst (.v undef)) (St.put ⟨t,m⟩ dst (.v undef)):=by
 rw[lI];simp only[d?,gD,gQ,oF]
 cases h:t.getD i .dead with
 |v x=>
  cases x with
  |bool c=>exact aab h (Y:=λt=>oM P k (args.map (St.ev ⟨t,m⟩)) (Ey P q l K) ⟨t,m⟩ dst) (N:=λt=>Ey P q l K (St.put ⟨t,m⟩ dst (.v undef)))
  |_=>cases b<;>simp[gP]
 |_=>rfl
end
section
variable {t:List D} {m m':List Ent} {i:Nat} {x:a32} {f:a38} {g:Nat} {b c:Bool} {d d':D} {k n:Nat} {R:St->Prop} {o:a34} {s:St}
def aJ9:St.ev ⟨t,m⟩ (.tmp i)=t.getD i a!:=f'
def Nad:St.ev s (.const x)=.v x:=f'
def ag5:St.ev s (.func f)=.fn f [] []:=f'
def K5:St.put ⟨t,m⟩ (M i) d=⟨t.set i d,m⟩:=f'
def J5:St.put s u4 d=s:=f'
def az8:KO R ⟨t,m⟩ (M i) d m'=R ⟨t.set i d,m'⟩:=f'
def az9:KO R ⟨t,m⟩ u4 d m'=R ⟨t,m'⟩:=f'
def Y3:d? ⟨t,m⟩ (M (i,b))=(match t.getD i .dead with|.v (.bool c)=>M (M (c,b))|.v _=>M (M (!b,b))|_=>u4):=f'
def sac:Ee ⟨t,m⟩ (M (i,b)) c=(match t.getD i .dead with|.v (.bool _)=>⟨t.set i (.v (.bool c)),m⟩|_=>⟨t,m⟩):=f'
def X0{l:List D}:D.cells (.agg l)=l:=f'
def ax4:D.cells (.v x)=[.v x]:=f'
def M9{l:List D}:D.cells (.sl n l)=[.sl n l]:=f'
def yF:D.cells (.own i k)=[.own i k]:=f'
def KU{a b:Nat}:D.cells (.view i k a b)=[.view i k a b]:=f'
def Y0{a b:Nat}:D.cells (.ref i k a b)=[.ref i k a b]:=f'
def L9:D.cells (.pt d)=[.pt d]:=f'
def J9{a b:List D}:D.cells (.fn f a b)=[.fn f a b]:=f'
def K9:D.cells (.mp i)=[.mp i]:=f'
def aO4{l:List D}:D.ok (.agg l)=a29:=f'
def bQ4:D.ok (.v x)=one x:=f'
def bj3{l:List D}:D.ok (.sl n l)=a29:=f'
def aO3:D.ok (.own i k)=a29:=f'
def an9{a b:Nat}:D.ok (.view i k a b)=a29:=f'
def aO2{a b:Nat}:D.ok (.ref i k a b)=a29:=f'
def bj4:D.ok (.pt d)=a29:=f'
def bj6{a b:List D}:D.ok (.fn f a b)=a29:=f'
def bj5:D.ok (.mp i)=a29:=f'
def an7{j:a39}{z:Int}:one (.int j z)=a29:=f'
def kac:one (.bool b)=a29:=f'
def an4{z:ByteArray}:one (.string z)=a29:=f'
def aO1{a b}:one (.slice u4 a b)=a29:=f'
def an6:one (.map u4)=a29:=f'
def an5:one (.pointer u4)=a29:=f'
def ap6:pa m (.v (.slice u4 0 0))=M 0:=f'
def aQ4{l:List D}:pa m (.sl n l)=M l.length:=f'
def ap5:pa m (.own i k)=(match m[i]? with|some (.live _ a l)=>if a=k then M l.length else u4|_=>u4):=f'
def Eab{a b:Nat}:pa m (.view i k a b)=(match m[i]? with|some _=>M b|none=>u4):=f'
def ax1:c! n m (.v (.slice u4 0 0))=M []:=f'
def aZ4{l:List D}:c! n m (.sl k l)=(if k=n then M l else u4):=f'
def ax0:c! n m (.own i k)=(match m[i]? with|some (.live S' a l)=>if S'=n/\a=k then M l else u4|_=>u4):=f'
def X9{a b:Nat}:c! n m (.view i k a b)=(match m[i]? with|some (.live S' c l)=>if S'=n/\c=k/\a+b<=l.length then M ((l.drop a).take b)else u4|_=>u4):=f'
theorem aN8{l:List D}:part a29 n off l=(if qA off n l=a29 then M (.agg ((l.drop off).take n))else u4):=by simp only[ou];rfl
def aN9{l:List D}:part a30 n off l=l[off]?:=f'
def ae2{l:List D}{a:Nat}:D.Xb (.agg l) a r=.agg (Pa l a r):=f'
def be8{a:Nat}:D.Xb (.v x) a r=r.headD a!:=f'
def aH8{l:List D}{a:Nat}:D.Xb (.sl n l) a r=r.headD a!:=f'
def ae1{a:Nat}:D.Xb (.own i k) a r=r.headD a!:=f'
def aH9{a:Nat}:D.Xb (.pt d) a r=r.headD a!:=f'
def ae0{a b c:Nat}:D.Xb (.ref i k b c) a r=r.headD a!:=f'
def ab3{e:D}:(d::r).headD e=d:=f'
theorem Iad{l:List D}:Pa (d::l) 0 (d'::r)=d'::Pa l 0 r:=by simp[Pa]
theorem Jad{l:List D}:Pa (d::l) (n+1) r=d::Pa l n r:=by simp[Pa,Nat.add_right_comm]
theorem EW{l:List D}:Pa l 0 []=l:=by simp[Pa]
theorem Q0{l:List D}:Wa s [] l=M l:=f'
theorem GU{l:List D}{ps:List (Nat×Nat×a34)}:Wa s ((off,n,o)::ps) l=(if(s.ev o).ok=a29/\Wv n (s.ev o).cells=a29/\qA off n l=a29 then Wa s ps (Pa l off (s.ev o).cells)else u4):=by simp only[vt,ou];rfl
def ax8{l:List D}:oa s n [] l=M l:=f'
theorem B9{l:List D}{ps:List (Nat×a34)}:oa s n ((i,o)::ps) l=(if(s.ev o).ok=a29/\Wv n (s.ev o).cells=a29/\qA i 1 l=a29 then oa s n ps (l.set i (s.ev o))else u4):=by simp only[vt,ou];rfl
def y9:bound s n u4=M n:=f'
def A9:bound s n (M o)=(match s.ev o with|.v (.int _ n)=>if 0<=n then M n.toNat else u4|_=>u4):=f'
def ah9:Ta n m (.v (.slice u4 0 0)) lo hi=(if lo=0/\hi=0 then M (.v (.slice u4 0 0))else u4):=f'
def aK4{l:List D}:Ta n m (.sl k l) lo hi=(if k=n/\lo<=hi/\hi<=l.length then M (.sl n ((l.drop lo).take (hi-lo)))else u4):=f'
def ah8:Ta n m (.own i k) lo hi=(match m[i]? with|some (.live S' a l)=>if S'=n/\a=k/\lo<=hi/\hi<=l.length then M (.view i k lo (hi-lo))else u4|_=>u4):=f'
def Gad{a b:Nat}:Ta n m (.view i k a b) lo hi=(match m[i]? with|some (.live S' c l)=>if S'=n/\c=k/\lo<=hi/\hi<=b/\a+b<=l.length then M (.view i k (a+lo) (hi-lo))else u4|_=>u4):=f'
def ap2:d! []=M []:=f'
def Kab{l:List D}:d! (.v x::l)=(d! l).map (x::·):=f'
def av1{j k:a39}{a b:Int}:Ju 0 (.v (.int j a)) (.v (.int k b))=(if j=k then M (a==b)else u4):=f'
def Gaa{a b:Bool}:Ju 1 (.v (.bool a)) (.v (.bool b))=M (a==b):=f'
theorem IC{a b:ByteArray}:(a.toList==b.toList)=D1 (a=b):=by
 by_cases h:a=b
 .subst h;simp
 .rw[R1 h,beq_eq_false_iff_ne];exact λhe=>h (by cases a;cases b;simp only[ByteArray.toList_eq]at he;simpa using he)
theorem av0{a b:ByteArray}:Ju 2 (.v (.string a)) (.v (.string b))=M (D1 (a=b)):=by
 rw[←IC];rfl
theorem aJ8{a b:ByteArray}:Yd (binOp .eql 0 (.string a) (.string b))=M (.bool (D1 (a=b))):=by
 rw[←IC];rfl
theorem aJ7{a b:ByteArray}:Yd (binOp .neq 0 (.string a) (.string b))=M (.bool (!D1 (a=b))):=by
 rw[←IC];rfl
def au9:Zc [] [] []=M a29:=f'
def Haa{ks:List Nat}{xs ys:List D}{e:D}:Zc (k::ks) (d::xs) (e::ys)=(match Ju k d e,Zc ks xs ys with|some a,M b=>M (a&&b)|_,_=>u4):=f'
section
variable {j:a39} {a b:Int}
theorem ba9:Fa .add j a j b=M (.int j (aa j (a+b))):=by simp[Fa]
theorem aZ9:Fa .sub j a j b=M (.int j (aa j (a-b))):=by simp[Fa]
theorem ba3:Fa .mul j a j b=M (.int j (aa j (a*b))):=by simp[Fa]
theorem ba8:Fa .eql j a j b=M (.bool (a==b)):=by simp[Fa]
theorem ba2:Fa .neq j a j b=M (.bool (a !=b)):=by simp[Fa]
theorem ba4:Fa .lss j a j b=M (.bool (D1 (a<b))):=by simp[Fa]
theorem ba5:Fa .leq j a j b=M (.bool (D1 (a<=b))):=by simp[Fa]
theorem ba6:Fa .gtr j a j b=M (.bool (D1 (b<a))):=by simp[Fa]
theorem ba7:Fa .geq j a j b=M (.bool (D1 (b<=a))):=by simp[Fa]
theorem ba1:Fa .quo j a j b=if b=0 then u4 else M (.int j (aa j (a.tdiv b))):=by
 by_cases h:b=0<;>simp[Fa,h]
theorem ba0:Fa .rem j a j b=if b=0 then u4 else M (.int j (a.tmod b)):=by
 by_cases h:b=0<;>simp[Fa,h]
end
theorem bM0{b:Bool}:(b !=a30)=b:=by cases b<;>rfl
theorem bL9{b:Bool}:(b !=a29) = !b:=by cases b<;>rfl
theorem bk1{b:Bool}:((!b)=a30)=(b=a29):=by cases b<;>simp
theorem bk0{b:Bool}:((!b)=a29)=(b=a30):=by cases b<;>simp
def eg:qa s []=M []:=f'
theorem fg{l:List RV}:qa ⟨t,m⟩ (.tmp i::l)=(match qa ⟨t,m⟩ l with|some ds=>M (t.getD i a!::ds)|none=>u4):=by
 simp only[qa,Sa];cases qa ⟨t,m⟩ l<;>rfl
theorem re{l:List RV}:qa ⟨t,m⟩ (.cell b n i::l)=(match ba ⟨t,m⟩ (.load b n (.tmp i)),qa ⟨t,m⟩ l with|some (d,_),M ds=>M (d::ds)|_,_=>u4):=by
 simp only[qa,Sa];cases ba ⟨t,m⟩ (.load b n (.tmp i))<;>cases qa ⟨t,m⟩ l<;>rfl
end
def zx:=(ak (ak (ak (ak (ak (ak (ak (ak (ak @aH2 @bd1) (ak @bc9 @bd0)) (ak (ak @dM @aA0) (ak @bd2 @bP8))) (ak (ak (ak @aM8 @bi2) (ak @bi3 @bP7)) (ak (ak @aN4 @an0) (ak @bi1 @am9)))) (ak (ak (ak (ak @yac @aN2) (ak @al8 @aM9)) (ak (ak @al9 @am8) (ak @am7 @am6))) (ak (ak (ak @an1 @am5) (ak @L5 @bh8)) (ak (ak @aM6 @xac) (ak @M5 @zac))))) (ak (ak (ak (ak (ak @aN3 @bP9) (ak @bi0 @aM5)) (ak (ak @aM7 @Aac) (ak @am2 @am1))) (ak (ak (ak @aN0 @aN1) (ak @al7 @am3)) (ak (ak @N5 @bh9) (ak @aN5 @am0)))) (ak (ak (ak (ak @am4 @bT4) (ak @bT5 @at2)) (ak (ak @at1 @Zaa) (ak @Q8 @tU))) (ak (ak (ak @uU @aA3) (ak @QZ @aJ9)) (ak (ak @Nad @ag5) (ak @K5 @J5)))))) (ak (ak (ak (ak (ak (ak @az8 @az9) (ak @Y3 @sac)) (ak (ak @X0 @ax4) (ak @M9 @yF))) (ak (ak (ak @KU @Y0) (ak @L9 @J9)) (ak (ak @K9 @aO4) (ak @bQ4 @bj3)))) (ak (ak (ak (ak @aO3 @an9) (ak @aO2 @bj4)) (ak (ak @bj6 @bj5) (ak @an7 @kac))) (ak (ak (ak @an4 @aO1) (ak @an6 @an5)) (ak (ak @ap6 @aQ4) (ak @ap5 @Eab))))) (ak (ak (ak (ak (ak @ax1 @aZ4) (ak @ax0 @X9)) (ak (ak @aN8 @aN9) (ak @ae2 @be8))) (ak (ak (ak @aH8 @ae1) (ak @aH9 @ae0)) (ak (ak @ab3 @Iad) (ak @Jad @EW)))) (ak (ak (ak (ak @Q0 @GU) (ak @ax8 @B9)) (ak (ak @y9 @A9) (ak @ah9 @aK4))) (ak (ak (ak @ah8 @Gad) (ak @ap2 @Kab)) (ak (ak @av1 @Gaa) (ak @av0 @aJ8))))))) (ak (ak (ak (ak (ak (ak (ak @aJ7 @au9) (ak @Haa @ba9)) (ak (ak @aZ9 @ba3) (ak @ba8 @ba2))) (ak (ak (ak @ba4 @ba5) (ak @ba6 @ba7)) (ak (ak @ba1 @ba0) (ak @bM0 @bL9)))) (ak (ak (ak (ak @bk1 @bk0) (ak @eg @fg)) (ak (ak @re @Aaf.{0}) (ak @xag.{0} @WY))) (ak (ak (ak @NY @PY) (ak @false_and @and_false)) (ak (ak @true_or @or_true) (ak @or_self @false_or))))) (ak (ak (ak (ak (ak @or_false @tX) (ak @eq_self.{1} @Np)) (ak (ak @aV8 @aV9) (ak @bne_self_eq_false.{0} @bne_iff_ne.{0}))) (ak (ak (ak @bne_eq_false_iff_eq.{0} @M') (ak @hag @false_implies)) (ak (ak @true_implies @implies_true.{1}) (ak @not_true_eq_false @not_false_eq_true)))) (ak (ak (ak (ak @beq_self_eq_true.{0} @cQ) (ak @QN @CC)) (ak (ak @SP @rU) (ak @oF @eM))) (ak (ak (ak @aX @H8) (ak @aM @ZW)) (ak (ak @G8 @kQ) (ak @MY @b?.{0,0})))))) (ak (ak (ak (ak (ak (ak @qai @oag) (ak @cah @IT)) (ak (ak @JT @HT) (ak @Qaj @Bai))) (ak (ak (ak @true_and @and_true) (ak @and_self @ζ)) (ak (ak @η @δ) (ak @γ @ε)))) (ak (ak (ak (ak @Wc @P?.{0}) (ak @U!.{0} @B'.{0})) (ak (ak @G?.{0} @w!.{0}) (ak @A?.{0} @Μ.{0}))) (ak (ak (ak @Ω.{0} @w?.{0,0}) (ak @D!.{0,0} @Β.{0,0})) (ak (ak @θ.{0,0} @w9) (ak @decide_true @cond_true.{1}))))) (ak (ak (ak (ak (ak @cond_false.{1} @if_true.{1}) (ak @if_false.{1} @decide_eq_true_eq)) (ak (ak @decide_eq_false_iff_not @X?) (ak @Y' @κ))) (ak (ak (ak @Z? @Κ) (ak @LZ @decide_false)) (ak (ak @beq_iff_eq.{0} @beq_eq_false_iff_ne.{0}) (ak @ne_eq.{1} @Z!)))) (ak (ak (ak (ak @Hag @Kaf.{0,0}) (ak @A' @ite_true.{1})) (ak (ak @ite_false.{1} @R?.{0}) (ak @Sah.{0} @Eag.{0}))) (ak (ak (ak @Χ.{0} @Bag.{0}) (ak @List.getElem?_map.{0,0} @G!.{0})) (ak (ak @Q? @Rah) (ak @rpS @iai.{0})))))))) (ak (ak (ak (ak @Β.{0,0} @aQ3) (ak @ap4 @bR6)) (ak (ak @bR8 @bR7) (ak @D? @Ml))) (ak (ak (ak @Yj @Wo) (ak @IY @bb5)) (ak @aq8 @aY3))))
def ah5{α:Type}{e:α->D} [Fr e] {f:D->D->Prop}{l:List α}:jz f (l.map e) (l.map e)=True:=vh (Fr.l l)
theorem bQ5{x:Nat}:(0=x+1)=False:=p6
theorem bQ6{x:Nat}:(x+1=0)=False:=p6
theorem bQ7{x y:Nat}:(x+1=y+1)=(x=y):=p6
def zq:=(ak (ak (ak (ak (ak (ak @bQ5 @bQ6) (ak @bQ7 @ah5)) (ak (ak @ah6 @Kad) (ak @bg7 @ah4))) (ak (ak (ak @ah3 @bP0) (ak @aK3 @aK0)) (ak (ak @ag9 @bg3) (ak @ah0 @Mad)))) (ak (ak (ak (ak @aK2 @Lad) (ak @aK1 @ag8)) (ak (ak @bg4 @ah1) (ak @bg6 @aX4))) (ak (ak (ak @au6 @aX5) (ak @nac @F5)) (ak (ak @Ml @Yj) (ak @bg5 @bH7))))) (ak (ak (ak (ak (ak @at5 @MF) (ak @aY2 @rpS)) (ak (ak @iai.{0} @and_self) (ak @and_true @true_and))) (ak (ak (ak @or_true @true_or) (ak @eq_self.{1} @Aaf.{0})) (ak (ak @xag.{0} @M?.{0}) (ak @F!.{0,0} @D!.{0,0})))) (ak (ak (ak (ak @w?.{0,0} @List.map_append.{0,0}) (ak @G?.{0} @exists_eq'.{1})) (ak (ak @Y' @X?) (ak @bne_iff_ne.{0} @ne_eq.{1}))) (ak @not_false_eq_true @D?))))
def zs:=(ak (ak (ak @B'.{0} @G?.{0}) (ak @w!.{0} @A?.{0})) (ak (ak @Z! @Ml) @Yj))
variable {P:a35} {N:Nat}
class T? (N:Nat) (K:Exit->St->Prop):Prop where
 h:Stb N K
variable {K:Exit->St->Prop}
instance {b:C}{K:Exit->St->Prop}:T? N (KS P N b K):=⟨bf8⟩
instance {id:Nat}{K:Exit->St->Prop} [h:T? N K]:T? N (KB id K):=⟨bg2 h.h⟩
instance {σ β ρ:Type}{id:Nat}{K:Exit->St->Prop}{S:σ->St}{B:β->St}{z:Ex σ β ρ}:T? N (KL N id K S B z):=⟨bf9⟩
instance {X R:Type}{K:Exit->St->Prop}{S:X->St}{z:X⊕R}:T? N (KJ N K S z):=⟨bg0⟩
instance {rs:List RV}{o:D}:T? 0 (Fx rs o):=⟨bg1⟩
def T.Hab{ρ:Type}[c:T? N K] {x:C}{s:St}(S:σ->St) (B:β->St) (step:σ->Option (Ex σ β ρ)) (x0:σ) {y:β⊕ρ}(e:Tm.ja step x0=M y) (d:i! N s (S x0))
 (round:∀a z,step a=M z->(∀v,z=.ret v->y=.inr v)->Tm.T P N x (KL N id K S B z) (S a))
 (rest:∀b,y=.inl b->K .normal (B b)):Tm.T P N (.block id (.loop x)) K s:=T.ja S B step x0 e d c.h round rest
def lF:ea []=a29:=rfl
theorem gH{α:Type}{e:α->D} [Fr e] {x:α}{l:List D}(h:ea l=a29):ea (e x::l)=a29:=by
 simp_all[ea,Fr.h]
theorem S3{k:a38}{q l:List D}(hc:ea q=a29) (h:ea l=a29):ea (.fn k [] q::l)=a29:=by
 grind[ea,sa]
theorem H9{d d':D}{q:List D}{o:D}(h:k! P k ([d']++q) o) (hq:ea q=a29) (hf:f o m) (a:Sq [] [] 9 d d'):Ae P k (d::q) m f:=
 La (m1:=m) (d1:=o) ⟨(h m).1,λG w vs hv hi=>(h m).2 G w vs ((RE (gw 9 d d' q q a (t!.free hq))).1 vs hv) hi⟩ hf
theorem bd8{o:D}{s:St}(h:cR (qa s rs) s.m o):Fx rs o .normal s:=by
 obtain⟨ds,a,h2⟩:=h;exact⟨s,.refl s,ds,a,h2⟩
def Rr{α:Type}(l:List α) (hi:Int):Option (List α):=if 0<=hi/\hi.toNat<=l.length then M (l.take hi.toNat)else u4
def jC{α:Type}(l:List α) (lo:Int):Option (List α):=if 0<=lo/\lo.toNat<=l.length then M (l.drop lo.toNat)else u4
section
variable {α:Type} {e:α->D} {l r x:List α} {i:Int} {y:α} {b:Nat}
def bD7(h:e! l i=M y):0<=i/\l[i.toNat]?=M y:=rA h
theorem bD6(h:e! l i=M y):0<=i/\l[i.toNat]?=M y/\i.toNat<l.length:=by
 obtain⟨h1,h2⟩:=rA h
 grind
theorem kz(h:app b l r=M x):(l.length+r.length)*b<=2 ^ 47/\l.map e++r.map e=x.map e:=by
 obtain⟨h1,rfl⟩:=mQ h
 simp_all
theorem vac(h:put l i y=M x):i.toNat<l.length/\(l.map e).set i.toNat (e y)=x.map e:=by
 obtain⟨h0,h1,rfl⟩:=wac h
 simp_all
theorem oS{n c:Int}(h:uz b y n c=M x):0<=n/\n<=c/\c<=2 ^ 62/\c.toNat*b<=2 ^ 48/\h! n.toNat (e y)=x.map e:=by
 obtain⟨h0,h1,h2,h3,rfl⟩:=Uab h
 simp_all
theorem aJ6(h:Rr l i=M x):0<=i/\i.toNat<=l.length/\((l.map e).drop 0).take (i.toNat-0)=x.map e:=by
 unfold Rr at h;split at h
 .rename_i hc;obtain rfl:=R' h
  simp_all
 .cases h
theorem ae5(h:Rr l i=M x):0<=i/\i.toNat<=l.length/\(l.map e).take i.toNat=x.map e:=by
 obtain⟨h1,h2,h3⟩:=aJ6 (e:=e) h
 simp_all
theorem Oad(h:jC l i=M x):0<=i/\i.toNat<=l.length/\((l.map e).drop i.toNat).take (l.length-i.toNat)=x.map e:=by
 unfold jC at h;split at h
 .rename_i hc;obtain rfl:=R' h
  grind[List.map_drop,Ψ]
 .cases h
theorem oY(h:jC l i=M x):0<=i/\i.toNat<=l.length/\((l.map e).take l.length).drop i.toNat=x.map e:=by
 obtain⟨h1,h2,h3⟩:=Oad (e:=e) h
 grind[Ψ]
theorem aJ5(h:jC l i=M x):0<=i/\i.toNat<=l.length/\i.toNat+x.length<=l.length/\l.length-i.toNat=x.length/\((l.map e).drop i.toNat).take x.length=x.map e:=by
 obtain⟨h1,h2,a⟩:=Oad (e:=e) h;have h4:l.length-i.toNat=x.length:=by
  have:=congrArg List.length a
  grind
 grind
theorem bh7{k:a39}{a c d:Int}(h:quo k a c=M d):¬c=0/\aa k (a.tdiv c)=d:=by
 grind[quo]
theorem aB4{k:a39}{a c d:Int}(h:rem k a c=M d):¬c=0/\a.tmod c=d:=by
 grind[rem]
end
theorem DF:∀n:Nat,Tm.ds n []=h! n a!
 |0=>rfl
 |n+1=>by rw[Yj,DF n];rfl
theorem k!.at{l:List D}{o:D}(n:Nat) (hF:cu P k=M F) (hname:((P.funcs[k]?).map λfn=>fn.name == "runtime.NumGoroutine")=M a30) (hf:ea l=a29)
 (hn:F.ntmps=l.length+n) (h:T P 0 F.code (Fx F.results o) ⟨l++Tm.ds n [],[]⟩):k! P k l o:=by
 grind[k!.of,DF]
section
variable {P:a35} {N:Nat} {ops:Array Oper} {Q:Exit->Act->a33->Prop} {K:St->Prop} {rl:List RI} {q:Nat} {ps:List (List Nat)}
def E5(R:List (List Nat)->St->Prop) (fp:List (List Nat)) (p:List Nat) (dst:Option Tmp) (i:I) (s:St):Prop:=
 Mx fp (Nd s (.op dst u4 i)) p=a29/\Mf s i=a29/\jq (ba s i) (KO (R (fp++[Nd s (.op dst u4 i)])) s dst)
def skY(R:List (List Nat)->St->Prop) (fp:List (List Nat)) (p:List Nat) (dst:Option Tmp) (i:I) (s:St):Prop:=
 Mx fp (Nd s (.op dst u4 i)) p=a29/\R (fp++[Nd s (.op dst u4 i)]) (s.put dst (.v undef))
def Px(P:a35) (k:a38) (ds:List D) (ids:List Nat) (R:St->Prop) (s:St) (dst:Option Tmp):Prop:=
 ∃d,((∀id∈ids,id<s.m.length)/\∀m,(∀id∈ids,m[id]?=s.m[id]?)->CallT P k ds m λd' m'=>d'=d/\m'=m)/\R (s.put dst d)
def P9(P:a35) (R:List (List Nat)->St->Prop) (fp:List (List Nat)) (p:List Nat) (k:a38) (dst:Option Tmp) (args:List a34) (s:St):Prop:=Mx fp (yb s args) p=a29/\Px P k (args.map s.ev) (yb s args) (R (fp++[yb s args])) s dst
def cnY(R:List (List Nat)->St->Prop) (fp:List (List Nat)) (p:List Nat) (dst:Option Tmp) (args:List a34) (s:St):Prop:=Mx fp (yb s args) p=a29/\R (fp++[yb s args]) (s.put dst (.v undef))
def Aw(P:a35):List (List Nat)->Nat->List RI->(St->Prop)->List (List Nat)->St->Prop
 |_,0,l,K,_,s=>nf P l K s
 |_,_+1,[],_,_,_=>False
 |ps,q+1,.op dst u4 i::l,K,fp,s=>E5 (Aw P ps.tail q l K) fp (ps.headD []) dst i s
 |ps,q+1,.op dst (M (t,b)) i::l,K,fp,s=>
  gD (s.t.getD t a!) b (E5 (Aw P ps.tail q l K) fp (ps.headD []) dst i) ⟨s.t.set t (.v (.bool b)),s.m⟩ (skY (Aw P ps.tail q l K) fp (ps.headD []) dst i) ⟨s.t.set t (.v (.bool (!b))),s.m⟩ s
 |ps,q+1,.call dst u4 (.func k) args::l,K,fp,s=>P9 P (Aw P ps.tail q l K) fp (ps.headD []) k dst args s
 |ps,q+1,.call dst (M (t,b)) (.func k) args::l,K,fp,s=>
  gD (s.t.getD t a!) b (P9 P (Aw P ps.tail q l K) fp (ps.headD []) k dst args) ⟨s.t.set t (.v (.bool b)),s.m⟩ (cnY (Aw P ps.tail q l K) fp (ps.headD []) dst args) ⟨s.t.set t (.v (.bool (!b))),s.m⟩ s
 |_,_+1,.call ..::_,_,_,_=>False
theorem zJ{d:D}{b:Bool}(hd:t.getD i a!=d) {a e:St->Prop}(h:gD d b a ⟨t.set i (.v (.bool b)),m⟩ e ⟨t.set i (.v (.bool (!b))),m⟩ ⟨t,m⟩) :
 match d? ⟨t,m⟩ (M (i,b))with
 |none=>False
 |some u4=>True
 |some (M (c,b))=>(c=b->a ⟨t,m⟩)/\(c≠b->e ⟨t,m⟩):=by
 simp only[d?,hd];unfold gD at h
 cases d with
 |v x=>
  cases x with
  |bool c=>
   simp only[gQ]at h⊢;have f:=TE hd p6;refine⟨λhc=>?_,λhc=>?_⟩
   .subst hc;have:=h.1 rfl
    simp_all
   .have:=h.2 hc;rwa [show(!b)=c by cases b<;>cases c<;>simp_all,f]at this
  |_=>cases b<;>simpa using h
 |_=>exact h
theorem yG:∀{q:Nat}{l:List RI}{ps:List (List Nat)}{fp:List (List Nat)}{s:St},Aw P ps q l K fp s->Az P ps fp q l K s
 |0,l,ps,fp,s,h=>by simp only[Aw]at h;simp only[Az];exact Ir h
 |q+1,[],ps,fp,s,h=>by simp only[Aw]at h
 |q+1,.op dst u4 i::l,ps,fp,s,h=>by
  simp only[Aw,E5]at h;obtain⟨e,a,h2⟩:=h;simp only[Az,d?];obtain⟨d,m',g,j⟩:=(aj _ _).1 h2;exact⟨e,d,m',a,g,yG j⟩
 |q+1,.op dst (M (t,b)) i::l,ps,fp,⟨st,sm⟩,h=>by
  simp only[Aw]at h;have h:=zJ rfl h;have hrid:∀s,Nd s (.op dst (M (t,b)) i)=Nd s (.op dst u4 i):=λ_=>rfl;simp only[Az];rw[hrid];split at h
  .simp_all
  .grind[d?]
  .rename_i c f n;simp only[n];by_cases hc:c=f
   .obtain⟨e,a,h2⟩:=h.1 hc;obtain⟨d,m',g,j⟩:=(aj _ _).1 h2;exact⟨e,λ_=>⟨d,m',a,g,yG j⟩,λhn=>(hn hc).elim⟩
   .obtain⟨e,h2⟩:=h.2 hc;exact⟨e,λhn=>(hc hn).elim,λ_=>yG h2⟩
 |q+1,.call dst u4 (.func k) args::l,ps,fp,s,h=>by
  simp only[Aw,P9,Px]at h;obtain⟨a,d,e,h2⟩:=h;simp only[Az,d?];exact⟨a,d,p5,yG h2⟩
 |q+1,.call dst (M (t,b)) (.func k) args::l,ps,fp,⟨st,sm⟩,h=>by
  simp only[Aw]at h;have h:=zJ rfl h;simp only[Az];have m:St.cv ⟨st,sm⟩ (.func k)=.fn k [] []:=rfl;simp only[m];split at h
  .simp_all
  .grind[d?]
  .rename_i c f n;simp only[n];by_cases hc:c=f
   .obtain⟨a,d,e,h2⟩:=h.1 hc;exact⟨a,λ_=>⟨d,p5,yG h2⟩,λhn=>(hn hc).elim⟩
   .obtain⟨a,h2⟩:=h.2 hc;exact⟨a,λhn=>(hc hn).elim,λ_=>yG h2⟩
 |q+1,.call dst u4 (.tmp _) args::l,ps,fp,s,h=>by simp only[Aw]at h
 |q+1,.call dst u4 (.const _) args::l,ps,fp,s,h=>by simp only[Aw]at h
 |q+1,.call dst u4 (.global _) args::l,ps,fp,s,h=>by simp only[Aw]at h
 |q+1,.call dst (M _) (.tmp _) args::l,ps,fp,s,h=>by simp only[Aw]at h
 |q+1,.call dst (M _) (.const _) args::l,ps,fp,s,h=>by simp only[Aw]at h
 |q+1,.call dst (M _) (.global _) args::l,ps,fp,s,h=>by simp only[Aw]at h
 |q+1,.call dst u4 (.meth _ _) args::l,ps,fp,s,h=>by simp only[Aw]at h
 |q+1,.call dst (M _) (.meth _ _) args::l,ps,fp,s,h=>by simp only[Aw]at h
def T.dy(hm:P.follows .mixedOrders=a29) {l:List RI}{K:Exit->St->Prop}{s:St}(h:Aw P [] q l (K .normal) [] s):T P N (.draw q l) K s:=
 T.drawO hm (Jw (yG h))
def T.ay(hm:P.follows .mixedOrders=a29) {bs:List (List Nat)}{l:List RI}{K:Exit->St->Prop}{s:St}(ps:List (List Nat)) (a:Mt bs l q ps []=a29) (h:Aw P ps q l (K .normal) [] s):T P N (.any cuts q bs l) K s:=
 T.any2 hm ps a (yG h)
end
section
variable {P:a35}
theorem gO{ds:List D}{o:D}{R:St->Prop}{s:St}(h:k! P k ds' o) (hf:R (s.put dst o)) (a:lC (Sq [] [] 9) ds ds'):Px P k ds [] R s dst:=
 ⟨o,⟨λ_ h=>(by cases h),λm _=>⟨(h m).1,λG w vs hv hi=>(h m).2 G w vs ((RE (Yw (gw 9) a)).1 vs hv) hi⟩⟩,hf⟩
def Lq(m:List Ent) (d e:D):Prop:=
 match d,e with
 |.own j v,.sl S b=>match m[j]? with|some (.live S' c a)=>S'=S/\c=v/\a=b/\ea a=a29|_=>False
 |.view j v lo n,.sl S b=>match m[j]? with|some (.live S' c a)=>S'=S/\c=v/\lo+n<=a.length/\(a.drop lo).take n=b/\ea b=a29|_=>False
 |.ref j v x s,.pt e=>match m[j]? with|some (.live _ c a)=>c=v/\s=0/\a[x]?=M e/\sa e=a29|_=>False
 |d,e=>Sq [] [] 9 d e
theorem aK7{l:List D}(h:t! [] [] l r) (m:List Ent):t! [] m l r:=by
 induction h with
 |nil=>exact .nil
 |same hf h b=>exact .same hf b
 |dead h b=>exact .dead b
 |nils h b=>exact .nils b
 |agg ha h a b=>exact .agg a b
 |tup ha h a b=>exact .tup a b
 |sl ha h a b=>exact .sl a b
 |pt ha h a b=>exact .pt a b
 |fn ha hc h a c b=>exact .fn a c b
 |ifc ha h a b=>exact .ifc a b
 |Mv i hi=>simp at hi
 |own hi=>simp at hi
 |ref hi=>simp at hi
 |view hi=>simp at hi
 |mp hi=>simp at hi
 |ob hm=>simp at hm
 |fview hm=>simp at hm
 |fref hm=>simp at hm
theorem aP6(hm:∀id∈ids,m'[id]?=m[id]?) {d e:D}{l:List D}(h:Lq m d e) (c:(match je d with|some j=>ids.contains j|none=>a29)=a29) (f:t! [] m' l r):t! [] m' (d::l) (e::r):=by
 unfold Lq at h;split at h
 .rename_i j v S b;simp only[je,Saf]at c;split at h
  .rename_i S' g a hj;obtain⟨rfl,rfl,rfl,hf⟩:=h;exact .ob p5 rfl (t!.free hf) f
  simp_all
 .rename_i j v lo n S b;simp only[je,Saf]at c;split at h
  .rename_i S' g a hj;obtain⟨rfl,rfl,hn,rfl,hf⟩:=h;exact .fview p5 rfl hn (t!.free hf) f
  simp_all
 .rename_i j v x s e;simp only[je,Saf]at c;split at h
  .rename_i S' g a hj;obtain⟨rfl,rfl,hx,hf⟩:=h;exact .fref (by rw[hm j c];omega) rfl hx (.same hf .nil) f
  simp_all
 .have i:=aK7 (gw 9 d e [] [] h .nil) m';exact t!.app (a:=[d]) (b:=[e]) i f
def xC(ids:List Nat) (ds:List D):Bool:=ds.all λd=>match je d with|some j=>ids.contains j|none=>a29
theorem QH{m m':List Ent}{ids:List Nat}(hm:∀id∈ids,m'[id]?=m[id]?):∀{a b:List D},lC (Lq m) a b->xC ids a=a29->t! [] m' a b
 |[],[],_,_=>.nil
 |d::l,e::r,h,ht=>by
  simp only[xC,Iag,D?]at ht;exact aP6 hm h.1 ht.1 (QH hm h.2 ht.2)
 |[],_::_,h,_=>h.elim
 |_::_,[],h,_=>h.elim
theorem AI{ds:List D}{o:D}{R:St->Prop}{s:St}(h:k! P k ds' o) (hf:R (s.put dst o)) (a:flat o=a29) (hi:(ids.all λi=>D1 (i<s.m.length))=a29) (ht:xC ids ds=a29) (b:lC (Lq s.m) ds ds'):Px P k ds ids R s dst:=by
 refine⟨o,⟨λid hid=>?_,λm hm=>?_⟩,hf⟩
 .simp_all
 .exact JC h (QH hm b ht) a ⟨rfl,rfl⟩
variable {m:List Ent} {S x y lo n s:Nat} {b:List D} {e:D}
def aP8:Lq m (.own x y) (.sl S b)=(match m[x]? with|some (.live S' c a)=>S'=S/\c=y/\a=b/\ea a=a29|_=>False):=f'
def ap3:Lq m (.view x y lo n) (.sl S b)=(match m[x]? with|some (.live S' c a)=>S'=S/\c=y/\lo+n<=a.length/\(a.drop lo).take n=b/\ea b=a29|_=>False):=f'
def aP7{z:Nat}:Lq m (.ref x y z s) (.pt e)=(match m[x]? with|some (.live _ b a)=>b=y/\s=0/\a[z]?=M e/\sa e=a29|_=>False):=f'
def bQ9:Lq m (.v z) e=Sq [] [] 9 (.v z) e:=f'
def aQ0{z:List D}:Lq m (.agg z) e=Sq [] [] 9 (.agg z) e:=f'
def bl5{z:List D}:Lq m (.sl S z) e=Sq [] [] 9 (.sl S z) e:=f'
def bl6{z:D}:Lq m (.pt z) e=Sq [] [] 9 (.pt z) e:=f'
def bl7{α:Type}{f:α->D} [Fr f] {l:List α}:ea (l.map f)=a29:=Fr.l l
def aP9{α:Type}{f:α->D}{l:List α}:(l.map f).length=l.length:=Kaf f
end
variable {P:a35}
def bh5{s:St}:Nd s (.op d g (.mv a))=[]:=f'
def bh2{s:St}:Mf s (.mv a)=a29:=f'
def ak8{s:St}:Nd s (.op d g (.pick a b c))=[]:=f'
def ai9{s:St}:Mf s (.pick a b c)=a29:=f'
def aM1{s:St}{a:BinOp}:Nd s (.op d g (.bin a b c))=[]:=f'
def aL2{s:St}{a:BinOp}:Mf s (.bin a b c)=a29:=f'
def aM2{s:St}{a:Bool}:Nd s (.op d g (.beq a b c))=[]:=f'
def aL3{s:St}{a:Bool}:Mf s (.beq a b c)=a29:=f'
def bh4{s:St}{a:UnOp}:Nd s (.op d g (.un a b))=[]:=f'
def bh1{s:St}{a:UnOp}:Mf s (.un a b)=a29:=f'
def al4{s:St}{a:a39}:Nd s (.op d g (.conv a b))=[]:=f'
def aj5{s:St}{a:a39}:Mf s (.conv a b)=a29:=f'
def Fac{s:St}{a:Nat}{b:D}:Nd s (.op d g (.alloc a b))=[]:=f'
def iad{s:St}{a:Nat}{b:D}:Mf s (.alloc a b)=a29:=f'
def aM0{s:St}{a:Nat}:Nd s (.op d g (.box a b))=[]:=f'
def aL1{s:St}{a:Nat}:Mf s (.box a b)=a29:=f'
def Gac{s:St}{a:List D}{b:List (Nat×Nat×a34)}:Nd s (.op d g (.build a b))=[]:=f'
def jad{s:St}{a:List D}{b:List (Nat×Nat×a34)}:Mf s (.build a b)=a29:=f'
def S5{s:St}{a:Nat}{b:Nat}{c:D}{e:List (Nat×a34)}:Nd s (.op d g (.bslice a b c e))=[]:=f'
def F6{s:St}{a:Nat}{b:Nat}{c:D}{d:List (Nat×a34)}:Mf s (.bslice a b c d)=a29:=f'
def al2{s:St}{b:Bool}{c:Nat}:Nd s (.op d g (.load b c a))=Uu s [a]:=f'
def aj3{s:St}{a:Bool}{b:Nat}:Mf s (.load a b c)=a29:=f'
def Sac{s:St}{b:Nat}:Nd s (.op d g (.store b a c))=Uu s [a]:=f'
def vad{s:St}{a:Nat}:Mf s (.store a b c)=a29:=f'
def ak9{s:St}:Nd s (.op d g (.nilc a))=[]:=f'
def aj0{s:St}:Mf s (.nilc a)=a29:=f'
def Rac{s:St}{b:Nat}{c:Option a34}{e:Option a34}{f:Option a34}:Nd s (.op d g (.slice b a c e f))=Uu s [a]:=f'
def uad{s:St}{a:Nat}{c:Option a34}{d:Option a34}{e:Option a34}:Mf s (.slice a b c d e)=a29:=f'
def Hac{s:St}{a:Bool}{b:Nat}{c:Nat}:Nd s (.op d g (.faddr a b c e))=[]:=f'
def kad{s:St}{a:Bool}{b:Nat}{c:Nat}{d:a34}:Mf s (.faddr a b c d)=a29:=f'
def Iac{s:St}{a:Bool}{b:Nat}{c:Nat}:Nd s (.op d g (.field a b c e))=[]:=f'
def lad{s:St}{a:Bool}{b:Nat}{c:Nat}{d:a34}:Mf s (.field a b c d)=a29:=f'
def Jac{s:St}{b:Nat}:Nd s (.op d g (.iaddr b a c))=Uu s [a]:=f'
def mad{s:St}{a:Nat}:Mf s (.iaddr a b c)=a29:=f'
def Eac{s:St}{a:Bool}{b:Nat}{c:Nat}{f:a34}:Nd s (.op d g (.aaddr a b c e f))=[]:=f'
def had{s:St}{a:Bool}{b:Nat}{c:Nat}{d:a34}:Mf s (.aaddr a b c d e)=a29:=f'
def Kac{s:St}{a:Bool}{b:Nat}{c:Nat}{f:a34}:Nd s (.op d g (.index a b c e f))=[]:=f'
def nad{s:St}{a:Bool}{b:Nat}{c:Nat}{d:a34}:Mf s (.index a b c d e)=a29:=f'
def fW{s:St}{b:Nat}:Nd s (.op d g (.extract a b))=[]:=f'
def xW{s:St}{b:Nat}:Mf s (.extract a b)=a29:=f'
def aL7{s:St}:Nd s (.op d g (.len a))=Uu s [a]:=f'
def aK8{s:St}:Mf s (.len a)=a29:=f'
def ak6{s:St}:Nd s (.op d g (.slen a))=[]:=f'
def ai7{s:St}:Mf s (.slen a)=a29:=f'
def R5{s:St}{c:Nat}{e:Nat}:Nd s (.op d g (.append c e a b))=Uu s [a,b]:=f'
def E6{s:St}{b:Nat}{c:Nat}{d:a34}:Mf s (.append b c a d)=(match s.ev a with|.own ..=>a29|_=>a30):=f'
def gW{s:St}{a:Nat}{b:Nat}{c:D}{f:a34}:Nd s (.op d g (.mkslice a b c e f))=[]:=f'
def yW{s:St}{a:Nat}{b:Nat}{c:D}{d:a34}:Mf s (.mkslice a b c d e)=a29:=f'
def T5{s:St}{a:a38}{b:List a34}{c:List a34}:Nd s (.op d g (.mkfunc a b c))=[]:=f'
def G6{s:St}{a:a38}{b:List a34}{c:List a34}:Mf s (.mkfunc a b c)=a29:=f'
def al3{s:St}  : Nd s (.op d g (.fail))=[]:=f'
def aj4{s:St}  : Mf s (.fail)=a29:=f'
def bh6{s:St}{a:Bool}{b:List a34}:Nd s (.op d g (.mm a b))=[]:=f'
def bh3{s:St}{a:Bool}{b:List a34}:Mf s (.mm a b)=a29:=f'
def aL9{s:St}{a:Bool}{b:List Nat}:Nd s (.op d g (.ceq a b c e))=[]:=f'
def aL0{s:St}{a:Bool}{b:List Nat}{d:a34}:Mf s (.ceq a b c d)=a29:=f'
def ak5{s:St}{a:Nat}:Nd s (.op d g (.strb a b))=[]:=f'
def ai6{s:St}{a:Nat}:Mf s (.strb a b)=a29:=f'
def ak7{s:St}:Nd s (.op d g (.xy a b))=[]:=f'
def ai8{s:St}:Mf s (.xy a b)=a29:=f'
def U5{s:St}{b:Option a34}{c:Option a34}:Nd s (.op d g (.sslice a b c))=[]:=f'
def H6{s:St}{b:Option a34}{c:Option a34}:Mf s (.sslice a b c)=a29:=f'
def Nac{s:St}  : Nd s (.op d g (.mkmap))=[]:=f'
def rad{s:St}  : Mf s (.mkmap)=a29:=f'
def Oac{s:St}{b:Nat}{c:Bool}{e:D}{f:a34}:Nd s (.op d g (.mlook b c e a f))=Uu s [a]:=f'
def sad{s:St}{a:Nat}{b:Bool}{c:D}{d:a34}:Mf s (.mlook a b c d e)=a29:=f'
def al0{s:St}{a:Nat}:Nd s (.op d g (.mput a b c e))=[]:=f'
def aj1{s:St}{a:Nat}{d:a34}:Mf s (.mput a b c d)=a29:=f'
def al1{s:St}:Nd s (.op d g (.mlen a))=Uu s [a]:=f'
def aj2{s:St}:Mf s (.mlen a)=a29:=f'
def Tac{s:St}{b:Nat}{c:Option a34}{e:Option a34}:Nd s (.op d g (.trunc b a c e))=Uu s [a]:=f'
def wad{s:St}{b:Nat}{c:Option a34}{d:Option a34}:Mf s (.trunc b a c d)=(match s.ev a with|.own ..=>a29|_=>a30):=f'
def Mac{s:St}{a:a36}:Nd s (.op d g (.mkifc a b))=[]:=f'
def qad{s:St}{a:a36}:Mf s (.mkifc a b)=a29:=f'
def iW{s:St}{a:Bool}{b:a36}{c:D}:Nd s (.op d g (.tassert a b c e))=[]:=f'
def zW{s:St}{a:Bool}{b:a36}{c:D}{d:a34}:Mf s (.tassert a b c d)=a29:=f'
def aL8{s:St}{a:Nat}{b:D}:Nd s (.op d g (.clr a b c))=[]:=f'
def aK9{s:St}{a:Nat}{b:D}:Mf s (.clr a b c)=a29:=f'
def al5{s:St}:Nd s (.op d g (.capn a))=[]:=f'
def aj6{s:St}:Mf s (.capn a)=a29:=f'
def Pac{s:St}{b:Bool}:Nd s (.op d g (.Mp b a))=Uu s [a]:=f'
def tad{s:St}{a:Bool}:Mf s (.Mp a b)=a29:=f'
def Lac{s:St}{a:Nat}{b:Nat}{c:D}{f:a34}:Nd s (.op d g (.mkapp a b c e f))=[]:=f'
def oad{s:St}{a:Nat}{b:Nat}{c:D}{d:a34}:Mf s (.mkapp a b c d e)=a29:=f'
section
variable {ps:List (List Nat)} {q k t:Nat} {b:Bool} {dst:Option Tmp} {i:I} {l:List RI} {K:St->Prop} {fp:List (List Nat)} {s:St} {args:List a34} {R:List (List Nat)->St->Prop} {p f g:List Nat} {x y:Nat} {o:a34} {os:List a34} {st:List D} {m:List Ent} {S:Nat} {r:List D}
theorem aw2:Aw P ps 0 l K fp s=nf P l K s:=by simp only[Aw]
theorem bI0:Aw P ps (q+1) (.op dst u4 i::l) K fp s=E5 (Aw P ps.tail q l K) fp (ps.headD []) dst i s:=by simp only[Aw]
theorem aY7:Aw P ps (q+1) (.op dst (M (t,b)) i::l) K fp ⟨st,m⟩=gD (st.getD t a!) b (E5 (Aw P ps.tail q l K) fp (ps.headD []) dst i) ⟨st.set t (.v (.bool b)),m⟩ (skY (Aw P ps.tail q l K) fp (ps.headD []) dst i) ⟨st.set t (.v (.bool (!b))),m⟩ ⟨st,m⟩:=by simp only[Aw]
theorem aw3:Aw P ps (q+1) (.call dst u4 (.func k) args::l) K fp s=P9 P (Aw P ps.tail q l K) fp (ps.headD []) k dst args s:=by simp only[Aw]
theorem naa:Aw P ps (q+1) (.call dst (M (t,b)) (.func k) args::l) K fp ⟨st,m⟩=gD (st.getD t a!) b (P9 P (Aw P ps.tail q l K) fp (ps.headD []) k dst args) ⟨st.set t (.v (.bool b)),m⟩ (cnY (Aw P ps.tail q l K) fp (ps.headD []) dst args) ⟨st.set t (.v (.bool (!b))),m⟩ ⟨st,m⟩:=by simp only[Aw]
theorem bj2:E5 R fp p dst i s=(Mx fp (Nd s (.op dst u4 i)) p=a29/\Mf s i=a29/\jq (ba s i) (KO (R (fp++[Nd s (.op dst u4 i)])) s dst)):=f'
def bg8:skY R fp p dst i s=(Mx fp (Nd s (.op dst u4 i)) p=a29/\R (fp++[Nd s (.op dst u4 i)]) (s.put dst (.v undef))):=f'
def bL4:P9 P R fp p k dst args s=(Mx fp (yb s args) p=a29/\Px P k (args.map s.ev) (yb s args) (R (fp++[yb s args])) s dst):=f'
def bL2:cnY R fp p dst args s=(Mx fp (yb s args) p=a29/\R (fp++[yb s args]) (s.put dst (.v undef))):=f'
def aJ2:yb s []=[]:=f'
def af9:yb s (o::os)=Gi (s.ev o)++yb s os:=f'
def bR3:Gi (.v z)=[]:=f'
def aU3:Gi (.agg r)=Oe r:=f'
def aT8:Gi (.tup r)=Oe r:=f'
def bD8:Gi (.sl S r)=Oe r:=f'
def bD9{d:D}:Gi (.pt d)=Gi d:=f'
def bE0{a c:List D}:Gi (.fn k a c)=Oe a++Oe c:=f'
def ar3:Gi a!=[]:=f'
def aU0:Gi (.own x y)=[x]:=f'
def aT9{v:Nat}:Gi (.ref x y u v)=[x]:=f'
def ar2{v:Nat}:Gi (.view x y u v)=[x]:=f'
def aU1:Oe []=[]:=f'
def ar4{d:D}:Oe (d::r)=Gi d++Oe r:=f'
def aU2{α:Type}{f:α->D} [Fr f] {l:List α}:Oe (l.map f)=[]:=Ep (Fr.l l)
def tae:Uu s []=[]:=f'
def Z6:Uu s (o::os)=(match je (s.ev o)with|some id=>id::Uu s os|none=>Uu s os):=f'
def bb1:Mx fp f []=a29:=f'
def ay4:Mx fp f (j::p)=(Zq (fp.getD j []) f&&Mx fp f p):=f'
def bM8:Zq [] f=a29:=f'
def bM7:Zq (x::g) f=(Sz x f&&Zq g f):=f'
def bZ4:Sz x []=a29:=f'
def bZ3:Sz x (y::g)=(qS x y&&Sz x g):=f'
def bk8:qS 0 0=a30:=f'
def bk7:qS 0 (y+1)=a29:=f'
def bk6:qS (x+1) 0=a29:=f'
def bk5:qS (x+1) (y+1)=qS x y:=f'
def bf1:je (.v z)=u4:=f'
def af2:je (.agg r)=u4:=f'
def ae9:je (.tup r)=u4:=f'
def aI1:je (.sl S r)=u4:=f'
def aI2{d:D}:je (.pt d)=u4:=f'
def rae:je a!=u4:=f'
def af1:je (.own x y)=M x:=f'
def af0{v:Nat}:je (.ref x y u v)=M x:=f'
def sae{v:Nat}:je (.view x y u v)=M x:=f'
def bR4{l:List Nat}{ps:List (List Nat)}:(l::ps).headD []=l:=f'
def bO7{l:List Nat}{ps:List (List Nat)}:(l::ps).tail=ps:=f'
def bR5:([]:List (List Nat)).headD []=[]:=f'
def bO8:([]:List (List Nat)).tail=[]:=f'
end
def zy:=(ak (ak (ak (ak (ak (ak (ak (ak @bh5 @bh2) (ak @ak8 @ai9)) (ak (ak @aM1 @aL2) (ak @aM2 @aL3))) (ak (ak (ak @bh4 @bh1) (ak @al4 @aj5)) (ak (ak @Fac @iad) (ak @aM0 @aL1)))) (ak (ak (ak (ak @Gac @jad) (ak @S5 @F6)) (ak (ak @al2 @aj3) (ak @Sac @vad))) (ak (ak (ak @ak9 @aj0) (ak @Rac @uad)) (ak (ak @Hac @kad) (ak @Iac @lad))))) (ak (ak (ak (ak (ak @Jac @mad) (ak @Eac @had)) (ak (ak @Kac @nad) (ak @fW @xW))) (ak (ak (ak @aL7 @aK8) (ak @ak6 @ai7)) (ak (ak @R5 @E6) (ak @gW @yW)))) (ak (ak (ak (ak @T5 @G6) (ak @al3 @aj4)) (ak (ak @bh6 @bh3) (ak @aL9 @aL0))) (ak (ak (ak @ak5 @ai6) (ak @ak7 @ai8)) (ak (ak @U5 @H6) (ak @Nac @rad)))))) (ak (ak (ak (ak (ak (ak @Oac @sad) (ak @al0 @aj1)) (ak (ak @al1 @aj2) (ak @Tac @wad))) (ak (ak (ak @Mac @qad) (ak @iW @zW)) (ak (ak @aL8 @aK9) (ak @al5 @aj6)))) (ak (ak (ak (ak @Pac @tad) (ak @Lac @oad)) (ak (ak @aw2 @bI0) (ak @aY7 @aw3))) (ak (ak (ak @naa @bj2) (ak @bg8 @bL4)) (ak (ak @bL2 @aJ2) (ak @af9 @bR3))))) (ak (ak (ak (ak (ak @aU3 @aT8) (ak @bD8 @bD9)) (ak (ak @bE0 @ar3) (ak @aU0 @aT9))) (ak (ak (ak @ar2 @aU1) (ak @ar4 @aU2)) (ak (ak @tae @Z6) (ak @bb1 @ay4)))) (ak (ak (ak (ak @bM8 @bM7) (ak @bZ4 @bZ3)) (ak (ak @bk8 @bk7) (ak @bk6 @bk5))) (ak (ak (ak @bf1 @af2) (ak @ae9 @aI1)) (ak (ak @aI2 @rae) (ak @af1 @af0))))))) (ak (ak (ak (ak @sae @bR4) (ak @bO7 @bR5)) (ak (ak @bO8 @aP8) (ak @ap3 @aP7))) (ak (ak (ak @bQ9 @aQ0) (ak @bl5 @bl6)) (ak @bl7 @aP9))))
section
variable {P:a35} {N:Nat} {ops:Array Oper} {Q:Exit->Act->a33->Prop} {K:St->Prop} {rl:List RI} {q:Nat} {ps:List (List Nat)} {pl:List (Option Nat)}
def au0(R:List (List Nat)->St->Prop) (fp:List (List Nat)) (p:List Nat) (k:Nat) (dst:Option Tmp) (i:I) (s:St):Prop:=
 Mx fp [k] p=a29/\match Bl s k i with
  |some (d,e)=>R (fp++[[k]]) (({ s with m:=s.m.set k e }:St).put dst d)
  |none=>False
def rG(P:a35) (k:a38) (ds:List D) (ids:List Nat) (fp:List (List Nat)) (p:List Nat) (x:Nat) (f:D->Ent->Prop) (s:St):Prop:=
 (ids.elem x&&Mx fp ids p)=a29/\∃d e,((∀id∈ids,id<s.m.length)/\∀m,(∀id∈ids,m[id]?=s.m[id]?)->CallT P k ds m λd' m'=>d'=d/\m'=m.set x e)/\f d e
@[congr] theorem aG3{P:a35} {k:a38} {ds ds':List D} {ids a:List Nat} {fp b:List (List Nat)} {p c:List Nat} {x:Nat} {f:D->Ent->Prop} {s:St} (h1:ds=ds') (h2:ids=a) (h3:fp=b) (h4:p=c):rG P k ds ids fp p x f s=rG P k ds' a b c x f s:=p5
def cwY(P:a35) (R:List (List Nat)->St->Prop) (fp:List (List Nat)) (p:List Nat) (x:Nat) (k:a38) (dst:Option Tmp) (args:List a34) (s:St):Prop:=
 rG P k (args.map s.ev) (yb s args) fp p x (λd e=>R (fp++[yb s args]) (({ s with m:=s.m.set x e }:St).put dst d)) s
def wh(P:a35):List (Option Nat)->List (List Nat)->Nat->List RI->(St->Prop)->List (List Nat)->St->Prop
 |_,_,0,l,K,_,s=>nf P l K s
 |_,_,_+1,[],_,_,_=>False
 |some k::pl,ps,q+1,.op dst u4 i::l,K,fp,s=>au0 (wh P pl ps.tail q l K) fp (ps.headD []) k dst i s
 |none::pl,ps,q+1,.op dst u4 i::l,K,fp,s=>E5 (wh P pl ps.tail q l K) fp (ps.headD []) dst i s
 |none::pl,ps,q+1,.op dst (M (t,b)) i::l,K,fp,s=>
  gD (s.t.getD t a!) b (E5 (wh P pl ps.tail q l K) fp (ps.headD []) dst i) ⟨s.t.set t (.v (.bool b)),s.m⟩ (skY (wh P pl ps.tail q l K) fp (ps.headD []) dst i) ⟨s.t.set t (.v (.bool (!b))),s.m⟩ s
 |none::pl,ps,q+1,.call dst u4 (.func k) args::l,K,fp,s=>P9 P (wh P pl ps.tail q l K) fp (ps.headD []) k dst args s
 |some x::pl,ps,q+1,.call dst u4 (.func k) args::l,K,fp,s=>cwY P (wh P pl ps.tail q l K) fp (ps.headD []) x k dst args s
 |_,_,_+1,_::_,_,_,_=>False
theorem Yz:∀{q:Nat}{l:List RI}{pl:List (Option Nat)}{ps:List (List Nat)}{fp:List (List Nat)}{s:St},wh P pl ps q l K fp s->Nj P pl ps fp q l K s
 |0,l,pl,ps,fp,s,h=>by simp only[wh]at h;simp only[Nj];exact Ir h
 |q+1,[],pl,ps,fp,s,h=>by simp[wh]at h
 |q+1,.op dst u4 i::l,M k::pl,ps,fp,s,h=>by
  simp only[wh,au0]at h;obtain⟨j,h2⟩:=h;split at h2
  .rename_i d e hf;simp only[Nj];exact⟨j,trivial,d,e,hf,Yz h2⟩
  simp_all
 |q+1,.op dst u4 i::l,u4::pl,ps,fp,s,h=>by
  simp only[wh,E5]at h;obtain⟨j,a,h2⟩:=h;simp only[Nj,d?];obtain⟨d,m',n,o⟩:=(aj _ _).1 h2;exact⟨j,d,m',a,n,Yz o⟩
 |q+1,.op dst (M (t,b)) i::l,u4::pl,ps,fp,⟨st,sm⟩,h=>by
  simp only[wh]at h;have h:=zJ rfl h;have hrid:∀s,Nd s (.op dst (M (t,b)) i)=Nd s (.op dst u4 i):=λ_=>rfl;simp only[Nj];show Mx fp (Nd _ (.op dst (M (t,b)) i)) (ps.headD [])=a29/\_;rw[hrid];split at h
  .simp_all
  .grind[d?]
  .rename_i c p r;refine⟨?_,?_⟩
   .by_cases hc:c=p
    .exact(h.1 hc).1
    .exact(h.2 hc).1
   rw[r];by_cases hc:c=p
   .obtain⟨j,a,h2⟩:=h.1 hc;obtain⟨d,m',n,o⟩:=(aj _ _).1 h2;exact⟨λ_=>⟨d,m',a,n,Yz o⟩,λhn=>(hn hc).elim⟩
   .obtain⟨j,h2⟩:=h.2 hc;exact⟨λhn=>(hc hn).elim,λ_=>Yz h2⟩
 |q+1,.call dst u4 (.func k) args::l,u4::pl,ps,fp,s,h=>by
  simp only[wh,P9,Px]at h;obtain⟨a,d,j,h2⟩:=h;simp only[Nj,d?];exact⟨a,d,p5,Yz h2⟩
 |q+1,.op dst g i::l,[],ps,fp,s,h=>by simp[wh]at h
 |q+1,.op dst (M g) i::l,M k::pl,ps,fp,s,h=>by simp[wh]at h
 |q+1,.call dst g f args::l,[],ps,fp,s,h=>by simp[wh]at h
 |q+1,.call dst u4 (.func k) args::l,M x::pl,ps,fp,s,h=>by
  simp only[wh,cwY,rG]at h;obtain⟨a,d,e,j,h2⟩:=h;simp only[D?,List.elem_eq_mem,R2]at a;obtain⟨a,m⟩:=a;simp only[Nj];exact⟨trivial,a,m,d,e,p5,Yz h2⟩
 |q+1,.call dst (M g) f args::l,M x::pl,ps,fp,s,h=>by simp[wh]at h
 |q+1,.call dst u4 (.tmp _) args::l,M x::pl,ps,fp,s,h=>by simp[wh]at h
 |q+1,.call dst u4 (.const _) args::l,M x::pl,ps,fp,s,h=>by simp[wh]at h
 |q+1,.call dst u4 (.global _) args::l,M x::pl,ps,fp,s,h=>by simp[wh]at h
 |q+1,.call dst u4 (.meth _ _) args::l,M x::pl,ps,fp,s,h=>by simp[wh]at h
 |q+1,.call dst (M g) f args::l,u4::pl,ps,fp,s,h=>by simp[wh]at h
 |q+1,.call dst u4 (.tmp _) args::l,u4::pl,ps,fp,s,h=>by simp[wh]at h
 |q+1,.call dst u4 (.const _) args::l,u4::pl,ps,fp,s,h=>by simp[wh]at h
 |q+1,.call dst u4 (.global _) args::l,u4::pl,ps,fp,s,h=>by simp[wh]at h
 |q+1,.call dst u4 (.meth _ _) args::l,u4::pl,ps,fp,s,h=>by simp[wh]at h
def T.ao(hm:P.follows .mixedOrders=a29) {bs:List (List Nat)}{l:List RI}{K:Exit->St->Prop}{s:St}(ps:List (List Nat)) (pl:List (Option Nat)) (a:Mt bs l q ps pl=a29) (b:uB s.m pl=a29) (h:wh P pl ps q l (K .normal) [] s):T P N (.any cuts q bs l) K s:=
 T.anyO hm ps pl a b (Yz h)
def vC:List (Option Nat)->List RI->Bool
 |none::pl,_::l=>vC pl l
 |some _::pl,.call ..::l=>vC pl l
 |[],_=>a29
 |_,_=>a30
theorem aK:∀{pl:List (Option Nat)}{l:List RI},vC pl l=a29->∀i p,pO pl i=M p->∃a b c d,l[i]?=M (.call a b c d)
 |[],l,_,i,p,h=>by grind[pO]
 |none::pl,[],h,_,_,_=>by grind[vC]
 |some _::pl,[],h,_,_,_=>by grind[vC]
 |none::pl,y::l,h,0,p,h2=>by grind[pO]
 |none::pl,y::l,h,i+1,p,h2=>by
  simp only[vC]at h;simpa using aK h i p (by grind[pO])
 |some x::pl,.call a b c d::l,h,0,p,h2=>⟨a,b,c,d,rfl⟩
 |some x::pl,.call a b c d::l,h,i+1,p,h2=>by
  simp only[vC]at h;simpa using aK h i p (by grind[pO])
 |some x::pl,.op a b c::l,h,_,_,_=>by grind[vC]
theorem T.dp(hm:P.follows .mixedOrders=a29) {l:List RI}{K:Exit->St->Prop}{s:St}(ps:List (List Nat)) (pl:List (Option Nat)) (c:ps=au q) (a:vC pl l=a29) (b:uB s.m pl=a29) (h:wh P pl ps q l (K .normal) [] s):T P N (.draw q l) K s:=by
 subst c;exact T.drawP hm (au q) pl (aK a) pG b (Yz h)
end
section
variable {P:a35} {pl:List (Option Nat)} {ps:List (List Nat)} {q k t:Nat} {b:Bool} {dst:Option Tmp} {i:I} {l:List RI} {K:St->Prop} {fp:List (List Nat)} {s:St} {st:List D} {m:List Ent} {args:List a34} {R:List (List Nat)->St->Prop} {p:List Nat} {z:D} {S:Nat} {x:a34}
theorem aw4:wh P pl ps 0 l K fp s=nf P l K s:=by simp only[wh]
theorem aZ0:wh P (M k::pl) ps (q+1) (.op dst u4 i::l) K fp s=au0 (wh P pl ps.tail q l K) fp (ps.headD []) k dst i s:=by simp only[wh]
theorem bI1:wh P (u4::pl) ps (q+1) (.op dst u4 i::l) K fp s=E5 (wh P pl ps.tail q l K) fp (ps.headD []) dst i s:=by simp only[wh]
theorem aY9:wh P (u4::pl) ps (q+1) (.op dst (M (t,b)) i::l) K fp ⟨st,m⟩=gD (st.getD t a!) b (E5 (wh P pl ps.tail q l K) fp (ps.headD []) dst i) ⟨st.set t (.v (.bool b)),m⟩ (skY (wh P pl ps.tail q l K) fp (ps.headD []) dst i) ⟨st.set t (.v (.bool (!b))),m⟩ ⟨st,m⟩:=by simp only[wh]
theorem aw5:wh P (u4::pl) ps (q+1) (.call dst u4 (.func k) args::l) K fp s=P9 P (wh P pl ps.tail q l K) fp (ps.headD []) k dst args s:=by simp only[wh]
theorem maa{x:Nat}:wh P (M x::pl) ps (q+1) (.call dst u4 (.func k) args::l) K fp s=cwY P (wh P pl ps.tail q l K) fp (ps.headD []) x k dst args s:=by simp only[wh]
theorem bL1{R:List (List Nat)->St->Prop}{p:List Nat}{x:Nat}:cwY P R fp p x k dst args s=rG P k (args.map s.ev) (yb s args) fp p x (λd e=>R (fp++[yb s args]) (({ s with m:=s.m.set x e }:St).put dst d)) s:=f'
def aW6:au0 R fp p k dst i s=(Mx fp [k] p=a29/\match Bl s k i with|some (d,e)=>R (fp++[[k]]) (({ s with m:=s.m.set k e }:St).put dst d)|none=>False):=f'
def Waa:Bl s k (.alloc S z)=(match s.m[k]? with|some (.live S' Ca [])=>if S'=S then M (.ref k (Ca+1) 0 0,.live S (Ca+1) [z])else u4|_=>u4):=f'
theorem aW8:Bl s k (.box S x)=(match s.m[k]? with|some (.live S' Ca [])=>if S'=S/\(s.ev x).ok=a29/\Wv S (s.ev x).cells=a29 then M (.ref k (Ca+1) 0 0,.live S (Ca+1) [s.ev x])else u4|_=>u4):=by simp only[vt];rfl
def aW7{n:Nat}{qs:List (Nat×a34)}:Bl s k (.bslice S n z qs)=(match s.m[k]? with|some (.live S' Ca [])=>if S'=S then(oa s S qs (h! n z)).map λl=>(.own k (Ca+1),.live S (Ca+1) l)else u4|_=>u4):=f'
end
def zo:=(ak (ak (ak (ak @aw4 @aZ0) (ak @bI1 @aY9)) (ak (ak @aw5 @maa) (ak @bL1 @aW6))) (ak (ak @Waa @aW8) @aW7))
theorem IZ{G G':Gh}{w w':a33}(b:Ν G w G' w') {d d':D}(hd:∀u,VRel G w d u->VRel G' w' d' u) {post:List D}(a:ea post=a29) :
 ∀{pre:List D} {us:List a32},ea pre=a29->VsRel G w (pre++d::post) us->VsRel G' w' (pre++d'::post) us
 |[],us,_,h=>by
  simp only[G?,VsRel]at h⊢;obtain⟨u,r,rfl,c,h2⟩:=h;exact⟨u,r,rfl,hd u c,VsRel.free b a h2⟩
 |p::pre,us,e,h=>by
  simp only[ea,D?]at e;simp only[B',VsRel]at h⊢;obtain⟨u,r,rfl,c,h2⟩:=h;exact⟨u,r,rfl,VRel.free b e.1 c,IZ b hd a e.2 h2⟩
section
variable {P:a35}
end
variable {P:a35}
def aH3(P:a35) (f:a38) (ds:List D) (m:List Ent) (R:D->List Ent->Prop):Prop:=
 P' P f/\∀(G:Gh) (w:a33) (vs:List a32),VsRel G w ds vs->Inv G w m->
  Calls P f vs.toArray w λe w'=>∃v d m' G',e=.returned v/\R d m'/\VRel G' w' d v/\Inv G' w' m'/\x' 0 G w m G' w' m'
theorem I9{f:a38}{ds:List D}(g:cu P f=M F) (hname:((P.funcs[f]?).map λfn=>fn.name == "runtime.NumGoroutine")=M a30)
 (h:T P 0 F.code (Um F.results R) ⟨ds++h! (F.ntmps-ds.length) a!,m⟩):aH3 P f ds m R:=by
 unfold cu at g;split at g
 .rename_i fn i;split at g
  .rename_i b r hb k;simp only[A!]at g;obtain⟨c,hc,rfl⟩:=g;refine⟨⟨fn,i,p5,p5⟩,λG w vs hv hi=>?_⟩;refine calls_of_wp i hb ?_;have j:=hv.length;have hr:p! G w { tmps:=vs.toArray++Array.replicate (fn.ntmps-vs.toArray.size) undef,defers:=[] } ⟨ds++h! (fn.ntmps-ds.length) a!,m⟩:=by
    refine⟨?_,hi,rfl⟩;simp only[Array.toList_append,Array.toList_replicate,List.size_toArray,j];exact hv.append (yP _ _ _)
   refine Code.wp_mono ?_ (h b hc G w _ (Q? _) hr);rintro e a' w' ⟨s',G',n,a,p⟩;have fin:(∃ds,qa s' r=M ds/\R (ig ds) s'.m)->a'.defers=[]/\∃v,(results fn a'.tmps).run P w'=.ok v w'/\∃v_1 d m' G',Ending.returned v=.returned v_1/\R d m'/\VRel G' w' d v_1/\Inv G' w' m'/\x' 0 G w m G' w' m':=by
    rintro⟨es,o,s⟩;obtain⟨v,l,q⟩:=YG (F:=⟨fn.ntmps,r,c⟩) k a o;exact⟨a.defers,v,l,v,_,_,G',rfl,s,q,a.inv,p⟩
   cases e with
   |normal=>exact fin n
   |ret=>exact fin n
   |_=>exact n.elim
  simp_all
 simp_all
theorem aW3{S:Nat}{l:List D}{o:D}
 (q:m[id]?=M (.live S Ca l)) (I:ea pre=a29) (z:ea post=a29) (hl:ea l=a29)
 (h:aH3 P k (pre++.own 0 0::post) [.live S 0 l] λd m'=>t! [] m' [d] [o]) :
 CallT P k (pre++.own id Ca::post) m λd m'=>d=o/\m'=m.set id .gone:=by
 refine⟨h.1,λG w vs hv hi=>?_⟩;have hlen:id<m.length:=(Τ.1 q).1;obtain⟨eV,eS,eN,eC,eB⟩:=hi.ent id _ q;have E:Ν G w ⟨G.F,1,λ_=>G.B id,λ_=>0,λ_=>G.S id,λ_=>G.N id,λ_=>G.C id⟩ w:=⟨λ_ h=>h,λ_ _=>rfl⟩;have o0:=IZ E (d:=.own id Ca) (d':=.own 0 0) (λu hu=>by
  simp only[VRel]at hu⊢
  grind) z I hv
 have O:Inv ⟨G.F,1,λ_=>G.B id,λ_=>0,λ_=>G.S id,λ_=>G.N id,λ_=>G.C id⟩ w [.live S 0 l]:=by
  refine⟨rfl,hi.F,?_,?_,hi.gl.bare λ_ h=>h⟩
  .intro i e he
   cases i with
   |zero=>
    simp at he;subst he;refine⟨rfl,eS,eN,eC,?_⟩;rcases eB with h|⟨b,cs,T,g,h2,L,W,Z⟩
    .simp_all
    .exact .inr ⟨b,cs,T,g,h2,L,W,Va.free E rfl hl Z⟩
   |succ i=>simp at he
  grind
 have c:∀b,Oc ⟨G.F,1,λ_=>G.B id,λ_=>0,λ_=>G.S id,λ_=>G.N id,λ_=>G.C id⟩ [.live S 0 l] b->G.B id=M b:=by
  rintro b ⟨i,e,he,-,o4⟩;omega
 refine(h.2 _ w vs o0 O).mono ?_;rintro e w' ⟨v,d,m',G',rfl,X,hvd,t,a⟩;have live1:(Ent.live S Ca l).isLive=a29:=rfl;have Y:=(X.rel t (λi j v h=>s5)).1 [v] (by simp only[VsRel];simp_all);simp only[VsRel]at Y;obtain⟨u,us,he,g,_⟩:=Y;injection he with he _;subst he;have s:=AK X;simp only[ea,Y']at s;have H:Le G w ⟨λb=>G'.F b\/Oc G' m' b,G.n,G.B,G.V,G.S,G.N,G.C⟩ w':=by
  refine⟨λb hb=>.inl (a.F b hb),λb hb=>a.heap b hb,A' _,λi _=>.inl p6⟩
 have A:∀i x,m[i]?=M x->x.isLive=a29->∀b,G.B i=M b->b<w.heap.size/\¬G.F b:=λi x hx hl b hb=>(hi.ent i x hx).lt hl hb;have notO:∀i x,m[i]?=M x->x.isLive=a29->i≠id->∀b,G.B i=M b->G.B id≠M b:=λi x hx f Q b hb o4=>Q (hi.apart i id x _ hx q f live1 b hb o4);have p:∀i x,(m.set id .gone)[i]?=M x->(m[i]?=M x/\i≠id)\/(i=id/\x=.gone):=by
  grind
 refine⟨v,o,_,⟨λb=>G'.F b\/Oc G' m' b,G.n,G.B,G.V,G.S,G.N,G.C⟩,rfl,⟨rfl,rfl⟩,?_,⟨by simp[hi.n],?_,?_,?_,t.gl.bare λ_ h=>.inl h⟩,⟨H,a.os,a.tape,a.output,a.size,?_,?_,?_⟩⟩
 .refine VRel.free (G:=Fb G' m' []) ⟨?_,λ_ _=>rfl⟩ s g;rintro b (hb|⟨hb,_⟩)
  all_goals simp_all
 .rintro b (hb|hb)
  .exact t.F b hb
  .exact(Oc.lt t hb).1
 .intro i x hx;rcases p i x hx with⟨g,h2⟩|⟨rfl,rfl⟩
  .by_cases f:x.isLive=a29
   .refine(hi.ent i x g).mono H p6 (λb hb=>?_) (λb hb _ r=>?_)
    .exact a.keep b (A i x g f b hb).1 λho=>notO i x g f h2 b hb (c b ho)
    .rcases r with r|r
     .rcases a.newF b (A i x g f b hb).1 r with h|h
      all_goals grind
     .exact(notO i x g f h2 b hb (c b (a.newB b (A i x g f b hb).1 r))).elim
   .cases x with
    |gone=>trivial
    |_=>grind[Ent.isLive]
  .trivial
 .intro i j x y hx hy K ly b hb n6;rcases p i x hx with⟨g,h2⟩|⟨rfl,rfl⟩
  .rcases p j y hy with⟨L,W⟩|⟨rfl,rfl⟩
   .exact hi.apart i j x y g L K ly b hb n6
   grind
  grind
 .intro b hb R;exact a.keep b hb λho=>R ⟨id,_,q,live1,c b ho⟩
 .intro b hb r;rcases r with r|r
  .rcases a.newF b hb r with h|h
   .simp_all
   .exact .inr ⟨id,_,q,live1,c b h⟩
  .exact .inr ⟨id,_,q,live1,c b (a.newB b hb r)⟩
 .rintro b hb ⟨i,x,hx,K,o4⟩;rcases p i x hx with⟨g,h2⟩|⟨rfl,rfl⟩
  .exact⟨i,x,g,K,o4⟩
  .cases K
def kI(P:a35) (k:Nat) (pre post:List D) (S:Nat) (l:List D) (o:D):Prop:=∀m id Ca,m[id]?=M (.live S Ca l)->CallT P k (pre++.own id Ca::post) m λd m'=>d=o/\m'=m.set id .gone
def B8(P:a35) (k:Nat) (pre post:List D) (S:Nat) (l l':List D) (o:D):Prop:=∀m id Ca,m[id]?=M (.live S Ca l)->CallT P k (pre++.own id Ca::post) m λd m'=>d=o/\m'=m.set id (.live S Ca l')
theorem kI.at{S:Nat}{l:List D}{o:D}(n:Nat) (j:cu P k=M F) (b:((P.funcs[k]?).map λfn=>fn.name == "runtime.NumGoroutine")=M a30)
 (f:ea pre=a29) (c:ea post=a29) (hl:ea l=a29) (hn:F.ntmps=(pre++.own 0 0::post).length+n)
 (h:T P 0 F.code (Fx F.results o) ⟨(pre++.own 0 0::post)++Tm.ds n [],[.live S 0 l]⟩):kI P k pre post S l o:=by
 intro m id Ca hm;refine aW3 hm f c hl (I9 j b ?_);rw[hn,Nat.add_sub_cancel_left,←DF];refine T.K7 (h.mono ?_);have key:∀(e:Exit) (s:St),(∀s',Um F.results (λd m'=>t! [] m' [d] [o]) e s' = ∃ds,qa s' F.results=M ds/\t! [] s'.m [ig ds] [o])->(∃S,i! 0 s S/\∃ds,qa S F.results=M ds/\t! [] S.m [ig ds] [o])->EP 0 (Um F.results λd m'=>t! [] m' [d] [o]) e s:=by
  intro e s he ⟨S,i,h2⟩ G w a hN hr;obtain⟨G',h3,h4⟩:=It i hN hr
  grind
 intro e s g
 cases e with
 |normal=>exact key _ s (λ_=>rfl) g
 |ret=>exact key _ s (λ_=>rfl) g
 |_=>exact(g:False).elim
theorem rX{S:Nat}{l ds:List D}{o:D}(h:kI P k pre post S l o) (a:ds=pre++.own id Ca::post) (hm:m[id]?=M (.live S Ca l)) (hf:f o (m.set id .gone)):Ae P k ds m f:=by
 subst a;exact La (h m id Ca hm) hf
theorem ax6{S:Nat}{l l' ds:List D}{o:D}(h:B8 P k pre post S l l' o) (a:ds=pre++.own id Ca::post) (hm:m[id]?=M (.live S Ca l)) (hf:f o (m.set id (.live S Ca l'))):Ae P k ds m f:=by
 subst a;exact La (h m id Ca hm) hf
theorem vM{v:a32}(a:P' P k) (h:∀w,Calls P k vs.toArray w λe w'=>e=.returned v/\w'=w):k! P k (vs.map .v) (.v v):=by
 refine λm=>⟨a,λG w us hv hi=>?_⟩;have:∀(vs us:List a32),VsRel G w (vs.map .v) us->us=vs:=by
  intro vs
  induction vs with
  |nil=>intro us h;simpa [VsRel] using h
  |cons x l ih=>
   intro us h;simp only[w?,VsRel,VRel]at h
   grind
 obtain rfl:=this vs us hv;refine(h w).mono ?_;rintro e w' ⟨rfl,rfl⟩;exact⟨_,_,_,G,rfl,⟨rfl,rfl⟩,Q!,hi,Step.refl _ _ _⟩
open Go.Sort
variable {P:a35}
def eI(n:Int):D:=.v (.int b! n)
theorem sK{G:Gh}{w:a33}{b:Nat}:∀{zs:List Int}{off:Nat},Va G w b 1 (zs.map eI) off->∀j (h:j<zs.length),w.cell? ⟨b,off+j,u4⟩=M (.int b! zs[j])
 |[],_,_,j,h=>absurd h (daj j)
 |z::zs,off,hr,j,h=>by
  simp only[w?,Va]at hr;obtain⟨⟨u,a,h2,c⟩,d⟩:=hr;simp only[eI,VRel]at a;subst a
  cases j with
  |zero=>exact(c 0 (.int b! z) rfl).2
  |succ j=>
   have:=sK d j p5
   grind
theorem sW{G:Gh}{w:a33}{b:Nat}:∀{zs:List Int}{off:Nat},(∀j (h:j<zs.length),w.cell? ⟨b,off+j,u4⟩=M (.int b! zs[j]))->Va G w b 1 (zs.map eI) off
 |[],_,_=>by simp[Va]
 |z::zs,off,hr=>by
  simp only[w?,Va];refine⟨⟨.int b! z,by simp[eI,VRel],rfl,?_⟩,sW λj h=>?_⟩
  .intro j c hc
   cases j with
   |zero=>
    have:c=.int b! z:=by grind[Value.cells]
    subst this;exact⟨rfl,hr 0 (Bai _)⟩
   |succ j=>grind[Value.cells]
  .have:=hr (j+1) p5
   grind
theorem aa3{b:Nat}{T:a36}{zs:List Int}(hb:w.heap[b]?=M (.cells cs T (0,0))) (h:∀j (h:j<zs.length),w.cell? ⟨b,off+j,u4⟩=M (.int b! zs[j])):Holds (Value.int b!) w b off zs.toArray:=by
 intro j hj
 grind[World.frozen?]
theorem jZ{b:Nat}{T:a36}{n:Nat}{os:Array Obj}(hb:w.heap[b]?=M (.cells cs T (0,0))) (hlen:off+ys.length<=cs.size) (hw:w'=grow (putRow (Value.int b!) (Sort.ahead w n) b off ys.toArray) os) :
 w'.os=w.os/\w'.tape=w.tape/\w'.output=w.output/\w.heap.size<=w'.heap.size/\(∀k,k<w.heap.size->k≠b->w'.heap[k]?=w.heap[k]?)/\
  w'.heap[b]?=M (.cells (putCells (Value.int b!) off ys.toArray cs) T (0,0))/\∀j (h:j<ys.length),w'.cell? ⟨b,off+j,u4⟩=M (.int b! ys[j]):=by
 subst hw;have hbs:b<w.heap.size:=by
  grind
 have a:(grow (putRow (Value.int b!) (Sort.ahead w n) b off ys.toArray) os).heap=w.heap.modify b (onCells (putCells (Value.int b!) off ys.toArray))++os:=rfl;have c:(grow (putRow (Value.int b!) (Sort.ahead w n) b off ys.toArray) os).heap[b]?=M (.cells (putCells (Value.int b!) off ys.toArray cs) T (0,0)):=by
  rw[a,Array.getElem?_append_left p5,Array.getElem?_modify,J rfl,hb];rfl
 refine⟨rfl,rfl,rfl,?_,?_,c,?_⟩
 all_goals grind[World.cell?,putCells]
theorem IU{k:a38}(s:P' P k) {zs:List Int}(hm:m[id]?=M (.live 1 Ca (zs.map eI))) (hlen:ys.length=zs.length)
 (p:∀w b off cap,Holds (Value.int b!) w b off zs.toArray->b<w.heap.size->Calls P k #[.slice (M ⟨b,off,u4⟩) zs.length cap] w λe w'=>e=.returned (.tuple #[])/\∃n os,w'=grow (putRow (Value.int b!) (Sort.ahead w n) b off ys.toArray) os)
 (o:∀w cap,Calls P k #[.slice u4 0 cap] w λe w'=>e=.returned (.tuple #[])/\w'=w) :
 CallT P k [.own id Ca] m λd m'=>d=.tup []/\m'=m.set id (.live 1 Ca (ys.map eI)):=by
 refine⟨s,λG w vs hv hi=>?_⟩;obtain⟨eV,eS,eN,eC,eB⟩:=hi.ent id _ hm;simp only[VsRel,VRel]at hv;obtain⟨u,r,rfl,⟨a,n,c,rfl,g1,g2,g3⟩,rfl⟩:=hv;obtain⟨rfl,rfl,rfl⟩:=g3 eV;simp only[Kaf]at eN eC;rcases eB with⟨f,q⟩|⟨b,cs,T,f,t,hb,hc,hr⟩
 .have g:=congrArg vaj q;dsimp only at g;have x:zs=[]:=vaf U;have v:ys=[]:=vaf U;subst x v;rw[f,eN];refine(o w _).mono ?_;rintro e w' ⟨rfl,rfl⟩;refine⟨_,_,_,G,rfl,⟨rfl,rfl⟩,by simp[VRel,VsRel],?_,?_⟩
  .have:m.set id (.live 1 Ca (([]:List Int).map eI))=m:=by
    apply bah
    grind
   simp_all
  .have:m.set id (.live 1 Ca (([]:List Int).map eI))=m:=by
    apply bah
    grind
   grind[Step.refl]
 .rw[f,eN];have i:b<w.heap.size:=by
   grind
  refine(p w b _ _ (aa3 hb (sK hr)) i).mono ?_;rintro e w' ⟨rfl,n,os,hw⟩;obtain⟨y,z,A,D,E,F,p7⟩:=jZ hb U hw;have l:=Gg (w':=w') hi hm rfl (e':=.live 1 Ca (ys.map eI)) rfl (G.B id) Ca (G.N id) (G.C id) (.inr ⟨eV.symm,rfl,rfl,rfl⟩) y z A D
   (λk hk j=>E k hk (λh=>j (by rw[f,h]))) (λk hk=>.inl hk) (by
    refine⟨by simp[Gh.Xb],by grind[Gh.Xb],by grind[Gh.Xb],by grind[Gh.Xb],.inr ⟨b,_,T,by grind[Gh.Xb],t,F,?_,sW (by grind[Gh.Xb])⟩⟩
    grind[Gh.Xb,putCells])
  exact⟨_,_,_,_,rfl,⟨rfl,rfl⟩,by simp[VRel,VsRel],l.1,l.2⟩
theorem HU{k:a38}(s:P' P k) {zs:List Int}(hm:m[id]?=M (.live 1 Ca (zs.map eI))) (hlen:ys.length<=zs.length)
 (p:∀w b off cap,Holds (Value.int b!) w b off zs.toArray->zs.length<=cap->Calls P k #[.slice (M ⟨b,off,u4⟩) zs.length cap] w λe w'=>e=.returned (.slice (M ⟨b,off,u4⟩) ys.length cap)/\∃n xs,xs.length+ys.length=zs.length/\w'=grow (putRow (Value.int b!) (Sort.ahead w n) b off (ys++xs).toArray) #[])
 (o:∀w cap,Calls P k #[.slice u4 0 cap] w λe w'=>e=.returned (.slice u4 0 cap)/\w'=w) :
 CallT P k [.own id Ca] m λd m'=>d=.own id (Ca+1)/\m'=m.set id (.live 1 (Ca+1) (ys.map eI)):=by
 refine⟨s,λG w vs hv hi=>?_⟩;obtain⟨eV,eS,eN,eC,eB⟩:=hi.ent id _ hm;simp only[VsRel,VRel]at hv;obtain⟨u,r,rfl,⟨a,n,c,rfl,g1,g2,g3⟩,rfl⟩:=hv;obtain⟨rfl,rfl,rfl⟩:=g3 eV;simp only[Kaf]at eN eC;rcases eB with⟨i,q⟩|⟨b,cs,T,i,t,hb,hc,hr⟩
 .have l:=congrArg vaj q;dsimp only at l;have x:zs=[]:=vaf U;have v:ys=[]:=vaf U;subst x v;rw[i,eN];refine(o w _).mono ?_;rintro e w' ⟨rfl,rfl⟩;have f:=Gg (w':=w') hi hm rfl (e':=.live 1 (Ca+1) (([]:List Int).map eI)) rfl u4 (Ca+1) 0 (G.C id) (.inl U) rfl rfl rfl (A' _)
   (λk hk g=>rfl) (λk hk=>s5) (by
    refine⟨by simp[Gh.Xb],by grind[Gh.Xb],by simp[Gh.Xb],p6,.inl ⟨by simp[Gh.Xb],by grind[Gh.Xb]⟩⟩)
  refine⟨_,_,_,_,rfl,⟨rfl,rfl⟩,?_,f.1,f.2⟩;simp only[VRel];exact⟨_,_,_,rfl,g1,by simp[Gh.Xb],λ_=>by simp[Gh.Xb]⟩
 .rw[i,eN];refine(p w b _ _ (aa3 hb (sK hr)) eC).mono ?_;rintro e w' ⟨rfl,n,xs,hx,hw⟩;obtain⟨y,z,A,D,E,F,p7⟩:=jZ hb s5 hw;have f:=Gg (w':=w') hi hm rfl (e':=.live 1 (Ca+1) (ys.map eI)) rfl (G.B id) (Ca+1) ys.length (G.C id) (.inl U) y z A D
   (λk hk g=>E k hk (λh=>g (by rw[i,h]))) (λk hk=>.inl hk) (by
    refine⟨by simp[Gh.Xb],by grind[Gh.Xb],by simp[Gh.Xb],by grind[Gh.Xb],.inr ⟨b,_,T,by grind[Gh.Xb],t,F,?_,sW λj h=>?_⟩⟩
    all_goals grind[Gh.Xb,putCells])
  refine⟨_,_,_,_,rfl,⟨rfl,rfl⟩,?_,f.1,f.2⟩;simp only[VRel];exact⟨_,_,_,rfl,g1,by simp[Gh.Xb],λ_=>by grind[Gh.Xb]⟩
def iaa{k:a38}(f:P' P k) {zs:List Int}(a:ys.length=zs.length)
 (d:∀w b off cap,Holds (Value.int b!) w b off zs.toArray->b<w.heap.size->Calls P k #[.slice (M ⟨b,off,u4⟩) zs.length cap] w λe w'=>e=.returned (.tuple #[])/\∃n os,w'=grow (putRow (Value.int b!) (Sort.ahead w n) b off ys.toArray) os)
 (c:∀w cap,Calls P k #[.slice u4 0 cap] w λe w'=>e=.returned (.tuple #[])/\w'=w):B8 P k [] [] 1 (zs.map eI) (ys.map eI) (.tup []):=
 λm id Ca hm=>IU f hm a d c
variable {P:a35} {N:Nat}
theorem bk3{e:Exit}{s:St}(h:ng K e s):K e s:=by
 cases e<;>first|exact h|exact h.elim
theorem VsRel.swap{l:List D}{us:List a32}{d:D}{u:a32}(h:VsRel G w l us) (hu:us.getD i undef=u) (hi:i<l.length) (hd:VRel G w d u):VsRel G w (l.set i d) us:=by
 have:=h.set hd i;have hlen:=h.length;have he:us.set i u=us:=by
  apply bah
  grind
 simp_all
theorem T.Mp{i j d S:Nat}{l:List D}{neg:Bool}{s:St}{K:Exit->St->Prop}(B:s.t[i]?=M (.sl S l)) (hl:ea l=a29) (hj:j<s.t.length) (hij:i≠j) (hjd:j≠d) (hid:i≠d)
 (h:∀b,(l≠[]->b=neg)->K .normal ⟨(s.t.set j (.sl S l)).set d (.v (.bool b)),s.m⟩) :
 T P N (.vD [.op (M j) u4 (.mv (.tmp i)),.op (M d) u4 (.Mp neg (.tmp j))]) K s:=by
 intro code hc G w a hN hr;have hi:i<s.t.length:=(Τ.1 B).1;obtain⟨u,hu,hv⟩:=hr.t.getElem B;have q:=hv;simp only[VRel]at q;obtain⟨p,n,c,rfl,hn,hnc,A⟩:=q;have x:a.tmps.toList.getD i undef=.slice p n c:=p5
 have z:p! G w a ⟨s.t.set i (.v (.slice p n c)),s.m⟩:=⟨hr.t.swap x hi Q!,hr.inv,hr.defers⟩;have C:T P N (.vD [.op (M j) u4 (.mv (.tmp i)),.op (M d) u4 (.Mp neg (.tmp j))]) (λe s'=>e=.normal/\s'=⟨((s.t.set i (.v (.slice p n c))).set j (.v (.slice p n c))).set d (.v (.bool (p.isNone !=neg))),s.m⟩) ⟨s.t.set i (.v (.slice p n c)),s.m⟩:=by
  refine T.vD ?_;have e1:((s.t.set i (.v (.slice p n c))).getD i a!)=.v (.slice p n c):=p5
  have e2:((s.t.set i (.v (.slice p n c))).set j (.v (.slice p n c))).getD j a!=.v (.slice p n c):=by
   simp_all
  simp only[Wf,d?,ba,St.ev,e1,e2,St.put,M?,F!,exists_and_left,exists_eq_left',and_assoc,aaD]
 refine Code.wp_mono ?_ (C code hc G w a hN z);rintro e a' w' ⟨s',G',y,h2,r⟩;obtain⟨rfl,rfl⟩:=bk3 y;have o:VRel G' w' (.sl S l) (.slice p n c):=VRel.free ⟨r.F,r.heap⟩ (by grind[sa]) hv;refine⟨⟨(s.t.set j (.sl S l)).set d (.v (.bool (p.isNone !=neg))),s.m⟩,G',h _ ?_,⟨?_,h2.inv,h2.defers⟩,r⟩
 .intro hne;rcases A with A|⟨b,off,rfl,-⟩
  all_goals simp_all
 .have f:=h2.t;have g:∀k,(((s.t.set i (.v (.slice p n c))).set j (.v (.slice p n c))).set d (.v (.bool (p.isNone !=neg))))[k]?=M (.v (.slice p n c))->a'.tmps.toList.getD k undef=.slice p n c:=by
   intro k hk;obtain⟨u,h1,h2⟩:=f.getElem hk;simp only[VRel]at h2
   simp_all
  have gi:=g i s5;have gj:=g j s5;have E:=f.swap gi p5 o;have k2:=E.swap gj p5 o;have:((((s.t.set i (.v (.slice p n c))).set j (.v (.slice p n c))).set d (.v (.bool (p.isNone !=neg)))).set i (.sl S l)).set j (.sl S l)=(s.t.set j (.sl S l)).set d (.v (.bool (p.isNone !=neg))):=by
   apply bah
   grind
  simp_all
theorem ah2{n:Nat}{d:D}(h:sa d=a29):Sq ρ m (n+1) d d:=by
 cases d with
 |v x=>exact rfl
 |agg a=>exact .inl ⟨rfl,by grind[sa]⟩
 |tup a=>exact .inl ⟨rfl,by grind[sa]⟩
 |sl S a=>exact⟨rfl,.inl ⟨rfl,by grind[sa]⟩⟩
 |pt d=>exact .inl ⟨rfl,by grind[sa]⟩
 |fn f a c=>
  simp only[sa,D?]at h;exact⟨rfl,.inl ⟨rfl,h.1⟩,.inl ⟨rfl,h.2⟩⟩
 |dead=>exact trivial
 |ifc t d=>exact⟨rfl,.inl ⟨rfl,by grind[sa]⟩⟩
 |own=>grind[sa]
 |ref=>grind[sa]
 |view=>grind[sa]
 |mp=>grind[sa]
variable {P:a35}
def aZ5(E:List (Nat×List Nat)) (P:a35) (ops:Array Oper) (o:Oper) (op:Op):Option I:=
 match op with
 |.binOp b t x y _=>
  match E.lookup t with
  |some ks=>M (.ceq (D1 (b=.neq)) ks x y)
  |none=>Rs P ops o op
 |_=>Rs P ops o op
def ax2(E:List (Nat×List Nat)) (P:a35) (ops:Array Oper) (o:Oper):Option RI:=
 match W! ops o.guard with
 |none=>u4
 |some g=>
  match iO P o.op with
  |some (f,args)=>M (.call o.dst g f args)
  |none=>(aZ5 E P ops o o.op).map λi=>.op o.dst g i
def HI(E:List (Nat×List Nat)) (P:a35) (ops:Array Oper):List Oper->Option (List RI)
 |[]=>M []
 |o::l=>
  match ax2 E P ops o,HI E P ops l with
  |some r,M rs=>M (r::rs)
  |_,_=>u4
def Vz(E:List (Nat×List Nat)) (P:a35):Code->Option C
 |.skip=>M .skip
 |.region _ ops a30=>(HI E P ops ops.toList).map .vD
 |.region _ ops a29=>
  match HI E P ops ops.toList with
  |some rl=>
   if CF (Ib ops) rl (qOf (Ib ops) rl.length)=a29 then M (.draw (qOf (Ib ops) rl.length) rl)
   else M (.any (QU (Ib ops) rl.length (qOf (Ib ops) rl.length)) (qOf (Ib ops) rl.length) (Ib ops) rl)
  |none=>u4
 |.seq a b=>
  match Vz E P a,Vz E P b with
  |some x,M y=>M (.seq x y)
  |_,_=>u4
 |.cond c a b=>
  match Vz E P a,Vz E P b with
  |some x,M y=>M (.cond c x y)
  |_,_=>u4
 |.block id a=>(Vz E P a).map (.block id)
 |.loop a=>(Vz E P a).map .loop
 |.scope a=>Vz E P a
 |.exit id=>M (.exit id)
 |.ret=>M .ret
 |.label _=>M .skip
 |.rangeFunc ..=>M .stuck
 |_=>u4
def aZ6(E:List (Nat×List Nat)) (P:a35) (f:a38):Option S?:=
 match P.funcs[f]? with
 |some fn=>
  match fn.body,Iy P fn.results.toList with
  |some b,M r=>(Vz E P b).map λc=>⟨fn.ntmps,r,c⟩
  |_,_=>u4
 |none=>u4
theorem u8l{n:Nat}{h:n<2 ^ 8}:(⟨⟨⟨n,h⟩⟩⟩:UInt8)=UInt8.ofNat n:=by
 apply UInt8.toBitVec_inj.1;simp only[BitVec.ofFin_eq_ofNat];rfl
def arl{l:List UInt8}:(⟨l⟩:Array UInt8)=l.toArray:=rfl
structure Kf (P:a35) (n:Nat) where
 F:S?
 ok:cu P n=M F
 nm:((P.funcs[n]?).map λfn=>fn.name == "runtime.NumGoroutine")=M a30
variable {n:Nat}
def Kf.o{P:a35}(K:Kf P n):cu P n=M K.F/\((P.funcs[n]?).map λfn=>fn.name == "runtime.NumGoroutine")=M a30:=⟨K.ok,K.nm⟩
abbrev Kf.of(E:List (Nat×List Nat)) {P:a35}{n:Nat}{F:S?}(_:aZ6 E P n=M F:=by conv=>lhs;reduce;try simp only[Int.reduceOfNat,Int.reduceNegSucc,u8l,arl,UInt8.reduceOfNat]) (ok:cu P n=M F:=by kernel_rfl) (nm:((P.funcs[n]?).map λfn=>fn.name == "runtime.NumGoroutine")=M a30:=by kernel_rfl):Kf P n:=⟨F,ok,nm⟩
def ss:type_of% @T.kl:=@T.kl
def rg:type_of% @T.rg:=@T.rg
def sr:type_of% @T.sr:=@T.sr
def cd:type_of% @T.cd:=@T.cd
def bk:type_of% @T.bk:=@T.bk
def sk:type_of% @T.skip:=@T.skip
def xt:type_of% @T.exit:=@T.exit
def ay:type_of% @T.ay:=@T.ay
def dy:type_of% @T.dy:=@T.dy
def ao:type_of% @T.ao:=@T.ao
def tl:type_of% @T.QK:=@T.QK
def cq:type_of% @BH:=@BH
def lq:type_of% @gO:=@gO
def bs:type_of% @Uj:=@Uj
def lc:type_of% @T.Hab:=@T.Hab
def tj:type_of% @T.join:=@T.join
def lv:type_of% @AI:=@AI
def cv:type_of% @CI:=@CI
section
variable {P:a35} {N:Nat}
theorem jn{a b:C}{s:St} [T? N K] (S:X->St) {o:Option X}{f:X->Option β}{r:β}(h:o.bind f=M r) (ha:∀z,o=M z->Tm.T P N a (KJ N K S (.inl z:X⊕Unit)) s) (hb:∀z,o=M z->f z=M r->Tm.T P N b K (S z)):Tm.T P N (.seq a b) K s:=by
 obtain⟨z,c,h2⟩:=Uj h;refine T.join (R:=Unit) S (.inl z) (ha z c) ?_;rintro _ ⟨⟩;exact hb z c h2
theorem gi{q Y N:Prop} [Decidable q] {α:Type}{A B:Option α}{r:α}(h:(if q then A else B)=M r) (b:q->A=M r->Y) (h2:¬q->B=M r->N) (a:p=q:=by rfl):gP p Y N:=gP.ite h (iff_of_eq a) b h2
def rt:type_of% @T.ret:=@T.ret
def er:type_of% @Bq:=@Bq
end
def eT{α:Type} [BEq α] [LawfulBEq α] {a b:α}(h:a=b):(a==b)=a29:=beq_iff_eq.2 h
def eF{α:Type} [BEq α] [LawfulBEq α] {a b:α}(h:¬a=b):(a==b)=a30:=beq_eq_false_iff_ne.2 h
def eD{α:Type} [BEq α] [LawfulBEq α] {a b:α}(h:¬ ¬a=b):(a==b)=a29:=beq_iff_eq.2 (E!.1 h)
def nT{α:Type} [BEq α] [LawfulBEq α] {a b:α}(h:¬a=b):(a !=b)=a29:=bne_iff_ne.2 h
theorem nF{α:Type} [BEq α] [LawfulBEq α] {a b:α}(h:a=b):(a !=b)=a30:=by simpa using h
def nD{α:Type} [BEq α] [LawfulBEq α] {a b:α}(h:¬ ¬a=b):(a !=b)=a30:=nF (E!.1 h)
theorem bI{α:Type}{l:List α}{i:Int}{g:α->Option β}{r:β}(h:(e! l i).bind g=M r):∃x,0<=i/\l[i.toNat]?=M x/\g x=M r:=by
 obtain⟨x,a,h2⟩:=Uj h;obtain⟨b,c⟩:=bD7 a;exact⟨x,b,c,h2⟩
theorem bO{α:Type}{l:List α}{i:Int}{g:α->Option β}{r:β}(h:(e! l i).bind g=M r):∃x,0<=i/\l[i.toNat]?=M x/\i.toNat<l.length/\g x=M r:=by
 obtain⟨x,a,h2⟩:=Uj h;obtain⟨b,c,d⟩:=bD6 a;exact⟨x,b,c,d,h2⟩
section
variable {P:a35} {N:Nat}
def jm{a b:C}{s:St} [T? N K] {o:Option X}{f:X->Option β}{r:β}(h:o.bind f=M r) (S:X->St) (ha:∀z,o=M z->Tm.T P N a (KJ N K S (.inl z:X⊕Unit)) s) (hb:∀z,o=M z->f z=M r->Tm.T P N b K (S z)):Tm.T P N (.seq a b) K s:=jn S h ha hb
def lm{ρ:Type}[hst:T? N K] {x:C}{s:St}{step:σ->Option (Ex σ β ρ)}{x0:σ}{y:β⊕ρ}(d:Tm.ja step x0=M y) (S:σ->St) (B:β->St) (c:i! N s (S x0))
 (round:∀a z,step a=M z->(∀v,z=.ret v->y=.inr v)->Tm.T P N x (KL N id K S B z) (S a))
 (rest:∀b,y=.inl b->K .normal (B b)):Tm.T P N (.block id (.loop x)) K s:=T.Hab S B step x0 d c round rest
end
abbrev ok(i:Nat):Option Nat×Nat×Nat:=(M i,0,0)
abbrev ov(i v:Nat):Option Nat×Nat×Nat:=(M i,v,0)
abbrev on(S:Nat):Option Nat×Nat×Nat:=(u4,S,0)
theorem tq{N:Nat}(ρ:Wq) {s:St}(h:lC (Sq ρ s.m 9) s.t S.t/\qF ρ s.m ρ S.m) (hk:pz ρ N=a29:=by rfl) (a:(ρ.filterMap (·.1)).Nodup:=by decide):i! N s S:=i!.q ρ hk a h
def fq:type_of% @GG:=@GG
def zr:type_of% (ak (ak @Wo @eg) (ak @fg @re)):=ak (ak @Wo @eg) (ak @fg @re)
class Ξ (l:List D):Prop where
 h:ea l=a29
instance:Ξ []:=⟨rfl⟩
instance {α:Type}{e:α->D} [Fr e] {x:α}{l:List D} [Ξ l]:Ξ (e x::l):=⟨gH Ξ.h⟩
theorem dk{P:a35}{l:List D}{o:D}(n:Nat) (K:Kf P k) (h:T P 0 K.F.code (Fx K.F.results o) ⟨l++Tm.ds n [],[]⟩) (hf:ea l=a29:=by exact Ξ.h) (hn:K.F.ntmps=l.length+n:=by rfl):k! P k l o:=k!.at n K.ok K.nm hf hn h
end Go.Tm
