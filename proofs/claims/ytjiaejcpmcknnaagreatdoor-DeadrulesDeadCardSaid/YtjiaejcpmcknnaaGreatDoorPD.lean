/-
  The functions as plain partial functions, and plain lemmas about them: no condition.
-/
import Derived.Test.YtjiaejcpmcknnaaGreatDoorPC
import Derived.Test.YtjiaejcpmcknnaaGreatDoorPB
import Derived.KernelRfl
import Derived.Test.YtjiaejcpmcknnaaGreatDoorPA
open Bool renaming and_eq_true->paa,eq_false_iff->pab
open ByteArray renaming mk->iaa
open Classical renaming not_not->xaa
open Int renaming natCast_zero->Uac,reduceEq->naa
open List renaming filter_append->rab,foldl_cons->sab,getElem?_append_left->Bab,getElem?_eq_getElem->faa,getElem?_eq_some_iff->Haa,getElem_mem->laa,getElem_of_mem->Daa,length_append->Oaa,length_cons->Jaa,length_singleton->Yaa,map_append->nab,map_nil->Wab,mem_append->tab,mem_cons->oab,mem_map->hac,mem_of_getElem?->Eaa,mem_singleton->uab,range->yaa,range_succ->Tab,range_zero->Iad,replicate->jaa
open Nat renaming le_refl->saa
open Option renaming bind->eaa,bind_some->daa
open Option.some renaming inj->Iaa,injEq->Laa
set_option linter.all false
set_option maxRecDepth 10000
set_option maxHeartbeats 1000000
namespace Go.Proofs.Dev
open Go Go.Tm
def uI(n:Nat) (x:Int):Prop:=x = -1\/x = -2\/(0<=x/\x<(n:Int))
theorem fQ{t1:List Int}{out:Int->Int}{l:List Int}{n:Nat}(h:∀x∈l,uI n (out x)):uI n (xH t1 out l):=by
 unfold xH;have hs:=Tt (t1:=t1) (out:=out) (l:=l);split
 .exact .inl rfl
 .simp_all
 .exact .inr (.inl rfl)
theorem AW{t0 t1:List Int}{t2:List Bool}:∀(k:Nat) (i:Int),0<=i->i<(t0.length:Int)->uI t0.length (oc t0 t1 t2 k i)
 |0,i,_,_=>.inl rfl
 |k+1,i,h0,h1=>by
  unfold oc;split
  .exact .inr (.inr ⟨h0,h1⟩)
  .exact fQ λx hx=>by
    obtain⟨j,rfl,hj,-⟩:=Uy hx;exact AW k _ (by omega) (by omega)
theorem gV(t0 t1:List Int) (t2:List Bool):uI t0.length (dC t0 t1 t2):=by
 unfold dC;split
 .exact fQ λx hx=>by
   obtain⟨j,rfl,hj,-⟩:=Uy hx;exact AW t0.length _ (by omega) (by omega)
 .exact .inl rfl
def wB(s:GScope) (d x:Int):Bool:=decide (d=x) || (cA s d s.Defs.length).contains x
theorem Valid.Pl{l:GLaw}(hV:Valid l) {i:Nat}(hi:i<l.Scopes.length):∀f∈l.Scopes[i].Inputs,ja f.Type_ l.Enums=true:=by
 intro f hf;obtain⟨k,hk,rfl⟩:=Daa hf;have h:=hV.s i hi;generalize l.Scopes[i]=x at h hk⊢;unfold Wg at h
 repeat' split at h
 all_goals first|(simp at h;done)|skip
 .rename_i v hv;exact(bD BP hv h).elim
 .rename_i v hv;exact(bD TK hv h).elim
 .rename_i v hv;exact(bD EL hv h).elim
 .have hin:ff (QM l x) x.Inputs.length=none:=by omega
  have:=Ob.1 hin k hk;unfold QM at this;rw[faa hk]at this
  grind[Er]
theorem Valid.mem0{l:GLaw}(h:Valid l):∀x∈l.Enums,0<x.Members.length:=by
 intro x hx;obtain⟨i,hi,rfl⟩:=Daa hx;have h1:=h.e i hi
 grind[Ke]
theorem wF{t:GType}{e:List GEnum}(hv:ja t e=true):(t.Kind=1/\t.Enum=0/\Xg t e=(0,1))\/(t.Kind=2/\t.Enum=0/\Xg t e=(-1000000000000,1000000000000))\/(t.Kind=3/\t.Enum=0/\Xg t e=(-1000000000000000,1000000000000000))\/
 (t.Kind=4/\t.Enum=0/\Xg t e=(-1000000000,1000000000))\/(t.Kind=5/\t.Enum=0/\Xg t e=(0,109572))\/(t.Kind=6/\0<=t.Enum/\t.Enum<(e.length:Int)/\∃x∈e,Xg t e=(0,da .i64 ((x.Members.length:Int)-1))):=by
 have hb:=ql t e;unfold Fe at hb;rw[La,daa,hv]at hb;simp only[Bool.true_eq_false,if_false]at hb;unfold ja at hv;by_cases h6:t.Kind=6
 .rw[if_pos h6]at hv;simp only[paa,decide_eq_true_eq]at hv;simp only[h6,naa,if_false]at hb
  grind[Ij]
 .rw[if_neg h6]at hv;simp only[paa,decide_eq_true_eq,beq_iff_eq]at hv;rcases(by omega:t.Kind=1\/t.Kind=2\/t.Kind=3\/t.Kind=4\/t.Kind=5)with h|h|h|h|h<;>simp only[h,naa,if_true,if_false,Laa]at hb<;>simp[h,hv.2,←hb]
theorem mA{l:GLaw}(hV:Valid l) {t:GType}(hv:ja t l.Enums=true):(Xg t l.Enums).1<=(Xg t l.Enums).2/\∀n,(Xg t l.Enums).1<=n->n<=(Xg t l.Enums).2->Bd ⟨t.Kind,t.Enum,n⟩:=by
 have hne:=hV.ne;unfold Bd;rcases wF hv with⟨h1,h2,h3⟩|⟨h1,h2,h3⟩|⟨h1,h2,h3⟩|⟨h1,h2,h3⟩|⟨h1,h2,h3⟩|⟨h1,h2,h4,x,hx,h3⟩
 all_goals rw[h3]
 all_goals first|(refine⟨by decide,λn a b=>?_⟩;simp_all)|skip
 have m0:=hV.mem0 x hx;have m1:=hV.mem x hx
 grind[wid]
theorem hJ(lo:Int):∀{k i:Nat},i<k->(zE lo k)[i]?=some (lo+i)
 |k+1,i,h=>by
  have hl:=Bu lo k;unfold zE;by_cases hi:i<k
  .rw[Bab (by omega)];exact hJ lo hi
  grind
theorem CL{l:GLaw}(hV:Valid l) {t:GType}(hv:ja t l.Enums=true) (cuts:List Int):0<(aH t l.Enums cuts).length/\∀x∈aH t l.Enums cuts,(Xg t l.Enums).1<=x/\x<=(Xg t l.Enums).2:=by
 have hb:=(mA hV hv).1;unfold aH;rw[if_neg (by omega)];by_cases hk:t.Kind=1\/t.Kind=6
 .rw[if_pos hk,Bu];refine⟨by omega,λx hx=>?_⟩;obtain⟨i,hi,rfl⟩:=Daa hx;have hi':=hi;rw[Bu]at hi';have:=hJ (Xg t l.Enums).1 hi'
  grind
 .rw[if_neg hk];have hd:=Wl ([(Xg t l.Enums).1]++cuts.filter λc=>decide ((Xg t l.Enums).1<=c)&&decide (c<=(Xg t l.Enums).2));constructor
  .have:=List.length_pos_of_mem ((hd.2.2 (Xg t l.Enums).1).2 (by simp));omega
  simp_all
theorem Wx(l:GLaw) (gs:List (List GNode)) (s:GScope):∀k,k<=s.Inputs.length->(Vg l gs s k).length=k
 |0,_=>rfl
 |k+1,h=>by
  have ih:=Wx l gs s k (by omega)
  grind[Vg]
theorem rD(l:GLaw) (gs:List (List GNode)) (s:GScope):∀k,k<=s.Inputs.length->∀i (hi:i<k) (h2:i<s.Inputs.length),(Vg l gs s k)[i]?=some (dF l gs s.Inputs[i] i)
 |k+1,h,i,hi,h2=>by
  have hl:=Wx l gs s k (by omega);unfold Vg;by_cases hik:i<k
  .rw[Bab (by omega)];exact rD l gs s k (by omega) i hik h2
  grind
structure GridOk (l:GLaw) (s:GScope) (sc d date:Int) (g:List (List Int)):Prop where
 cv:(Nl l).Code=0
 csc:0<=sc/\sc<(l.Scopes.length:Int)
 cs:l.Scopes[sc.toNat]?=some s
 cd:0<=d/\d<(s.Defs.length:Int)
 cdt:0<=date/\date<=109572
 flat:∀e∈Ko s d date,Yk e (Ds l s)=true
 eq:g=Vg l (Ko s d date) s s.Inputs.length
 len:g.length=s.Inputs.length
 row:∀i (h:i<s.Inputs.length),g[i]?=some (dF l (Ko s d date) s.Inputs[i] i)
 pos:∀r∈g,0<r.length/\r.length<=1099511627776
 le:Vd g<=4096
theorem ZK{l:GLaw}(h:LawOk l) {sc d date:Int}(hg:(wm l sc d date).2=0):∃s,GridOk l s sc d date (wm l sc d date).1:=by
 unfold wm at hg⊢;split at hg
 .omega
 split at hg
 .omega
 split at hg
 .omega
 split at hg
 .omega
 split at hg
 .omega
 split at hg
 .omega
 split at hg
 .omega
 rename_i hv hsc _ s hs hd hdt hfl hc;rw[if_neg hv,if_neg hsc];(try (rw[hs];dsimp only));rw[if_neg hd,if_neg hdt,if_neg hfl,if_neg hc];have hV:=Cu (xaa.1 hv);have hi:sc.toNat<l.Scopes.length:=by omega
 have hsi:l.Scopes[sc.toNat]=s:=by simp_all
 have hfl':∀e∈Ko s d date,Yk e (Ds l s)=true:=λe he=>by
  simp_all
 have hlen:=Wx l (Ko s d date) s s.Inputs.length (saa _);have hget:=rD l (Ko s d date) s s.Inputs.length (saa _);have hsm:=h.s s (Eaa hs);have hinv:=dn (l:=l) hV.mem (gs:=Ko s d date) (by have:=oz s d date;have:=hsm.2.1.rules;omega) (λg hg=>Vn (hfl' g hg)) s s.Inputs.length;have hpos:∀r∈Vg l (Ko s d date) s s.Inputs.length,0<r.length:=λr hr=>by
  obtain⟨i,hi2,rfl⟩:=Daa hr;have h2:i<s.Inputs.length:=by omega
  have e:=hget i h2 h2;rw[faa hi2]at e;rw[Iaa e];unfold dF;split
  .have hvt:ja s.Inputs[i].Type_ l.Enums=true:=hV.Pl hi _ (by simp_all)
   grind[CL]
  simp
 exact⟨s,xaa.1 hv,by omega,hs,by omega,by omega,hfl',rfl,hlen,λi hi=>hget i hi hi,λr hr=>⟨hpos r hr,by grind⟩,show Vd (Vg l (Ko s d date) s s.Inputs.length)<=4096 from tO hpos (by omega)⟩
theorem mz{e:List GNode}{s:GSignature}(h:Yk e s=true):∀i,i<e.length->Un e i=true:=by
 simp_all[Yk,Ob]
theorem Kw{e:List GNode}(hw:Wst e) (hf:∀i,i<e.length->Un e i=true) (env:GEnv):(∀i,i<e.length->NodeP e env i)/\cc e env=some (vn e env (e.length-1)):=by
 have hn:∀i,i<e.length->NodeP e env i:=gK hw λj hj hl=>iD (by grind[Jn,Dt]) ((nz (hf j hj)).resolve_right λh=>hl (by omega));exact⟨hn,(PN hw (hn _ (by have:=hw.pos;omega))).1⟩
theorem nI{e:List GNode}(hw:Wst e) (hf:∀i,i<e.length->Un e i=true) (env:GEnv):BE (cc e env):=by
 have hn:∀i,i<e.length->NodeP e env i:=(Kw hw hf env).1;have:=PN hw (hn _ (by have:=hw.pos;omega));exact⟨_,this.1,this.2⟩
theorem PG{s:GScope}{d date x:Int}(hx:x∈(va s d date).1) (h0:(PB s x).length≠0):PB s x∈Ko s d date:=by
 unfold Ko oD;rw[List.mem_filter];exact⟨hac.2 ⟨x,hx,rfl⟩,by grind⟩
noncomputable def jo(l:GLaw) (s:GScope) (d date:Int) (env:GEnv):Int:=dC (va s d date).2.1 (va s d date).2.2 (sF s (va s d date).1 env)
theorem Au(s:GScope) (d date:Int):(va s d date).2.1.length=(va s d date).1.length/\(va s d date).1.length<=s.Rules.length:=by
 have h:=Il (rules:=s.Rules) (q:=Mt d date) s.Rules.length;exact⟨h.2.2,h.2.1⟩
def Wo(l:GLaw) (s:GScope) (date:Int) (g:List (List Int)) (c:List Int):GEnv:=⟨date,fu s.Inputs g c,[],[],[],l.Tables⟩
theorem type7{N:Int}{s:GSignature}{r:GType×Int}(h:Oa ⟨7,N⟩ [] s=some r) (h0:r.2=0):∃t,0<=N/\s.Inputs[N.toNat]?=some t/\r.1=t:=by
 have hu:=Fa (op:=7) (by omega);have hus:Wb 7=true:=rfl;unfold Oa ra Db at h;simp only[hu,hus,Ia,eu]at h;by_cases hr:0<=N/\N<(s.Inputs.length:Int)
 .refine⟨s.Inputs[N.toNat]'(by omega),hr.1,faa (by omega),?_⟩;have e1:¬N<0:=by omega
  have e2:¬(s.Inputs.length:Int)<=N:=by omega
  rw[Ij hr.1 hr.2]at h;generalize s.Inputs[N.toNat]'(by omega)=t at h⊢;cases hv:ja t s.Enums
  all_goals grind
 grind
theorem wN{e:List GNode}{s:GSignature}(hN:∀n∈e,wb n) (h:Yk e s=true) (h7:(ua e (e.length-1)).Op=7):∃t,0<=(ua e (e.length-1)).N/\s.Inputs[(ua e (e.length-1)).N.toNat]?=some t/\t.Kind=1:=by
 have hw:=Vn h;unfold Yk at h;simp only[paa,decide_eq_true_eq,beq_iff_eq]at h;obtain⟨⟨h0,h1,-⟩,-⟩:=h;unfold Gn at h0 h1;rw[vp hw]at h0 h1;simp only[if_true]at h0 h1;have hpos:=hw.pos
 cases hf:ff (ux e s) e.length with
 |some v=>
  rw[hf]at h0;obtain⟨i,-,hv,-⟩:=Sa.1 hf;unfold ux at hv
  grind
 |none=>
  rw[hf]at h1;have ht:=Ob.1 hf;have hlast:=ht (e.length-1) (by omega);have hat:=JD hw hN (i:=e.length-1) (by omega) (λj hj=>ht j (by omega));have hinv:=(zt hw hN e.length (saa _) ht).1;have hone:=hw.one;have har:Pb e (e.length-1)=0:=by unfold Pb;rw[h7];decide
  rw[har,Nat.sub_zero,List.drop_length]at hat;unfold ux at hlast;split at hlast
  case isFalse=>simp_all
  rename_i hz;have es:sq e s e.length=sq e s (e.length-1)++[(uw e s (sq e s (e.length-1)) (e.length-1)).1]:=by
   conv=>lhs;rw[show e.length=(e.length-1)+1 by omega]
   simp_all[sq]
  have hnil:sq e s (e.length-1)=[]:=by
   grind
  rw[es,hnil]at h1;rw[hnil]at hat hz;simp at h1;generalize ua e (e.length-1)=n at h7 hat⊢;obtain⟨op,N⟩:=n;dsimp only at h7;subst h7;obtain⟨t,t1,t2,t3⟩:=type7 hat hz
  simp_all
structure InpOk (l:GLaw) (s:GScope) (Pl:List GValue):Prop where
 len:Pl.length=s.Inputs.length
 ty:∀i (h:i<s.Inputs.length) (h2:i<Pl.length),Pl[i].Kind=s.Inputs[i].Type_.Kind/\Pl[i].Enum=s.Inputs[i].Type_.Enum/\(Xg s.Inputs[i].Type_ l.Enums).1<=Pl[i].N/\Pl[i].N<=(Xg s.Inputs[i].Type_ l.Enums).2
theorem CP{fs:List GField}{g:List (List Int)}{c:List Int}{i:Nat}(hi:i<fs.length):(fu fs g c)[i]?=some (xD fs g c i):=by
 grind[fu]
def L1(f:GFact):Prop:=f.Id<0\/(f.Member < -1\/8<=f.Member)\/(f.Input < -1\/12<=f.Input)\/(f.Member = -1/\f.Input = -1)\/neB f.Valid=false\/(f.Recorded<0\/109572<f.Recorded)
instance (f:GFact):Decidable (L1 f):=by unfold L1;infer_instance
def N1(f:GFact):Prop:=(f.Value.Kind<1\/6<f.Value.Kind)\/(f.Input = -1/\¬f.Value.Kind=1)
instance (f:GFact):Decidable (N1 f):=by unfold N1;infer_instance
def below(g f:GFact):Prop:=g.Recorded<f.Recorded\/(g.Recorded=f.Recorded/\g.Id<=f.Id)
instance (g f:GFact):Decidable (below g f):=by unfold below;infer_instance
theorem vD{α:Type}{l:List α}{i:Int}(h:(idx l i).isSome=true):∃x,idx l i=some x:=Option.isSome_iff_exists.1 h
theorem tT{e:List GNode}{z:GEnv}{j:Nat}(hp:NodeP e z j) (h7:(ua e j).Op=7) (h0:(vn e z j).2=0) (hpl:∀v∈z.Inputs,Bd v):z.Inputs[(ua e j).N.toNat]?=some (vn e z j).1:=by
 have har:Pb e j=0:=by unfold Pb;rw[h7];decide
 have ax:Jn e z j=[]:=by grind[Jn]
 have hq:vn e z j=(Wa (ua e j) [] z).getD (⟨0,0,0⟩,0):=by
  rw[hp.q,JG (by unfold zm;omega),har,pW,ax]
 rw[hq,Tl (by simp)]at h0⊢;split at h0
 .split at h0
  .rename_i h1 h2;have al:([]:List GValue).all Cn=true:=rfl;rw[if_pos h1,if_pos h2,if_pos al];have hin:=h2;unfold Jo at hin;rw[if_pos h7,decide_eq_true_eq]at hin;have hx:idx z.Inputs (ua e j).N=some (z.Inputs[(ua e j).N.toNat]'(by omega)):=Ij hin.1 hin.2;have c:=Xy hx (decide_eq_true (hpl _ (laa _)));rw[show Nc (ua e j) [] z=Nc ⟨7,(ua e j).N⟩ [] z by rw[←h7],c,faa (by omega)];rfl
  simp_all
 simp_all
theorem ZJ{e:List GNode}{s:GSignature}(hN:∀n∈e,wb n) (hf:Yk e s=true) {x y:GEnv}(hs:InSame e x.Inputs y.Inputs) (ht:∀(k:Nat) t v,s.Inputs[k]?=some t->x.Inputs[k]?=some v->v.Kind=t.Kind):cc e x=cc e y:=by
 have hw:=Vn hf;have hall:=mz hf;have hpos:=hw.pos;have hn:=EM hw hall hs (e.length-1) (by omega);rw[(Kw hw hall x).2,(Kw hw hall y).2];rcases hn.eq with h|⟨h7,h1,h2,h3⟩
 .rw[h]
 .rcases h3.kind with h3|⟨k1,k2,k3,k4⟩
  .grind
  .exfalso;obtain⟨t,t0,t1,t2⟩:=wN hN hf h7;have:=ht _ _ _ t1 (tT hn.px h7 h1 hs.pl);omega
noncomputable def pick(s:GScope) (d date o:Int):Int:=if o<0 then o else(va s d date).1.getD o.toNat 0
theorem QI{rules:List GRule}{q:GRule->Bool}:∀i,(Fc rules q i).1.Pairwise (·<·)
 |0=>by simp_all[Fc]
 |i+1=>by
  have ih:=QI (rules:=rules) (q:=q) i;have hm:=Jl (rules:=rules) (q:=q) i
  grind[Fc]
noncomputable def pb(p:Prop):Bool:=@decide p (Classical.propDecidable p)
theorem HA{p:Prop}:pb p=true↔p:=by simp_all[pb]
noncomputable def CF(rules:List Int) (A:Nat->Prop):List Int:=((yaa rules.length).filter λi=>!pb (A i)).map λi=>rules.getD i 0
theorem getD_lt{l:List Int}{i:Nat}(h:i<l.length):l.getD i 0=l[i]:=by simp_all
theorem oM(rules:List Int) (A:Nat->Prop):(CF rules A).length<=rules.length:=by
 grind[CF]
theorem DF{rules:List Int}(hr:rules.length<=1048576) {A:Nat->Prop}{step:List Int×Int->Option (Ex (List Int×Int) (List Int) Unit)}(hs:∀i,(h:i<rules.length)->∀a,a.length<=i->step (a,(i:Int))=some (.go ((if pb (A i)=true then a else a++[rules[i]]),((i+1:Nat):Int)))) (he:∀a,step (a,(rules.length:Int))=some (.brk a)) :
 fa step (([]:List Int),0)=some (.inl (CF rules A)):=by
 have hl:∀i,(((yaa i).filter λi=>!pb (A i)).map λi=>rules.getD i 0).length<=i:=λi=>by
  grind
 refine Xc (λi=>(((yaa i).filter λi=>!pb (A i)).map λi=>rules.getD i 0,(i:Int))) rules.length _ (λi hi=>?_) ?_ rfl
 .rw[hs i hi _ (hl i),Tab,rab,nab]
  grind
 .rw[he];rfl
def Ms(l:GLaw) (s:GScope) (d date:Int) (g:List (List Int)) (i:Nat):Prop:=∃c,sb g c/\jo l s d date (Wo l s date g c)=(i:Int)
structure DeadI (l:GLaw) (s:GScope) (d date:Int) (g:List (List Int)) (a:List Bool):Prop where
 len:a.length=(va s d date).1.length
 all:∀i:Nat,a[i]?=some true->Ms l s d date g i
theorem oE{l:GLaw}(h:LawOk l) {s:GScope}{sc d date:Int}{g:List (List Int)}(ho:GridOk l s sc d date g) (Pl:List GValue) :
 wc ⟨s,l.Tables,date,(va s d date).1,(va s d date).2.1,(va s d date).2.2⟩ Pl=some (jo l s d date ⟨date,Pl,[],[],[],l.Tables⟩):=by
 have hsm:=h.s s (Eaa ho.cs);have htl:=Au s d date;have hrl:=hsm.2.1.rules;have hm:=Jl (rules:=s.Rules) (q:=Mt d date) s.Rules.length;have hm':∀x∈(va s d date).1,0<=x/\x<(s.Rules.length:Int):=λx hx=>⟨(hm x hx).1,(hm x hx).2.1⟩;have ht:∀(env:GEnv),∀x∈(va s d date).1,(PB s x).length≠0->BE (cc (PB s x) env):=λenv x hx h0=>by
  have hf:=ho.flat _ (PG hx h0)
  grind[nI,Vn,mz]
 unfold wc;dsimp only;rw[GA (by omega) (by omega),daa,Y2 (step:=zc ⟨s,l.Tables,date,(va s d date).1,(va s d date).2.1,(va s d date).2.2⟩ Pl) (f:=λk=>gT (PB s ((va s d date).1.getD k 0)) ⟨date,Pl,[],[],[],l.Tables⟩) (λi hi a ha=>by
  unfold zc;dsimp only;rw[if_pos (by omega),aK hi hm' (ht _) ha,daa,ya (by omega)]) (λa=>by simp_all[zc]),daa]
 dsimp only;rw[Qz];rfl
theorem RF{l:GLaw}(h:LawOk l) {s:GScope}{sc d date:Int}{g:List (List Int)}(ho:GridOk l s sc d date g):af l sc d date=some ⟨s,l.Tables,date,(va s d date).1,(va s d date).2.1,(va s d date).2.2⟩:=by
 have hsm:=h.s s (Eaa ho.cs);have es:l.Scopes[sc.toNat]'(by have:=ho.csc;omega)=s:=by
  have:=ho.cs
  grind
 unfold af;rw[Ij ho.csc.1 ho.csc.2,daa,es,Vx hsm.2.1.rules];rfl
theorem VG{l:GLaw}{s:GScope}{d date:Int}{env:GEnv}(h:0<=jo l s d date env):jo l s d date env<((va s d date).1.length:Int):=by
 have hin:=gV (va s d date).2.1 (va s d date).2.2 (sF s (va s d date).1 env);rw[(Au s d date).1]at hin;unfold jo at h⊢;unfold uI at hin;omega
theorem LN{l:GLaw}(h:LawOk l) {sc d date:Int}{s:GScope}{g:List (List Int)}(hg:wm l sc d date=(g,0)) (ho:GridOk l s sc d date g) :
 Cd l sc d date=some (CF (va s d date).1 (Ms l s d date g),0):=by
 have hsm:=h.s s (Eaa ho.cs);have htl:=Au s d date;have hrl:=hsm.2.1.rules;have hgl:g.length<=1048576:=by rw[ho.len];omega
 unfold Cd;rw[vq h,hg,daa,if_neg (by simp),RF h ho,daa];dsimp only;rw[GA (by omega) (by omega),daa,GA (by omega) (by omega),daa];obtain⟨c0,r0⟩:=QK ho.pos;obtain⟨a,h1,h2,h3⟩:=xJ (g:=g) (step:=ig (g,0) ⟨s,l.Tables,date,(va s d date).1,(va s d date).2.1,(va s d date).2.2⟩) (λ_ a=>DeadI l s d date g a) (λa c=>jo l s d date (Wo l s date g c)<0\/a[(jo l s d date (Wo l s date g c)).toNat]?=some true) (λa=>a) (λa c hc hI=>by
  unfold ig;dsimp only;rw[if_pos rfl];have e1:mj (g,0) ⟨s,l.Tables,date,(va s d date).1,(va s d date).2.1,(va s d date).2.2⟩ c=some (fu s.Inputs g c):=by
   unfold mj;rw[yA hsm.2.2.1 ho.len hc (step:=oj (g,0) ⟨s,l.Tables,date,(va s d date).1,(va s d date).2.1,(va s d date).2.2⟩ c) (λa i=>by grind[oj])];rfl
  have e2:nj (g,0) c=some (wi g c):=by
   grind[nj,Ym,WN]
  rw[e1,daa,oE h ho,daa,e2];have eo:jo l s d date ⟨date,fu s.Inputs g c,[],[],[],l.Tables⟩=jo l s d date (Wo l s date g c):=rfl;rw[eo];by_cases hp:0<=jo l s d date (Wo l s date g c)
  .have hlt:=VG hp;have hlen:=hI.len;generalize ho':jo l s d date (Wo l s date g c)=o at hp hlt⊢;obtain⟨k,rfl⟩:=Int.eq_ofNat_of_zero_le hp;rw[if_pos hp,Aa (by omega),daa,ry (by omega),daa,daa,daa];refine⟨_,rfl,⟨by simp_all,λi hi=>?_⟩,.inr ?_,λc' hc'=>?_⟩
   .by_cases hik:i=k
    .subst hik;exact⟨c,hc,ho'⟩
    .rw[List.getElem?_set_ne (λh=>hik h.symm)]at hi;exact hI.all i hi
   all_goals grind
  grind) (λa c=>by simp_all[ig]) c0 r0 (s0:=jaa (va s d date).1.length false) ⟨by simp,λi h=>by
   grind⟩
 rw[h1,daa];dsimp only;have hlen:=h2.len;have htl2:(va s d date).1.length<=1048576:=by omega
 rw[DF (A:=Ms l s d date g) (rules:=(va s d date).1) (step:=fg ⟨s,l.Tables,date,(va s d date).1,(va s d date).2.1,(va s d date).2.2⟩ a) (by omega) (λi hi b hb=>by
  unfold fg;dsimp only;rw[if_pos (by omega),Aa hi,daa,Aa (by omega),daa,ya (by omega)];have hiff:a[i]'(by omega)=true↔Ms l s d date g i:=by
   constructor
   .intro ht;exact h2.all i (by simp_all)
   .rintro⟨c,hc,hoc⟩
    grind
  by_cases hA:Ms l s d date g i
  .simp_all[HA]
  .have hf:a[i]'(by omega)=false:=pab.2 λh=>hA (hiff.1 h);rw[if_pos hf,Hf (by grind),if_neg (λh=>hA (HA.1 h))];rfl) (λb=>by simp_all[fg])]
 rfl
theorem DM{n:GNode}{args:List GValue}{env:GEnv}(hl:args.length<=3) (ho:zm n.Op):Ot (Wa n args env) (Bl n args env):=by
 refine qJ hl λh1 h2 h3 h4 h5=>?_;obtain⟨op,N⟩:=n;dsimp only at h1 h2 ho;have h2':args.length=(gb op).toNat:=by omega
 unfold zm at ho;rcases(by omega:op=1\/op=2\/op=3\/op=4\/op=5\/op=6\/op=7\/op=25\/op=19\/op=20\/op=21\/op=22)with rfl|rfl|rfl|rfl|rfl|rfl|rfl|rfl|rfl|rfl|rfl|rfl
 all_goals
  first
  |(obtain rfl:=List.length_eq_zero_iff.1 h2';first|exact DO (by omega)|exact AX|exact BX h4)
  |(match args,h2' with|[a],_=>exact xS (h5 a (by simp)))
  |(match args,h2' with|[a,b],_=>grind[vS,wS])
theorem lP{e:List GNode}(hw:Wst e) (hf:∀i,i<e.length->Un e i=true) (env:GEnv):lp e env=cc e env:=by
 obtain⟨p,p1,p2,-⟩:=XR hw (fU hw (env:=env) (λj hj hl=>DM (by grind[Av,Dt]) ((nz (hf j hj)).resolve_right λh=>hl (by omega))) _ (by have:=hw.pos;omega))
 simp_all
theorem vJ{l:GLaw}{s:GScope}{sc d date:Int}{g:List (List Int)}(ho:GridOk l s sc d date g) {c:List Int}(hc:sb g c):InpOk l s (fu s.Inputs g c):=by
 have hV:=Cu ho.cv;have hsl:sc.toNat<l.Scopes.length:=by have:=ho.csc;omega
 have hes:l.Scopes[sc.toNat]=s:=by
  have:=ho.cs
  simp_all
 refine⟨by simp[fu],λi h h2=>?_⟩;have hvt:ja s.Inputs[i].Type_ l.Enums=true:=hV.Pl hsl _ (by simp_all);have e:(fu s.Inputs g c)[i]=xD s.Inputs g c i:=by have:=CP (g:=g) (c:=c) h;simp_all
 obtain⟨h3,h4,h5⟩:=hc.get i (by rw[ho.len];exact h);have hrow:=ho.row i h;have hgi:i<g.length:=by grind
 rw[faa hgi]at hrow;have hrow:=Iaa hrow;have hN:(xD s.Inputs g c i).N=g[i][c[i].toNat]'(by omega):=by
  grind[xD]
 have hmem:(xD s.Inputs g c i).N∈dF l (Ko s d date) s.Inputs[i] i:=by simp_all
 rw[e];refine⟨by grind[xD],by grind[xD],?_⟩;generalize (xD s.Inputs g c i).N=n at hmem;unfold dF at hmem;split at hmem
 .grind[CL]
 .rw[uab]at hmem;subst hmem;have hb:=(mA hV hvt).1;rcases wF hvt with⟨-,-,e⟩|⟨-,-,e⟩|⟨-,-,e⟩|⟨-,-,e⟩|⟨-,-,e⟩|⟨-,-,-,x,hx,e⟩<;>rw[e]at hb⊢<;>simp at hb⊢<;>omega
theorem InpOk.u9{l:GLaw}{s:GScope}{sc d date:Int}{g:List (List Int)}(ho:GridOk l s sc d date g) {Pl:List GValue}(hi:InpOk l s Pl):∀v∈Pl,Bd v:=by
 have hV:=Cu ho.cv;have hsl:sc.toNat<l.Scopes.length:=by have:=ho.csc;omega
 have hes:l.Scopes[sc.toNat]=s:=by
  have:=ho.cs
  simp_all
 intro v hv;obtain⟨i,hii,rfl⟩:=Daa hv;have h:i<s.Inputs.length:=by rw[←hi.len];omega
 obtain⟨t1,t2,t3,t4⟩:=hi.ty i h hii;have:=(mA hV (hV.Pl hsl s.Inputs[i] (by simp_all))).2 _ t3 t4;rw[←t1,←t2]at this;omega
theorem NM{l:GLaw}(h:LawOk l) {s:GScope}{sc d date:Int}{g:List (List Int)}(ho:GridOk l s sc d date g) {x:Int}(hx:x∈(va s d date).1) (hz:(PB s x).length≠0) {a b:GEnv}(hab:a.Inputs=b.Inputs) (hi:InpOk l s a.Inputs):cc (PB s x) a=cc (PB s x) b:=by
 have hsm:=h.s s (Eaa ho.cs);have hm:=Jl (rules:=s.Rules) (q:=Mt d date) s.Rules.length x hx;have hg:=PG hx hz;have hp:=hi.u9 ho;have hN:∀n∈PB s x,wb n:=by
  grind[PB]
 refine ZJ hN (ho.flat _ hg) ⟨by grind,hp,by simp_all,λk v w _ h1 h2=>.inl ?_⟩ λk t v ht hv=>?_
 .simp_all
 .have ht':(s.Inputs.map (·.Type_))[k]?=some t:=by
   grind[Ds]
  rw[List.getElem?_map]at ht';obtain⟨f,hf,rfl⟩:=Option.map_eq_some_iff.1 ht';obtain⟨hk,rfl⟩:=Haa.1 hf;obtain⟨hk2,rfl⟩:=Haa.1 hv;exact(hi.ty k hk hk2).1
theorem FC{β ρ:Type}{g:List (List Int)}{step:List Int×Bool->Option (Ex (List Int×Bool) β ρ)}(Q:List Int->Prop) (f:List Int->ρ) (u:β)
 (h1:∀c,sb g c->Q c->step (c,true)=some (.ret (f c))) (h2:∀c,sb g c->¬Q c->step (c,true)=some (.go (wi g c))) (hend:∀c,step (c,false)=some (.brk u))
 {c0:List Int} (h0:sb g c0) (hr:rk g c0=0) :
 (∃c,sb g c/\Q c/\fa step (c0,true)=some (.inr (f c))/\(Q c0->c=c0))\/((∀c,sb g c->¬Q c)/\fa step (c0,true)=some (.inl u)):=by
 have key:∀(n:Nat) (c:List Int),Vd g-rk g c<=n->sb g c->(∀d,sb g d->rk g d<rk g c->¬Q d)->(∃c',sb g c'/\Q c'/\fa step (c,true)=some (.inr (f c')))\/((∀c,sb g c->¬Q c)/\fa step (c,true)=some (.inl u)):=by
  intro n
  induction n with
  |zero=>intro c hn hc;have:=fE hc;omega
  |succ n ih=>
   intro c hn hc hd;by_cases hq:Q c
   .grind[ku]
   have hst:=h2 c hc hq;have hn2:=fH hc;have ok:=kG hc;have all:∀d,sb g d->rk g d<rk g c+1->¬Q d:=λd hd' hlt=>by
    grind[uK]
   rw[kl hst]
   cases hb:(wi g c).2 with
   |true=>
    grind
   |false=>
    have e:=(hn2.2 hb).1;rw[show wi g c=((wi g c).1,false) by grind,Wf (hend _)];exact .inr ⟨λd hd'=>all d hd' (by simp_all[fE]),rfl⟩
 by_cases hq:Q c0
 .exact .inl ⟨c0,h0,hq,ku (h1 c0 h0 hq),λ_=>rfl⟩
 rcases key _ c0 (saa _) h0 λd _ hlt=>by omega with⟨c,a,b,e⟩|h
 .exact .inl ⟨c,a,b,e,λh=>absurd h hq⟩
 .exact .inr h
theorem LQ{rules:List GRule}{q:GRule->Bool}:∀i,∀x∈(Fc rules q i).1,∃r,rules[x.toNat]?=some r/\q r=true
 |0=>λx hx=>by grind[Fc]
 |i+1=>by
  have ih:=LQ (rules:=rules) (q:=q) i
  grind[Fc]
theorem VI{s:GScope}{d date x:Int}(hx:x∈(va s d date).1):∃r,s.Rules[x.toNat]?=some r/\r.Def=d:=by
 obtain⟨r,h1,h2⟩:=LQ (rules:=s.Rules) (q:=Mt d date) s.Rules.length x hx
 simp_all[Mt]
theorem BK{l:GLaw}(h:LawOk l) {s:GScope}{sc d date:Int}{g:List (List Int)}(ho:GridOk l s sc d date g) {c:List Int}(hc:sb g c) :
 Hl s d date (fu s.Inputs g c)=some (pick s d date (jo l s d date (Wo l s date g c))):=by
 have hsm:=h.s s (Eaa ho.cs);have htl:=Au s d date;have hrl:=hsm.2.1.rules;have hm:=Jl (rules:=s.Rules) (q:=Mt d date) s.Rules.length;have hi:=vJ ho hc;unfold Hl;rw[WD hrl,daa];have hlp:fa (Qh s date (fu s.Inputs g c) (va s d date)) ([],0)=some (.inl (sF s (va s d date).1 (Wo l s date g c))):=by
  refine Xc (λi=>((yaa i).map λk=>gT (PB s ((va s d date).1.getD k 0)) (Wo l s date g c),(i:Int))) (va s d date).1.length _ (λi hi2=>?_) ?_ rfl
  .have hmem:=laa hi2;have hx:=hm _ hmem;have eg:(s.Rules[(va s d date).1[i].toNat]'(by omega)).Guard=PB s (va s d date).1[i]:=by grind[PB]
   unfold Qh;dsimp only;rw[if_pos (by omega),Aa hi2,daa,Ij hx.1 hx.2.1,daa,eg,Tab,nab,List.map_singleton,getD_lt hi2,ya (by omega)];generalize (va s d date).1[i]=x at hmem;have hlen:((yaa i).map λk=>gT (PB s ((va s d date).1.getD k 0)) (Wo l s date g c)).length=i:=by simp
   generalize ((yaa i).map λk=>gT (PB s ((va s d date).1.getD k 0)) (Wo l s date g c))=a at hlen⊢;unfold gT;by_cases h0:(PB s x).length=0
   .rw[if_neg (by omega),if_pos (by omega),daa];dsimp only;rw[if_pos rfl,Hf (by grind)];rfl
   .have hf:=ho.flat _ (PG hmem h0);obtain⟨p,hp,-⟩:=nI (Vn hf) (mz hf) (Wo l s date g c);have he:cc (PB s x) ⟨date,fu s.Inputs g c,[],[],[],[]⟩=cc (PB s x) (Wo l s date g c):=NM h ho hmem h0 rfl hi;rw[if_pos (by omega),if_neg (by omega),lP (Vn hf) (mz hf),he,hp,daa,daa];dsimp only;by_cases h2:p.2=0
    .rw[if_pos h2,Hf (by grind)];grind
    .rw[if_neg h2,Hf (by grind)];grind
  .unfold Qh;dsimp only;rw[if_neg (by omega)];rfl
 rw[hlp,daa];dsimp only;rw[UD,daa];have eo:dC (va s d date).2.1 (va s d date).2.2 (sF s (va s d date).1 (Wo l s date g c))=jo l s d date (Wo l s date g c):=rfl;rw[eo];unfold pick;by_cases hn:jo l s d date (Wo l s date g c)<0
 all_goals simp_all[VG,if_neg,Ij]
theorem OD{l:GLaw}{s:GScope}{d date:Int}{env:GEnv}{i:Nat}(hi:i<(va s d date).1.length):pick s d date (jo l s d date env)=(va s d date).1[i]↔jo l s d date env=(i:Int):=by
 have hinc:∀(i j:Nat) (hi:i<(va s d date).1.length) (hj:j<(va s d date).1.length),i<j->(va s d date).1[i]<(va s d date).1[j]:=List.pairwise_iff_getElem.1 (QI (rules:=s.Rules) (q:=Mt d date) s.Rules.length);have hm:=Jl (rules:=s.Rules) (q:=Mt d date) s.Rules.length;have h0:=(hm _ (laa hi)).1;unfold pick;constructor
 .intro h;by_cases hn:jo l s d date env<0
  .omega
  .have hlt:=VG (Int.not_lt.1 hn)
   grind
 grind
theorem ZG{l:GLaw}(h:LawOk l) {s:GScope}{sc d date:Int}{g:List (List Int)}(ho:GridOk l s sc d date g) {i:Nat}(hi:i<(va s d date).1.length) :
 ∃w,Mm s g (va s d date).1[i] date=some w/\(w.2=true↔Ms l s d date g i):=by
 have hsm:=h.s s (Eaa ho.cs);have hgl:g.length<=1048576:=by rw[ho.len];omega
 have hm:=Jl (rules:=s.Rules) (q:=Mt d date) s.Rules.length;have hx:=hm _ (laa hi);obtain⟨r,hr1,hr2⟩:=VI (laa hi);obtain⟨c0,r0⟩:=QK ho.pos;unfold Mm;rw[GA (by omega) (by omega),daa];have hstep:∀c,sb g c->lf s g (va s d date).1[i] date (c,true)=if pick s d date (jo l s d date (Wo l s date g c))=(va s d date).1[i]then some (.ret (fu s.Inputs g c,true))else some (.go (wi g c)):=λc hc=>by
  unfold lf;dsimp only;rw[if_pos rfl];have e1:Dk s g c=some (fu s.Inputs g c):=by
   unfold Dk;rw[yA hsm.2.2.1 ho.len hc (step:=Fk s g c) (λa i=>by unfold Fk;dsimp only;rw[ho.len])];rfl
  have e2:Ek g c=some (wi g c):=by
   unfold Ek;have:=WN (gr:=g) (step:=Gk g) (λa i=>by grind[Gk]) hgl hc;rw[hc.len]at this;omega
  grind[Ij,BK]
 rcases FC (step:=lf s g (va s d date).1[i] date) (λc=>pick s d date (jo l s d date (Wo l s date g c))=(va s d date).1[i]) (λc=>(fu s.Inputs g c,true)) () (λc hc hq=>by simp_all) (λc hc hq=>by simp_all) (λc=>by simp_all[lf]) c0 r0 with⟨c,hc,hq,e,-⟩|⟨hn,e⟩
 .rw[e];exact⟨_,rfl,λ_=>⟨c,hc,(OD hi).1 hq⟩,λ_=>rfl⟩
 .rw[e];refine⟨_,rfl,λh=>by grind,λ⟨c,hc,hoc⟩=>absurd ((OD hi).2 hoc) (hn c hc)⟩
theorem uN{l:GLaw}(h:LawOk l) {sc d date:Int}{s:GScope}{g:List (List Int)}(hg:wm l sc d date=(g,0)) (ho:GridOk l s sc d date g) :
 nn l sc d date=some (CF (va s d date).1 (Ms l s d date g),0):=by
 have hsm:=h.s s (Eaa ho.cs);have htl:=Au s d date;have hrl:=hsm.2.1.rules;have es:l.Scopes[sc.toNat]'(by have:=ho.csc;omega)=s:=by
  have:=ho.cs
  grind
 have htl2:(va s d date).1.length<=1048576:=by omega
 unfold nn;rw[Wu h,hg,daa,if_neg (by simp),Ij ho.csc.1 ho.csc.2,daa,es,Fq hrl,daa];have hrw:(Fc s.Rules (Mt d date) s.Rules.length).1=(va s d date).1:=rfl;rw[hrw,DF (A:=Ms l s d date g) (rules:=(va s d date).1) (step:=Lm date (g,0) s (va s d date).1) htl2 (λi hi b hb=>by
  unfold Lm;dsimp only;obtain⟨w,w1,w2⟩:=ZG h ho hi;rw[if_pos (by omega),Aa hi,daa,w1,daa,ya (by omega)];by_cases hA:Ms l s d date g i
  .simp_all[HA]
  .have hf:w.2=false:=pab.2 λh=>hA (w2.1 h);rw[if_pos hf,Hf (by grind),if_neg (λh=>hA (HA.1 h))];rfl) (λb=>by simp_all[Lm])]
 rfl
theorem DT{l:GLaw}(ht:AH l) (sc d date:Int):∃b,Yp l sc d date=some b/\(b=true->SmallL l):=by
 unfold Yp;obtain⟨b,hb,hb2⟩:=cC l;rw[hb,daa]
 cases b with
 |false=>simp
 |true=>
  have h:=(hb2 rfl).ok ht;have hl:=(LM h sc d date).1;rw[if_neg (by simp),Wu h,daa];generalize wm l sc d date=g at hl⊢;obtain⟨b,h1,-⟩:=vW (step:=Xn g) (λs=>∃j:Nat,s.2=(j:Int)/\j<=g.1.length) (λs=>(g.1.length-s.2).toNat) (λ_=>True) (by
   rintro⟨a,b⟩ ⟨j,h1,h2⟩;dsimp only at h1;subst h1;unfold Xn;dsimp only;by_cases hj:j<g.1.length
   .rw[if_pos (by omega),daa,Aa hj,daa,ya (by omega)];by_cases ha:a<=600
    .rw[if_pos (by simp_all)];exact .inl ⟨_,rfl,⟨j+1,rfl,by omega⟩,by omega⟩
    .rw[if_neg (by simp_all)];simp
   .rw[if_neg (by omega),daa,if_neg (by simp)];simp) _ (1,0) (saa _) ⟨0,rfl,Nat.zero_le _⟩
  simp_all
theorem KN{l:GLaw}(h:LawOk l) {sc d date:Int}(hg:(wm l sc d date).2≠0):Cd l sc d date=some ([],(wm l sc d date).2)/\nn l sc d date=some ([],(wm l sc d date).2):=by
 unfold Cd nn;rw[vq h,Wu h,daa,daa,if_pos hg,if_pos hg];simp
theorem Rw(haw:bl=some true) {l:GLaw}(ht:AH l) (a:GA3):Bf l a=some true:=by
 unfold Bf;obtain⟨b,hb,hb2⟩:=DT ht a.I0 a.I1 a.I2;rw[hb,haw];simp only[daa]
 cases b with
 |false=>rfl
 |true=>
  have h:=(hb2 rfl).ok ht;rw[if_neg (by simp)];by_cases hg:(wm l a.I0 a.I1 a.I2).2=0
  .obtain⟨s,ho⟩:=ZK h hg;have hsm:=h.s s (Eaa ho.cs);have htl:=Au s a.I1 a.I2;have hrl:=hsm.2.1.rules;have hdl:=oM (va s a.I1 a.I2).1 (Ms l s a.I1 a.I2 (wm l a.I0 a.I1 a.I2).1)
   grind[LN,uN,Bs]
  grind[KN,Bs]
theorem mF{l:GLaw}(h:LawOk l) {s:GScope}{sc d date:Int}{g:List (List Int)}(hg:wm l sc d date=(g,0)) (ho:GridOk l s sc d date g) {i:Nat}(hi:i<(va s d date).1.length) :
 (∃c,sb g c/\jo l s d date (Wo l s date g c)=(i:Int)/\kc l sc (va s d date).1[i] date=some (fu s.Inputs g c,true,0)/\(jo l s d date (Wo l s date g (jaa g.length 0))=(i:Int)->c=jaa g.length 0))\/(¬Ms l s d date g i/\kc l sc (va s d date).1[i] date=some ([],false,0)):=by
 have hsm:=h.s s (Eaa ho.cs);have hgl:g.length<=1048576:=by rw[ho.len];omega
 have hm:=Jl (rules:=s.Rules) (q:=Mt d date) s.Rules.length;have hx:=hm _ (laa hi);obtain⟨r,hr1,hr2⟩:=VI (laa hi);have hsc:=ho.csc;have es:l.Scopes[sc.toNat]'(by omega)=s:=by
  have:=ho.cs
  simp_all
 have hdef:(s.Rules[(va s d date).1[i].toNat]'(by omega)).Def=d:=by
  simp_all
 obtain⟨c0,r0⟩:=QK ho.pos;have hidx:idx l.Scopes sc=some s:=by grind[Ij]
 have hrul:idx s.Rules (va s d date).1[i]=some (s.Rules[(va s d date).1[i].toNat]'(by omega)):=Ij hx.1 hx.2.1;have hstep:∀c,sb g c->Tc (va s d date).1[i] (g,0) ⟨s,l.Tables,date,(va s d date).1,(va s d date).2.1,(va s d date).2.2⟩ (c,true)=if jo l s d date (Wo l s date g c)=(i:Int)then some (.ret (fu s.Inputs g c,true,0))else some (.go (wi g c)):=λc hc=>by
  unfold Tc;dsimp only;rw[if_pos rfl];have e1:Og (g,0) ⟨s,l.Tables,date,(va s d date).1,(va s d date).2.1,(va s d date).2.2⟩ c=some (fu s.Inputs g c):=by
   unfold Og;rw[yA hsm.2.2.1 ho.len hc (step:=Qg (g,0) ⟨s,l.Tables,date,(va s d date).1,(va s d date).2.1,(va s d date).2.2⟩ c) (λa i=>by grind[Qg])];rfl
  have e2:Pg (g,0) c=some (wi g c):=by
   grind[Pg,nk,WN]
  rw[e1,daa,oE h ho,daa,e2];have eo:jo l s d date ⟨date,fu s.Inputs g c,[],[],[],l.Tables⟩=jo l s d date (Wo l s date g c):=rfl;rw[eo];have hpk:=OD (l:=l) (s:=s) (d:=d) (date:=date) (env:=Wo l s date g c) hi;unfold pick at hpk;by_cases hn:0<=jo l s d date (Wo l s date g c)
  .have hlt:=VG hn;rw[if_neg (by omega),getD_lt (by omega)]at hpk;rw[if_pos hn,Ij hn hlt,daa,daa]
   simp_all
  grind
 unfold kc;rw[cw h,daa,if_neg (xaa.2 ho.cv),hidx];have hcond:(if¬sc<0 then if¬(l.Scopes.length:Int)<=sc then if¬(va s d date).1[i]<0 then((some s).bind λx6=>some (decide ((x6.Rules.length:Int)<=(va s d date).1[i])))else some true else some true else some true)=some false:=by
  simp_all
 rw[hcond,daa,if_neg (by simp),daa,hrul,daa,hdef,vq h,hg,daa,if_neg (by simp),RF h ho,daa];dsimp only;rw[GA (by omega) (by omega),daa];rcases FC (step:=Tc (va s d date).1[i] (g,0) ⟨s,l.Tables,date,(va s d date).1,(va s d date).2.1,(va s d date).2.2⟩) (λc=>jo l s d date (Wo l s date g c)=(i:Int)) (λc=>(fu s.Inputs g c,true,0)) () (λc hc hq=>by simp_all) (λc hc hq=>by simp_all) (λc=>by simp_all[Tc]) c0 r0 with⟨c,hc,hq,e⟩|⟨hn,e⟩
 .grind
 .rw[e];exact .inr ⟨λ⟨c,hc,hq⟩=>hn c hc hq,rfl⟩
def xB(k c:Int):List GNode:=[GNode.mk 7 0,GNode.mk k c,GNode.mk 21 0]
theorem HT{k c x:Int}(hk:k=2\/k=3) {env:GEnv}(hi:env.Inputs=[⟨k,0,x⟩]) (hx:Cn ⟨k,0,x⟩=true) (hc:Cn ⟨k,0,c⟩=true):cc (xB k c) env=some (trV (decide (x<c))):=by
 have hw:Wst (xB k c):=uH (by rcases hk with rfl|rfl<;>kernel_rfl);have hf:∀i,i<(xB k c).length->Un (xB k c) i=true:=by
  intro i h;have h3:i<3:=h;rcases hk with rfl|rfl<;>rcases(by omega:i=0\/i=1\/i=2)with rfl|rfl|rfl<;>rfl
 obtain⟨hn,he⟩:=Kw hw hf env;have ix:idx env.Inputs 0=some ⟨k,0,x⟩:=by rw[hi];rfl
 have h0:vn (xB k c) env 0=(⟨k,0,x⟩,0):=by
  rw[(hn 0 (by simp[xB])).q];unfold RJ Jn;rw[show ua (xB k c) 0=⟨7,0⟩from rfl,show Pb (xB k c) 0=0 from rfl,if_neg (by decide)];show(Wa ⟨7,0⟩ [] env).getD _=_;rw[Tl (by decide),if_pos (by decide),if_pos (by grind[Jo]),if_pos (show([]:List GValue).all Cn=true from rfl),Xy ix hx];rfl
 have h1:vn (xB k c) env 1=(⟨k,0,c⟩,0):=by
  rw[(hn 1 (by simp[xB])).q];unfold RJ Jn;rw[show ua (xB k c) 1=⟨k,c⟩from rfl,show Pb (xB k c) 1=0 by rcases hk with rfl|rfl<;>rfl,if_neg (by grind)];show(Wa ⟨k,c⟩ [] env).getD _=_;rw[Tl (by decide),if_pos (by rcases hk with rfl|rfl<;>simp[JN,gb,Wb]),if_pos (by unfold Jo;grind),if_pos (show([]:List GValue).all Cn=true from rfl),oA (by omega)]
  simp_all[Ak]
 rw[he,show(xB k c).length-1=2 from rfl,(hn 2 (by simp[xB])).q];unfold RJ Jn Oy;rw[show ua (xB k c) 2=⟨21,0⟩from rfl,show Pb (xB k c) 2=2 from rfl,if_neg (by decide)];have o0:Lf (xB k c) 2 0=0:=by rcases hk with rfl|rfl<;>kernel_rfl
 have o1:Lf (xB k c) 2 1=1:=by rcases hk with rfl|rfl<;>kernel_rfl
 simp only[ff,o0,o1,h0,h1,Tab,Iad,List.nil_append,nab,List.map_cons,Wab,List.cons_append];rw[if_neg (by simp)];dsimp only;rw[Tl (by simp),if_pos (by grind[JN,gb]),if_pos (by grind[Jo]),if_pos (by simp_all),JC (by decide),if_pos ⟨⟨rfl,rfl⟩,λ_=>by grind⟩];rfl
theorem wW{k c x:Int}(hk:k=2\/k=3) {env:GEnv}(hi:env.Inputs=[⟨k,0,x⟩]) (hx:Cn ⟨k,0,x⟩=true) (hc:Cn ⟨k,0,c⟩=true):gT (xB k c) env=decide (x<c):=by
 unfold gT;rw[if_neg (by simp[xB]),HT hk hi hx hc]
 grind[trV]
def nr(k:Int) (rs:List GRule):GScope:=GScope.mk (iaa #[104,111,117,115,101]) (-1) [GField.mk (iaa #[97]) (GType.mk k 0)] [GField.mk (iaa #[100]) (GType.mk 3 0)] rs
theorem E2{k:Int}{rs:List GRule}(h:(cA (nr k rs) 0 1).contains 0=false):ff (LB (nr k rs)) (nr k rs).Defs.length=none:=Ob.2 λi hi=>by
 have:i=0:=by grind[nr]
 subst this;unfold LB;rw[if_neg]
 grind[nr,pL]
theorem QV{k:Int}{rs:List GRule}(h:(cA (nr k rs) 0 1).contains 0=false) (hs:Wg (Ji k rs) 0 (nr k rs)=(0,0)):Nl (Ji k rs)=⟨0,0,0,0⟩:=by
 unfold Nl;simp only[show(Ji k rs).Enums.length=0 from rfl,show(Ji k rs).Tables.length=0 from rfl,show(Ji k rs).Scopes.length=1 from rfl,ff];rw[show(Ji k rs).Scopes[0]?=some (nr k rs)from rfl]
 simp_all
theorem FY{k:Int}{rs:List GRule}{date:Int}{r:List Int}(hv:Nl (Ji k rs)=⟨0,0,0,0⟩) (hd:0<=date/\date<=109572) (hf:((Ko (nr k rs) 0 date).any λg=>!Yk g (Ds (Ji k rs) (nr k rs)))=false)
 (hg:Vg (Ji k rs) (Ko (nr k rs) 0 date) (nr k rs) 1=[r]) (hr:¬4096<Mv [r]):wm (Ji k rs) 0 0 date=([r],0):=by
 unfold wm;rw[if_neg (by simp_all),if_neg (by simp[Ji]),show(Ji k rs).Scopes[(0:Int).toNat]?=some (nr k rs)from rfl];dsimp only;rw[if_neg (by simp[nr]),if_neg (by omega),if_neg (by simp_all),show(nr k rs).Inputs.length=1 from rfl,hg,if_neg hr]
def db:List GRule:=[yv (iaa #[98,97,115,101]) (-1) (xB 3 5) 1,yv (iaa #[109,111,114,101]) 0 (xB 3 9) 1]
theorem jW:(cA (nr 3 db) 0 1).contains 0=false:=by kernel_rfl
theorem sc25:Wg (Ji 3 db) 0 (nr 3 db)=(0,0):=by
 unfold Wg;rw[E2 jW];rfl
theorem DY:Vg (Ji 3 db) (Ko (nr 3 db) 0 100) (nr 3 db) 1=[[-1000000000000000,5,6,9,10]]:=by kernel_rfl
theorem r9{k:Int}{rs:List GRule}{date:Int}{env:GEnv}:jo (Ji k rs) (nr k rs) 0 date env=dC (va (nr k rs) 0 date).2.1 (va (nr k rs) 0 date).2.2 (sF (nr k rs) (va (nr k rs) 0 date).1 env):=rfl
theorem BW{x:Int}{env:GEnv}(hi:env.Inputs=[⟨3,0,x⟩]) (hx:Cn ⟨3,0,x⟩=true):jo (Ji 3 db) (nr 3 db) 0 100 env=dC [-1,0] [0,0] [decide (x<5),decide (x<9)]:=by
 rw[r9,show va (nr 3 db) 0 100=([0,1],[-1,0],[0,0]) by kernel_rfl];unfold sF;show dC [-1,0] [0,0] [gT (xB 3 5) env,gT (xB 3 9) env]=_;rw[wW (.inr rfl) hi hx (by decide),wW (.inr rfl) hi hx (by decide)]
theorem ok_T{k:Int}{rs:List GRule}(h:rs.length<=1048576/\∀r∈rs,r.Guard.length<=1048576/\r.Value.length<=1048576) (hs:∀r∈rs,r.Name.size<=1048576/\r.Source.size<=1048576/\(∀n∈r.Guard,wb n)/\∀n∈r.Value,wb n):LawOk (Ji k rs):=by
 have h1:ScOk (nr k rs):=⟨by simp[nr],h.1,h.2⟩;refine⟨by simp[Ji],by simp[Ji],by simp[Ji],by simp[Ji],by simp[Ji],λx hx=>?_⟩;have:x=nr k rs:=uab.1 hx;subst this;exact⟨(show(5:Nat)<=1048576 by decide),h1,by simp[nr],by simp[nr];decide,by simp[nr];decide,hs⟩
theorem gU:LawOk (Ji 3 db):=ok_T (by simp[db,yv,xB]) (by simp[db,yv,xB,wb];decide)
theorem pz:wm (Ji 3 db) 0 0 100=([[-1000000000000000,5,6,9,10]],0):=FY (QV jW sc25) (by decide) (by kernel_rfl) DY (by decide)
theorem EY{l:GLaw}{s s':GScope}{sc d date:Int}{g:List (List Int)}(ho:GridOk l s sc d date g) (h:l.Scopes[sc.toNat]?=some s'):GridOk l s' sc d date g:=by
 have:=ho.cs
 simp_all
theorem qD:GridOk (Ji 3 db) (nr 3 db) 0 0 100 [[-1000000000000000,5,6,9,10]]:=by
 obtain⟨s,ho⟩:=ZK gU (sc:=0) (d:=0) (date:=100) (by rw[pz]);rw[pz]at ho;exact EY ho rfl
theorem V1{r c:List Int}(h:sb [r] c):∃j:Int,c=[j]/\0<=j/\j<(r.length:Int):=by
 match c,h with
 |[j],h=>exact⟨j,rfl,h.1.1,h.1.2.1⟩
theorem gW{r:List Int}{j:Int}(h0:0<=j) (h1:j<(r.length:Int)) (h2:r.length<=1099511627776):sb [r] [j]:=⟨⟨h0,h1,h2⟩,trivial⟩
theorem T3{c:List Int}(h:sb [[-1000000000000000,5,6,9,10]] c):∃x,(Wo (Ji 3 db) (nr 3 db) 100 [[-1000000000000000,5,6,9,10]] c).Inputs=[⟨3,0,x⟩]/\Cn ⟨3,0,x⟩=true:=by
 obtain⟨j,rfl,h0,h1⟩:=V1 h;simp only[Jaa,List.length_nil]at h1;rcases(by omega:j=0\/j=1\/j=2\/j=3\/j=4)with rfl|rfl|rfl|rfl|rfl<;>exact⟨_,rfl,by decide⟩
theorem N9{x:Int}:dC [-1,0] [0,0] [decide (x<5),decide (x<9)]≠0:=by
 by_cases h:x<5
 .rw[decide_eq_true h,decide_eq_true (show x<9 by omega)];decide
 .rw[decide_eq_false h];by_cases h2:x<9<;>simp only[h2,decide_true,decide_false]<;>decide
theorem zW:¬Ms (Ji 3 db) (nr 3 db) 0 100 [[-1000000000000000,5,6,9,10]] 0:=λ⟨c,hc,ho⟩=>by
 obtain⟨x,hi,hx⟩:=T3 hc
 simp_all[BW,N9]
theorem iQ:jo (Ji 3 db) (nr 3 db) 0 100 (Wo (Ji 3 db) (nr 3 db) 100 [[-1000000000000000,5,6,9,10]] [0])=((1:Nat):Int):=by
 rw[BW (x:=-1000000000000000) rfl (by decide)];decide
theorem IX:Cd (Ji 3 db) 0 0 100=some ([0],0):=by
 rw[LN gU pz qD,show(va (nr 3 db) 0 100).1=[0,1] by kernel_rfl];unfold CF;have h0:pb (Ms (Ji 3 db) (nr 3 db) 0 100 [[-1000000000000000,5,6,9,10]] 0)=false:=pab.2 λh=>zW (HA.1 h);have h1:pb (Ms (Ji 3 db) (nr 3 db) 0 100 [[-1000000000000000,5,6,9,10]] 1)=true:=HA.2 ⟨[0],gW (by decide) (by decide) (by decide),iQ⟩
 grind[Tab]
theorem TV:kc (Ji 3 db) 0 1 100=some ([⟨3,0,-1000000000000000⟩],true,0):=by
 have hl:1<(va (nr 3 db) 0 100).1.length:=by rw[show(va (nr 3 db) 0 100).1=[0,1] by kernel_rfl];decide
 have hg:(va (nr 3 db) 0 100).1[1]=1:=by simp only[show(va (nr 3 db) 0 100).1=[0,1] by kernel_rfl];rfl
 rcases mF gU pz qD hl with⟨c,hc,-,e,h⟩|⟨h,-⟩
 .rw[hg]at e;rw[e,h iQ];rfl
 .exact absurd ⟨[0],gW (by decide) (by decide) (by decide),iQ⟩ h
theorem SV:kc (Ji 3 db) 0 0 100=some ([],false,0):=by
 have hl:0<(va (nr 3 db) 0 100).1.length:=by rw[show(va (nr 3 db) 0 100).1=[0,1] by kernel_rfl];decide
 have hg:(va (nr 3 db) 0 100).1[0]=0:=by simp only[show(va (nr 3 db) 0 100).1=[0,1] by kernel_rfl];rfl
 rcases mF gU pz qD hl with⟨c,hc,ho,-⟩|⟨-,e⟩
 .exact absurd ⟨c,hc,ho⟩ zW
 simp_all
theorem EE:bl=some true:=by
 unfold bl jr;simp only[daa];rw[show Ji 3 [yv _ (-1) [GNode.mk 7 0,GNode.mk 3 5,GNode.mk 21 0] 1,yv _ 0 [GNode.mk 7 0,GNode.mk 3 9,GNode.mk 21 0] 1]=Ji 3 db from rfl,IX,TV,SV];simp only[daa,Bs (l:=[0]) (by simp),if_true];unfold tt;rw[if_neg (by simp),kl (s':=1) rfl,Wf (b:=()) rfl];rfl
end Go.Proofs.Dev
namespace Go.Tm
end Go.Tm
namespace Go.Proofs.Dev
open Go Go.Tm
noncomputable def Rf(x7:List Int):((List Bool)×(List Int)×Int)->Option (Ex ((List Bool)×(List Int)×Int) ((List Bool)×(List Int)) Unit):=λ(s8,s9,s10)=>
 if s10<(x7.length:Int)then
  eaa (α:=((List Bool)×(List Int))) (
   (idx x7 s10).bind λx12=>
   (idx s8 x12).bind λx13=>
   if x13=false then
    (put s8 x12 true).bind λx15=>
    (app 8 s9 ([x12])).bind λx16=>
    some (x15,x16)
   else
   some (s8,s9)) λ(j17,j18)=>
  some (Ex.go (j17,j18,(da .i64 (s10+1))))
 else
 some (Ex.brk (s8,s9))
noncomputable def re(t0:(List (List Int))):((List Bool)×(List Int))->Option (Ex ((List Bool)×(List Int)) (List Bool) Unit):=λ(s2,s3)=>
 if 0<(s3.length:Int)then
  (idx s3 0).bind λx5=>
  (gC s3 1).bind λx6=>
  (idx t0 x5).bind λx7=>
  (fa (Rf x7) (s2,x6,0)).bind λy=>match y with
  |.inr _=>none
  |.inl (b22,b23)=>
  some (Ex.go (b22,b23))
 else
 some (Ex.brk s2)
noncomputable def Sf(b26:List Bool):((List Int)×Int)->Option (Ex ((List Int)×Int) (List Int) Unit):=λ(s27,s28)=>
 if s28<(b26.length:Int)then
  eaa (α:=(List Int)) (
   (idx b26 s28).bind λx30=>
   if x30=true then
    (app 8 s27 ([s28])).bind λx32=>
    some x32
   else
   some s27) λj33=>
  some (Ex.go (j33,(da .i64 (s28+1))))
 else
 some (Ex.brk s27)
noncomputable def Bp(t0:(List (List Int))) (t1:Int):Option (List Int):=
 (GD 1 false (t0.length:Int) (t0.length:Int)).bind λx1=>
 (fa (re t0) (x1,[t1])).bind λy=>match y with
 |.inr _=>none
 |.inl b26=>
 (fa (Sf b26) (([]:List Int),0)).bind λy=>match y with
 |.inr _=>none
 |.inl b36=>
 some b36
def visit(p:List Bool×List Int) (e:Int):List Bool×List Int:=if p.1[e.toNat]?=some true then p else(p.1.set e.toNat true,p.2++[e])
def Sn(s:List Bool) (b:Int):Prop:=s[b.toNat]?=some true
instance (s:List Bool) (b:Int):Decidable (Sn s b):=by unfold Sn;infer_instance
def cF(s:List Bool):Nat:=s.count false
theorem kO:∀{s:List Bool}{i:Nat},s[i]?=some false->cF (s.set i true)+1=cF s
 |[],i,h=>by simp at h
 |b::s,0,h=>by simp at h;subst h;simp[cF]
 |b::s,i+1,h=>by
  have:=kO (s:=s) (i:=i) (by simpa using h);unfold cF at this⊢;simp only[List.set_cons_succ,List.count_cons];omega
theorem U1(s:List Bool):cF s<=s.length:=List.count_le_length
structure Ok (n:Nat) (p:List Bool×List Int):Prop where
 len:p.1.length=n
 q:∀x∈p.2,0<=x/\x<n
 m:p.2.length+cF p.1<=n+1
theorem iJ{n:Nat}{p:List Bool×List Int}{e:Int}(h:Ok n p) (h0:0<=e) (h1:e<n) :
 Ok n (visit p e)/\(visit p e).2.length+cF (visit p e).1=p.2.length+cF p.1/\(∀b,0<=b->(Sn (visit p e).1 b↔Sn p.1 b\/b=e))/\(∀x,x∈(visit p e).2↔x∈p.2\/(x=e/\¬Sn p.1 e)):=by
 unfold visit;split
 .rename_i hs;refine⟨h,rfl,λb hb=>⟨.inl,λh=>?_⟩,λx=>⟨.inl,λh=>?_⟩⟩
  .rcases h with h|rfl
   .exact h
   .exact hs
  .rcases h with h|⟨rfl,h⟩
   .exact h
   .exact(h hs).elim
 .rename_i hs;have hlt:e.toNat<p.1.length:=by rw[h.len];omega
  have hf:p.1[e.toNat]?=some false:=by
   rw[faa hlt]at hs⊢
   cases hb:p.1[e.toNat]with
   |true=>rw[hb]at hs;exact(hs rfl).elim
   |false=>rfl
  have hc:=kO hf;have hm:=h.m;refine⟨⟨by simp[h.len],λx hx=>?_,?_⟩,?_,λb hb=>?_,λx=>?_⟩
  .rcases tab.1 hx with hx|hx
   .exact h.q x hx
   .rw[uab]at hx;subst hx;exact⟨h0,h1⟩
  .simp only[Oaa,Yaa];omega
  .simp only[Oaa,Yaa];omega
  .unfold Sn;rw[List.getElem?_set];by_cases hbe:e.toNat=b.toNat
   .rw[if_pos hbe,if_pos hlt];exact⟨λ_=>.inr (by omega),λ_=>rfl⟩
   .rw[if_neg hbe];exact⟨.inl,λh=>h.elim id λh=>(hbe (by rw[h])).elim⟩
  .rw[tab,uab];exact⟨λh=>h.imp id λh=>⟨h,hs⟩,λh=>h.imp id λh=>h.1⟩
theorem eG{n:Nat}:∀{l:List Int}{p:List Bool×List Int},Ok n p->(∀e∈l,0<=e/\e<n)->
 Ok n (l.foldl visit p)/\(l.foldl visit p).2.length+cF (l.foldl visit p).1=p.2.length+cF p.1/\(∀b,0<=b->(Sn (l.foldl visit p).1 b↔Sn p.1 b\/b∈l))/\(∀x,x∈(l.foldl visit p).2↔x∈p.2\/(x∈l/\¬Sn p.1 x))
 |[],p,h,_=>by simp[h]
 |e::l,p,h,hl=>by
  obtain⟨h0,h1⟩:=hl e (by simp);obtain⟨a1,a2,a3,a4⟩:=iJ h h0 h1;obtain⟨b1,b2,b3,b4⟩:=eG a1 (λx hx=>hl x (by simp[hx])) (l:=l);simp only[sab];refine⟨b1,by omega,λb hb=>?_,λx=>?_⟩
  .rw[b3 b hb,a3 b hb,oab];constructor
   .rintro((h|h)|h)
    .exact .inl h
    .exact .inr (.inl h)
    .exact .inr (.inr h)
   .rintro(h|h|h)
    .exact .inl (.inl h)
    .exact .inl (.inr h)
    .exact .inr h
  .rw[b4 x,a4 x,oab];constructor
   .rintro((h|⟨rfl,h⟩)|⟨h,h'⟩)
    .exact .inl h
    .exact .inr ⟨.inl rfl,h⟩
    .exact .inr ⟨.inr h,λhs=>h' ((a3 x (hl x (by simp[h])).1).2 (.inl hs))⟩
   .rintro(h|⟨rfl|h,h'⟩)
    .exact .inl (.inl h)
    .exact .inl (.inr ⟨rfl,h'⟩)
    .by_cases hxe:x=e
     .subst hxe;exact .inl (.inr ⟨rfl,h'⟩)
     .exact .inr ⟨h,λhs=>((a3 x (hl x (by simp[h])).1).1 hs).elim h' hxe⟩
theorem JL{i:Int}(h0:0<=i) (h1:i<9223372036854775807):da .i64 (i+1)=i+1:=MR ⟨by omega,by omega⟩
theorem aW{n:Nat}(hn:n<=1048576) {l:List Int}(hl:l.length<=1048576) (hle:∀e∈l,0<=e/\e<n):∀(k:Nat) {p:List Bool×List Int}{i:Nat},l.length-i=k->Ok n p->
 fa (Rf l) (p.1,p.2,(i:Int))=some (.inl ((l.drop i).foldl visit p))
 |0,p,i,hk,hp=>by
  rw[List.drop_eq_nil_of_le (by omega)];refine Wf ?_;unfold Rf;simp only;rw[if_neg (by omega)];rfl
 |k+1,p,i,hk,hp=>by
  have hi:i<l.length:=by omega
  obtain⟨h0,h1⟩:=hle l[i] (laa hi);have hlt:l[i].toNat<p.1.length:=by rw[hp.len];omega
  rw[List.drop_eq_getElem_cons hi,sab];have hstep:Rf l (p.1,p.2,(i:Int))=some (.go ((visit p l[i]).1,(visit p l[i]).2,((i+1:Nat):Int))):=by
   unfold Rf;simp only;rw[if_pos (by omega)];have e1:idx l (i:Int)=some l[i]:=by simp[idx,hi]
   have e2:idx p.1 l[i]=some p.1[l[i].toNat]:=by simp[idx,h0,hlt]
   have e3:da .i64 ((i:Int)+1)=((i+1:Nat):Int):=by rw[JL (by omega) (by omega)];omega
   rw[e1,daa,e2,daa,e3];unfold visit;rw[faa hlt]
   cases hb:p.1[l[i].toNat]with
   |true=>simp
   |false=>
    have e4:put p.1 l[i] true=some (p.1.set l[i].toNat true):=by simp[put,h0,hlt]
    have e5:app 8 p.2 [l[i]]=some (p.2++[l[i]]):=by
     have hm:=hp.m;unfold app;rw[if_pos];simp only[Yaa];omega
    rw[if_pos rfl,e4,daa,e5];simp
  rw[kl hstep];exact aW hn hl hle k (i:=i+1) (by omega) (iJ hp h0 h1).1
def UW(g:List (List Int)) (a b:Int):Prop:=b=a\/ReachL g a b
structure Bfs (g:List (List Int)) (a:Int) (p:List Bool×List Int):Prop where
 ok:Ok g.length p
 sound:∀b,0<=b->Sn p.1 b->ReachL g a b
 qs:∀x∈p.2,UW g a x
 done:∀b,0<=b->(b=a\/Sn p.1 b)->b∈p.2\/∀l,g[b.toNat]?=some l->∀c∈l,Sn p.1 c
theorem Z0{g:List (List Int)}{a:Int}(hn:g.length<=1048576) (hg:∀l∈g,l.length<=1048576/\∀e∈l,0<=e/\e<g.length):∀(k:Nat) {p:List Bool×List Int},p.2.length+cF p.1=k->Bfs g a p->
 ∃s,fa (re g) p=some (.inl s)/\Bfs g a (s,[]):=by
 intro k
 induction k with
 |zero=>
  intro p hk hp;obtain⟨s,q⟩:=p;have:q=[]:=List.eq_nil_of_length_eq_zero (by dsimp only at hk;omega);subst this;exact⟨s,Wf (by simp[re]),hp⟩
 |succ k ih=>
  intro p hk hp;obtain⟨s,q⟩:=p
  cases q with
  |nil=>exact⟨s,Wf (by simp[re]),hp⟩
  |cons d q=>
   obtain⟨d0,d1⟩:=hp.ok.q d (by simp);have hd:d.toNat<g.length:=by omega
   obtain⟨gl,ge⟩:=hg g[d.toNat] (laa hd);have hok:Ok g.length (s,q):=⟨hp.ok.len,λx hx=>hp.ok.q x (by simp[hx]),by have:=hp.ok.m;simp only[Jaa]at this⊢;omega⟩;obtain⟨v1,v2,v3,v4⟩:=eG hok ge (l:=g[d.toNat]);have hstep:re g (s,d::q)=some (.go (g[d.toNat].foldl visit (s,q))):=by
    unfold re;simp only;rw[if_pos (by simp)];have e1:idx (d::q) 0=some d:=rfl;have e2:gC (d::q) 1=some q:=by simp[gC]
    have e3:idx g d=some g[d.toNat]:=by simp[idx,d0,hd]
    have e4:=aW hn gl ge _ (p:=(s,q)) (i:=0) rfl hok;simp only[List.drop_zero,Uac]at e4;rw[e1,daa,e2,daa,e3,daa,e4];rfl
   rw[kl hstep];have hk2:q.length+cF s=k:=by simp only[Jaa]at hk;omega
   refine ih (by rw[v2];exact hk2) ⟨v1,λb hb hs=>?_,λx hx=>?_,λb hb hbs=>?_⟩
   .rcases(v3 b hb).1 hs with h|h
    .exact hp.sound b hb h
    .rcases hp.qs d (by simp)with rfl|hr
     .exact .one (faa hd) h
     .exact .step hr (faa hd) h
   .rcases(v4 x).1 hx with h|⟨h,-⟩
    .exact hp.qs x (by simp[h])
    .right;rcases hp.qs d (by simp)with rfl|hr
     .exact .one (faa hd) h
     .exact .step hr (faa hd) h
   .have up:∀c,0<=c->Sn s c->Sn (g[d.toNat].foldl visit (s,q)).1 c:=λc hc h=>(v3 c hc).2 (.inl h);by_cases hbd:b=d
    .subst hbd;right;intro l hl c hc;rw[faa hd]at hl;injection hl with hl;subst hl;exact(v3 c (ge c hc).1).2 (.inr hc)
    .have key:(b=a\/Sn s b)\/(b∈g[d.toNat]/\¬Sn s b):=by
      rcases hbs with h|h
      .exact .inl (.inl h)
      .rcases(v3 b hb).1 h with h|h
       .exact .inl (.inr h)
       .by_cases hs:Sn s b
        .exact .inl (.inr hs)
        .exact .inr ⟨h,hs⟩
     rcases key with h|h
     .rcases hp.done b hb h with h|h
      .rcases oab.1 h with h|h
       .exact(hbd h).elim
       .exact .inl ((v4 b).2 (.inl h))
      .right;intro l hl c hc;have hm:l∈g:=Eaa hl;exact up c ((hg l hm).2 c hc).1 (h l hl c hc)
     .exact .inl ((v4 b).2 (.inr h))
theorem bW{s:List Bool}(hs:s.length<=1048576):∀(k:Nat) {i:Nat},s.length-i=k->i<=s.length->
 fa (Sf s) (((yaa i).map λ(k:Nat)=>(k:Int)).filter (λb=>decide (Sn s b)),(i:Int))=some (.inl (((yaa s.length).map λ(k:Nat)=>(k:Int)).filter λb=>decide (Sn s b)))
 |0,i,hk,hi=>by
  have:i=s.length:=by omega
  subst this;refine Wf ?_;unfold Sf;simp
 |k+1,i,hk,hi=>by
  have hlt:i<s.length:=by omega
  have hlen:(((yaa i).map λ(k:Nat)=>(k:Int)).filter (λb=>decide (Sn s b))).length<=i:=Nat.le_trans (List.length_filter_le _ _) (by simp);have hstep:Sf s (((yaa i).map λ(k:Nat)=>(k:Int)).filter (λb=>decide (Sn s b)),(i:Int))=some (.go (((yaa (i+1)).map λ(k:Nat)=>(k:Int)).filter (λb=>decide (Sn s b)),((i+1:Nat):Int))):=by
   unfold Sf;simp only;rw[if_pos (by omega)];have e1:idx s (i:Int)=some s[i]:=by simp[idx,hlt]
   have e3:da .i64 ((i:Int)+1)=((i+1:Nat):Int):=by rw[JL (by omega) (by omega)];omega
   rw[e1,daa,e3,Tab,nab,rab]
   cases hb:s[i]with
   |true=>
    have hsn:Sn s ((i:Nat):Int):=by unfold Sn;simp[hlt,hb]
    have e5:app 8 (((yaa i).map λ(k:Nat)=>(k:Int)).filter (λb=>decide (Sn s b))) [(i:Int)]=some (((yaa i).map λ(k:Nat)=>(k:Int)).filter (λb=>decide (Sn s b))++[(i:Int)]):=by
     unfold app;rw[if_pos];simp only[Yaa];omega
    rw[if_pos rfl,e5];simp[hsn]
   |false=>
    have hsn:¬Sn s ((i:Nat):Int):=by unfold Sn;simp[hlt,hb]
    rw[if_neg (by simp)];simp[hsn]
  rw[kl hstep];exact bW hs k (i:=i+1) (by omega) (by omega)
theorem rN{t0:List (List Int)}{t1:Int}{r:List Int}(h:Vl t0 t1=some r):Bp t0 t1=some r:=by
 unfold Vl at h;split at h
 .rename_i hc;obtain⟨hn,hg,h0,h1⟩:=hc;obtain rfl:=Iaa h;unfold Bp;have e1:GD 1 false (t0.length:Int) (t0.length:Int)=some (jaa t0.length false):=by
   unfold GD;rw[if_pos ⟨by omega,by omega,by omega,by simp;omega⟩];simp
  have hb:Bfs t0 t1 (jaa t0.length false,[t1]):=by
   have hno:∀b,¬Sn (jaa t0.length false) b:=λb hb=>by
    unfold Sn at hb;rw[List.getElem?_replicate]at hb;split at hb<;>simp at hb
   refine⟨⟨by simp,λx hx=>?_,?_⟩,λb _ hs=>(hno b hs).elim,λx hx=>?_,λb _ hs=>?_⟩
   .rw[uab]at hx;subst hx;exact⟨h0,h1⟩
   .have:=U1 (jaa t0.length false);simp only[List.length_replicate,Yaa]at this⊢;omega
   .rw[uab]at hx;exact .inl hx
   .rcases hs with rfl|hs
    .exact .inl (by simp)
    .exact(hno b hs).elim
  obtain⟨s,e2,hb⟩:=Z0 hn hg _ rfl hb;have hlen:s.length=t0.length:=hb.ok.len;have e3:=bW (s:=s) (by omega) _ (i:=0) rfl (by omega);simp only[Iad,Wab,List.filter_nil,Uac]at e3;rw[e1,daa,e2,daa];simp only;rw[e3,daa];simp only;rw[hlen];unfold QD;congr 1;apply List.filter_congr;intro b hbm;obtain⟨k,-,rfl⟩:=hac.1 hbm;have hfull:∀b,ReachL t0 t1 b->0<=b/\Sn s b:=by
   intro b hr
   induction hr with
   |one h hb2=>
    have hm:=Eaa h;refine⟨((hg _ hm).2 _ hb2).1,?_⟩;rcases hb.done t1 h0 (.inl rfl)with h'|h'
    .cases h'
    .exact h' _ h _ hb2
   |step _ hl hc ih=>
    have hm:=Eaa hl;refine⟨((hg _ hm).2 _ hc).1,?_⟩;rcases hb.done _ ih.1 (.inr ih.2)with h'|h'
    .cases h'
    .exact h' _ hl _ hc
  exact decide_eq_decide.2 ⟨λh=>hb.sound _ (by omega) h,λh=>(hfull _ h).2⟩
 .cases h
end Go.Proofs.Dev
