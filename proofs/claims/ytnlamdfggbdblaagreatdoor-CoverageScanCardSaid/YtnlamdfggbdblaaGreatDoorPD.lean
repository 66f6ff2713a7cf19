/-
  The functions as plain partial functions, and plain lemmas about them: no condition.
-/
import Derived.Test.YtnlamdfggbdblaaGreatDoorPC
import Derived.Test.YtnlamdfggbdblaaGreatDoorPB
import Derived.KernelRfl
import Derived.Test.YtnlamdfggbdblaaGreatDoorPA
open Bool renaming and_eq_true->laa,false_eq_true->haa
open ByteArray renaming mk->faa
open Classical renaming not_not->vaa
open Int renaming eq_ofNat_of_zero_le->dab,natCast_zero->Kac,reduceEq->maa
open List renaming filter_append->iab,filter_cons->jad,filter_nil->yac,foldl_cons->mab,getElem?_append_left->tab,getElem?_eq_getElem->caa,getElem?_eq_some_iff->yaa,getElem_mem->iaa,getElem_of_mem->Aaa,length_append->Iaa,length_cons->Daa,length_filter_le->Qaa,length_singleton->Saa,map_append->aab,map_cons->Gaa,map_nil->Fab,mem_append->bab,mem_cons->gab,mem_map->Xab,mem_of_getElem?->Caa,mem_singleton->jab,range->uaa,range_succ->Mab,range_zero->qad,replicate->gaa
open Nat renaming le_refl->oaa,le_trans->kab
open Option renaming bind->baa,bind_some->aaa
open Option.some renaming inj->Faa,injEq->Maa
set_option linter.all false
set_option maxRecDepth 10000
set_option maxHeartbeats 1000000
namespace Go.Proofs.Dev
open Go Go.Tm
def DK(n:Nat) (x:Int):Prop:=x = -1\/x = -2\/(0<=x/\x<(n:Int))
theorem LP{t1:List Int}{out:Int->Int}{l:List Int}{n:Nat}(h:∀x∈l,DK n (out x)):DK n (rC t1 out l):=by
 unfold rC;have hs:=xn (t1:=t1) (out:=out) (l:=l);split
 .exact .inl rfl
 .simp_all
 .exact .inr (.inl rfl)
theorem ZV{t0 t1:List Int}{t2:List Bool}:∀(k:Nat) (i:Int),0<=i->i<(t0.length:Int)->DK t0.length (oc t0 t1 t2 k i)
 |0,i,_,_=>.inl rfl
 |k+1,i,h0,h1=>by
  unfold oc;split
  .exact .inr (.inr ⟨h0,h1⟩)
  .exact LP λx hx=>by
    obtain⟨j,rfl,hj,-⟩:=Uy hx;exact ZV k _ (by omega) (by omega)
theorem LU(t0 t1:List Int) (t2:List Bool):DK t0.length (Gt t0 t1 t2):=by
 unfold Gt;split
 .exact LP λx hx=>by
   obtain⟨j,rfl,hj,-⟩:=Uy hx;exact ZV t0.length _ (by omega) (by omega)
 .exact .inl rfl
def wB(s:GScope) (d x:Int):Bool:=decide (d=x) || (Iy s d s.Defs.length).contains x
theorem Valid.kl{l:GLaw}(hV:Valid l) {i:Nat}(hi:i<l.Scopes.length):∀f∈l.Scopes[i].Inputs,ja f.Type_ l.Enums=true:=by
 intro f hf;obtain⟨k,hk,rfl⟩:=Aaa hf;have h:=hV.s i hi;generalize l.Scopes[i]=x at h hk⊢;unfold kg at h
 repeat' split at h
 all_goals first|(simp at h;done)|skip
 .rename_i v hv;exact(VC fP hv h).elim
 .rename_i v hv;exact(VC uK hv h).elim
 .rename_i v hv;exact(VC fL hv h).elim
 .have hin:ff (vM l x) x.Inputs.length=none:=by omega
  have:=Xb.1 hin k hk;unfold vM at this;rw[caa hk]at this
  grind[xr]
theorem Valid.mem0{l:GLaw}(h:Valid l):∀x∈l.Enums,0<x.Members.length:=by
 intro x hx;obtain⟨i,hi,rfl⟩:=Aaa hx;have h1:=h.e i hi
 grind[bf]
theorem jF{t:GType}{e:List GEnum}(hv:ja t e=true):(t.Kind=1/\t.Enum=0/\oh t e=(0,1))\/(t.Kind=2/\t.Enum=0/\oh t e=(-1000000000000,1000000000000))\/(t.Kind=3/\t.Enum=0/\oh t e=(-1000000000000000,1000000000000000))\/
 (t.Kind=4/\t.Enum=0/\oh t e=(-1000000000,1000000000))\/(t.Kind=5/\t.Enum=0/\oh t e=(0,109572))\/(t.Kind=6/\0<=t.Enum/\t.Enum<(e.length:Int)/\∃x∈e,oh t e=(0,ea .i64 ((x.Members.length:Int)-1))):=by
 have hb:=xl t e;unfold We at hb;rw[Oa,aaa,hv]at hb;simp only[Bool.true_eq_false,if_false]at hb;unfold ja at hv;by_cases h6:t.Kind=6
 .rw[if_pos h6]at hv;simp only[laa,decide_eq_true_eq]at hv;simp only[h6,maa,if_false]at hb
  grind[Di]
 .rw[if_neg h6]at hv;simp only[laa,decide_eq_true_eq,beq_iff_eq]at hv;rcases(by omega:t.Kind=1\/t.Kind=2\/t.Kind=3\/t.Kind=4\/t.Kind=5)with h|h|h|h|h<;>simp only[h,maa,if_true,if_false,Maa]at hb<;>simp[h,hv.2,←hb]
theorem lA{l:GLaw}(hV:Valid l) {t:GType}(hv:ja t l.Enums=true):(oh t l.Enums).1<=(oh t l.Enums).2/\∀n,(oh t l.Enums).1<=n->n<=(oh t l.Enums).2->Qd ⟨t.Kind,t.Enum,n⟩:=by
 have hne:=hV.ne;unfold Qd;rcases jF hv with⟨h1,h2,h3⟩|⟨h1,h2,h3⟩|⟨h1,h2,h3⟩|⟨h1,h2,h3⟩|⟨h1,h2,h3⟩|⟨h1,h2,h4,x,hx,h3⟩
 all_goals rw[h3]
 all_goals first|(refine⟨by decide,λn a b=>?_⟩;simp_all)|skip
 have m0:=hV.mem0 x hx;have m1:=hV.mem x hx
 grind[wid]
theorem GI(lo:Int):∀{k i:Nat},i<k->(qE lo k)[i]?=some (lo+i)
 |k+1,i,h=>by
  have hl:=wu lo k;unfold qE;by_cases hi:i<k
  .rw[tab (by omega)];exact GI lo hi
  grind
theorem dL{l:GLaw}(hV:Valid l) {t:GType}(hv:ja t l.Enums=true) (cuts:List Int):0<(JG t l.Enums cuts).length/\∀x∈JG t l.Enums cuts,(oh t l.Enums).1<=x/\x<=(oh t l.Enums).2:=by
 have hb:=(lA hV hv).1;unfold JG;rw[if_neg (by omega)];by_cases hk:t.Kind=1\/t.Kind=6
 .rw[if_pos hk,wu];refine⟨by omega,λx hx=>?_⟩;obtain⟨i,hi,rfl⟩:=Aaa hx;have hi':=hi;rw[wu]at hi';have:=GI (oh t l.Enums).1 hi'
  grind
 .rw[if_neg hk];have hd:=Xl ([(oh t l.Enums).1]++cuts.filter λc=>decide ((oh t l.Enums).1<=c)&&decide (c<=(oh t l.Enums).2));constructor
  .have:=List.length_pos_of_mem ((hd.2.2 (oh t l.Enums).1).2 (by simp));omega
  simp_all
theorem Wx(l:GLaw) (gs:List (List GNode)) (s:GScope):∀k,k<=s.Inputs.length->(ui l gs s k).length=k
 |0,_=>rfl
 |k+1,h=>by
  have ih:=Wx l gs s k (by omega)
  grind[ui]
theorem iD(l:GLaw) (gs:List (List GNode)) (s:GScope):∀k,k<=s.Inputs.length->∀i (hi:i<k) (h2:i<s.Inputs.length),(ui l gs s k)[i]?=some (TE l gs s.Inputs[i] i)
 |k+1,h,i,hi,h2=>by
  have hl:=Wx l gs s k (by omega);unfold ui;by_cases hik:i<k
  .rw[tab (by omega)];exact iD l gs s k (by omega) i hik h2
  grind
structure GridOk (l:GLaw) (s:GScope) (sc d date:Int) (g:List (List Int)):Prop where
 cv:(Ol l).Code=0
 csc:0<=sc/\sc<(l.Scopes.length:Int)
 cs:l.Scopes[sc.toNat]?=some s
 cd:0<=d/\d<(s.Defs.length:Int)
 cdt:0<=date/\date<=109572
 flat:∀e∈Yo s d date,Yk e (js l s)=true
 eq:g=ui l (Yo s d date) s s.Inputs.length
 len:g.length=s.Inputs.length
 row:∀i (h:i<s.Inputs.length),g[i]?=some (TE l (Yo s d date) s.Inputs[i] i)
 pos:∀r∈g,0<r.length/\r.length<=1099511627776
 le:ue g<=4096
theorem zG{l:GLaw}(h:LawOk l) {sc d date:Int}(hg:(bl l sc d date).2=0):∃s,GridOk l s sc d date (bl l sc d date).1:=by
 unfold bl at hg⊢;split at hg
 .omega
 split at hg
 .omega
 split at hg
 .omega
 split at hg
 .omega
 split at hg
 .omega
 split at hg
 .omega
 split at hg
 .omega
 rename_i hv hsc _ s hs hd hdt hfl hc;rw[if_neg hv,if_neg hsc];(try (rw[hs];dsimp only));rw[if_neg hd,if_neg hdt,if_neg hfl,if_neg hc];have hV:=xu (vaa.1 hv);have hi:sc.toNat<l.Scopes.length:=by omega
 have hsi:l.Scopes[sc.toNat]=s:=by simp_all
 have hfl':∀e∈Yo s d date,Yk e (js l s)=true:=λe he=>by
  simp_all
 have hlen:=Wx l (Yo s d date) s s.Inputs.length (oaa _);have hget:=iD l (Yo s d date) s s.Inputs.length (oaa _);have hsm:=h.s s (Caa hs);have hinv:=mn (l:=l) hV.mem (gs:=Yo s d date) (by have:=pz s d date;have:=hsm.2.1.rules;omega) (λg hg=>Zk (hfl' g hg)) s s.Inputs.length;have hpos:∀r∈ui l (Yo s d date) s s.Inputs.length,0<r.length:=λr hr=>by
  obtain⟨i,hi2,rfl⟩:=Aaa hr;have h2:i<s.Inputs.length:=by omega
  have e:=hget i h2 h2;rw[caa hi2]at e;rw[Faa e];unfold TE;split
  .have hvt:ja s.Inputs[i].Type_ l.Enums=true:=hV.kl hi _ (by simp_all)
   grind[dL]
  simp
 exact⟨s,vaa.1 hv,by omega,hs,by omega,by omega,hfl',rfl,hlen,λi hi=>hget i hi hi,λr hr=>⟨hpos r hr,by grind⟩,show ue (ui l (Yo s d date) s s.Inputs.length)<=4096 from TN hpos (by omega)⟩
theorem Yt{e:List GNode}{s:GSignature}(h:Yk e s=true):∀i,i<e.length->Yn e i=true:=by
 simp_all[Yk,Xb]
theorem Jw{e:List GNode}(hw:Wst e) (hf:∀i,i<e.length->Yn e i=true) (env:GEnv):(∀i,i<e.length->NodeP e env i)/\Hb e env=some (Cn e env (e.length-1)):=by
 have hn:∀i,i<e.length->NodeP e env i:=HJ hw λj hj hl=>ZC (by grind[Pn,ot]) ((nz (hf j hj)).resolve_right λh=>hl (by omega));exact⟨hn,(uN hw (hn _ (by have:=hw.pos;omega))).1⟩
theorem mz{e:List GNode}(hw:Wst e) (hf:∀i,i<e.length->Yn e i=true) (env:GEnv):FB (Hb e env):=by
 have hn:∀i,i<e.length->NodeP e env i:=(Jw hw hf env).1;have:=uN hw (hn _ (by have:=hw.pos;omega));exact⟨_,this.1,this.2⟩
theorem qz{s:GScope}{d date x:Int}(hx:x∈(db s d date).1) (h0:(Bx s x).length≠0):Bx s x∈Yo s d date:=by
 unfold Yo dD;rw[List.mem_filter];exact⟨Xab.2 ⟨x,hx,rfl⟩,by grind⟩
noncomputable def lu(l:GLaw) (s:GScope) (d date:Int) (env:GEnv):Int:=Gt (db s d date).2.1 (db s d date).2.2 (jr s (db s d date).1 env)
theorem cA(s:GScope) (d date:Int):(db s d date).2.1.length=(db s d date).1.length/\(db s d date).1.length<=s.Rules.length:=by
 have h:=Il (rules:=s.Rules) (q:=Bv d date) s.Rules.length;exact⟨h.2.2,h.2.1⟩
theorem XJ(a b:GCoverageHole):Ch a b=some (decide (a.Outcome=b.Outcome/\a.RuleA=b.RuleA/\a.RuleB=b.RuleB)):=by
 grind[Ch]
theorem vA{l:List GCoverageHole}(hl:l.length<=1048576) (o:GCoverageHole):wa l (λx=>jb x o)=some (l.any λa=>decide (a.Outcome=o.Outcome/\a.RuleA=o.RuleA/\a.RuleB=o.RuleB)):=by
 have h:=Vl (l:=l) (p:=λx=>jb x o) (λa=>decide (a.Outcome=o.Outcome/\a.RuleA=o.RuleA/\a.RuleB=o.RuleB)) (λx _=>by grind[jb,XJ]) (by omega) (o:=fa (Ma l (λx=>jb x o)) 0) (by unfold Ma;rfl);have h':wa l (λx=>jb x o)=some (l.any λa=>decide (a.Outcome=o.Outcome/\a.RuleA=o.RuleA/\a.RuleB=o.RuleB)):=h;omega
def Pp(l:GLaw) (s:GScope) (date:Int) (g:List (List Int)) (c:List Int):GEnv:=⟨date,Mn s.Inputs g c,[],[],[],l.Tables⟩
structure HolesI (l:GLaw) (s:GScope) (d date:Int) (g:List (List Int)) (k:Nat) (hs:List GCoverageHole):Prop where
 len:hs.length<=k
 all:∀o∈hs,∃c,Sc g c/\o.Inputs=Mn s.Inputs g c/\o.Outcome=lu l s d date (Pp l s date g c)/\o.Outcome<0
theorem dH{l:GLaw}(h:LawOk l) {sc d date:Int}{s:GScope}{g:List (List Int)}(hg:bl l sc d date=(g,0)) (ho:GridOk l s sc d date g) :
 ∃hs,Ca l sc d date=some (hs,0)/\HolesI l s d date g 4096 hs/\(hs=[]->∀c,Sc g c->0<=lu l s d date (Pp l s date g c)):=by
 have hsm:=h.s s (Caa ho.cs);have htl:=cA s d date;have hrl:=hsm.2.1.rules;have hm:=Fo (rules:=s.Rules) (q:=Bv d date) s.Rules.length;have hm':∀x∈(db s d date).1,0<=x/\x<(s.Rules.length:Int):=λx hx=>⟨(hm x hx).1,(hm x hx).2.1⟩;have ht:∀(env:GEnv),∀x∈(db s d date).1,(Bx s x).length≠0->FB (Hb (Bx s x) env):=λenv x hx h0=>by
  have hf:=ho.flat _ (qz hx h0)
  grind[mz,Zk,Yt]
 unfold Ca;rw[Mj h,hg,aaa,if_neg (by simp),Di ho.csc.1 ho.csc.2,aaa];have es:l.Scopes[sc.toNat]'(by have:=ho.csc;omega)=s:=by
  have:=ho.cs
  grind
 rw[es,kn hrl,aaa];dsimp only;have hgl:g.length<=1048576:=by rw[ho.len];omega
 rw[UB (by omega) (by omega),aaa];obtain⟨c0,r0⟩:=QN ho.pos;obtain⟨hs,h1,h2,h3⟩:=aJ (g:=g) (step:=Ka l date (g,0) s (db s d date)) (HolesI l s d date g) (λhs c=>0<=lu l s d date (Pp l s date g c)\/hs≠[]) (λhs=>hs) (λhs c hc hI=>by
  have hlt:=zB hc;have hle:=ho.le;unfold Ka;dsimp only;rw[if_pos rfl];have e1:yb (g,0) s c=some (Mn s.Inputs g c):=by
   unfold yb;rw[Kw hsm.2.2.1 ho.len hc (step:=Ab (g,0) s c) (λa i=>by grind[Ab])];rfl
  have e2:zb (g,0) c=some (Bg g c):=by
   grind[zb,fc,pK]
  rw[e1,aaa,Rq (by omega) hm' (ht _),aaa,Gf,aaa,e2];have eo:Gt (db s d date).2.1 (db s d date).2.2 (jr s (db s d date).1 ⟨date,Mn s.Inputs g c,[],[],[],l.Tables⟩)=lu l s d date (Pp l s date g c):=rfl;rw[eo];by_cases hp:0<=lu l s d date (Pp l s date g c)
  .rw[if_pos hp,aaa,aaa];exact⟨hs,rfl,⟨by have:=hI.len;omega,hI.all⟩,.inl hp,λ_ h=>h⟩
  .rw[if_neg hp];obtain⟨a,b,hab⟩:∃a b,(if lu l s d date (Pp l s date g c)=(-2)then
    (kb (db s d date).2.1 (db s d date).2.2 (jr s (db s d date).1 ⟨date,Mn s.Inputs g c,[],[],[],l.Tables⟩)).bind λx26=>(idx (db s d date).1 x26.1).bind λx27=>(idx (db s d date).1 x26.2.1).bind λx28=>some (x27,x28)
    else some ((-1),(-1)))=some (a,b):=by
    by_cases h2:lu l s d date (Pp l s date g c)=(-2)
    .obtain⟨a,b,ok,q1,q2,q3⟩:=wC (eo.trans h2);rw[if_pos h2,q1,aaa,Di q2.1 (by omega),aaa,Di q3.1 (by omega),aaa];simp
    simp_all
   rw[hab,aaa];dsimp only;have hl:=hI.len;rw[vA (by omega),aaa]
   cases hany:hs.any λx=>decide (x.Outcome=lu l s d date (Pp l s date g c)/\x.RuleA=a/\x.RuleB=b)with
   |true=>
    rw[if_neg (by simp),aaa,aaa];exact⟨hs,rfl,⟨by omega,hI.all⟩,.inr (λh=>by simp_all),λ_ h=>h⟩
   |false=>
    rw[if_pos rfl,Xe (by grind),aaa,aaa,aaa];refine⟨_,rfl,⟨by simp_all,λo hm=>?_⟩,.inr (by simp),λ_ h=>h.imp id λ_=>by simp⟩;rcases bab.1 hm with hm|hm
    .exact hI.all o hm
    grind) (λhs c=>by simp_all[Ka]) c0 r0 (s0:=[]) ⟨by simp,λo h=>by grind⟩
 rw[h1,aaa];exact⟨hs,rfl,⟨by have:=h2.len;have:=ho.le;omega,h2.all⟩,λhe c hc=>(h3 c hc).resolve_right λh=>h he⟩
theorem type7{N:Int}{s:GSignature}{r:GType×Int}(h:Ra ⟨7,N⟩ [] s=some r) (h0:r.2=0):∃t,0<=N/\s.Inputs[N.toNat]?=some t/\r.1=t:=by
 have hu:=Ha (op:=7) (by omega);have hus:cc 7=true:=rfl;unfold Ra ra Ob at h;simp only[hu,hus,Na,Zt]at h;by_cases hr:0<=N/\N<(s.Inputs.length:Int)
 .refine⟨s.Inputs[N.toNat]'(by omega),hr.1,caa (by omega),?_⟩;have e1:¬N<0:=by omega
  have e2:¬(s.Inputs.length:Int)<=N:=by omega
  rw[Di hr.1 hr.2]at h;generalize s.Inputs[N.toNat]'(by omega)=t at h⊢;cases hv:ja t s.Enums
  all_goals grind
 grind
theorem XM{e:List GNode}{s:GSignature}(hN:∀n∈e,xb n) (h:Yk e s=true) (h7:(ua e (e.length-1)).Op=7):∃t,0<=(ua e (e.length-1)).N/\s.Inputs[(ua e (e.length-1)).N.toNat]?=some t/\t.Kind=1:=by
 have hw:=Zk h;unfold Yk at h;simp only[laa,decide_eq_true_eq,beq_iff_eq]at h;obtain⟨⟨h0,h1,-⟩,-⟩:=h;unfold Kn at h0 h1;rw[vp hw]at h0 h1;simp only[if_true]at h0 h1;have hpos:=hw.pos
 cases hf:ff (tx e s) e.length with
 |some v=>
  rw[hf]at h0;obtain⟨i,-,hv,-⟩:=Ta.1 hf;unfold tx at hv
  grind
 |none=>
  rw[hf]at h1;have ht:=Xb.1 hf;have hlast:=ht (e.length-1) (by omega);have hat:=AD hw hN (i:=e.length-1) (by omega) (λj hj=>ht j (by omega));have hinv:=(ct hw hN e.length (oaa _) ht).1;have hone:=hw.one;have har:Yb e (e.length-1)=0:=by unfold Yb;rw[h7];decide
  rw[har,Nat.sub_zero,List.drop_length]at hat;unfold tx at hlast;split at hlast
  case isFalse=>simp_all
  rename_i hz;have es:oq e s e.length=oq e s (e.length-1)++[(xw e s (oq e s (e.length-1)) (e.length-1)).1]:=by
   conv=>lhs;rw[show e.length=(e.length-1)+1 by omega]
   simp_all[oq]
  have hnil:oq e s (e.length-1)=[]:=by
   grind
  rw[es,hnil]at h1;rw[hnil]at hat hz;simp at h1;generalize ua e (e.length-1)=n at h7 hat⊢;obtain⟨op,N⟩:=n;dsimp only at h7;subst h7;obtain⟨t,t1,t2,t3⟩:=type7 hat hz
  simp_all
structure InpOk (l:GLaw) (s:GScope) (kl:List GValue):Prop where
 len:kl.length=s.Inputs.length
 ty:∀i (h:i<s.Inputs.length) (h2:i<kl.length),kl[i].Kind=s.Inputs[i].Type_.Kind/\kl[i].Enum=s.Inputs[i].Type_.Enum/\(oh s.Inputs[i].Type_ l.Enums).1<=kl[i].N/\kl[i].N<=(oh s.Inputs[i].Type_ l.Enums).2
theorem iP{fs:List GField}{g:List (List Int)}{c:List Int}{i:Nat}(hi:i<fs.length):(Mn fs g c)[i]?=some (qD fs g c i):=by
 grind[Mn]
def ZZ(f:GFact):Prop:=f.Id<0\/(f.Member < -1\/8<=f.Member)\/(f.Input < -1\/12<=f.Input)\/(f.Member = -1/\f.Input = -1)\/neB f.Valid=false\/(f.Recorded<0\/109572<f.Recorded)
instance (f:GFact):Decidable (ZZ f):=by unfold ZZ;infer_instance
def w0(f:GFact):Prop:=(f.Value.Kind<1\/6<f.Value.Kind)\/(f.Input = -1/\¬f.Value.Kind=1)
instance (f:GFact):Decidable (w0 f):=by unfold w0;infer_instance
def below(g f:GFact):Prop:=g.Recorded<f.Recorded\/(g.Recorded=f.Recorded/\g.Id<=f.Id)
instance (g f:GFact):Decidable (below g f):=by unfold below;infer_instance
theorem oD{α:Type}{l:List α}{i:Int}(h:(idx l i).isSome=true):∃x,idx l i=some x:=Option.isSome_iff_exists.1 h
theorem aT{e:List GNode}{z:GEnv}{j:Nat}(hp:NodeP e z j) (h7:(ua e j).Op=7) (h0:(Cn e z j).2=0) (hpl:∀v∈z.Inputs,Qd v):z.Inputs[(ua e j).N.toNat]?=some (Cn e z j).1:=by
 have har:Yb e j=0:=by unfold Yb;rw[h7];decide
 have ax:Pn e z j=[]:=by grind[Pn]
 have hq:Cn e z j=(ab (ua e j) [] z).getD (⟨0,0,0⟩,0):=by
  rw[hp.q,uG (by unfold Bm;omega),har,PV,ax]
 rw[hq,Sl (by simp)]at h0⊢;split at h0
 .split at h0
  .rename_i h1 h2;have al:([]:List GValue).all Nn=true:=rfl;rw[if_pos h1,if_pos h2,if_pos al];have hin:=h2;unfold Ko at hin;rw[if_pos h7,decide_eq_true_eq]at hin;have hx:idx z.Inputs (ua e j).N=some (z.Inputs[(ua e j).N.toNat]'(by omega)):=Di hin.1 hin.2;have c:=Xy hx (decide_eq_true (hpl _ (iaa _)));rw[show Xc (ua e j) [] z=Xc ⟨7,(ua e j).N⟩ [] z by rw[←h7],c,caa (by omega)];rfl
  simp_all
 simp_all
theorem BJ{e:List GNode}{s:GSignature}(hN:∀n∈e,xb n) (hf:Yk e s=true) {x y:GEnv}(hs:InSame e x.Inputs y.Inputs) (ht:∀(k:Nat) t v,s.Inputs[k]?=some t->x.Inputs[k]?=some v->v.Kind=t.Kind):Hb e x=Hb e y:=by
 have hw:=Zk hf;have hall:=Yt hf;have hpos:=hw.pos;have hn:=kM hw hall hs (e.length-1) (by omega);rw[(Jw hw hall x).2,(Jw hw hall y).2];rcases hn.eq with h|⟨h7,h1,h2,h3⟩
 .rw[h]
 .rcases h3.kind with h3|⟨k1,k2,k3,k4⟩
  .grind
  .exfalso;obtain⟨t,t0,t1,t2⟩:=XM hN hf h7;have:=ht _ _ _ t1 (aT hn.px h7 h1 hs.pl);omega
noncomputable def pick(s:GScope) (d date o:Int):Int:=if o<0 then o else(db s d date).1.getD o.toNat 0
theorem getD_lt{l:List Int}{i:Nat}(h:i<l.length):l.getD i 0=l[i]:=by simp_all
theorem jM{n:GNode}{args:List GValue}{env:GEnv}(hl:args.length<=3) (ho:Bm n.Op):It (ab n args env) (Cl n args env):=by
 refine TI hl λh1 h2 h3 h4 h5=>?_;obtain⟨op,N⟩:=n;dsimp only at h1 h2 ho;have h2':args.length=(pb op).toNat:=by omega
 unfold Bm at ho;rcases(by omega:op=1\/op=2\/op=3\/op=4\/op=5\/op=6\/op=7\/op=25\/op=19\/op=20\/op=21\/op=22)with rfl|rfl|rfl|rfl|rfl|rfl|rfl|rfl|rfl|rfl|rfl|rfl
 all_goals
  first
  |(obtain rfl:=List.length_eq_zero_iff.1 h2';first|exact fO (by omega)|exact cX|exact dX h4)
  |(match args,h2' with|[a],_=>exact bS (h5 a (by simp)))
  |(match args,h2' with|[a,b],_=>grind[ZR,aS])
theorem MO{e:List GNode}(hw:Wst e) (hf:∀i,i<e.length->Yn e i=true) (env:GEnv):lp e env=Hb e env:=by
 obtain⟨p,p1,p2,-⟩:=ER hw (OT hw (env:=env) (λj hj hl=>jM (by grind[yv,ot]) ((nz (hf j hj)).resolve_right λh=>hl (by omega))) _ (by have:=hw.pos;omega))
 simp_all
theorem YI{l:GLaw}{s:GScope}{sc d date:Int}{g:List (List Int)}(ho:GridOk l s sc d date g) {c:List Int}(hc:Sc g c):InpOk l s (Mn s.Inputs g c):=by
 have hV:=xu ho.cv;have hsl:sc.toNat<l.Scopes.length:=by have:=ho.csc;omega
 have hes:l.Scopes[sc.toNat]=s:=by
  have:=ho.cs
  simp_all
 refine⟨by simp[Mn],λi h h2=>?_⟩;have hvt:ja s.Inputs[i].Type_ l.Enums=true:=hV.kl hsl _ (by simp_all);have e:(Mn s.Inputs g c)[i]=qD s.Inputs g c i:=by have:=iP (g:=g) (c:=c) h;simp_all
 obtain⟨h3,h4,h5⟩:=hc.get i (by rw[ho.len];exact h);have hrow:=ho.row i h;have hgi:i<g.length:=by grind
 rw[caa hgi]at hrow;have hrow:=Faa hrow;have hN:(qD s.Inputs g c i).N=g[i][c[i].toNat]'(by omega):=by
  grind[qD]
 have hmem:(qD s.Inputs g c i).N∈TE l (Yo s d date) s.Inputs[i] i:=by simp_all
 rw[e];refine⟨by grind[qD],by grind[qD],?_⟩;generalize (qD s.Inputs g c i).N=n at hmem;unfold TE at hmem;split at hmem
 .grind[dL]
 .rw[jab]at hmem;subst hmem;have hb:=(lA hV hvt).1;rcases jF hvt with⟨-,-,e⟩|⟨-,-,e⟩|⟨-,-,e⟩|⟨-,-,e⟩|⟨-,-,e⟩|⟨-,-,-,x,hx,e⟩<;>rw[e]at hb⊢<;>simp at hb⊢<;>omega
theorem InpOk.N7{l:GLaw}{s:GScope}{sc d date:Int}{g:List (List Int)}(ho:GridOk l s sc d date g) {kl:List GValue}(hi:InpOk l s kl):∀v∈kl,Qd v:=by
 have hV:=xu ho.cv;have hsl:sc.toNat<l.Scopes.length:=by have:=ho.csc;omega
 have hes:l.Scopes[sc.toNat]=s:=by
  have:=ho.cs
  simp_all
 intro v hv;obtain⟨i,hii,rfl⟩:=Aaa hv;have h:i<s.Inputs.length:=by rw[←hi.len];omega
 obtain⟨t1,t2,t3,t4⟩:=hi.ty i h hii;have:=(lA hV (hV.kl hsl s.Inputs[i] (by simp_all))).2 _ t3 t4;rw[←t1,←t2]at this;omega
theorem sM{l:GLaw}(h:LawOk l) {s:GScope}{sc d date:Int}{g:List (List Int)}(ho:GridOk l s sc d date g) {x:Int}(hx:x∈(db s d date).1) (hz:(Bx s x).length≠0) {a b:GEnv}(hab:a.Inputs=b.Inputs) (hi:InpOk l s a.Inputs):Hb (Bx s x) a=Hb (Bx s x) b:=by
 have hsm:=h.s s (Caa ho.cs);have hm:=Fo (rules:=s.Rules) (q:=Bv d date) s.Rules.length x hx;have hg:=qz hx hz;have hp:=hi.N7 ho;have hN:∀n∈Bx s x,xb n:=by
  grind[Bx]
 refine BJ hN (ho.flat _ hg) ⟨by grind,hp,by simp_all,λk v w _ h1 h2=>.inl ?_⟩ λk t v ht hv=>?_
 .simp_all
 .have ht':(s.Inputs.map (·.Type_))[k]?=some t:=by
   grind[js]
  rw[List.getElem?_map]at ht';obtain⟨f,hf,rfl⟩:=Option.map_eq_some_iff.1 ht';obtain⟨hk,rfl⟩:=yaa.1 hf;obtain⟨hk2,rfl⟩:=yaa.1 hv;exact(hi.ty k hk hk2).1
theorem OV{l:GLaw}(h:LawOk l) (sc d date:Int):∃b,br l sc d date=some b:=by
 have hl:=(qM h sc d date).1;unfold br;rw[Qu h,aaa];generalize bl l sc d date=g at hl⊢;obtain⟨b,h1,-⟩:=sP (step:=Tq g) (λs=>∃j:Nat,s.2=(j:Int)/\j<=g.1.length) (λs=>(g.1.length-s.2).toNat) (λ_=>True) (by
  rintro⟨a,b⟩ ⟨j,h1,h2⟩;dsimp only at h1;subst h1;unfold Tq;dsimp only;by_cases hj:j<g.1.length
  .rw[if_pos (by omega),Ba hj,aaa,xa (by omega)];exact .inl ⟨_,rfl,⟨j+1,rfl,by omega⟩,by omega⟩
  .rw[if_neg (by omega)];simp) _ (1,0) (oaa _) ⟨0,rfl,Nat.zero_le _⟩
 simp_all
theorem vE{l:GLaw}(h:LawOk l) {sc d date:Int}(hg:(bl l sc d date).2≠0):Ca l sc d date=some ([],(bl l sc d date).2):=by
 simp_all[Ca,Mj]
def pv(k c:Int):List GNode:=[GNode.mk 7 0,GNode.mk k c,GNode.mk 21 0]
theorem lT{k c x:Int}(hk:k=2\/k=3) {env:GEnv}(hi:env.Inputs=[⟨k,0,x⟩]) (hx:Nn ⟨k,0,x⟩=true) (hc:Nn ⟨k,0,c⟩=true):Hb (pv k c) env=some (O8 (decide (x<c))):=by
 have hw:Wst (pv k c):=ZG (by rcases hk with rfl|rfl<;>kernel_rfl);have hf:∀i,i<(pv k c).length->Yn (pv k c) i=true:=by
  intro i h;have h3:i<3:=h;rcases hk with rfl|rfl<;>rcases(by omega:i=0\/i=1\/i=2)with rfl|rfl|rfl<;>rfl
 obtain⟨hn,he⟩:=Jw hw hf env;have ix:idx env.Inputs 0=some ⟨k,0,x⟩:=by rw[hi];rfl
 have h0:Cn (pv k c) env 0=(⟨k,0,x⟩,0):=by
  rw[(hn 0 (by simp[pv])).q];unfold rJ Pn;rw[show ua (pv k c) 0=⟨7,0⟩from rfl,show Yb (pv k c) 0=0 from rfl,if_neg (by decide)];show(ab ⟨7,0⟩ [] env).getD _=_;rw[Sl (by decide),if_pos (by decide),if_pos (by unfold Ko;simp[hi]),if_pos (show([]:List GValue).all Nn=true from rfl),Xy ix hx];rfl
 have h1:Cn (pv k c) env 1=(⟨k,0,c⟩,0):=by
  rw[(hn 1 (by simp[pv])).q];unfold rJ Pn;rw[show ua (pv k c) 1=⟨k,c⟩from rfl,show Yb (pv k c) 1=0 by rcases hk with rfl|rfl<;>rfl,if_neg (by rcases hk with rfl|rfl<;>simp)];show(ab ⟨k,c⟩ [] env).getD _=_;rw[Sl (by decide),if_pos (by rcases hk with rfl|rfl<;>simp[pN,pb,cc]),if_pos (by unfold Ko;rcases hk with rfl|rfl<;>simp),if_pos (show([]:List GValue).all Nn=true from rfl),mA (by omega)];unfold Hk;rw[if_pos hc];rfl
 rw[he,show(pv k c).length-1=2 from rfl,(hn 2 (by simp[pv])).q];unfold rJ Pn Py;rw[show ua (pv k c) 2=⟨21,0⟩from rfl,show Yb (pv k c) 2=2 from rfl,if_neg (by decide)];have o0:ig (pv k c) 2 0=0:=by rcases hk with rfl|rfl<;>kernel_rfl
 have o1:ig (pv k c) 2 1=1:=by rcases hk with rfl|rfl<;>kernel_rfl
 simp only[ff,o0,o1,h0,h1,Mab,qad,List.nil_append,aab,Gaa,Fab,List.cons_append];rw[if_neg (by simp)];dsimp only;rw[Sl (by simp),if_pos (by simp[pN,cc,pb]),if_pos (by unfold Ko;simp),if_pos (by simp[hx,hc]),GC (by decide),if_pos ⟨⟨rfl,rfl⟩,λ_=>by rcases hk with rfl|rfl<;>simp⟩];rfl
theorem u7{k c x:Int}(hk:k=2\/k=3) {env:GEnv}(hi:env.Inputs=[⟨k,0,x⟩]) (hx:Nn ⟨k,0,x⟩=true) (hc:Nn ⟨k,0,c⟩=true):gT (pv k c) env=decide (x<c):=by
 unfold gT;rw[if_neg (by simp[pv]),lT hk hi hx hc];by_cases h:x<c<;>simp[O8,h]
def wv(k:Int) (rs:List GRule):GScope:=GScope.mk (faa #[104,111,117,115,101]) (-1) [GField.mk (faa #[97]) (GType.mk k 0)] [GField.mk (faa #[100]) (GType.mk 3 0)] rs
theorem JV{k:Int}{rs:List GRule}(h:(Iy (wv k rs) 0 1).contains 0=false):ff (HB (wv k rs)) (wv k rs).Defs.length=none:=Xb.2 λi hi=>by
 have:i=0:=by simp only[wv,Daa,List.length_nil]at hi;omega
 subst this;unfold HB;rw[if_neg];rw[←PK];intro h2;rw[show(Iy (wv k rs) 0 1).contains 0=true from List.contains_iff_mem.2 h2]at h;cases h
theorem jL{k:Int}{rs:List GRule}(h:(Iy (wv k rs) 0 1).contains 0=false) (hs:kg (xj k rs) 0 (wv k rs)=(0,0)):Ol (xj k rs)=⟨0,0,0,0⟩:=by
 unfold Ol;simp only[show(xj k rs).Enums.length=0 from rfl,show(xj k rs).Tables.length=0 from rfl,show(xj k rs).Scopes.length=1 from rfl,ff];rw[show(xj k rs).Scopes[0]?=some (wv k rs)from rfl];dsimp only;rw[hs];rfl
theorem cP{k:Int}{rs:List GRule}{date:Int}{r:List Int}(hv:Ol (xj k rs)=⟨0,0,0,0⟩) (hd:0<=date/\date<=109572) (hf:((Yo (wv k rs) 0 date).any λg=>!Yk g (js (xj k rs) (wv k rs)))=false)
 (hg:ui (xj k rs) (Yo (wv k rs) 0 date) (wv k rs) 1=[r]) (hr:¬4096<Mv [r]):bl (xj k rs) 0 0 date=([r],0):=by
 unfold bl;rw[if_neg (by rw[hv];simp),if_neg (by simp[xj]),show(xj k rs).Scopes[(0:Int).toNat]?=some (wv k rs)from rfl];dsimp only;rw[if_neg (by simp[wv]),if_neg (by omega),if_neg (by rw[hf];simp),show(wv k rs).Inputs.length=1 from rfl,hg,if_neg hr]
theorem aW{k:Int}{rs:List GRule}{date:Int}{env:GEnv}:lu (xj k rs) (wv k rs) 0 date env=Gt (db (wv k rs) 0 date).2.1 (db (wv k rs) 0 date).2.2 (jr (wv k rs) (db (wv k rs) 0 date).1 env):=rfl
theorem F7{k:Int}{rs:List GRule}(h:rs.length<=1048576/\∀r∈rs,r.Guard.length<=1048576/\r.Value.length<=1048576) (hs:∀r∈rs,r.Name.size<=1048576/\r.Source.size<=1048576/\(∀n∈r.Guard,xb n)/\∀n∈r.Value,xb n):LawOk (xj k rs):=by
 have h1:ScOk (wv k rs):=⟨by simp[wv],h.1,h.2⟩;refine⟨by simp[xj],by simp[xj],by simp[xj],by simp[xj],by simp[xj],λx hx=>?_⟩;have:x=wv k rs:=jab.1 hx;subst this;exact⟨(show(5:Nat)<=1048576 by decide),h1,by simp[wv],by simp[wv];decide,by simp[wv];decide,hs⟩
theorem aP{l:GLaw}{s s':GScope}{sc d date:Int}{g:List (List Int)}(ho:GridOk l s sc d date g) (h:l.Scopes[sc.toNat]?=some s'):GridOk l s' sc d date g:=by
 have:=ho.cs;rw[h]at this;cases this;exact ho
theorem RN{r:List Int}{j:Int}(h0:0<=j) (h1:j<(r.length:Int)) (h2:r.length<=1099511627776):Sc [r] [j]:=⟨⟨h0,h1,h2⟩,trivial⟩
theorem wA{l:GLaw}(h:LawOk l) {sc d date:Int}{s:GScope}{g:List (List Int)}(ho:GridOk l s sc d date g) {hs:List GCoverageHole}{c:List Int}(hc:Sc g c) (hl:hs.length<=4096) {o:Int}(hO:lu l s d date (Pp l s date g c)=o) (hn:o≠-2) :
 Ka l date (g,0) s (db s d date) (hs,c,true)=some (.go ((if 0<=o then hs else if(hs.any λa=>decide (a.Outcome=o/\a.RuleA = -1/\a.RuleB = -1))=true then hs else hs++[⟨o,-1,-1,Mn s.Inputs g c⟩]),Bg g c)):=by
 have hsm:=h.s s (Caa ho.cs);have htl:=cA s d date;have hrl:=hsm.2.1.rules;have hm:=Fo (rules:=s.Rules) (q:=Bv d date) s.Rules.length;have hm':∀x∈(db s d date).1,0<=x/\x<(s.Rules.length:Int):=λx hx=>⟨(hm x hx).1,(hm x hx).2.1⟩;have ht:∀(env:GEnv),∀x∈(db s d date).1,(Bx s x).length≠0->FB (Hb (Bx s x) env):=λenv x hx h0=>by
  have hf:=ho.flat _ (qz hx h0);exact mz (Zk hf) (Yt hf) env
 have hgl:g.length<=1048576:=by rw[ho.len];exact hsm.2.2.1
 unfold Ka;dsimp only;rw[if_pos rfl];have e1:yb (g,0) s c=some (Mn s.Inputs g c):=by
  unfold yb;rw[Kw hsm.2.2.1 ho.len hc (step:=Ab (g,0) s c) (λa i=>by unfold Ab;rfl)];rfl
 have e2:zb (g,0) c=some (Bg g c):=by
  unfold zb;exact pK (gr:=g) (step:=fc (g,0)) (λa i=>by unfold fc;rfl) hgl hc
 rw[e1,aaa,Rq (by omega) hm' (ht _),aaa,Gf,aaa,e2];have eo:Gt (db s d date).2.1 (db s d date).2.2 (jr s (db s d date).1 ⟨date,Mn s.Inputs g c,[],[],[],l.Tables⟩)=o:=hO;rw[eo];by_cases hp:0<=o
 .rw[if_pos hp,if_pos hp];rfl
 .rw[if_neg hp,if_neg hp,if_neg hn,aaa];dsimp only;rw[vA (by omega),aaa]
  cases hany:hs.any λx=>decide (x.Outcome=o/\x.RuleA = -1/\x.RuleB = -1)with
  |true=>rw[if_neg (by simp)];rfl
  |false=>rw[if_pos rfl,Xe (by simp;omega)];rfl
def kc(g:List GNode):List GRule:=[Lx (faa #[98,97,115,101]) (-1) g 5]
theorem IV:(Iy (wv 2 (kc (pv 2 18))) 0 1).contains 0=false:=by kernel_rfl
theorem O0:(Iy (wv 2 (kc [])) 0 1).contains 0=false:=by kernel_rfl
theorem sc24:kg (xj 2 (kc (pv 2 18))) 0 (wv 2 (kc (pv 2 18)))=(0,0):=by
 unfold kg;rw[JV IV];rfl
theorem scN:kg (xj 2 (kc [])) 0 (wv 2 (kc []))=(0,0):=by
 unfold kg;rw[JV O0];rfl
theorem FM:LawOk (xj 2 (kc (pv 2 18))):=F7 (by simp[kc,Lx,pv]) (by simp[kc,Lx,pv,xb];decide)
theorem okN:LawOk (xj 2 (kc [])):=F7 (by simp[kc,Lx]) (by simp[kc,Lx,xb];decide)
theorem mC:bl (xj 2 (kc (pv 2 18))) 0 0 1=([[-1000000000000,18,19]],0):=cP (jL IV sc24) (by decide) (by kernel_rfl) (by kernel_rfl) (by decide)
theorem AJ:bl (xj 2 (kc [])) 0 0 1=([[0]],0):=cP (jL O0 scN) (by decide) (by kernel_rfl) (by kernel_rfl) (by decide)
theorem fD:GridOk (xj 2 (kc (pv 2 18))) (wv 2 (kc (pv 2 18))) 0 0 1 [[-1000000000000,18,19]]:=by
 obtain⟨s,ho⟩:=zG FM (sc:=0) (d:=0) (date:=1) (by rw[mC]);rw[mC]at ho;exact aP ho rfl
theorem US:GridOk (xj 2 (kc [])) (wv 2 (kc [])) 0 0 1 [[0]]:=by
 obtain⟨s,ho⟩:=zG okN (sc:=0) (d:=0) (date:=1) (by rw[AJ]);rw[AJ]at ho;exact aP ho rfl
theorem NP{x:Int}{env:GEnv}(hi:env.Inputs=[⟨2,0,x⟩]) (hx:Nn ⟨2,0,x⟩=true):lu (xj 2 (kc (pv 2 18))) (wv 2 (kc (pv 2 18))) 0 1 env=Gt [-1] [0] [decide (x<18)]:=by
 rw[aW,show db (wv 2 (kc (pv 2 18))) 0 1=([0],[-1],[0]) by kernel_rfl];unfold jr;show Gt [-1] [0] [gT (pv 2 18) env]=_;rw[u7 (.inl rfl) hi hx (by decide)]
theorem outN{env:GEnv}:lu (xj 2 (kc [])) (wv 2 (kc [])) 0 1 env=0:=by
 rw[aW,show db (wv 2 (kc [])) 0 1=([0],[-1],[0]) by kernel_rfl];unfold jr;show Gt [-1] [0] [gT [] env]=_;unfold gT;rw[if_pos (by simp)]
 decide
theorem dY:Ca (xj 2 (kc [])) 0 0 1=some ([],0):=by
 obtain⟨hs,e,hI,-⟩:=dH okN AJ US
 cases hs with
 |nil=>exact e
 |cons o hs=>
  obtain⟨c,-,-,h1,h2⟩:=hI.all o (by simp);rw[outN]at h1;omega
theorem VS:Ca (xj 2 (kc (pv 2 18))) 0 0 1=some ([⟨-1,-1,-1,[⟨2,0,18⟩]⟩],0):=by
 unfold Ca;rw[Mj FM,mC,aaa,if_neg (by simp),show idx (xj 2 (kc (pv 2 18))).Scopes 0=some (wv 2 (kc (pv 2 18)))from rfl,aaa,kn (by decide),aaa];dsimp only;rw[show sE 8 (0:Int) (([[-1000000000000,18,19]]:List (List Int)).length:Int) (([[-1000000000000,18,19]]:List (List Int)).length:Int)=some [0] by rfl,aaa,
  Yd (wA FM fD (c:=[0]) (o:=0) (RN (by decide) (by decide) (by decide)) (by simp) (by rw[NP (x:=-1000000000000) rfl (by decide)];decide) (by decide))]
 rw[show(if(0:Int)<=0 then([]:List GCoverageHole)else _)=[]from rfl,show Bg [[-1000000000000,18,19]] [0]=([1],true) by rfl,
  Yd (wA FM fD (c:=[1]) (o:=-1) (RN (by decide) (by decide) (by decide)) (by simp) (by rw[NP (x:=18) rfl (by decide)];decide) (by decide))]
 rw[show(if(0:Int)<=-1 then([]:List GCoverageHole)else if(([]:List GCoverageHole).any λa=>decide (a.Outcome = -1/\a.RuleA = -1/\a.RuleB = -1))=true then []else []++[⟨-1,-1,-1,Mn (wv 2 (kc (pv 2 18))).Inputs [[-1000000000000,18,19]] [1]⟩])=[⟨-1,-1,-1,[⟨2,0,18⟩]⟩] by rfl,show Bg [[-1000000000000,18,19]] [1]=([2],true) by rfl,
  Yd (wA FM fD (c:=[2]) (o:=-1) (RN (by decide) (by decide) (by decide)) (by simp) (by rw[NP (x:=19) rfl (by decide)];decide) (by decide))]
 rw[Nc (b:=[⟨-1,-1,-1,[⟨2,0,18⟩]⟩]) rfl];rfl
theorem wE:df=some true:=by
 unfold df Rs Br;simp only[aaa];rw[show xj 2 [Lx _ (-1) [GNode.mk 7 0,GNode.mk 2 18,GNode.mk 21 0] 5]=xj 2 (kc (pv 2 18))from rfl,show xj 2 [Lx _ (-1) [] 5]=xj 2 (kc [])from rfl,Mj FM,mC,VS,dY];simp only[aaa,Cy (l:=[[-1000000000000,18,19]]) (by simp) (by simp),if_true];have hv:Jl [⟨2,0,18⟩] [⟨2,0,18⟩]=some true:=by
  unfold Jl;rw[if_neg (by simp),Yd (s':=1) rfl,Nc (b:=()) rfl];rfl
 have hh:bd ⟨-1,-1,-1,[⟨2,0,18⟩]⟩ ⟨-1,-1,-1,[⟨2,0,18⟩]⟩=some true:=by
  unfold bd;dsimp only;rw[if_pos rfl,if_pos rfl,if_pos rfl,hv];rfl
 rw[show Jc [⟨-1,-1,-1,[⟨2,0,18⟩]⟩] [⟨-1,-1,-1,[⟨2,0,18⟩]⟩]=some true by
  unfold Jc;rw[if_neg (by simp),Yd (s':=1) (by
   show(bd ⟨-1,-1,-1,[⟨2,0,18⟩]⟩ ⟨-1,-1,-1,[⟨2,0,18⟩]⟩).bind _=_;rw[hh];rfl),Nc (b:=()) rfl]
  rfl]
 rfl
theorem IG{t0 t1:List Int}{t2:List Bool}(h:TreeOk t0 t1) (h2:t2.length=t0.length) (i:Int):Nr t0 t1 t2 i=some (Jj t1 (O t0 t1 t2) (nq t0 i)):=by
 have hf:1000000<=Gc:=by grind[Gc]
 unfold Nr;obtain⟨n,hn⟩:∃n,Gc=n+1:=⟨Gc-1,by omega⟩;rw[hn];exact dW h λx hx=>by
  have:=Hs h hx;have:=h.le;exact tQ h h2 t0.length x (by omega) (by omega) (by omega) n (by omega)
theorem My{t0 t1:List Int}{t2:List Bool}(hs:Gt t0 t1 t2 = -2):∃a b,kb t0 t1 t2=some (a,b,true)/\Pe t0 t1 t2=some (a,b,true)/\(0<=a/\a<(t0.length:Int))/\(0<=b/\b<(t0.length:Int)):=by
 have hc:Bw t0 t1=0/\t2.length=t0.length:=Classical.byContradiction λh=>by
  simp_all[Gt]
 have h:=Qw hc.1;have hO:∀i,∀x∈nq t0 i,idx ((uaa t0.length).map λ(k:Nat)=>O t0 t1 t2 (k:Int)) x=some (O t0 t1 t2 x):=λi x hx=>by
  have:=Hs h hx;obtain⟨k,rfl⟩:=dab this.2.1
  grind[Ba]
 have hm:∀i,∀y∈Jj t1 (O t0 t1 t2) (nq t0 i),i<y/\0<=y/\y<(t0.length:Int):=λi y hy=>Hs h (xn y hy);have key:∀(n:Nat) (i:Int),((t0.length:Int)-i).toNat<=n->rC t1 (O t0 t1 t2) (nq t0 i) = -2->∃a b q,fa (Eb t0 t1 ((uaa t0.length).map λ(k:Nat)=>O t0 t1 t2 (k:Int))) (Jj t1 (O t0 t1 t2) (nq t0 i))=some (.inl (a::b::q))/\
  fa (Ee t0 t1 t2) i=some (.inr (a,b,true))/\(0<=a/\a<(t0.length:Int))/\(0<=b/\b<(t0.length:Int)):=by
  intro n
  induction n with
  |zero=>
   intro i hn ho;have hmi:=hm i;unfold rC at ho;generalize Jj t1 (O t0 t1 t2) (nq t0 i)=r at ho hmi;rcases r with _|⟨x,q⟩
   .cases ho
   .have:=hmi x (by simp);omega
  |succ n ih=>
   intro i hn ho;have hmi:=hm i;have hb:=IG (t2:=t2) h hc.2 i;unfold rC at ho;generalize hr:Jj t1 (O t0 t1 t2) (nq t0 i)=r at ho hmi hb;rcases r with _|⟨x,_|⟨y,q⟩⟩
   .cases ho
   .have hx:=hmi x (by simp);have ho':O t0 t1 t2 x = -2:=ho;rw[vW h hx.2.1 hx.2.2]at ho';have hc2:rC t1 (O t0 t1 t2) (nq t0 x) = -2:=by
     split at ho'
     .omega
     .exact ho'
    obtain⟨a,b,q,e1,e2,e3,e4⟩:=ih x (by omega) hc2;refine⟨a,b,q,?_,?_,e3,e4⟩
    .rw[Yd (s':=Jj t1 (O t0 t1 t2) (nq t0 x)) (by
      unfold Eb;rw[if_pos (by simp),show idx [x] 0=some x by simp[idx],aaa,UF h (hO x),aaa])]
     exact e1
    .rw[Yd (s':=x) (by
      unfold Ee;rw[hb,aaa,if_neg (by simp),show idx [x] 0=some x by simp[idx],aaa])]
     exact e2
   .refine⟨x,y,q,?_,?_,(hmi x (by simp)).2,(hmi y (by simp)).2⟩
    .exact Nc (by unfold Eb;rw[if_neg (by simp;omega)])
    .exact cr (by
      unfold Ee;rw[hb,aaa,if_pos (by simp;omega),show idx (x::y::q) 0=some x by simp[idx],aaa,show idx (x::y::q) 1=some y by simp[idx],aaa])
 have hof:rC t1 (O t0 t1 t2) (nq t0 (-1)) = -2:=by
  unfold Gt at hs;rwa [if_pos hc]at hs
 obtain⟨a,b,q,e1,e2,e3,e4⟩:=key _ (-1) (oaa _) hof;refine⟨a,b,?_,?_,e3,e4⟩
 .unfold kb;rw[Gf,aaa,hs,if_neg (by simp),my h hc.2,aaa,UF h (hO (-1)),aaa,e1,aaa];dsimp only;rw[if_neg (by simp;omega)];rfl
 .unfold Pe;rw[qw,aaa,hs,if_neg (by simp),e2];rfl
theorem AT{gr:List (List Int)}{a:List Int}{i:Int}:bh (gr,0) (a,i)=if 0<=i then(idx a i).bind λx38=>(put a i (ea .i64 (x38+1))).bind λx39=>(idx x39 i).bind λx40=>(idx gr i).bind λx41=>if x40<(x41.length:Int)then some (.ret (x39,true))else(put x39 i 0).bind λx43=>some (.go (x43,ea .i64 (i-1)))else some (.brk a):=by
 unfold bh;dsimp only;by_cases h0:0<=i
 case neg=>rw[if_neg h0,if_neg h0]
 rw[if_pos h0,if_pos h0];obtain⟨k,rfl⟩:=dab h0;by_cases hk:k<a.length
 .rw[Ba hk,aaa,aaa,dw hk,aaa,aaa,Ba (l:=a.set k (ea .i64 (a[k]+1))) (by simpa using hk),aaa]
  cases idx gr (k:Int)with
  |none=>rfl
  |some r=>
   rw[aaa,aaa,dw hk,aaa,dw (l:=a.set k (ea .i64 (a[k]+1))) (by simpa using hk),aaa,List.set_set,List.getElem_set_self]
 .have:idx a (k:Int)=none:=by simp[idx];omega
  rw[this];rfl
theorem cY{l:GLaw}(h:LawOk l) {s:GScope}{sc d date:Int}{g:List (List Int)}(ho:GridOk l s sc d date g) {c:List Int}(hc:Sc g c) :
 rn s d date (Mn s.Inputs g c)=(if lu l s d date (Pp l s date g c) = -1 then some (⟨-1,-1,-1,Mn s.Inputs g c⟩,true)else if¬lu l s d date (Pp l s date g c) = -2 then some (⟨0,0,0,[]⟩,false)else
  (Pe (db s d date).2.1 (db s d date).2.2 (jr s (db s d date).1 (Pp l s date g c))).bind λx18=>(idx (db s d date).1 x18.1).bind λx19=>(idx (db s d date).1 x18.2.1).bind λx20=>some (⟨-2,x19,x20,Mn s.Inputs g c⟩,true)):=by
 have hsm:=h.s s (Caa ho.cs);have htl:=cA s d date;have hrl:=hsm.2.1.rules;have hm:=Fo (rules:=s.Rules) (q:=Bv d date) s.Rules.length;have hi:=YI ho hc;unfold rn;rw[KD hrl,aaa];have hlp:fa (Qm s date (Mn s.Inputs g c) (db s d date)) ([],0)=some (.inl (jr s (db s d date).1 (Pp l s date g c))):=by
  refine Kc (λi=>((uaa i).map λk=>gT (Bx s ((db s d date).1.getD k 0)) (Pp l s date g c),(i:Int))) (db s d date).1.length _ (λi hi2=>?_) ?_ rfl
  .have hmem:=iaa hi2;have hx:=hm _ hmem;have eg:(s.Rules[(db s d date).1[i].toNat]'(by omega)).Guard=Bx s (db s d date).1[i]:=by grind[Bx]
   unfold Qm;dsimp only;rw[if_pos (by omega),Ba hi2,aaa,Di hx.1 hx.2.1,aaa,eg,Mab,aab,List.map_singleton,getD_lt hi2,xa (by omega)];generalize (db s d date).1[i]=x at hmem;have hlen:((uaa i).map λk=>gT (Bx s ((db s d date).1.getD k 0)) (Pp l s date g c)).length=i:=by simp
   generalize ((uaa i).map λk=>gT (Bx s ((db s d date).1.getD k 0)) (Pp l s date g c))=a at hlen⊢;unfold gT;by_cases h0:(Bx s x).length=0
   .rw[if_neg (by omega),if_pos (by omega),aaa,Xe (by grind),show(((Bx s x).length:Int)==0)=true by simp[h0]];rfl
   .have hf:=ho.flat _ (qz hmem h0);obtain⟨p,hp,-⟩:=mz (Zk hf) (Yt hf) (Pp l s date g c);have he:Hb (Bx s x) ⟨date,Mn s.Inputs g c,[],[],[],[]⟩=Hb (Bx s x) (Pp l s date g c):=sM h ho hmem h0 rfl hi;rw[if_pos (by omega),if_neg (by omega),MO (Zk hf) (Yt hf),he,hp,aaa];by_cases h2:p.2=0
    .rw[if_pos h2,aaa,Xe (by grind)];grind
    .rw[if_neg h2,aaa,Xe (by grind)];grind
  .unfold Qm;dsimp only;rw[if_neg (by omega)];rfl
 rw[hlp,aaa];dsimp only;rw[qw,aaa];rfl
theorem qP{l:List GCoverageHole}(hl:l.length<=1048576) (o:GCoverageHole):Co l o=some (l.any λa=>decide (a.Outcome=o.Outcome/\a.RuleA=o.RuleA/\a.RuleB=o.RuleB)):=by
 unfold Co;rw[Kb (S:=λi=>(i:Int)) (f:=λi=>if(l[i]?.any λa=>decide (a.Outcome=o.Outcome/\a.RuleA=o.RuleA/\a.RuleB=o.RuleB))=true then some true else none) (n:=l.length) (b:=()) (λi hi _=>by
  unfold cn;rw[if_pos (by omega),Ba hi,aaa,xa (by omega),caa hi];by_cases h1:l[i].Outcome=o.Outcome<;>by_cases h2:l[i].RuleA=o.RuleA<;>by_cases h3:l[i].RuleB=o.RuleB<;>simp[h1,h2,h3,lC]) (λ_=>by unfold cn;rw[if_neg (by omega)])]
 rw[←Wk (q:=λa:GCoverageHole=>decide (a.Outcome=o.Outcome/\a.RuleA=o.RuleA/\a.RuleB=o.RuleB)) (g:=λ_=>true)]
 cases hf:ff (λi=>if(l[i]?.any λa=>decide (a.Outcome=o.Outcome/\a.RuleA=o.RuleA/\a.RuleB=o.RuleB))=true then some true else none) l.length with
 |none=>rfl
 |some b=>
  obtain⟨i,-,h,-⟩:=Ta.1 hf;split at h
  .cases h;rfl
  .cases h
theorem DL{l:GLaw}(h:LawOk l) {s:GScope}{sc d date:Int}{g:List (List Int)}(ho:GridOk l s sc d date g) {c:List Int}(hc:Sc g c):∃f:List GCoverageHole->List GCoverageHole,
 (∀hs,hs.length<=4096->Ka l date (g,0) s (db s d date) (hs,c,true)=some (.go (f hs,Bg g c))/\Dd d date (g,0) s (c,hs,true)=some (.go ((Bg g c).1,f hs,(Bg g c).2)))/\
 ∀hs,(f hs).length<=hs.length+1/\∀x∈f hs,x∈hs\/x.Inputs=Mn s.Inputs g c:=by
 have hsm:=h.s s (Caa ho.cs);have htl:=cA s d date;have hrl:=hsm.2.1.rules;have hm:=Fo (rules:=s.Rules) (q:=Bv d date) s.Rules.length;have hm':∀x∈(db s d date).1,0<=x/\x<(s.Rules.length:Int):=λx hx=>⟨(hm x hx).1,(hm x hx).2.1⟩;have ht:∀(env:GEnv),∀x∈(db s d date).1,(Bx s x).length≠0->FB (Hb (Bx s x) env):=λenv x hx h0=>by
  have hf:=ho.flat _ (qz hx h0);exact mz (Zk hf) (Yt hf) env
 have hgl:g.length<=1048576:=by rw[ho.len];exact hsm.2.2.1
 have e1:yb (g,0) s c=some (Mn s.Inputs g c):=by
  unfold yb;rw[Kw hsm.2.2.1 ho.len hc (step:=Ab (g,0) s c) (λa i=>by unfold Ab;rfl)];rfl
 have e2:zb (g,0) c=some (Bg g c):=by
  unfold zb;exact pK (gr:=g) (step:=fc (g,0)) (λa i=>by unfold fc;rfl) hgl hc
 have e3:rm s g c=some (Mn s.Inputs g c):=by
  unfold rm;rw[Kw hsm.2.2.1 ho.len hc (step:=Zm s g c) (λa i=>by unfold Zm;dsimp only;rw[hc.len,ho.len])];rfl
 have e4:Fj (g,0) c=some (Bg g c):=by
  unfold Fj;exact pK (gr:=g) (step:=bh (g,0)) (λa i=>AT) hgl hc
 have eo:Gt (db s d date).2.1 (db s d date).2.2 (jr s (db s d date).1 ⟨date,Mn s.Inputs g c,[],[],[],l.Tables⟩)=lu l s d date (Pp l s date g c):=rfl;have hin:=LU (db s d date).2.1 (db s d date).2.2 (jr s (db s d date).1 (Pp l s date g c));have hO:lu l s d date (Pp l s date g c)=Gt (db s d date).2.1 (db s d date).2.2 (jr s (db s d date).1 (Pp l s date g c)):=rfl;rw[←hO]at hin;have hH:=cY h ho hc;obtain⟨o,o1,o2⟩:∃o:Option GCoverageHole,(match o with|none=>0<=lu l s d date (Pp l s date g c)/\rn s d date (Mn s.Inputs g c)=some (⟨0,0,0,[]⟩,false)|some x=>rn s d date (Mn s.Inputs g c)=some (x,true)/\lu l s d date (Pp l s date g c)<0/\x.Outcome=lu l s d date (Pp l s date g c)/\x.Inputs=Mn s.Inputs g c/\(if lu l s d date (Pp l s date g c)=(-2)then(kb (db s d date).2.1 (db s d date).2.2 (jr s (db s d date).1 ⟨date,Mn s.Inputs g c,[],[],[],l.Tables⟩)).bind λx26=>(idx (db s d date).1 x26.1).bind λx27=>(idx (db s d date).1 x26.2.1).bind λx28=>some (x27,x28)else some (-1,-1))=some (x.RuleA,x.RuleB))/\True:=by
  rcases hin with hq|hq|hq
  .rw[hq,if_pos rfl]at hH;exact⟨some _,⟨hH,by omega,by simp[hq],rfl,by rw[hq];rfl⟩,trivial⟩
  .obtain⟨a,b,q1,q2,q3,q4⟩:=My (hO.symm.trans hq);rw[hq,if_neg (by decide),if_neg (by decide),q2,aaa,Di q3.1 (by rw[←htl.1];exact q3.2),aaa,Di q4.1 (by rw[←htl.1];exact q4.2),aaa]at hH;refine⟨some _,⟨hH,by omega,by simp[hq],rfl,?_⟩,trivial⟩;have q1':kb (db s d date).2.1 (db s d date).2.2 (jr s (db s d date).1 ⟨date,Mn s.Inputs g c,[],[],[],l.Tables⟩)=some (a,b,true):=q1;rw[hq,if_pos rfl,q1',aaa,Di q3.1 (by rw[←htl.1];exact q3.2),aaa,Di q4.1 (by rw[←htl.1];exact q4.2)];rfl
  .rw[if_neg (by omega),if_pos (by omega)]at hH;exact⟨none,⟨hq.1,hH⟩,trivial⟩
 cases o with
 |none=>
  refine⟨λhs=>hs,λhs hl=>⟨?_,?_⟩,λhs=>⟨Nat.le_succ _,λx hx=>.inl hx⟩⟩
  .unfold Ka;dsimp only;rw[if_pos rfl,e1,aaa,Rq (by omega) hm' (ht _),aaa,Gf,aaa,e2,eo,if_pos o1.1];rfl
  .unfold Dd;dsimp only;rw[if_pos rfl,e3,aaa,o1.2,aaa,e4];rfl
 |some x=>
  obtain⟨p1,p2,p3,p4,p5⟩:=o1;refine⟨λhs=>if(hs.any λa=>decide (a.Outcome=x.Outcome/\a.RuleA=x.RuleA/\a.RuleB=x.RuleB))=true then hs else hs++[x],λhs hl=>⟨?_,?_⟩,λhs=>?_⟩
  .unfold Ka;dsimp only;rw[if_pos rfl,e1,aaa,Rq (by omega) hm' (ht _),aaa,Gf,aaa,e2,eo,if_neg (by omega),p5,aaa];dsimp only;rw[vA (by omega),aaa];dsimp only;rw[←p3]
   cases hany:hs.any λa=>decide (a.Outcome=x.Outcome/\a.RuleA=x.RuleA/\a.RuleB=x.RuleB)with
   |true=>rw[if_neg (by simp)];rfl
   |false=>
    rw[if_pos rfl,Xe (by simp;omega),aaa,aaa,if_neg (by simp),←p4];rfl
  .unfold Dd;dsimp only;rw[if_pos rfl,e3,aaa,p1,aaa,e4];dsimp only;rw[if_pos rfl,qP (by omega),aaa,aaa]
   cases hany:hs.any λa=>decide (a.Outcome=x.Outcome/\a.RuleA=x.RuleA/\a.RuleB=x.RuleB)with
   |true=>rfl
   |false=>rw[Xe (by simp;omega)];rfl
  .dsimp only;split
   .exact⟨by omega,λy hy=>.inl hy⟩
   .refine⟨by simp,λy hy=>?_⟩;rcases bab.1 hy with hy|hy
    .exact .inl hy
    .rw[jab]at hy;subst hy;exact .inr p4
theorem jB{l:GLaw}(h:LawOk l) {s:GScope}{sc d date:Int}{g:List (List Int)}(ho:GridOk l s sc d date g):∀(n:Nat) (c:List Int) (hs:List GCoverageHole),ue g-rk g c<=n->Sc g c->hs.length<=rk g c->(∀x∈hs,x.Inputs.length<=1048576)->
 ∃r,fa (Ka l date (g,0) s (db s d date)) (hs,c,true)=some (.inl r)/\fa (Dd d date (g,0) s) (c,hs,true)=some (.inl r)/\r.length<=4096/\∀x∈r,x.Inputs.length<=1048576
 |0,c,hs,hn,hc,_,_=>by have:=zB hc;omega
 |n+1,c,hs,hn,hc,hl,hi=>by
  have hsm:=h.s s (Caa ho.cs);have hlt:=zB hc;have hle:=ho.le;obtain⟨f,f1,f2⟩:=DL h ho hc;obtain⟨a1,a2⟩:=f1 hs (by omega);obtain⟨b1,b2⟩:=f2 hs;have hn2:=MG hc;have hq:∀x∈f hs,x.Inputs.length<=1048576:=λx hx=>by
   rcases b2 x hx with hx|hx
   .exact hi x hx
   .rw[hx];unfold Mn;rw[List.length_map,List.length_range];exact hsm.2.2.1
  rw[Yd a1,Yd a2]
  cases hb:(Bg g c).2 with
  |true=>
   rw[show Bg g c=((Bg g c).1,true) by rw[←hb]];exact jB h ho n _ _ (by rw[hn2.1 hb];omega) (RF hc) (by rw[hn2.1 hb];omega) hq
  |false=>
   rw[show Bg g c=((Bg g c).1,false) by rw[←hb]];exact⟨f hs,Nc (by unfold Ka;dsimp only;rw[if_neg (by simp)]),Nc (by unfold Dd;dsimp only;rw[if_neg (by simp)]),by omega,hq⟩
theorem Ev{l:GLaw}(h:LawOk l) (sc d date:Int):∃r e,Ca l sc d date=some (r,e)/\re l sc d date=some (r,e)/\r.length<=4096/\∀x∈r,x.Inputs.length<=1048576:=by
 by_cases hg:(bl l sc d date).2=0
 case neg=>
  refine⟨[],(bl l sc d date).2,vE h hg,?_,by simp,by simp⟩;unfold re;rw[Qu h,aaa,if_pos hg]
 obtain⟨s,ho⟩:=zG h hg;have hsm:=h.s s (Caa ho.cs);have hg':bl l sc d date=((bl l sc d date).1,0):=by rw[←hg]
 generalize (bl l sc d date).1=g at ho hg';have hgl:g.length<=1048576:=by rw[ho.len];exact hsm.2.2.1
 have es:l.Scopes[sc.toNat]'(by have:=ho.csc;omega)=s:=by
  have:=ho.cs;rw[caa (by have:=ho.csc;omega)]at this;exact Faa this
 obtain⟨c0,r0⟩:=QN ho.pos;obtain⟨r,e1,e2,e3,e4⟩:=jB h ho _ _ [] (oaa _) c0 (by simp) (by simp);refine⟨r,0,?_,?_,e3,e4⟩
 .unfold Ca;rw[Mj h,hg',aaa,if_neg (by simp),Di ho.csc.1 ho.csc.2,aaa,es,kn hsm.2.1.rules,aaa];dsimp only;rw[UB (by omega) (by omega),aaa,e1];rfl
 .unfold re;rw[Qu h,hg',aaa,if_neg (by simp),Di ho.csc.1 ho.csc.2,aaa,es];dsimp only;rw[UB (by omega) (by omega),aaa,e2];rfl
theorem MA{l:List GValue}(hl:l.length<=1048576):Jl l l=some true:=by
 unfold Jl;rw[if_neg (by simp)];have:fa (Kl l l) 0=some (.inl ()):=Kc (λk=>(k:Int)) l.length () (λk hk=>by
  unfold Kl;rw[if_pos (by omega),aaa,if_pos (by simpa using hk),Ba hk,aaa,aaa,if_neg (by simp),xa (by omega)]) (by unfold Kl;simp)
 rw[this];rfl
theorem ZB{l:List GCoverageHole}(hl:l.length<=4096) (hi:∀x∈l,x.Inputs.length<=1048576):Jc l l=some true:=by
 unfold Jc;rw[if_neg (by simp)];have:fa (Ge l l) 0=some (.inl ()):=Kc (λk=>(k:Int)) l.length () (λk hk=>by
  have hh:bd l[k] l[k]=some true:=by
   unfold bd;rw[if_pos rfl,if_pos rfl,if_pos rfl,MA (hi _ (iaa hk))];rfl
  unfold Ge;rw[if_pos (by omega),aaa,if_pos (by simpa using hk),Ba hk,aaa,aaa,hh,aaa,if_neg (by simp),xa (by omega)]) (by unfold Ge;simp)
 rw[this];rfl
theorem Sw(haw:df=some true) {l:GLaw}(ht:fH l) (sc d date:Int):Vf l sc d date=some true:=by
 unfold Vf;obtain⟨b,hb,hb2⟩:=vv l;rw[hb,haw];simp only[aaa]
 cases b with
 |false=>rfl
 |true=>
  have h:=(hb2 rfl).ok ht;obtain⟨b2,hf⟩:=OV h sc d date;rw[hf];simp only[aaa,if_true]
  cases b2 with
  |false=>rfl
  |true=>
   obtain⟨r,e,e1,e2,e3,e4⟩:=Ev h sc d date;rw[e1,e2];simp only[Bool.not_true,haa,if_false,aaa];rw[ZB e3 e4];simp
noncomputable def MI(l:GLaw) (sc d date:Int):List GCoverageHole×Int:=(Ca l sc d date).getD ([],0)
theorem D1{l:GLaw}(h:LawOk l) (sc d date:Int):Ca l sc d date=some (MI l sc d date)/\re l sc d date=some (MI l sc d date):=by
 obtain⟨r,e,e1,e2,-⟩:=Ev h sc d date;unfold MI;rw[e1,e2];exact⟨rfl,rfl⟩
noncomputable def dE(l:GLaw) (sc date:Int) (k:Nat):List Int:=((uaa k).map λ(d:Nat)=>(d:Int)).filter λd=>decide ((MI l sc d date).2=0)&&decide (0<(MI l sc d date).1.length)
noncomputable def eE(l:GLaw) (sc date:Int) (k:Nat):List Int:=((uaa k).map λ(d:Nat)=>(d:Int)).filter λd=>decide (¬(MI l sc d date).2=0)
theorem wI(l:GLaw) (sc date:Int) (k:Nat):(dE l sc date k).length<=k/\(eE l sc date k).length<=k:=by
 unfold dE eE;constructor
 .exact kab (Qaa _ _) (by simp)
 .exact kab (Qaa _ _) (by simp)
theorem cK(l:GLaw) (sc date:Int) (k:Nat):dE l sc date (k+1)=dE l sc date k++if(MI l sc k date).2=0/\0<(MI l sc k date).1.length then [(k:Int)]else []:=by
 unfold dE;rw[Mab,aab,iab];congr 1;simp only[Gaa,Fab,jad,yac];by_cases h1:(MI l sc k date).2=0<;>by_cases h2:0<(MI l sc k date).1.length<;>simp[h1,h2]
theorem dK(l:GLaw) (sc date:Int) (k:Nat):eE l sc date (k+1)=eE l sc date k++if¬(MI l sc k date).2=0 then [(k:Int)]else []:=by
 unfold eE;rw[Mab,aab,iab];congr 1;simp only[Gaa,Fab,jad,yac];by_cases h1:(MI l sc k date).2=0<;>simp[h1]
theorem JF{l:GLaw}{sc date:Int}{n:Nat}(hn:n<=1048576) {step:List Int×List Int×Int->Option (Ex (List Int×List Int×Int) (List Int×List Int) Unit)}
 (hs:∀a b (k:Nat),k<n->step (a,b,(k:Int))=baa (α:=List Int×List Int) (if¬(MI l sc k date).2=0 then(app 8 b [(k:Int)]).bind λx=>some (a,x)else if 0<((MI l sc k date).1.length:Int)then(app 8 a [(k:Int)]).bind λx=>some (x,b)else some (a,b)) λ(j14,j15)=>some (.go (j14,j15,ea .i64 ((k:Int)+1))))
 (he:∀a b,step (a,b,(n:Int))=some (.brk (a,b))):fa step (([]:List Int),([]:List Int),0)=some (.inl (dE l sc date n,eE l sc date n)):=by
 refine Kc (λk=>(dE l sc date k,eE l sc date k,(k:Int))) n _ (λk hk=>?_) ?_ rfl
 .obtain⟨l1,l2⟩:=wI l sc date k;rw[hs _ _ k hk,cK,dK,xa (by omega)];by_cases h1:(MI l sc k date).2=0
  .rw[if_neg (by simp[h1])];by_cases h2:0<(MI l sc k date).1.length
   .rw[if_pos (by omega),Xe (by simp;omega),if_pos ⟨h1,h2⟩,if_neg (by simp[h1])];simp
   .rw[if_neg (by omega),if_neg (λh=>h2 h.2),if_neg (by simp[h1])];simp
  .rw[if_pos h1,Xe (by simp;omega),if_neg (λh=>h1 h.1),if_pos h1];simp
 .exact he _ _
theorem wL{l:GLaw}(h:LawOk l) (sc date:Int):∃a b,Em l sc date=some (a,b)/\Rr l sc date=some (a,b)/\a.length<=1048576/\b.length<=1048576:=by
 unfold Em Rr;by_cases h0:sc<0
 .rw[if_neg (by omega)];exact⟨[],[],by simp,by simp,by simp,by simp⟩
 by_cases h1:(l.Scopes.length:Int)<=sc
 .rw[if_pos (by omega),decide_eq_true h1];exact⟨[],[],by simp,by simp,by simp,by simp⟩
 rw[if_pos (by omega),decide_eq_false h1];simp only[aaa,haa,if_false];have hx:idx l.Scopes sc=some l.Scopes[sc.toNat]:=Di (by omega) (by omega);have hs:=(h.s _ (iaa (show sc.toNat<l.Scopes.length by omega))).2.1.defs;generalize l.Scopes[sc.toNat]=s at hx hs;obtain⟨l1,l2⟩:=wI l sc date s.Defs.length;rw[hx,aaa,JF (l:=l) (sc:=sc) (date:=date) (step:=Ji l sc date s) hs (λa b k hk=>by
  unfold Ji;dsimp only;rw[if_pos (by omega),(D1 h sc k date).1,aaa]) (λa b=>by unfold Ji;dsimp only;rw[if_neg (by omega)]),
  JF (l:=l) (sc:=sc) (date:=date) (n:=s.Defs.length) (step:=Pm l sc date) hs (λa b k hk=>by
   unfold Pm;dsimp only;rw[hx,aaa,if_pos (by omega),(D1 h sc k date).2,aaa]) (λa b=>by unfold Pm;dsimp only;rw[hx,aaa,if_neg (by omega)])]
 exact⟨_,_,rfl,rfl,by omega,by omega⟩
theorem NI(haw:df=some true) {l:GLaw}(ht:fH l) (sc date:Int):wj l sc date=some true:=by
 unfold wj;obtain⟨b,hb,hb2⟩:=vv l;rw[hb,haw];simp only[aaa]
 cases b with
 |false=>rfl
 |true=>
  have h:=(hb2 rfl).ok ht;obtain⟨a,b,e1,e2,e3,e4⟩:=wL h sc date;rw[e1,e2];have hend:((some (a,b)).bind λx14=>(some (a,b)).bind λx15=>baa (α:=Bool) ((um x14.1 x15.1).bind λx16=>if x16=true then(um x14.2 x15.2).bind λx18=>if x18=true then some true else some false else some false) λj21=>some j21)=some true:=by
   simp only[aaa];rw[Yr (by omega),aaa,if_pos rfl,Yr (by omega),aaa,if_pos rfl];rfl
  rw[if_neg (by simp)];by_cases hin:0<=sc/\sc<(l.Scopes.length:Int)
  .have hx:idx l.Scopes sc=some l.Scopes[sc.toNat]:=Di hin.1 hin.2;have hs:=(h.s _ (iaa (show sc.toNat<l.Scopes.length by omega))).2.1.defs;rw[if_pos hin.1,decide_eq_true hin.2,aaa,if_pos rfl];rcases l7 (s1:=Be l sc date) (s2:=Be l sc date) (λx k=>x=k/\∃j:Nat,k=(j:Int)/\j<=l.Scopes[sc.toNat].Defs.length) (λk=>(l.Scopes[sc.toNat].Defs.length-k).toNat) (λ_ _=>True) (λr _=>r=.inr true) (by
    rintro _ k ⟨rfl,j,rfl,hj⟩;unfold Be;rw[hx,aaa];by_cases hk:(j:Int)<(l.Scopes[sc.toNat].Defs.length:Int)
    .rw[if_pos hk];obtain⟨f,hf⟩:=OV h sc j date;rw[hf,aaa]
     cases f with
     |false=>rw[if_pos rfl,haw];exact .inr (.inr ⟨_,_,rfl,rfl,rfl⟩)
     |true=>rw[if_neg (by simp),xa (by omega)];exact .inl ⟨_,_,rfl,rfl,⟨rfl,j+1,by omega,by omega⟩,by omega⟩
    .rw[if_neg hk];exact .inr (.inl ⟨_,_,rfl,rfl,trivial⟩)) _ 0 0 (oaa _) ⟨rfl,0,rfl,by omega⟩with⟨u,_,hu,-,-⟩|⟨r,_,hr,-,rfl⟩
   .rw[hu];exact hend
   .rw[hr];rfl
  .by_cases h0:0<=sc
   .rw[if_pos h0,decide_eq_false (by omega),aaa,if_neg (by simp)];exact hend
   .rw[if_neg h0,aaa,if_neg (by simp)];exact hend
noncomputable def qg(x7:List Int):((List Bool)×(List Int)×Int)->Option (Ex ((List Bool)×(List Int)×Int) ((List Bool)×(List Int)) Unit):=λ(s8,s9,s10)=>
 if s10<(x7.length:Int)then
  baa (α:=((List Bool)×(List Int))) (
   (idx x7 s10).bind λx12=>
   (idx s8 x12).bind λx13=>
   if x13=false then
    (put s8 x12 true).bind λx15=>
    (app 8 s9 ([x12])).bind λx16=>
    some (x15,x16)
   else
   some (s8,s9)) λ(j17,j18)=>
  some (Ex.go (j17,j18,(ea .i64 (s10+1))))
 else
 some (Ex.brk (s8,s9))
noncomputable def Ke(t0:(List (List Int))):((List Bool)×(List Int))->Option (Ex ((List Bool)×(List Int)) (List Bool) Unit):=λ(s2,s3)=>
 if 0<(s3.length:Int)then
  (idx s3 0).bind λx5=>
  (aC s3 1).bind λx6=>
  (idx t0 x5).bind λx7=>
  (fa (qg x7) (s2,x6,0)).bind λy=>match y with
  |.inr _=>none
  |.inl (b22,b23)=>
  some (Ex.go (b22,b23))
 else
 some (Ex.brk s2)
noncomputable def sg(b26:List Bool):((List Int)×Int)->Option (Ex ((List Int)×Int) (List Int) Unit):=λ(s27,s28)=>
 if s28<(b26.length:Int)then
  baa (α:=(List Int)) (
   (idx b26 s28).bind λx30=>
   if x30=true then
    (app 8 s27 ([s28])).bind λx32=>
    some x32
   else
   some s27) λj33=>
  some (Ex.go (j33,(ea .i64 (s28+1))))
 else
 some (Ex.brk s27)
noncomputable def zp(t0:(List (List Int))) (t1:Int):Option (List Int):=
 (sE 1 false (t0.length:Int) (t0.length:Int)).bind λx1=>
 (fa (Ke t0) (x1,[t1])).bind λy=>match y with
 |.inr _=>none
 |.inl b26=>
 (fa (sg b26) (([]:List Int),0)).bind λy=>match y with
 |.inr _=>none
 |.inl b36=>
 some b36
def visit(p:List Bool×List Int) (e:Int):List Bool×List Int:=if p.1[e.toNat]?=some true then p else(p.1.set e.toNat true,p.2++[e])
def Sn(s:List Bool) (b:Int):Prop:=s[b.toNat]?=some true
instance (s:List Bool) (b:Int):Decidable (Sn s b):=by unfold Sn;infer_instance
def cF(s:List Bool):Nat:=s.count false
theorem KN:∀{s:List Bool}{i:Nat},s[i]?=some false->cF (s.set i true)+1=cF s
 |[],i,h=>by simp at h
 |b::s,0,h=>by simp at h;subst h;simp[cF]
 |b::s,i+1,h=>by
  have:=KN (s:=s) (i:=i) (by simpa using h);unfold cF at this⊢;simp only[List.set_cons_succ,List.count_cons];omega
theorem E0(s:List Bool):cF s<=s.length:=List.count_le_length
structure Ok (n:Nat) (p:List Bool×List Int):Prop where
 len:p.1.length=n
 q:∀x∈p.2,0<=x/\x<n
 m:p.2.length+cF p.1<=n+1
theorem HI{n:Nat}{p:List Bool×List Int}{e:Int}(h:Ok n p) (h0:0<=e) (h1:e<n) :
 Ok n (visit p e)/\(visit p e).2.length+cF (visit p e).1=p.2.length+cF p.1/\(∀b,0<=b->(Sn (visit p e).1 b↔Sn p.1 b\/b=e))/\(∀x,x∈(visit p e).2↔x∈p.2\/(x=e/\¬Sn p.1 e)):=by
 unfold visit;split
 .rename_i hs;refine⟨h,rfl,λb hb=>⟨.inl,λh=>?_⟩,λx=>⟨.inl,λh=>?_⟩⟩
  .rcases h with h|rfl
   .exact h
   .exact hs
  .rcases h with h|⟨rfl,h⟩
   .exact h
   .exact(h hs).elim
 .rename_i hs;have hlt:e.toNat<p.1.length:=by rw[h.len];omega
  have hf:p.1[e.toNat]?=some false:=by
   rw[caa hlt]at hs⊢
   cases hb:p.1[e.toNat]with
   |true=>rw[hb]at hs;exact(hs rfl).elim
   |false=>rfl
  have hc:=KN hf;have hm:=h.m;refine⟨⟨by simp[h.len],λx hx=>?_,?_⟩,?_,λb hb=>?_,λx=>?_⟩
  .rcases bab.1 hx with hx|hx
   .exact h.q x hx
   .rw[jab]at hx;subst hx;exact⟨h0,h1⟩
  .simp only[Iaa,Saa];omega
  .simp only[Iaa,Saa];omega
  .unfold Sn;rw[List.getElem?_set];by_cases hbe:e.toNat=b.toNat
   .rw[if_pos hbe,if_pos hlt];exact⟨λ_=>.inr (by omega),λ_=>rfl⟩
   .rw[if_neg hbe];exact⟨.inl,λh=>h.elim id λh=>(hbe (by rw[h])).elim⟩
  .rw[bab,jab];exact⟨λh=>h.imp id λh=>⟨h,hs⟩,λh=>h.imp id λh=>h.1⟩
theorem NF{n:Nat}:∀{l:List Int}{p:List Bool×List Int},Ok n p->(∀e∈l,0<=e/\e<n)->
 Ok n (l.foldl visit p)/\(l.foldl visit p).2.length+cF (l.foldl visit p).1=p.2.length+cF p.1/\(∀b,0<=b->(Sn (l.foldl visit p).1 b↔Sn p.1 b\/b∈l))/\(∀x,x∈(l.foldl visit p).2↔x∈p.2\/(x∈l/\¬Sn p.1 x))
 |[],p,h,_=>by simp[h]
 |e::l,p,h,hl=>by
  obtain⟨h0,h1⟩:=hl e (by simp);obtain⟨a1,a2,a3,a4⟩:=HI h h0 h1;obtain⟨b1,b2,b3,b4⟩:=NF a1 (λx hx=>hl x (by simp[hx])) (l:=l);simp only[mab];refine⟨b1,by omega,λb hb=>?_,λx=>?_⟩
  .rw[b3 b hb,a3 b hb,gab];constructor
   .rintro((h|h)|h)
    .exact .inl h
    .exact .inr (.inl h)
    .exact .inr (.inr h)
   .rintro(h|h|h)
    .exact .inl (.inl h)
    .exact .inl (.inr h)
    .exact .inr h
  .rw[b4 x,a4 x,gab];constructor
   .rintro((h|⟨rfl,h⟩)|⟨h,h'⟩)
    .exact .inl h
    .exact .inr ⟨.inl rfl,h⟩
    .exact .inr ⟨.inr h,λhs=>h' ((a3 x (hl x (by simp[h])).1).2 (.inl hs))⟩
   .rintro(h|⟨rfl|h,h'⟩)
    .exact .inl (.inl h)
    .exact .inl (.inr ⟨rfl,h'⟩)
    .by_cases hxe:x=e
     .subst hxe;exact .inl (.inr ⟨rfl,h'⟩)
     .exact .inr ⟨h,λhs=>((a3 x (hl x (by simp[h])).1).1 hs).elim h' hxe⟩
theorem lL{i:Int}(h0:0<=i) (h1:i<9223372036854775807):ea .i64 (i+1)=i+1:=uR ⟨by omega,by omega⟩
theorem CV{n:Nat}(hn:n<=1048576) {l:List Int}(hl:l.length<=1048576) (hle:∀e∈l,0<=e/\e<n):∀(k:Nat) {p:List Bool×List Int}{i:Nat},l.length-i=k->Ok n p->
 fa (qg l) (p.1,p.2,(i:Int))=some (.inl ((l.drop i).foldl visit p))
 |0,p,i,hk,hp=>by
  rw[List.drop_eq_nil_of_le (by omega)];refine Nc ?_;unfold qg;simp only;rw[if_neg (by omega)];rfl
 |k+1,p,i,hk,hp=>by
  have hi:i<l.length:=by omega
  obtain⟨h0,h1⟩:=hle l[i] (iaa hi);have hlt:l[i].toNat<p.1.length:=by rw[hp.len];omega
  rw[List.drop_eq_getElem_cons hi,mab];have hstep:qg l (p.1,p.2,(i:Int))=some (.go ((visit p l[i]).1,(visit p l[i]).2,((i+1:Nat):Int))):=by
   unfold qg;simp only;rw[if_pos (by omega)];have e1:idx l (i:Int)=some l[i]:=by simp[idx,hi]
   have e2:idx p.1 l[i]=some p.1[l[i].toNat]:=by simp[idx,h0,hlt]
   have e3:ea .i64 ((i:Int)+1)=((i+1:Nat):Int):=by rw[lL (by omega) (by omega)];omega
   rw[e1,aaa,e2,aaa,e3];unfold visit;rw[caa hlt]
   cases hb:p.1[l[i].toNat]with
   |true=>simp
   |false=>
    have e4:put p.1 l[i] true=some (p.1.set l[i].toNat true):=by simp[put,h0,hlt]
    have e5:app 8 p.2 [l[i]]=some (p.2++[l[i]]):=by
     have hm:=hp.m;unfold app;rw[if_pos];simp only[Saa];omega
    rw[if_pos rfl,e4,aaa,e5];simp
  rw[Yd hstep];exact CV hn hl hle k (i:=i+1) (by omega) (HI hp h0 h1).1
def wW(g:List (List Int)) (a b:Int):Prop:=b=a\/ReachL g a b
structure Bfs (g:List (List Int)) (a:Int) (p:List Bool×List Int):Prop where
 ok:Ok g.length p
 sound:∀b,0<=b->Sn p.1 b->ReachL g a b
 qs:∀x∈p.2,wW g a x
 done:∀b,0<=b->(b=a\/Sn p.1 b)->b∈p.2\/∀l,g[b.toNat]?=some l->∀c∈l,Sn p.1 c
theorem SZ{g:List (List Int)}{a:Int}(hn:g.length<=1048576) (hg:∀l∈g,l.length<=1048576/\∀e∈l,0<=e/\e<g.length):∀(k:Nat) {p:List Bool×List Int},p.2.length+cF p.1=k->Bfs g a p->
 ∃s,fa (Ke g) p=some (.inl s)/\Bfs g a (s,[]):=by
 intro k
 induction k with
 |zero=>
  intro p hk hp;obtain⟨s,q⟩:=p;have:q=[]:=List.eq_nil_of_length_eq_zero (by dsimp only at hk;omega);subst this;exact⟨s,Nc (by simp[Ke]),hp⟩
 |succ k ih=>
  intro p hk hp;obtain⟨s,q⟩:=p
  cases q with
  |nil=>exact⟨s,Nc (by simp[Ke]),hp⟩
  |cons d q=>
   obtain⟨d0,d1⟩:=hp.ok.q d (by simp);have hd:d.toNat<g.length:=by omega
   obtain⟨gl,ge⟩:=hg g[d.toNat] (iaa hd);have hok:Ok g.length (s,q):=⟨hp.ok.len,λx hx=>hp.ok.q x (by simp[hx]),by have:=hp.ok.m;simp only[Daa]at this⊢;omega⟩;obtain⟨v1,v2,v3,v4⟩:=NF hok ge (l:=g[d.toNat]);have hstep:Ke g (s,d::q)=some (.go (g[d.toNat].foldl visit (s,q))):=by
    unfold Ke;simp only;rw[if_pos (by simp)];have e1:idx (d::q) 0=some d:=rfl;have e2:aC (d::q) 1=some q:=by simp[aC]
    have e3:idx g d=some g[d.toNat]:=by simp[idx,d0,hd]
    have e4:=CV hn gl ge _ (p:=(s,q)) (i:=0) rfl hok;simp only[List.drop_zero,Kac]at e4;rw[e1,aaa,e2,aaa,e3,aaa,e4];rfl
   rw[Yd hstep];have hk2:q.length+cF s=k:=by simp only[Daa]at hk;omega
   refine ih (by rw[v2];exact hk2) ⟨v1,λb hb hs=>?_,λx hx=>?_,λb hb hbs=>?_⟩
   .rcases(v3 b hb).1 hs with h|h
    .exact hp.sound b hb h
    .rcases hp.qs d (by simp)with rfl|hr
     .exact .one (caa hd) h
     .exact .step hr (caa hd) h
   .rcases(v4 x).1 hx with h|⟨h,-⟩
    .exact hp.qs x (by simp[h])
    .right;rcases hp.qs d (by simp)with rfl|hr
     .exact .one (caa hd) h
     .exact .step hr (caa hd) h
   .have up:∀c,0<=c->Sn s c->Sn (g[d.toNat].foldl visit (s,q)).1 c:=λc hc h=>(v3 c hc).2 (.inl h);by_cases hbd:b=d
    .subst hbd;right;intro l hl c hc;rw[caa hd]at hl;injection hl with hl;subst hl;exact(v3 c (ge c hc).1).2 (.inr hc)
    .have key:(b=a\/Sn s b)\/(b∈g[d.toNat]/\¬Sn s b):=by
      rcases hbs with h|h
      .exact .inl (.inl h)
      .rcases(v3 b hb).1 h with h|h
       .exact .inl (.inr h)
       .by_cases hs:Sn s b
        .exact .inl (.inr hs)
        .exact .inr ⟨h,hs⟩
     rcases key with h|h
     .rcases hp.done b hb h with h|h
      .rcases gab.1 h with h|h
       .exact(hbd h).elim
       .exact .inl ((v4 b).2 (.inl h))
      .right;intro l hl c hc;have hm:l∈g:=Caa hl;exact up c ((hg l hm).2 c hc).1 (h l hl c hc)
     .exact .inl ((v4 b).2 (.inr h))
theorem DV{s:List Bool}(hs:s.length<=1048576):∀(k:Nat) {i:Nat},s.length-i=k->i<=s.length->
 fa (sg s) (((uaa i).map λ(k:Nat)=>(k:Int)).filter (λb=>decide (Sn s b)),(i:Int))=some (.inl (((uaa s.length).map λ(k:Nat)=>(k:Int)).filter λb=>decide (Sn s b)))
 |0,i,hk,hi=>by
  have:i=s.length:=by omega
  subst this;refine Nc ?_;unfold sg;simp
 |k+1,i,hk,hi=>by
  have hlt:i<s.length:=by omega
  have hlen:(((uaa i).map λ(k:Nat)=>(k:Int)).filter (λb=>decide (Sn s b))).length<=i:=kab (Qaa _ _) (by simp);have hstep:sg s (((uaa i).map λ(k:Nat)=>(k:Int)).filter (λb=>decide (Sn s b)),(i:Int))=some (.go (((uaa (i+1)).map λ(k:Nat)=>(k:Int)).filter (λb=>decide (Sn s b)),((i+1:Nat):Int))):=by
   unfold sg;simp only;rw[if_pos (by omega)];have e1:idx s (i:Int)=some s[i]:=by simp[idx,hlt]
   have e3:ea .i64 ((i:Int)+1)=((i+1:Nat):Int):=by rw[lL (by omega) (by omega)];omega
   rw[e1,aaa,e3,Mab,aab,iab]
   cases hb:s[i]with
   |true=>
    have hsn:Sn s ((i:Nat):Int):=by unfold Sn;simp[hlt,hb]
    have e5:app 8 (((uaa i).map λ(k:Nat)=>(k:Int)).filter (λb=>decide (Sn s b))) [(i:Int)]=some (((uaa i).map λ(k:Nat)=>(k:Int)).filter (λb=>decide (Sn s b))++[(i:Int)]):=by
     unfold app;rw[if_pos];simp only[Saa];omega
    rw[if_pos rfl,e5];simp[hsn]
   |false=>
    have hsn:¬Sn s ((i:Nat):Int):=by unfold Sn;simp[hlt,hb]
    rw[if_neg (by simp)];simp[hsn]
  rw[Yd hstep];exact DV hs k (i:=i+1) (by omega) (by omega)
theorem TM{t0:List (List Int)}{t1:Int}{r:List Int}(h:Wl t0 t1=some r):zp t0 t1=some r:=by
 unfold Wl at h;split at h
 .rename_i hc;obtain⟨hn,hg,h0,h1⟩:=hc;obtain rfl:=Faa h;unfold zp;have e1:sE 1 false (t0.length:Int) (t0.length:Int)=some (gaa t0.length false):=by
   unfold sE;rw[if_pos ⟨by omega,by omega,by omega,by simp;omega⟩];simp
  have hb:Bfs t0 t1 (gaa t0.length false,[t1]):=by
   have hno:∀b,¬Sn (gaa t0.length false) b:=λb hb=>by
    unfold Sn at hb;rw[List.getElem?_replicate]at hb;split at hb<;>simp at hb
   refine⟨⟨by simp,λx hx=>?_,?_⟩,λb _ hs=>(hno b hs).elim,λx hx=>?_,λb _ hs=>?_⟩
   .rw[jab]at hx;subst hx;exact⟨h0,h1⟩
   .have:=E0 (gaa t0.length false);simp only[List.length_replicate,Saa]at this⊢;omega
   .rw[jab]at hx;exact .inl hx
   .rcases hs with rfl|hs
    .exact .inl (by simp)
    .exact(hno b hs).elim
  obtain⟨s,e2,hb⟩:=SZ hn hg _ rfl hb;have hlen:s.length=t0.length:=hb.ok.len;have e3:=DV (s:=s) (by omega) _ (i:=0) rfl (by omega);simp only[qad,Fab,yac,Kac]at e3;rw[e1,aaa,e2,aaa];simp only;rw[e3,aaa];simp only;rw[hlen];unfold GD;congr 1;apply List.filter_congr;intro b hbm;obtain⟨k,-,rfl⟩:=Xab.1 hbm;have hfull:∀b,ReachL t0 t1 b->0<=b/\Sn s b:=by
   intro b hr
   induction hr with
   |one h hb2=>
    have hm:=Caa h;refine⟨((hg _ hm).2 _ hb2).1,?_⟩;rcases hb.done t1 h0 (.inl rfl)with h'|h'
    .cases h'
    .exact h' _ h _ hb2
   |step _ hl hc ih=>
    have hm:=Caa hl;refine⟨((hg _ hm).2 _ hc).1,?_⟩;rcases hb.done _ ih.1 (.inr ih.2)with h'|h'
    .cases h'
    .exact h' _ hl _ hc
  exact decide_eq_decide.2 ⟨λh=>hb.sound _ (by omega) h,λh=>(hfull _ h).2⟩
 .cases h
end Go.Proofs.Dev
