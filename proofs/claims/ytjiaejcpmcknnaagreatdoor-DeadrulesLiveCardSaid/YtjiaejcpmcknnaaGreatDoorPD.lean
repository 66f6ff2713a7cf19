/-
  The functions as plain partial functions, and plain lemmas about them: no condition.
-/
import Derived.Test.YtjiaejcpmcknnaaGreatDoorPC
import Derived.Test.YtjiaejcpmcknnaaGreatDoorPB
import Derived.KernelRfl
import Derived.Test.YtjiaejcpmcknnaaGreatDoorPA
open Bool renaming and_eq_true->Sac,eq_false_iff->Lae,eq_iff_iff->daf,false_eq_true->Tac,not_eq_true->Oae,not_eq_true'->Aaf,not_true->Cae
open ByteArray renaming mk->Pac
open Classical renaming not_not->qad
open Int renaming le_refl->Lag,natCast_zero->Iag,reduceEq->Uac,tdiv->sad
open List renaming all_eq_true->Kad,any_eq_true->Gaf,contains_iff_mem->Zac,eq_nil_of_length_eq_zero->gad,ext_getElem->lae,filter_append->Zad,filter_congr->Cag,filter_cons->Pae,filter_eq_nil_iff->zaf,filter_nil->taf,foldl_cons->tae,getD_eq_getElem?_getD->mae,getElem?_append_left->Nad,getElem?_eq_getElem->Lac,getElem?_eq_some_iff->oad,getElem?_map->Oad,getElem?_range->Xae,getElem?_set->Baf,getElem_map->paf,getElem_mem->Qac,getElem_of_mem->ead,getElem_range->Raf,getElem_set->aag,getElem_take->Aae,length_append->tad,length_cons->rad,length_eq_zero_iff->uaf,length_filter_le->Fad,length_map->bae,length_nil->cae,length_singleton->Gad,length_take->wae,map_append->Qad,map_congr_left->Bae,map_nil->Vae,mem_append->wad,mem_append_left->kaf,mem_cons->Wad,mem_cons_self->vaf,mem_filter->Uad,mem_map->jae,mem_of_getElem?->had,mem_range->gae,mem_singleton->xad,mem_singleton_self->Zaf,nodup_append->Dag,nodup_cons->Maf,nodup_iff_pairwise_ne->Oaf,not_mem_nil->Haf,pairwise_iff_getElem->Dae,pairwise_lt_range->eag,pairwise_map->Eag,range->aad,range_succ->Nae,range_zero->Rag,replicate->Nac,take_add_one->yad,take_length->dae
open List.Pairwise renaming filter->Iaf,imp->Aag
open Nat renaming le_refl->cad,le_trans->Vad,strongRecOn->faf,sub_zero->gaf,zero_le->Sad
open Option renaming bind->Kac,bind_some->Jac,map_eq_some_iff->Oac,toList_some->iae
open Option.some renaming inj->nad,injEq->Aad
set_option linter.all false
set_option maxRecDepth 10000
set_option maxHeartbeats 1000000
namespace Go.Proofs.Dev
open Go Go.Tm
theorem Sv{s:GScope}(hs:ScOk s):ie s=some (gw (kq s)):=by
 grind[ie,sn]
theorem tD{g:List (List Int)}:∀(k:Nat) (out:List Int),(∀x∈out,0<=x/\x<(g.length:Int))->(out.length+k<=g.length)->(∀x∈(Ku g k out).1,0<=x/\x<(g.length:Int))/\(Ku g k out).1.length<=g.length
 |0,out,h,hl=>⟨h,hl⟩
 |k+1,out,h,hl=>by
  unfold Ku;split
  .rename_i d hf;have h2:=List.mem_of_find?_eq_some hf;rw[gae]at h2;refine tD k _ (λx hx=>?_) (by grind)
   grind
  simp
theorem yN(g:List (List Int)):(∀x∈(gw g).1,0<=x/\x<(g.length:Int))/\(gw g).1.length<=g.length:=tD g.length [] (λx hx=>by simp at hx) (by simp)
def PF(n:Nat) (x:Int):Prop:=x = -1\/x = -2\/(0<=x/\x<(n:Int))
theorem rU{t1:List Int}{out:Int->Int}{l:List Int}{n:Nat}(h:∀x∈l,PF n (out x)):PF n (ML t1 out l):=by
 unfold ML;have hs:=Ys (t1:=t1) (out:=out) (l:=l);split
 .exact .inl rfl
 .simp_all
 .exact .inr (.inl rfl)
theorem Q1{t0 t1:List Int}{t2:List Bool}:∀(k:Nat) (i:Int),0<=i->i<(t0.length:Int)->PF t0.length (oc t0 t1 t2 k i)
 |0,i,_,_=>.inl rfl
 |k+1,i,h0,h1=>by
  unfold oc;split
  .exact .inr (.inr ⟨h0,h1⟩)
  .exact rU λx hx=>by
    obtain⟨j,rfl,hj,-⟩:=nA hx;exact Q1 k _ (by omega) (by omega)
theorem eK(t0 t1:List Int) (t2:List Bool):PF t0.length (nw t0 t1 t2):=by
 unfold nw;split
 .exact rU λx hx=>by
   obtain⟨j,rfl,hj,-⟩:=nA hx;exact Q1 t0.length _ (by omega) (by omega)
 .exact .inl rfl
structure ScE (s:GScope):Prop where
 ok:ScOk s
 n:∀r∈s.Rules,(∀n∈r.Guard,Xa n)/\(∀n∈r.Value,Xa n)
def K7:GEvalError:=⟨0,0,0,0⟩
def wB(s:GScope) (d x:Int):Bool:=decide (d=x) || (vz s d s.Defs.length).contains x
theorem Valid.few{l:GLaw}(hV:Valid l) {i:Nat}(hi:i<l.Scopes.length):fw l i l.Scopes[i]=false/\l.Scopes[i].Inputs.length<=12/\l.Scopes[i].Defs.length<=12:=by
 have h:=hV.s i hi
 grind[vf]
theorem xV{l:GLaw}(h:LawOk l) {x:GScope}(hx:x∈l.Scopes):ScE x:=by
 obtain⟨-,g2,-,-,-,g6⟩:=h.s x hx;exact⟨g2,λr hr=>(g6 r hr).2.2⟩
def BI(l:GLaw) (x:GScope):GScope:=if h:0<=x.MemberScope/\x.MemberScope<(l.Scopes.length:Int)then l.Scopes[x.MemberScope.toNat]'(by omega)else⟨Pac #[],0,[],[],[]⟩
theorem eU{l:GLaw}(h:LawOk l) (x:GScope):ScE (BI l x):=by
 unfold BI;split
 .grind[xV]
 .exact⟨⟨by simp,by simp,by simp⟩,by simp⟩
theorem Valid.Qg{l:GLaw}(hV:Valid l) {i:Nat}(hi:i<l.Scopes.length):∀f∈l.Scopes[i].Inputs,ia f.Type_ l.Enums=true:=by
 intro f hf;obtain⟨k,hk,rfl⟩:=ead hf;have h:=hV.s i hi;generalize l.Scopes[i]=x at h hk⊢;unfold vf at h
 repeat' split at h
 all_goals first|(simp at h;done)|skip
 .rename_i v hv;exact(vF IT hv h).elim
 .rename_i v hv;exact(vF uO hv h).elim
 .rename_i v hv;exact(vF lP hv h).elim
 .have hin:ff (GQ l x) x.Inputs.length=none:=by omega
  have:=Zb.1 hin k hk;unfold GQ at this;rw[Lac hk]at this
  grind[Gt]
theorem Valid.mem0{l:GLaw}(h:Valid l):∀x∈l.Enums,0<x.Members.length:=by
 intro x hx;obtain⟨i,hi,rfl⟩:=ead hx;have h1:=h.e i hi
 grind[Nf]
theorem nv{t:GType}{e:List GEnum}(hv:ia t e=true):(t.Kind=1/\t.Enum=0/\cg t e=(0,1))\/(t.Kind=2/\t.Enum=0/\cg t e=(-1000000000000,1000000000000))\/(t.Kind=3/\t.Enum=0/\cg t e=(-1000000000000000,1000000000000000))\/
 (t.Kind=4/\t.Enum=0/\cg t e=(-1000000000,1000000000))\/(t.Kind=5/\t.Enum=0/\cg t e=(0,109572))\/(t.Kind=6/\0<=t.Enum/\t.Enum<(e.length:Int)/\∃x∈e,cg t e=(0,ca .i64 ((x.Members.length:Int)-1))):=by
 have hb:=Um t e;unfold Ff at hb;rw[Oa,Jac,hv]at hb;simp only[Bool.true_eq_false,if_false]at hb;unfold ia at hv;by_cases h6:t.Kind=6
 .rw[if_pos h6]at hv;simp only[Sac,decide_eq_true_eq]at hv;simp only[h6,Uac,if_false]at hb
  grind[Si]
 .rw[if_neg h6]at hv;simp only[Sac,decide_eq_true_eq,beq_iff_eq]at hv;rcases(by omega:t.Kind=1\/t.Kind=2\/t.Kind=3\/t.Kind=4\/t.Kind=5)with h|h|h|h|h<;>simp only[h,Uac,if_true,if_false,Aad]at hb<;>simp[h,hv.2,←hb]
theorem wq{l:GLaw}(hV:Valid l) {t:GType}(hv:ia t l.Enums=true):(cg t l.Enums).1<=(cg t l.Enums).2/\∀n,(cg t l.Enums).1<=n->n<=(cg t l.Enums).2->Bf ⟨t.Kind,t.Enum,n⟩:=by
 have hne:=hV.ne;unfold Bf;rcases nv hv with⟨h1,h2,h3⟩|⟨h1,h2,h3⟩|⟨h1,h2,h3⟩|⟨h1,h2,h3⟩|⟨h1,h2,h3⟩|⟨h1,h2,h4,x,hx,h3⟩
 all_goals rw[h3]
 all_goals first|(refine⟨by decide,λn a b=>?_⟩;simp_all)|skip
 have m0:=hV.mem0 x hx;have m1:=hV.mem x hx
 grind[wid]
theorem kH(lo:Int):∀{k i:Nat},i<k->(jH lo k)[i]?=some (lo+i)
 |k+1,i,h=>by
  have hl:=Lv lo k;unfold jH;by_cases hi:i<k
  .rw[Nad (by omega)];exact kH lo hi
  grind
theorem iP{l:GLaw}(hV:Valid l) {t:GType}(hv:ia t l.Enums=true) (cuts:List Int):0<(HG t l.Enums cuts).length/\∀x∈HG t l.Enums cuts,(cg t l.Enums).1<=x/\x<=(cg t l.Enums).2:=by
 have hb:=(wq hV hv).1;unfold HG;rw[if_neg (by omega)];by_cases hk:t.Kind=1\/t.Kind=6
 .rw[if_pos hk,Lv];refine⟨by omega,λx hx=>?_⟩;obtain⟨i,hi,rfl⟩:=ead hx;have hi':=hi;rw[Lv]at hi';have:=kH (cg t l.Enums).1 hi'
  grind
 .rw[if_neg hk];have hd:=dh ([(cg t l.Enums).1]++cuts.filter λc=>decide ((cg t l.Enums).1<=c)&&decide (c<=(cg t l.Enums).2));constructor
  .have:=List.length_pos_of_mem ((hd.2.2 (cg t l.Enums).1).2 (by simp));omega
  simp_all
theorem Gz(l:GLaw) (gs:List (List GNode)) (s:GScope):∀k,k<=s.Inputs.length->(vi l gs s k).length=k
 |0,_=>rfl
 |k+1,h=>by
  have ih:=Gz l gs s k (by omega)
  grind[vi]
theorem GF(l:GLaw) (gs:List (List GNode)) (s:GScope):∀k,k<=s.Inputs.length->∀i (hi:i<k) (h2:i<s.Inputs.length),(vi l gs s k)[i]?=some (qB l gs s.Inputs[i] i)
 |k+1,h,i,hi,h2=>by
  have hl:=Gz l gs s k (by omega);unfold vi;by_cases hik:i<k
  .rw[Nad (by omega)];exact GF l gs s k (by omega) i hik h2
  grind
structure GridOk (l:GLaw) (s:GScope) (sc d date:Int) (g:List (List Int)):Prop where
 cv:(ln l).Code=0
 csc:0<=sc/\sc<(l.Scopes.length:Int)
 cs:l.Scopes[sc.toNat]?=some s
 cd:0<=d/\d<(s.Defs.length:Int)
 cdt:0<=date/\date<=109572
 flat:∀e∈zk s d date,Bk e (Oq l s)=true
 eq:g=vi l (zk s d date) s s.Inputs.length
 len:g.length=s.Inputs.length
 row:∀i (h:i<s.Inputs.length),g[i]?=some (qB l (zk s d date) s.Inputs[i] i)
 pos:∀r∈g,0<r.length/\r.length<=1099511627776
 le:Xe g<=4096
theorem xy{l:GLaw}(h:LawOk l) {sc d date:Int}(hg:(og l sc d date).2=0):∃s,GridOk l s sc d date (og l sc d date).1:=by
 unfold og at hg⊢;split at hg
 .omega
 split at hg
 .omega
 split at hg
 .omega
 split at hg
 .omega
 split at hg
 .omega
 split at hg
 .omega
 split at hg
 .omega
 rename_i hv hsc _ s hs hd hdt hfl hc;rw[if_neg hv,if_neg hsc];(try (rw[hs];dsimp only));rw[if_neg hd,if_neg hdt,if_neg hfl,if_neg hc];have hV:=dq (qad.1 hv);have hi:sc.toNat<l.Scopes.length:=by omega
 have hsi:l.Scopes[sc.toNat]=s:=by simp_all
 have hfl':∀e∈zk s d date,Bk e (Oq l s)=true:=λe he=>by
  simp_all
 have hlen:=Gz l (zk s d date) s s.Inputs.length (cad _);have hget:=GF l (zk s d date) s s.Inputs.length (cad _);have hsm:=h.s s (had hs);have hinv:=Oo (l:=l) hV.mem (gs:=zk s d date) (by have:=BA s d date;have:=hsm.2.1.rules;omega) (λg hg=>Gl (hfl' g hg)) s s.Inputs.length;have hpos:∀r∈vi l (zk s d date) s s.Inputs.length,0<r.length:=λr hr=>by
  obtain⟨i,hi2,rfl⟩:=ead hr;have h2:i<s.Inputs.length:=by omega
  have e:=hget i h2 h2;rw[Lac hi2]at e;rw[nad e];unfold qB;split
  .have hvt:ia s.Inputs[i].Type_ l.Enums=true:=hV.Qg hi _ (by simp_all)
   grind[iP]
  simp
 exact⟨s,qad.1 hv,by omega,hs,by omega,by omega,hfl',rfl,hlen,λi hi=>hget i hi hi,λr hr=>⟨hpos r hr,by grind⟩,show Xe (vi l (zk s d date) s s.Inputs.length)<=4096 from lS hpos (by omega)⟩
theorem Cr{e:List GNode}{s:GSignature}(h:Bk e s=true):∀i,i<e.length->No e i=true:=by
 simp_all[Bk,Zb]
theorem Zs{e:List GNode}(hw:Wst e) (hf:∀i,i<e.length->No e i=true) (env:GEnv):(∀i,i<e.length->NodeP e env i)/\Ra e env=some (um e env (e.length-1)):=by
 have hn:∀i,i<e.length->NodeP e env i:=wN hw λj hj hl=>zF (by grind[Bm,Az]) ((vy (hf j hj)).resolve_right λh=>hl (by omega));exact⟨hn,(FR hw (hn _ (by have:=hw.pos;omega))).1⟩
theorem zA{e:List GNode}(hw:Wst e) (hf:∀i,i<e.length->No e i=true) (env:GEnv):LB (Ra e env):=by
 have hn:∀i,i<e.length->NodeP e env i:=(Zs hw hf env).1;have:=FR hw (hn _ (by have:=hw.pos;omega));exact⟨_,this.1,this.2⟩
theorem ew{s:GScope}{d date x:Int}(hx:x∈(oa s d date).1) (h0:(Mn s x).length≠0):Mn s x∈zk s d date:=by
 unfold zk DF;rw[Uad];exact⟨jae.2 ⟨x,hx,rfl⟩,by grind⟩
noncomputable def ti(l:GLaw) (s:GScope) (d date:Int) (env:GEnv):Int:=nw (oa s d date).2.1 (oa s d date).2.2 (nq s (oa s d date).1 env)
theorem nu(s:GScope) (d date:Int):(oa s d date).2.1.length=(oa s d date).1.length/\(oa s d date).1.length<=s.Rules.length:=by
 have h:=Yp (rules:=s.Rules) (q:=Ju d date) s.Rules.length;exact⟨h.2.2,h.2.1⟩
theorem QN(a b:GCoverageHole):Ji a b=some (decide (a.Outcome=b.Outcome/\a.RuleA=b.RuleA/\a.RuleB=b.RuleB)):=by
 grind[Ji]
theorem vI{l:List GCoverageHole}(hl:l.length<=1048576) (o:GCoverageHole):ua l (λx=>fb x o)=some (l.any λa=>decide (a.Outcome=o.Outcome/\a.RuleA=o.RuleA/\a.RuleB=o.RuleB)):=by
 have h:=rn (l:=l) (p:=λx=>fb x o) (λa=>decide (a.Outcome=o.Outcome/\a.RuleA=o.RuleA/\a.RuleB=o.RuleB)) (λx _=>by grind[fb,QN]) (by omega) (o:=da (Ja l (λx=>fb x o)) 0) (by unfold Ja;rfl);have h':ua l (λx=>fb x o)=some (l.any λa=>decide (a.Outcome=o.Outcome/\a.RuleA=o.RuleA/\a.RuleB=o.RuleB)):=h;omega
def Bp(l:GLaw) (s:GScope) (date:Int) (g:List (List Int)) (c:List Int):GEnv:=⟨date,Ep s.Inputs g c,[],[],[],l.Tables⟩
structure HolesI (l:GLaw) (s:GScope) (d date:Int) (g:List (List Int)) (k:Nat) (hs:List GCoverageHole):Prop where
 len:hs.length<=k
 all:∀o∈hs,∃c,mb g c/\o.Inputs=Ep s.Inputs g c/\o.Outcome=ti l s d date (Bp l s date g c)/\o.Outcome<0
theorem Yw{l:GLaw}(h:LawOk l) {sc d date:Int}{s:GScope}{g:List (List Int)}(hg:og l sc d date=(g,0)) (ho:GridOk l s sc d date g) :
 ∃hs,Na l sc d date=some (hs,0)/\HolesI l s d date g 4096 hs/\(hs=[]->∀c,mb g c->0<=ti l s d date (Bp l s date g c)):=by
 have hsm:=h.s s (had ho.cs);have htl:=nu s d date;have hrl:=hsm.2.1.rules;have hm:=Og (rules:=s.Rules) (q:=Ju d date) s.Rules.length;have hm':∀x∈(oa s d date).1,0<=x/\x<(s.Rules.length:Int):=λx hx=>⟨(hm x hx).1,(hm x hx).2.1⟩;have ht:∀(env:GEnv),∀x∈(oa s d date).1,(Mn s x).length≠0->LB (Ra (Mn s x) env):=λenv x hx h0=>by
  have hf:=ho.flat _ (ew hx h0)
  grind[zA,Gl,Cr]
 unfold Na;rw[xg h,hg,Jac,if_neg (by simp),Si ho.csc.1 ho.csc.2,Jac];have es:l.Scopes[sc.toNat]'(by have:=ho.csc;omega)=s:=by
  have:=ho.cs
  grind
 rw[es,Qk hrl,Jac];dsimp only;have hgl:g.length<=1048576:=by rw[ho.len];omega
 rw[Sw (by omega) (by omega),Jac];obtain⟨c0,r0⟩:=rO ho.pos;obtain⟨hs,h1,h2,h3⟩:=PE (g:=g) (step:=jc l date (g,0) s (oa s d date)) (HolesI l s d date g) (λhs c=>0<=ti l s d date (Bp l s date g c)\/hs≠[]) (λhs=>hs) (λhs c hc hI=>by
  have hlt:=AD hc;have hle:=ho.le;unfold jc;dsimp only;rw[if_pos rfl];have e1:Vc (g,0) s c=some (Ep s.Inputs g c):=by
   unfold Vc;rw[Ay hsm.2.2.1 ho.len hc (step:=Xc (g,0) s c) (λa i=>by grind[Xc])];rfl
  have e2:Wc (g,0) c=some (Fi g c):=by
   grind[Wc,Ce,mO]
  rw[e1,Jac,DA (by omega) hm' (ht _),Jac,rj,Jac,e2];have eo:nw (oa s d date).2.1 (oa s d date).2.2 (nq s (oa s d date).1 ⟨date,Ep s.Inputs g c,[],[],[],l.Tables⟩)=ti l s d date (Bp l s date g c):=rfl;rw[eo];by_cases hp:0<=ti l s d date (Bp l s date g c)
  .rw[if_pos hp,Jac,Jac];exact⟨hs,rfl,⟨by have:=hI.len;omega,hI.all⟩,.inl hp,λ_ h=>h⟩
  .rw[if_neg hp];obtain⟨a,b,hab⟩:∃a b,(if ti l s d date (Bp l s date g c)=(-2)then
    (Jd (oa s d date).2.1 (oa s d date).2.2 (nq s (oa s d date).1 ⟨date,Ep s.Inputs g c,[],[],[],l.Tables⟩)).bind λx26=>(idx (oa s d date).1 x26.1).bind λx27=>(idx (oa s d date).1 x26.2.1).bind λx28=>some (x27,x28)
    else some ((-1),(-1)))=some (a,b):=by
    by_cases h2:ti l s d date (Bp l s date g c)=(-2)
    .obtain⟨a,b,ok,q1,q2,q3⟩:=AE (eo.trans h2);rw[if_pos h2,q1,Jac,Si q2.1 (by omega),Jac,Si q3.1 (by omega),Jac];simp
    simp_all
   rw[hab,Jac];dsimp only;have hl:=hI.len;rw[vI (by omega),Jac]
   cases hany:hs.any λx=>decide (x.Outcome=ti l s d date (Bp l s date g c)/\x.RuleA=a/\x.RuleB=b)with
   |true=>
    rw[if_neg (by simp),Jac,Jac];exact⟨hs,rfl,⟨by omega,hI.all⟩,.inr (λh=>by simp_all),λ_ h=>h⟩
   |false=>
    rw[if_pos rfl,ui (by grind),Jac,Jac,Jac];refine⟨_,rfl,⟨by simp_all,λo hm=>?_⟩,.inr (by simp),λ_ h=>h.imp id λ_=>by simp⟩;rcases wad.1 hm with hm|hm
    .exact hI.all o hm
    grind) (λhs c=>by simp_all[jc]) c0 r0 (s0:=[]) ⟨by simp,λo h=>by grind⟩
 rw[h1,Jac];exact⟨hs,rfl,⟨by have:=h2.len;have:=ho.le;omega,h2.all⟩,λhe c hc=>(h3 c hc).resolve_right λh=>h he⟩
theorem type7{N:Int}{s:GSignature}{r:GType×Int}(h:Fa ⟨7,N⟩ [] s=some r) (h0:r.2=0):∃t,0<=N/\s.Inputs[N.toNat]?=some t/\r.1=t:=by
 have hu:=ya (op:=7) (by omega);have hus:Ib 7=true:=rfl;unfold Fa na Qb at h;simp only[hu,hus,Ka,Ht]at h;by_cases hr:0<=N/\N<(s.Inputs.length:Int)
 .refine⟨s.Inputs[N.toNat]'(by omega),hr.1,Lac (by omega),?_⟩;have e1:¬N<0:=by omega
  have e2:¬(s.Inputs.length:Int)<=N:=by omega
  rw[Si hr.1 hr.2]at h;generalize s.Inputs[N.toNat]'(by omega)=t at h⊢;cases hv:ia t s.Enums
  all_goals grind
 grind
theorem nR{e:List GNode}{s:GSignature}(hN:∀n∈e,Xa n) (h:Bk e s=true) (h7:(va e (e.length-1)).Op=7):∃t,0<=(va e (e.length-1)).N/\s.Inputs[(va e (e.length-1)).N.toNat]?=some t/\t.Kind=1:=by
 have hw:=Gl h;unfold Bk at h;simp only[Sac,decide_eq_true_eq,beq_iff_eq]at h;obtain⟨⟨h0,h1,-⟩,-⟩:=h;unfold uo at h0 h1;rw[Pq hw]at h0 h1;simp only[if_true]at h0 h1;have hpos:=hw.pos
 cases hf:ff (ku e s) e.length with
 |some v=>
  rw[hf]at h0;obtain⟨i,-,hv,-⟩:=Sa.1 hf;unfold ku at hv
  grind
 |none=>
  rw[hf]at h1;have ht:=Zb.1 hf;have hlast:=ht (e.length-1) (by omega);have hat:=TA hw hN (i:=e.length-1) (by omega) (λj hj=>ht j (by omega));have hinv:=(dr hw hN e.length (cad _) ht).1;have hone:=hw.one;have har:Pb e (e.length-1)=0:=by unfold Pb;rw[h7];decide
  rw[har,gaf,List.drop_length]at hat;unfold ku at hlast;split at hlast
  case isFalse=>simp_all
  rename_i hz;have es:Ho e s e.length=Ho e s (e.length-1)++[(Yt e s (Ho e s (e.length-1)) (e.length-1)).1]:=by
   conv=>lhs;rw[show e.length=(e.length-1)+1 by omega]
   simp_all[Ho]
  have hnil:Ho e s (e.length-1)=[]:=by
   grind
  rw[es,hnil]at h1;rw[hnil]at hat hz;simp at h1;generalize va e (e.length-1)=n at h7 hat⊢;obtain⟨op,N⟩:=n;dsimp only at h7;subst h7;obtain⟨t,t1,t2,t3⟩:=type7 hat hz
  simp_all
theorem kT{p:Int->Prop}:∀{l:List Int},(∃x∈l,p x)->∃x∈l,p x/\∀y∈l,p y->y<=x
 |[],h=>by simp_all
 |a::l,h=>by
  by_cases hl:∃x∈l,p x
  .obtain⟨x,h1,h2,h3⟩:=kT hl
   grind
  simp_all
theorem D8{l:GLaw}(hV:Valid l) {t:GType}(hv:ia t l.Enums=true) (cuts:List Int) {v:Int}(h1:(cg t l.Enums).1<=v) (h2:v<=(cg t l.Enums).2) :
 ∃a:Nat,∃w,(HG t l.Enums cuts)[a]?=some w/\(w=v\/(t.Kind≠1/\t.Kind≠6/\(cg t l.Enums).1<=w/\w<=v/\∀c∈cuts,c<=v->c<=w)):=by
 have hb:=(wq hV hv).1;unfold HG;rw[if_neg (by omega)];by_cases hk:t.Kind=1\/t.Kind=6
 .rw[if_pos hk];exact⟨(v-(cg t l.Enums).1).toNat,v,by grind[kH],.inl rfl⟩
 .rw[if_neg hk];have hd:=dh ([(cg t l.Enums).1]++cuts.filter λc=>decide ((cg t l.Enums).1<=c)&&decide (c<=(cg t l.Enums).2));generalize kd _=R at hd⊢;have hmem:∀x,x∈R↔x=(cg t l.Enums).1\/(x∈cuts/\(cg t l.Enums).1<=x/\x<=(cg t l.Enums).2):=λx=>by
   simp_all
  obtain⟨w,m1,m2,m3⟩:=kT (l:=R) (p:=λx=>x<=v) ⟨_,(hmem _).2 (.inl rfl),h1⟩;obtain⟨a,ha,rfl⟩:=ead m1;have hw:=(hmem _).1 m1;refine⟨a,_,Lac ha,.inr ⟨λh=>hk (.inl h),λh=>hk (.inr h),by omega,m2,λc hc hcv=>?_⟩⟩
  grind
theorem WE{e:List GNode}{k x:Int}:∀{n i:Nat},i<n->x∈cutAt e k i->x∈Jk e k n
 |n+1,i,h,hx=>by
  unfold Jk;rw[wad];by_cases hi:i=n
  .simp_all
  .exact .inl (WE (by omega) hx)
theorem YC{gs:List (List GNode)}{e:List GNode}{k x:Int}:∀{n j:Nat},j<n->gs[j]?=some e->x∈Jk e k e.length->x∈Ec gs k n
 |n+1,j,h,he,hx=>by
  unfold Ec;rw[wad];by_cases hj:j=n
  .simp_all
  .exact .inl (YC (by omega) he hx)
theorem AS{gs:List (List GNode)}{e:List GNode}(he:e∈gs) {i:Nat}(hi:i<e.length) (hc:Ky (va e i).Op=true) {k:Int}{c:GNode}(hs:iy e i=some (k,c)) (h6:c.Op≠6) :
 c.N∈kd (Ec gs k gs.length)/\(c.N<9223372036854775807->c.N+1∈kd (Ec gs k gs.length)):=by
 obtain⟨j,hj,rfl⟩:=ead he;have key:∀x,x∈cutAt gs[j] k i->x∈kd (Ec gs k gs.length):=λx hx=>
  ((dh _).2.2 x).2 (YC hj (Lac hj) (WE hi hx))
 grind[cutAt]
theorem VC{P:Nat->Nat->Prop}:∀n,(∀i,i<n->∃a,P i a)->∃c:List Int,c.length=n/\∀i,i<n->∃a:Nat,c[i]?=some (a:Int)/\P i a
 |0,_=>⟨[],rfl,λi h=>absurd h (by omega)⟩
 |n+1,h=>by
  obtain⟨c,h1,h2⟩:=VC n λi hi=>h i (by omega);obtain⟨a,ha⟩:=h n (by omega);refine⟨c++[(a:Int)],by grind,λi hi=>?_⟩
  grind
theorem iI:∀{g:List (List Int)}{c:List Int},c.length=g.length->(∀r∈g,r.length<=1099511627776)->(∀(i:Nat) (r:List Int),g[i]?=some r->∃a:Int,c[i]?=some a/\0<=a/\a<(r.length:Int))->mb g c
 |[],[],_,_,_=>trivial
 |l::g,a::c,h,hl,hi=>by
  obtain⟨b,h1,h2,h3⟩:=hi 0 l rfl;have:=nad h1;exact⟨⟨by omega,by omega,hl l (by simp)⟩,iI (by simp_all) (λr hr=>hl r (by grind)) λi r hr=>hi (i+1) r (by simp_all)⟩
structure InpOk (l:GLaw) (s:GScope) (Qg:List GValue):Prop where
 len:Qg.length=s.Inputs.length
 ty:∀i (h:i<s.Inputs.length) (h2:i<Qg.length),Qg[i].Kind=s.Inputs[i].Type_.Kind/\Qg[i].Enum=s.Inputs[i].Type_.Enum/\(cg s.Inputs[i].Type_ l.Enums).1<=Qg[i].N/\Qg[i].N<=(cg s.Inputs[i].Type_ l.Enums).2
theorem kR{gs:List (List GNode)}{e:List GNode}(he:e∈gs) {i:Nat}(hi:i<e.length) (h7:(va e i).Op=7):Fo gs (va e i).N=true:=by
 unfold Fo;rw[Gaf];refine⟨e,he,Gaf.2 ⟨e[i],Qac hi,?_⟩⟩
 grind[qg]
theorem IA{fs:List GField}{g:List (List Int)}{c:List Int}{i:Nat}(hi:i<fs.length):(Ep fs g c)[i]?=some (Er fs g c i):=by
 grind[Ep]
theorem cell_of{l:GLaw}{s:GScope}{sc d date:Int}{g:List (List Int)}(ho:GridOk l s sc d date g) {Qg:List GValue}(hi:InpOk l s Qg) :
 ∃c,mb g c/\∀e∈zk s d date,InSame e (Ep s.Inputs g c) Qg:=by
 have hV:=dq ho.cv;have hsl:sc.toNat<l.Scopes.length:=by have:=ho.csc;omega
 have hes:l.Scopes[sc.toNat]=s:=by
  have:=ho.cs
  simp_all
 have hvt:∀i (h:i<s.Inputs.length),ia s.Inputs[i].Type_ l.Enums=true:=λi h=>hV.Qg hsl _ (by simp_all);obtain⟨c,hc1,hc2⟩:=VC (P:=λi a=>∀h:i<s.Inputs.length,∀h2:i<Qg.length,∃w,(qB l (zk s d date) s.Inputs[i] i)[a]?=some w/\(cg s.Inputs[i].Type_ l.Enums).1<=w/\w<=(cg s.Inputs[i].Type_ l.Enums).2/\
  (Fo (zk s d date) i=true->w=Qg[i].N\/(s.Inputs[i].Type_.Kind≠1/\s.Inputs[i].Type_.Kind≠6/\w<=Qg[i].N/\∀c∈kd (Ec (zk s d date) i (zk s d date).length),c<=Qg[i].N->c<=w))) s.Inputs.length (λi h=>by
  have h2:i<Qg.length:=by rw[hi.len];exact h
  have ht:=hi.ty i h h2;by_cases hr:Fo (zk s d date) i=true
  .obtain⟨a,w,w1,w2⟩:=D8 hV (hvt i h) (kd (Ec (zk s d date) i (zk s d date).length)) ht.2.2.1 ht.2.2.2;refine⟨a,λ_ _=>⟨w,by simp_all[qB],?_⟩⟩
   grind
  .refine⟨0,λ_ _=>⟨0,by simp_all[qB],?_,?_,λh=>absurd h hr⟩⟩
   all_goals grind[nv])
 have hval:∀i (h:i<s.Inputs.length),Er s.Inputs g c i=⟨s.Inputs[i].Type_.Kind,s.Inputs[i].Type_.Enum,(Er s.Inputs g c i).N⟩:=λi h=>by
  grind[Er]
 have hw:∀i (h:i<s.Inputs.length) (h2:i<Qg.length),∃a:Nat,c[i]?=some (a:Int)/\(qB l (zk s d date) s.Inputs[i] i)[a]?=some (Er s.Inputs g c i).N/\(cg s.Inputs[i].Type_ l.Enums).1<=(Er s.Inputs g c i).N/\(Er s.Inputs g c i).N<=(cg s.Inputs[i].Type_ l.Enums).2/\
  (Fo (zk s d date) i=true->(Er s.Inputs g c i).N=Qg[i].N\/(s.Inputs[i].Type_.Kind≠1/\s.Inputs[i].Type_.Kind≠6/\(Er s.Inputs g c i).N<=Qg[i].N/\∀x∈kd (Ec (zk s d date) i (zk s d date).length),x<=Qg[i].N->x<=(Er s.Inputs g c i).N)):=λi h h2=>by
  obtain⟨a,ha,hp⟩:=hc2 i h;obtain⟨w,w1,w2,w3,w4⟩:=hp h h2;have e:(Er s.Inputs g c i).N=w:=by
   unfold Er;simp[mae,ho.row i h,ha,w1]
  grind
 refine⟨c,iI (by rw[hc1,ho.len]) (λr hr=>(ho.pos r hr).2) λi r hr=>?_,λe he=>?_⟩
 .have h:i<s.Inputs.length:=by rw[←ho.len];grind
  obtain⟨a,ha,ha2,-⟩:=hw i h (by rw[hi.len];exact h);rw[ho.row i h]at hr
  grind
 .refine⟨by unfold Ep;simp[hi.len],λv hv=>?_,λv hv=>?_,λk v w hk h1 h2=>?_⟩
  .obtain⟨i,hii,rfl⟩:=ead hv;have h:i<s.Inputs.length:=by grind[Ep]
   obtain⟨a,-,-,b1,b2,-⟩:=hw i h (by rw[hi.len];exact h);have e:(Ep s.Inputs g c)[i]=Er s.Inputs g c i:=by have:=IA (g:=g) (c:=c) h;grind
   rw[e,hval i h];exact(wq hV (hvt i h)).2 _ b1 b2
  .obtain⟨i,hii,rfl⟩:=ead hv;have h:i<s.Inputs.length:=by rw[←hi.len];omega
   obtain⟨t1,t2,t3,t4⟩:=hi.ty i h hii;have:=(wq hV (hvt i h)).2 _ t3 t4;rw[←t1,←t2]at this;omega
  .have h:k<s.Inputs.length:=by rw[←hi.len];grind
   have hin:k<Qg.length:=by grind
   rw[IA h]at h1;obtain rfl:=nad h1;rw[Lac hin]at h2;obtain rfl:=nad h2;obtain⟨t1,t2,t3,t4⟩:=hi.ty k h hin;obtain⟨i,hie,h7,hN⟩:=hk;have hr:=kR he hie h7;rw[hN]at hr;obtain⟨a,-,-,b1,b2,b3⟩:=hw k h hin;have ev:=hval k h;have ek:(Er s.Inputs g c k).Kind=s.Inputs[k].Type_.Kind:=congrArg GValue.Kind ev;have ee:(Er s.Inputs g c k).Enum=s.Inputs[k].Type_.Enum:=congrArg GValue.Enum ev;rcases b3 hr with heq|⟨k1,k2,k3,k4⟩
   .left;rw[ev,heq,←t1,←t2]
   .right;have hkb:1<=s.Inputs[k].Type_.Kind/\s.Inputs[k].Type_.Kind<=6:=by
     have:=((wq hV (hvt k h)).2 _ b1 b2).range
     grind
    refine⟨by omega,by omega,by omega,by omega,λj hj hcj x hx h6=>?_⟩;obtain⟨c1,c2⟩:=AS he hj hcj hx h6;have d1:=k4 _ c1;have hsm:x.N<9223372036854775807\/¬x.N<9223372036854775807:=by omega
    have hbb:=nv (hvt k h)
    grind
def I9(f:GFact):Prop:=f.Id<0\/(f.Member < -1\/8<=f.Member)\/(f.Input < -1\/12<=f.Input)\/(f.Member = -1/\f.Input = -1)\/neB f.Valid=false\/(f.Recorded<0\/109572<f.Recorded)
instance (f:GFact):Decidable (I9 f):=by unfold I9;infer_instance
def J9(f:GFact):Prop:=(f.Value.Kind<1\/6<f.Value.Kind)\/(f.Input = -1/\¬f.Value.Kind=1)
instance (f:GFact):Decidable (J9 f):=by unfold J9;infer_instance
def below(g f:GFact):Prop:=g.Recorded<f.Recorded\/(g.Recorded=f.Recorded/\g.Id<=f.Id)
instance (g f:GFact):Decidable (below g f):=by unfold below;infer_instance
theorem iO{l:List GField}(hl:l.length<=1048576) {step:List GType×Int->Option (Ex (List GType×Int) (List GType) Unit)}
 (hs:∀a b,step (a,b)=if b<(l.length:Int)then(idx l b).bind λx4=>(app 16 a ([x4.Type_])).bind λx5=>some (Ex.go (x5,(ca .i64 (b+1))))else some (Ex.brk a)):da step (([]:List GType),0)=some (.inl (l.map (·.Type_))):=by
 refine Lc (λi=>((l.take i).map (·.Type_),(i:Int))) l.length _ (λi hi=>?_) ?_ rfl
 .have h2:(l.take i).length<=l.length:=by grind
  rw[hs,if_pos (by omega),Ba hi,Jac,ui (by grind),Jac,wa (by omega),yad,Lac hi]
  grind
 simp_all
theorem OF{α:Type}{l:List α}{i:Int}(h:(idx l i).isSome=true):∃x,idx l i=some x:=Option.isSome_iff_exists.1 h
def aG(l:GLaw) (x:GScope):List GField×Bool:=if h:0<=x.MemberScope/\x.MemberScope<(l.Scopes.length:Int)then((l.Scopes[x.MemberScope.toNat]'(by omega)).Inputs,true)else([],false)
theorem Px{l:GLaw}{i:Nat}(hi:i<l.Scopes.length):bf l (i:Int)=some ((aG l l.Scopes[i]).1,if(aG l l.Scopes[i]).2=true then 8 else 0):=by
 unfold bf aG;rw[Ba hi];simp only[Jac,R7];generalize l.Scopes[i]=x;by_cases h:0<=x.MemberScope/\x.MemberScope<(l.Scopes.length:Int)
 .have hc:decide (x.MemberScope<0\/(l.Scopes.length:Int)<=x.MemberScope)=false:=by rw[decide_eq_false_iff_not];omega
  rw[hc,dif_pos h,Si h.1 h.2];rfl
 .have hc:decide (x.MemberScope<0\/(l.Scopes.length:Int)<=x.MemberScope)=true:=by rw[decide_eq_true_eq];omega
  rw[hc,dif_neg h];rfl
theorem inO{n lo hi:Int}{α:Type}{k:Bool->Option α}:(Kac (α:=Bool) (if¬n<lo then some (decide (hi<n))else some true) k)=k (!(decide (lo<=n)&&decide (n<=hi))):=by
 by_cases h1:n<lo
 .rw[if_neg (by omega),Jac];congr 1;simp;omega
 .rw[if_pos h1,Jac];congr 1;by_cases h2:hi<n
  .have e2:decide (n<=hi)=false:=by rw[decide_eq_false_iff_not];omega
   rw[e2];simp[h2]
  .have e1:decide (lo<=n)=true:=by simp;omega
   have e2:decide (n<=hi)=true:=by simp;omega
   rw[e1,e2];simp<;>omega
theorem y2{a b c d:Int}{α:Type}{k:Bool->Option α}:(Kac (α:=Bool) (if a=b then some (c !=d)else some true) k)=k (decide (¬(a=b/\c=d))):=by
 by_cases h1:a=b
 .rw[if_pos h1,Jac];congr 1;by_cases h2:c=d<;>simp[h1,h2]
 .rw[if_neg h1,Jac];congr 1;simp[h1]
def MB(l:GLaw) (fs:List GField) (vs:List GValue):Prop:=vs.length=fs.length/\∀j (h1:j<vs.length) (h2:j<fs.length),vs[j].Kind=fs[j].Type_.Kind/\vs[j].Enum=fs[j].Type_.Enum/\zR vs[j].N fs[j].Type_ l.Enums=true
theorem QE{l:GLaw}{fs:List GField}{vs:List GValue}(hl:fs.length<=1048576) (h:MB l fs vs):Eb l vs fs=some (0,0):=by
 obtain⟨h1,h2⟩:=h;unfold Eb;rw[if_neg (by omega),if_neg (by omega)];have:da (Ab l vs fs) 0=some (.inl ()):=by
  refine Lc (λi=>(i:Int)) vs.length _ (λi hi=>?_) ?_ rfl
  .obtain⟨a,b,c⟩:=h2 i hi (by omega);unfold Ab;rw[if_pos (by omega),Ba hi,Jac,Ba (by omega),Jac,y2,decide_eq_false (p:=¬(vs[i].Kind=(fs[i]'(by omega)).Type_.Kind/\vs[i].Enum=(fs[i]'(by omega)).Type_.Enum)) (λh=>h ⟨a,b⟩),if_neg (by simp),bg,Jac,inO];unfold zR at c;rw[c,wa (by omega)];rfl
  .unfold Ab;rw[if_neg (by omega)]
 rw[this];rfl
theorem JX{e:List GNode}{z:GEnv}{j:Nat}(hp:NodeP e z j) (h7:(va e j).Op=7) (h0:(um e z j).2=0) (hpl:∀v∈z.Inputs,Bf v):z.Inputs[(va e j).N.toNat]?=some (um e z j).1:=by
 have har:Pb e j=0:=by unfold Pb;rw[h7];decide
 have ax:Bm e z j=[]:=by grind[Bm]
 have hq:um e z j=(ub (va e j) [] z).getD (⟨0,0,0⟩,0):=by
  rw[hp.q,sF (by unfold Yl;omega),har,y1,ax]
 rw[hq,gm (by simp)]at h0⊢;split at h0
 .split at h0
  .rename_i h1 h2;have al:([]:List GValue).all Ls=true:=rfl;rw[if_pos h1,if_pos h2,if_pos al];have hin:=h2;unfold mq at hin;rw[if_pos h7,decide_eq_true_eq]at hin;have hx:idx z.Inputs (va e j).N=some (z.Inputs[(va e j).N.toNat]'(by omega)):=Si hin.1 hin.2;have c:=sx hx (decide_eq_true (hpl _ (Qac _)));rw[show Gg (va e j) [] z=Gg ⟨7,(va e j).N⟩ [] z by rw[←h7],c,Lac (by omega)];rfl
  simp_all
 simp_all
theorem IF{e:List GNode}{s:GSignature}(hN:∀n∈e,Xa n) (hf:Bk e s=true) {x y:GEnv}(hs:InSame e x.Inputs y.Inputs) (ht:∀(k:Nat) t v,s.Inputs[k]?=some t->x.Inputs[k]?=some v->v.Kind=t.Kind):Ra e x=Ra e y:=by
 have hw:=Gl hf;have hall:=Cr hf;have hpos:=hw.pos;have hn:=uQ hw hall hs (e.length-1) (by omega);rw[(Zs hw hall x).2,(Zs hw hall y).2];rcases hn.eq with h|⟨h7,h1,h2,h3⟩
 .rw[h]
 .rcases h3.kind with h3|⟨k1,k2,k3,k4⟩
  .grind
  .exfalso;obtain⟨t,t0,t1,t2⟩:=nR hN hf h7;have:=ht _ _ _ t1 (JX hn.px h7 h1 hs.pl);omega
theorem lR{e:List GNode}(hf:∀i,i<e.length->No e i=true):(On e).2.1=[]/\(On e).2.2=[]:=by
 have key:∀p:GNode->Bool,(∀n:GNode,(Yl n.Op\/n.Op=23\/n.Op=24)->p n=false)->Cw p e=[]:=λp hp=>by
  unfold Cw;rw[zaf.2 λn hn=>?_]
  .rfl
  .obtain⟨i,hi,rfl⟩:=ead hn
   grind[qg,vy]
 constructor
 .exact key Td λn h=>by unfold Td;unfold Yl at h;grind
 .exact key nz λn h=>by unfold nz;unfold Yl at h;grind
theorem SG{s:GScope}(hs:ScOk s) (env:GEnv) (m:Int):qe s env m (Nac s.Defs.length false)=some ((Nac s.Defs.length 0,K7),{ env with Defs:=Nac s.Defs.length ⟨0,0,0⟩ }):=by
 have hd:=hs.defs;unfold qe;rw[Sw (by omega) (by omega),Sw (by omega) (by omega),Jac,Jac,Sv hs,Jac];obtain⟨ho1,ho2⟩:=yN (kq s);rw[mr]at ho1 ho2;generalize gw (kq s)=ord at ho1 ho2⊢;rw[Lc (x0:=(Nac s.Defs.length ⟨0,0,0⟩,Nac s.Defs.length 0,0)) (step:=re s env m (Nac s.Defs.length false) ord) (λi=>(Nac s.Defs.length ⟨0,0,0⟩,Nac s.Defs.length 0,(i:Int))) ord.1.length (Nac s.Defs.length ⟨0,0,0⟩,Nac s.Defs.length 0) (λi hi=>by
  have hx:=ho1 _ (Qac hi);unfold re;dsimp only;rw[if_pos (by omega),Ba hi,Jac,Si hx.1 (by simp_all),Jac,List.getElem_replicate,if_pos rfl,Jac,wa (by omega)]) (by simp_all[re]) rfl]
 rfl
theorem tQ{l:GLaw}{x ms:GScope}(hx:ScOk x) (hms:ScOk ms) {c:GCase}(hc:c.Members.length<=1048576) (i:Int) :
 ∃r M T,wi l i c ⟨x,ms,Nac x.Defs.length false,Nac ms.Defs.length false⟩=some (r,⟨c.Date,c.Inputs,Nac x.Defs.length ⟨0,0,0⟩,M,T,l.Tables⟩,K7):=by
 unfold wi;dsimp only;rw[iO (l:=ms.Defs) hms.defs (step:=Uk ⟨x,ms,Nac x.Defs.length false,Nac ms.Defs.length false⟩) (λa b=>by grind[Uk]),Jac];dsimp only;rw[Lc (x0:=(([]:List (List GValue)),([]:List GMemberResult),0)) (step:=Ch l c ⟨x,ms,Nac x.Defs.length false,Nac ms.Defs.length false⟩) (λi=>(Nac i (Nac ms.Defs.length ⟨0,0,0⟩),Nac i ⟨Nac ms.Defs.length ⟨0,0,0⟩,Nac ms.Defs.length 0⟩,(i:Int))) c.Members.length (Nac c.Members.length (Nac ms.Defs.length ⟨0,0,0⟩),Nac c.Members.length ⟨Nac ms.Defs.length ⟨0,0,0⟩,Nac ms.Defs.length 0⟩) (λi hi=>by
  unfold Ch;dsimp only;rw[if_pos (by omega),Ba hi,Jac,SG hms,Jac];simp only[K7,not_true,if_false]
  grind[ui,wa,List.replicate_succ']) (by simp_all[Ch]) rfl,Jac]
 dsimp only;rw[SG hx,Jac];simp only[K7,not_true,if_false];simp
noncomputable def gW(l:GLaw) (fs:List GField) (vs:List GValue) (i:Nat):Option (Int×Int):=
 match vs[i]?,fs[i]? with
 |some v,some f=>if¬(v.Kind=f.Type_.Kind/\v.Enum=f.Type_.Enum)then some ((i:Int),8)else if zR v.N f.Type_ l.Enums=false then some ((i:Int),3)else none
 |_,_=>none
theorem dz{l:GLaw}{fs:List GField}(vs:List GValue) (hl:fs.length<=1048576):∃p,Eb l vs fs=some p/\(p.2=0->MB l fs vs):=by
 unfold Eb;by_cases h1:(vs.length:Int)<(fs.length:Int)
 .simp_all
 by_cases h2:(fs.length:Int)<(vs.length:Int)
 .rw[if_neg h1,if_pos h2];simp
 rw[if_neg h1,if_neg h2];have hlp:da (Ab l vs fs) 0=some (fc () (ff (gW l fs vs) vs.length)):=
  bc (λi=>(i:Int)) _ _ _ (λi hi _=>by
   unfold Ab gW;rw[if_pos (by omega),Ba hi,Jac,Ba (by omega),Jac,y2,bg,Jac,inO,Lac hi,Lac (show i<fs.length by omega),wa (by omega)];dsimp only;by_cases ht:vs[i].Kind=(fs[i]'(by omega)).Type_.Kind/\vs[i].Enum=(fs[i]'(by omega)).Type_.Enum
   .grind[zR,mH]
   .rw[decide_eq_true ht,if_pos rfl,if_pos ht];rfl) (λ_=>by simp_all[Ab])
 rw[hlp]
 cases hf:ff (gW l fs vs) vs.length with
 |some v=>
  refine⟨v,rfl,λh=>?_⟩;obtain⟨i,-,hv,-⟩:=Sa.1 hf;unfold gW at hv
  grind
 |none=>
  refine⟨_,rfl,λ_=>⟨by omega,λj j1 j2=>?_⟩⟩;have:=Zb.1 hf j j1
  grind[gW]
noncomputable def aU(l:GLaw) (fs:List GField) (ms:List (List GValue)) (i:Nat):Option (Int×Int×Int):=
 match ms[i]? with
 |some v=>(Eb l v fs).bind λp=>if¬p.2=0 then some ((i:Int),p.1,p.2)else none
 |none=>none
theorem NW{l:GLaw}(h:LawOk l) {i:Nat}(hi:i<l.Scopes.length) {c:GCase}(hc:c.Members.length<=1048576):∃p,Be l (i:Int) c=some p/\(p.2.2=0->MB l l.Scopes[i].Inputs c.Inputs):=by
 have hin:=(h.s _ (Qac hi)).2.2.1;have hms:(aG l l.Scopes[i]).1.length<=1048576:=by
  unfold aG;split
  .exact(h.s _ (Qac _)).2.2.1
  simp
 unfold Be;rw[R7,if_neg (by simp_all),R7];by_cases hd:c.Date<0\/109572<c.Date
 .simp_all
 rw[if_neg (by simp_all),Ba hi,Jac];obtain⟨p,p1,p2⟩:=dz (l:=l) (fs:=l.Scopes[i].Inputs) c.Inputs hin;rw[p1,Jac];by_cases h0:p.2=0
 case neg=>simp_all
 rw[if_neg (qad.2 h0),Px hi,Jac];dsimp only;have hv:=p2 h0;generalize (if(aG l l.Scopes[i]).2=true then(8:Int)else 0)=mx;by_cases hmx:mx<(c.Members.length:Int)
 .simp_all
 rw[if_neg hmx];have hlp:da (fe l c ((aG l l.Scopes[i]).1,mx)) 0=some (fc () (ff (aU l (aG l l.Scopes[i]).1 c.Members) c.Members.length)):=
  bc (λi=>(i:Int)) _ _ _ (λj hj _=>by
   unfold fe aU;dsimp only;obtain⟨q,q1,-⟩:=dz (l:=l) (fs:=(aG l l.Scopes[i]).1) c.Members[j] hms;rw[if_pos (by omega),Ba hj,Jac,q1,Jac,Lac hj,wa (by omega)]
   grind[mH]) (λ_=>by simp_all[fe])
 rw[hlp]
 cases ff (aU l (aG l l.Scopes[i]).1 c.Members) c.Members.length with
 |some v=>grind
 |none=>exact⟨_,rfl,λ_=>hv⟩
theorem MB.Qg{l:GLaw}{s:GScope}{vs:List GValue}(h:MB l s.Inputs vs):InpOk l s vs:=by
 refine⟨h.1,λi h1 h2=>?_⟩;obtain⟨a,b,c⟩:=h.2 i h2 h1
 simp_all[zR]
theorem PK{l:GLaw}(h:LawOk l) {sc d:Int}{s:GScope}{g:List (List Int)}{date:Int}(ho:GridOk l s sc d date g) {c:GCase}(hc:c.Members.length<=1048576):∃e,Lb l sc c true d=some e/\(e.Code=0->InpOk l s c.Inputs):=by
 obtain⟨i,rfl⟩:∃i:Nat,sc=(i:Int):=⟨sc.toNat,by have:=ho.csc;omega⟩;have hi:i<l.Scopes.length:=by have:=ho.csc;omega
 have hes:l.Scopes[i]=s:=by
  have:=ho.cs
  simp_all
 have hd:=ho.cd;unfold Lb;rw[Qp h,Jac,if_neg (qad.2 ho.cv),Ba hi,Jac,hes];have hcond:(if¬(i:Int)<0 then if¬(l.Scopes.length:Int)<=(i:Int)then if true=true then if¬d<0 then some (decide ((s.Defs.length:Int)<=d))else some true else some false else some true else some true)=some false:=by
  simp_all
 rw[hcond,Jac,if_neg (by simp)];obtain⟨p,p1,p2⟩:=NW h hi hc;rw[p1,Jac];by_cases h0:p.2.2=0
 .rw[if_neg (qad.2 h0)];exact⟨_,rfl,λ_=>by rw[hes]at p2;exact(p2 h0).Qg⟩
 simp_all
noncomputable def pick(s:GScope) (d date o:Int):Int:=if o<0 then o else(oa s d date).1.getD o.toNat 0
noncomputable def vQ(s:GScope) (rules:List Int) (env:GEnv) (m d:Int) (k:Nat):Option (Int×GEvalError):=
 if((Mn s (rules.getD k 0)).length:Int)=0 then none else(Ra (Mn s (rules.getD k 0)) env).bind λp=>if¬p.2=0 then some (0,⟨p.2,m,d,rules.getD k 0⟩)else none
theorem UN{s:GScope}(hs:s.Rules.length<=1048576) {env:GEnv}(m d:Int) (ht:∀x∈(oa s d env.Date).1,(Mn s x).length≠0->LB (Ra (Mn s x) env)) :
 ∃p,xi s env m d=some p/\(p.2.Code=0->p.1=pick s d env.Date (nw (oa s d env.Date).2.1 (oa s d env.Date).2.2 (nq s (oa s d env.Date).1 env))/\∀x∈(oa s d env.Date).1,(Mn s x).length≠0->∃p,Ra (Mn s x) env=some p/\p.2=0)/\((∀x∈(oa s d env.Date).1,(Mn s x).length≠0->∃p,Ra (Mn s x) env=some p/\p.2=0)->p.2=⟨0,0,0,0⟩):=by
 have htl:=nu s d env.Date;have hm:=Og (rules:=s.Rules) (q:=Ju d env.Date) s.Rules.length;have hm':∀x∈(oa s d env.Date).1,0<=x/\x<(s.Rules.length:Int):=λx hx=>⟨(hm x hx).1,(hm x hx).2.1⟩;unfold xi;rw[Qk hs,Jac];unfold pick;have hin:=eK (oa s d env.Date).2.1 (oa s d env.Date).2.2 (nq s (oa s d env.Date).1 env);generalize hT:oa s d env.Date=T at ht htl hm' hin⊢;rw[Sw (by omega) (by omega),Jac];have hlp:da (Dh s env m d T) (Nac T.1.length false,0)=some (fc (nq s T.1 env) (ff (vQ s T.1 env m d) T.1.length)):=by
  refine bc (λi=>((aad T.1.length).map λk=>if k<i then gT (Mn s (T.1.getD k 0)) env else false,(i:Int))) (vQ s T.1 env m d) T.1.length _ (λi hi _=>?_) (λ_=>?_) ?_
  .have hx:=hm' _ (Qac hi);have hTt:=ht _ (Qac hi);have er:T.1.getD i 0=T.1[i]:=by simp_all
   have eg:Mn s T.1[i]=(s.Rules[T.1[i].toNat]'(by omega)).Guard:=by grind[Mn]
   unfold Dh vQ;dsimp only;rw[if_pos (by omega),Ba hi,Jac,Si hx.1 hx.2,Jac,er,←eg];have hset:((aad T.1.length).map λk=>if k<i then gT (Mn s (T.1.getD k 0)) env else false).set i (gT (Mn s T.1[i]) env)=(aad T.1.length).map λk=>if k<i+1 then gT (Mn s (T.1.getD k 0)) env else false:=by
    apply lae (by simp)
    grind
   rw[←hset];have hlen:i<((aad T.1.length).map λk=>if k<i then gT (Mn s (T.1.getD k 0)) env else false).length:=by simp_all
   generalize ((aad T.1.length).map λk=>if k<i then gT (Mn s (T.1.getD k 0)) env else false)=a at hlen⊢;generalize Mn s T.1[i]=e at hTt⊢;unfold gT;by_cases h0:(e.length:Int)=0
   .rw[if_pos h0,if_pos h0,if_pos h0,Ba hlen,Jac,Vy hlen,Jac,Jac,wa (by omega)];rfl
   .obtain⟨p,hp,-⟩:=hTt (by omega);rw[if_neg h0,if_neg h0,if_neg h0,hp,Jac,Jac];by_cases h2:p.2=0
    .rw[if_neg (qad.2 h2),if_neg (qad.2 h2),Ba hlen,Jac,Vy hlen,Jac,Jac,wa (by omega)]
     grind[mH]
    .rw[if_pos h2,if_pos h2];rfl
  .simp_all[Dh,nq]
  .refine Prod.ext ?_ rfl;apply lae (by simp);simp
 rw[hlp,Jac]
 cases hf:ff (vQ s T.1 env m d) T.1.length with
 |some v=>
  obtain⟨k,hkl,hv,-⟩:=Sa.1 hf;have hne:v.2.Code≠0/\(Mn s (T.1.getD k 0)).length≠0/\∀q,Ra (Mn s (T.1.getD k 0)) env=some q->q.2≠0:=by
   unfold vQ at hv;split at hv
   .grind
   .rename_i hz
    cases he:Ra (Mn s (T.1.getD k 0)) env with
    |none=>simp_all
    |some q=>
     grind
  refine⟨v,rfl,λh=>absurd h hne.1,λhall=>?_⟩
  grind
 |none=>
  rw[wU];dsimp only;have hg:∀x∈T.1,(Mn s x).length≠0->∃p,Ra (Mn s x) env=some p/\p.2=0:=λx hx h0=>by
   obtain⟨k,hk,rfl⟩:=ead hx;obtain⟨p,hp,-⟩:=ht _ hx h0;have:=Zb.1 hf k hk
   grind[vQ]
  rw[rj,Jac];generalize nw T.2.1 T.2.2 (nq s T.1 env)=o at hin⊢;by_cases ho:o<0
  .simp_all
  .unfold PF at hin;rw[if_neg ho,if_neg ho,Si (by omega) (by omega),Jac]
   grind
theorem dY{l:GLaw}(hl:LawOk l) (hV:Valid l) {i:Nat}(hi:i<l.Scopes.length):Ti l l.Scopes[i]=some (l.Scopes[i].Name,l.Scopes[i].MemberScope,l.Scopes[i].Inputs,l.Scopes[i].Defs,l.Scopes[i].Rules,(BI l l.Scopes[i]).Name,(BI l l.Scopes[i]).MemberScope,(BI l l.Scopes[i]).Inputs,(BI l l.Scopes[i]).Defs,(BI l l.Scopes[i]).Rules,Nac l.Scopes[i].Defs.length false,Nac (BI l l.Scopes[i]).Defs.length false):=by
 have hx:=xV hl (Qac hi);have hms:=eU hl l.Scopes[i];have hb:=(hV.few hi).1;have hd1:=hx.ok.defs;have hd2:=hms.ok.defs;unfold Ti;generalize l.Scopes[i]=x at hb hd1 hd2⊢;rw[Sw (by omega) (by omega),Jac];by_cases h0:0<=x.MemberScope
 .have hlt:x.MemberScope<(l.Scopes.length:Int):=by
   grind[fw]
  unfold BI at hd2⊢;rw[dif_pos ⟨h0,hlt⟩]at hd2⊢;rw[if_pos h0,Si h0 hlt,Jac,Sw (by omega) (by omega)];rfl
 grind[BI]
theorem kA{l:GLaw}(h:LawOk l) {sc d:Int}{s:GScope}{g:List (List Int)}{c:GCase}(ho:GridOk l s sc d c.Date g) (hc:c.Members.length<=1048576) :
 ∃p,ud l sc c d=some p/\(p.2.Code=0->InpOk l s c.Inputs/\∃env:GEnv,env.Inputs=c.Inputs/\p.1=pick s d c.Date (ti l s d c.Date env))/\
  (Lb l sc c true d=some K7->(∀env:GEnv,env.Inputs=c.Inputs->∀x∈(oa s d c.Date).1,(Mn s x).length≠0->∃p,Ra (Mn s x) env=some p/\p.2=0)->p.2=⟨0,0,0,0⟩):=by
 obtain⟨i,rfl⟩:∃i:Nat,sc=(i:Int):=⟨sc.toNat,by have:=ho.csc;omega⟩;have hi:i<l.Scopes.length:=by have:=ho.csc;omega
 have hes:l.Scopes[i]=s:=by
  have:=ho.cs
  simp_all
 have hV:=dq ho.cv;have hsm:=h.s s (had ho.cs);have hrl:=hsm.2.1.rules;have hms:=eU h l.Scopes[i];have hm:=Og (rules:=s.Rules) (q:=Ju d c.Date) s.Rules.length;have hln:=(Yp (rules:=s.Rules) (q:=Ju d c.Date) s.Rules.length).2.1;have hfl:∀x∈(oa s d c.Date).1,(Mn s x).length≠0->Bk (Mn s x) (Oq l s)=true:=λx hx h0=>ho.flat _ (ew hx h0);unfold ud;obtain⟨e,e1,e2⟩:=PK h ho hc;rw[e1,Jac];by_cases h0:e.Code=0
 case neg=>rw[if_pos h0];exact⟨_,rfl,λh=>absurd h h0,λh=>by have:=nad h;rw[this]at h0;exact absurd rfl h0⟩
 have hinp:=e2 h0;rw[if_neg (qad.2 h0),Ba hi,Jac,dY h hV hi,Jac];dsimp only;rw[hes];rw[hes]at hms;rw[Qn hrl,Jac];have hrw:(pj s.Rules (Ju d c.Date) s.Rules.length).1=(oa s d c.Date).1:=rfl;rw[hrw]at hm hln⊢;have hT:∀env:GEnv,∀x∈(oa s d c.Date).1,(Mn s x).length≠0->LB (Ra (Mn s x) env):=λenv x hx hz=>zA (Gl (hfl x hx hz)) (Cr (hfl x hx hz)) env;rw[Lc (x0:=(Nac s.Defs.length false,Nac (BI l s).Defs.length false,0)) (λk=>(Nac s.Defs.length false,Nac (BI l s).Defs.length false,(k:Int))) (oa s d c.Date).1.length (Nac s.Defs.length false,Nac (BI l s).Defs.length false) (λk hk=>by
  have hx:=hm _ (Qac hk);have hf:=hfl _ (Qac hk);have eg:(s.Rules[(oa s d c.Date).1[k].toNat]'(by omega)).Guard=Mn s (oa s d c.Date).1[k]:=by grind[Mn]
  unfold Tg;dsimp only;rw[if_pos (by omega),Ba hk,Jac,Si hx.1 hx.2.1,Jac,eg];have hgl:(Mn s (oa s d c.Date).1[k]).length<=1048576:=by rw[←eg];exact(hsm.2.1.g _ (Qac _)).1
  have hr:(On (Mn s (oa s d c.Date).1[k])).2.1=[]/\(On (Mn s (oa s d c.Date).1[k])).2.2=[]:=by
   by_cases hz:(Mn s (oa s d c.Date).1[k]).length=0
   .rw[uaf.1 hz];exact⟨rfl,rfl⟩
   grind[lR,Cr]
  rw[Dp (by omega),Jac];generalize On (Mn s (oa s d c.Date).1[k])=r at hr⊢;rw[Hd (by unfold Tk;dsimp only;rw[hr.1,if_neg (by simp)]),Jac];dsimp only;rw[Hd (by unfold Sk;dsimp only;rw[hr.2,if_neg (by simp)]),Jac]
  grind[wa]) (by simp_all[Tg]) rfl,Jac]
 dsimp only;obtain⟨r,M,T,hev⟩:=tQ (l:=l) (x:=s) (ms:=BI l s) hsm.2.1 hms.ok hc (i:Int);rw[show wi l (i:Int) c ⟨⟨s.Name,s.MemberScope,s.Inputs,s.Defs,s.Rules⟩,⟨(BI l s).Name,(BI l s).MemberScope,(BI l s).Inputs,(BI l s).Defs,(BI l s).Rules⟩,Nac s.Defs.length false,Nac (BI l s).Defs.length false⟩=_ from hev,Jac];simp only[K7,not_true,if_false];obtain⟨p,p1,p2,p3⟩:=UN (s:=s) hrl (env:=⟨c.Date,c.Inputs,Nac s.Defs.length ⟨0,0,0⟩,M,T,l.Tables⟩) (-1) d (hT _);rw[p1,Jac];by_cases hp:p.2.Code=0
 case neg=>simp_all
 rw[if_neg (qad.2 hp)];exact⟨_,rfl,λ_=>⟨hinp,_,rfl,(p2 hp).1⟩,λ_ _=>rfl⟩
theorem yU{l:GLaw}(h:LawOk l) {s:GScope}{sc d date:Int}{g:List (List Int)}(ho:GridOk l s sc d date g) {Qg:List GValue}(hi:InpOk l s Qg) {env:GEnv}(he:env.Inputs=Qg) :
 ∃c,mb g c/\ti l s d date env=ti l s d date (Bp l s date g c):=by
 obtain⟨c,hc,hs⟩:=cell_of ho hi;refine⟨c,hc,?_⟩;have hsm:=h.s s (had ho.cs);have hm:=Og (rules:=s.Rules) (q:=Ju d date) s.Rules.length;unfold ti;congr 1;unfold nq;apply Bae;intro k hk;have hk:=gae.1 hk;have er:(oa s d date).1.getD k 0=(oa s d date).1[k]:=by simp_all
 have hmem:(oa s d date).1[k]∈(oa s d date).1:=Qac hk;rw[er];generalize (oa s d date).1[k]=x at hmem;have hx:=hm x hmem;unfold gT;by_cases hz:((Mn s x).length:Int)=0
 .simp_all
 rw[if_neg hz,if_neg hz];have hg:=ew hmem (by omega);have hN:∀n∈Mn s x,Xa n:=by
  grind[Mn]
 rw[IF hN (ho.flat _ hg) (x:=Bp l s date g c) (y:=env) (by rw[he];exact hs _ hg) λk t v ht hv=>by
  have ht':(s.Inputs.map (·.Type_))[k]?=some t:=by
   grind[Oq]
  rw[Oad]at ht';obtain⟨f,hf,rfl⟩:=Oac.1 ht';have hk:k<s.Inputs.length:=(oad.1 hf).1;have hv':(Ep s.Inputs g c)[k]?=some v:=hv;rw[IA hk]at hv';obtain rfl:=nad hv'
  grind[Er]]
theorem GG{rules:List GRule}{q:GRule->Bool}:∀i,(pj rules q i).1.Pairwise (·<·)
 |0=>by simp_all[pj]
 |i+1=>by
  have ih:=GG (rules:=rules) (q:=q) i;have hm:=Og (rules:=rules) (q:=q) i
  grind[pj]
noncomputable def pb(p:Prop):Bool:=@decide p (Classical.propDecidable p)
theorem tC{p:Prop}:pb p=true↔p:=by simp_all[pb]
noncomputable def jz(rules:List Int) (A:Nat->Prop):List Int:=((aad rules.length).filter λi=>!pb (A i)).map λi=>rules.getD i 0
theorem getD_lt{l:List Int}{i:Nat}(h:i<l.length):l.getD i 0=l[i]:=by simp_all
theorem VP(rules:List Int) (A:Nat->Prop):(jz rules A).length<=rules.length:=by
 grind[jz]
theorem XP{rules:List Int}(hr:rules.length<=1048576) {A:Nat->Prop}{step:List Int×Int->Option (Ex (List Int×Int) (List Int) Unit)}(hs:∀i,(h:i<rules.length)->∀a,a.length<=i->step (a,(i:Int))=some (.go ((if pb (A i)=true then a else a++[rules[i]]),((i+1:Nat):Int)))) (he:∀a,step (a,(rules.length:Int))=some (.brk a)) :
 da step (([]:List Int),0)=some (.inl (jz rules A)):=by
 have hl:∀i,(((aad i).filter λi=>!pb (A i)).map λi=>rules.getD i 0).length<=i:=λi=>by
  grind
 refine Lc (λi=>(((aad i).filter λi=>!pb (A i)).map λi=>rules.getD i 0,(i:Int))) rules.length _ (λi hi=>?_) ?_ rfl
 .rw[hs i hi _ (hl i),Nae,Zad,Qad]
  grind
 .rw[he];rfl
def tt(l:GLaw) (s:GScope) (d date:Int) (g:List (List Int)) (i:Nat):Prop:=∃c,mb g c/\ti l s d date (Bp l s date g c)=(i:Int)
structure DeadI (l:GLaw) (s:GScope) (d date:Int) (g:List (List Int)) (a:List Bool):Prop where
 len:a.length=(oa s d date).1.length
 all:∀i:Nat,a[i]?=some true->tt l s d date g i
theorem TG{l:GLaw}(h:LawOk l) {s:GScope}{sc d date:Int}{g:List (List Int)}(ho:GridOk l s sc d date g) (Qg:List GValue) :
 Kc ⟨s,l.Tables,date,(oa s d date).1,(oa s d date).2.1,(oa s d date).2.2⟩ Qg=some (ti l s d date ⟨date,Qg,[],[],[],l.Tables⟩):=by
 have hsm:=h.s s (had ho.cs);have htl:=nu s d date;have hrl:=hsm.2.1.rules;have hm:=Og (rules:=s.Rules) (q:=Ju d date) s.Rules.length;have hm':∀x∈(oa s d date).1,0<=x/\x<(s.Rules.length:Int):=λx hx=>⟨(hm x hx).1,(hm x hx).2.1⟩;have ht:∀(env:GEnv),∀x∈(oa s d date).1,(Mn s x).length≠0->LB (Ra (Mn s x) env):=λenv x hx h0=>by
  have hf:=ho.flat _ (ew hx h0)
  grind[zA,Gl,Cr]
 unfold Kc;dsimp only;rw[Sw (by omega) (by omega),Jac,A1 (step:=Nc ⟨s,l.Tables,date,(oa s d date).1,(oa s d date).2.1,(oa s d date).2.2⟩ Qg) (f:=λk=>gT (Mn s ((oa s d date).1.getD k 0)) ⟨date,Qg,[],[],[],l.Tables⟩) (λi hi a ha=>by
  unfold Nc;dsimp only;rw[if_pos (by omega),JF hi hm' (ht _) ha,Jac,wa (by omega)]) (λa=>by simp_all[Nc]),Jac]
 dsimp only;rw[rj];rfl
theorem FI{l:GLaw}(h:LawOk l) {s:GScope}{sc d date:Int}{g:List (List Int)}(ho:GridOk l s sc d date g):kg l sc d date=some ⟨s,l.Tables,date,(oa s d date).1,(oa s d date).2.1,(oa s d date).2.2⟩:=by
 have hsm:=h.s s (had ho.cs);have es:l.Scopes[sc.toNat]'(by have:=ho.csc;omega)=s:=by
  have:=ho.cs
  grind
 unfold kg;rw[Si ho.csc.1 ho.csc.2,Jac,es,Qk hsm.2.1.rules];rfl
theorem zN{l:GLaw}{s:GScope}{d date:Int}{env:GEnv}(h:0<=ti l s d date env):ti l s d date env<((oa s d date).1.length:Int):=by
 have hin:=eK (oa s d date).2.1 (oa s d date).2.2 (nq s (oa s d date).1 env);rw[(nu s d date).1]at hin;unfold ti at h⊢;unfold PF at hin;omega
theorem BR{l:GLaw}(h:LawOk l) {sc d date:Int}{s:GScope}{g:List (List Int)}(hg:og l sc d date=(g,0)) (ho:GridOk l s sc d date g) :
 Ee l sc d date=some (jz (oa s d date).1 (tt l s d date g),0):=by
 have hsm:=h.s s (had ho.cs);have htl:=nu s d date;have hrl:=hsm.2.1.rules;have hgl:g.length<=1048576:=by rw[ho.len];omega
 unfold Ee;rw[xg h,hg,Jac,if_neg (by simp),FI h ho,Jac];dsimp only;rw[Sw (by omega) (by omega),Jac,Sw (by omega) (by omega),Jac];obtain⟨c0,r0⟩:=rO ho.pos;obtain⟨a,h1,h2,h3⟩:=PE (g:=g) (step:=sh (g,0) ⟨s,l.Tables,date,(oa s d date).1,(oa s d date).2.1,(oa s d date).2.2⟩) (λ_ a=>DeadI l s d date g a) (λa c=>ti l s d date (Bp l s date g c)<0\/a[(ti l s d date (Bp l s date g c)).toNat]?=some true) (λa=>a) (λa c hc hI=>by
  unfold sh;dsimp only;rw[if_pos rfl];have e1:Kk (g,0) ⟨s,l.Tables,date,(oa s d date).1,(oa s d date).2.1,(oa s d date).2.2⟩ c=some (Ep s.Inputs g c):=by
   unfold Kk;rw[Ay hsm.2.2.1 ho.len hc (step:=Nk (g,0) ⟨s,l.Tables,date,(oa s d date).1,(oa s d date).2.1,(oa s d date).2.2⟩ c) (λa i=>by grind[Nk])];rfl
  have e2:Mk (g,0) c=some (Fi g c):=by
   grind[Mk,Jo,mO]
  rw[e1,Jac,TG h ho,Jac,e2];have eo:ti l s d date ⟨date,Ep s.Inputs g c,[],[],[],l.Tables⟩=ti l s d date (Bp l s date g c):=rfl;rw[eo];by_cases hp:0<=ti l s d date (Bp l s date g c)
  .have hlt:=zN hp;have hlen:=hI.len;generalize ho':ti l s d date (Bp l s date g c)=o at hp hlt⊢;obtain⟨k,rfl⟩:=Int.eq_ofNat_of_zero_le hp;rw[if_pos hp,Ba (by omega),Jac,Vy (by omega),Jac,Jac,Jac];refine⟨_,rfl,⟨by simp_all,λi hi=>?_⟩,.inr ?_,λc' hc'=>?_⟩
   .by_cases hik:i=k
    .subst hik;exact⟨c,hc,ho'⟩
    .rw[List.getElem?_set_ne (λh=>hik h.symm)]at hi;exact hI.all i hi
   all_goals grind
  grind) (λa c=>by simp_all[sh]) c0 r0 (s0:=Nac (oa s d date).1.length false) ⟨by simp,λi h=>by
   grind⟩
 rw[h1,Jac];dsimp only;have hlen:=h2.len;have htl2:(oa s d date).1.length<=1048576:=by omega
 rw[XP (A:=tt l s d date g) (rules:=(oa s d date).1) (step:=rh ⟨s,l.Tables,date,(oa s d date).1,(oa s d date).2.1,(oa s d date).2.2⟩ a) (by omega) (λi hi b hb=>by
  unfold rh;dsimp only;rw[if_pos (by omega),Ba hi,Jac,Ba (by omega),Jac,wa (by omega)];have hiff:a[i]'(by omega)=true↔tt l s d date g i:=by
   constructor
   .intro ht;exact h2.all i (by simp_all)
   .rintro⟨c,hc,hoc⟩
    grind
  by_cases hA:tt l s d date g i
  .simp_all[tC]
  .have hf:a[i]'(by omega)=false:=Lae.2 λh=>hA (hiff.1 h);rw[if_pos hf,ui (by grind),if_neg (λh=>hA (tC.1 h))];rfl) (λb=>by simp_all[rh])]
 rfl
theorem DM{l:GLaw}{s:GScope}{sc d date:Int}{g:List (List Int)}(ho:GridOk l s sc d date g) {c:List Int}(hc:mb g c):InpOk l s (Ep s.Inputs g c):=by
 have hV:=dq ho.cv;have hsl:sc.toNat<l.Scopes.length:=by have:=ho.csc;omega
 have hes:l.Scopes[sc.toNat]=s:=by
  have:=ho.cs
  simp_all
 refine⟨by simp[Ep],λi h h2=>?_⟩;have hvt:ia s.Inputs[i].Type_ l.Enums=true:=hV.Qg hsl _ (by simp_all);have e:(Ep s.Inputs g c)[i]=Er s.Inputs g c i:=by have:=IA (g:=g) (c:=c) h;simp_all
 obtain⟨h3,h4,h5⟩:=hc.get i (by rw[ho.len];exact h);have hrow:=ho.row i h;have hgi:i<g.length:=by grind
 rw[Lac hgi]at hrow;have hrow:=nad hrow;have hN:(Er s.Inputs g c i).N=g[i][c[i].toNat]'(by omega):=by
  grind[Er]
 have hmem:(Er s.Inputs g c i).N∈qB l (zk s d date) s.Inputs[i] i:=by simp_all
 rw[e];refine⟨by grind[Er],by grind[Er],?_⟩;generalize (Er s.Inputs g c i).N=n at hmem;unfold qB at hmem;split at hmem
 .grind[iP]
 .rw[xad]at hmem;subst hmem;have hb:=(wq hV hvt).1;rcases nv hvt with⟨-,-,e⟩|⟨-,-,e⟩|⟨-,-,e⟩|⟨-,-,e⟩|⟨-,-,e⟩|⟨-,-,-,x,hx,e⟩<;>rw[e]at hb⊢<;>simp at hb⊢<;>omega
theorem InpOk.V1{l:GLaw}{s:GScope}{sc d date:Int}{g:List (List Int)}(ho:GridOk l s sc d date g) {Qg:List GValue}(hi:InpOk l s Qg):∀v∈Qg,Bf v:=by
 have hV:=dq ho.cv;have hsl:sc.toNat<l.Scopes.length:=by have:=ho.csc;omega
 have hes:l.Scopes[sc.toNat]=s:=by
  have:=ho.cs
  simp_all
 intro v hv;obtain⟨i,hii,rfl⟩:=ead hv;have h:i<s.Inputs.length:=by rw[←hi.len];omega
 obtain⟨t1,t2,t3,t4⟩:=hi.ty i h hii;have:=(wq hV (hV.Qg hsl s.Inputs[i] (by simp_all))).2 _ t3 t4;rw[←t1,←t2]at this;omega
theorem CQ{l:GLaw}(h:LawOk l) {s:GScope}{sc d date:Int}{g:List (List Int)}(ho:GridOk l s sc d date g) {x:Int}(hx:x∈(oa s d date).1) (hz:(Mn s x).length≠0) {a b:GEnv}(hab:a.Inputs=b.Inputs) (hi:InpOk l s a.Inputs):Ra (Mn s x) a=Ra (Mn s x) b:=by
 have hsm:=h.s s (had ho.cs);have hm:=Og (rules:=s.Rules) (q:=Ju d date) s.Rules.length x hx;have hg:=ew hx hz;have hp:=hi.V1 ho;have hN:∀n∈Mn s x,Xa n:=by
  grind[Mn]
 refine IF hN (ho.flat _ hg) ⟨by grind,hp,by simp_all,λk v w _ h1 h2=>.inl ?_⟩ λk t v ht hv=>?_
 .simp_all
 .have ht':(s.Inputs.map (·.Type_))[k]?=some t:=by
   grind[Oq]
  rw[Oad]at ht';obtain⟨f,hf,rfl⟩:=Oac.1 ht';obtain⟨hk,rfl⟩:=oad.1 hf;obtain⟨hk2,rfl⟩:=oad.1 hv;exact(hi.ty k hk hk2).1
theorem p9{k N:Int}{s:GSignature}{r:GType×Int}(hk:1<=k/\k<=5) (h:Fa ⟨k,N⟩ [] s=some r) (h0:r.2=0):r.1=⟨k,0⟩/\Bf ⟨k,0,N⟩:=by
 have hu:=ya (op:=k) (by omega);have hus:Ib k=true:=by rcases(by omega:k=1\/k=2\/k=3\/k=4\/k=5)with rfl|rfl|rfl|rfl|rfl<;>rfl
 have hv:ia ⟨k,0⟩ s.Enums=true:=by grind[ia]
 have hb:=nv hv;unfold Fa at h;simp only[hu,hus,Ht]at h;simp only[Jac,Tac,if_false]at h;have key:na ⟨k,N⟩ [] s=Db N k s:=by
  unfold na;rcases(by omega:k=1\/k=2\/k=3\/k=4\/k=5)with rfl|rfl|rfl|rfl|rfl<;>simp<;>cases Db N _ s<;>rfl
 rw[key]at h;unfold Db at h;rw[bg,Jac,inO]at h
 cases hc:(decide ((cg ⟨k,0⟩ s.Enums).1<=N)&&decide (N<=(cg ⟨k,0⟩ s.Enums).2))with
 |false=>grind
 |true=>
  rw[hc]at h;simp at h;subst h;simp only[Sac,decide_eq_true_eq]at hc;refine⟨rfl,?_⟩;unfold Bf;rcases hb with⟨a,-,e⟩|⟨a,-,e⟩|⟨a,-,e⟩|⟨a,-,e⟩|⟨a,-,e⟩|⟨a,-⟩
  all_goals simp_all
theorem UZ{N:Int}{s:GSignature}{r:GType×Int}(hN:Xa ⟨6,N⟩) (hl:s.Enums.length<=8) (hm:∀x∈s.Enums,x.Members.length<=16) (h:Fa ⟨6,N⟩ [] s=some r) (h0:r.2=0):0<=N/\r.1=⟨6,ca .i64 (sad N 16)⟩/\Bf ⟨6,ca .i64 (sad N 16),Int.tmod N 16⟩:=by
 have hu:=ya (op:=6) (by omega);have hus:Ib 6=true:=rfl;unfold Fa at h;simp only[hu,hus,Ht]at h;simp only[Jac,Tac,if_false]at h;have key:na ⟨6,N⟩ [] s=Xg N s:=by
  grind[na,Xg]
 rw[key]at h;unfold Xg at h;unfold Xa at hN;dsimp only at hN;by_cases hn:N<0
 .grind
 rw[if_neg hn]at h;have e1:ca .i64 (sad N 16)=N / 16:=by grind[wid]
 have e2:Int.tmod N 16=N % 16:=Int.tmod_eq_emod_of_nonneg (by omega);rw[e1,e2]at h⊢;by_cases hl2:(s.Enums.length:Int)<=N / 16
 .grind
 rw[if_pos hl2,Si (by omega) (by omega),Jac,Jac]at h;have hx:=hm _ (Qac (l:=s.Enums) (n:=(N / 16).toNat) (by omega));by_cases hc:(((s.Enums[(N / 16).toNat]'(by omega)).Members.length:Int)<=N % 16)
 .grind
 .rw[if_neg (by simp_all)]at h;obtain rfl:=nad h;refine⟨by omega,rfl,?_⟩;unfold Bf
  grind
theorem q9{N:Int}{s:GSignature}{a:GType}{r:GType×Int}(h:Fa ⟨25,N⟩ [a] s=some r) (h0:r.2=0):N=0/\a.Kind=1/\r.1=⟨1,0⟩:=by
 have hu:=ya (op:=25) (by omega);have hus:Ib 25=false:=rfl;unfold Fa na Aa at h;simp only[hu,hus,mz]at h;by_cases hN:N=0
 .by_cases hk:a.Kind=1
  .simp[hN,hk,Bh]at h;grind
  grind[Bh]
 grind
theorem dW{op N:Int}{s:GSignature}{a b:GType}{r:GType×Int}(hop:19<=op/\op<=24) (h:Fa ⟨op,N⟩ [a,b] s=some r) (h0:r.2=0) :
 N=0/\r.1=⟨1,0⟩/\(op<=22->a.Kind=b.Kind/\a.Enum=b.Enum/\(21<=op->2<=a.Kind/\a.Kind<=5))/\(23<=op->a.Kind=1/\b.Kind=1):=by
 have hu:=ya (op:=op) (by omega);have hus:Ib op=false:=by grind[Ib]
 unfold Fa na Aa at h;simp only[hu,hus,mz]at h;by_cases hN:N=0
 case neg=>grind
 obtain⟨ak,ae⟩:=a;obtain⟨bk,be⟩:=b;simp only[hN,Bh,NF,Cg]at h;rcases(by omega:op=19\/op=20\/op=21\/op=22\/op=23\/op=24)with rfl|rfl|rfl|rfl|rfl|rfl
 .by_cases k1:ak=bk<;>by_cases k2:ae=be<;>simp[k1,k2]at h
  all_goals grind
 .by_cases k1:ak=bk<;>by_cases k2:ae=be<;>simp[k1,k2]at h
  all_goals grind
 .have hnb:Jr ak=true↔2<=ak/\ak<=4:=by grind[Jr]
  by_cases k1:ak=bk/\ae=be
  .obtain⟨rfl,rfl⟩:=k1;cases hn:Jr ak
   .by_cases k5:ak=5<;>simp[hn,k5]at h
    all_goals grind
   .simp[hn]at h
    grind
  .simp[k1]at h;grind
 .have hnb:Jr ak=true↔2<=ak/\ak<=4:=by grind[Jr]
  by_cases k1:ak=bk/\ae=be
  .obtain⟨rfl,rfl⟩:=k1;cases hn:Jr ak
   .by_cases k5:ak=5<;>simp[hn,k5]at h
    all_goals grind
   .simp[hn]at h
    grind
  .simp[k1]at h;grind
 .by_cases k1:ak=1<;>by_cases k2:bk=1<;>simp[k1,k2]at h
  all_goals grind
 .by_cases k1:ak=1<;>by_cases k2:bk=1<;>simp[k1,k2]at h
  all_goals grind
noncomputable def qW(e:List GNode) (s:GSignature) (j:Nat):GType:=(Yt e s (Ho e s j) j).1
def kP(e:List GNode) (i q:Nat):Nat:=if q+1=(Re e i).2.length then i-1 else(((Re e i).2[q+1]?).getD 0).toNat-1
theorem KV{e:List GNode}{i:Nat}:(Re e (i+1)).2=(Re e i).2.take ((Re e i).2.length-Pb e i)++[if 0<Pb e i then((Re e i).2[(Re e i).2.length-Pb e i]?).getD 0 else(i:Int)]:=rfl
theorem oM{e:List GNode}{s:GSignature}(hw:Wst e) (hN:∀n∈e,Xa n) (ht:∀j,j<e.length->ku e s j=none):∀i,i<=e.length->∀q,q<(Re e i).2.length->(Ho e s i)[q]?=some (qW e s (kP e i q))
 |0,_=>λq hq=>by grind[Re]
 |i+1,hi=>by
  have ih:=oM hw hN ht i (by omega);have hinv:=(dr hw hN i (by omega) λj hj=>ht j (by omega)).1;have har:=(hw.ar (i:=i) (by omega)).2.1;have ets:Ho e s (i+1)=(Ho e s i).take ((Ho e s i).length-Pb e i)++[qW e s i]:=rfl;intro q hq;unfold kP;rw[ets,KV]at *;have hlt:((Re e i).2.take ((Re e i).2.length-Pb e i)).length=(Re e i).2.length-Pb e i:=by simp
  have hlt2:((Ho e s i).take ((Ho e s i).length-Pb e i)).length=(Re e i).2.length-Pb e i:=by simp_all
  simp only[tad,hlt,Gad]at hq⊢;by_cases hq1:q=(Re e i).2.length-Pb e i
  .simp_all
  .rw[if_neg (by omega),Nad (by omega),List.getElem?_take_of_lt (by omega),ih q (by omega)];congr 2;unfold kP
   grind
theorem Q7{e:List GNode}{s:GSignature}(hw:Wst e) (hN:∀n∈e,Xa n) (ht:∀j,j<e.length->ku e s j=none) {i:Nat}(hi:i<e.length):(Ho e s i).drop ((Ho e s i).length-Pb e i)=(aad (Pb e i)).map λt=>qW e s (nh e i t):=by
 have hinv:=(dr hw hN i (by omega) λj hj=>ht j (by omega)).1;have har:=(hw.ar (i:=i) hi).2.1;apply List.ext_getElem?;intro t;rw[List.getElem?_drop];by_cases hta:t<Pb e i
 .rw[oM hw hN ht i (by omega) _ (by omega),Oad,Xae hta]
  grind[kP,nh]
 grind
theorem jx{n:GNode}{args:List GValue}{env:GEnv}(ha:args.length<=3) (h1:1<=n.Op/\n.Op<=39/\sP n=true/\kb n.Op=args.length) (h2:mq n env=true) (h3:∀a∈args,Bf a):ub n args env=Gg n args env:=by
 simp_all[Ls,gm]
def Typed(e:List GNode) (s:GSignature) (env:GEnv) (i:Nat):Prop:=(um e env i).2=0/\(um e env i).1.Kind=(qW e s i).Kind/\(um e env i).1.Enum=(qW e s i).Enum
theorem jN{e:List GNode}{s:GSignature}(hw:Wst e) (hN:∀n∈e,Xa n) (hf:∀i,i<e.length->No e i=true) (ht:∀j,j<e.length->ku e s j=none) (hE:s.Enums.length<=8) (hM:∀x∈s.Enums,x.Members.length<=16)
 {env:GEnv} (hl:env.Inputs.length=s.Inputs.length) (hty:∀(k:Nat) v t,env.Inputs[k]?=some v->s.Inputs[k]?=some t->v.Kind=t.Kind/\v.Enum=t.Enum) (hpl:∀v∈env.Inputs,Bf v):∀i,i<e.length->Typed e s env i:=by
 intro i
 induction i using faf with
 |_ i ih=>
  intro hi;have hnp:=(Zs hw hf env).1;have hga:=Az e i;have hnd:=fU hN hi;have hat:=TA hw hN hi λj hj=>ht j (by omega);rw[Q7 hw hN ht hi]at hat;have hz:(Yt e s (Ho e s i) i).2=0:=by
   grind[ku]
  have hop:∀t,t<Pb e i->Typed e s env (nh e i t)/\Bf (um e env (nh e i t)).1:=λt h=>by
   have o:=(Yk hw hi h).1;have:=ih _ o (by omega);exact⟨this,(hnp _ (by omega)).ok this.1⟩
  have har2:=(hw.ar hi).1;have harN:((Pb e i:Nat):Int)=kb (va e i).Op:=by grind[Pb]
  have hty0:qW e s i=(Yt e s (Ho e s i) i).1:=rfl;unfold Typed;rw[hty0,(hnp i hi).q];generalize Yt e s (Ho e s i) i=r at hat hz⊢;rcases vy (hf i hi)with ho|hlz
  .rw[sF ho];have hffn:ff (Jy e env i) (Pb e i)=none:=Zb.2 λt h=>by unfold Jy;rw[if_neg (qad.2 (hop t h).1.1)]
   rw[hffn];dsimp only;have ho':=ho;unfold Yl at ho';generalize hn:va e i=n at *;obtain⟨op,N⟩:=n;dsimp only at ho' ho hat harN hnd;by_cases h5:1<=op/\op<=5
   .have ha0:Pb e i=0:=by
     have:kb op=0:=by rcases(by omega:op=1\/op=2\/op=3\/op=4\/op=5)with rfl|rfl|rfl|rfl|rfl<;>decide
     omega
    have ax:Bm e env i=[]:=by grind[Bm]
    rw[ha0]at hat;obtain⟨t1,t2⟩:=p9 h5 hat hz;have hus:Ib op=true:=by rcases(by omega:op=1\/op=2\/op=3\/op=4\/op=5)with rfl|rfl|rfl|rfl|rfl<;>rfl
    rw[ax,jx (by simp) ⟨by simp_all,by grind,by grind[sP],by simp_all⟩ (by grind[mq]) (by simp),ry h5,BJ t2,t1];simp
   by_cases h6:op=6
   .subst h6;have ha0:Pb e i=0:=by grind[kb]
    have ax:Bm e env i=[]:=by grind[Bm]
    rw[ha0]at hat;obtain⟨t0,t1,t2⟩:=UZ hnd hE hM hat hz;rw[ax,jx (by simp) ⟨by simp,by simp,by grind[sP,Ib],by simp_all⟩ (by grind[mq]) (by simp),TB,BJ t2,t1];simp
   by_cases h7:op=7
   .subst h7;have ha0:Pb e i=0:=by grind[kb]
    have ax:Bm e env i=[]:=by grind[Bm]
    rw[ha0]at hat;obtain⟨t,t0,t1,t2⟩:=type7 hat hz;obtain⟨hlt,hte⟩:=oad.1 t1;have hx:idx env.Inputs N=some (env.Inputs[N.toNat]'(by omega)):=Si t0 (by omega);have hp:=hpl _ (Qac (l:=env.Inputs) (n:=N.toNat) (by omega));have hk:=hty N.toNat _ _ (Lac (by omega)) t1;rw[ax,jx (by simp) ⟨by simp,by simp,by grind[sP,Ib],by simp_all⟩ (by grind[mq]) (by simp),sx hx (decide_eq_true hp),t2]
    simp_all
   by_cases h25:op=25
   .subst h25;have ha1:Pb e i=1:=by grind[kb]
    rw[ha1]at hat;obtain⟨t0,t1,t2⟩:=q9 hat hz;obtain⟨⟨o1,o2,o3⟩,o4⟩:=hop 0 (by omega);rw[O3 ha1,jx (by simp) ⟨by simp,by simp,by grind[sP],by simp_all⟩ (by grind[mq]) (by simp_all),VE,if_pos (by simp_all),t2];exact⟨rfl,rfl,rfl⟩
   .have ha2:Pb e i=2:=by
     have:kb op=2:=by rcases(by omega:op=19\/op=20\/op=21\/op=22)with rfl|rfl|rfl|rfl<;>decide
     omega
    rw[ha2]at hat;obtain⟨t0,t1,t2,-⟩:=dW (a:=qW e s (nh e i 0)) (b:=qW e s (nh e i 1)) (by omega) hat hz;obtain⟨t2,t3,t4⟩:=t2 (by omega);obtain⟨⟨o1,o2,o3⟩,o4⟩:=hop 0 (by omega);obtain⟨⟨p1,p2,p3⟩,p4⟩:=hop 1 (by omega);rw[P3 ha2,jx (by simp) ⟨by grind,by grind,by grind[sP],by simp_all⟩ (by grind[mq]) (by simp_all),pA (by omega),if_pos ⟨by unfold vM;omega,λh=>by omega⟩,t1];exact⟨rfl,rfl,rfl⟩
  .rw[rF hlz];have ha2:Pb e i=2:=by
    grind[kb]
   rw[ha2]at hat;obtain⟨t0,t1,-,t2⟩:=dW (op:=(va e i).Op) (N:=(va e i).N) (a:=qW e s (nh e i 0)) (b:=qW e s (nh e i 1)) (by omega) hat hz;obtain⟨t2,t3⟩:=t2 (by omega);obtain⟨⟨o1,o2,o3⟩,o4⟩:=hop 0 (by omega);obtain⟨⟨p1,p2,p3⟩,p4⟩:=hop 1 (by omega);have b0:qp (um e env (nh e i 0))=um e env (nh e i 0):=by simp_all[qp]
   have b1:qp (um e env (nh e i 1))=um e env (nh e i 1):=by simp_all[qp]
   have e0:(um e env (nh e i 0)).1.Enum=0:=by unfold Bf at o4;omega
   have e1:(um e env (nh e i 1)).1.Enum=0:=by unfold Bf at p4;omega
   unfold mD
   grind
theorem Z0{l:GLaw}(h:LawOk l) (sc d date:Int):∃b,bt l sc d date=some b:=by
 have hl:=(uI h sc d date).1;unfold bt;rw[mw h,Jac];generalize og l sc d date=g at hl⊢;obtain⟨b,h1,-⟩:=QO (step:=Vs g) (λs=>∃j:Nat,s.2=(j:Int)/\j<=g.1.length) (λs=>(g.1.length-s.2).toNat) (λ_=>True) (by
  rintro⟨a,b⟩ ⟨j,h1,h2⟩;dsimp only at h1;subst h1;unfold Vs;dsimp only;by_cases hj:j<g.1.length
  .rw[if_pos (by omega),Ba hj,Jac,wa (by omega)];exact .inl ⟨_,rfl,⟨j+1,rfl,by omega⟩,by omega⟩
  .rw[if_neg (by omega)];simp) _ (1,0) (cad _) ⟨0,rfl,Sad _⟩
 simp_all
theorem xK(c:GCase):∃b,Zm c=some b/\(b=true->c.Members.length<=10):=by
 unfold Zm;by_cases h1:14<(c.Inputs.length:Int)
 .simp_all
 rw[if_pos h1,Jac];by_cases h2:10<(c.Members.length:Int)
 .simp_all
 rw[if_neg (by simp_all),bc (step:=uj c) (λi=>(i:Int)) (λi=>if(c.Members[i]?.any λx=>decide (14<(x.length:Int)))=true then some false else none) c.Members.length () (λi hi _=>by
  unfold uj;rw[if_pos (by omega),Ba hi,Jac,Lac hi,wa (by omega)]
  grind[mH]) (λ_=>by simp_all[uj])]
 cases ff _ c.Members.length<;>exact⟨_,rfl,λ_=>by omega⟩
theorem bz{l:GLaw}(h:LawOk l) {sc d date:Int}(hg:(og l sc d date).2≠0):Na l sc d date=some ([],(og l sc d date).2):=by
 simp_all[Na,xg]
theorem Nv(haw:ue=some true) {l:GLaw}(ht:BE l) (sc:Int) (c:GCase) (d:Int):Ie l sc c d=some true:=by
 unfold Ie;obtain⟨b,hb,hb2⟩:=Ds l;obtain⟨b3,hb3,hb4⟩:=xK c;rw[hb,haw];simp only[Jac]
 cases b with
 |false=>rfl
 |true=>
  have h:=(hb2 rfl).ok ht;obtain⟨b2,hf⟩:=Z0 h sc d c.Date;rw[hb3,hf];simp only[Jac,if_true]
  cases b3 with
  |false=>rfl
  |true=>
   have hm:=hb4 rfl
   cases b2 with
   |false=>rfl
   |true=>
    simp only[if_true,Jac,Cae,Tac,if_false];by_cases hg:(og l sc d c.Date).2=0
    case neg=>simp_all[bz]
    obtain⟨s,ho⟩:=xy h hg;obtain⟨hs,e1,-,e3⟩:=Yw h (g:=(og l sc d c.Date).1) (by grind) ho;rw[e1,Jac,if_pos rfl,Jac];by_cases h0:0<(hs.length:Int)
    .simp_all
    rw[if_neg (by simp_all)];have hall:=e3 (uaf.1 (by omega));obtain⟨p,p1,p2,-⟩:=kA h ho (c:=c) (by omega);rw[p1,Jac];by_cases hp:p.2.Code=0
    case neg=>simp_all
    rw[if_pos hp];obtain⟨hi,env,he,hpk⟩:=p2 hp;obtain⟨cc,hc,hout⟩:=yU h ho hi he;have:=hall cc hc;have hge:0<=p.1:=by
     rw[hpk];unfold pick;rw[if_neg (by omega)];have hmm:=Og (rules:=s.Rules) (q:=Ju d c.Date) s.Rules.length
     grind[oa,Qac]
    simp_all
theorem xY{l:GLaw}(h:LawOk l) {s:GScope}{sc d date:Int}{g:List (List Int)}(ho:GridOk l s sc d date g) {a b:GEnv}(hab:a.Inputs=b.Inputs) (hi:InpOk l s a.Inputs):ti l s d date a=ti l s d date b:=by
 unfold ti;congr 1;unfold nq;apply Bae;intro k hk;have hk:=gae.1 hk;rw[getD_lt hk];have hmem:(oa s d date).1[k]∈(oa s d date).1:=Qac hk;generalize (oa s d date).1[k]=x at hmem;unfold gT;by_cases hz:((Mn s x).length:Int)=0
 .simp_all
 rw[if_neg hz,if_neg hz,CQ h ho hmem (by omega) hab hi]
theorem uR{e:List GNode}{s:GSignature}(h:Bk e s=true):∀j,j<e.length->ku e s j=none:=by
 have hw:=Gl h;unfold Bk at h;simp only[Sac,decide_eq_true_eq]at h;have h0:=h.1.1;unfold uo at h0;rw[Pq hw]at h0;simp only[if_true]at h0
 cases hf:ff (ku e s) e.length with
 |some v=>
  rw[hf]at h0;obtain⟨i,-,hv,-⟩:=Sa.1 hf;unfold ku at hv
  grind
 |none=>grind[Zb]
theorem CT{l:GLaw}(h:LawOk l) {s:GScope}{sc d date:Int}{g:List (List Int)}(ho:GridOk l s sc d date g) {env:GEnv}(hi:InpOk l s env.Inputs) {x:Int}(hx:x∈(oa s d date).1) (hz:(Mn s x).length≠0):∃p,Ra (Mn s x) env=some p/\p.2=0:=by
 have hV:=dq ho.cv;have hsm:=h.s s (had ho.cs);have hm:=Og (rules:=s.Rules) (q:=Ju d date) s.Rules.length x hx;have hf:=ho.flat _ (ew hx hz);have hw:=Gl hf;have hN:∀n∈Mn s x,Xa n:=by
  grind[Mn]
 have hsi:(Oq l s).Inputs=s.Inputs.map (·.Type_):=by grind[Oq]
 have hse:=(nP l s).1;have:=jN hw hN (Cr hf) (uR hf) (by rw[hse];exact hV.ne) (by rw[hse];exact hV.mem) (env:=env) (by rw[hsi,bae];exact hi.len) (λk v t hv ht=>by
  rw[hsi,Oad]at ht;obtain⟨f,hf,rfl⟩:=Oac.1 ht;obtain⟨hk,rfl⟩:=oad.1 hf;obtain⟨hk2,rfl⟩:=oad.1 hv;exact⟨(hi.ty k hk hk2).1,(hi.ty k hk hk2).2.1⟩) (hi.V1 ho) ((Mn s x).length-1) (by omega)
 exact⟨_,(Zs hw (Cr hf) env).2,this.1⟩
theorem GW{l:GLaw}(h:LawOk l) {s:GScope}{sc d date:Int}{g:List (List Int)}(ho:GridOk l s sc d date g) {Qg:List GValue}(hi:InpOk l s Qg):Lb l sc ⟨date,Qg,[]⟩ true d=some K7:=by
 obtain⟨i,rfl⟩:∃i:Nat,sc=(i:Int):=⟨sc.toNat,by have:=ho.csc;omega⟩;have hil:i<l.Scopes.length:=by have:=ho.csc;omega
 have hes:l.Scopes[i]=s:=by
  have:=ho.cs
  simp_all
 have hd:=ho.cd;have hdt:=ho.cdt;have hsm:=h.s s (had ho.cs);have hv:MB l s.Inputs Qg:=⟨hi.len,λj h1 h2=>by
  obtain⟨a,b,c,e⟩:=hi.ty j h2 h1
  grind[zR]⟩
 unfold Lb;rw[Qp h,Jac,if_neg (qad.2 ho.cv),Ba hil,Jac,hes];have hcond:(if¬(i:Int)<0 then if¬(l.Scopes.length:Int)<=(i:Int)then if true=true then if¬d<0 then some (decide ((s.Defs.length:Int)<=d))else some true else some false else some true else some true)=some false:=by
  simp_all
 rw[hcond,Jac,if_neg (by simp)];have hcv:Be l (i:Int) ⟨date,Qg,[]⟩=some (0,0,0):=by
  unfold Be;dsimp only;rw[R7,if_neg (by simp_all),R7,if_neg (by simp_all),Ba hil,Jac,hes,QE hsm.2.2.1 hv,Jac,if_neg (by simp),Px hil,Jac];have hlim:¬(if(aG l l.Scopes[i]).2=true then(8:Int)else 0)<(([]:List (List GValue)).length:Int):=by
   grind
  simp_all[fe,Hd]
 rw[hcv];rfl
theorem xw{l:GLaw}(h:LawOk l) {s:GScope}{sc d date:Int}{g:List (List Int)}(ho:GridOk l s sc d date g) {c:List Int}(hc:mb g c) :
 ud l sc ⟨date,Ep s.Inputs g c,[]⟩ d=some (pick s d date (ti l s d date (Bp l s date g c)),⟨0,0,0,0⟩):=by
 have hi:=DM ho hc;obtain⟨p,p1,p2,p3⟩:=kA h (c:=⟨date,Ep s.Inputs g c,[]⟩) ho (by simp);have hz:=p3 (GW h ho hi) λenv he x hx hz=>CT h ho (by simp_all) hx hz;obtain⟨-,env,he,hp⟩:=p2 (by rw[hz]);rw[p1];refine congrArg some (Prod.ext ?_ hz)
 grind[Bp,xY]
theorem oK(haw:ue=some true) {l:GLaw}(ht:BE l) (sc d date:Int):qi l sc d date=some true:=by
 unfold qi;obtain⟨b,hb,hb2⟩:=Ds l;rw[hb,haw];simp only[Jac]
 cases b with
 |false=>rfl
 |true=>
  have h:=(hb2 rfl).ok ht;obtain⟨b2,hf⟩:=Z0 h sc d date;rw[hf];simp only[Jac,if_true]
  cases b2 with
  |false=>rfl
  |true=>
   simp only[Cae,Tac,if_false];by_cases hg:(og l sc d date).2=0
   case neg=>simp_all[bz]
   obtain⟨s,ho⟩:=xy h hg;obtain⟨hs,e1,e2,-⟩:=Yw h (g:=(og l sc d date).1) (by grind) ho;rw[e1,Jac,if_neg (by simp),Lc (x0:=0) (step:=Nd l sc d date (hs,0)) (λi=>(i:Int)) hs.length () (λi hi=>by
    obtain⟨c,hc,i1,i2,i3⟩:=e2.all _ (Qac hi);have hin:=eK (oa s d date).2.1 (oa s d date).2.2 (nq s (oa s d date).1 (Bp l s date (og l sc d date).1 c));have hlen:=e2.len;unfold Nd;dsimp only;rw[if_pos (by omega),Ba hi,Jac,i1,xw h ho hc,Jac,i2];rw[i2]at i3;unfold pick;rw[if_pos i3];unfold PF at hin;change ti l s d date _ = -1\/ti l s d date _ = -2\/_ at hin;rw[if_pos rfl,if_pos rfl,wa (by omega)]
    grind[ti]) (by simp_all[Nd]) rfl]
   rfl
theorem FM{β ρ:Type}{g:List (List Int)}{step:List Int×Bool->Option (Ex (List Int×Bool) β ρ)}(Q:List Int->Prop) (f:List Int->ρ) (u:β)
 (h1:∀c,mb g c->Q c->step (c,true)=some (.ret (f c))) (h2:∀c,mb g c->¬Q c->step (c,true)=some (.go (Fi g c))) (hend:∀c,step (c,false)=some (.brk u))
 {c0:List Int} (h0:mb g c0) (hr:rk g c0=0) :
 (∃c,mb g c/\Q c/\da step (c0,true)=some (.inr (f c))/\(Q c0->c=c0))\/((∀c,mb g c->¬Q c)/\da step (c0,true)=some (.inl u)):=by
 have key:∀(n:Nat) (c:List Int),Xe g-rk g c<=n->mb g c->(∀d,mb g d->rk g d<rk g c->¬Q d)->(∃c',mb g c'/\Q c'/\da step (c,true)=some (.inr (f c')))\/((∀c,mb g c->¬Q c)/\da step (c,true)=some (.inl u)):=by
  intro n
  induction n with
  |zero=>intro c hn hc;have:=AD hc;omega
  |succ n ih=>
   intro c hn hc hd;by_cases hq:Q c
   .grind[By]
   have hst:=h2 c hc hq;have hn2:=WJ hc;have ok:=UI hc;have all:∀d,mb g d->rk g d<rk g c+1->¬Q d:=λd hd' hlt=>by
    grind[MN]
   rw[Mh hst]
   cases hb:(Fi g c).2 with
   |true=>
    grind
   |false=>
    have e:=(hn2.2 hb).1;rw[show Fi g c=((Fi g c).1,false) by grind,Hd (hend _)];exact .inr ⟨λd hd'=>all d hd' (by simp_all[AD]),rfl⟩
 by_cases hq:Q c0
 .exact .inl ⟨c0,h0,hq,By (h1 c0 h0 hq),λ_=>rfl⟩
 rcases key _ c0 (cad _) h0 λd _ hlt=>by omega with⟨c,a,b,e⟩|h
 .exact .inl ⟨c,a,b,e,λh=>absurd h hq⟩
 .exact .inr h
theorem ZU{rules:List GRule}{q:GRule->Bool}:∀i,∀x∈(pj rules q i).1,∃r,rules[x.toNat]?=some r/\q r=true
 |0=>λx hx=>by grind[pj]
 |i+1=>by
  have ih:=ZU (rules:=rules) (q:=q) i
  grind[pj]
theorem cV{s:GScope}{d date x:Int}(hx:x∈(oa s d date).1):∃r,s.Rules[x.toNat]?=some r/\r.Def=d:=by
 obtain⟨r,h1,h2⟩:=ZU (rules:=s.Rules) (q:=Ju d date) s.Rules.length x hx
 simp_all[Ju]
theorem OL{l:GLaw}{s:GScope}{d date:Int}{env:GEnv}{i:Nat}(hi:i<(oa s d date).1.length):pick s d date (ti l s d date env)=(oa s d date).1[i]↔ti l s d date env=(i:Int):=by
 have hinc:∀(i j:Nat) (hi:i<(oa s d date).1.length) (hj:j<(oa s d date).1.length),i<j->(oa s d date).1[i]<(oa s d date).1[j]:=Dae.1 (GG (rules:=s.Rules) (q:=Ju d date) s.Rules.length);have hm:=Og (rules:=s.Rules) (q:=Ju d date) s.Rules.length;have h0:=(hm _ (Qac hi)).1;unfold pick;constructor
 .intro h;by_cases hn:ti l s d date env<0
  .omega
  .have hlt:=zN (Int.not_lt.1 hn)
   grind
 grind
theorem SX{l:GLaw}(ht:BE l) (sc d date:Int):∃b,Gr l sc d date=some b/\(b=true->SmallL l):=by
 unfold Gr;obtain⟨b,hb,hb2⟩:=Ds l;rw[hb,Jac]
 cases b with
 |false=>simp
 |true=>
  have h:=(hb2 rfl).ok ht;have hl:=(uI h sc d date).1;rw[if_neg (by simp),mw h,Jac];generalize og l sc d date=g at hl⊢;obtain⟨b,h1,-⟩:=QO (step:=Pp g) (λs=>∃j:Nat,s.2=(j:Int)/\j<=g.1.length) (λs=>(g.1.length-s.2).toNat) (λ_=>True) (by
   rintro⟨a,b⟩ ⟨j,h1,h2⟩;dsimp only at h1;subst h1;unfold Pp;dsimp only;by_cases hj:j<g.1.length
   .rw[if_pos (by omega),Jac,Ba hj,Jac,wa (by omega)];by_cases ha:a<=600
    .rw[if_pos (by simp_all)];exact .inl ⟨_,rfl,⟨j+1,rfl,by omega⟩,by omega⟩
    .rw[if_neg (by simp_all)];simp
   .rw[if_neg (by omega),Jac,if_neg (by simp)];simp) _ (1,0) (cad _) ⟨0,rfl,Sad _⟩
  simp_all
theorem AR{l:GLaw}(h:LawOk l) {sc d date:Int}(hg:(og l sc d date).2≠0):Ee l sc d date=some ([],(og l sc d date).2)/\DG l sc d date=some ([],(og l sc d date).2):=by
 unfold Ee DG;rw[xg h,mw h,Jac,Jac,if_pos hg,if_pos hg];simp
theorem C1{l:List Int}(hl:l.length<=1048576) (n:Int):Cv l n=some (l.any λx=>decide (x=n)):=by
 unfold Cv;rw[bc (step:=Np l n) (λi=>(i:Int)) (λi=>if(l[i]?.any λx=>decide (x=n))=true then some true else none) l.length () (λi hi _=>by
  unfold Np;rw[if_pos (by omega),Ba hi,Jac,Lac hi,wa (by omega)]
  grind[mH]) (λ_=>by simp_all[Np]),←Jm (l:=l) (q:=λx=>decide (x=n)) (g:=λ_=>true)]
 cases hff:ff (λi=>if(l[i]?.any λx=>decide (x=n))=true then some true else none) l.length with
 |none=>rfl
 |some v=>
  obtain⟨i,-,h2,-⟩:=Sa.1 hff;split at h2
  .rw[←nad h2];rfl
  simp_all
theorem OS{l:GLaw}{s:GScope}{d date:Int}{A:Nat->Prop}{i:Nat}(hi:i<(oa s d date).1.length):(oa s d date).1[i]∈jz (oa s d date).1 A↔¬A i:=by
 have hinc:∀(i j:Nat) (hi:i<(oa s d date).1.length) (hj:j<(oa s d date).1.length),i<j->(oa s d date).1[i]<(oa s d date).1[j]:=Dae.1 (GG (rules:=s.Rules) (q:=Ju d date) s.Rules.length);unfold jz;rw[jae];constructor
 .grind[tC]
 .intro hA;refine⟨i,Uad.2 ⟨gae.2 hi,?_⟩,getD_lt hi⟩
  simp_all[Lae,tC]
theorem NB{l:GLaw}(h:LawOk l) {s:GScope}{sc d date:Int}{g:List (List Int)}(hg:og l sc d date=(g,0)) (ho:GridOk l s sc d date g) {i:Nat}(hi:i<(oa s d date).1.length) :
 (∃c,mb g c/\ti l s d date (Bp l s date g c)=(i:Int)/\Yb l sc (oa s d date).1[i] date=some (Ep s.Inputs g c,true,0)/\(ti l s d date (Bp l s date g (Nac g.length 0))=(i:Int)->c=Nac g.length 0))\/(¬tt l s d date g i/\Yb l sc (oa s d date).1[i] date=some ([],false,0)):=by
 have hsm:=h.s s (had ho.cs);have hgl:g.length<=1048576:=by rw[ho.len];omega
 have hm:=Og (rules:=s.Rules) (q:=Ju d date) s.Rules.length;have hx:=hm _ (Qac hi);obtain⟨r,hr1,hr2⟩:=cV (Qac hi);have hsc:=ho.csc;have es:l.Scopes[sc.toNat]'(by omega)=s:=by
  have:=ho.cs
  simp_all
 have hdef:(s.Rules[(oa s d date).1[i].toNat]'(by omega)).Def=d:=by
  simp_all
 obtain⟨c0,r0⟩:=rO ho.pos;have hidx:idx l.Scopes sc=some s:=by grind[Si]
 have hrul:idx s.Rules (oa s d date).1[i]=some (s.Rules[(oa s d date).1[i].toNat]'(by omega)):=Si hx.1 hx.2.1;have hstep:∀c,mb g c->Gd (oa s d date).1[i] (g,0) ⟨s,l.Tables,date,(oa s d date).1,(oa s d date).2.1,(oa s d date).2.2⟩ (c,true)=if ti l s d date (Bp l s date g c)=(i:Int)then some (.ret (Ep s.Inputs g c,true,0))else some (.go (Fi g c)):=λc hc=>by
  unfold Gd;dsimp only;rw[if_pos rfl];have e1:ji (g,0) ⟨s,l.Tables,date,(oa s d date).1,(oa s d date).2.1,(oa s d date).2.2⟩ c=some (Ep s.Inputs g c):=by
   unfold ji;rw[Ay hsm.2.2.1 ho.len hc (step:=mi (g,0) ⟨s,l.Tables,date,(oa s d date).1,(oa s d date).2.1,(oa s d date).2.2⟩ c) (λa i=>by grind[mi])];rfl
  have e2:ki (g,0) c=some (Fi g c):=by
   grind[ki,Xl,mO]
  rw[e1,Jac,TG h ho,Jac,e2];have eo:ti l s d date ⟨date,Ep s.Inputs g c,[],[],[],l.Tables⟩=ti l s d date (Bp l s date g c):=rfl;rw[eo];have hpk:=OL (l:=l) (s:=s) (d:=d) (date:=date) (env:=Bp l s date g c) hi;unfold pick at hpk;by_cases hn:0<=ti l s d date (Bp l s date g c)
  .have hlt:=zN hn;rw[if_neg (by omega),getD_lt (by omega)]at hpk;rw[if_pos hn,Si hn hlt,Jac,Jac]
   simp_all
  grind
 unfold Yb;rw[Qp h,Jac,if_neg (qad.2 ho.cv),hidx];have hcond:(if¬sc<0 then if¬(l.Scopes.length:Int)<=sc then if¬(oa s d date).1[i]<0 then((some s).bind λx6=>some (decide ((x6.Rules.length:Int)<=(oa s d date).1[i])))else some true else some true else some true)=some false:=by
  simp_all
 rw[hcond,Jac,if_neg (by simp),Jac,hrul,Jac,hdef,xg h,hg,Jac,if_neg (by simp),FI h ho,Jac];dsimp only;rw[Sw (by omega) (by omega),Jac];rcases FM (step:=Gd (oa s d date).1[i] (g,0) ⟨s,l.Tables,date,(oa s d date).1,(oa s d date).2.1,(oa s d date).2.2⟩) (λc=>ti l s d date (Bp l s date g c)=(i:Int)) (λc=>(Ep s.Inputs g c,true,0)) () (λc hc hq=>by simp_all) (λc hc hq=>by simp_all) (λc=>by simp_all[Gd]) c0 r0 with⟨c,hc,hq,e⟩|⟨hn,e⟩
 .grind
 .rw[e];exact .inr ⟨λ⟨c,hc,hq⟩=>hn c hc hq,rfl⟩
theorem tM(haw:Ek=some true) {l:GLaw}(ht:BE l) (a:GA3):Nj l a=some true:=by
 unfold Nj;obtain⟨b,hb,hb2⟩:=SX ht a.I0 a.I1 a.I2;rw[hb,haw];simp only[Jac]
 cases b with
 |false=>rfl
 |true=>
  have h:=(hb2 rfl).ok ht;rw[if_neg (by simp)];by_cases hg:(og l a.I0 a.I1 a.I2).2=0
  case neg=>rw[(AR h hg).1,Jac,if_neg hg,Jac,if_pos rfl,if_pos hg];rfl
  obtain⟨s,ho⟩:=xy h hg;have hg':og l a.I0 a.I1 a.I2=((og l a.I0 a.I1 a.I2).1,0):=by grind
  generalize (og l a.I0 a.I1 a.I2).1=g at ho hg';have hsm:=h.s s (had ho.cs);have htl:=nu s a.I1 a.I2;have hrl:=hsm.2.1.rules;have hsc:=ho.csc;have es:l.Scopes[a.I0.toNat]'(by omega)=s:=by
   have:=ho.cs
   simp_all
  have hdl:=VP (oa s a.I1 a.I2).1 (tt l s a.I1 a.I2 g);rw[BR h hg' ho,Jac];dsimp only;rw[if_pos rfl,if_pos (by omega),Jac,if_neg (by simp_all),Si hsc.1 hsc.2,Jac,es,Qn hrl,Jac];have hrw:(pj s.Rules (Ju a.I1 a.I2) s.Rules.length).1=(oa s a.I1 a.I2).1:=rfl;rw[hrw,Lc (x0:=0) (step:=Je l a (jz (oa s a.I1 a.I2).1 (tt l s a.I1 a.I2 g),0) (oa s a.I1 a.I2).1) (λi=>(i:Int)) (oa s a.I1 a.I2).1.length () (λi hi=>by
   have hdm:=OS (l:=l) (s:=s) (d:=a.I1) (date:=a.I2) (A:=tt l s a.I1 a.I2 g) hi;have hany:((jz (oa s a.I1 a.I2).1 (tt l s a.I1 a.I2 g)).any λx=>decide (x=(oa s a.I1 a.I2).1[i]))=true↔¬tt l s a.I1 a.I2 g i:=by
    simp_all
   unfold Je;dsimp only;rw[if_pos (by omega),Ba hi,Jac,wa (by omega)];rcases NB h hg' ho hi with⟨c,hc,ho1,e,-⟩|⟨hnA,e⟩
   .rw[e,Jac];dsimp only;have hf:((jz (oa s a.I1 a.I2).1 (tt l s a.I1 a.I2 g)).any λx=>decide (x=(oa s a.I1 a.I2).1[i]))=false:=Lae.2 λh=>hany.1 h ⟨c,hc,ho1⟩;rw[if_pos rfl,C1 (by omega),hf,Jac,Jac,if_neg (by simp),if_neg (by simp),xw h ho hc,Jac];dsimp only;rw[if_pos ⟨rfl,rfl,rfl,rfl⟩,(OL hi).2 ho1,Jac,if_neg (by simp)];rfl
   .rw[e,Jac];dsimp only;rw[if_pos rfl,C1 (by omega),hany.2 hnA,Jac,Jac,if_neg (by simp),if_pos rfl];rfl) (by simp_all[Je]) rfl]
  rfl
def Iu(k c:Int):List GNode:=[GNode.mk 7 0,GNode.mk k c,GNode.mk 21 0]
theorem UX{k c x:Int}(hk:k=2\/k=3) {env:GEnv}(hi:env.Inputs=[⟨k,0,x⟩]) (hx:Ls ⟨k,0,x⟩=true) (hc:Ls ⟨k,0,c⟩=true):Ra (Iu k c) env=some (trV (decide (x<c))):=by
 have hw:Wst (Iu k c):=nK (by rcases hk with rfl|rfl<;>kernel_rfl);have hf:∀i,i<(Iu k c).length->No (Iu k c) i=true:=by
  intro i h;have h3:i<3:=h;rcases hk with rfl|rfl<;>rcases(by omega:i=0\/i=1\/i=2)with rfl|rfl|rfl<;>rfl
 obtain⟨hn,he⟩:=Zs hw hf env;have ix:idx env.Inputs 0=some ⟨k,0,x⟩:=by rw[hi];rfl
 have h0:um (Iu k c) env 0=(⟨k,0,x⟩,0):=by
  rw[(hn 0 (by simp[Iu])).q];unfold ZM Bm;rw[show va (Iu k c) 0=⟨7,0⟩from rfl,show Pb (Iu k c) 0=0 from rfl,if_neg (by decide)];show(ub ⟨7,0⟩ [] env).getD _=_;rw[gm (by decide),if_pos (by decide),if_pos (by unfold mq;simp[hi]),if_pos (show([]:List GValue).all Ls=true from rfl),sx ix hx];rfl
 have h1:um (Iu k c) env 1=(⟨k,0,c⟩,0):=by
  rw[(hn 1 (by simp[Iu])).q];unfold ZM Bm;rw[show va (Iu k c) 1=⟨k,c⟩from rfl,show Pb (Iu k c) 1=0 by rcases hk with rfl|rfl<;>rfl,if_neg (by rcases hk with rfl|rfl<;>simp)];show(ub ⟨k,c⟩ [] env).getD _=_;rw[gm (by decide),if_pos (by rcases hk with rfl|rfl<;>simp[sP,kb,Ib]),if_pos (by unfold mq;rcases hk with rfl|rfl<;>simp),if_pos (show([]:List GValue).all Ls=true from rfl),ry (by omega)];unfold Ks;rw[if_pos hc];rfl
 rw[he,show(Iu k c).length-1=2 from rfl,(hn 2 (by simp[Iu])).q];unfold ZM Bm Jy;rw[show va (Iu k c) 2=⟨21,0⟩from rfl,show Pb (Iu k c) 2=2 from rfl,if_neg (by decide)];have o0:nh (Iu k c) 2 0=0:=by rcases hk with rfl|rfl<;>kernel_rfl
 have o1:nh (Iu k c) 2 1=1:=by rcases hk with rfl|rfl<;>kernel_rfl
 simp only[ff,o0,o1,h0,h1,Nae,Rag,List.nil_append,Qad,List.map_cons,Vae,List.cons_append];rw[if_neg (by simp)];dsimp only;rw[gm (by simp),if_pos (by simp[sP,Ib,kb]),if_pos (by unfold mq;simp),if_pos (by simp[hx,hc]),pA (by decide),if_pos ⟨⟨rfl,rfl⟩,λ_=>by rcases hk with rfl|rfl<;>simp⟩];rfl
theorem WT{k c x:Int}(hk:k=2\/k=3) {env:GEnv}(hi:env.Inputs=[⟨k,0,x⟩]) (hx:Ls ⟨k,0,x⟩=true) (hc:Ls ⟨k,0,c⟩=true):gT (Iu k c) env=decide (x<c):=by
 unfold gT;rw[if_neg (by simp[Iu]),UX hk hi hx hc];by_cases h:x<c<;>simp[trV,h]
def gp(k:Int) (rs:List GRule):GScope:=GScope.mk (Pac #[104,111,117,115,101]) (-1) [GField.mk (Pac #[97]) (GType.mk k 0)] [GField.mk (Pac #[100]) (GType.mk 3 0)] rs
theorem CS{k:Int}{rs:List GRule}(h:(vz (gp k rs) 0 1).contains 0=false):ff (JD (gp k rs)) (gp k rs).Defs.length=none:=Zb.2 λi hi=>by
 have:i=0:=by simp only[gp,rad,cae]at hi;omega
 subst this;unfold JD;rw[if_neg];rw[←TO];intro h2;rw[show(vz (gp k rs) 0 1).contains 0=true from Zac.2 h2]at h;cases h
theorem lK{k:Int}{rs:List GRule}(h:(vz (gp k rs) 0 1).contains 0=false) (hs:vf (Te k rs) 0 (gp k rs)=(0,0)):ln (Te k rs)=⟨0,0,0,0⟩:=by
 unfold ln;simp only[show(Te k rs).Enums.length=0 from rfl,show(Te k rs).Tables.length=0 from rfl,show(Te k rs).Scopes.length=1 from rfl,ff];rw[show(Te k rs).Scopes[0]?=some (gp k rs)from rfl];dsimp only;rw[hs];rfl
theorem qN{k:Int}{rs:List GRule}{date:Int}{r:List Int}(hv:ln (Te k rs)=⟨0,0,0,0⟩) (hd:0<=date/\date<=109572) (hf:((zk (gp k rs) 0 date).any λg=>!Bk g (Oq (Te k rs) (gp k rs)))=false)
 (hg:vi (Te k rs) (zk (gp k rs) 0 date) (gp k rs) 1=[r]) (hr:¬4096<tx [r]):og (Te k rs) 0 0 date=([r],0):=by
 unfold og;rw[if_neg (by rw[hv];simp),if_neg (by simp[Te]),show(Te k rs).Scopes[(0:Int).toNat]?=some (gp k rs)from rfl];dsimp only;rw[if_neg (by simp[gp]),if_neg (by omega),if_neg (by rw[hf];simp),show(gp k rs).Inputs.length=1 from rfl,hg,if_neg hr]
def jb:List GRule:=[Zp (Pac #[98,97,115,101]) (-1) (Iu 3 5) 1,Zp (Pac #[109,111,114,101]) 0 (Iu 3 9) 1]
theorem P0:(vz (gp 3 jb) 0 1).contains 0=false:=by kernel_rfl
theorem sc25:vf (Te 3 jb) 0 (gp 3 jb)=(0,0):=by
 unfold vf;rw[CS P0];rfl
theorem Z5:vi (Te 3 jb) (zk (gp 3 jb) 0 100) (gp 3 jb) 1=[[-1000000000000000,5,6,9,10]]:=by kernel_rfl
theorem xU{k:Int}{rs:List GRule}{date:Int}{env:GEnv}:ti (Te k rs) (gp k rs) 0 date env=nw (oa (gp k rs) 0 date).2.1 (oa (gp k rs) 0 date).2.2 (nq (gp k rs) (oa (gp k rs) 0 date).1 env):=rfl
theorem T1{x:Int}{env:GEnv}(hi:env.Inputs=[⟨3,0,x⟩]) (hx:Ls ⟨3,0,x⟩=true):ti (Te 3 jb) (gp 3 jb) 0 100 env=nw [-1,0] [0,0] [decide (x<5),decide (x<9)]:=by
 rw[xU,show oa (gp 3 jb) 0 100=([0,1],[-1,0],[0,0]) by kernel_rfl];unfold nq;show nw [-1,0] [0,0] [gT (Iu 3 5) env,gT (Iu 3 9) env]=_;rw[WT (.inr rfl) hi hx (by decide),WT (.inr rfl) hi hx (by decide)]
theorem L7{k:Int}{rs:List GRule}(h:rs.length<=1048576/\∀r∈rs,r.Guard.length<=1048576/\r.Value.length<=1048576) (hs:∀r∈rs,r.Name.size<=1048576/\r.Source.size<=1048576/\(∀n∈r.Guard,Xa n)/\∀n∈r.Value,Xa n):LawOk (Te k rs):=by
 have h1:ScOk (gp k rs):=⟨by simp[gp],h.1,h.2⟩;refine⟨by simp[Te],by simp[Te],by simp[Te],by simp[Te],by simp[Te],λx hx=>?_⟩;have:x=gp k rs:=xad.1 hx;subst this;exact⟨(show(5:Nat)<=1048576 by decide),h1,by simp[gp],by simp[gp];decide,by simp[gp];decide,hs⟩
theorem qY:LawOk (Te 3 jb):=L7 (by simp[jb,Zp,Iu]) (by simp[jb,Zp,Iu,Xa];decide)
theorem CA:og (Te 3 jb) 0 0 100=([[-1000000000000000,5,6,9,10]],0):=qN (lK P0 sc25) (by decide) (by kernel_rfl) Z5 (by decide)
theorem oN{l:GLaw}{s s':GScope}{sc d date:Int}{g:List (List Int)}(ho:GridOk l s sc d date g) (h:l.Scopes[sc.toNat]?=some s'):GridOk l s' sc d date g:=by
 have:=ho.cs;rw[h]at this;cases this;exact ho
theorem FF:GridOk (Te 3 jb) (gp 3 jb) 0 0 100 [[-1000000000000000,5,6,9,10]]:=by
 obtain⟨s,ho⟩:=xy qY (sc:=0) (d:=0) (date:=100) (by rw[CA]);rw[CA]at ho;exact oN ho rfl
theorem O9{r c:List Int}(h:mb [r] c):∃j:Int,c=[j]/\0<=j/\j<(r.length:Int):=by
 match c,h with
 |[j],h=>exact⟨j,rfl,h.1.1,h.1.2.1⟩
theorem NK{r:List Int}{j:Int}(h0:0<=j) (h1:j<(r.length:Int)) (h2:r.length<=1099511627776):mb [r] [j]:=⟨⟨h0,h1,h2⟩,trivial⟩
theorem Laa{c:List Int}(h:mb [[-1000000000000000,5,6,9,10]] c):∃x,(Bp (Te 3 jb) (gp 3 jb) 100 [[-1000000000000000,5,6,9,10]] c).Inputs=[⟨3,0,x⟩]/\Ls ⟨3,0,x⟩=true:=by
 obtain⟨j,rfl,h0,h1⟩:=O9 h;simp only[rad,cae]at h1;rcases(by omega:j=0\/j=1\/j=2\/j=3\/j=4)with rfl|rfl|rfl|rfl|rfl<;>exact⟨_,rfl,by decide⟩
theorem sel25{x:Int}:nw [-1,0] [0,0] [decide (x<5),decide (x<9)]≠0:=by
 by_cases h:x<5
 .rw[decide_eq_true h,decide_eq_true (show x<9 by omega)];decide
 .rw[decide_eq_false h];by_cases h2:x<9<;>simp only[h2,decide_true,decide_false]<;>decide
theorem P1:¬tt (Te 3 jb) (gp 3 jb) 0 100 [[-1000000000000000,5,6,9,10]] 0:=λ⟨c,hc,ho⟩=>by
 obtain⟨x,hi,hx⟩:=Laa hc;rw[T1 hi hx]at ho;exact sel25 ho
theorem sU:ti (Te 3 jb) (gp 3 jb) 0 100 (Bp (Te 3 jb) (gp 3 jb) 100 [[-1000000000000000,5,6,9,10]] [0])=((1:Nat):Int):=by
 rw[T1 (x:=-1000000000000000) rfl (by decide)];decide
theorem K4:Ee (Te 3 jb) 0 0 100=some ([0],0):=by
 rw[BR qY CA FF,show(oa (gp 3 jb) 0 100).1=[0,1] by kernel_rfl];unfold jz;have h0:pb (tt (Te 3 jb) (gp 3 jb) 0 100 [[-1000000000000000,5,6,9,10]] 0)=false:=Lae.2 λh=>P1 (tC.1 h);have h1:pb (tt (Te 3 jb) (gp 3 jb) 0 100 [[-1000000000000000,5,6,9,10]] 1)=true:=tC.2 ⟨[0],NK (by decide) (by decide) (by decide),sU⟩;simp[Nae,h0,h1]
theorem ZZ:Yb (Te 3 jb) 0 1 100=some ([⟨3,0,-1000000000000000⟩],true,0):=by
 have hl:1<(oa (gp 3 jb) 0 100).1.length:=by rw[show(oa (gp 3 jb) 0 100).1=[0,1] by kernel_rfl];decide
 have hg:(oa (gp 3 jb) 0 100).1[1]=1:=by simp only[show(oa (gp 3 jb) 0 100).1=[0,1] by kernel_rfl];rfl
 rcases NB qY CA FF hl with⟨c,hc,-,e,h⟩|⟨h,-⟩
 .rw[hg]at e;rw[e,h sU];rfl
 .exact absurd ⟨[0],NK (by decide) (by decide) (by decide),sU⟩ h
theorem YZ:Yb (Te 3 jb) 0 0 100=some ([],false,0):=by
 have hl:0<(oa (gp 3 jb) 0 100).1.length:=by rw[show(oa (gp 3 jb) 0 100).1=[0,1] by kernel_rfl];decide
 have hg:(oa (gp 3 jb) 0 100).1[0]=0:=by simp only[show(oa (gp 3 jb) 0 100).1=[0,1] by kernel_rfl];rfl
 rcases NB qY CA FF hl with⟨c,hc,ho,-⟩|⟨-,e⟩
 .exact absurd ⟨c,hc,ho⟩ P1
 .rw[hg]at e;exact e
theorem lW:Ek=some true:=by
 unfold Ek ct;simp only[Jac];rw[show Te 3 [Zp _ (-1) [GNode.mk 7 0,GNode.mk 3 5,GNode.mk 21 0] 1,Zp _ 0 [GNode.mk 7 0,GNode.mk 3 9,GNode.mk 21 0] 1]=Te 3 jb from rfl,K4,ZZ,YZ];simp only[Jac,fy (l:=[0]) (by simp),if_true];unfold cn;rw[if_neg (by simp),Mh (s':=1) rfl,Hd (b:=()) rfl];rfl
theorem jC{l:GLaw}(h:LawOk l) {sc d date:Int}{s:GScope}{g:List (List Int)}(ho:GridOk l s sc d date g) {hs:List GCoverageHole}{c:List Int}(hc:mb g c) (hl:hs.length<=4096) {o:Int}(hO:ti l s d date (Bp l s date g c)=o) (hn:o≠-2) :
 jc l date (g,0) s (oa s d date) (hs,c,true)=some (.go ((if 0<=o then hs else if(hs.any λa=>decide (a.Outcome=o/\a.RuleA = -1/\a.RuleB = -1))=true then hs else hs++[⟨o,-1,-1,Ep s.Inputs g c⟩]),Fi g c)):=by
 have hsm:=h.s s (had ho.cs);have htl:=nu s d date;have hrl:=hsm.2.1.rules;have hm:=Og (rules:=s.Rules) (q:=Ju d date) s.Rules.length;have hm':∀x∈(oa s d date).1,0<=x/\x<(s.Rules.length:Int):=λx hx=>⟨(hm x hx).1,(hm x hx).2.1⟩;have ht:∀(env:GEnv),∀x∈(oa s d date).1,(Mn s x).length≠0->LB (Ra (Mn s x) env):=λenv x hx h0=>by
  have hf:=ho.flat _ (ew hx h0);exact zA (Gl hf) (Cr hf) env
 have hgl:g.length<=1048576:=by rw[ho.len];exact hsm.2.2.1
 unfold jc;dsimp only;rw[if_pos rfl];have e1:Vc (g,0) s c=some (Ep s.Inputs g c):=by
  unfold Vc;rw[Ay hsm.2.2.1 ho.len hc (step:=Xc (g,0) s c) (λa i=>by unfold Xc;rfl)];rfl
 have e2:Wc (g,0) c=some (Fi g c):=by
  unfold Wc;exact mO (gr:=g) (step:=Ce (g,0)) (λa i=>by unfold Ce;rfl) hgl hc
 rw[e1,Jac,DA (by omega) hm' (ht _),Jac,rj,Jac,e2];have eo:nw (oa s d date).2.1 (oa s d date).2.2 (nq s (oa s d date).1 ⟨date,Ep s.Inputs g c,[],[],[],l.Tables⟩)=o:=hO;rw[eo];by_cases hp:0<=o
 .rw[if_pos hp,if_pos hp];rfl
 .rw[if_neg hp,if_neg hp,if_neg hn,Jac];dsimp only;rw[vI (by omega),Jac]
  cases hany:hs.any λx=>decide (x.Outcome=o/\x.RuleA = -1/\x.RuleB = -1)with
  |true=>rw[if_neg (by simp)];rfl
  |false=>rw[if_pos rfl,ui (by simp;omega)];rfl
def mc(g:List GNode):List GRule:=[Zp (Pac #[98,97,115,101]) (-1) g 5]
theorem O0:(vz (gp 2 (mc (Iu 2 18))) 0 1).contains 0=false:=by kernel_rfl
theorem V9:(vz (gp 2 (mc [])) 0 1).contains 0=false:=by kernel_rfl
theorem sc24:vf (Te 2 (mc (Iu 2 18))) 0 (gp 2 (mc (Iu 2 18)))=(0,0):=by
 unfold vf;rw[CS O0];rfl
theorem scN:vf (Te 2 (mc [])) 0 (gp 2 (mc []))=(0,0):=by
 unfold vf;rw[CS V9];rfl
theorem RQ:LawOk (Te 2 (mc (Iu 2 18))):=L7 (by simp[mc,Zp,Iu]) (by simp[mc,Zp,Iu,Xa];decide)
theorem okN:LawOk (Te 2 (mc [])):=L7 (by simp[mc,Zp]) (by simp[mc,Zp,Xa];decide)
theorem oE:og (Te 2 (mc (Iu 2 18))) 0 0 1=([[-1000000000000,18,19]],0):=qN (lK O0 sc24) (by decide) (by kernel_rfl) (by kernel_rfl) (by decide)
theorem pN:og (Te 2 (mc [])) 0 0 1=([[0]],0):=qN (lK V9 scN) (by decide) (by kernel_rfl) (by kernel_rfl) (by decide)
theorem EF:GridOk (Te 2 (mc (Iu 2 18))) (gp 2 (mc (Iu 2 18))) 0 0 1 [[-1000000000000,18,19]]:=by
 obtain⟨s,ho⟩:=xy RQ (sc:=0) (d:=0) (date:=1) (by rw[oE]);rw[oE]at ho;exact oN ho rfl
theorem DX:GridOk (Te 2 (mc [])) (gp 2 (mc [])) 0 0 1 [[0]]:=by
 obtain⟨s,ho⟩:=xy okN (sc:=0) (d:=0) (date:=1) (by rw[pN]);rw[pN]at ho;exact oN ho rfl
theorem uU{x:Int}{env:GEnv}(hi:env.Inputs=[⟨2,0,x⟩]) (hx:Ls ⟨2,0,x⟩=true):ti (Te 2 (mc (Iu 2 18))) (gp 2 (mc (Iu 2 18))) 0 1 env=nw [-1] [0] [decide (x<18)]:=by
 rw[xU,show oa (gp 2 (mc (Iu 2 18))) 0 1=([0],[-1],[0]) by kernel_rfl];unfold nq;show nw [-1] [0] [gT (Iu 2 18) env]=_;rw[WT (.inl rfl) hi hx (by decide)]
theorem outN{env:GEnv}:ti (Te 2 (mc [])) (gp 2 (mc [])) 0 1 env=0:=by
 rw[xU,show oa (gp 2 (mc [])) 0 1=([0],[-1],[0]) by kernel_rfl];unfold nq;show nw [-1] [0] [gT [] env]=_;unfold gT;rw[if_pos (by simp)]
 decide
theorem i6:Na (Te 2 (mc [])) 0 0 1=some ([],0):=by
 obtain⟨hs,e,hI,-⟩:=Yw okN pN DX
 cases hs with
 |nil=>exact e
 |cons o hs=>
  obtain⟨c,-,-,h1,h2⟩:=hI.all o (by simp);rw[outN]at h1;omega
theorem EX:Na (Te 2 (mc (Iu 2 18))) 0 0 1=some ([⟨-1,-1,-1,[⟨2,0,18⟩]⟩],0):=by
 unfold Na;rw[xg RQ,oE,Jac,if_neg (by simp),show idx (Te 2 (mc (Iu 2 18))).Scopes 0=some (gp 2 (mc (Iu 2 18)))from rfl,Jac,Qk (by decide),Jac];dsimp only;rw[show Ww 8 (0:Int) (([[-1000000000000,18,19]]:List (List Int)).length:Int) (([[-1000000000000,18,19]]:List (List Int)).length:Int)=some [0] by rfl,Jac,
  Mh (jC RQ EF (c:=[0]) (o:=0) (NK (by decide) (by decide) (by decide)) (by simp) (by rw[uU (x:=-1000000000000) rfl (by decide)];decide) (by decide))]
 rw[show(if(0:Int)<=0 then([]:List GCoverageHole)else _)=[]from rfl,show Fi [[-1000000000000,18,19]] [0]=([1],true) by rfl,
  Mh (jC RQ EF (c:=[1]) (o:=-1) (NK (by decide) (by decide) (by decide)) (by simp) (by rw[uU (x:=18) rfl (by decide)];decide) (by decide))]
 rw[show(if(0:Int)<=-1 then([]:List GCoverageHole)else if(([]:List GCoverageHole).any λa=>decide (a.Outcome = -1/\a.RuleA = -1/\a.RuleB = -1))=true then []else []++[⟨-1,-1,-1,Ep (gp 2 (mc (Iu 2 18))).Inputs [[-1000000000000,18,19]] [1]⟩])=[⟨-1,-1,-1,[⟨2,0,18⟩]⟩] by rfl,show Fi [[-1000000000000,18,19]] [1]=([2],true) by rfl,
  Mh (jC RQ EF (c:=[2]) (o:=-1) (NK (by decide) (by decide) (by decide)) (by simp) (by rw[uU (x:=19) rfl (by decide)];decide) (by decide))]
 rw[Hd (b:=[⟨-1,-1,-1,[⟨2,0,18⟩]⟩]) rfl];rfl
theorem pH:ue=some true:=by
 unfold ue Gu Kt;simp only[Jac];rw[show Te 2 [Zp _ (-1) [GNode.mk 7 0,GNode.mk 2 18,GNode.mk 21 0] 5]=Te 2 (mc (Iu 2 18))from rfl,show Te 2 [Zp _ (-1) [] 5]=Te 2 (mc [])from rfl,xg RQ,oE,EX,i6];simp only[Jac,Yz (l:=[[-1000000000000,18,19]]) (by simp) (by simp),if_true];have hv:cn [⟨2,0,18⟩] [⟨2,0,18⟩]=some true:=by
  unfold cn;rw[if_neg (by simp),Mh (s':=1) rfl,Hd (b:=()) rfl];rfl
 have hh:ug ⟨-1,-1,-1,[⟨2,0,18⟩]⟩ ⟨-1,-1,-1,[⟨2,0,18⟩]⟩=some true:=by
  unfold ug;dsimp only;rw[if_pos rfl,if_pos rfl,if_pos rfl,hv];rfl
 rw[show Zh [⟨-1,-1,-1,[⟨2,0,18⟩]⟩] [⟨-1,-1,-1,[⟨2,0,18⟩]⟩]=some true by
  unfold Zh;rw[if_neg (by simp),Mh (s':=1) (by
   show(ug ⟨-1,-1,-1,[⟨2,0,18⟩]⟩ ⟨-1,-1,-1,[⟨2,0,18⟩]⟩).bind _=_;rw[hh];rfl),Hd (b:=()) rfl]
  rfl]
 rfl
end Go.Proofs.Dev
namespace Go.Tm
def iq(l:List Int) (k:Nat):Int:=l.getD k 0
def swp(l:List Int) (i j:Nat):List Int:=(l.set i (iq l j)).set j (iq l i)
def Hp(l:List Int) (n:Nat):Prop:=∀k,0<k->k<n->iq l ((k-1) / 2)<=iq l k
def y9(l:List Int) (j:Nat):Prop:=(∀k,0<k->k<l.length->k≠j->iq l ((k-1) / 2)<=iq l k)/\(∀k,0<j->0<k->k<l.length->(k-1) / 2=j->iq l ((j-1) / 2)<=iq l k)
def T2(l:List Int) (n i:Nat):Prop:=(∀k,0<k->k<n->(k-1) / 2≠i->iq l ((k-1) / 2)<=iq l k)/\(∀k,0<i->0<k->k<n->(k-1) / 2=i->iq l ((i-1) / 2)<=iq l k)
theorem wc{l:List Int}{k:Nat}(h:k<l.length):iq l k=l[k]:=by simp[iq,h]
theorem BB{l:List Int}{i j:Nat}:(swp l i j).length=l.length:=by simp[swp]
theorem im{l:List Int}{i j k:Nat}(hi:i<l.length) (hj:j<l.length):iq (swp l i j) k=if k=j then iq l i else if k=i then iq l j else iq l k:=by
 unfold swp;unfold iq;simp only[mae,Baf,List.length_set];by_cases h1:j=k
 .rw[if_pos h1,if_pos h1.symm,if_pos (by omega)];rfl
 .rw[if_neg h1,if_neg (show¬k=j from λh=>h1 h.symm)];by_cases h2:i=k
  .rw[if_pos h2,if_pos h2.symm,if_pos (by omega)];rfl
  .rw[if_neg h2,if_neg (show¬k=i from λh=>h2 h.symm)]
theorem ny{l:List Int}{i j:Nat}(hi:i<l.length) (hj:j<l.length):(swp l i j).Perm l:=by
 unfold swp;rw[wc hi,wc hj];exact List.set_set_perm hi hj
theorem fW{l:List Int}{j:Nat}(h:y9 l j) (hj:j=0\/iq l ((j-1) / 2)<=iq l j):Hp l l.length:=by
 intro k h0 h1;by_cases hk:k=j
 .subst hk;rcases hj with h2|h2
  .omega
  .exact h2
 .exact h.1 k h0 h1 hk
theorem up_go{l:List Int}{j:Nat}(h:y9 l j) (hj:0<j) (hl:j<l.length) (hlt:iq l j<iq l ((j-1) / 2)):y9 (swp l ((j-1) / 2) j) ((j-1) / 2):=by
 have hp:(j-1) / 2<l.length:=by omega
 refine⟨λk h0 h1 h2=>?_,λk h0 h1 h2 h3=>?_⟩
 .rw[BB]at h1;rw[im hp hl,im hp hl];by_cases hk:k=j
  .subst hk;rw[if_pos rfl,if_neg (by omega),if_pos rfl];omega
  .rw[if_neg hk,if_neg h2];by_cases h4:(k-1) / 2=j
   .rw[if_pos h4];exact h.2 k hj h0 h1 h4
   .rw[if_neg h4];by_cases h5:(k-1) / 2=(j-1) / 2
    .rw[if_pos h5];have:=h.1 k h0 h1 hk;rw[h5]at this;omega
    .rw[if_neg h5];exact h.1 k h0 h1 hk
 .rw[BB]at h2;rw[im hp hl,im hp hl];have e:iq l (((j-1) / 2-1) / 2)<=iq l ((j-1) / 2):=h.1 _ h0 hp (by omega);rw[if_neg (by omega),if_neg (by omega)];by_cases hk:k=j
  .rw[if_pos hk];exact e
  .rw[if_neg hk,if_neg (by omega)];have:=h.1 k h1 h2 hk;rw[h3]at this;omega
theorem V7{l:List Int}{x:Int}(h:Hp l l.length):y9 (l++[x]) l.length:=by
 refine⟨λk h0 h1 h2=>?_,λk h0 h1 h2 h3=>?_⟩
 .have hk:k<l.length:=by simp at h1;omega
  have e:∀q,q<l.length->iq (l++[x]) q=iq l q:=λq hq=>by rw[wc (by simp;omega),wc hq,List.getElem_append_left hq]
  rw[e _ (by omega),e _ hk];exact h k h0 hk
 .simp at h2;omega
def Cm(l:List Int) (n i j:Nat):Prop:=0<j/\j<n/\(j-1) / 2=i/\∀k,0<k->k<n->(k-1) / 2=i->iq l j<=iq l k
theorem R9{l:List Int}{n i:Nat}(h1:2*i+1<n) (h:2*i+2<n->iq l (2*i+1)<=iq l (2*i+2)):Cm l n i (2*i+1):=by
 refine⟨by omega,h1,by omega,λk h0 h2 h3=>?_⟩;by_cases hk:k=2*i+1
 .rw[hk];exact Lag _
 .have:k=2*i+2:=by omega
  subst this;exact h h2
theorem cm_2{l:List Int}{n i:Nat}(h1:2*i+2<n) (h:iq l (2*i+2)<iq l (2*i+1)):Cm l n i (2*i+2):=by
 refine⟨by omega,h1,by omega,λk h0 h2 h3=>?_⟩;by_cases hk:k=2*i+1
 .rw[hk];omega
 .have:k=2*i+2:=by omega
  subst this;exact Lag _
theorem dQ{l:List Int}{n i:Nat}(h:T2 l n i) (hn:n<=2*i+1):Hp l n:=λk h0 h1=>h.1 k h0 h1 (by omega)
theorem bF{l:List Int}{n i j:Nat}(h:T2 l n i) (hc:Cm l n i j) (hle:iq l i<=iq l j):Hp l n:=by
 intro k h0 h1;by_cases hk:(k-1) / 2=i
 .have:=hc.2.2.2 k h0 h1 hk;rw[hk];omega
 .exact h.1 k h0 h1 hk
theorem fJ{l:List Int}{n i j:Nat}(h:T2 l n i) (hn:n<=l.length) (hc:Cm l n i j) (hlt:iq l j<iq l i):T2 (swp l i j) n j:=by
 obtain⟨c0,c1,c2,c3⟩:=hc;have hi:i<l.length:=by omega
 have hj:j<l.length:=by omega
 refine⟨λk h0 h1 h2=>?_,λk h0 h1 h2 h3=>?_⟩
 .rw[im hi hj,im hi hj,if_neg h2];by_cases hk:k=j
  .subst hk;rw[if_pos c2,if_pos rfl];omega
  .rw[if_neg hk];by_cases hki:k=i
   .subst hki;rw[if_neg (by omega),if_pos rfl];exact h.2 j h0 c0 c1 c2
   .rw[if_neg hki];by_cases hp:(k-1) / 2=i
    .rw[if_pos hp];exact c3 k h0 h1 hp
    .rw[if_neg hp];exact h.1 k h0 h1 hp
 .rw[im hi hj,im hi hj,if_neg (by omega),if_pos c2,if_neg (by omega),if_neg (by omega)];have:=h.1 k h1 h2 (by omega);rw[h3]at this;exact this
theorem pop_D{l:List Int}{n:Nat}(h:Hp l l.length) (hl:l.length=n+1):T2 (swp l 0 n) n 0:=by
 refine⟨λk h0 h1 h2=>?_,λk h0=>absurd h0 (by omega)⟩;rw[im (by omega) (by omega),im (by omega) (by omega),if_neg (by omega),if_neg h2,if_neg (by omega),if_neg (by omega)];exact h k h0 (by omega)
theorem l6{l:List Int}{n:Nat}(h:Hp l n):∀k,k<n->iq l 0<=iq l k:=by
 intro k
 induction k using faf with
 |ind k ih=>
  intro hk;by_cases h0:k=0
  .rw[h0];exact Lag _
  .have h1:=ih ((k-1) / 2) (by omega) (by omega);have h2:=h k (by omega) hk;omega
theorem FX{l:List Int}{n:Nat}(h:Hp l n) (hn:n<=l.length):Hp (l.take n) (l.take n).length:=by
 intro k h0 h1;rw[wae]at h1;have e:∀q,q<n->iq (l.take n) q=iq l q:=λq hq=>by
  rw[wc (by rw[wae];omega),wc (by omega),Aae]
 rw[e _ (by omega),e _ (by omega)];exact h k h0 (by omega)
end Go.Tm
namespace Go.Proofs.Dev
open Go Go.Tm
structure GOk (g:List (List Int)):Prop where
 len:g.length<=1048576
 inr:∀l∈g,∀e∈l,0<=e/\e<g.length
 nd:∀l∈g,l.Nodup
theorem rC:∀{n:Nat}{l:List Int},l.Nodup->(∀x∈l,0<=x/\x<(n:Int))->l.length<=n
 |0,l,_,h=>by
  cases l with
  |nil=>exact cad _
  |cons x l=>have:=h x (vaf ..);omega
 |n+1,l,hd,h=>by
  by_cases hm:(n:Int)∈l
  .have h1:=rC (n:=n) (l:=l.erase n) (hd.erase _) (λx hx=>by
    have h2:=h x (List.mem_of_mem_erase hx);have h3:x≠n:=((hd.mem_erase_iff).1 hx).1;omega)
   rw[List.length_erase_of_mem hm]at h1;omega
  .have:=rC (n:=n) (l:=l) hd (λx hx=>by
    have h2:=h x hx;have h3:x≠n:=λe=>hm (e▸hx);omega)
   omega
def fg(g:List (List Int)) (i d:Nat):List Int:=((aad i).filter λe=>(g.getD e []).contains (d:Int)).map λ(e:Nat)=>(e:Int)
def yq(g:List (List Int)) (i j d:Nat):List Int:=fg g i d++if((g.getD i []).take j).contains (d:Int)then [(i:Int)]else []
theorem ZP{g:List (List Int)}{d:Nat}:fg g 0 d=[]:=rfl
theorem aQ{g:List (List Int)}{i d:Nat}:yq g i 0 d=fg g i d:=by simp[yq]
theorem YP{g:List (List Int)}{i d:Nat}:fg g (i+1) d=yq g i (g.getD i []).length d:=by
 unfold fg yq fg;rw[Nae,Zad,Qad,dae];congr 1;simp only[Pae,taf];split<;>rfl
theorem mI{g:List (List Int)}{i j d:Nat}(hj:j<(g.getD i []).length) (hnd:(g.getD i []).Nodup):yq g i (j+1) d=if(g.getD i [])[j]=(d:Int)then yq g i j d++[(i:Int)]else yq g i j d:=by
 unfold yq;rw[yad,Lac hj,iae];by_cases h:(g.getD i [])[j]=(d:Int)
 .rw[if_pos h];have h1:((g.getD i []).take j++[(g.getD i [])[j]]).contains (d:Int)=true:=Zac.2 (wad.2 (.inr (by rw[h];exact Zaf _)));have h2:((g.getD i []).take j).contains (d:Int)=false:=by
   rw[←Oae,Zac];intro hm;obtain⟨k,hk,e⟩:=ead hm;rw[wae]at hk;rw[Aae,←h]at e;exact(Dae.1 hnd) k j (by omega) hj (by omega) e
  rw[if_pos h1,if_neg (by rw[h2];simp),List.append_nil]
 .rw[if_neg h];have h1:((g.getD i []).take j++[(g.getD i [])[j]]).contains (d:Int)=((g.getD i []).take j).contains (d:Int):=by
   rw[daf,Zac,Zac,wad,xad];exact⟨λhm=>hm.elim id λe=>(h e.symm).elim,.inl⟩
  rw[h1]
theorem ZE{g:List (List Int)}{i d:Nat}:(fg g i d).length<=i:=by
 unfold fg;rw[bae];exact Vad (Fad _ _) (by simp)
theorem SS{g:List (List Int)}{i j d:Nat}:(yq g i j d).length<=i+1:=by
 unfold yq;rw[tad];have:=ZE (g:=g) (i:=i) (d:=d);split<;>simp<;>omega
def BN(g:List (List Int)) (i:Nat):List Int:=((aad i).filter λe=>(g.getD e []).isEmpty).map λ(e:Nat)=>(e:Int)
theorem PL{g:List (List Int)}{i:Nat}:BN g (i+1)=if(g.getD i [])=[]then BN g i++[(i:Int)]else BN g i:=by
 unfold BN;rw[Nae,Zad,Qad];simp only[Pae,taf,List.isEmpty_iff];split<;>simp
theorem NY{g:List (List Int)}{i:Nat}:(BN g i).length<=i:=by
 unfold BN;rw[bae];exact Vad (Fad _ _) (by simp)
def HA(g:List (List Int)) (i:Nat):List Int:=(aad g.length).map λe=>if e<i then((g.getD e []).length:Int)else 0
theorem IQ{g:List (List Int)}:HA g 0=Nac g.length 0:=by
 unfold HA;apply lae<;>simp
theorem HQ{g:List (List Int)}{i:Nat}(hi:i<g.length):(HA g i).set i ((g.getD i []).length:Int)=HA g (i+1):=by
 unfold HA;apply lae
 .simp
 .intro k h1 h2;rw[aag];simp only[paf,Raf];split
  .rename_i h;subst h;rw[if_pos (by omega)]
  .by_cases hk:k<i
   .rw[if_pos hk,if_pos (by omega)]
   .rw[if_neg hk,if_neg (by omega)]
def ID(g:List (List Int)) (out:List Int) (e:Nat):Int:=(((g.getD e []).filter λd=>!out.contains d).length:Int)
def xL(g:List (List Int)) (out:List Int):List Int:=(aad g.length).map λe=>ID g out e
def eP(g:List (List Int)) (out:List Int):List Int:=((aad g.length).filter (QL g out)).map λ(d:Nat)=>(d:Int)
structure J2 (g:List (List Int)) (out l:List Int):Prop where
 nd:out.Nodup
 inr:∀x∈out,0<=x/\x<(g.length:Int)
 uS:∀d:Nat,(d:Int)∈out->∀e∈g.getD d [],e∈out
 perm:l.Perm (eP g out)
 ord:Ku g (g.length-out.length) out=gw g
theorem tE{g:List (List Int)}{out:List Int}{x:Int}:x∈eP g out↔∃d:Nat,x=d/\d<g.length/\(d:Int)∉out/\∀e∈g.getD d [],e∈out:=by
 unfold eP;rw[jae];constructor
 .rintro⟨d,hd,rfl⟩;rw[Uad,gae]at hd;obtain⟨h1,h2⟩:=hd;unfold QL at h2;simp only[Sac,Aaf,Kad,Zac]at h2;refine⟨d,rfl,h1,λhm=>?_,h2.2⟩;have:=Zac.2 hm;rw[h2.1]at this;cases this
 .rintro⟨d,rfl,h1,h2,h3⟩;refine⟨d,?_,rfl⟩;rw[Uad,gae];refine⟨h1,?_⟩;unfold QL;simp only[Sac,Aaf,Kad,Zac];refine⟨?_,h3⟩;rw[←Oae,Zac];exact h2
theorem YU{g:List (List Int)}{out:List Int}:(eP g out).Nodup:=by
 unfold eP;rw[Oaf,Eag];refine Aag (R:=λa b:Nat=>a<b) (λh=>by omega) ?_;exact Iaf _ eag
theorem j2_0{g:List (List Int)}{l:List Int}(h:l.Perm (BN g g.length)):J2 g [] l:=by
 refine⟨List.nodup_nil,λx h=>(Haf h).elim,λd h=>(Haf h).elim,?_,by rw[cae,gaf];rfl⟩;have:BN g g.length=eP g []:=by
  unfold BN eP;congr 1;refine Cag λd _=>?_;unfold QL;cases hq:g.getD d []<;>simp
 rw[←this];exact h
theorem B6{g:List (List Int)}:HA g g.length=xL g []:=by
 unfold HA xL;refine Bae λe he=>?_;rw[if_pos (gae.1 he)];unfold ID;congr 2;exact(List.filter_eq_self.2 λ_ _=>by simp).symm
theorem E6{g:List (List Int)}{out:List Int}(h:J2 g out []):gw g=if out.length<g.length then([],9)else(out,0):=by
 rw[←h.ord];have hl:out.length<=g.length:=rC h.nd h.inr;have he:eP g out=[]:=List.Perm.eq_nil (h.perm.symm);split
 .rename_i hlt;obtain⟨k,hk⟩:∃k,g.length-out.length=k+1:=⟨g.length-out.length-1,by omega⟩;rw[hk];unfold Ku;have hf:(aad g.length).find? (QL g out)=none:=by
   rw[List.find?_eq_none];intro d hd hr;have:(d:Int)∈eP g out:=by
    unfold eP;exact jae.2 ⟨d,Uad.2 ⟨hd,hr⟩,rfl⟩
   rw[he]at this;exact Haf this
  rw[hf]
 .rw[show g.length-out.length=0 by omega];rfl
def Rw(g:List (List Int)) (out:List Int) (d k:Nat):List Int:=(aad g.length).map λe=>ID g out e-if((fg g g.length d).take k).contains (e:Int)then 1 else 0
def SA(g:List (List Int)) (out:List Int) (d k:Nat):List Int:=((fg g g.length d).take k).filter λe=>ID g out e.toNat==1
theorem Ox{g:List (List Int)}{d:Nat}{x:Int}:x∈fg g g.length d↔∃e:Nat,x=e/\e<g.length/\(d:Int)∈g.getD e []:=by
 unfold fg;rw[jae];constructor
 .rintro⟨e,he,rfl⟩;rw[Uad,gae,Zac]at he;exact⟨e,rfl,he.1,he.2⟩
 .rintro⟨e,rfl,h1,h2⟩;exact⟨e,by rw[Uad,gae,Zac];exact⟨h1,h2⟩,rfl⟩
theorem vO{g:List (List Int)}{d:Nat}:(fg g g.length d).Nodup:=by
 unfold fg;rw[Oaf,Eag];refine Aag (R:=λa b:Nat=>a<b) (λh=>by omega) ?_;exact Iaf _ eag
theorem A6{g:List (List Int)}{out:List Int}{d:Nat}:Rw g out d 0=xL g out:=by
 unfold Rw xL;simp
theorem OV{l:List Int}(hnd:l.Nodup) {k:Nat}(hk:k<l.length):(l.take k).contains l[k]=false:=by
 rw[←Oae,Zac];intro hm;obtain⟨q,hq,e⟩:=ead hm;rw[wae]at hq;rw[Aae]at e;exact(Dae.1 hnd) q k (by omega) hk (by omega) e
theorem JT{g:List (List Int)}{out:List Int}{d k e:Nat}(hk:k<(fg g g.length d).length) (he:(fg g g.length d)[k]=(e:Int)) (hl:e<g.length):(Rw g out d k)[e]?=some (ID g out e):=by
 unfold Rw;rw[Oad,Xae hl,Option.map_some,←he,OV vO hk];simp
theorem yI{g:List (List Int)}{out:List Int}{d k e:Nat}(hk:k<(fg g g.length d).length) (he:(fg g g.length d)[k]=(e:Int)):(Rw g out d k).set e (ID g out e-1)=Rw g out d (k+1):=by
 unfold Rw;apply lae
 .simp
 .intro q h1 h2;rw[aag];simp only[paf,Raf];rw[yad,Lac hk,iae,he];split
  .rename_i h;subst h;rw[if_pos (Zac.2 (wad.2 (.inr (Zaf _))))]
  .rename_i h;have:((fg g g.length d).take k++[(e:Int)]).contains (q:Int)=((fg g g.length d).take k).contains (q:Int):=by
    rw[daf,Zac,Zac,wad,xad];exact⟨λhm=>hm.elim id λe=>absurd e (by omega),.inl⟩
   rw[this]
theorem B7{g:List (List Int)}{out:List Int}{d:Nat}:SA g out d 0=[]:=rfl
theorem DI{g:List (List Int)}{out:List Int}{d k e:Nat}(hk:k<(fg g g.length d).length) (he:(fg g g.length d)[k]=(e:Int)):SA g out d (k+1)=if ID g out e=1 then SA g out d k++[(e:Int)]else SA g out d k:=by
 unfold SA;rw[yad,Lac hk,iae,he,Zad];simp only[Pae,taf,Int.toNat_natCast,beq_iff_eq];split<;>simp
theorem iU{g:List (List Int)}{out:List Int}{d k:Nat}:(SA g out d k).length<=g.length:=by
 unfold SA;refine Vad (Fad _ _) ?_;rw[wae];exact Vad (Nat.min_le_right _ _) ZE
theorem Y5{g:List (List Int)}{e:Nat}(h:e<g.length):g.getD e []∈g:=by
 have:g[e]?=some (g.getD e []):=by simp[h]
 exact had this
theorem RE{g:List (List Int)}(hg:GOk g) {out:List Int}{d e:Nat}(he:e<g.length) (hd:(d:Int)∉out):ID g (out++[(d:Int)]) e=ID g out e-if(fg g g.length d).contains (e:Int)then 1 else 0:=by
 unfold ID;have hn:=hg.nd _ (Y5 he);have hc:(fg g g.length d).contains (e:Int)=(g.getD e []).contains (d:Int):=by
  rw[daf,Zac,Zac,Ox];constructor
  .rintro⟨e',h1,h2,h3⟩;have:e=e':=by omega
   subst this;exact h3
  .intro h;exact⟨e,rfl,he,h⟩
 rw[hc];generalize g.getD e []=l at hn
 induction l with
 |nil=>rfl
 |cons a l ih=>
  have hn':=Maf.1 hn;have ih:=ih hn'.2;by_cases ha:a=(d:Int)
  .subst ha;have h1:(!(out++[(d:Int)]).contains (d:Int))=false:=by simp
   have h2:(!out.contains (d:Int))=true:=by simpa using hd
   have h3:l.contains (d:Int)=false:=by rw[←Oae,Zac];exact hn'.1
   rw[h3]at ih;rw[Pae,Pae,h1,h2,if_neg (by simp),if_pos rfl,rad,if_pos (Zac.2 (vaf ..)),ih];simp
  .have h1:(!(out++[(d:Int)]).contains a)=(!out.contains a):=by
    congr 1;rw[daf,Zac,Zac,wad,xad];exact⟨λhm=>hm.elim id λe=>(ha e).elim,.inl⟩
   have h2:(a::l).contains (d:Int)=l.contains (d:Int):=by
    rw[daf,Zac,Zac,Wad];exact⟨λhm=>hm.elim (λe=>(ha e.symm).elim) id,.inr⟩
   rw[Pae,Pae,h1,h2];split
   .rw[rad,rad];omega
   .exact ih
theorem SK{g:List (List Int)}{out:List Int}{e:Nat}(h:∀q∈g.getD e [],q∈out):ID g out e=0:=by
 unfold ID;rw[zaf.2 (λq hq=>by simpa using h q hq)];rfl
theorem OP{g:List (List Int)}{out:List Int}{e:Nat}(h:ID g out e=0):∀q∈g.getD e [],q∈out:=by
 unfold ID at h;have h1:(g.getD e []).filter (λd=>!out.contains d)=[]:=gad (by omega);intro q hq;have:=zaf.1 h1 q hq;simpa using this
theorem F6{g:List (List Int)}(hg:GOk g) {x:Int}{l l' out:List Int}(h:J2 g out l) (hp:(x::l').Perm l) (hmin:∀y∈l',x<=y) :
 ∃d:Nat,x=d/\d<g.length/\Rw g out d (fg g g.length d).length=xL g (out++[x])/\out.length<g.length/\∀l'',l''.Perm (l'++SA g out d (fg g g.length d).length)->J2 g (out++[x]) l'':=by
 have hpr:=hp.trans h.perm;obtain⟨d,rfl,hdl,hdo,hde⟩:=tE.1 (hpr.mem_iff.1 (vaf ..));have hnd1:(out++[(d:Int)]).Nodup:=by
  rw[Dag];refine⟨h.nd,by simp,λa ha b hb=>?_⟩;rw[xad]at hb;intro e;exact hdo (hb▸e▸ha)
 have hin1:∀x∈out++[(d:Int)],0<=x/\x<(g.length:Int):=λx hx=>by
  rcases wad.1 hx with h1|h1
  .exact h.inr x h1
  .rw[xad]at h1;omega
 have hlen:out.length<g.length:=by
  have:=rC hnd1 hin1;simp at this;omega
 have hxl:(d:Int)∉l'/\l'.Nodup:=Maf.1 ((hpr.nodup_iff).2 YU);refine⟨d,rfl,hdl,?_,hlen,λl'' hl''=>⟨hnd1,hin1,?_,?_,?_⟩⟩
 .unfold Rw xL;refine Bae λe he=>?_;rw[dae,RE hg (gae.1 he) hdo]
 .intro q hq e he;rcases wad.1 hq with h1|h1
  .exact kaf _ (h.uS q h1 e he)
  .rw[xad]at h1;have:q=d:=by omega
   subst this;exact kaf _ (hde e he)
 .refine hl''.trans ?_;have hnw:(SA g out d (fg g g.length d).length).Nodup:=by
   unfold SA;rw[dae];exact Iaf _ vO
  have mnew:∀y,y∈SA g out d (fg g g.length d).length↔∃e:Nat,y=e/\e<g.length/\(d:Int)∈g.getD e []/\ID g out e=1:=by
   intro y;unfold SA;rw[dae,Uad,Ox];constructor
   .rintro⟨⟨e,rfl,h1,h2⟩,h3⟩;exact⟨e,rfl,h1,h2,by simpa using h3⟩
   .rintro⟨e,rfl,h1,h2,h3⟩;exact⟨⟨e,rfl,h1,h2⟩,by simpa using h3⟩
  have ml:∀y,y∈l'↔y∈eP g out/\y≠d:=by
   intro y;rw[←hpr.mem_iff,Wad];constructor
   .intro hy;exact⟨.inr hy,λe=>hxl.1 (e▸hy)⟩
   .rintro⟨h1,h2⟩;exact h1.elim (λe=>(h2 e).elim) id
  rw[List.perm_ext_iff_of_nodup ?_ YU]
  .intro y;rw[wad,ml,mnew,tE,tE];constructor
   .rintro(⟨⟨e,rfl,h1,h2,h3⟩,h4⟩|⟨e,rfl,h1,h2,h3⟩)
    .refine⟨e,rfl,h1,λhm=>?_,λq hq=>kaf _ (h3 q hq)⟩;rcases wad.1 hm with h5|h5
     .exact h2 h5
     .exact h4 (xad.1 h5)
    .refine⟨e,rfl,h1,λhm=>?_,?_⟩
     .rcases wad.1 hm with h5|h5
      .exact hdo (h.uS e h5 d h2)
      .rw[xad]at h5;have:e=d:=by omega
       subst this;exact hdo (hde _ h2)
     .refine OP ?_;rw[RE hg h1 hdo,if_pos (Zac.2 (Ox.2 ⟨e,rfl,h1,h2⟩)),h3];rfl
   .rintro⟨e,rfl,h1,h2,h3⟩;have h4:(e:Int)∉out:=λhm=>h2 (kaf _ hm);have h5:(e:Int)≠d:=λhm=>h2 (List.mem_append_right _ (xad.2 hm));by_cases h6:(d:Int)∈g.getD e []
    .refine .inr ⟨e,rfl,h1,h6,?_⟩;have:=SK h3;rw[RE hg h1 hdo,if_pos (Zac.2 (Ox.2 ⟨e,rfl,h1,h6⟩))]at this;omega
    .refine .inl ⟨⟨e,rfl,h1,h4,λq hq=>?_⟩,h5⟩;rcases wad.1 (h3 q hq)with h7|h7
     .exact h7
     .rw[xad]at h7;exact(h6 (h7▸hq)).elim
  .rw[Dag];refine⟨hxl.2,hnw,λa ha b hb e=>?_⟩;subst e;obtain⟨e,rfl,h1,h2,h3⟩:=(mnew a).1 hb;obtain⟨e',h4,h5,h6,h7⟩:=tE.1 ((ml _).1 ha).1;have:e=e':=by omega
   subst this;rw[SK h7]at h3;cases h3
 .rw[←h.ord];obtain⟨k,hk⟩:∃k,g.length-out.length=k+1:=⟨g.length-out.length-1,by omega⟩;rw[hk,tad,Gad,show g.length-(out.length+1)=k by omega];have hf:(aad g.length).find? (QL g out)=some d:=by
   have hr:∀e:Nat,e<g.length->(QL g out e=true↔(e:Int)∈eP g out):=by
    intro e he;unfold eP;rw[jae];constructor
    .intro h1;exact⟨e,Uad.2 ⟨gae.2 he,h1⟩,rfl⟩
    .rintro⟨e',h1,h2⟩;have:e'=e:=by omega
     subst this;exact(Uad.1 h1).2
   rw[List.find?_range_eq_some];refine⟨(hr d hdl).2 (hpr.mem_iff.1 (vaf ..)),by simpa using hdl,λe he=>?_⟩;rw[Aaf,←Oae,hr e (by omega)];intro hm;rcases Wad.1 (hpr.mem_iff.2 hm)with h1|h1
   .omega
   .have:=hmin _ h1;omega
  rw[Ku,hf]
noncomputable def ah(x7:List Int):((List Bool)×(List Int)×Int)->Option (Ex ((List Bool)×(List Int)×Int) ((List Bool)×(List Int)) Unit):=λ(s8,s9,s10)=>
 if s10<(x7.length:Int)then
  Kac (α:=((List Bool)×(List Int))) (
   (idx x7 s10).bind λx12=>
   (idx s8 x12).bind λx13=>
   if x13=false then
    (put s8 x12 true).bind λx15=>
    (app 8 s9 ([x12])).bind λx16=>
    some (x15,x16)
   else
   some (s8,s9)) λ(j17,j18)=>
  some (Ex.go (j17,j18,(ca .i64 (s10+1))))
 else
 some (Ex.brk (s8,s9))
noncomputable def sf(t0:(List (List Int))):((List Bool)×(List Int))->Option (Ex ((List Bool)×(List Int)) (List Bool) Unit):=λ(s2,s3)=>
 if 0<(s3.length:Int)then
  (idx s3 0).bind λx5=>
  (dE s3 1).bind λx6=>
  (idx t0 x5).bind λx7=>
  (da (ah x7) (s2,x6,0)).bind λy=>match y with
  |.inr _=>none
  |.inl (b22,b23)=>
  some (Ex.go (b22,b23))
 else
 some (Ex.brk s2)
noncomputable def bh(b26:List Bool):((List Int)×Int)->Option (Ex ((List Int)×Int) (List Int) Unit):=λ(s27,s28)=>
 if s28<(b26.length:Int)then
  Kac (α:=(List Int)) (
   (idx b26 s28).bind λx30=>
   if x30=true then
    (app 8 s27 ([s28])).bind λx32=>
    some x32
   else
   some s27) λj33=>
  some (Ex.go (j33,(ca .i64 (s28+1))))
 else
 some (Ex.brk s27)
noncomputable def Vq(t0:(List (List Int))) (t1:Int):Option (List Int):=
 (Ww 1 false (t0.length:Int) (t0.length:Int)).bind λx1=>
 (da (sf t0) (x1,[t1])).bind λy=>match y with
 |.inr _=>none
 |.inl b26=>
 (da (bh b26) (([]:List Int),0)).bind λy=>match y with
 |.inr _=>none
 |.inl b36=>
 some b36
def visit(p:List Bool×List Int) (e:Int):List Bool×List Int:=if p.1[e.toNat]?=some true then p else(p.1.set e.toNat true,p.2++[e])
def Sn(s:List Bool) (b:Int):Prop:=s[b.toNat]?=some true
instance (s:List Bool) (b:Int):Decidable (Sn s b):=by unfold Sn;infer_instance
def cF(s:List Bool):Nat:=s.count false
theorem bS:∀{s:List Bool}{i:Nat},s[i]?=some false->cF (s.set i true)+1=cF s
 |[],i,h=>by simp at h
 |b::s,0,h=>by simp at h;subst h;simp[cF]
 |b::s,i+1,h=>by
  have:=bS (s:=s) (i:=i) (by simpa using h);unfold cF at this⊢;simp only[List.set_cons_succ,List.count_cons];omega
theorem N9(s:List Bool):cF s<=s.length:=List.count_le_length
structure Ok (n:Nat) (p:List Bool×List Int):Prop where
 len:p.1.length=n
 q:∀x∈p.2,0<=x/\x<n
 m:p.2.length+cF p.1<=n+1
theorem pM{n:Nat}{p:List Bool×List Int}{e:Int}(h:Ok n p) (h0:0<=e) (h1:e<n) :
 Ok n (visit p e)/\(visit p e).2.length+cF (visit p e).1=p.2.length+cF p.1/\(∀b,0<=b->(Sn (visit p e).1 b↔Sn p.1 b\/b=e))/\(∀x,x∈(visit p e).2↔x∈p.2\/(x=e/\¬Sn p.1 e)):=by
 unfold visit;split
 .rename_i hs;refine⟨h,rfl,λb hb=>⟨.inl,λh=>?_⟩,λx=>⟨.inl,λh=>?_⟩⟩
  .rcases h with h|rfl
   .exact h
   .exact hs
  .rcases h with h|⟨rfl,h⟩
   .exact h
   .exact(h hs).elim
 .rename_i hs;have hlt:e.toNat<p.1.length:=by rw[h.len];omega
  have hf:p.1[e.toNat]?=some false:=by
   rw[Lac hlt]at hs⊢
   cases hb:p.1[e.toNat]with
   |true=>rw[hb]at hs;exact(hs rfl).elim
   |false=>rfl
  have hc:=bS hf;have hm:=h.m;refine⟨⟨by simp[h.len],λx hx=>?_,?_⟩,?_,λb hb=>?_,λx=>?_⟩
  .rcases wad.1 hx with hx|hx
   .exact h.q x hx
   .rw[xad]at hx;subst hx;exact⟨h0,h1⟩
  .simp only[tad,Gad];omega
  .simp only[tad,Gad];omega
  .unfold Sn;rw[Baf];by_cases hbe:e.toNat=b.toNat
   .rw[if_pos hbe,if_pos hlt];exact⟨λ_=>.inr (by omega),λ_=>rfl⟩
   .rw[if_neg hbe];exact⟨.inl,λh=>h.elim id λh=>(hbe (by rw[h])).elim⟩
  .rw[wad,xad];exact⟨λh=>h.imp id λh=>⟨h,hs⟩,λh=>h.imp id λh=>h.1⟩
theorem QI{n:Nat}:∀{l:List Int}{p:List Bool×List Int},Ok n p->(∀e∈l,0<=e/\e<n)->
 Ok n (l.foldl visit p)/\(l.foldl visit p).2.length+cF (l.foldl visit p).1=p.2.length+cF p.1/\(∀b,0<=b->(Sn (l.foldl visit p).1 b↔Sn p.1 b\/b∈l))/\(∀x,x∈(l.foldl visit p).2↔x∈p.2\/(x∈l/\¬Sn p.1 x))
 |[],p,h,_=>by simp[h]
 |e::l,p,h,hl=>by
  obtain⟨h0,h1⟩:=hl e (by simp);obtain⟨a1,a2,a3,a4⟩:=pM h h0 h1;obtain⟨b1,b2,b3,b4⟩:=QI a1 (λx hx=>hl x (by simp[hx])) (l:=l);simp only[tae];refine⟨b1,by omega,λb hb=>?_,λx=>?_⟩
  .rw[b3 b hb,a3 b hb,Wad];constructor
   .rintro((h|h)|h)
    .exact .inl h
    .exact .inr (.inl h)
    .exact .inr (.inr h)
   .rintro(h|h|h)
    .exact .inl (.inl h)
    .exact .inl (.inr h)
    .exact .inr h
  .rw[b4 x,a4 x,Wad];constructor
   .rintro((h|⟨rfl,h⟩)|⟨h,h'⟩)
    .exact .inl h
    .exact .inr ⟨.inl rfl,h⟩
    .exact .inr ⟨.inr h,λhs=>h' ((a3 x (hl x (by simp[h])).1).2 (.inl hs))⟩
   .rintro(h|⟨rfl|h,h'⟩)
    .exact .inl (.inl h)
    .exact .inl (.inr ⟨rfl,h'⟩)
    .by_cases hxe:x=e
     .subst hxe;exact .inl (.inr ⟨rfl,h'⟩)
     .exact .inr ⟨h,λhs=>((a3 x (hl x (by simp[h])).1).1 hs).elim h' hxe⟩
theorem tP{i:Int}(h0:0<=i) (h1:i<9223372036854775807):ca .i64 (i+1)=i+1:=ou ⟨by omega,by omega⟩
theorem E0{n:Nat}(hn:n<=1048576) {l:List Int}(hl:l.length<=1048576) (hle:∀e∈l,0<=e/\e<n):∀(k:Nat) {p:List Bool×List Int}{i:Nat},l.length-i=k->Ok n p->
 da (ah l) (p.1,p.2,(i:Int))=some (.inl ((l.drop i).foldl visit p))
 |0,p,i,hk,hp=>by
  rw[List.drop_eq_nil_of_le (by omega)];refine Hd ?_;unfold ah;simp only;rw[if_neg (by omega)];rfl
 |k+1,p,i,hk,hp=>by
  have hi:i<l.length:=by omega
  obtain⟨h0,h1⟩:=hle l[i] (Qac hi);have hlt:l[i].toNat<p.1.length:=by rw[hp.len];omega
  rw[List.drop_eq_getElem_cons hi,tae];have hstep:ah l (p.1,p.2,(i:Int))=some (.go ((visit p l[i]).1,(visit p l[i]).2,((i+1:Nat):Int))):=by
   unfold ah;simp only;rw[if_pos (by omega)];have e1:idx l (i:Int)=some l[i]:=by simp[idx,hi]
   have e2:idx p.1 l[i]=some p.1[l[i].toNat]:=by simp[idx,h0,hlt]
   have e3:ca .i64 ((i:Int)+1)=((i+1:Nat):Int):=by rw[tP (by omega) (by omega)];omega
   rw[e1,Jac,e2,Jac,e3];unfold visit;rw[Lac hlt]
   cases hb:p.1[l[i].toNat]with
   |true=>simp
   |false=>
    have e4:put p.1 l[i] true=some (p.1.set l[i].toNat true):=by simp[put,h0,hlt]
    have e5:app 8 p.2 [l[i]]=some (p.2++[l[i]]):=by
     have hm:=hp.m;unfold app;rw[if_pos];simp only[Gad];omega
    rw[if_pos rfl,e4,Jac,e5];simp
  rw[Mh hstep];exact E0 hn hl hle k (i:=i+1) (by omega) (pM hp h0 h1).1
def A3(g:List (List Int)) (a b:Int):Prop:=b=a\/ReachL g a b
structure Bfs (g:List (List Int)) (a:Int) (p:List Bool×List Int):Prop where
 ok:Ok g.length p
 sound:∀b,0<=b->Sn p.1 b->ReachL g a b
 qs:∀x∈p.2,A3 g a x
 done:∀b,0<=b->(b=a\/Sn p.1 b)->b∈p.2\/∀l,g[b.toNat]?=some l->∀c∈l,Sn p.1 c
theorem D9{g:List (List Int)}{a:Int}(hn:g.length<=1048576) (hg:∀l∈g,l.length<=1048576/\∀e∈l,0<=e/\e<g.length):∀(k:Nat) {p:List Bool×List Int},p.2.length+cF p.1=k->Bfs g a p->
 ∃s,da (sf g) p=some (.inl s)/\Bfs g a (s,[]):=by
 intro k
 induction k with
 |zero=>
  intro p hk hp;obtain⟨s,q⟩:=p;have:q=[]:=gad (by dsimp only at hk;omega);subst this;exact⟨s,Hd (by simp[sf]),hp⟩
 |succ k ih=>
  intro p hk hp;obtain⟨s,q⟩:=p
  cases q with
  |nil=>exact⟨s,Hd (by simp[sf]),hp⟩
  |cons d q=>
   obtain⟨d0,d1⟩:=hp.ok.q d (by simp);have hd:d.toNat<g.length:=by omega
   obtain⟨gl,ge⟩:=hg g[d.toNat] (Qac hd);have hok:Ok g.length (s,q):=⟨hp.ok.len,λx hx=>hp.ok.q x (by simp[hx]),by have:=hp.ok.m;simp only[rad]at this⊢;omega⟩;obtain⟨v1,v2,v3,v4⟩:=QI hok ge (l:=g[d.toNat]);have hstep:sf g (s,d::q)=some (.go (g[d.toNat].foldl visit (s,q))):=by
    unfold sf;simp only;rw[if_pos (by simp)];have e1:idx (d::q) 0=some d:=rfl;have e2:dE (d::q) 1=some q:=by simp[dE]
    have e3:idx g d=some g[d.toNat]:=by simp[idx,d0,hd]
    have e4:=E0 hn gl ge _ (p:=(s,q)) (i:=0) rfl hok;simp only[List.drop_zero,Iag]at e4;rw[e1,Jac,e2,Jac,e3,Jac,e4];rfl
   rw[Mh hstep];have hk2:q.length+cF s=k:=by simp only[rad]at hk;omega
   refine ih (by rw[v2];exact hk2) ⟨v1,λb hb hs=>?_,λx hx=>?_,λb hb hbs=>?_⟩
   .rcases(v3 b hb).1 hs with h|h
    .exact hp.sound b hb h
    .rcases hp.qs d (by simp)with rfl|hr
     .exact .one (Lac hd) h
     .exact .step hr (Lac hd) h
   .rcases(v4 x).1 hx with h|⟨h,-⟩
    .exact hp.qs x (by simp[h])
    .right;rcases hp.qs d (by simp)with rfl|hr
     .exact .one (Lac hd) h
     .exact .step hr (Lac hd) h
   .have up:∀c,0<=c->Sn s c->Sn (g[d.toNat].foldl visit (s,q)).1 c:=λc hc h=>(v3 c hc).2 (.inl h);by_cases hbd:b=d
    .subst hbd;right;intro l hl c hc;rw[Lac hd]at hl;injection hl with hl;subst hl;exact(v3 c (ge c hc).1).2 (.inr hc)
    .have key:(b=a\/Sn s b)\/(b∈g[d.toNat]/\¬Sn s b):=by
      rcases hbs with h|h
      .exact .inl (.inl h)
      .rcases(v3 b hb).1 h with h|h
       .exact .inl (.inr h)
       .by_cases hs:Sn s b
        .exact .inl (.inr hs)
        .exact .inr ⟨h,hs⟩
     rcases key with h|h
     .rcases hp.done b hb h with h|h
      .rcases Wad.1 h with h|h
       .exact(hbd h).elim
       .exact .inl ((v4 b).2 (.inl h))
      .right;intro l hl c hc;have hm:l∈g:=had hl;exact up c ((hg l hm).2 c hc).1 (h l hl c hc)
     .exact .inl ((v4 b).2 (.inr h))
theorem F0{s:List Bool}(hs:s.length<=1048576):∀(k:Nat) {i:Nat},s.length-i=k->i<=s.length->
 da (bh s) (((aad i).map λ(k:Nat)=>(k:Int)).filter (λb=>decide (Sn s b)),(i:Int))=some (.inl (((aad s.length).map λ(k:Nat)=>(k:Int)).filter λb=>decide (Sn s b)))
 |0,i,hk,hi=>by
  have:i=s.length:=by omega
  subst this;refine Hd ?_;unfold bh;simp
 |k+1,i,hk,hi=>by
  have hlt:i<s.length:=by omega
  have hlen:(((aad i).map λ(k:Nat)=>(k:Int)).filter (λb=>decide (Sn s b))).length<=i:=Vad (Fad _ _) (by simp);have hstep:bh s (((aad i).map λ(k:Nat)=>(k:Int)).filter (λb=>decide (Sn s b)),(i:Int))=some (.go (((aad (i+1)).map λ(k:Nat)=>(k:Int)).filter (λb=>decide (Sn s b)),((i+1:Nat):Int))):=by
   unfold bh;simp only;rw[if_pos (by omega)];have e1:idx s (i:Int)=some s[i]:=by simp[idx,hlt]
   have e3:ca .i64 ((i:Int)+1)=((i+1:Nat):Int):=by rw[tP (by omega) (by omega)];omega
   rw[e1,Jac,e3,Nae,Qad,Zad]
   cases hb:s[i]with
   |true=>
    have hsn:Sn s ((i:Nat):Int):=by unfold Sn;simp[hlt,hb]
    have e5:app 8 (((aad i).map λ(k:Nat)=>(k:Int)).filter (λb=>decide (Sn s b))) [(i:Int)]=some (((aad i).map λ(k:Nat)=>(k:Int)).filter (λb=>decide (Sn s b))++[(i:Int)]):=by
     unfold app;rw[if_pos];simp only[Gad];omega
    rw[if_pos rfl,e5];simp[hsn]
   |false=>
    have hsn:¬Sn s ((i:Nat):Int):=by unfold Sn;simp[hlt,hb]
    rw[if_neg (by simp)];simp[hsn]
  rw[Mh hstep];exact F0 hs k (i:=i+1) (by omega) (by omega)
theorem fR{t0:List (List Int)}{t1:Int}{r:List Int}(h:Pk t0 t1=some r):Vq t0 t1=some r:=by
 unfold Pk at h;split at h
 .rename_i hc;obtain⟨hn,hg,h0,h1⟩:=hc;obtain rfl:=nad h;unfold Vq;have e1:Ww 1 false (t0.length:Int) (t0.length:Int)=some (Nac t0.length false):=by
   unfold Ww;rw[if_pos ⟨by omega,by omega,by omega,by simp;omega⟩];simp
  have hb:Bfs t0 t1 (Nac t0.length false,[t1]):=by
   have hno:∀b,¬Sn (Nac t0.length false) b:=λb hb=>by
    unfold Sn at hb;rw[List.getElem?_replicate]at hb;split at hb<;>simp at hb
   refine⟨⟨by simp,λx hx=>?_,?_⟩,λb _ hs=>(hno b hs).elim,λx hx=>?_,λb _ hs=>?_⟩
   .rw[xad]at hx;subst hx;exact⟨h0,h1⟩
   .have:=N9 (Nac t0.length false);simp only[List.length_replicate,Gad]at this⊢;omega
   .rw[xad]at hx;exact .inl hx
   .rcases hs with rfl|hs
    .exact .inl (by simp)
    .exact(hno b hs).elim
  obtain⟨s,e2,hb⟩:=D9 hn hg _ rfl hb;have hlen:s.length=t0.length:=hb.ok.len;have e3:=F0 (s:=s) (by omega) _ (i:=0) rfl (by omega);simp only[Rag,Vae,taf,Iag]at e3;rw[e1,Jac,e2,Jac];simp only;rw[e3,Jac];simp only;rw[hlen];unfold oG;congr 1;apply Cag;intro b hbm;obtain⟨k,-,rfl⟩:=jae.1 hbm;have hfull:∀b,ReachL t0 t1 b->0<=b/\Sn s b:=by
   intro b hr
   induction hr with
   |one h hb2=>
    have hm:=had h;refine⟨((hg _ hm).2 _ hb2).1,?_⟩;rcases hb.done t1 h0 (.inl rfl)with h'|h'
    .cases h'
    .exact h' _ h _ hb2
   |step _ hl hc ih=>
    have hm:=had hl;refine⟨((hg _ hm).2 _ hc).1,?_⟩;rcases hb.done _ ih.1 (.inr ih.2)with h'|h'
    .cases h'
    .exact h' _ hl _ hc
  exact decide_eq_decide.2 ⟨λh=>hb.sound _ (by omega) h,λh=>(hfull _ h).2⟩
 .cases h
end Go.Proofs.Dev
