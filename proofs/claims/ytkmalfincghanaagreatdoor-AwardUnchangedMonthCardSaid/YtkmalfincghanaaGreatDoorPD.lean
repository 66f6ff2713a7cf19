/-
  The functions as plain partial functions, and plain lemmas about them: no condition.
-/
import Derived.Test.YtkmalfincghanaaGreatDoorPC
import Derived.Test.YtkmalfincghanaaGreatDoorPB
import Derived.Test.YtkmalfincghanaaGreatDoorPA
import Derived.KernelRfl
open Bool renaming and_eq_true→paa,eq_false_iff→Aac,eq_iff_iff→dac,false_eq_true→naa,false_or→lad,not_eq_true→Fac,not_eq_true'→Cad,or_assoc→oaf,or_eq_true→xab,or_false→xad,true_eq_false→yab
open ByteArray renaming mk→vaa
open Classical renaming not_not→saa
open Decidable renaming byContradiction→Zad,not_not→Sab
open Int renaming emod_nonneg→Yaf,eq_ofNat_of_zero_le→gac,le_refl→kad,lt_irrefl→aag,lt_or_gt_of_ne→Eae,lt_or_le→bag,mul_add→Zaf,mul_le_mul_of_nonneg_right→Had,natCast_zero→aad,reduceBEq→qaa,reduceEq→oaa,tmod→Lab,toNat_natCast→Rab
open List renaming all_eq_true→Raa,any_append→oae,any_cons→Dae,any_eq_false→Uaf,any_eq_true→Qae,any_nil→Nae,contains_iff_mem→xaa,drop_eq_getElem_cons→nab,eq_nil_of_length_eq_zero→Eaa,ext_getElem→xac,filter_append→uab,filter_congr→eae,filter_cons→Gab,filter_eq_nil_iff→fad,filter_nil→Vac,foldl_cons→aac,getElem?_append_left→Iaa,getElem?_append_right→rab,getElem?_cons_zero→Waa,getElem?_eq_getElem→iaa,getElem?_eq_none→Saa,getElem?_eq_some_iff→Caa,getElem?_set→fac,getElem?_take_of_lt→Eac,getElem_map→eac,getElem_mem→raa,getElem_of_mem→Faa,getElem_range→vac,getElem_reverse→Vaf,getElem_set→oad,getElem_take→zac,length_append→Haa,length_cons→Daa,length_eq_zero_iff→gae,length_filter_le→Maa,length_map→gab,length_nil→Hab,length_pos_iff→Waf,length_range→Dad,length_replicate→Kab,length_set→pae,length_singleton→Fab,length_take→Qaa,map_append→Cab,map_congr_left→nac,map_cons→eab,map_nil→Xac,mem_append→Jaa,mem_append_left→nad,mem_cons→fab,mem_cons_of_mem→Taf,mem_cons_self→had,mem_filter→tab,mem_flatMap→Xaf,mem_map→Tab,mem_of_getElem?→kab,mem_of_mem_take→hac,mem_range→Nab,mem_singleton→Paa,mem_singleton_self→iae,nodup_append→Lae,nodup_cons→wad,nodup_iff_pairwise_ne→Uad,not_mem_nil→Jad,pairwise_cons→jac,pairwise_iff_getElem→Cac,pairwise_lt_range→lae,pairwise_map→Jae,range→waa,range_succ→Oac,replicate→maa,replicate_succ→bac,set_append_right→Sac,set_cons_zero→iac,sum_cons→paf,take_add_one→Zaa,take_length→dab,take_of_length_le→kac
open List.Pairwise renaming filter→Kad,imp→Kae
open Nat renaming add_sub_cancel→Fae,eq_zero_or_pos→gad,le_refl→yaa,le_trans→Iab,strongRecOn→Mad,sub_self→cac,sub_zero→jad,zero_le→Bab
open Option renaming any_some→Dac,bind→jaa,bind_some→haa,getD_some→Qab,map_some→Vab,toList_some→zab
open Option.some renaming inj→Uaa,injEq→zaa
set_option linter.all false
set_option maxRecDepth 10000
set_option maxHeartbeats 1000000
namespace Go.Proofs.Dev
open Go Go.Tm
theorem PW{op:Int}{a b:GValue}(hop:op=13∨op=14∨op=15∨op=16):Ca op a b=some (decide
 ((op=13∧b.Kind=2∧(a.Kind=2∨a.Kind=3))∨(op=14∧b.Kind=4∧(a.Kind=3∨a.Kind=4))∨(op=15∧((b.Kind=2∧(a.Kind=2∨a.Kind=3))∨(a.Kind=3∧b.Kind=3)))∨(op=16∧a.Kind=3∧b.Kind=3))):=by
 rcases hop with rfl|rfl|rfl|rfl<;>simp only[Ca,oaa,if_true,if_false,haa,qaa,naa,false_and,true_and,false_or,or_false]
 ·by_cases g1:b.Kind=2<;>by_cases g2:a.Kind=2<;>by_cases g3:a.Kind=3<;>simp[g1,g2,g3]
 ·by_cases g1:b.Kind=4<;>by_cases g2:a.Kind=3<;>by_cases g3:a.Kind=4<;>simp[g1,g2,g3]
 ·by_cases g1:b.Kind=2
  ·by_cases g2:a.Kind=2<;>by_cases g3:a.Kind=3<;>simp[g1,g2,g3]
  ·by_cases g2:a.Kind=3<;>by_cases g3:b.Kind=3<;>simp[g1,g2,g3]
 ·by_cases g2:a.Kind=3<;>by_cases g3:b.Kind=3<;>simp[g2,g3]
theorem mJ{x y:Int}(hx:-1000000000000000≤x∧x≤1000000000000000) (hy:-1000000000000000≤y∧y≤1000000000000000):Zl x y=some (if(x*y).natAbs≤1000000000000000 then(x*y,0)else(0,3)):=by
 unfold Zl;rw[Iy (by omega) (by omega),Iy (by omega) (by omega),cI (by omega) (by omega),haa];dsimp only;have hn:x.natAbs*y.natAbs=(x*y).natAbs:=(Int.natAbs_mul x y).symm;have hb:(x*y).natAbs≤1000000000000000*1000000000000000:=by rw[←hn];exact Nat.mul_le_mul (by omega) (by omega)
 rw[hn];obtain⟨p,hp⟩:∃p,(x*y).natAbs=p:=⟨_,rfl⟩;rw[hp]at hb⊢;have hs:¬(x*y).natAbs=0→(¬(decide (x<0))=(decide (y<0))↔x*y<0):=by
  intro h0;have h1:x≠0:=by rintro rfl;simp at h0
  have h2:y≠0:=by rintro rfl;simp at h0
  rcases Eae h1 with a|a<;>rcases Eae h2 with b|b
  ·have:=Int.mul_pos_of_neg_of_neg a b;simp[a,b];omega
  ·have:=Int.mul_neg_of_neg_of_pos a b;simp[a];omega
  ·have:=Int.mul_neg_of_pos_of_neg a b;simp[b];omega
  ·have:=Int.mul_pos a b;simp;omega
 by_cases hle:p≤1000000000000000
 ·rw[if_pos hle];have h1:p / 18446744073709551616=0:=by omega
  have h2:p % 18446744073709551616=p:=by omega
  rw[h1,h2,if_pos (by rfl),haa,if_neg (by simp;omega),wid (n:=(p:Int)) (by omega) (by omega),wid (by omega) (by omega)];rw[hp]at hs;by_cases h0:p=0
  ·have:x*y=0:=by omega
   rw[this,h0];simp
  ·by_cases hc:¬(decide (x<0))=(decide (y<0))
   ·rw[if_pos hc];have:=(hs h0).1 hc;congr 2;omega
   ·have h9:¬x*y<0:=fun h=>hc ((hs h0).2 h);rw[if_neg hc];congr 2;omega
 ·rw[if_neg hle];by_cases h0:((p / 18446744073709551616:Nat):Int)=0
  ·rw[if_pos h0,haa,if_pos (by simp;omega)]
  ·rw[if_neg h0,haa,if_pos rfl]
end Go.Proofs.Dev
namespace Go.Proofs.Dev
open Go Go.Tm
theorem jv{op N:Int}{a b:GValue}{env:GEnv}(hop:op=13∨op=14∨op=15∨op=16) (ha:Hb a) (hb:Hb b):lp (Nf ⟨op,N⟩ [a,b] env):=by
 have h1:=ha.range;have h2:=hb.range;have hal:ja ⟨op,N⟩ [a,b] env=_:=(qD (by omega)).trans (PW hop);have hcm:wa ⟨op,N⟩ [a,b] env=Me ⟨op,N⟩ a b:=by
  rw[uw (by omega)];rcases hop with rfl|rfl|rfl|rfl<;>simp only[zb,oaa,qaa,if_true,if_false,naa,haa,Cz]
 rcases hop with rfl|rfl|rfl|rfl
 ·simp only[oaa,true_and,false_and,or_false]at hal;have hq:Me ⟨13,N⟩ a b=some (⟨a.Kind,0,(if(a.N*b.N).natAbs≤1000000000000000 then(a.N*b.N,(0:Int))else(0,3)).1⟩,(if(a.N*b.N).natAbs≤1000000000000000 then(a.N*b.N,(0:Int))else(0,3)).2):=by
   simp only[Me,if_true,mJ (x:=a.N) (y:=b.N) (by omega) (by omega),haa]
  exact lp.ite hal fun _=>hcm.trans hq
 ·simp only[oaa,true_and,false_and,or_false,false_or]at hal;by_cases hc:b.Kind=4∧(a.Kind=3∨a.Kind=4)
  ·rw[decide_eq_true hc]at hal;rcases hc with⟨c1,c2|c2⟩
   ·refine wh (v:=⟨a.Kind,0,(T0 a.N b.N 1000000 N).1⟩) (e:=(T0 a.N b.N 1000000 N).2) hal (hcm.trans ?_);simp only[Me,oaa,if_true,if_false,c2,beq_self_eq_true,haa,yD]
   ·refine wh (v:=⟨a.Kind,0,(HR a.N b.N N).1⟩) (e:=(HR a.N b.N N).2) hal (hcm.trans ?_);simp only[Me,oaa,if_true,if_false,c2,qaa,naa,haa,ZF]
  ·rw[decide_eq_false hc]at hal;exact Qm hal
 ·simp only[oaa,true_and,false_and,or_false,false_or]at hal;by_cases hc:(b.Kind=2∧(a.Kind=2∨a.Kind=3))∨(a.Kind=3∧b.Kind=3)
  ·rw[decide_eq_true hc]at hal;rcases hc with⟨c1,c2⟩|⟨c1,c2⟩
   ·refine wh (v:=⟨a.Kind,0,(vQ a.N b.N N).1⟩) (e:=(vQ a.N b.N N).2) hal (hcm.trans ?_);simp only[Me,oaa,if_true,if_false,c1,naa,haa,mi]
   ·refine wh (v:=⟨4,0,(w8 a.N b.N N).1⟩) (e:=(w8 a.N b.N N).2) hal (hcm.trans ?_);simp only[Me,oaa,if_true,if_false,c2,naa,haa,Dw]
  ·rw[decide_eq_false hc]at hal;exact Qm hal
 ·simp only[oaa,true_and,false_and,or_false,false_or]at hal;refine lp.ite (v:=⟨a.Kind,0,(F8 a.N b.N N).1⟩) (e:=(F8 a.N b.N N).2) hal fun hc=>hcm.trans ?_;simp only[Me,oaa,if_true,if_false,naa,haa,Ux]
theorem KK{op:Int}(hop:36≤op∧op≤39) (t:GType):Zc op t=some (decide (t.Enum=0∧((op=36∧(t.Kind=2∨t.Kind=3))∨(op=39∧2≤t.Kind∧t.Kind≤5)∨(op≠36∧op≠39∧t.Kind=1)))):=by
 unfold Zc;simp only[vI,Jg];by_cases hE:t.Enum=0
 case neg=>simp[hE]
 have hk:(2≤t.Kind∧t.Kind≤5)↔((2≤t.Kind∧t.Kind≤4)∨t.Kind=5):=by omega
 have:op=36∨op=37∨op=38∨op=39:=by omega
 rcases this with rfl|rfl|rfl|rfl
 ·simp only[hE,not_true,if_false,if_true,oaa,true_and,false_and,or_false,ne_eq,not_true];by_cases g1:t.Kind=2<;>by_cases g2:t.Kind=3<;>simp[g1,g2]
 ·by_cases g1:t.Kind=1<;>simp[hE,g1]
 ·by_cases g1:t.Kind=1<;>simp[hE,g1]
 ·simp only[hE,not_true,if_false,if_true,oaa,true_and,false_and,or_false,false_or,ne_eq,not_true,not_false_eq_true,and_false];simp only[hk];by_cases g1:2≤t.Kind∧t.Kind≤4<;>by_cases g2:t.Kind=5<;>simp[g1,g2]
theorem jN{l:List GValue}(hl:l.length≤1048576):Pg l=some (l.all iu):=by
 have e1:ia (Ve l) 0=some (ui () (ff (fun i=>if(l[i]?.any fun v=>!iu v)=true then some false else none) l.length)):=
  Uh (fun i=>(i:Int)) _ l.length () (fun i hi _=>by
   unfold Ve;rw[if_pos (by omega),Na hi,iaa hi];simp only[haa,Dac,vc];rw[La (by omega)];by_cases hb:iu l[i]=true<;>simp[jw,hb]) (fun _=>by unfold Ve;simp)
 unfold Pg;rw[e1];by_cases h:l.all iu=true
 ·have hn:∀i,i<l.length→(l[i]?.any fun v=>!iu v)=false:=by
   intro i hi;rw[iaa hi];have:=Raa.1 h _ (raa hi);simp[this]
  rw[pb.2 (fun i hi=>by rw[hn i hi];rfl),h];rfl
 ·have hb:l.all iu=false:=by simpa using h
  obtain⟨x,hx,hx2⟩:∃x∈l,iu x=false:=by
   rw[List.all_eq_false]at hb;obtain⟨x,hx,h2⟩:=hb;exact⟨x,hx,by simpa using h2⟩
  obtain⟨k,hk,rfl⟩:=Faa hx;have ne:ff (fun i=>if(l[i]?.any fun v=>!iu v)=true then some false else none) l.length=some false:=by
   cases hf:ff (fun i=>if(l[i]?.any fun v=>!iu v)=true then some false else none) l.length with
   |none=>
    have:=pb.1 hf k hk;rw[iaa hk]at this;simp[hx2]at this
   |some w=>
    obtain⟨i,_,h2,_⟩:=Mb.1 hf;split at h2
    ·exact h2▸rfl
    ·cases h2
  rw[ne,hb];rfl
theorem nI{σ β ρ:Type}{s:σ→Option (Ex σ β ρ)}(I:σ→Prop) (mu:σ→Nat) (QB:β→Prop) (QR:ρ→Prop)
 (h:∀x,I x→(∃x',s x=some (.go x')∧I x'∧mu x'<mu x)∨(∃b,s x=some (.brk b)∧QB b)∨∃b,s x=some (.ret b)∧QR b)
 {x:σ} (hi:I x):(∃b,ia s x=some (.inl b)∧QB b)∨∃b,ia s x=some (.inr b)∧QR b:=by
 have:=jQ (s1:=s) (s2:=s) (fun x y=>x=y∧I x) mu (fun b c=>b=c∧QB b) (fun b c=>b=c∧QR b) (by
  rintro x _ ⟨rfl,hi⟩;rcases h x hi with⟨a,b,c,d⟩|⟨b,c,d⟩|⟨b,c,d⟩
  ·exact .inl ⟨a,a,b,b,⟨rfl,c⟩,d⟩
  ·exact .inr (.inl ⟨b,b,c,c,rfl,d⟩)
  ·exact .inr (.inr ⟨b,b,c,c,rfl,d⟩)) (mu x) x x (yaa _) ⟨rfl,hi⟩
 rcases this with⟨b,_,c,_,_,d⟩|⟨b,_,c,_,_,d⟩
 ·exact .inl ⟨b,c,d⟩
 ·exact .inr ⟨b,c,d⟩
theorem Nt{op N:Int}{env:GEnv}(he:EnvOk env) (hop:36≤op∧op≤39) (hf:Jv ⟨op,N⟩ env=true):lp (Nf ⟨op,N⟩ [] env):=by
 have hf2:0≤N∧N<(env.MemberTypes.length:Int):=by
  unfold Jv at hf;dsimp only at hf;rw[if_neg (by omega),if_neg (by omega),if_neg (by omega),if_neg (by omega),if_pos hop,decide_eq_true_eq]at hf;exact hf
 have hi:idx env.MemberTypes N=some (env.MemberTypes[N.toNat]'(by omega)):=Tk hf2.1 hf2.2;generalize env.MemberTypes[N.toNat]'(by omega)=t at hi;have hal:ja ⟨op,N⟩ [] env=Zc op t:=by
  unfold ja;dsimp only;rw[if_neg (by omega),if_neg (by omega),if_neg (by omega),if_neg (by omega),DL,decide_eq_true hop,if_pos rfl,hi,haa];cases Zc op t<;>rfl
 have hcm:wa ⟨op,N⟩ [] env=Qf ⟨op,N⟩ env:=by
  unfold wa;dsimp only;have h5:(op==5)=false:=by simp;omega
  rw[if_neg (by omega),if_neg (by omega),if_neg (by omega),if_neg (by omega),h5,haa,if_neg (by simp),if_neg (by omega),if_neg (by omega),if_neg (by omega),if_neg (by omega),if_neg (by omega),DL,decide_eq_true hop,if_pos rfl,Cz]
 have hov:∃p,Qf ⟨op,N⟩ env=some p:=by
  unfold Qf;dsimp only;rw[hi,haa];obtain⟨j,hj⟩:∃j,(if op=37 then some (1:Int)else some 0)=some j:=by split<;>exact⟨_,rfl⟩
  obtain⟨b,hb⟩:∃b,(if op=39 then some ((env.Members.length:Int)==0)else some false)=some b:=by split<;>exact⟨_,rfl⟩
  rw[hj,haa,hb,haa]
  cases b with
  |true=>exact⟨_,rfl⟩
  |false=>
   rw[if_neg (by simp)];have hlp:=nI (s:=Jh ⟨op,N⟩ env t) (fun x=>0≤x.2.2.2∧x.2.2.2≤(env.Members.length:Int)) (fun x=>(env.Members.length-x.2.2.2).toNat) (fun _=>True) (fun _=>True) (by
    rintro⟨x1,x2,x3,x4⟩ ⟨g1,g2⟩;dsimp only at g1 g2;unfold Jh;dsimp only;by_cases hlt:x4<(env.Members.length:Int)
    case neg=>rw[if_neg hlt];exact .inr (.inl ⟨_,rfl,trivial⟩)
    rw[if_pos hlt,Tk g1 hlt];simp only[haa];generalize env.Members[x4.toNat]'(by omega)=l;by_cases hN:(l.length:Int)≤N
    ·rw[if_neg (by omega)];simp only[haa,if_true];exact .inr (.inr ⟨_,rfl,trivial⟩)
    rw[if_pos hN,Tk hf2.1 (by omega)];simp only[haa,Zs,vc];generalize l[N.toNat]'(by omega)=v;have hgo:∀y1 y2 y3:Int,∃x',(some (Ex.go (y1,y2,y3,ca .i64 (x4+1))):Option (Ex (Int×Int×Int×Int) (Int×Int×Int) (GValue×Int)))=some (.go x')∧(0≤x'.2.2.2∧x'.2.2.2≤(env.Members.length:Int))∧(env.Members.length-x'.2.2.2).toNat<(env.Members.length-x4).toNat:=by
     intro y1 y2 y3;have:=he.mem;rw[wid (by omega) (by omega)];exact⟨_,rfl,⟨by dsimp only;omega,by dsimp only;omega⟩,by dsimp only;omega⟩
    by_cases hv0:v.Kind=0
    ·simp only[hv0,qaa,if_true,haa];exact .inr (.inr ⟨_,rfl,trivial⟩)
    have hv1:(v.Kind==0)=false:=by simp[hv0]
    simp only[hv1,naa,if_false];by_cases hh:(iu v&&(decide (v.Kind=t.Kind)&&decide (v.Enum=t.Enum)))=true
    case neg=>
     rw[Aac.2 hh];simp only[haa,if_true];exact .inr (.inr ⟨_,rfl,trivial⟩)
    rw[hh];simp only[yab,if_false];by_cases o1:op=36
    ·simp only[o1,if_true];cases iu ⟨x1,x2,ca .i64 (x3+v.N)⟩
     ·exact .inr (.inr ⟨_,rfl,trivial⟩)
     ·exact .inl (hgo _ _ _)
    simp only[o1,if_false];by_cases o2:op=37
    ·simp only[o2,if_true];exact .inl (hgo _ _ _)
    simp only[o2,if_false];by_cases o3:op=38
    ·simp only[o3,if_true];exact .inl (hgo _ _ _)
    have o4:op=39:=by omega
    simp only[o3,o4,if_false,if_true];obtain⟨b,hb⟩:∃b,(if¬x4=0 then some (decide (x3<v.N))else some true)=some b:=by split<;>exact⟨_,rfl⟩
    rw[hb,haa];cases b
    ·exact .inl (hgo _ _ _)
    ·exact .inl (hgo _ _ _)) (x:=(t.Kind,t.Enum,j,0)) ⟨by dsimp only;omega,by dsimp only;omega⟩
   rcases hlp with⟨⟨b1,b2,b3⟩,h1,-⟩|⟨⟨b1,b2⟩,h1,-⟩
   ·rw[h1];exact⟨_,rfl⟩
   ·rw[h1];exact⟨_,rfl⟩
 obtain⟨⟨v,e⟩,hp⟩:=hov;rw[KK hop]at hal;exact lp.ite hal fun _=>hcm.trans hp
theorem bE{n:GNode}{args:List GValue}{env:GEnv}(ha:args.length≤3) (h:1≤n.Op∧n.Op≤39→Dd n.Op=args.length→zZ n=true→Jv n env=true→(∀a∈args,Hb a)→lp (Nf n args env)):lp (Ki n args env):=by
 unfold Ki;rw[JB,Ak,ru,jN (l:=args) (by omega)];simp only[haa];have err:∀{c:Int},c≠0→lp (some (⟨0,0,0⟩,c)):=fun h=>⟨_,rfl,fun h2=>absurd h2 h⟩;by_cases h1:1≤n.Op∧n.Op≤39
 case neg=>rw[decide_eq_false h1];exact err (by decide)
 rw[decide_eq_true h1];simp only[Bool.true_and];by_cases h2:zZ n=true
 case neg=>rw[Aac.2 h2];exact err (by decide)
 rw[h2];simp only[if_true];by_cases h3:Dd n.Op=args.length
 case neg=>
  have:((args.length:Int) !=Dd n.Op)=true:=by simp;omega
  rw[this];exact err (by decide)
 have:((args.length:Int) !=Dd n.Op)=false:=by simp[h3]
 rw[this];simp only[haa,naa,if_false];by_cases h4:Jv n env=true
 case neg=>rw[Aac.2 h4];exact err (by decide)
 rw[h4];simp only[yab,if_false];by_cases h5:args.all iu=true
 case neg=>rw[Aac.2 h5];exact err (by decide)
 rw[h5];simp only[if_true];have hp:∀a∈args,Hb a:=fun a ha=>of_decide_eq_true (Raa.1 h5 a ha);have hc:=h h1 h3 h2 h4 hp;have e1:(jaa (α:=Bool) ((ja n args env).bind fun x10=>some (!x10)) fun j11=>if j11=true then some ((⟨0,0,0⟩:GValue),(8:Int))else(wa n args env).bind fun x13=>if¬x13.2=0 then some (⟨0,0,0⟩,x13.2)else(sb x13.1).bind fun x15=>if x15=false then some (⟨0,0,0⟩,3)else some (x13.1,0))=Nf n args env:=by
  unfold Nf
  cases ja n args env with
  |none=>rfl
  |some b=>
   simp only[haa,vc];cases b<;>rfl
 rw[e1];exact hc
theorem VT{n:GNode}{args:List GValue}{env:GEnv}(he:EnvOk env) (hN:Kc n) (hl:args.length≤3):lp (Ki n args env):=by
 refine bE hl fun h1 h2 h3 h4 h5=>?_;obtain⟨op,N⟩:=n;dsimp only at h1 h2;have two:(11≤op∧op≤24)∨(27≤op∧op≤30)→∃a b,args=[a,b]:=by
  intro h;have:args.length=2:=by unfold Dd at h2;split at h2<;>(try split at h2)<;>(try split at h2)<;>(try split at h2)<;>omega
  match args,this with
  |[a,b],_=>exact⟨a,b,rfl⟩
 have one:op=10∨op=25∨(31≤op∧op≤34)→∃a,args=[a]:=by
  intro h;have:args.length=1:=by unfold Dd at h2;split at h2<;>(try split at h2)<;>(try split at h2)<;>(try split at h2)<;>omega
  match args,this with
  |[a],_=>exact⟨a,rfl⟩
 have zero:op≤9∨35≤op→args=[]:=by
  intro h;have:args.length=0:=by unfold Dd at h2;split at h2<;>(try split at h2)<;>(try split at h2)<;>(try split at h2)<;>omega
  exact gae.1 this
 rcases GA h1 with h|h|h|h|h|h|h|h|h|h|h|h|h|h|h|h|h|h|h|h|h|h|h|h|h|h|h|h|h|h|h|h|h|h|h|h|h|h|h<;>subst h
 ·rw[zero (by omega)];exact Hq (by omega)
 ·rw[zero (by omega)];exact Hq (by omega)
 ·rw[zero (by omega)];exact Hq (by omega)
 ·rw[zero (by omega)];exact Hq (by omega)
 ·rw[zero (by omega)];exact Hq (by omega)
 ·rw[zero (by omega)];exact OQ
 ·rw[zero (by omega)];exact AT h4
 ·rw[zero (by omega)];exact kR h4
 ·rw[zero (by omega)];exact xT
 ·obtain⟨a,rfl⟩:=one (by omega);exact MM (h5 a (by simp))
 ·obtain⟨a,b,rfl⟩:=two (by omega);exact PF (by omega) (h5 a (by simp)) (h5 b (by simp))
 ·obtain⟨a,b,rfl⟩:=two (by omega);exact PF (by omega) (h5 a (by simp)) (h5 b (by simp))
 ·obtain⟨a,b,rfl⟩:=two (by omega);exact jv (by omega) (h5 a (by simp)) (h5 b (by simp))
 ·obtain⟨a,b,rfl⟩:=two (by omega);exact jv (by omega) (h5 a (by simp)) (h5 b (by simp))
 ·obtain⟨a,b,rfl⟩:=two (by omega);exact jv (by omega) (h5 a (by simp)) (h5 b (by simp))
 ·obtain⟨a,b,rfl⟩:=two (by omega);exact jv (by omega) (h5 a (by simp)) (h5 b (by simp))
 ·obtain⟨a,b,rfl⟩:=two (by omega);exact KD (by omega) (h5 a (by simp)) (h5 b (by simp))
 ·obtain⟨a,b,rfl⟩:=two (by omega);exact KD (by omega) (h5 a (by simp)) (h5 b (by simp))
 ·obtain⟨a,b,rfl⟩:=two (by omega);exact ZE (by omega)
 ·obtain⟨a,b,rfl⟩:=two (by omega);exact ZE (by omega)
 ·obtain⟨a,b,rfl⟩:=two (by omega);exact MF (by omega)
 ·obtain⟨a,b,rfl⟩:=two (by omega);exact MF (by omega)
 ·obtain⟨a,b,rfl⟩:=two (by omega);exact ID (by omega) (h5 a (by simp)) (h5 b (by simp))
 ·obtain⟨a,b,rfl⟩:=two (by omega);exact ID (by omega) (h5 a (by simp)) (h5 b (by simp))
 ·obtain⟨a,rfl⟩:=one (by omega);exact GN (h5 a (by simp))
 ·have:args.length=3:=by
   have:Dd 26=3:=by decide
   omega
  match args,this with
  |[a,b,c],_=>exact aM (h5 a (by simp)) (h5 b (by simp)) (h5 c (by simp))
 ·obtain⟨a,b,rfl⟩:=two (by omega);exact HO (h5 a (by simp)) (h5 b (by simp))
 ·obtain⟨a,b,rfl⟩:=two (by omega);exact yO (h5 a (by simp))
 ·obtain⟨a,b,rfl⟩:=two (by omega);exact DE (by omega) (h5 a (by simp)) (h5 b (by simp))
 ·obtain⟨a,b,rfl⟩:=two (by omega);exact DE (by omega) (h5 a (by simp)) (h5 b (by simp))
 ·obtain⟨a,rfl⟩:=one (by omega);exact Xy (by omega) (h5 a (by simp))
 ·obtain⟨a,rfl⟩:=one (by omega);exact Xy (by omega) (h5 a (by simp))
 ·obtain⟨a,rfl⟩:=one (by omega);exact ZO he h4 (h5 a (by simp))
 ·obtain⟨a,rfl⟩:=one (by omega);exact YO he hN h3 h4 (h5 a (by simp))
 ·rw[zero (by omega)];exact QM
 ·rw[zero (by omega)]at h5⊢;exact Nt he (by omega) h4
 ·rw[zero (by omega)]at h5⊢;exact Nt he (by omega) h4
 ·rw[zero (by omega)]at h5⊢;exact Nt he (by omega) h4
 ·rw[zero (by omega)]at h5⊢;exact Nt he (by omega) h4
end Go.Proofs.Dev
namespace Go.Proofs.Dev
open Go Go.Tm
structure SkInv (i:Nat) (st sk:List Int):Prop where
 len:st.length=i
 pos:0<i→sk≠[]
 zero:i=0→sk=[]
 last:∀k,k+1=sk.length→st[i-1]?=sk[k]?
 chain:∀j,j+1<sk.length→∃a b:Nat,sk[j]?=some (a:Int)∧sk[j+1]?=some (b:Int)∧a<b∧st[b-1]?=some (a:Int)
 bound:∀j,j<sk.length→∃a:Nat,sk[j]?=some (a:Int)∧a<i
theorem XF{e:List GNode}(h:Wst e):∀i,i≤e.length→SkInv i (Dh e i).1 (Dh e i).2
 |0,_=>by
  refine⟨rfl,by omega,fun _=>rfl,?_,?_,?_⟩
  ·intro k hk;simp[Dh]at hk
  ·intro j hj;simp[Dh]at hj
  ·intro j hj;simp[Dh]at hj
 |i+1,hi=>by
  have ih:=XF h i (by omega);obtain⟨a1,a2,a3⟩:=h.ar (i:=i) (by omega);have hst:Dh e (i+1)=((Dh e i).1++[if 0<ti e i then((Dh e i).2[(Dh e i).2.length-ti e i]?).getD 0 else(i:Int)],(Dh e i).2.take ((Dh e i).2.length-ti e i)++[if 0<ti e i then((Dh e i).2[(Dh e i).2.length-ti e i]?).getD 0 else(i:Int)]):=rfl;rw[hst];generalize (Dh e i).1=st at ih⊢;generalize (Dh e i).2=sk at ih a2⊢;generalize ti e i=a at a2⊢;obtain⟨f,hf,hfi,hfl⟩:∃f:Nat,(if 0<a then(sk[sk.length-a]?).getD 0 else(i:Int))=(f:Int)∧f≤i∧(∀j,j+1=sk.length-a→∃b:Nat,sk[j]?=some (b:Int)∧b<f∧st[f-1]?=some (b:Int)):=by
   by_cases ha:0<a
   ·obtain⟨f,h1,h2⟩:=ih.bound (sk.length-a) (by omega);refine⟨f,by rw[if_pos ha,h1];rfl,by omega,fun j hj=>?_⟩;obtain⟨x,y,k1,k2,k3,k4⟩:=ih.chain j (by omega);rw[show j+1=sk.length-a from hj,h1]at k2;injection k2 with k2;have:f=y:=by omega
    subst this;exact⟨x,k1,k3,k4⟩
   ·refine⟨i,by rw[if_neg ha],by omega,fun j hj=>?_⟩;obtain⟨x,k1,k2⟩:=ih.bound j (by omega);refine⟨x,k1,k2,?_⟩;rw[←k1];exact ih.last j (by omega)
  rw[hf];have hlen:(sk.take (sk.length-a)).length=sk.length-a:=by simp
  refine⟨by simp[ih.len],fun _=>by simp,fun h=>by omega,?_,?_,?_⟩
  ·intro k hk;simp only[Haa,hlen,Fab]at hk;rw[Fae,rab (by rw[ih.len];omega),ih.len,cac,rab (by omega),hlen,show k-(sk.length-a)=0 by omega]
  ·intro j hj;simp only[Haa,hlen,Fab]at hj;by_cases hj2:j+1<sk.length-a
   ·obtain⟨x,y,k1,k2,k3,k4⟩:=ih.chain j (by omega);obtain⟨y',q1,q2⟩:=ih.bound (j+1) (by omega);rw[k2]at q1;injection q1 with q1;refine⟨x,y,?_,?_,k3,?_⟩
    ·rw[Iaa (by omega),Eac (by omega)];exact k1
    ·rw[Iaa (by omega),Eac (by omega)];exact k2
    ·rw[Iaa (by rw[ih.len];omega)];exact k4
   ·obtain⟨x,k1,k2,k3⟩:=hfl j (by omega);refine⟨x,f,?_,?_,k2,?_⟩
    ·rw[Iaa (by omega),Eac (by omega)];exact k1
    ·rw[rab (by omega),hlen,show j+1-(sk.length-a)=0 by omega];rfl
    ·rw[Iaa (by rw[ih.len];omega)];exact k3
  ·intro j hj;simp only[Haa,hlen,Fab]at hj;by_cases hj2:j<sk.length-a
   ·obtain⟨x,k1,k2⟩:=ih.bound j (by omega);refine⟨x,?_,by omega⟩;rw[Iaa (by omega),Eac (by omega)];exact k1
   ·refine⟨f,?_,by omega⟩;rw[rab (by omega),hlen,show j-(sk.length-a)=0 by omega];rfl
theorem HC{e:List GNode}:∀{n i k:Nat},i≤n→k<i→(Dh e n).1[k]?=(Dh e i).1[k]?
 |0,i,k,h,hk=>by omega
 |n+1,i,k,h,hk=>by
  by_cases hin:i=n+1
  ·subst hin;rfl
  ·have:(Dh e (n+1)).1=(Dh e n).1++[if 0<(Dd (Gf e n).Op).toNat then((Dh e n).2[(Dh e n).2.length-(Dd (Gf e n).Op).toNat]?).getD 0 else(n:Int)]:=rfl;rw[this,Iaa (by rw[Kv];omega)];exact HC (by omega) hk
def Wt(e:List GNode) (i j:Nat):Nat:=if j+1=ti e i then i-1 else(((Dh e i).2[(Dh e i).2.length-ti e i+j+1]?).getD 0).toNat-1
def AD(e:List GNode) (i:Nat):List Int:=(waa (ti e i)).map fun j=>(Wt e i j:Int)
theorem Hv{e:List GNode}(h:Wst e) {i:Nat}(hi:i<e.length) {j:Nat}(hj:j<ti e i):Wt e i j<i∧∃s:Nat,(Dh e e.length).1[Wt e i j]?=some (s:Int)∧(∀j',j'+1=j→Wt e i j'+1=s):=by
 have ih:=XF h i (by omega);obtain⟨a1,a2,a3⟩:=h.ar hi;have hi0:0<i:=by
  rcases gad i with h0|h0
  ·have:=ih.zero h0;rw[this]at a2;simp at a2;omega
  ·exact h0
 have hlt:Wt e i j<i∧∃s:Nat,(Dh e i).1[Wt e i j]?=some (s:Int)∧(Dh e i).2[(Dh e i).2.length-ti e i+j]?=some (s:Int):=by
  unfold Wt;generalize (Dh e i).1=st at ih⊢;generalize (Dh e i).2=sk at ih a2⊢;generalize ti e i=a at a2 hj⊢;by_cases hja:j+1=a
  ·rw[if_pos hja];obtain⟨x,k1,k2⟩:=ih.bound (sk.length-a+j) (by omega);exact⟨by omega,x,by rw[ih.last (sk.length-a+j) (by omega)];exact k1,k1⟩
  ·rw[if_neg hja];obtain⟨x,y,k1,k2,k3,k4⟩:=ih.chain (sk.length-a+j) (by omega);obtain⟨y',q1,q2⟩:=ih.bound (sk.length-a+j+1) (by omega);rw[k2]at q1;injection q1 with q1;rw[k2];simp only[Qab,Rab];exact⟨by omega,x,k4,k1⟩
 obtain⟨h1,s,h2,h3⟩:=hlt;refine⟨h1,s,by rw[HC (Nat.le_of_lt hi) h1];exact h2,fun j' hj'=>?_⟩;subst hj';obtain⟨x,y,k1,k2,k3,k4⟩:=ih.chain ((Dh e i).2.length-ti e i+j') (by omega);rw[show(Dh e i).2.length-ti e i+(j'+1)=(Dh e i).2.length-ti e i+j'+1 by omega,k2]at h3;injection h3 with h3;unfold Wt;rw[if_neg (by omega),k2];simp only[Qab,Rab];omega
theorem qF{e:List GNode}(h:Wst e):∀{n k s:Nat},n≤e.length→(Dh e n).1[k]?=some (s:Int)→s≤k
 |0,k,s,_,hs=>by simp[Dh]at hs
 |n+1,k,s,hn,hs=>by
  have hk:k<n+1:=by
   have:=(Caa.1 hs).1;rwa [Kv]at this
  by_cases hkn:k=n
  ·subst hkn;have ih:=XF h (k+1) hn;have hne:=ih.pos (by omega);obtain⟨q,hq⟩:∃q,q+1=(Dh e (k+1)).2.length:=⟨(Dh e (k+1)).2.length-1,by have:=Waf.2 hne;omega⟩;have h1:=ih.last q hq;rw[Fae,hs]at h1;obtain⟨x,k1,k2⟩:=ih.bound q (by omega);rw[k1]at h1;injection h1 with h1;omega
  ·rw[HC (i:=n) (by omega) (by omega)]at hs;exact qF h (by omega) hs
theorem pH{e:List GNode}(h:Wst e):tm e=((Dh e e.length).1,0,0):=by
 have:=h.pos;have:=h.le;have:=h.one;unfold tm;rw[if_neg (by omega),if_neg (by omega),pb.2 h.err];dsimp only;rw[if_neg (by omega)]
theorem ZP{e:List GNode}(h:Wst e) {i:Nat}(hi:i<e.length) {step:List Int×Int×Int→Option (Ex (List Int×Int×Int) (List Int) Unit)}
 (hs:∀a b c,step (a,b,c)=if 0≤c then(idx a c).bind fun _=>(put a c b).bind fun x9=>(idx (Dh e e.length).1 b).bind fun x10=>some (.go (x9,ca .i64 (x10-1),ca .i64 (c-1)))else some (.brk a)) :
 ia step (maa (ti e i) 0,(i:Int)-1,(ti e i:Int)-1)=some (.inl (AD e i)):=by
 have hle:=h.le;obtain⟨a1,a2,a3⟩:=h.ar hi;have ha3:ti e i≤12:=by have:=Kt (e:=e) (i:=i) fun j hj=>h.err j (by omega);omega
 refine wi (fun t=>(maa (ti e i-t) 0++(AD e i).drop (ti e i-t),(if t=0 then(i:Int)-1 else if t=ti e i then(((Dh e e.length).1[Wt e i 0]?).getD 0)-1 else(Wt e i (ti e i-t-1):Int)),(ti e i:Int)-1-t)) (ti e i) _ (fun t ht=>?_) ?_ ?_
 ·obtain⟨j,hj⟩:∃j,ti e i=t+j+1:=⟨ti e i-t-1,by omega⟩;obtain⟨o1,s,o2,o3⟩:=Hv h hi (j:=j) (by omega);rw[hs];have hlast:(if t=0 then(i:Int)-1 else if t=ti e i then(((Dh e e.length).1[Wt e i 0]?).getD 0)-1 else(Wt e i (ti e i-t-1):Int))=(Wt e i j:Int):=by
   by_cases t0:t=0
   ·rw[if_pos t0];unfold Wt;rw[if_pos (by omega)];omega
   ·rw[if_neg t0,if_neg (by omega),show ti e i-t-1=j by omega]
  rw[hlast,if_pos (by omega),show(ti e i:Int)-1-t=((j:Nat):Int) by omega];have hL:(AD e i).length=ti e i:=by simp[AD]
  rw[Na (i:=j) (by simp;omega),haa,Dv (by simp;omega),haa];rw[EP,o2,haa];have hset:(maa (ti e i-t) 0++(AD e i).drop (ti e i-t)).set j (Wt e i j:Int)=maa (ti e i-(t+1)) 0++(AD e i).drop (ti e i-(t+1)):=by
   rw[show ti e i-t=j+1 by omega,show ti e i-(t+1)=j by omega,List.replicate_succ',List.append_assoc,Sac _ _ (by simp),Kab,cac];congr 1;rw[nab (i:=j) (by omega)];simp[AD]
  have hlt:Wt e i j<(Dh e e.length).1.length:=by rw[Kv];omega
  have hs:(s:Int)-1=(if t+1=0 then(i:Int)-1 else if t+1=ti e i then(((Dh e e.length).1[Wt e i 0]?).getD 0)-1 else(Wt e i (ti e i-(t+1)-1):Int)):=by
   rw[if_neg (by omega)];by_cases j0:j=0
   ·subst j0;rw[if_pos (by omega),o2];rfl
   ·rw[if_neg (by omega)];have:=o3 (j-1) (by omega);rw[show ti e i-(t+1)-1=j-1 by omega];omega
  have hsb:(0:Int)≤s∧(s:Int)≤100:=by
   have:=qF h (yaa _) o2;omega
  rw[hset,wid (n:=(s:Int)-1) (by omega) (by omega),wid (n:=((j:Nat):Int)-1) (by omega) (by omega),hs];congr 4;omega
 ·rw[hs];rw[if_neg (by omega),cac];simp
 ·have hL:(AD e i).length=ti e i:=by simp[AD]
  simp[hL]
end Go.Proofs.Dev
namespace Go.Proofs.Dev
open Go Go.Tm
theorem Ir{e:List GNode}(h:Wst e) {i:Nat}(hi:i<e.length) {env:GEnv}:sd ⟨e,(Dh e e.length).1,env⟩ (i:Int)=some (AD e i):=by
 have hle:=h.le;obtain⟨a1,a2,a3⟩:=h.ar hi;have ha3:ti e i≤12:=by have:=Kt (e:=e) (i:=i) fun j hj=>h.err j (by omega);omega
 have haI:Dd (Gf e i).Op=(ti e i:Int):=by unfold ti;omega
 unfold sd;dsimp only;rw[Na hi,haa,xp hi,Ak,haa,haI,Vx (by omega) (by omega),haa,Kab,wid (n:=(i:Int)-1) (by omega) (by omega),wid (n:=(ti e i:Int)-1) (by omega) (by omega),ZP h hi fun a b c=>by unfold ig;rfl];rfl
theorem QL(e:List GNode) (i:Nat):ti e i≤3:=by
 unfold ti Dd;split<;>(try split)<;>(try split)<;>(try split)<;>omega
theorem FC(e:List GNode) (i:Nat):(AD e i).length=ti e i:=by simp[AD]
theorem Gy{e:List GNode}{i t:Nat}(h:t<ti e i):idx (AD e i) (t:Int)=some ((Wt e i t:Nat):Int):=by
 rw[Na (by rw[FC];exact h)];simp[AD]
theorem Ty{α:Type}{f:Nat→α}{k t:Nat}(h:t<k):((waa k).map f).take (t+1)=((waa k).map f).take t++[f t]:=by
 rw[Zaa,iaa (by simpa using h)];simp
theorem wU{op:Int}{α:Type}{k:Bool→Option α}:(jaa (α:=Bool) (if op=23 then some true else if op=24 then some true else some (op==26)) k)=k (decide (op=23∨op=24∨op=26)):=by
 by_cases h1:op=23
 ·simp[h1]
 by_cases h2:op=24
 ·simp[h2]
 rw[if_neg h1,if_neg h2,haa];congr 1;by_cases h3:op=26<;>simp[h1,h2,h3]
def oo(p:GValue×Int):GValue×Int:=if¬p.2=0 then(⟨0,0,0⟩,p.2)else if p.1.Kind=1∧Hb p.1 then p else(⟨0,0,0⟩,8)
theorem P3{v:GValue}{α:Type}{k:Bool→Option α}:(jaa (α:=Bool) (if v.Kind=1 then(sb v).bind fun x4=>some (!x4)else some true) k)=k (decide (¬(v.Kind=1∧Hb v))):=by
 rw[vc];unfold iu;by_cases h1:v.Kind=1<;>by_cases h2:Hb v<;>simp[h1,h2]
theorem mZ{R214:GEval_evaluator→Int→Option (GValue×Int)}{R250 R275}{x:GEval_evaluator}{j:Int}{p:GValue×Int}(h:R214 x j=some p):Rb R214 R250 R275 x j=some (oo p):=by
 unfold Rb oo;rw[h,haa];simp only[P3];by_cases h0:p.2=0
 ·rw[if_neg (saa.2 h0),if_neg (saa.2 h0)];by_cases h1:p.1.Kind=1∧Hb p.1
  ·rw[decide_eq_false (p:=¬(p.1.Kind=1∧Hb p.1)) (fun h=>h h1),if_neg (by simp),if_pos h1];obtain⟨v,c⟩:=p;dsimp only at h0;rw[h0]
  ·rw[decide_eq_true h1,if_pos rfl,if_neg h1]
 ·rw[if_pos h0,if_pos h0]
def HD(op N:Int) (p0 p1 p2:GValue×Int):GValue×Int:=
 if¬N=0 then(⟨0,0,0⟩,2)else
 if¬(oo p0).2=0 then(⟨0,0,0⟩,(oo p0).2)else
 if op=26 then(if(oo p0).1.N=1 then p1 else p2)else
 if(op==23)=((oo p0).1.N==0)then((oo p0).1,0)else oo p1
theorem WE{p:GValue×Int}(h:(oo p).2=0):p.2=0∧p.1.Kind=1∧Hb p.1∧oo p=p:=by
 unfold oo at h;by_cases h0:p.2=0
 ·rw[if_neg (saa.2 h0)]at h;by_cases h1:p.1.Kind=1∧Hb p.1
  ·refine⟨h0,h1.1,h1.2,?_⟩;unfold oo;rw[if_neg (saa.2 h0),if_pos h1]
  ·rw[if_neg h1]at h;exact absurd h (by decide)
 ·rw[if_pos h0]at h;exact absurd h h0
theorem GO{op N:Int}{p0 p1 p2:GValue×Int}(h1:p1.2=0→Hb p1.1) (h2:p2.2=0→Hb p2.1):(HD op N p0 p1 p2).2=0→Hb (HD op N p0 p1 p2).1:=by
 unfold HD;by_cases hN:N=0
 case neg=>rw[if_pos hN];intro h;exact absurd h (by decide)
 rw[if_neg (saa.2 hN)];by_cases hb:(oo p0).2=0
 case neg=>rw[if_pos hb];intro h;exact absurd h hb
 rw[if_neg (saa.2 hb)];obtain⟨-,-,b3,b4⟩:=WE hb;by_cases h26:op=26
 ·rw[if_pos h26];split
  ·exact h1
  ·exact h2
 ·rw[if_neg h26];split
  ·intro _;rw[b4];exact b3
  ·intro h;obtain⟨-,-,c3,c4⟩:=WE h;rw[c4];exact c3
end Go.Proofs.Dev
namespace Go.Proofs.Dev
open Go Go.Tm
noncomputable def nB(e:List GNode) (env:GEnv) (i:Nat):GValue×Int:=((da (3*i+3)).1 ⟨e,(Dh e e.length).1,env⟩ i).getD (⟨0,0,0⟩,0)
noncomputable def Tw(e:List GNode) (env:GEnv) (i:Nat):List GValue:=(waa (ti e i)).map fun t=>(nB e env (Wt e i t)).1
noncomputable def cD(e:List GNode) (env:GEnv) (i:Nat) (t:Nat):Option (GValue×Int):=if¬(nB e env (Wt e i t)).2=0 then some (⟨0,0,0⟩,(nB e env (Wt e i t)).2)else none
noncomputable def sT(e:List GNode) (env:GEnv) (i:Nat):GValue×Int:=
 if(Gf e i).Op=23∨(Gf e i).Op=24∨(Gf e i).Op=26 then
  HD (Gf e i).Op (Gf e i).N (nB e env (Wt e i 0)) (nB e env (Wt e i 1)) (if(Gf e i).Op=26 then nB e env (Wt e i 2)else(⟨0,0,0⟩,1))
 else match ff (cD e env i) (ti e i)with
  |some v=>v
  |none=>(Ki (Gf e i) (Tw e env i) env).getD (⟨0,0,0⟩,0)
structure NodeP (e:List GNode) (env:GEnv) (i:Nat):Prop where
 p:∀n,3*i+3≤n→(da n).1 ⟨e,(Dh e e.length).1,env⟩ i=some (nB e env i)
 ok:(nB e env i).2=0→Hb (nB e env i).1
 q:nB e env i=sT e env i
theorem IF{e:List GNode}{env:GEnv}{i:Nat}(h1:∀n,3*i+3≤n→(da n).1 ⟨e,(Dh e e.length).1,env⟩ i=some (sT e env i)) (h3:(sT e env i).2=0→Hb (sT e env i).1):NodeP e env i:=by
 have:nB e env i=sT e env i:=by
  conv=>lhs;unfold nB
  rw[h1 _ (yaa _)];rfl
 exact⟨by rw[this];exact h1,by rw[this];exact h3,this⟩
theorem XR{e:List GNode}{env:GEnv}(h:Wst e) {i:Nat}(hi:i<e.length) {n:Nat}(ih:∀j,j<i→(da n).1 ⟨e,(Dh e e.length).1,env⟩ j=some (nB e env j)) :
 ia (Cc ⟨e,(Dh e e.length).1,env⟩ (AD e i) (da n).1) (maa (ti e i) ⟨0,0,0⟩,0)=some (ui (Tw e env i) (ff (cD e env i) (ti e i))):=by
 have hl:=FC e i;have h3:=QL e i;refine Uh (step:=Cc ⟨e,(Dh e e.length).1,env⟩ (AD e i) (da n).1) (fun t=>((Tw e env i).take t++maa (ti e i-t) ⟨0,0,0⟩,(t:Int))) (cD e env i) (ti e i) (Tw e env i) (fun t ht _=>?_) (fun _=>?_) (by simp)
 ·obtain⟨o1,-⟩:=Hv h hi ht;have hlen:(Tw e env i).length=ti e i:=by simp[Tw]
  unfold Cc;dsimp only;rw[if_pos (by omega),Gy ht,haa,ih _ o1,haa];unfold cD;by_cases hc:(nB e env (Wt e i t)).2=0
  ·rw[if_neg (saa.2 hc),if_neg (saa.2 hc)];rw[Na (by simp;omega),haa,Dv (by simp;omega),haa,La (by omega)];unfold jw;dsimp only;congr 3;rw[Sac _ _ (by simp;omega),show t-((Tw e env i).take t).length=0 by simp;omega,show ti e i-t=(ti e i-(t+1))+1 by omega,bac,iac];unfold Tw;rw[Ty ht];simp
  ·rw[if_pos hc,if_pos hc];rfl
 ·unfold Cc;dsimp only;rw[if_neg (by omega),cac];have hlen:(Tw e env i).length=ti e i:=by simp[Tw]
  simp[←hlen]
theorem oQ{e:List GNode}(h:Wst e) (hN:∀n∈e,Kc n) {env:GEnv}(he:EnvOk env):∀i,i<e.length→NodeP e env i:=by
 intro i
 induction i using Mad with
 |_ i ih=>
  intro hi;have hle:=h.le;have har:=h.ar hi;have hnd:=HV hN hi;have hga:=QL e i;have hops:=FC e i;by_cases hlz:(Gf e i).Op=23∨(Gf e i).Op=24∨(Gf e i).Op=26
  ·have hk:2≤ti e i∧((Gf e i).Op=26→ti e i=3):=by
    unfold ti;rcases hlz with h|h|h<;>rw[h]<;>decide
   have o0:=(Hv h hi (j:=0) (by omega)).1;have o1:=(Hv h hi (j:=1) (by omega)).1;have b0:=ih _ o0 (by omega);have b1:=ih _ o1 (by omega);have i0:idx (AD e i) 0=some ((Wt e i 0:Nat):Int):=Gy (t:=0) (by omega);have i1:idx (AD e i) 1=some ((Wt e i 1:Nat):Int):=Gy (t:=1) (by omega);have hb2:(Gf e i).Op=26→NodeP e env (Wt e i 2)∧Wt e i 2<i∧idx (AD e i) 2=some ((Wt e i 2:Nat):Int):=fun h26=>by
    have o2:=(Hv h hi (j:=2) (by omega)).1;exact⟨ih _ o2 (by omega),o2,Gy (t:=2) (by omega)⟩
   have hq:sT e env i=_:=if_pos hlz;refine IF (fun n hn=>?_) (by
    rw[hq];exact GO b1.ok (by
     split
     ·rename_i h26;exact(hb2 h26).1.ok
     ·intro h;exact absurd h (by decide)))
   rw[hq];obtain⟨n,rfl⟩:∃m,n=m+3:=⟨n-3,by omega⟩;show Sb (da (n+2)).1 (da (n+2)).2.1 (da (n+2)).2.2 _ _=_;unfold Sb;dsimp only;rw[Na hi,haa,xp hi,Ir h hi,haa,wU,decide_eq_true hlz,if_pos rfl,Cz];show ue (da (n+1)).1 (da (n+1)).2.1 (da (n+1)).2.2 _ _ _=_;unfold ue HD;by_cases hN0:(Gf e i).N=0
   case neg=>rw[if_pos hN0,if_pos hN0]
   rw[if_neg (saa.2 hN0),if_neg (saa.2 hN0),i0,haa];have hbo:∀j,j<i→NodeP e env j→(da (n+1)).2.2 ⟨e,(Dh e e.length).1,env⟩ (j:Int)=some (oo (nB e env j)):=fun j hj hb=>(show Rb (da n).1 (da n).2.1 (da n).2.2 _ _=_ from mZ (hb.p n (by omega)));rw[hbo _ o0 b0,haa];by_cases hc:(oo (nB e env (Wt e i 0))).2=0
   case neg=>rw[if_pos hc,if_pos hc]
   rw[if_neg (saa.2 hc),if_neg (saa.2 hc)];by_cases h26:(Gf e i).Op=26
   ·obtain⟨c1,c2,c3⟩:=hb2 h26;rw[if_pos h26,if_pos h26,haa,if_pos h26,if_pos h26];by_cases h1:(oo (nB e env (Wt e i 0))).1.N=1
    ·rw[if_pos (by simpa using h1),if_pos h1,i1,haa,Cz];exact b1.p (n+1) (by omega)
    ·rw[if_neg (by simpa using h1),if_neg h1,c3,haa,Cz];exact c1.p (n+1) (by omega)
   ·rw[if_neg h26,if_neg h26,haa,if_neg (by simp),if_neg h26];split
    ·rfl
    ·rw[i1,haa,Cz];exact hbo _ o1 b1
  ·obtain⟨q,q1,q3⟩:=VT (n:=Gf e i) (args:=Tw e env i) he hnd (by simp[Tw];omega);have hff:∀v,ff (cD e env i) (ti e i)=some v→v.2≠0:=by
    intro v hv;obtain⟨t,_,ht,_⟩:=Mb.1 hv;unfold cD at ht;split at ht
    ·rename_i hne;injection ht with ht;rw[←ht];exact hne
    ·cases ht
   have hq:sT e env i=(match ff (cD e env i) (ti e i)with|some v=>v|none=>q):=by
    unfold sT;rw[if_neg hlz,q1];rfl
   refine IF (fun n hn=>?_) ?_
   ·rw[hq];obtain⟨n,rfl⟩:∃m,n=m+1:=⟨n-1,by omega⟩;show Sb (da n).1 (da n).2.1 (da n).2.2 _ _=_;unfold Sb;dsimp only;rw[Na hi,haa,xp hi,Ir h hi,haa,wU,decide_eq_false hlz,if_neg (by simp),hops,Vx (by omega) (by omega),haa,XR h hi (fun j hj=>(ih j hj (by omega)).p n (by omega)),haa]
    cases ff (cD e env i) (ti e i)with
    |none=>rw[CM];dsimp only;rw[q1];rfl
    |some v=>rw[wV]
   ·rw[hq]
    cases hv:ff (cD e env i) (ti e i)with
    |none=>exact q3
    |some v=>intro h0;exact absurd h0 (hff v hv)
theorem TI{e:List GNode}(hN:∀n∈e,Kc n) {env:GEnv}(he:EnvOk env) (h:Wst e):xk e env=some (nB e env (e.length-1))∧((nB e env (e.length-1)).2=0→Hb (nB e env (e.length-1)).1):=by
 have hf:1000000≤Ap:=by unfold Ap;omega
 have hp:=h.pos;have hle:=h.le;unfold xk On;rw[Km];simp only[haa];rw[pH h];have e1:ca .i64 ((e.length:Int)-1)=((e.length-1:Nat):Int):=by rw[wid (by omega) (by omega)];omega
 have hb:=oQ h hN he (e.length-1) (by omega);unfold Ih;rw[e1];dsimp only;rw[if_neg (by decide),hb.p _ (by omega)];exact⟨rfl,hb.ok⟩
theorem dQ{e:List GNode}(hN:∀n∈e,Kc n) {env:GEnv}(he:EnvOk env):lp (xk e env):=by
 by_cases h0:(tm e).2.2=0
 ·obtain⟨h1,h2⟩:=TI hN he (pD h0);exact⟨_,h1,h2⟩
 ·unfold xk On;rw[Km];simp only[haa];rw[if_pos h0];exact⟨_,rfl,fun h=>absurd h h0⟩
end Go.Proofs.Dev
namespace Go.Proofs.Dev
open Go Go.Tm
noncomputable def tx(t0 t1:List Int) (i:Nat):Option Int:=
 match t0[i]?,t1[i]? with
 |some p,some q=>if p < -1∨(i:Int)≤p then some 9 else if q<0∨9<q then some 3 else none
 |_,_=>none
noncomputable def mC(t0 t1:List Int):Int:=
 if¬(t0.length:Int)=(t1.length:Int)then 2 else if 8<(t0.length:Int)then 4 else
 match ff (tx t0 t1) t0.length with|some v=>v|none=>0
theorem lU{a b:Prop} [Decidable a] [Decidable b] {α:Type}{k:Bool→Option α}:(jaa (α:=Bool) (if¬a then some (decide b)else some true) k)=k (decide (a∨b)):=by
 by_cases h:a<;>simp[h]
theorem Ut(t0 t1:List Int):qh t0 t1=some (mC t0 t1):=by
 unfold qh mC;by_cases hl:(t0.length:Int)=(t1.length:Int)
 case neg=>rw[if_pos hl,if_pos hl]
 rw[if_neg (saa.2 hl),if_neg (saa.2 hl)];by_cases h8:8<(t0.length:Int)
 ·rw[if_pos h8,if_pos h8]
 rw[if_neg h8,if_neg h8];have e1:ia (Pe t0 t1) 0=some (ui () (ff (tx t0 t1) t0.length)):=
  Uh (fun i=>(i:Int)) _ t0.length () (fun i hi _=>by
   unfold Pe tx;rw[if_pos (by omega),Na hi,iaa hi,iaa (l:=t1) (by omega)];dsimp only;rw[haa,lU,Na (l:=t1) (by omega),haa,lU,La (by omega)];by_cases g1:t0[i] < -1∨(i:Int)≤t0[i]
   ·simp[g1,jw]
   ·by_cases g2:t1[i]'(by omega)<0∨9<t1[i]'(by omega)<;>simp only[decide_eq_true_eq,g1,g2,if_true,if_false,jw]) (fun _=>by unfold Pe;simp)
 rw[e1];cases ff (tx t0 t1) t0.length<;>rfl
structure TreeOk (t0 t1:List Int):Prop where
 len:t0.length=t1.length
 le:t0.length≤8
 par:∀i (h:i<t0.length),-1≤t0[i]∧t0[i]<(i:Int)
theorem HK{t0 t1:List Int}(h:mC t0 t1=0):TreeOk t0 t1:=by
 unfold mC at h;by_cases hl:(t0.length:Int)=(t1.length:Int)
 case neg=>rw[if_pos hl]at h;exact absurd h (by decide)
 rw[if_neg (saa.2 hl)]at h;by_cases h8:8<(t0.length:Int)
 ·rw[if_pos h8]at h;exact absurd h (by decide)
 rw[if_neg h8]at h;refine⟨by omega,by omega,fun i hi=>?_⟩;have hn:ff (tx t0 t1) t0.length=none:=by
  cases hf:ff (tx t0 t1) t0.length with
  |none=>rfl
  |some v=>
   obtain⟨k,hk,h2,-⟩:=Mb.1 hf;rw[hf]at h;dsimp only at h;subst h;unfold tx at h2;split at h2
   ·split at h2
    ·cases h2
    ·split at h2<;>cases h2
   ·cases h2
 have:=pb.1 hn i hi;unfold tx at this;rw[iaa hi,iaa (l:=t1) (by omega)]at this;dsimp only at this;split at this
 ·cases this
 ·omega
def kP(t0:List Int) (at_:Int):Nat→List Int
 |0=>[]
 |n+1=>if t0[n]?=some at_ then kP t0 at_ n++[(n:Int)]else kP t0 at_ n
def XB(t0:List Int) (at_:Int):List Int:=kP t0 at_ t0.length
theorem PC(t0:List Int) (a:Int):∀n,(kP t0 a n).length≤n
 |0=>by simp[kP]
 |n+1=>by
  have:=PC t0 a n;unfold kP;split<;>simp<;>omega
theorem Mv{t0:List Int}{a x:Int}:∀{n:Nat},x∈kP t0 a n→∃k:Nat,x=(k:Int)∧k<n∧t0[k]?=some a
 |0,h=>by simp[kP]at h
 |n+1,h=>by
  unfold kP at h;split at h
  ·rename_i hn;rcases Jaa.1 h with h|h
   ·obtain⟨k,a1,a2,a3⟩:=Mv h;exact⟨k,a1,by omega,a3⟩
   ·exact⟨n,by simpa using h,by omega,hn⟩
  ·obtain⟨k,a1,a2,a3⟩:=Mv h;exact⟨k,a1,by omega,a3⟩
theorem Vt{t0:List Int}(hl:t0.length≤1048576) (a:Int):ph t0 a=some (XB t0 a):=by
 have step:ia (Oe t0 a) (([]:List Int),0)=some (.inl (XB t0 a)):=by
  refine wi (fun i=>(kP t0 a i,(i:Int))) t0.length _ (fun i hi=>?_) ?_ rfl
  ·have h1:=PC t0 a i;unfold Oe;dsimp only;rw[if_pos (by omega),Na hi,haa,La (by omega)];simp only[kP,iaa hi,zaa];by_cases hc:t0[i]=a
   ·rw[if_pos hc,if_pos hc,Sj (by simp;omega)];rfl
   ·rw[if_neg hc,if_neg hc];rfl
  ·unfold Oe;simp[XB]
 unfold ph;rw[step];rfl
def pri(t1:List Int) (x:Int):Int:=(t1[x.toNat]?).getD 0
def Oq(t1:List Int) (out:Int→Int) (acc:List Int) (x:Int):List Int:=
 if out x = -1 then acc else
 match acc with
 |[]=>[x]
 |y::l=>if pri t1 y<pri t1 x then [x]else if pri t1 x=pri t1 y then y::l++[x]else y::l
def kq(t1:List Int) (out:Int→Int) (l:List Int):List Int:=l.foldl (Oq t1 out) []
theorem zt{t1:List Int}{out:Int→Int}{l:List Int}:∀x∈kq t1 out l,x∈l:=by
 have:∀(l acc:List Int),∀x∈l.foldl (Oq t1 out) acc,x∈acc∨x∈l:=by
  intro l
  induction l with
  |nil=>intro acc x hx;exact .inl hx
  |cons y l ih=>
   intro acc x hx;rcases ih _ x hx with h|h
   ·unfold Oq at h;split at h
    ·exact .inl h
    ·split at h
     ·exact .inr (by simp at h;simp[h])
     ·split at h
      ·exact .inr (by simp at h;simp[h])
      ·split at h
       ·rcases Jaa.1 h with h|h
        ·exact .inl h
        ·exact .inr (by simp at h;simp[h])
       ·exact .inl h
   ·exact .inr (Taf _ h)
 intro x hx;rcases this l [] x hx with h|h
 ·simp at h
 ·exact h
theorem oJ(t1:List Int) (out:Int→Int) (l:List Int):(kq t1 out l).length≤l.length:=by
 have:∀(l acc:List Int),(l.foldl (Oq t1 out) acc).length≤acc.length+l.length:=by
  intro l
  induction l with
  |nil=>intro acc;simp
  |cons y l ih=>
   intro acc;refine Iab (ih _) ?_;have:(Oq t1 out acc y).length≤acc.length+1:=by
    unfold Oq;split
    ·omega
    ·split
     ·simp
     ·split
      ·simp
      ·split<;>simp
   simp;omega
 have h:=this l [];rw[Hab,Nat.zero_add]at h;exact h
theorem DG{t1:List Int}{out:Int→Int}{l:List Int}{x:Int}:kq t1 out (l++[x])=Oq t1 out (kq t1 out l) x:=by simp[kq]
theorem HE{t1:List Int}{o o':Int→Int}{l:List Int}(h:∀x∈l,o x=o' x):kq t1 o l=kq t1 o' l:=by
 have:∀(l acc:List Int),(∀x∈l,o x=o' x)→l.foldl (Oq t1 o) acc=l.foldl (Oq t1 o') acc:=by
  intro l
  induction l with
  |nil=>intro acc _;rfl
  |cons y l ih=>
   intro acc h;have e:Oq t1 o acc y=Oq t1 o' acc y:=by unfold Oq;rw[h y (by simp)]
   simp only[aac,e];exact ih _ fun x hx=>h x (by simp[hx])
 exact this l [] h
theorem BK{t1:List Int}{out:Int→Int}{l:List Int}(hl:l.length≤100) (hm:∀x∈l,0≤x∧x<(t1.length:Int)) {step:List Int×Int→Option (Ex (List Int×Int) (List Int) Unit)}{g:Int→Option Int}(hg:∀x∈l,g x=some (out x)) {mt:List Int→Option (List Int)}(hmt:∀q,mt q=some [])
 (hs:∀a b,step (a,b)=if b<(l.length:Int)then
  jaa (α:=(List Int)) (
   (idx l b).bind fun x5=>(g x5).bind fun x6=>if x6=(-1)then some a else
   jaa (α:=(List Int)) (jaa (α:=Bool) (if 0<(a.length:Int)then(idx t1 x5).bind fun x9=>(idx a 0).bind fun x10=>(idx t1 x10).bind fun x11=>some (decide (x11<x9))else some false) fun j12=>if j12=true then mt a else some a) fun j15=>
   jaa (α:=Bool) (if¬(j15.length:Int)=0 then(idx t1 x5).bind fun x17=>(idx j15 0).bind fun x18=>(idx t1 x18).bind fun x19=>some (x17==x19)else some true) fun j20=>
   if j20=true then(app 8 j15 ([x5])).bind fun x22=>some x22 else some j15) fun j23=>some (Ex.go (j23,(ca .i64 (b+1))))
  else some (Ex.brk a)):ia step (([]:List Int),0)=some (.inl (kq t1 out l)):=by
 refine wi (fun i=>(kq t1 out (l.take i),(i:Int))) l.length _ (fun i hi=>?_) ?_ rfl
 ·have h1:=oJ t1 out (l.take i);have h2:(l.take i).length≤l.length:=by rw[Qaa];omega
  have hsub:∀y∈kq t1 out (l.take i),0≤y∧y<(t1.length:Int):=fun y hy=>hm y (hac (zt y hy));rw[hs,if_pos (by omega),Na hi,haa,hg _ (raa hi),haa,La (by omega),Zaa,iaa hi];have hx:=hm _ (raa hi);simp only[zab,DG];generalize l[i]=x at hx⊢;have hpx:idx t1 x=some (pri t1 x):=by rw[Tk hx.1 hx.2];unfold pri;rw[iaa (by omega)];rfl
  generalize kq t1 out (l.take i)=acc at h1 hsub⊢;unfold Oq;by_cases ho:out x = -1
  ·rw[if_pos ho,if_pos ho];rfl
  rw[if_neg ho,if_neg ho];rcases acc with _|⟨y,r⟩
  ·rw[if_neg (by simp)];simp only[haa,naa,if_false,Hab,aad,not_true];rw[if_pos True.intro,Sj (by simp)];rfl
  ·have hy:=hsub y (by simp);have hpy:idx t1 y=some (pri t1 y):=by rw[Tk hy.1 hy.2];unfold pri;rw[iaa (by omega)];rfl
   have i0:∀(q:List Int),idx (y::q) 0=some y:=fun q=>by simp[idx]
   dsimp only;rw[if_pos (by simp only[Daa];omega),hpx,i0,haa,haa,hpy,haa,haa];by_cases hlt:pri t1 y<pri t1 x
   ·rw[if_pos (by simpa using hlt),hmt,haa,if_neg (by simp),haa,if_pos rfl,Sj (by simp),if_pos hlt];rfl
   ·rw[if_neg (by simpa using hlt),haa,if_pos (by simp;omega),haa,i0,haa,hpy,haa,haa,if_neg hlt];by_cases he:pri t1 x=pri t1 y
    ·rw[if_pos (by simpa using he),if_pos he,Sj (by simp at h1⊢;omega)];rfl
    ·rw[if_neg (by simpa using he),if_neg he];rfl
 ·rw[hs,if_neg (by omega),dab]
def QF(t1:List Int) (out:Int→Int) (l:List Int):Int:=
 match kq t1 out l with
 |[]=>-1
 |[x]=>out x
 |_=>-2
theorem CK{t1:List Int}{o o':Int→Int}{l:List Int}(h:∀x∈l,o x=o' x):QF t1 o l=QF t1 o' l:=by
 unfold QF;rw[HE h];split
 ·rfl
 ·rename_i x hx;exact h x (zt x (by rw[hx];simp))
 ·rfl
def oc(t0 t1:List Int) (t2:List Bool):Nat→Int→Int
 |0,_=>-1
 |k+1,i=>if QF t1 (oc t0 t1 t2 k) (XB t0 i) = -1∧(t2[i.toNat]?).getD false=true then i else QF t1 (oc t0 t1 t2 k) (XB t0 i)
theorem FI{t0 t1:List Int}(h:TreeOk t0 t1) {i x:Int}(hx:x∈XB t0 i):i<x∧0≤x∧x<(t0.length:Int):=by
 obtain⟨k,rfl,hk,hp⟩:=Mv hx;have:=h.par k hk;rw[iaa hk]at hp;have:=Uaa hp;omega
theorem ZJ{t0 t1:List Int}{t2:List Bool}(h:TreeOk t0 t1):∀(d:Nat) (i:Int),0≤i→(t0.length:Int)-i≤d→∀k k':Nat,(t0.length:Int)-i≤k→(t0.length:Int)-i≤k'→i<t0.length→oc t0 t1 t2 k i=oc t0 t1 t2 k' i:=by
 intro d
 induction d with
 |zero=>intro i h0 hd k k' hk hk' hi;omega
 |succ d ih=>
  intro i h0 hd k k' hk hk' hi;obtain⟨k,rfl⟩:∃m,k=m+1:=⟨k-1,by omega⟩;obtain⟨k',rfl⟩:∃m,k'=m+1:=⟨k'-1,by omega⟩;have:QF t1 (oc t0 t1 t2 k) (XB t0 i)=QF t1 (oc t0 t1 t2 k') (XB t0 i):=CK fun x hx=>by
   have:=FI h hx;exact ih x (by omega) (by omega) k k' (by omega) (by omega) (by omega)
  simp only[oc,this]
def O(t0 t1:List Int) (t2:List Bool) (i:Int):Int:=oc t0 t1 t2 t0.length i
theorem faa{t0 t1:List Int}{t2:List Bool}(h:TreeOk t0 t1) {i:Int}(h0:0≤i) (h1:i<t0.length):O t0 t1 t2 i=if QF t1 (O t0 t1 t2) (XB t0 i) = -1∧(t2[i.toNat]?).getD false=true then i else QF t1 (O t0 t1 t2) (XB t0 i):=by
 unfold O;rw[ZJ h t0.length i h0 (by omega) t0.length (t0.length+1) (by omega) (by omega) h1];rfl
noncomputable def fJ(t0 t1:List Int) (t2:List Bool):Int:=if mC t0 t1=0∧t2.length=t0.length then QF t1 (O t0 t1 t2) (XB t0 (-1))else -1
theorem vv{t0 t1 out:List Int}(h:TreeOk t0 t1) {f:Int→Int}{i:Int}(ho:∀x∈XB t0 i,idx out x=some (f x)):fb ⟨t0,t1,out⟩ i=some (QF t1 f (XB t0 i)):=by
 have hle:=h.le;have hlen:=h.len;have hcl:=PC t0 i t0.length;unfold fb Ui;dsimp only;rw[Vt (by omega) i,haa];have hb:=BK (t1:=t1) (out:=f) (l:=XB t0 i) (by unfold XB;omega) (fun x hx=>by have:=FI h hx;omega) (step:=Cg ⟨t0,t1,out⟩ (XB t0 i)) (g:=fun x=>idx out x) ho (mt:=fun q=>(uo q 0).bind fun x14=>some x14) (fun q=>by rw[show(0:Int)=((0:Nat):Int)from rfl,Nr (by omega)];rfl) (fun a b=>by unfold Cg;rfl);rw[hb];simp only[haa];unfold QF;have hs:=zt (t1:=t1) (out:=f) (l:=XB t0 i);generalize kq t1 f (XB t0 i)=r at hs⊢;rcases r with _|⟨x,_|⟨y,q⟩⟩
 ·rfl
 ·have:idx [x] 0=some x:=by simp[idx]
  rw[if_neg (by simp),if_pos (by simp),this,haa,ho x (hs x (by simp)),haa]
 ·rw[if_neg (by simp;omega),if_neg (by simp;omega)]
theorem PG{t0 t1:List Int}{t2:List Bool}(h:TreeOk t0 t1) (h2:t2.length=t0.length):Qg t0 t1 t2=some ((waa t0.length).map fun(k:Nat)=>O t0 t1 t2 (k:Int)):=by
 have hle:=h.le;unfold Qg;rw[Vx (by omega) (by omega),haa,wid (by omega) (by omega)];have hl:ia (af t0 t1 t2) (maa t0.length 0,(t0.length:Int)-1)=some (.inl ((waa t0.length).map fun(k:Nat)=>O t0 t1 t2 (k:Int))):=by
  refine wi (fun t=>((waa t0.length).map (fun(k:Nat)=>if k<t0.length-t then 0 else O t0 t1 t2 (k:Int)),(t0.length:Int)-1-t)) t0.length _ (fun t ht=>?_) ?_ ?_
  ·obtain⟨j,hj⟩:∃j,t0.length=t+j+1:=⟨t0.length-t-1,by omega⟩;have ej:(t0.length:Int)-1-t=(j:Int):=by omega
   have ej2:t0.length-t=j+1:=by omega
   have ej3:t0.length-(t+1)=j:=by omega
   skip
   rw[ej,ej2,ej3];unfold af;dsimp only;rw[if_pos (by omega)];have hof:fb ⟨t0,t1,(waa t0.length).map (fun(k:Nat)=>if k<j+1 then 0 else O t0 t1 t2 (k:Int))⟩ (j:Int)=some (QF t1 (O t0 t1 t2) (XB t0 (j:Int))):=by
    refine vv h fun x hx=>?_;have:=FI h hx;obtain⟨k,rfl⟩:=gac this.2.1;rw[Na (by simp;omega)];simp only[eac,vac];rw[if_neg (by omega)]
   rw[hof,haa,Na (by simp;omega),haa,Dv (by simp;omega),haa];rw[Na (by simp;omega)];simp only[List.getElem_set_self,haa];have hO:=faa (t2:=t2) h (i:=(j:Int)) (by omega) (by omega);rw[Rab,iaa (by omega)]at hO;simp only[Qab]at hO;have hset:∀v,v=O t0 t1 t2 (j:Int)→((waa t0.length).map (fun(k:Nat)=>if k<j+1 then 0 else O t0 t1 t2 (k:Int))).set j v=(waa t0.length).map (fun(k:Nat)=>if k<j then 0 else O t0 t1 t2 (k:Int)):=by
    intro v hv;apply xac
    ·simp
    ·intro k h1 h2;simp only[pae,gab,Dad]at h1;rw[oad];simp only[eac,vac];by_cases hk:j=k
     ·rw[if_pos hk,hv,if_neg (by omega),hk]
     ·rw[if_neg hk];by_cases hk2:k<j
      ·rw[if_pos (by omega),if_pos hk2]
      ·rw[if_neg (by omega),if_neg hk2]
   have hw:ca .i64 ((j:Int)-1)=(t0.length:Int)-1-((t+1:Nat):Int):=by rw[wid (by omega) (by omega)];omega
   by_cases hm:QF t1 (O t0 t1 t2) (XB t0 (j:Int)) = -1
   ·rw[if_pos hm,Na (l:=t2) (by omega),haa,haa];by_cases ha:t2[j]'(by omega)=true
    ·rw[if_pos ha,Dv (by simp;omega),haa,haa,List.set_set,hset _ (by rw[hO,if_pos ⟨hm,ha⟩]),hw]
    ·rw[if_neg ha,haa,hset _ (by rw[hO,if_neg (fun h=>ha h.2)]),hw]
   ·rw[if_neg hm,haa,if_neg (by simp),haa,hset _ (by rw[hO,if_neg (fun h=>hm h.1)]),hw]
  ·((try dsimp only))
   rw[cac];unfold af;dsimp only;rw[if_neg (by omega)];simp
  ·((try dsimp only))
   rw[jad];congr 1
   ·apply xac
    ·simp
    ·intro k h1 h2;simp at h1;simp[h1]
   ·simp
 rw[hl];rfl
theorem Cp(t0 t1:List Int) (t2:List Bool):Xi t0 t1 t2=some (fJ t0 t1 t2):=by
 unfold Xi fJ;rw[Ut t0 t1,haa];by_cases hv:mC t0 t1=0
 case neg=>rw[if_neg hv,if_neg (fun h=>hv h.1)];rfl
 rw[if_pos hv,haa];by_cases h2:t2.length=t0.length
 case neg=>rw[if_pos (by simp;omega),if_neg (fun h=>h2 h.2)]
 have h:=HK hv;rw[if_neg (by simp;omega),if_pos ⟨hv,h2⟩,PG h h2,haa,vv h (f:=O t0 t1 t2) fun x hx=>by
  have:=FI h hx;obtain⟨k,rfl⟩:=gac this.2.1;rw[Na (by simp;omega)];simp]
 rfl
end Go.Proofs.Dev
namespace Go.Proofs.Dev
open Go Go.Tm
section
variable {rules:List GRule} {q:GRule→Bool}
end
def mz(s:GScope) (x:Int):Int:=((s.Rules[x.toNat]?).map (·.Priority)).getD 0
def JI(s:GScope) (d date:Int):List Int×List Int×List Int:=
 ((Cl s.Rules (oK d date) s.Rules.length).1,(Cl s.Rules (oK d date) s.Rules.length).2.1,(Cl s.Rules (oK d date) s.Rules.length).1.map (mz s))
theorem Zo{s:GScope}(hs:s.Rules.length≤1048576) (d date:Int):Pf s d date=some (JI s d date):=by
 unfold Pf JI;rw[Rr hs (q:=oK d date) (fun r=>by
  unfold Td oK;rw[rh];by_cases h:r.Def=d<;>simp[h]),haa]
 have hl:=(dw (rules:=s.Rules) (q:=oK d date) s.Rules.length).2.1;have hm:=IA (rules:=s.Rules) (q:=oK d date) s.Rules.length;generalize (Cl s.Rules (oK d date) s.Rules.length).2.1=pp;generalize (Cl s.Rules (oK d date) s.Rules.length).1=L at hl hm;have h1:ia (Cf s (L,pp)) (([]:List Int),0)=some (.inl (L.map (mz s))):=by
  refine wi (fun i=>((L.take i).map (mz s),(i:Int))) L.length _ (fun i hi=>?_) ?_ rfl
  ·have hx:=hm _ (raa hi);have h2:(L.take i).length≤L.length:=by rw[Qaa];omega
   unfold Cf;dsimp only;rw[if_pos (by omega),Na hi,haa,Tk hx.1 hx.2.1,haa,Sj (by simp;omega),haa,La (by omega),Zaa,iaa hi];simp only[zab,Cab,eab,Xac];congr 5;unfold mz;rw[iaa (by omega)];rfl
  ·unfold Cf;dsimp only;rw[if_neg (by omega),dab]
 rw[h1];rfl
end Go.Proofs.Dev
namespace Go.Proofs.Dev
open Go Go.Tm
theorem cm{s:GScope}(hs:ScOk s):Cd s=some (Xp (Bm s)):=by
 unfold Cd;rw[Mk hs];rfl
theorem Gx{g:List (List Int)}:∀(k:Nat) (out:List Int),(∀x∈out,0≤x∧x<(g.length:Int))→(out.length+k≤g.length)→(∀x∈(Dp g k out).1,0≤x∧x<(g.length:Int))∧(Dp g k out).1.length≤g.length
 |0,out,h,hl=>⟨h,hl⟩
 |k+1,out,h,hl=>by
  unfold Dp;split
  ·rename_i d hf;have h2:=List.mem_of_find?_eq_some hf;rw[Nab]at h2;refine Gx k _ (fun x hx=>?_) (by simp;omega);rcases Jaa.1 hx with hx|hx
   ·exact h x hx
   ·simp at hx;omega
  ·exact⟨fun x hx=>by simp at hx,by simp⟩
theorem AG(g:List (List Int)):(∀x∈(Xp g).1,0≤x∧x<(g.length:Int))∧(Xp g).1.length≤g.length:=Gx g.length [] (fun x hx=>by simp at hx) (by simp)
end Go.Proofs.Dev
namespace Go.Proofs.Dev
open Go Go.Tm
def uF(n:Nat) (x:Int):Prop:=x = -1∨x = -2∨(0≤x∧x<(n:Int))
theorem OO{t1:List Int}{out:Int→Int}{l:List Int}{n:Nat}(h:∀x∈l,uF n (out x)):uF n (QF t1 out l):=by
 unfold QF;have hs:=zt (t1:=t1) (out:=out) (l:=l);split
 ·exact .inl rfl
 ·rename_i x hx;exact h x (hs x (by rw[hx];simp))
 ·exact .inr (.inl rfl)
theorem dV{t0 t1:List Int}{t2:List Bool}:∀(k:Nat) (i:Int),0≤i→i<(t0.length:Int)→uF t0.length (oc t0 t1 t2 k i)
 |0,i,_,_=>.inl rfl
 |k+1,i,h0,h1=>by
  unfold oc;split
  ·exact .inr (.inr ⟨h0,h1⟩)
  ·exact OO fun x hx=>by
    obtain⟨j,rfl,hj,-⟩:=Mv hx;exact dV k _ (by omega) (by omega)
theorem RS(t0 t1:List Int) (t2:List Bool):uF t0.length (fJ t0 t1 t2):=by
 unfold fJ;split
 ·exact OO fun x hx=>by
   obtain⟨j,rfl,hj,-⟩:=Mv hx;exact dV t0.length _ (by omega) (by omega)
 ·exact .inl rfl
structure ScE (s:GScope):Prop where
 ok:ScOk s
 n:∀r∈s.Rules,(∀n∈r.Guard,Kc n)∧(∀n∈r.Value,Kc n)
def iL:GEvalError:=⟨0,0,0,0⟩
def TQ(v:GValue):Prop:=v=⟨0,0,0⟩∨Hb v
structure ScopeR (n:Nat) (v:List GValue) (r:List Int):Prop where
 vl:v.length=n
 rl:r.length=n
 vp:∀x∈v,TQ x
theorem mem_set{α:Type}{l:List α}{i:Nat}{x y:α}(h:y∈l.set i x):y=x∨y∈l:=by
 rcases List.mem_or_eq_of_mem_set h with h|h
 ·exact .inr h
 ·exact .inl h
end Go.Proofs.Dev
namespace Go.Proofs.Dev
open Go Go.Tm
theorem mN{s:GScope}(hs:ScE s) {env:GEnv}(he:EnvOk env) (m d:Int):∃p,xf s env m d=some p∧(p.2.Code=0→uF s.Rules.length p.1):=by
 have hr:=hs.ok.rules;unfold xf;rw[Zo hr,haa];obtain⟨hl1,hl2,hl3⟩:=dw (rules:=s.Rules) (q:=oK d env.Date) s.Rules.length;have hm:=IA (rules:=s.Rules) (q:=oK d env.Date) s.Rules.length;unfold JI;generalize (Cl s.Rules (oK d env.Date) s.Rules.length).2.1=par at hl3⊢;generalize (Cl s.Rules (oK d env.Date) s.Rules.length).1=L at hl2 hl3 hm⊢;generalize L.map (mz s)=pr;dsimp only;rw[Vx (by omega) (by omega),haa];have hlp:=nI (s:=Ni s env m d (L,par,pr))
  (fun x=>∃i:Nat,i≤L.length∧x.2=(i:Int)∧x.1.length=L.length) (fun x=>(L.length-x.2).toNat)
  (fun x=>x.length=L.length) (fun x=>x.2.Code≠0) (by
   rintro⟨a,a2⟩ ⟨i,i1,i2,i4⟩;dsimp only at i2 i4;subst i2;unfold Ni;dsimp only;by_cases hi:i<L.length
   case neg=>
    rw[if_neg (by omega)];exact .inr (.inl ⟨_,rfl,i4⟩)
   have hx:=hm _ (raa hi);rw[if_pos (by omega),Na hi];simp only[haa];generalize L[i]=x at hx⊢;rw[Tk hx.1 hx.2.1];simp only[haa];have hmem:s.Rules[x.toNat]'(by omega)∈s.Rules:=raa _;generalize s.Rules[x.toNat]'(by omega)=r at hmem;have hN:=(hs.n r hmem).1;have step:∀v:Bool,(jaa (α:=((List Bool)⊕(Ex ((List Bool)×Int) (List Bool) (Int×GEvalError)))) ((idx a (i:Int)).bind fun x13=>(put a (i:Int) v).bind fun x14=>some (Sum.inl x14)) fun z=>match z with|.inr v=>some v|.inl j15=>some (Ex.go (j15,(ca .i64 ((i:Int)+1)))))=some (.go (a.set i v,((i+1:Nat):Int))):=by
    intro v;rw[Na (by omega),haa,Dv (by omega),haa,haa];dsimp only;rw[La (by omega)]
   by_cases hg:(r.Guard.length:Int)=0
   ·rw[if_pos hg];exact .inl ⟨_,step true,⟨i+1,by omega,rfl,by simp;omega⟩,by dsimp only;omega⟩
   ·rw[if_neg hg];obtain⟨p,p1,p3⟩:=dQ hN he;rw[p1,haa];by_cases hc:p.2=0
    ·rw[if_neg (saa.2 hc)];exact .inl ⟨_,step _,⟨i+1,by omega,rfl,by simp;omega⟩,by dsimp only;omega⟩
    ·rw[if_pos hc];exact .inr (.inr ⟨_,rfl,hc⟩)) (x:=(maa L.length false,0)) ⟨0,Bab _,rfl,by simp⟩
 rcases hlp with⟨x,g1,g2⟩|⟨x,g1,g3⟩
 ·rw[g1,haa];dsimp only;rw[Cp];simp only[haa];have hin:=RS par pr x;generalize fJ par pr x=v at hin;by_cases hv:v<0
  ·rw[if_pos hv];refine⟨_,rfl,fun _=>?_⟩;rcases hin with h|h|h
   ·exact .inl h
   ·exact .inr (.inl h)
   ·omega
  ·rw[if_neg hv,Tk (by omega) (by rcases hin with h|h|h<;>omega),haa];have:=hm _ (raa (l:=L) (n:=v.toNat) (by rcases hin with h|h|h<;>omega));exact⟨_,rfl,fun _=>.inr (.inr ⟨this.1,this.2.1⟩)⟩
 ·rw[g1];exact⟨x,rfl,fun h=>absurd h g3⟩
theorem tI{s:GScope}(hs:ScE s) {env:GEnv}(he:EnvOk env) {w:List Bool}(hw:w.length=s.Defs.length) (m:Int) :
 (∃v r,ya s env m w=some ((r,iL),{ env with Defs:=v })∧ScopeR s.Defs.length v r)∨
 ∃e env',e.Code≠0∧ya s env m w=some (([],e),env'):=by
 have hd:=hs.ok.defs;unfold ya;rw[Vx (by omega) (by omega),Vx (by omega) (by omega),haa,haa,cm hs.ok,haa];obtain⟨ho1,ho2⟩:=AG (Bm s);rw[xn]at ho1 ho2;generalize Xp (Bm s)=ord at ho1 ho2⊢;have hlp:=nI (s:=td s env m w ord)
  (fun x=>∃i:Nat,i≤ord.1.length∧x.2.2=(i:Int)∧ScopeR s.Defs.length x.1 x.2.1) (fun x=>(ord.1.length-x.2.2).toNat)
  (fun x=>ScopeR s.Defs.length x.1 x.2) (fun x=>∃e env',x=(([],e),env')∧e.Code≠0) (by
   rintro⟨a,b,c⟩ ⟨i,i1,i2,i3,i4,i5⟩;dsimp only at i2 i3 i4 i5;subst i2;unfold td;dsimp only;by_cases hi:i<ord.1.length
   case neg=>
    rw[if_neg (by omega)];exact .inr (.inl ⟨_,rfl,i3,i4,i5⟩)
   have hx:=ho1 _ (raa hi);rw[if_pos (by omega),Na hi];simp only[haa];generalize ord.1[i]=x at hx⊢;rw[Tk (l:=w) hx.1 (by omega)];simp only[haa];by_cases hwx:w[x.toNat]'(by omega)=false
   ·rw[if_pos hwx];simp only[haa];rw[La (by omega)];exact .inl ⟨_,rfl,⟨i+1,by omega,rfl,i3,i4,i5⟩,by dsimp only;omega⟩
   rw[if_neg hwx];have he2:EnvOk (GEnv.mk env.Date env.Inputs a env.Members env.MemberTypes env.Tables):=⟨he.tabs,he.mem⟩;obtain⟨p,p1,p3⟩:=mN hs he2 m x;rw[p1];simp only[haa];by_cases hc:p.2.Code=0
   case neg=>
    rw[if_pos hc];exact .inr (.inr ⟨_,rfl,_,_,rfl,hc⟩)
   rw[if_neg (saa.2 hc)];by_cases h1:p.1 = -1
   ·rw[if_pos h1];exact .inr (.inr ⟨_,rfl,_,_,rfl,by simp⟩)
   rw[if_neg h1];by_cases h2:p.1 = -2
   ·rw[if_pos h2];exact .inr (.inr ⟨_,rfl,_,_,rfl,by simp⟩)
   rw[if_neg h2];have h3:0≤p.1∧p.1<(s.Rules.length:Int):=by
    rcases p3 hc with h|h|h
    ·exact absurd h h1
    ·exact absurd h h2
    ·exact h
   rw[Tk h3.1 h3.2];simp only[haa];have hmem:s.Rules[p.1.toNat]'(by omega)∈s.Rules:=raa _;generalize s.Rules[p.1.toNat]'(by omega)=r at hmem;obtain⟨q,q1,q3⟩:=dQ (hs.n r hmem).2 he2;rw[q1];simp only[haa];by_cases hq:q.2=0
   case neg=>
    rw[if_pos hq];exact .inr (.inr ⟨_,rfl,_,_,rfl,hq⟩)
   rw[if_neg (saa.2 hq)];obtain⟨k,rfl⟩:=gac hx.1;rw[Na (by omega),haa,Dv (by omega),haa,Na (by omega),haa,Dv (by omega)];simp only[haa];rw[La (by omega)];refine .inl ⟨_,rfl,⟨i+1,by omega,rfl,?_,?_,?_⟩,by dsimp only;omega⟩
   ·simp[i3]
   ·simp[i4]
   ·intro y hy;rcases mem_set hy with rfl|hy
    ·exact .inr (q3 hq)
    ·exact i5 y hy) (x:=(maa s.Defs.length ⟨0,0,0⟩,maa s.Defs.length 0,0)) ⟨0,Bab _,rfl,by simp,by simp,fun x hx=>.inl (List.eq_of_mem_replicate hx)⟩
 rcases hlp with⟨x,g1,g3⟩|⟨x,g1,e,env',rfl,g3⟩
 ·rw[g1];exact .inl ⟨x.1,x.2,rfl,g3⟩
 ·rw[g1];exact .inr ⟨e,env',g3,rfl⟩
end Go.Proofs.Dev
namespace Go.Proofs.Dev
open Go Go.Tm
theorem Up{n:Nat}{f:Nat→Bool}{x:Int}(h0:0≤x) (h1:x<(n:Int)):put ((waa n).map f) x true=some ((waa n).map fun k=>f k || decide (x=(k:Int))):=by
 obtain⟨j,rfl⟩:=gac h0;rw[Dv (by simp;omega)];congr 1;apply xac
 ·simp
 ·intro k h2 h3;simp only[pae,gab,Dad]at h2;rw[oad];simp only[eac,vac];by_cases hk:j=k
  ·rw[if_pos hk];subst hk;simp
  ·rw[if_neg hk];have:decide ((j:Int)=(k:Int))=false:=by simp;omega
   rw[this,xad]
theorem pn{α:Type}{n:Nat}{f:Nat→α}{x:Int}(h0:0≤x) (h1:x<(n:Int)):idx ((waa n).map f) x=some (f x.toNat):=by
 rw[Tk h0 (by simpa using h1)];simp
theorem qB{n:Nat}{l:List Int}(hl:l.length≤1048576) (hm:∀x∈l,0≤x∧x<(n:Int)) (f:Nat→Bool) {step:List Bool×Int→Option (Ex (List Bool×Int) (List Bool) Unit)}
 (hs:∀a b,step (a,b)=if b<(l.length:Int)then(idx l b).bind fun x=>(idx a x).bind fun _=>(put a x true).bind fun q=>some (.go (q,ca .i64 (b+1)))else some (.brk a)) :
 ia step ((waa n).map f,0)=some (.inl ((waa n).map fun k=>f k || l.contains (k:Int))):=by
 refine wi (fun i=>((waa n).map (fun k=>f k || (l.take i).contains (k:Int)),(i:Int))) l.length _ (fun i hi=>?_) ?_ (by simp)
 ·have hx:=hm _ (raa hi);rw[hs,if_pos (by omega),Na hi,haa,pn hx.1 hx.2,haa,Up hx.1 hx.2,haa,La (by omega),Zaa,iaa hi];congr 3;apply nac;intro k _;simp only[zab,List.contains_eq_any_beq,oae,Dae,Nae,xad,oaf];congr 2;rw[dac];simp;exact eq_comm
 ·rw[hs,if_neg (by omega),dab]
theorem yw(n:Nat):maa n false=(waa n).map fun _=>false:=by
 apply xac<;>simp
def wB(s:GScope) (d x:Int):Bool:=decide (d=x) || (ED s d s.Defs.length).contains x
theorem FN{s:GScope}{d x:Int}:wB s d x=true↔d=x∨Way s d x:=by
 unfold wB;rw[xab,decide_eq_true_eq,xaa,Fy]
theorem vt{s:GScope}{d x:Int}(h:Way s d x):0≤x∧x<(s.Defs.length:Int):=by
 cases h with
 |one h=>exact h.2.1
 |step _ h=>exact h.2.1
def Xw(r:GRule):List Int:=Et jo r.Guard++Et jo r.Value
def RA(s:GScope) (d:Int):List Int:=Te ((s.Rules.filter fun(r:GRule)=>wB s d r.Def).flatMap Xw)
theorem SD{l:List GRule}(hg:∀r∈l,r.Guard.length≤1048576∧r.Value.length≤1048576) {p:GRule→Bool}:((l.filter p).flatMap Xw).length≤2097152*l.length:=by
 induction l with
 |nil=>simp
 |cons r l ih=>
  have:=ih fun x hx=>hg x (by simp[hx]);have h1:=hg r (by simp);have h2:=tp (p:=jo) (e:=r.Guard);have h3:=tp (p:=jo) (e:=r.Value);rw[Gab];split
  ·simp only[List.flatMap_cons,Haa,Daa,Xw]at this⊢;omega
  ·simp only[Daa];omega
theorem fw{s:GScope}(hs:ScOk s) {d:Int}(hd:0≤d∧d<(s.Defs.length:Int)):Lg s d=some (RA s d):=by
 have h1:=hs.defs;have h2:=hs.rules;obtain⟨l,hl,hll,hlm⟩:=xj hs d;unfold pc at hl;rw[if_pos (by omega),haa,if_neg (by simp;omega)]at hl;unfold Lg;rw[if_pos (by omega),haa,if_neg (by simp;omega),Vx (by omega) (by omega),haa,yw,pn hd.1 hd.2,haa,Up hd.1 hd.2,haa]
 cases ha:Jb s with
 |none=>rw[ha]at hl;cases hl
 |some g=>
  rw[ha,haa]at hl;rw[haa]
  cases hr:kh g d with
  |none=>rw[hr]at hl;cases hl
  |some l'=>
   rw[hr,haa]at hl;obtain rfl:=Uaa hl;rw[haa,qB hll (fun x hx=>vt ((hlm x).1 hx)) _ (fun a b=>by unfold Hl;rfl),haa];dsimp only;have hw:((waa s.Defs.length).map fun(k:Nat)=>(false || decide (d=(k:Int))) || l'.contains (k:Int))=(waa s.Defs.length).map fun(k:Nat)=>wB s d (k:Int):=by
    apply nac;intro k _;unfold wB;rw[lad];congr 1;rw[dac,xaa,xaa,hlm,Fy]
   rw[hw];have hlp:ia (bg s ((waa s.Defs.length).map fun(k:Nat)=>wB s d (k:Int))) (([]:List Int),0)=some (.inl ((s.Rules.filter fun(r:GRule)=>wB s d r.Def).flatMap Xw)):=by
    refine wi (fun i=>(((s.Rules.take i).filter fun(r:GRule)=>wB s d r.Def).flatMap Xw,(i:Int))) s.Rules.length _ (fun i hi=>?_) ?_ rfl
    ·have hr:=hs.g _ (raa hi);have hb:=SD (l:=s.Rules.take i) (fun r hr=>hs.g r (hac hr)) (p:=fun(r:GRule)=>wB s d r.Def);have h5:(s.Rules.take i).length≤1048576:=by rw[Qaa];omega
     have h3:=tp (p:=jo) (e:=s.Rules[i].Guard);have h4:=tp (p:=jo) (e:=s.Rules[i].Value);unfold bg;dsimp only;rw[if_pos (by omega),Na hi,haa,La (by omega),Zaa,iaa hi];simp only[zab,uab,List.flatMap_append];generalize s.Rules[i]=r at hr h3 h4⊢;generalize ((s.Rules.take i).filter fun(r:GRule)=>wB s d r.Def).flatMap Xw=acc at hb⊢;have hc:(if¬r.Def<0 then if¬(s.Defs.length:Int)≤r.Def then(idx ((waa s.Defs.length).map fun(k:Nat)=>wB s d (k:Int)) r.Def).bind fun x24=>some (!x24)else some true else some true)=some (!wB s d r.Def):=by
      by_cases g1:0≤r.Def
      ·by_cases g2:r.Def<(s.Defs.length:Int)
       ·rw[if_pos (by omega),if_pos (by omega),pn g1 g2,haa];rw[show((r.Def.toNat:Nat):Int)=r.Def by omega]
       ·rw[if_pos (by omega),if_neg (by omega)];have:wB s d r.Def=false:=by
         rw[←Fac,FN];rintro(h|h)
         ·omega
         ·have:=vt h;omega
        rw[this];rfl
      ·rw[if_neg (by omega)];have:wB s d r.Def=false:=by
        rw[←Fac,FN];rintro(h|h)
        ·omega
        ·have:=vt h;omega
       rw[this];rfl
     rw[hc,haa];cases hwb:wB s d r.Def
     ·simp[hwb]
     ·rw[if_neg (by simp),Aj (by omega),haa,Aj (by omega),haa];unfold gx;dsimp only;rw[Sj (by omega),haa,Sj (by simp;omega),haa,haa];simp[hwb,Xw]
    ·unfold bg;dsimp only;rw[if_neg (by omega),dab]
   rw[hlp,haa];dsimp only;have hb:=SD (l:=s.Rules) hs.g (p:=fun(r:GRule)=>wB s d r.Def);rw[uq (by omega)];rfl
end Go.Proofs.Dev
namespace Go.Proofs.Dev
open Go Go.Tm
theorem rng{a b c:Int}:(if¬a<b then some (decide (c<a))else some true)=some (decide (a<b) || decide (c<a)):=by
 by_cases h:a<b<;>simp[h]
theorem l5{c:GCalendar}(h:c.Holidays.length≤1048576):∃b,Of c=some b:=by
 have hs:∀i:Nat,i<c.Holidays.length→Dc c (i:Int)=some (.ret false)∨Dc c (i:Int)=some (.go (ca .i64 ((i:Int)+1))):=by
  intro i hi;unfold Dc;rw[if_pos (by omega),Na hi,haa];unfold uj;generalize c.Holidays[i]=x;by_cases h1:0≤x
  ·by_cases h2:x≤109572
   ·by_cases h3:0<i
    ·obtain⟨k,rfl⟩:∃k,i=k+1:=⟨i-1,by omega⟩;have h4:ca .i64 (((k+1:Nat):Int)-1)=(k:Int):=by rw[wid (by omega) (by omega)];omega
     have h5:(0:Int)<((k+1:Nat):Int):=by omega
     rw[h4,Na (show k<c.Holidays.length by omega)];by_cases h6:x≤c.Holidays[k]
     ·left;simp[h1,h2,h5,h6]
     ·right;simp[h1,h2,h5,h6]
    ·have h5:¬(0:Int)<(i:Int):=by omega
     right;rw[if_neg h5];simp[h1,h2]
   ·left;simp[h1,h2]
  ·left;simp[h1]
 classical
 unfold Of;rw[show(if¬c.Weekend<0 then if¬126<c.Weekend then some (decide (64<(c.Holidays.length:Int)))else some true else some true)=some (decide (c.Weekend<0) || (decide (126<c.Weekend) || decide (64<(c.Holidays.length:Int)))) by
  by_cases g1:c.Weekend<0<;>by_cases g2:126<c.Weekend<;>simp[g1,g2],haa]
 split
 ·exact⟨_,rfl⟩
 ·rcases Cv h (fun i=>decide (Dc c (i:Int)=some (.ret false))) (step:=Dc c) (fun i hi=>by
   rcases hs i hi with g|g
   ·simp[g]
   ·simp[g]) (by unfold Dc;simp)with g|⟨g,-⟩
  ·exact⟨false,by rw[g];rfl⟩
  ·exact⟨true,by rw[g];rfl⟩
theorem Fs{l:GLaw}(h:(Pk l).Code=0):Pk l=⟨0,0,0,0⟩:=by
 unfold Pk at h⊢;split at h
 ·simp at h
 rename_i h1;rw[if_neg h1];generalize hE:ff _ l.Enums.length=oe at h⊢
 cases oe with
 |some v=>exact(Ht (f:=fun i=>match l.Enums[i]? with|some x=>if(bj l i x).1=0 then none else some (⟨(bj l i x).1,1,(i:Int),(bj l i x).2⟩:GLawError)|none=>none) EH hE h).elim
 |none=>
 dsimp only at h⊢;split at h
 ·simp at h
 rename_i h2;rw[if_neg h2];generalize hT:ff _ l.Tables.length=ot at h⊢
 cases ot with
 |some v=>exact(Ht (f:=fun i=>match l.Tables[i]? with|some x=>if(bo l i x).1=0 then none else some (⟨(bo l i x).1,2,(i:Int),(bo l i x).2⟩:GLawError)|none=>none) QG hT h).elim
 |none=>
 dsimp only at h⊢;split at h
 ·simp at h
 rename_i h3;rw[if_neg h3];generalize hf:ff _ l.Scopes.length=o at h⊢
 cases o with
 |none=>rfl
 |some v=>
  rw[Qab]at h;obtain⟨k,k1,k2,-⟩:=Mb.1 hf;rw[iaa k1]at k2;dsimp only at k2;split at k2
  ·cases k2
  ·injection k2 with k2;subst k2;rename_i hne;exact(hne h).elim
theorem mP{l:GLaw}(hV:Valid l) {i k:Nat}(hi:i<l.Scopes.length) (hk:k<l.Scopes[i].Defs.length):qa l.Scopes[i].Defs[k].Type_ l.Enums=true:=by
 have h:=hV.s i hi;generalize l.Scopes[i]=x at h hk⊢;unfold Fl at h
 repeat' split at h
 all_goals first|(simp at h;done)|skip
 ·rename_i v hv;exact(rB MP hv h).elim
 ·rename_i v hv;exact(rB AI hv h).elim
 ·rename_i v hv;exact(rB NH hv h).elim
 ·rename_i hd _ _;have:=pb.1 hd k hk;unfold jH at this;rw[iaa hk]at this;dsimp only at this;split at this
  ·rename_i hz;unfold nr at hz;split at hz
   ·simp at hz
   ·split at hz
    ·simp at hz
    ·split at hz
     ·simp at hz
     ·rename_i hb;simpa using hb
  ·cases this
theorem EL{l:GLaw}(h:LawOk l) {c:GPayConfig}(hc:c.Calendar.Holidays.length≤1048576) (sc:Int):∃n,db l sc c=some n:=by
 have key:∃n,db l sc c=some n:=by
  unfold db;rw[Rj h];simp only[haa];by_cases hv:(Pk l).Code=0
  ·have hV:=PA hv;rw[Fs hv];simp only[not_true_eq_false,if_false,and_self,beq_self_eq_true,yab];obtain⟨b,hb⟩:=l5 hc;by_cases h1:sc<0
   ·simp[h1]
   by_cases h2:(l.Scopes.length:Int)≤sc
   ·simp[h1,h2]
   by_cases h3:c.Def<0
   ·simp[h1,h2,h3]
   obtain⟨i,rfl⟩:∃i:Nat,sc=(i:Int):=⟨sc.toNat,by omega⟩;have hi:i<l.Scopes.length:=by omega
   rw[if_pos h1,if_pos h2,if_pos h3,Na hi,haa,haa];by_cases h4:(l.Scopes[i].Defs.length:Int)≤c.Def
   ·simp[h4]
   obtain⟨k,hk⟩:∃k:Nat,c.Def=(k:Int):=⟨c.Def.toNat,by omega⟩;have hkl:k<l.Scopes[i].Defs.length:=by omega
   rw[show decide ((l.Scopes[i].Defs.length:Int)≤c.Def)=false by simpa using h4];have ht:=mP hV hi hkl;simp only[hk,Na hkl,haa,naa,if_false];generalize l.Scopes[i].Defs[k].Type_=t at ht⊢;by_cases h5:t.Kind=3
   ·have h6:t.Enum=0:=by
     unfold qa at ht;rw[if_neg (by omega)]at ht;simp at ht;exact ht.2
    simp only[h5,h6,and_self,not_true_eq_false,if_false,rng,hb,haa];by_cases g1:c.Rounding<0
    ·simp[g1]
    by_cases g2:5<c.Rounding
    ·simp[g1,g2]
    rw[if_pos g1,if_pos g2];simp only[g1,g2,decide_false,Bool.or_self,if_true,haa];cases b
    ·simp
    simp only[Bool.not_true,naa,if_false];generalize (decide (c.PayDay<1) || decide (28<c.PayDay))=b1;generalize (decide (c.RecoveryCap<0) || decide (1000000<c.RecoveryCap))=b2;generalize (decide (c.RecoveryFloor<0) || decide (1000000000000000<c.RecoveryFloor))=b3;generalize (decide (c.FirstMonth<0) || decide (3599<c.FirstMonth))=b4;generalize (decide (c.AppealDays<0) || decide (365<c.AppealDays))=b5;cases b1<;>cases b2<;>cases b3<;>cases b4<;>cases b5<;>simp
   ·simp[h5]
  ·have:((Pk l).Code==0)=false:=by simpa using hv
   simp[hv,this]
 exact key
end Go.Proofs.Dev
namespace Go.Proofs.Dev
open Go Go.Tm
theorem Valid.S8{l:GLaw}(hV:Valid l) {i k:Nat}(hi:i<l.Scopes.length) (hk:k<l.Scopes[i].Rules.length):Bx l.Scopes[i] (Qy l l.Scopes[i]) k l.Scopes[i].Rules[k]=0:=by
 have h:=hV.s i hi;generalize l.Scopes[i]=x at h hk⊢;unfold Fl at h
 repeat' split at h
 all_goals first|(simp at h;done)|skip
 ·rename_i v hv;exact(rB MP hv h).elim
 ·rename_i v hv;exact(rB AI hv h).elim
 ·rename_i v hv;exact(rB NH hv h).elim
 ·rename_i hd;have:=pb.1 hd k hk;unfold lG at this;rw[iaa hk]at this;dsimp only at this;split at this
  ·assumption
  ·cases this
theorem Valid.C3{l:GLaw}(hV:Valid l) {i:Nat}(hi:i<l.Scopes.length):Bw l i l.Scopes[i]=false∧l.Scopes[i].Inputs.length≤12∧l.Scopes[i].Defs.length≤12:=by
 have h:=hV.s i hi;generalize l.Scopes[i]=x at h⊢;unfold Fl at h;split at h
 ·simp at h
 split at h
 ·simp at h
 split at h
 ·simp at h
 rename_i hm;split at h
 ·simp at h
 split at h
 ·simp at h
 exact⟨by simpa using hm,by omega,by omega⟩
theorem Kz{e:List GNode}{s:GSignature}{t:GType}(h:Iv e s t=0):(Gr e s).2.2=0:=by
 unfold Iv at h;split at h
 ·assumption
 ·rename_i h2;exact Sab.1 h2
theorem UE{x:GScope}{s:GSignature}{k:Nat}{r:GRule}(h:Bx x s k r=0):(0<r.Guard.length→(Gr r.Guard s).2.2=0)∧(Gr r.Value s).2.2=0:=by
 unfold Bx at h;split at h
 ·simp at h
 split at h
 ·simp at h
 split at h
 ·simp at h
 split at h
 ·simp at h
 split at h
 ·simp at h
 split at h
 ·simp at h
 split at h
 ·simp at h
 split at h
 ·rename_i h2;exact absurd h h2.2
 ·rename_i h2;refine⟨fun hl=>?_,Kz h⟩;exact Kz (t:=⟨1,0⟩) (Zad fun h3=>h2 ⟨hl,h3⟩)
theorem fU{op N:Int}{ops:List GType}{s:GSignature}(h:36≤op∧op≤39) {p:GType×Int}(hr:Hc ⟨op,N⟩ ops s=some p) (hp:p.2=0):0≤N∧N<(s.MemberDefs.length:Int):=by
 rcases Decidable.em (0≤N∧N<(s.MemberDefs.length:Int))with hc|hc
 ·exact hc
 exfalso;have hu:=Cb (op:=op) (by omega);have hus:Ch op=true:=by unfold Ch;simp;omega
 unfold Hc za Mg Wc at hr;simp only[hu,hus,xb,xl,Sx]at hr;by_cases h0:N<0
 ·rcases(by omega:op=36∨op=37∨op=38∨op=39)with h|h|h|h<;>subst h<;>cases hM:s.HasMembers<;>simp[hM,h0]at hr<;>(rw[←hr]at hp;simp at hp)
 ·have h1:(s.MemberDefs.length:Int)≤N:=by omega
  rcases(by omega:op=36∨op=37∨op=38∨op=39)with h|h|h|h<;>subst h<;>cases hM:s.HasMembers<;>simp[hM,h0,h1]at hr<;>(rw[←hr]at hp;simp at hp)
theorem lJ{e:List GNode}{s:GSignature}(hN:∀n∈e,Kc n) (h:(Gr e s).2.2=0):∀n∈e,jo n=true→0≤n.N∧n.N<(s.MemberDefs.length:Int):=by
 unfold Gr at h;split at h
 case isFalse h2=>exact absurd h h2
 rename_i h0;have hw:=pD h0;have hn:ff (fy e s) e.length=none:=by
  cases hf:ff (fy e s) e.length with
  |none=>rfl
  |some v=>
   rw[hf]at h;dsimp only at h;obtain⟨k,_,h2,_⟩:=Mb.1 hf;unfold fy at h2;split at h2
   ·cases h2
   ·rename_i hne;injection h2 with h2;rw[←h2]at h;exact absurd h hne
 intro n hn2 hm;obtain⟨j,hj,rfl⟩:=Faa hn2;have ht:=pb.1 hn j hj;obtain⟨-,-,h39⟩:=hw.ar hj;unfold fy at ht;split at ht
 case isFalse=>cases ht
 rename_i hz;have hr:=YE hw hN hj (fun i hi=>pb.1 hn i (by omega));rw[xp hj];rw[xp hj]at hm;have hop:36≤(Gf e j).Op∧(Gf e j).Op≤39:=by
  unfold jo at hm;simp only[xab,beq_iff_eq]at hm;omega
 have hres:=fU (op:=(Gf e j).Op) (N:=(Gf e j).N) hop hr hz;exact hres
theorem tC{l:GLaw}(h:LawOk l) {x:GScope}(hx:x∈l.Scopes):ScE x:=by
 obtain⟨-,g2,-,-,-,g6⟩:=h.s x hx;exact⟨g2,fun r hr=>(g6 r hr).2.2⟩
theorem bnd4{t:GType}{e:List GEnum}(hk:t.Kind=4):-1000000000≤(qt t e).1∧(qt t e).2≤1000000000:=by
 have hb:=Fj t e;unfold wc at hb;rw[xb,haa]at hb
 cases hv:qa t e with
 |false=>
  rw[hv,if_pos rfl]at hb;have:=Uaa hb;rw[←this];decide
 |true=>
  rw[hv,if_neg (by simp),if_neg (by omega),if_neg (by omega),if_neg (by omega),if_pos hk]at hb;have:=Uaa hb;rw[←this];decide
theorem Valid.N2{l:GLaw}(h:Valid l):∀t∈l.Tables,t.Rows.length≤150∧(t.Value.Kind=4→RowsN t):=by
 intro t ht;have h64:=h.rows t ht;refine⟨by omega,fun hk=>⟨by omega,fun r hr=>?_⟩⟩;obtain⟨i,hi,rfl⟩:=Faa ht;have:=h.t i hi;generalize l.Tables[i]=t at *;unfold bo at this;split at this
 ·simp at this
 split at this
 ·simp at this
 split at this
 case isFalse h2=>exact absurd this h2
 rename_i h2;unfold Ym at h2;rw[if_neg (by omega)]at h2;split at h2
 ·simp at h2
 have hn:ff (jB t l.Enums) t.Rows.length=none:=by
  cases hf:ff (jB t l.Enums) t.Rows.length with
  |none=>rfl
  |some v=>
   rw[hf]at h2;obtain⟨k,_,h3,_⟩:=Mb.1 hf;unfold jB at h3;split at h3
   ·split at h3
    ·injection h3 with h3;rw[←h3]at h2;simp at h2
    ·split at h3
     ·injection h3 with h3;rw[←h3]at h2;simp at h2
     ·cases h3
   ·cases h3
 obtain⟨k,hk2,rfl⟩:=Faa hr;have h4:=pb.1 hn k hk2;unfold jB at h4;rw[iaa hk2]at h4;dsimp only at h4;split at h4
 ·cases h4
 rename_i hw;unfold EG at hw;have hin:TH t.Rows[k].N t.Value l.Enums=true:=by
  cases hb:TH t.Rows[k].N t.Value l.Enums with
  |true=>rfl
  |false=>rw[hb]at hw;simp at hw
 unfold TH at hin;simp only[paa,decide_eq_true_eq]at hin;have:=bnd4 (t:=t.Value) (e:=l.Enums) hk;omega
theorem FE{l:GLaw}(h:Valid l) {env:GEnv}(ht:env.Tables=l.Tables) (hm:env.Members.length≤1048576):EnvOk env:=⟨by rw[ht];exact h.N2,hm⟩
def SA(l:GLaw) (x:GScope):GScope:=if h:0≤x.MemberScope∧x.MemberScope<(l.Scopes.length:Int)then l.Scopes[x.MemberScope.toNat]'(by omega)else⟨vaa #[],0,[],[],[]⟩
theorem gH{l:GLaw}(h:LawOk l) (x:GScope):ScE (SA l x):=by
 unfold SA;split
 ·exact tC h (raa _)
 ·exact⟨⟨by simp,by simp,by simp⟩,by simp⟩
theorem Hz{l:GLaw}(hl:LawOk l) (hV:Valid l) {i:Nat}(hi:i<l.Scopes.length) {d:Int}:∀m∈RA l.Scopes[i] d,0≤m∧m<((SA l l.Scopes[i]).Defs.length:Int):=by
 intro m hm;have hx:=tC hl (raa hi);unfold RA at hm;rw[(Rf _).2.2,Xaf]at hm;obtain⟨r,hr,hm⟩:=hm;have hr:=(tab.1 hr).1;obtain⟨k,hk,rfl⟩:=Faa hr;have ht:=UE (hV.S8 hi hk);have hn:=hx.n _ (raa hk);have hsig:((Qy l l.Scopes[i]).MemberDefs.length:Int)=((SA l l.Scopes[i]).Defs.length:Int):=by
  unfold Qy SA;split<;>simp
 rw[←hsig];have of:∀e:List GNode,(∀n∈e,Kc n)→(Gr e (Qy l l.Scopes[i])).2.2=0→m∈Et jo e→0≤m∧m<((Qy l l.Scopes[i]).MemberDefs.length:Int):=by
  intro e h1 h2 h3;unfold Et at h3;rw[(Rf _).2.2,Tab]at h3;obtain⟨n,h4,rfl⟩:=h3;obtain⟨h5,h6⟩:=tab.1 h4;exact lJ h1 h2 n h5 h6
 unfold Xw at hm;rcases Jaa.1 hm with h|h
 ·refine of _ hn.1 (ht.1 ?_) h;rcases gad l.Scopes[i].Rules[k].Guard.length with h0|h0
  ·rw[gae.1 h0]at h;simp[Et,Te]at h
  ·exact h0
 ·exact of _ hn.2 ht.2 h
theorem oP{l:GLaw}(hl:LawOk l) (hV:Valid l) {i:Nat}(hi:i<l.Scopes.length) {d:Int}:(RA l.Scopes[i] d).length≤1048576:=by
 have h1:=xy (a:=RA l.Scopes[i] d) (lo:=0) (hi:=((SA l l.Scopes[i]).Defs.length:Int)) (Rf _).1 (Hz hl hV hi);have:=(gH hl l.Scopes[i]).ok.defs;omega
end Go.Proofs.Dev
namespace Go.Proofs.Dev
open Go Go.Tm
theorem ZG{l:List GField}(hl:l.length≤1048576) {step:List GType×Int→Option (Ex (List GType×Int) (List GType) Unit)}
 (hs:∀a b,step (a,b)=if b<(l.length:Int)then(idx l b).bind fun x4=>(app 16 a ([x4.Type_])).bind fun x5=>some (Ex.go (x5,(ca .i64 (b+1))))else some (Ex.brk a)):ia step (([]:List GType),0)=some (.inl (l.map (·.Type_))):=by
 refine wi (fun i=>((l.take i).map (·.Type_),(i:Int))) l.length _ (fun i hi=>?_) ?_ rfl
 ·have h2:(l.take i).length≤l.length:=by rw[Qaa];omega
  rw[hs,if_pos (by omega),Na hi,haa,Sj (by simp;omega),haa,La (by omega),Zaa,iaa hi];simp only[zab,Cab,eab,Xac]
 ·rw[hs,if_neg (by omega),dab]
def LD(s:GScope) (d:Int):List Bool:=(waa s.Defs.length).map fun(k:Nat)=>wB s d (k:Int)
def Zw(ms:GScope) (l:List Int):List Bool:=(waa ms.Defs.length).map fun(k:Nat)=>l.any fun m=>wB ms m (k:Int)
theorem rE{s:GScope}(hs:ScOk s) {d:Int}(hd:0≤d∧d<(s.Defs.length:Int)) {f:Nat→Bool}{l:List Int}(hl:l.length≤1048576) (hm:∀x,x∈l↔Way s d x) {step:List Bool×Int→Option (Ex (List Bool×Int) (List Bool) Unit)}
 (hs:∀a b,step (a,b)=if b<(l.length:Int)then(idx l b).bind fun x=>(idx a x).bind fun _=>(put a x true).bind fun q=>some (.go (q,ca .i64 (b+1)))else some (.brk a)) :
 (idx ((waa s.Defs.length).map f) d).isSome=true∧∃q,put ((waa s.Defs.length).map f) d true=some q∧ia step (q,0)=some (.inl ((waa s.Defs.length).map fun(k:Nat)=>f k || wB s d (k:Int))):=by
 refine⟨by rw[pn hd.1 hd.2];rfl,_,Up hd.1 hd.2,?_⟩;rw[qB hl (fun x hx=>vt ((hm x).1 hx)) _ hs];congr 2;apply nac;intro k _;rw[oaf];congr 1;unfold wB;congr 1;rw[dac,xaa,xaa,hm,Fy]
theorem As{α:Type}{l:List α}{i:Int}(h:(idx l i).isSome=true):∃x,idx l i=some x:=Option.isSome_iff_exists.1 h
theorem R7{s:GScope}(hs:ScOk s) {d:Int}(hd:0≤d∧d<(s.Defs.length:Int)) {f:Nat→Bool}:kg s.Name s.MemberScope s.Inputs s.Defs s.Rules ((waa s.Defs.length).map f) d=some ((waa s.Defs.length).map fun(k:Nat)=>f k || wB s d (k:Int)):=by
 obtain⟨l,h1,h2,h3⟩:=xj hs d;obtain⟨m1,q,m2,m3⟩:=rE hs hd (f:=f) h2 h3 (step:=Wi l) (fun a b=>by unfold Wi;rfl);obtain⟨x,hx⟩:=As m1;unfold kg;rw[hx,haa,m2,haa,show pc ⟨s.Name,s.MemberScope,s.Inputs,s.Defs,s.Rules⟩ d=some l from h1,haa,m3];rfl
theorem UF{ms:GScope}{l:List Int}(hl:l.length≤1048576) (hm:∀m∈l,0≤m∧m<(ms.Defs.length:Int)) {step:List Bool×Int→Option (Ex (List Bool×Int) (List Bool) Unit)}{g:List Bool→Int→Option (List Bool)}
 (hg:∀f:Nat→Bool,∀m∈l,g ((waa ms.Defs.length).map f) m=some ((waa ms.Defs.length).map fun(k:Nat)=>f k || wB ms m (k:Int)))
 (hs:∀a b,step (a,b)=if b<(l.length:Int)then(idx l b).bind fun x=>(g a x).bind fun q=>some (.go (q,ca .i64 (b+1)))else some (.brk a)):ia step (maa ms.Defs.length false,0)=some (.inl (Zw ms l)):=by
 refine wi (fun i=>(Zw ms (l.take i),(i:Int))) l.length _ (fun i hi=>?_) ?_ (by simp[Zw,yw])
 ·rw[hs,if_pos (by omega),Na hi,haa];unfold Zw;rw[hg _ _ (raa hi),haa,La (by omega),Zaa,iaa hi];simp only[zab,oae,Dae,Nae,xad]
 ·rw[hs,if_neg (by omega),dab]
end Go.Proofs.Dev
namespace Go.Proofs.Dev
open Go Go.Tm
noncomputable def lI(l:GLaw) (i:Nat) (hi:i<l.Scopes.length) (d:Int):GInterp_needs:=
 ⟨⟨l.Scopes[i].Name,l.Scopes[i].MemberScope,l.Scopes[i].Inputs,l.Scopes[i].Defs,l.Scopes[i].Rules⟩,⟨(SA l l.Scopes[i]).Name,(SA l l.Scopes[i]).MemberScope,(SA l l.Scopes[i]).Inputs,(SA l l.Scopes[i]).Defs,(SA l l.Scopes[i]).Rules⟩,LD l.Scopes[i] d,Zw (SA l l.Scopes[i]) (RA l.Scopes[i] d)⟩
theorem az{l:GLaw}(hl:LawOk l) (hV:Valid l) (hfew:∀x∈l.Scopes,x.Rules.length≤64) {i:Nat}(hi:i<l.Scopes.length) {d:Int}(hd:0≤d∧d<(l.Scopes[i].Defs.length:Int)) {c:GCase}
 (hok:Tb l (i:Int) c true d=some iL):Uc l (i:Int) c d=(rf l (i:Int) c (lI l i hi d)).bind fun x61=>
 if¬x61.2.2.Code=0 then
  some ((GValue.mk 0 0 0),0,x61.2.2)
 else
 (idx x61.1.Values d).bind fun x63=>
 (idx x61.1.Rules d).bind fun x64=>
 some (x63,x64,(GEvalError.mk 0 0 0 0)):=by
 have hx:=tC hl (raa hi);have hms:=gH hl l.Scopes[i];have hmr:=Hz hl hV hi (d:=d);have hml:=oP hl hV hi (d:=d);have hfx:=hfew _ (raa hi);unfold Uc lI;rw[hok,haa,if_neg (by simp[iL])];have hI1:zj l (i:Int)=some (l.Scopes[i].Name,l.Scopes[i].MemberScope,l.Scopes[i].Inputs,l.Scopes[i].Defs,l.Scopes[i].Rules,(SA l l.Scopes[i]).Name,(SA l l.Scopes[i]).MemberScope,(SA l l.Scopes[i]).Inputs,(SA l l.Scopes[i]).Defs,(SA l l.Scopes[i]).Rules,maa l.Scopes[i].Defs.length false,maa (SA l l.Scopes[i]).Defs.length false):=by
  have hb:=(hV.C3 hi).1;have hd1:=hx.ok.defs;have hd2:=hms.ok.defs;unfold zj;rw[Na hi,haa];generalize l.Scopes[i]=x at hb hd1 hd2⊢;rw[Vx (by omega) (by omega),haa];by_cases h0:0≤x.MemberScope
  ·have hlt:x.MemberScope<(l.Scopes.length:Int):=by
    unfold Bw at hb;rw[if_neg (by omega),if_neg (by omega)]at hb;split at hb
    ·cases hb
    ·omega
   unfold SA at hd2⊢;rw[dif_pos ⟨h0,hlt⟩]at hd2⊢;rw[if_pos h0,Tk h0 hlt,haa,Vx (by omega) (by omega)];rfl
  ·unfold SA;rw[dif_neg (fun h=>h0 h.1),if_neg h0];rfl
 rw[hI1,haa];dsimp only;generalize SA l l.Scopes[i]=ms at hms hmr⊢;generalize hxx:l.Scopes[i]=x at *;have hd1:=hx.ok.defs;have hd2:=hms.ok.defs;have hI11:Li d x.Name x.MemberScope x.Inputs x.Defs x.Rules ms.Name ms.MemberScope ms.Inputs ms.Defs ms.Rules (maa x.Defs.length false) (maa ms.Defs.length false)=some (LD x d,Zw ms (RA x d)):=by
  obtain⟨lt,h1,h2,h3⟩:=xj hx.ok d;obtain⟨m1,q,m2,m3⟩:=rE hx.ok hd (f:=fun _=>false) h2 h3 (step:=Ii lt) (fun a b=>by unfold Ii;rfl);obtain⟨y,hy⟩:=As m1;unfold Li;rw[yw,hy,haa,m2,haa,show pc ⟨x.Name,x.MemberScope,x.Inputs,x.Defs,x.Rules⟩ d=some lt from h1,haa,m3,haa];dsimp only;rw[show Lg ⟨x.Name,x.MemberScope,x.Inputs,x.Defs,x.Rules⟩ d=some (RA x d)from fw hx.ok hd,haa];rw[UF (ms:=ms) (l:=RA x d) hml hmr (g:=fun a m=>kg ms.Name ms.MemberScope ms.Inputs ms.Defs ms.Rules a m) (fun f m hm=>R7 hms.ok (hmr m hm)) (step:=Oi ms.Name ms.MemberScope ms.Inputs ms.Defs ms.Rules (RA x d)) (fun a b=>by unfold Oi;rfl)];simp only[haa,lad,LD]
 rw[hI11];rfl
theorem CH{l:GLaw}(hV:Valid l) {x ms:GScope}(hx:ScE x) (hms:ScE ms) {c:GCase}(hc:c.Members.length≤1048576) {w wm:List Bool}(hmk:w.length=x.Defs.length) (hmm:wm.length=ms.Defs.length) (i:Int) :
 ∃p,rf l i c ⟨⟨x.Name,x.MemberScope,x.Inputs,x.Defs,x.Rules⟩,⟨ms.Name,ms.MemberScope,ms.Inputs,ms.Defs,ms.Rules⟩,w,wm⟩=some p∧(p.2.2.Code=0→ScopeR x.Defs.length p.1.Values p.1.Rules):=by
 have hd2:=hms.ok.defs;unfold rf;dsimp only;rw[ZG (l:=ms.Defs) hd2 (step:=Mi ⟨⟨x.Name,x.MemberScope,x.Inputs,x.Defs,x.Rules⟩,⟨ms.Name,ms.MemberScope,ms.Inputs,ms.Defs,ms.Rules⟩,w,wm⟩) (fun a b=>by unfold Mi;rfl),haa];dsimp only;have hlp:=nI (s:=Vi l c ⟨⟨x.Name,x.MemberScope,x.Inputs,x.Defs,x.Rules⟩,⟨ms.Name,ms.MemberScope,ms.Inputs,ms.Defs,ms.Rules⟩,w,wm⟩)
  (fun a=>∃j:Nat,j≤c.Members.length∧a.2.2=(j:Int)∧a.1.length=j∧a.2.1.length=j) (fun a=>(c.Members.length-a.2.2).toNat)
  (fun a=>a.1.length=c.Members.length) (fun a=>∃e:GEvalError,e.Code≠0∧a=(⟨[],[],[]⟩,⟨0,[],[],[],[],[]⟩,e)) (by
   rintro⟨a1,a2,a3⟩ ⟨j,j1,j2,j5,j6⟩;dsimp only at j2 j5 j6;subst j2;unfold Vi;dsimp only;by_cases hj:j<c.Members.length
   case neg=>
    rw[if_neg (by omega)];exact .inr (.inl ⟨_,rfl,by dsimp only;omega⟩)
   rw[if_pos (by omega)];rw[Na hj];simp only[haa];have he:EnvOk (GEnv.mk c.Date c.Members[j] [] [] [] l.Tables):=FE hV rfl (by simp);rcases tI hms he (w:=wm) (by rw[hmm]) (j:Int)with⟨v,r,s1,s3⟩|⟨e,env',s0,s1⟩
   ·rw[show ya ⟨ms.Name,ms.MemberScope,ms.Inputs,ms.Defs,ms.Rules⟩ _ _ _=_ from s1];simp only[haa,iL,not_true,if_false];rw[Sj (by simp;omega),haa,Sj (by simp;omega),haa,La (by omega)];exact .inl ⟨_,rfl,⟨j+1,by omega,rfl,by simp;omega,by simp;omega⟩,by dsimp only;omega⟩
   ·rw[show ya ⟨ms.Name,ms.MemberScope,ms.Inputs,ms.Defs,ms.Rules⟩ _ _ _=_ from s1];simp only[haa];rw[if_pos s0];exact .inr (.inr ⟨_,rfl,e,s0,rfl⟩)) (x:=(([]:List (List GValue)),([]:List GMemberResult),0)) ⟨0,Bab _,rfl,rfl,rfl⟩
 rcases hlp with⟨⟨a1,a2⟩,g1,g4⟩|⟨a,g1,e,e0,rfl⟩
 ·dsimp only at g4;rw[g1];simp only[haa];have he:EnvOk (GEnv.mk c.Date c.Inputs [] a1 (ms.Defs.map (·.Type_)) l.Tables):=FE hV rfl (by dsimp only;omega);rcases tI hx he (w:=w) (by rw[hmk]) (-1)with⟨v,r,s1,s3⟩|⟨e,env',s0,s1⟩
  ·rw[show ya ⟨x.Name,x.MemberScope,x.Inputs,x.Defs,x.Rules⟩ _ _ _=_ from s1];simp only[haa,iL,not_true,if_false];exact⟨_,rfl,fun _=>s3⟩
  ·rw[show ya ⟨x.Name,x.MemberScope,x.Inputs,x.Defs,x.Rules⟩ _ _ _=_ from s1];simp only[haa];rw[if_pos s0];exact⟨_,rfl,fun h=>absurd h s0⟩
 ·rw[g1];exact⟨_,rfl,fun h=>absurd h e0⟩
theorem fK{l:GLaw}(hl:LawOk l) (hV:Valid l) (hfew:∀x∈l.Scopes,x.Rules.length≤64) {i:Nat}(hi:i<l.Scopes.length) {d:Int}(hd:0≤d∧d<(l.Scopes[i].Defs.length:Int)) {c:GCase}(hc:c.Members.length≤1048576)
 (hok:Tb l (i:Int) c true d=some iL):∃p,Uc l (i:Int) c d=some p∧(p.2.2.Code=0→TQ p.1):=by
 rw[az hl hV hfew hi hd hok];obtain⟨p,p1,p2⟩:=CH hV (tC hl (raa hi)) (gH hl l.Scopes[i]) hc (w:=LD l.Scopes[i] d) (wm:=Zw (SA l l.Scopes[i]) (RA l.Scopes[i] d)) (by simp[LD]) (by simp[Zw]) (i:Int);unfold lI;rw[p1,haa];by_cases h0:p.2.2.Code=0
 case neg=>rw[if_pos h0];exact⟨_,rfl,fun h=>absurd h h0⟩
 rw[if_neg (saa.2 h0)];have s3:=p2 h0;rw[Tk hd.1 (by have:=s3.vl;omega),haa,Tk hd.1 (by have:=s3.rl;omega)];exact⟨_,rfl,fun _=>s3.vp _ (raa _)⟩
end Go.Proofs.Dev
namespace Go.Proofs.Dev
open Go Go.Tm
def Ul(l:GLaw) (x:GScope):List GField×Bool:=if h:0≤x.MemberScope∧x.MemberScope<(l.Scopes.length:Int)then((l.Scopes[x.MemberScope.toNat]'(by omega)).Inputs,true)else([],false)
theorem Is{l:GLaw}{i:Nat}(hi:i<l.Scopes.length):xc l (i:Int)=some (Ul l l.Scopes[i]):=by
 unfold xc Ul;rw[Na hi];simp only[haa,lU];generalize l.Scopes[i]=x;by_cases h:0≤x.MemberScope∧x.MemberScope<(l.Scopes.length:Int)
 ·have hc:decide (x.MemberScope<0∨(l.Scopes.length:Int)≤x.MemberScope)=false:=by rw[decide_eq_false_iff_not];omega
  rw[hc,dif_pos h,Tk h.1 h.2];rfl
 ·have hc:decide (x.MemberScope<0∨(l.Scopes.length:Int)≤x.MemberScope)=true:=by rw[decide_eq_true_eq];omega
  rw[hc,dif_neg h];rfl
theorem tA{l:GLaw}{i:Nat}(hi:i<l.Scopes.length):xe l (i:Int)=some ((Ul l l.Scopes[i]).1,if(Ul l l.Scopes[i]).2=true then 8 else 0):=by
 unfold xe Ul;rw[Na hi];simp only[haa,lU];generalize l.Scopes[i]=x;by_cases h:0≤x.MemberScope∧x.MemberScope<(l.Scopes.length:Int)
 ·have hc:decide (x.MemberScope<0∨(l.Scopes.length:Int)≤x.MemberScope)=false:=by rw[decide_eq_false_iff_not];omega
  rw[hc,dif_pos h,Tk h.1 h.2];rfl
 ·have hc:decide (x.MemberScope<0∨(l.Scopes.length:Int)≤x.MemberScope)=true:=by rw[decide_eq_true_eq];omega
  rw[hc,dif_neg h];rfl
def AL(l:GLaw) (x:GScope) (f:GFact):Option GType:=
 if f.Input = -1 then some ⟨1,0⟩else if f.Input<0 then none else((if f.Member = -1 then x.Inputs else(Ul l x).1)[f.Input.toNat]?).map (·.Type_)
noncomputable def cS(l:GLaw) (x:GScope) (members:Int) (f:GFact):Int:=
 if members≤f.Member then 6 else
 match AL l x f with
 |none=>6
 |some t=>if¬(f.Value.Kind=t.Kind∧f.Value.Enum=t.Enum)then 8 else if TH f.Value.N t l.Enums=false then 3 else 0
noncomputable def GU(l:GLaw) (x:GScope) (h:GHousehold) (i:Nat):Option (Int×Int):=
 match h.Facts[i]? with
 |some f=>if¬cS l x h.Members f=0 then some ((i:Int),cS l x h.Members f)else none
 |none=>none
theorem inO{n lo hi:Int}{α:Type}{k:Bool→Option α}:(jaa (α:=Bool) (if¬n<lo then some (decide (hi<n))else some true) k)=k (!(decide (lo≤n)&&decide (n≤hi))):=by
 by_cases h1:n<lo
 ·rw[if_neg (by omega),haa];congr 1;simp;omega
 ·rw[if_pos h1,haa];congr 1;by_cases h2:hi<n
  ·have e2:decide (n≤hi)=false:=by rw[decide_eq_false_iff_not];omega
   rw[e2];simp[h2]
  ·have e1:decide (lo≤n)=true:=by simp;omega
   have e2:decide (n≤hi)=true:=by simp;omega
   rw[e1,e2];simp<;>omega
theorem KU{a b c d:Int}{α:Type}{k:Bool→Option α}:(jaa (α:=Bool) (if a=b then some (c !=d)else some true) k)=k (decide (¬(a=b∧c=d))):=by
 by_cases h1:a=b
 ·rw[if_pos h1,haa];congr 1;by_cases h2:c=d<;>simp[h1,h2]
 ·rw[if_neg h1,haa];congr 1;simp[h1]
theorem U6{l:GLaw}{h:GHousehold}{i:Nat}(hi:i<l.Scopes.length) (hsc:h.Scope=(i:Int)) (hl:h.Facts.length≤128):ia (je l h (Ul l l.Scopes[i])) 0=some (ui () (ff (GU l l.Scopes[i] h) h.Facts.length)):=
 Uh (fun j=>(j:Int)) _ h.Facts.length () (fun j hj _=>by
  unfold je GU;rw[if_pos (by omega),Na hj,iaa hj,hsc,Na hi];simp only[haa];generalize h.Facts[j]=f;unfold cS;by_cases h1:h.Members≤f.Member
  ·rw[if_pos h1,if_pos h1,if_pos (by decide)];rfl
  rw[if_neg h1,if_neg h1];have hin:(if f.Member=(-1)then some l.Scopes[i].Inputs else some (Ul l l.Scopes[i]).1)=some (if f.Member = -1 then l.Scopes[i].Inputs else(Ul l l.Scopes[i]).1):=by split<;>rfl
  rw[hin,haa];unfold AL;generalize (if f.Member = -1 then l.Scopes[i].Inputs else(Ul l l.Scopes[i]).1)=inp;have fin:∀t:GType,(jaa (α:=Bool) (if f.Value.Kind=t.Kind then some (f.Value.Enum !=t.Enum)else some true) fun j28=>if j28=true then some (Ex.ret (((j:Nat):Int),(8:Int)):Ex Int Unit (Int×Int))else(wc (GType.mk t.Kind t.Enum) l.Enums).bind fun x30=>jaa (α:=Bool) (if¬f.Value.N<x30.1 then some (decide (x30.2<f.Value.N))else some true) fun j32=>if j32=true then some (Ex.ret (((j:Nat):Int),3))else some (Ex.go (ca .i64 ((j:Int)+1)))) =
   some (jw (((j+1:Nat):Int)) (if¬(if¬(f.Value.Kind=t.Kind∧f.Value.Enum=t.Enum)then(8:Int)else if TH f.Value.N t l.Enums=false then 3 else 0)=0 then some ((j:Int),(if¬(f.Value.Kind=t.Kind∧f.Value.Enum=t.Enum)then(8:Int)else if TH f.Value.N t l.Enums=false then 3 else 0))else none)):=by
   intro t;rw[KU,La (by omega)];by_cases h2:f.Value.Kind=t.Kind∧f.Value.Enum=t.Enum
   ·rw[decide_eq_false (p:=¬(f.Value.Kind=t.Kind∧f.Value.Enum=t.Enum)) (fun h=>h h2),if_neg (by simp),Fj,haa,inO];simp only[h2,not_true,and_self,if_false];unfold TH;by_cases h3:(decide ((qt t l.Enums).1≤f.Value.N)&&decide (f.Value.N≤(qt t l.Enums).2))=true
    ·rw[h3];simp[jw]
    ·rw[Aac.2 h3];simp[jw]
   ·rw[decide_eq_true h2,if_pos rfl,if_pos h2,if_pos (by decide)];rfl
  by_cases h2:f.Input = -1
  ·rw[if_neg (saa.2 h2),if_pos h2,haa];dsimp only;exact fin ⟨1,0⟩
  ·rw[if_pos h2,if_neg h2,lU];by_cases h3:f.Input<0∨(inp.length:Int)≤f.Input
   ·rw[decide_eq_true h3,if_pos rfl,haa];dsimp only;have:(if f.Input<0 then none else(inp[f.Input.toNat]?).map (·.Type_))=none:=by
     by_cases h4:f.Input<0
     ·rw[if_pos h4]
     ·rw[if_neg h4,Saa (by omega)];rfl
    rw[this];dsimp only;rw[if_pos (by decide)];rfl
   ·rw[decide_eq_false h3,if_neg (by simp),Tk (by omega) (by omega),haa,haa];dsimp only;have:(if f.Input<0 then none else(inp[f.Input.toNat]?).map (·.Type_))=some (inp[f.Input.toNat]'(by omega)).Type_:=by
     rw[if_neg (by omega),iaa (by omega)];rfl
    rw[this];exact fin _) (fun _=>by unfold je;simp)
noncomputable def gS(l:GLaw) (h:GHousehold):Int×Int:=
 match l.Scopes[h.Scope.toNat]? with
 |none=>(-1,6)
 |some x=>if h.Scope<0 then(-1,6)else if h.Id<0∨h.Members<0∨8<h.Members∨(h.Members≠0∧(Ul l x).2=false)then(-1,3)else
  if¬(Fu h.Facts).2=0 then Fu h.Facts else(ff (GU l x h) h.Facts.length).getD (0,0)
theorem DZ{a b c d:Prop} [Decidable a] [Decidable b] [Decidable c] [Decidable d] {m:Bool}{α:Type}{k:Bool→Option α}:(jaa (α:=Bool) (if¬a then if¬b then if¬c then if¬d then some (!m)else some false else some true else some true else some true) k)=k (decide (a∨b∨c∨(¬d∧m=false))):=by
 by_cases a<;>by_cases b<;>by_cases c<;>by_cases d<;>cases m<;>simp[*]
theorem Tj(l:GLaw) (h:GHousehold) (hl:l.Scopes.length≤1048576):Ce l h=some (gS l h):=by
 unfold Ce gS;rw[lU];by_cases hs:h.Scope<0∨(l.Scopes.length:Int)≤h.Scope
 ·rw[if_pos (by simpa using hs)];rcases hs with hs|hs
  ·cases l.Scopes[h.Scope.toNat]? with
   |none=>rfl
   |some x=>dsimp only;rw[if_pos hs]
  ·rw[Saa (by omega)]
 rw[if_neg (by simpa using hs)];obtain⟨i,hi⟩:=gac (show 0≤h.Scope by omega);have hil:i<l.Scopes.length:=by omega
 rw[hi,Is hil,haa,Rab,iaa hil];dsimp only;rw[DZ,if_neg (show¬((i:Int)<0) by omega)];by_cases hb:h.Id<0∨h.Members<0∨8<h.Members∨(¬h.Members=0∧(Ul l l.Scopes[i]).2=false)
 ·rw[if_pos (by simpa using hb),if_pos hb]
 rw[if_neg (by simpa using hb),if_neg hb,Rw,haa];by_cases hf:(Fu h.Facts).2=0
 case neg=>rw[if_pos hf,if_pos hf]
 rw[if_neg (saa.2 hf),if_neg (saa.2 hf),U6 hil hi (Pz hf).len,haa];cases ff (GU l l.Scopes[i] h) h.Facts.length<;>rfl
structure HhOk (l:GLaw) (h:GHousehold) (i:Nat):Prop where
 hi:i<l.Scopes.length
 sc:h.Scope=(i:Int)
 m:0≤h.Members∧h.Members≤8
 ms:h.Members≠0→(Ul l l.Scopes[i]).2=true
 f:FactsOk h.Facts
 t:∀f∈h.Facts,f.Member<h.Members∧∃t,AL l l.Scopes[i] f=some t∧f.Value.Kind=t.Kind∧f.Value.Enum=t.Enum∧TH f.Value.N t l.Enums=true
theorem YC{l:GLaw}{h:GHousehold}(hv:(gS l h).2=0):∃i,HhOk l h i:=by
 unfold gS at hv
 cases hx:l.Scopes[h.Scope.toNat]? with
 |none=>rw[hx]at hv;simp at hv
 |some x=>
  rw[hx]at hv;dsimp only at hv;split at hv
  ·simp at hv
  split at hv
  ·simp at hv
  split at hv
  ·rename_i h1;exact absurd hv h1
  rename_i h0 h1 h2;obtain⟨hlt,rfl⟩:=Caa.1 hx;refine⟨h.Scope.toNat,hlt,by omega,by omega,fun hm=>?_,Pz (Sab.1 h2),fun f hf=>?_⟩
  ·cases hb:(Ul l l.Scopes[h.Scope.toNat]).2 with
   |true=>rfl
   |false=>exact absurd (.inr (.inr (.inr ⟨hm,hb⟩))) h1
  ·have hn:ff (GU l l.Scopes[h.Scope.toNat] h) h.Facts.length=none:=by
    cases hff:ff (GU l l.Scopes[h.Scope.toNat] h) h.Facts.length with
    |none=>rfl
    |some v=>
     rw[hff]at hv;obtain⟨k,_,h3,_⟩:=Mb.1 hff;unfold GU at h3;split at h3
     ·split at h3
      ·rename_i h4;injection h3 with h3;rw[←h3]at hv;exact absurd hv h4
      ·cases h3
     ·cases h3
   obtain⟨k,hk,rfl⟩:=Faa hf;have:=pb.1 hn k hk;unfold GU at this;rw[iaa hk]at this;dsimp only at this;split at this
   ·cases this
   ·rename_i h4;have h4:=Sab.1 h4;unfold cS at h4;split at h4
    ·simp at h4
    rename_i h5;refine⟨by omega,?_⟩
    cases ht:AL l l.Scopes[h.Scope.toNat] h.Facts[k]with
    |none=>rw[ht]at h4;simp at h4
    |some t=>
     rw[ht]at h4;dsimp only at h4;split at h4
     ·simp at h4
     ·rename_i h6;have h6:=Sab.1 h6;split at h4
      ·simp at h4
      ·rename_i h7;exact⟨t,rfl,h6.1,h6.2,by simpa using h7⟩
end Go.Proofs.Dev
namespace Go.Proofs.Dev
open Go Go.Tm
noncomputable def Dy(l:List GFact) (m i d r:Int):GValue×Bool:=(Qj l m i d r).getD (⟨0,0,0⟩,false)
theorem vE{l:List GFact}(hl:l.length≤1048576) (m i d r:Int):Qj l m i d r=some (Dy l m i d r)∧
 ((Dy l m i d r=(⟨0,0,0⟩,false)∧∀f∈l,Xt m i d r f=false)∨∃f∈l,Dy l m i d r=(f.Value,true)∧Xt m i d r f=true∧∀g∈l,Xt m i d r g=true→below g f):=by
 obtain⟨p,h1,h3⟩:=qY hl m i d r;have:Dy l m i d r=p:=by unfold Dy;rw[h1];rfl
 rw[this];exact⟨h1,h3⟩
noncomputable def Ql(l:List GFact) (m:Int) (n:Nat) (d r:Int):List GValue×Bool:=
 if((waa n).all fun i=>(Dy l m (i:Int) d r).2)=true then((waa n).map fun(i:Nat)=>(Dy l m (i:Int) d r).1,true)else([],false)
theorem yQ{l:List GFact}{m:Int}{n:Nat}{d r:Int}:ff (fun i=>if(Dy l m (i:Int) d r).2=false then some (([],false):List GValue×Bool)else none) n=if((waa n).all fun i=>(Dy l m (i:Int) d r).2)=true then none else some ([],false):=by
 by_cases h:((waa n).all fun i=>(Dy l m (i:Int) d r).2)=true
 ·rw[if_pos h,pb];intro i hi;have:=Raa.1 h i (by simpa using hi);rw[if_neg (by rw[this];simp)]
 ·rw[if_neg h]
  cases hf:ff (fun i=>if(Dy l m (i:Int) d r).2=false then some (([],false):List GValue×Bool)else none) n with
  |none=>
   exfalso;apply h;rw[Raa];intro i hi;have:=pb.1 hf i (by simpa using hi);split at this
   ·cases this
   ·rename_i h2;simpa using h2
  |some v=>
   obtain⟨k,_,h2,_⟩:=Mb.1 hf;split at h2
   ·rw[←h2]
   ·cases h2
theorem oz{l:List GFact}(hl:l.length≤1048576) {n:Nat}(hn:n≤1048576) (m d r:Int):jd l m (n:Int) d r=some (Ql l m n d r):=by
 unfold jd;rw[Vx (by omega) (by omega),haa];have hlp:ia (Tc l m d r (maa n ⟨0,0,0⟩)) (maa n ⟨0,0,0⟩,0)=some (ui ((waa n).map fun(i:Nat)=>(Dy l m (i:Int) d r).1) (ff (fun i=>if(Dy l m (i:Int) d r).2=false then some (([],false):List GValue×Bool)else none) n)):=by
  refine Uh (step:=Tc l m d r (maa n ⟨0,0,0⟩)) (fun t=>(((waa n).map fun(i:Nat)=>(Dy l m (i:Int) d r).1).take t++maa (n-t) ⟨0,0,0⟩,(t:Int))) _ n _ (fun t ht _=>?_) (fun _=>?_) (by simp)
  ·unfold Tc;dsimp only;rw[if_pos (by simp;omega),(vE hl m (t:Int) d r).1,haa];by_cases h:(Dy l m (t:Int) d r).2=false
   ·rw[if_pos h,if_pos h];rfl
   ·rw[if_neg h,if_neg h,Na (by simp;omega),haa,Dv (by simp;omega),haa,La (by omega),Ty ht];unfold jw;dsimp only;congr 3;rw[Sac _ _ (by simp;omega),show t-(((waa n).map fun(i:Nat)=>(Dy l m (i:Int) d r).1).take t).length=0 by simp;omega,show n-t=(n-(t+1))+1 by omega,bac,iac];simp
  ·unfold Tc;dsimp only;rw[if_neg (by simp),cac,kac (by simp)];simp
 rw[hlp,yQ];unfold Ql;split<;>rfl
noncomputable def D8(l:List GFact) (d r:Int) (m:Nat):Bool:=(Dy l (m:Int) (-1) d r).2&&(decide ((Dy l (m:Int) (-1) d r).1.Kind=1)&&((Dy l (m:Int) (-1) d r).1.N==1))
theorem lW{l:List GFact}{d r:Int}{m:Nat}:D8 l d r m=((Dy l (m:Int) (-1) d r).2&&(decide ((Dy l (m:Int) (-1) d r).1.Kind=1)&&((Dy l (m:Int) (-1) d r).1.N==1))):=rfl
noncomputable def Ml(h:GHousehold) (d r:Int):List Int:=((waa (min (max h.Members 0) 8).toNat).filter (D8 h.Facts d r)).map fun(m:Nat)=>(m:Int)
theorem LG{v:GValue}{b:Bool}{α:Type}{k:Bool→Option α}:(jaa (α:=Bool) (if b=true then if v.Kind=1 then some (v.N==1)else some false else some false) k)=k (b&&(decide (v.Kind=1)&&(v.N==1))):=by
 cases b<;>by_cases h:v.Kind=1<;>simp[h]
theorem XD{h:GHousehold}(hl:h.Facts.length≤1048576) (d r:Int):Hf h d r=some (Ml h d r):=by
 obtain⟨n,hn⟩:∃n,(min (max h.Members 0) 8).toNat=n:=⟨_,rfl⟩;have hn8:n≤8:=by omega
 have bound:∀t,t≤n→(((waa t).filter (D8 h.Facts d r)).map fun(m:Nat)=>(m:Int)).length≤t:=by
  intro t _;rw[gab];exact Iab (Maa _ _) (by simp)
 have e1:ia (Md h d r) (([]:List Int),0)=some (.inl (Ml h d r)):=by
  refine wi (fun t=>(((waa t).filter (D8 h.Facts d r)).map fun(m:Nat)=>(m:Int),(t:Int))) n _ (fun t ht=>?_) ?_ rfl
  ·have:=bound t (by omega);unfold Md;dsimp only;rw[if_pos (by omega),(vE hl (t:Int) (-1) d r).1,haa,LG,La (by omega),Oac];simp only[uab,Cab,Gab,Vac];rw[lW];split
   ·rw[Sj (by simp at this⊢;omega)];simp
   ·simp
  ·unfold Md;dsimp only;rw[if_neg (by omega)];unfold Ml;rw[hn]
 unfold Hf;rw[e1];rfl
noncomputable def tn(l:GLaw) (x:GScope) (h:GHousehold) (d r:Int):GCase×Int:=
 if d<0∨109572<d then(⟨0,[],[]⟩,3)else
 if(Ql h.Facts (-1) x.Inputs.length d r).2=false then(⟨0,[],[]⟩,6)else
 if((Ml h d r).all fun m=>(Ql h.Facts m (Ul l x).1.length d r).2)=true then(⟨d,(Ql h.Facts (-1) x.Inputs.length d r).1,(Ml h d r).map fun m=>(Ql h.Facts m (Ul l x).1.length d r).1⟩,0)else(⟨0,[],[]⟩,6)
theorem SO{L:List Int}(hL:L.length≤1048576) {v:Int→List GValue×Bool}{g:Int→Option (List GValue×Bool)}(hg:∀m∈L,g m=some (v m)) {step:List (List GValue)×Int→Option (Ex (List (List GValue)×Int) (List (List GValue)) (GCase×Int))}
 (hs:∀a b,step (a,b)=if b<(L.length:Int)then(idx L b).bind fun m=>(g m).bind fun x=>if x.2=false then some (.ret (⟨0,[],[]⟩,6))else(app 24 a ([x.1])).bind fun q=>some (.go (q,ca .i64 (b+1)))else some (.brk a)) :
 ia step (([]:List (List GValue)),0)=some (if(L.all fun m=>(v m).2)=true then .inl (L.map fun m=>(v m).1)else .inr (⟨0,[],[]⟩,6)):=by
 have h1:ia step (([]:List (List GValue)),0)=some (ui (L.map fun m=>(v m).1) (ff (fun i=>if(L[i]?.any fun m=>!(v m).2)=true then some ((⟨0,[],[]⟩,6):GCase×Int)else none) L.length)):=by
  refine Uh (step:=step) (fun t=>((L.map fun m=>(v m).1).take t,(t:Int))) _ L.length _ (fun t ht _=>?_) (fun _=>?_) (by simp)
  ·rw[hs,if_pos (by omega),Na ht,haa,hg _ (raa ht),haa,iaa ht];simp only[Dac];by_cases hv:(v L[t]).2=false
   ·simp[hv,jw]
   ·rw[if_neg hv,Sj (by simp;omega),haa,La (by omega),Zaa];have hv':(v L[t]).2=true:=by simpa using hv
    simp[hv',jw,iaa ht]
  ·rw[hs,if_neg (by omega),kac (by simp)]
 rw[h1];by_cases ha:(L.all fun m=>(v m).2)=true
 ·rw[if_pos ha,pb.2 (fun i hi=>by
   rw[iaa hi,Dac,if_neg];have:=Raa.1 ha _ (raa hi);rw[this];simp)]
  rfl
 ·rw[if_neg ha]
  cases hf:ff (fun i=>if(L[i]?.any fun m=>!(v m).2)=true then some ((⟨0,[],[]⟩,6):GCase×Int)else none) L.length with
  |none=>
   exfalso;apply ha;rw[Raa];intro m hm;obtain⟨k,hk,rfl⟩:=Faa hm;have:=pb.1 hf k hk;rw[iaa hk,Dac]at this;split at this
   ·cases this
   ·rename_i h2;simpa using h2
  |some w=>
   obtain⟨k,_,h2,_⟩:=Mb.1 hf;split at h2
   ·rw[←h2];rfl
   ·cases h2
theorem pB(h:GHousehold) (d r:Int):(Ml h d r).length≤8:=by
 unfold Ml;rw[gab];exact Iab (Maa _ _) (by simp;omega)
theorem kE{l:GLaw}(hl:LawOk l) (x:GScope):(Ul l x).1.length≤1048576:=by
 unfold Ul;split
 ·exact(hl.s _ (raa _)).2.2.1
 ·simp
theorem mM{l:GLaw}(hl:LawOk l) (hV:(Pk l).Code=0) {h:GHousehold}(hv:(gS l h).2=0) {i:Nat}(hi:i<l.Scopes.length) (hsc:h.Scope=(i:Int)) (d r:Int):Yf l h d r=some (tn l l.Scopes[i] h d r):=by
 have hin:=(hl.s _ (raa hi)).2.2.1;have hms:=kE hl l.Scopes[i];have hml:=pB h d r;obtain⟨i',hok⟩:=YC hv;have hf:h.Facts.length≤1048576:=by have:=hok.f.len;omega
 unfold Yf tn;rw[Rj hl,haa,Fs hV,if_neg (by simp),Tj l h hl.ns,haa,if_neg (saa.2 hv),lU];by_cases hd:d<0∨109572<d
 ·rw[if_pos (by simpa using hd),if_pos hd]
 rw[if_neg (by simpa using hd),if_neg hd,hsc,Na hi,haa,oz hf hin,haa];by_cases hv:(Ql h.Facts (-1) l.Scopes[i].Inputs.length d r).2=false
 ·rw[if_pos hv,if_pos hv]
 rw[if_neg hv,if_neg hv,Is hi,haa,XD hf d r,haa];rw[SO (L:=Ml h d r) (by omega) (v:=fun m=>Ql h.Facts m (Ul l l.Scopes[i]).1.length d r) (g:=fun m=>jd h.Facts m ((Ul l l.Scopes[i]).1.length:Int) d r) (fun m _=>oz hf hms m d r) (step:=Hh h d r (Ul l l.Scopes[i]) (Ml h d r)) (fun a b=>by unfold Hh;rfl),haa];by_cases ha:((Ml h d r).all fun m=>(Ql h.Facts m (Ul l l.Scopes[i]).1.length d r).2)=true
 ·rw[if_pos ha,if_pos ha]
 ·rw[if_neg ha,if_neg ha]
def nN(l:GLaw) (fs:List GField) (vs:List GValue):Prop:=vs.length=fs.length∧∀j (h1:j<vs.length) (h2:j<fs.length),vs[j].Kind=fs[j].Type_.Kind∧vs[j].Enum=fs[j].Type_.Enum∧TH vs[j].N fs[j].Type_ l.Enums=true
theorem ft{l:GLaw}{fs:List GField}{vs:List GValue}(hl:fs.length≤1048576) (h:nN l fs vs):kd l vs fs=some (0,0):=by
 obtain⟨h1,h2⟩:=h;unfold kd;rw[if_neg (by omega),if_neg (by omega)];have:ia (od l vs fs) 0=some (.inl ()):=by
  refine wi (fun i=>(i:Int)) vs.length _ (fun i hi=>?_) ?_ rfl
  ·obtain⟨a,b,c⟩:=h2 i hi (by omega);unfold od;rw[if_pos (by omega),Na hi,haa,Na (by omega),haa,KU,decide_eq_false (p:=¬(vs[i].Kind=(fs[i]'(by omega)).Type_.Kind∧vs[i].Enum=(fs[i]'(by omega)).Type_.Enum)) (fun h=>h ⟨a,b⟩),if_neg (by simp),Fj,haa,inO];unfold TH at c;rw[c,La (by omega)];rfl
  ·unfold od;rw[if_neg (by omega)]
 rw[this];rfl
theorem SI{l:GLaw}{x:GScope}{h:GHousehold}{i:Nat}(hh:HhOk l h i) (hx:l.Scopes[i]'hh.hi=x) {m:Int}{fs:List GField}(hm:fs=if m = -1 then x.Inputs else(Ul l x).1) {d r:Int}(hv:(Ql h.Facts m fs.length d r).2=true):nN l fs (Ql h.Facts m fs.length d r).1:=by
 unfold Ql at hv⊢;split at hv
 case isFalse=>cases hv
 rename_i ha;rw[if_pos ha];refine⟨by simp,fun j h1 h2=>?_⟩;simp only[gab,Dad]at h1;simp only[eac,vac];have hj:=Raa.1 ha j (by simpa using h1);have hf:h.Facts.length≤1048576:=by have:=hh.f.len;omega
 rcases(vE hf m (j:Int) d r).2 with⟨e,-⟩|⟨f,f1,f2,f3,-⟩
 ·rw[e]at hj;cases hj
 ·rw[f2];dsimp only;obtain⟨-,t,t1,t2,t3,t4⟩:=hh.t f f1;unfold Xt at f3;simp only[paa,decide_eq_true_eq]at f3;unfold AL at t1;rw[if_neg (by omega),if_neg (by omega),f3.1,f3.2.1,hx,←hm,Rab,iaa h2]at t1;obtain rfl:=Uaa t1;exact⟨t2,t3,t4⟩
theorem xI{l:GLaw}(hl:LawOk l) (hV:(Pk l).Code=0) {h:GHousehold}{i:Nat}(hh:HhOk l h i) {d r:Int}(hc:(tn l (l.Scopes[i]'hh.hi) h d r).2=0) {def_:Int}(hd:0≤def_∧def_<((l.Scopes[i]'hh.hi).Defs.length:Int)) :
 Tb l (i:Int) (tn l (l.Scopes[i]'hh.hi) h d r).1 true def_=some iL∧(tn l (l.Scopes[i]'hh.hi) h d r).1.Members.length≤8:=by
 have hi:=hh.hi;have hin:=(hl.s _ (raa hi)).2.2.1;have hms:=kE hl l.Scopes[i];have hml:=pB h d r;have hns:=hl.ns;unfold tn at hc⊢;split at hc
 ·simp at hc
 rename_i h1;rw[if_neg h1];split at hc
 ·simp at hc
 rename_i h2;rw[if_neg h2];split at hc
 case isFalse=>simp at hc
 rename_i h3;rw[if_pos h3];have h2:(Ql h.Facts (-1) l.Scopes[i].Inputs.length d r).2=true:=by simpa using h2
 have v1:=SI hh rfl (m:=-1) (fs:=l.Scopes[i].Inputs) (by rw[if_pos rfl]) h2;refine⟨?_,by simpa using hml⟩;unfold Tb;rw[Rj hl,haa,if_neg (saa.2 hV),Na hi,haa];have hcond:(if¬(i:Int)<0 then if¬(l.Scopes.length:Int)≤(i:Int)then if true=true then if¬def_<0 then some (decide ((l.Scopes[i].Defs.length:Int)≤def_))else some true else some false else some true else some true)=some false:=by
  rw[if_pos (by omega),if_pos (by omega),if_pos rfl,if_pos (by omega),decide_eq_false (by omega)]
 rw[hcond,haa,if_neg (by simp)];have hcv:lh l (i:Int) ⟨d,(Ql h.Facts (-1) l.Scopes[i].Inputs.length d r).1,(Ml h d r).map fun m=>(Ql h.Facts m (Ul l l.Scopes[i]).1.length d r).1⟩=some (0,0,0):=by
  unfold lh;dsimp only;rw[lU,if_neg (by simp;omega),lU,if_neg (by simp;omega),Na hi,haa,ft hin v1,haa,if_neg (by simp),tA hi,haa];have hlim:¬(if(Ul l l.Scopes[i]).2=true then(8:Int)else 0)<(((Ml h d r).map fun m=>(Ql h.Facts m (Ul l l.Scopes[i]).1.length d r).1).length:Int):=by
   rw[gab];split
   ·omega
   ·rename_i hb;have hm0:h.Members=0:=Zad fun h0=>hb (hh.ms h0);unfold Ml;rw[hm0,show(min (max (0:Int) 0) 8).toNat=0 from by decide];simp
  rw[if_neg hlim];have hlp:ia (df l ⟨d,(Ql h.Facts (-1) l.Scopes[i].Inputs.length d r).1,(Ml h d r).map fun m=>(Ql h.Facts m (Ul l l.Scopes[i]).1.length d r).1⟩ ((Ul l l.Scopes[i]).1,if(Ul l l.Scopes[i]).2=true then 8 else 0)) 0=some (.inl ()):=by
   refine wi (fun i=>(i:Int)) (Ml h d r).length _ (fun j hj=>?_) ?_ rfl
   ·unfold df;dsimp only;rw[if_pos (by simp;omega),Na (by simpa using hj),haa];simp only[eac];have hmj:=raa hj;have hvj:=Raa.1 h3 _ hmj;have hne:(Ml h d r)[j]≠-1:=by
     unfold Ml at hmj;rw[Tab]at hmj;obtain⟨k,-,hk⟩:=hmj;unfold Ml;omega
    rw[ft hms (SI hh rfl (fs:=(Ul l l.Scopes[i]).1) (by rw[if_neg hne]) hvj),haa,if_neg (by simp),La (by omega)]
   ·unfold df;dsimp only;rw[if_neg (by simp)]
  rw[hlp];rfl
 rw[hcv];rfl
end Go.Proofs.Dev
namespace Go.Proofs.Dev
open Go Go.Tm
structure ConfOk (l:GLaw) (i:Nat) (c:GPayConfig):Prop where
 v:(Pk l).Code=0
 hi:i<l.Scopes.length
 d:0≤c.Def∧c.Def<((l.Scopes[i]'hi).Defs.length:Int)
 r:0≤c.Rounding∧c.Rounding≤5
theorem lM{l:GLaw}(h:LawOk l) {c:GPayConfig}{sc:Int}(hv:db l sc c=some 0):∃i:Nat,sc=(i:Int)∧ConfOk l i c:=by
 unfold db at hv;rw[Rj h,haa]at hv;by_cases hV:(Pk l).Code=0
 case neg=>rw[if_pos (fun h=>hV h.1)]at hv;cases hv
 rw[Fs hV,if_neg (by simp)]at hv;by_cases h1:sc<0
 ·rw[if_neg (by omega),haa,if_pos rfl]at hv;cases hv
 by_cases h2:(l.Scopes.length:Int)≤sc
 ·rw[if_pos h1,if_neg (by omega),haa,if_pos rfl]at hv;cases hv
 by_cases h3:c.Def<0
 ·rw[if_pos h1,if_pos h2,if_neg (by omega),haa,if_pos rfl]at hv;cases hv
 obtain⟨i,rfl⟩:=gac (show 0≤sc by omega);have hi:i<l.Scopes.length:=by omega
 rw[if_pos h1,if_pos h2,if_pos h3,Na hi]at hv;simp only[haa]at hv;by_cases h4:(l.Scopes[i].Defs.length:Int)≤c.Def
 ·rw[decide_eq_true h4,if_pos rfl]at hv;cases hv
 rw[decide_eq_false h4,if_neg (by simp),Tk (by omega) (by omega)]at hv;simp only[haa,rng]at hv;split at hv
 ·cases hv
 by_cases h5:0≤c.Rounding∧c.Rounding≤5
 ·exact⟨i,rfl,hV,hi,by omega,h5⟩
 ·exfalso;have:(if¬c.Rounding<0 then if¬5<c.Rounding then(Of c.Calendar).bind fun x14=>some (!x14)else some true else some true)=some true:=by
   by_cases g:c.Rounding<0
   ·rw[if_neg (by omega)]
   ·rw[if_pos g,if_neg (by omega)]
  rw[this,haa,if_pos rfl]at hv;cases hv
noncomputable def Ig(l:GLaw) (i:Nat) (h:GHousehold) (def_ rec d:Int):GValue×Int:=
 match l.Scopes[i]? with
 |none=>(⟨0,0,0⟩,1)
 |some x=>
  if¬(tn l x h d rec).2=0 then(⟨0,0,0⟩,(tn l x h d rec).2)else
  ((((Uc l (i:Int) (tn l x h d rec).1 def_).getD (⟨0,0,0⟩,0,iL)).1),((Uc l (i:Int) (tn l x h d rec).1 def_).getD (⟨0,0,0⟩,0,iL)).2.2.Code)
structure Ctx (l:GLaw) (h:GHousehold) (c:GPayConfig) (i:Nat):Prop where
 ok:LawOk l
 C3:∀x∈l.Scopes,x.Rules.length≤64
 cf:ConfOk l i c
 hv:(gS l h).2=0
 sc:h.Scope=(i:Int)
theorem dY{v:GValue}(h:TQ v):-1000000000000000≤v.N∧v.N≤1000000000000000:=by
 rcases h with h|h
 ·subst h;decide
 ·have:=h.range;omega
def Jq:Int→List GDateRange→Int→Prop
 |a,[],b=>a=b
 |a,p::l,b=>p.From=a∧p.From<p.To∧Jq p.To l b
theorem Ax{to:Int}:∀{a:Int}{l:List Int},a<to→l.Pairwise (·<·)→(∀x∈l,a<x∧x<to)→Jq a (Kr to a l) to
 |a,[],h,_,_=>⟨rfl,h,rfl⟩
 |a,x::l,h,hp,hm=>by
  rw[jac]at hp;have hx:=hm x (by simp);exact⟨rfl,hx.1,Ax hx.2 hp.2 fun y hy=>⟨hp.1 y hy,(hm y (by simp[hy])).2⟩⟩
def Tt(v:Int→Int) (l:List GDateRange):Int:=(l.map fun p=>v p.From*(p.To-p.From)).sum
def wq(l:List GDateRange):Int:=(l.map fun p=>p.To-p.From).sum
theorem Yo:∀{a b:Int}{l:List GDateRange},Jq a l b→wq l=b-a∧a≤b
 |a,b,[],h=>by simp only[Jq]at h;subst h;simp[wq]
 |a,b,p::l,h=>by
  obtain⟨h1,h2,h3⟩:=h;obtain⟨h4,h5⟩:=Yo h3;simp only[wq,eab,paf]at h4⊢;omega
theorem UJ{v:Int→Int}{l:List GDateRange}{p:GDateRange}:Tt v (l++[p])=Tt v l+v p.From*(p.To-p.From):=by simp[Tt]
theorem OJ{l:List GDateRange}{p:GDateRange}:wq (l++[p])=wq l+(p.To-p.From):=by simp[wq]
theorem Yz:∀{a b:Int}{l:List GDateRange}(j:Nat),Jq a l b→∃c,Jq a (l.take j) c∧c≤b
 |a,b,l,0,h=>⟨a,by simp[Jq],(Yo h).2⟩
 |a,b,[],j+1,h=>⟨b,by simpa using h,kad _⟩
 |a,b,p::l,j+1,h=>by
  obtain⟨h1,h2,h3⟩:=h;obtain⟨c,h4,h5⟩:=Yz j h3;exact⟨c,⟨h1,h2,h4⟩,h5⟩
theorem lC:∀{a b:Int}{l:List GDateRange},Jq a l b→∀p∈l,a≤p.From∧p.From<p.To∧p.To≤b
 |a,b,[],h,p,hp=>by simp at hp
 |a,b,q::l,h,p,hp=>by
  obtain⟨h1,h2,h3⟩:=h;have h4:=(Yo h3).2;rcases fab.1 hp with rfl|hp
  ·omega
  ·have:=lC h3 p hp;omega
theorem O6{n k:Int}{B:Nat}(h1:-(B:Int)≤n∧n≤B) (h2:0≤k):-(B*k)≤n*k∧n*k≤B*k:=by
 constructor
 ·rw[←Int.neg_mul];exact Had h1.1 h2
 ·exact Had h1.2 h2
theorem fH{v:Int→Int}:∀{a b:Int}{l:List GDateRange},Jq a l b→(∀p∈l,-1000000000000000≤v p.From∧v p.From≤1000000000000000)→-(1000000000000000*wq l)≤Tt v l∧Tt v l≤1000000000000000*wq l
 |a,b,[],h,hv=>by simp[Tt,wq]
 |a,b,p::l,h,hv=>by
  obtain⟨h1,h2,h3⟩:=h;have ih:=fH h3 fun q hq=>hv q (by simp[hq]);have hp:=O6 (n:=v p.From) (k:=p.To-p.From) (B:=1000000000000000) (hv p (by simp)) (by omega);simp only[Tt,wq,eab,paf]at ih⊢;rw[Zaf];omega
noncomputable def DJ(v:Int→GValue×Int) (rounding:Int) (l:List GDateRange):Int×Int:=
 match ff (fun j=>match l[j]? with|some p=>if¬(v p.From).2=0 then some (v p.From).2 else none|none=>none) l.length with
 |some e=>(0,e)
 |none=>(max (vQ (Tt (fun d=>(v d).1.N) l) (wq l) rounding).1 0,0)
end Go.Proofs.Dev
namespace Go.Proofs.Dev
open Go Go.Tm
theorem qI{l:GLaw}{h:GHousehold}{c:GPayConfig}{i:Nat}(H:Ctx l h c i) (rec d:Int):∃q:GCase×Int,Yf l h d rec=some q∧
 ((q.2≠0∧Ig l i h c.Def rec d=(⟨0,0,0⟩,q.2))∨(q.2=0∧∃p,Uc l h.Scope q.1 c.Def=some p∧Ig l i h c.Def rec d=(p.1,p.2.2.Code)∧(p.2.2.Code=0→TQ p.1))):=by
 have hi:=H.cf.hi;obtain⟨i',hh⟩:=YC H.hv;have hii:i'=i:=by have:=hh.sc;have:=H.sc;omega
 subst hii;refine⟨tn l l.Scopes[i'] h d rec,mM H.ok H.cf.v H.hv hi H.sc d rec,?_⟩;unfold Ig;rw[iaa hi];dsimp only;by_cases hc:(tn l l.Scopes[i'] h d rec).2=0
 ·right;refine⟨hc,?_⟩;obtain⟨k1,k2⟩:=xI H.ok H.cf.v hh hc H.cf.d;obtain⟨p,p1,p3⟩:=fK H.ok (PA H.cf.v) H.C3 hi H.cf.d (by omega) k1;rw[if_neg (saa.2 hc),H.sc,p1];exact⟨p,rfl,rfl,p3⟩
 ·left;exact⟨hc,if_pos hc⟩
theorem Vy{l:GLaw}{h:GHousehold}{c:GPayConfig}{i:Nat}(H:Ctx l h c i) (rec d:Int) (h0:(Ig l i h c.Def rec d).2=0):-1000000000000000≤(Ig l i h c.Def rec d).1.N∧(Ig l i h c.Def rec d).1.N≤1000000000000000:=by
 obtain⟨q,-,hq⟩:=qI H rec d;rcases hq with⟨q1,q2⟩|⟨-,p,-,p3,p4⟩
 ·rw[q2]at h0;exact absurd h0 q1
 ·rw[p3]at h0⊢;exact dY (p4 h0)
theorem SE{l:GLaw}{h:GHousehold}{c:GPayConfig}{i:Nat}(H:Ctx l h c i) {q:List GDateRange}{a b:Int}(hq:Jq a q b) (hab:a<b∧b-a≤31) (hlen:q.length≤65536) (rec:Int) :
 Si l h c q rec=some (DJ (Ig l i h c.Def rec) c.Rounding q):=by
 have hstep:∀j (hj:j<q.length),(∀k,k<j→(match q[k]? with|some p=>if¬(Ig l i h c.Def rec p.From).2=0 then some (Ig l i h c.Def rec p.From).2 else none|none=>(none:Option Int))=none)→
  (0≤wq (q.take j)∧wq (q.take j)≤31)∧-(1000000000000000*wq (q.take j))≤Tt (fun d=>(Ig l i h c.Def rec d).1.N) (q.take j)∧Tt (fun d=>(Ig l i h c.Def rec d).1.N) (q.take j)≤1000000000000000*wq (q.take j):=by
  intro j hj hn;obtain⟨e,h1,h2⟩:=Yz j hq;obtain⟨h3,h4⟩:=Yo h1;refine⟨by omega,fH h1 fun p hp=>?_⟩;obtain⟨k,hk,rfl⟩:=Faa hp;rw[Qaa]at hk;have:=hn k (by omega);rw[iaa (by omega)]at this;dsimp only at this;split at this
  ·cases this
  ·rename_i h0;rw[zac];exact Vy H rec _ (Sab.1 h0)
 have hfull:(∀k,k<q.length→(match q[k]? with|some p=>if¬(Ig l i h c.Def rec p.From).2=0 then some (Ig l i h c.Def rec p.From).2 else none|none=>(none:Option Int))=none)→
  -(1000000000000000*wq q)≤Tt (fun d=>(Ig l i h c.Def rec d).1.N) q∧Tt (fun d=>(Ig l i h c.Def rec d).1.N) q≤1000000000000000*wq q:=by
  intro hn;refine fH hq fun p hp=>?_;obtain⟨k,hk,rfl⟩:=Faa hp;have:=hn k hk;rw[iaa hk]at this;dsimp only at this;split at this
  ·cases this
  ·rename_i h0;exact Vy H rec _ (Sab.1 h0)
 generalize hV:Ig l i h c.Def rec=V at *;have hgo:∀j (hj:j<q.length),(∀k,k<j→(match q[k]? with|some p=>if¬(V p.From).2=0 then some (V p.From).2 else none|none=>(none:Option Int))=none)→
  (-1000000000000000≤(V q[j].From).1.N∧(V q[j].From).1.N≤1000000000000000∨¬(V q[j].From).2=0):=by
  intro j hj _;by_cases h0:(V q[j].From).2=0
  ·left;have:=Vy H rec q[j].From (by rw[hV];exact h0);rw[hV]at this;exact this
  ·exact .inr h0
 have e1:ia (Ng l h c q rec) (0,0,0)=some (ui (Tt (fun d=>(V d).1.N) q,wq q) (ff (fun j=>(match q[j]? with|some p=>if¬(V p.From).2=0 then some (V p.From).2 else none|none=>(none:Option Int)).map fun e=>((0:Int),e)) q.length)):=by
  refine Uh (step:=Ng l h c q rec) (fun j=>(Tt (fun d=>(V d).1.N) (q.take j),wq (q.take j),(j:Int))) _ q.length _ (fun j hj hn=>?_) (fun _=>?_) rfl
  ·have hn':∀k,k<j→(match q[k]? with|some p=>if¬(V p.From).2=0 then some (V p.From).2 else none|none=>(none:Option Int))=none:=fun k hk=>by
    have:=hn k hk
    cases hh:(match q[k]? with|some p=>if¬(V p.From).2=0 then some (V p.From).2 else none|none=>(none:Option Int))with
    |none=>rfl
    |some v=>rw[hh]at this;cases this
   obtain⟨s1,s2,s3⟩:=hstep j hj hn';have hm:=lC hq _ (raa hj);obtain⟨z,z1,z3⟩:=qI H rec q[j].From;rw[hV]at z3;have hb:=hgo j hj hn';unfold Ng;dsimp only;rw[if_pos (by omega),Na hj,haa,z1,haa,iaa hj];dsimp only;rcases z3 with⟨y1,y2⟩|⟨y1,p,y2,y3,y4⟩
   ·rw[if_pos y1,y2,if_pos y1];rfl
   ·rw[if_neg (saa.2 y1),y2,haa];have yN:(V q[j].From).1=p.1:=by rw[y3]
    have yC:(V q[j].From).2=p.2.2.Code:=by rw[y3]
    by_cases h0:p.2.2.Code=0
    ·rw[if_neg (saa.2 h0),yC,if_neg (saa.2 h0)];have hbN:-1000000000000000≤p.1.N∧p.1.N≤1000000000000000:=by
      rcases hb with hb|hb
      ·rw[yN]at hb;exact hb
      ·exact absurd (yC.trans h0) hb
     have hpl:=O6 (n:=p.1.N) (k:=q[j].To-q[j].From) (B:=1000000000000000) hbN (by omega);rw[show((1000000000000000:Nat):Int)=1000000000000000 from rfl]at hpl;rw[wid (n:=q[j].To-q[j].From) (by omega) (by omega),wid (n:=p.1.N*(q[j].To-q[j].From)) (by omega) (by omega),wid (by omega) (by omega),wid (by omega) (by omega),La (by omega),Zaa,iaa hj];simp only[zab,UJ,OJ,yN];rfl
    ·rw[if_pos h0,yC,if_pos h0];rfl
  ·unfold Ng;dsimp only;rw[if_neg (by omega),dab]
 have hmap:∀{ρ:Type} (g:Int→ρ),ff (fun j=>(match q[j]? with|some p=>if¬(V p.From).2=0 then some (V p.From).2 else none|none=>(none:Option Int)).map g) q.length=(ff (fun j=>match q[j]? with|some p=>if¬(V p.From).2=0 then some (V p.From).2 else none|none=>(none:Option Int)) q.length).map g:=fun g=>GW g;unfold Si DJ;rw[e1,hmap];obtain⟨d1,d2⟩:=Yo hq
 cases hf:ff (fun j=>match q[j]? with|some p=>if¬(V p.From).2=0 then some (V p.From).2 else none|none=>(none:Option Int)) q.length with
 |some e=>rfl
 |none=>
  have hw:=hfull (pb.1 hf);simp only[Option.map_none,CM,haa];rw[mi];simp only[haa];have hr:=H.cf.r;have hdz:(vQ (Tt (fun d=>(V d).1.N) q) (wq q) c.Rounding).2=0:=by
   unfold vQ;rw[if_neg (saa.2 hr),if_neg (by omega),if_neg (by omega)]
  rw[hdz,if_neg (by simp)]
end Go.Proofs.Dev
namespace Go.Proofs.Dev
open Go Go.Tm
noncomputable def RF(l:GLaw) (h:GHousehold) (rec:Int):List Int:=Te ((Te (ends (mB rec h.Facts))).filter Hg++(Te (ends (Zp l.Tables++Sp l.Scopes))).filter Hg)
noncomputable def eL(l:GLaw) (h:GHousehold) (m rec:Int):List GDateRange:=Kr (ub m).1.To (ub m).1.From ((RF l h rec).filter (inside (ub m).1))
theorem wI{m:Int}(hm:(ub m).2=0):(ub m).1.From<(ub m).1.To∧(ub m).1.To-(ub m).1.From≤31∧0≤m∧m≤3599:=by
 have hr:=Nq hm;unfold ub at hm;split at hm
 case isFalse=>simp at hm
 rename_i hc;have hd:=Ri (y:=1900+((m.toNat / 12:Nat):Int)) (m:=((m.toNat % 12:Nat):Int)+1);have e:(ub m).1.To-(ub m).1.From=oj (1900+((m.toNat / 12:Nat):Int)) (((m.toNat % 12:Nat):Int)+1):=by
  unfold ub;rw[if_pos hc];dsimp only;omega
 exact⟨hr.2.1,by omega,hc.1,hc.2⟩
theorem Xz{l:GLaw}(hl:LawOk l) (C3:∀x∈l.Scopes,x.Rules.length≤64) {h:GHousehold}(hh:h.Facts.length≤1048576) {c:GPayConfig}(hc:c.Calendar.Holidays.length≤1048576) :
 ∃b,Od l h c=some b∧(b=true→∃i,Ctx l h c i):=by
 obtain⟨n,n1⟩:=EL hl hc h.Scope;unfold Od;rw[n1,Tj l h hl.ns];simp only[haa];by_cases h0:n=0
 ·rw[if_neg (saa.2 h0)];refine⟨_,rfl,fun hb=>?_⟩;subst h0;obtain⟨i,hi,hcf⟩:=lM hl n1;exact⟨i,hl,C3,hcf,by simpa using hb,hi⟩
 ·rw[if_pos h0];exact⟨false,rfl,fun h=>by cases h⟩
noncomputable def oD(l:GLaw) (h:GHousehold) (c:GPayConfig) (m rec:Int):GAward:=
 if¬(ub m).2=0 then⟨m,0,3⟩else if(Od l h c).getD false=false then⟨m,0,1⟩else
 ⟨m,(DJ (Ig l h.Scope.toNat h c.Def rec) c.Rounding (eL l h m rec)).1,(DJ (Ig l h.Scope.toNat h c.Def rec) c.Rounding (eL l h m rec)).2⟩
end Go.Proofs.Dev
namespace Go.Proofs.Dev
open Go Go.Tm
theorem yV{l:GLaw}{h:GHousehold}(rec:Int) (hl:FewR l) (hh:h.Facts.length≤40):Sc l h rec=some (RF l h rec)∧(RF l h rec).Pairwise (·<·)∧(RF l h rec).length≤65536∧
 ∀x,x∈RF l h rec↔(x∈ends (mB rec h.Facts)∧Hg x=true)∨(x∈ends (Zp l.Tables++Sp l.Scopes)∧Hg x=true):=by
 have k1:=fu (l:=h.Facts) rec (by omega);have k2:=nq hl;have n1:=Maa Hg (Te (ends (mB rec h.Facts)));have n2:=Gt (ends (mB rec h.Facts));have n3:=An (mB rec h.Facts);have n4:=RC rec h.Facts;have m1:=Maa Hg (Te (ends (Zp l.Tables++Sp l.Scopes)));have m2:=Gt (ends (Zp l.Tables++Sp l.Scopes));have m3:=An (Zp l.Tables++Sp l.Scopes);have m4:=iv hl.t;have m5:=Lv hl.s;have m6:=hl.nt;have m7:=hl.ns;rw[Haa]at m3;have hcd:Sc l h rec=some (RF l h rec):=by
  unfold Sc RF;rw[k1,haa,k2,haa];unfold u9;rw[haa,dN (by omega) (by omega),haa];exact TM (by simp;omega)
 obtain⟨d1,d2,d3⟩:=Rf ((Te (ends (mB rec h.Facts))).filter Hg++(Te (ends (Zp l.Tables++Sp l.Scopes))).filter Hg);rw[Haa]at d2;refine⟨hcd,d1,by unfold RF;omega,fun x=>?_⟩;unfold RF;rw[d3,Jaa,tab,tab,(Rf _).2.2,(Rf _).2.2]
theorem Lw{l:GLaw}{h:GHousehold}{m rec:Int}(hm:(ub m).2=0) (hl:FewR l) (hh:h.Facts.length≤40):Jq (ub m).1.From (eL l h m rec) (ub m).1.To∧(eL l h m rec).length≤65537:=by
 obtain⟨-,h2,h3,-⟩:=yV (l:=l) (h:=h) rec hl hh;have hr:=Nq hm;constructor
 ·refine Ax hr.2.1 (h2.filter _) fun x hx=>?_;have:=(tab.1 hx).2;unfold inside at this;simpa using this
 ·unfold eL;rw[SB];have:=Maa (inside (ub m).1) (RF l h rec);omega
theorem dI{l:GLaw}{h:GHousehold}{m rec:Int}(hm:(ub m).2=0) (hl:FewR l) (hh:h.Facts.length≤40):(eL l h m rec).length≤65536:=by
 obtain⟨h1,h2⟩:=Lw (rec:=rec) hm hl hh;have hr:=Nq hm;have:∀{a b:Int} {q:List GDateRange},Jq a q b→(q.length:Int)≤b-a:=by
  intro a b q
  induction q generalizing a with
  |nil=>intro h;simp only[Jq]at h;subst h;simp
  |cons p q ih=>
   intro h;obtain⟨e1,e2,e3⟩:=h;have:=ih e3;simp only[Daa];omega
 have h4:=this h1;have h5:(ub m).1.To-(ub m).1.From≤31:=by
  unfold ub at hm⊢;split at hm
  ·rename_i hc;rw[if_pos hc];have:=Ri (y:=1900+((m.toNat / 12:Nat):Int)) (m:=((m.toNat % 12:Nat):Int)+1);dsimp only;omega
  ·simp at hm
 omega
theorem Mu{l:GLaw}(hl:LawOk l) (hfr:FewR l) {h:GHousehold}(hh:h.Facts.length≤40) {c:GPayConfig}(hc:c.Calendar.Holidays.length≤1048576) (m rec:Int) :
 qg l h c m rec=some (oD l h c m rec):=by
 obtain⟨b,b1,b3⟩:=Xz hl (fun x hx=>Iab (hfr.s x hx) (by decide)) (h:=h) (by omega) hc;unfold qg oD;rw[su,haa];by_cases hm:(ub m).2=0
 case neg=>rw[if_pos hm,if_pos hm]
 obtain⟨q2,q3,q4,q5⟩:=wI hm;rw[if_neg (saa.2 hm),if_neg (saa.2 hm),b1,haa,Qab]
 cases b with
 |false=>rfl
 |true=>
  obtain⟨i,H⟩:=b3 rfl;rw[if_neg (by simp),if_neg (by simp)];obtain⟨d1,d2,d3,-⟩:=yV (l:=l) (h:=h) rec hfr hh;have hr:=Nq hm;obtain⟨c1,-⟩:=Lw (rec:=rec) hm hfr hh;have e1:=SE H c1 ⟨q2,q3⟩ (dI hm hfr hh) rec;have hi:h.Scope.toNat=i:=by have:=H.sc;omega
  rw[d1];simp only[haa];rw[Gs d2 d3 hr,haa];rw[show Kr (ub m).1.To (ub m).1.From ((RF l h rec).filter (inside (ub m).1))=eL l h m rec from rfl];rw[hi,e1];rfl
end Go.Proofs.Dev
namespace Go.Proofs.Dev
open Go Go.Tm
theorem Kaf{w D mode L U:Int}(hD:1≤D∧D≤31) (hm:0≤mode∧mode≤5) (hw:-31000000000000000≤w∧w≤31000000000000000) (hL:L*D≤w) (hU:w≤U*D):L≤(vQ w D mode).1∧(vQ w D mode).1≤U:=by
 have e:(vQ w D mode).1=wC mode (w / D) (w % D) D:=by
  obtain⟨d,rfl⟩:=gac (show 0≤D by omega);unfold vQ;rw[if_neg (saa.2 hm),if_neg (by omega),if_neg (by omega)];have hd0:decide ((d:Int)<0)=false:=decide_eq_false (by omega);rw[hd0];exact iA w d mode (by omega) _ (.inr (by cases decide (w<0)<;>rfl)) hm
 rw[e];have hr:=FL mode (w / D) (w % D) D;have hr0:=Yaf w (show D≠0 by omega);have hdm:=Int.mul_ediv_add_emod w D;constructor
 ·have:L≤w / D:=(Int.le_ediv_iff_mul_le (by omega)).2 hL;omega
 ·have hq:w / D≤U:=by
   have:=Int.ediv_le_ediv (show 0<D by omega) hU;rwa [Int.mul_ediv_cancel _ (by omega)]at this
  rcases Int.lt_or_eq_of_le hq with h|h
  ·omega
  ·have h0:w % D=0:=by
    rw[h,Int.mul_comm]at hdm;omega
   unfold wC;rw[if_neg (by unfold uK;rw[h0];simp)];omega
theorem Iaf{v:Int→Int}{L U:Int}:∀{a b:Int}{l:List GDateRange},Jq a l b→(∀p∈l,L≤v p.From∧v p.From≤U)→L*wq l≤Tt v l∧Tt v l≤U*wq l
 |a,b,[],h,hv=>by simp[Tt,wq]
 |a,b,p::l,h,hv=>by
  obtain⟨h1,h2,h3⟩:=h;have ih:=Iaf h3 fun q hq=>hv q (by simp[hq]);have hp:=hv p (by simp);have m1:=Had hp.1 (show 0≤p.To-p.From by omega);have m2:=Had hp.2 (show 0≤p.To-p.From by omega);simp only[Tt,wq,eab,paf]at ih⊢;rw[Zaf,Zaf];omega
theorem amountOn_s{l:GLaw}{h:GHousehold}{c:GPayConfig}{i:Nat}(H:Ctx l h c i) (rec d:Int) (h0:(Ig l i h c.Def rec d).2=0):zaf l h c d rec=some (max (Ig l i h c.Def rec d).1.N 0,true):=by
 obtain⟨q,q1,q3⟩:=qI H rec d;unfold zaf;rw[q1,haa];rcases q3 with⟨y1,y2⟩|⟨y1,p,y2,y3,-⟩
 ·rw[y2]at h0;exact absurd h0 y1
 ·rw[y3]at h0⊢;dsimp only at h0;rw[if_neg (saa.2 y1),y2,haa,h0];rfl
theorem amt_ok{v:Int→GValue×Int}{r:Int}{l:List GDateRange}(h:(DJ v r l).2=0):(∀p∈l,(v p.From).2=0)∧(DJ v r l).1=max (vQ (Tt (fun d=>(v d).1.N) l) (wq l) r).1 0:=by
 unfold DJ at h⊢;split at h
 ·rename_i e hf;obtain⟨k,_,h2,_⟩:=Mb.1 hf;split at h2
  ·split at h2
   ·rename_i hne;injection h2 with h2;exact absurd (h2.trans h) hne
   ·cases h2
  ·cases h2
 ·rename_i hf;refine⟨fun p hp=>?_,rfl⟩;obtain⟨k,hk,rfl⟩:=Faa hp;have:=pb.1 hf k hk;rw[iaa hk]at this;dsimp only at this;split at this
  ·cases this
  ·rename_i h0;exact Sab.1 h0
theorem amt_err{v:Int→GValue×Int}{r:Int}{l:List GDateRange}(h:(DJ v r l).2≠0):(DJ v r l).1=0:=by
 unfold DJ at h⊢;split at h
 ·rfl
 ·exact absurd rfl h
theorem Pieces_s{l:GLaw}{h:GHousehold}{m rec:Int}(hm:(ub m).2=0) (hl:FewR l) (hh:h.Facts.length≤40):Daf l h m rec=some (eL l h m rec):=by
 obtain⟨d1,d2,d3,-⟩:=yV (l:=l) (h:=h) rec hl hh;unfold Daf;rw[su,haa,if_neg (saa.2 hm),d1,haa,Gs d2 d3 (Nq hm)];rfl
theorem awS_code{l:GLaw}{h:GHousehold}{c:GPayConfig}{m rec:Int}(h0:(oD l h c m rec).Code=0):(ub m).2=0∧(Od l h c).getD false=true∧oD l h c m rec=⟨m,(DJ (Ig l h.Scope.toNat h c.Def rec) c.Rounding (eL l h m rec)).1,(DJ (Ig l h.Scope.toNat h c.Def rec) c.Rounding (eL l h m rec)).2⟩:=by
 unfold oD at h0⊢;split at h0
 ·simp at h0
 rename_i h1;rw[if_neg h1];split at h0
 ·simp at h0
 rename_i h2;rw[if_neg h2];exact⟨Sab.1 h1,by simpa using h2,rfl⟩
theorem Laf(haw:xi=some true) {l:GLaw}(hz:Q3 l) (ht:MO l) (h:GHousehold) (c:GPayConfig) (q:GGuerdonlaw36_Query):Kaa l h c q=some true:=by
 unfold Kaa Kp Kh Nk;obtain⟨b,hb,hb2⟩:=qy l;rw[hb,haw]
 cases b with
 |false=>rfl
 |true=>
  have hs:=hb2 rfl;by_cases hh:(h.Facts.length:Int)≤40
  case neg=>simp[hh]
  by_cases hc:(c.Calendar.Holidays.length:Int)≤70
  case neg=>simp[hh,hc]
  have hf:FewR l:=⟨hs.nt,hs.ns,hs.rows hz,fun s hs'=>(hs.s s hs').rules⟩;have hl:=hs.ok ht;rw[decide_eq_true hh,decide_eq_true hc];simp only[haa,if_true,yab,if_false];rw[Mu hl hf (h:=h) (by omega) (c:=c) (by omega) q.Month q.Recorded];simp only[haa];by_cases h0:(oD l h c q.Month q.Recorded).Code=0
  case neg=>
   rw[if_pos h0];have:(oD l h c q.Month q.Recorded).Cents=0:=by
    unfold oD at h0⊢;split
    ·rfl
    ·rename_i h1;rw[if_neg h1]at h0;split
     ·rfl
     ·rename_i h2;rw[if_neg h2]at h0;exact amt_err h0
   rw[if_pos this];rfl
  rw[if_neg (saa.2 h0)];obtain⟨k1,k2,k3⟩:=awS_code h0;obtain⟨v,v1,v3⟩:=Xz hl (fun x hx=>Iab (hf.s x hx) (by decide)) (h:=h) (by omega) (c:=c) (by omega);rw[v1,Qab]at k2;obtain⟨i,H⟩:=v3 k2;have hi:h.Scope.toNat=i:=by have:=H.sc;omega
  rw[hi]at k3;rw[k3]at h0⊢;dsimp only at h0⊢;rw[Pieces_s k1 hf (by omega),haa];obtain⟨c1,-⟩:=Lw (l:=l) (h:=h) (rec:=q.Recorded) k1 hf (by omega);have hfew:=dI (l:=l) (h:=h) (rec:=q.Recorded) k1 hf (by omega);obtain⟨d2,d3,d4,d5⟩:=wI k1;obtain⟨a1,a2⟩:=amt_ok h0;generalize eL l h q.Month q.Recorded=P at *;generalize hV:Ig l i h c.Def q.Recorded=V at *;have hlp:ia (taa l h c q P) (1000000000000000,0,0)=some (.inl ((P.map fun p=>max (V p.From).1.N 0).foldl min 1000000000000000,(P.map fun p=>max (V p.From).1.N 0).foldl max 0)):=by
   refine wi (fun j=>(((P.take j).map fun p=>max (V p.From).1.N 0).foldl min 1000000000000000,((P.take j).map fun p=>max (V p.From).1.N 0).foldl max 0,(j:Int))) P.length _ (fun j hj=>?_) ?_ rfl
   ·have h00:=a1 _ (raa hj);have:=amountOn_s H q.Recorded P[j].From (by rw[hV];exact h00);rw[hV]at this;unfold taa;dsimp only;rw[if_pos (by omega),Na hj,haa,this,haa,if_neg (by simp),La (by omega),Zaa,iaa hj];simp only[zab,Cab,eab,Xac,List.foldl_append,aac,List.foldl_nil]
   ·unfold taa;dsimp only;rw[if_neg (by omega),dab]
  rw[hlp,haa];dsimp only;have hne:P≠[]:=by
   intro h;rw[h]at c1;simp only[Jq]at c1;omega
  have hpos:0<P.length:=Waf.2 hne;have hds:=(Yo c1).1;have hminle:∀(L:List Int) (x:Int),(L.foldl min x≤x)∧(∀y∈L,L.foldl min x≤y)∧(L.foldl min x=x∨L.foldl min x∈L):=by
   intro L
   induction L with
   |nil=>intro x;simp
   |cons z L ih=>
    intro x;obtain⟨i1,i2,i3⟩:=ih (min x z);simp only[aac];refine⟨by omega,fun y hy=>?_,?_⟩
    ·rcases fab.1 hy with rfl|hy
     ·omega
     ·exact i2 y hy
    ·rcases i3 with h|h
     ·rcases Int.le_total x z with h2|h2
      ·left;rw[h];omega
      ·right;rw[h,show min x z=z by omega];simp
     ·right;exact Taf _ h
  have hmaxle:∀(L:List Int) (x:Int),(x≤L.foldl max x)∧(∀y∈L,y≤L.foldl max x):=by
   intro L
   induction L with
   |nil=>intro x;simp
   |cons z L ih=>
    intro x;obtain⟨i1,i2⟩:=ih (max x z);simp only[aac];refine⟨by omega,fun y hy=>?_⟩;rcases fab.1 hy with rfl|hy
    ·omega
    ·exact i2 y hy
  obtain⟨n1,n2,n3⟩:=hminle (P.map fun p=>max (V p.From).1.N 0) 1000000000000000;obtain⟨x1,x2⟩:=hmaxle (P.map fun p=>max (V p.From).1.N 0) 0;generalize hmn:(P.map fun p=>max (V p.From).1.N 0).foldl min 1000000000000000=mn at *;generalize hmx:(P.map fun p=>max (V p.From).1.N 0).foldl max 0=mx at *;have hbV:∀p∈P,-1000000000000000≤(V p.From).1.N∧(V p.From).1.N≤1000000000000000:=fun p hp=>by
   have:=Vy H q.Recorded p.From (by rw[hV];exact a1 p hp);rw[hV]at this;exact this
  have hw:=fH (v:=fun d=>(V d).1.N) c1 hbV;have hup:∀p∈P,(V p.From).1.N≤mx:=fun p hp=>by
   have:=x2 (max (V p.From).1.N 0) (Tab.2 ⟨p,hp,rfl⟩);omega
  have b1:=Iaf (v:=fun d=>(V d).1.N) (L:=-1000000000000000) (U:=mx) c1 (fun p hp=>⟨(hbV p hp).1,hup p hp⟩);have u1:=(Kaf (w:=Tt (fun d=>(V d).1.N) P) (D:=wq P) (mode:=c.Rounding) (L:=-1000000000000000) (U:=mx) (by omega) H.cf.r (by omega) b1.1 b1.2).2;have hlow:mn≤max (vQ (Tt (fun d=>(V d).1.N) P) (wq P) c.Rounding).1 0:=by
   by_cases hm0:mn≤0
   ·omega
   ·have hlo:∀p∈P,mn≤(V p.From).1.N:=fun p hp=>by
     have:=n2 (max (V p.From).1.N 0) (Tab.2 ⟨p,hp,rfl⟩);omega
    have b2:=Iaf (v:=fun d=>(V d).1.N) (L:=mn) (U:=1000000000000000) c1 (fun p hp=>⟨hlo p hp,(hbV p hp).2⟩);have:=(Kaf (w:=Tt (fun d=>(V d).1.N) P) (D:=wq P) (mode:=c.Rounding) (L:=mn) (U:=1000000000000000) (by omega) H.cf.r (by omega) b2.1 b2.2).1;omega
  rw[a2,if_pos (by omega),if_pos (by omega),if_pos (by omega),if_pos hlow];rfl
end Go.Proofs.Dev
namespace Go.Proofs.Dev
open Go Go.Tm
theorem fact_id{l:List GFact}(h:FactsOk l) {f g:GFact}(hf:f∈l) (hg:g∈l) (he:f.Id=g.Id):f=g:=by
 obtain⟨i,hi,rfl⟩:=Faa hf;obtain⟨j,hj,rfl⟩:=Faa hg;rcases Nat.lt_trichotomy i j with h1|h1|h1
 ·exact absurd he (h.id i j hi hj h1)
 ·subst h1;rfl
 ·exact absurd he.symm (h.id j i hj hi h1)
theorem asS_same{l l':List GFact}(h:FactsOk l) (hl':l'.length≤1048576) (hm:∀f,f∈l↔f∈l') {m i d d' r:Int}(hh:∀f∈l,Xt m i d r f=Xt m i d' r f):Dy l m i d r=Dy l' m i d' r:=by
 have hlen:=h.len;rcases(vE (l:=l) (by omega) m i d r).2 with⟨e,n⟩|⟨f,f1,f2,f3,f4⟩<;>rcases(vE hl' m i d' r).2 with⟨e',n'⟩|⟨f',f1',f2',f3',f4'⟩
 ·rw[e,e']
 ·have:=n f' ((hm _).2 f1');rw[hh _ ((hm _).2 f1'),f3']at this;cases this
 ·have:=n' f ((hm _).1 f1);rw[←hh _ f1,f3]at this;cases this
 ·have h1:=f4 f' ((hm _).2 f1') (by rw[hh _ ((hm _).2 f1')];exact f3');have h2:=f4' f ((hm _).1 f1) (by rw[←hh _ f1];exact f3);have:f=f':=fact_id h f1 ((hm _).2 f1') (by unfold below at h1 h2;omega);rw[f2,f2',this]
theorem factsV_of{l:List GFact}(h:FactsOk l):(Fu l).2=0:=by
 have hlen:=h.len;unfold Fu;rw[if_neg (by omega),pb.2]
 ·rfl
 ·intro i hi;unfold BD;rw[iaa hi];dsimp only;rw[if_neg (saa.2 (h.c _ (raa hi))),if_neg];rw[Qae];rintro⟨y,hy,hy2⟩;obtain⟨j,hj,rfl⟩:=Faa hy;rw[Qaa]at hj;rw[zac,decide_eq_true_eq]at hy2;exact h.id j i (by omega) hi (by omega) hy2
theorem factsOk_rev{l:List GFact}(h:FactsOk l):FactsOk l.reverse:=by
 refine⟨by simpa using h.len,fun f hf=>h.c f (by simpa using hf),fun i j hi hj hij=>?_⟩;rw[List.length_reverse]at hi hj;rw[Vaf,Vaf];exact fun he=>h.id (l.length-1-j) (l.length-1-i) (by omega) (by omega) (by omega) he.symm
def Eaf(h:GHousehold):GHousehold:=⟨h.Id,h.Scope,h.Members,h.Facts.reverse⟩
theorem hhF_none{l:GLaw}{x:GScope}{h:GHousehold}:((ff (GU l x h) h.Facts.length).getD (0,0)).2=0↔∀f∈h.Facts,cS l x h.Members f=0:=by
 constructor
 ·intro h0 f hf;obtain⟨k,hk,rfl⟩:=Faa hf
  cases hff:ff (GU l x h) h.Facts.length with
  |some v=>
   rw[hff]at h0;obtain⟨j,hj,h2,_⟩:=Mb.1 hff;unfold GU at h2;rw[iaa hj]at h2;dsimp only at h2;split at h2
   ·rename_i h3;injection h2 with h2;rw[←h2]at h0;exact absurd h0 h3
   ·cases h2
  |none=>
   have:=pb.1 hff k hk;unfold GU at this;rw[iaa hk]at this;dsimp only at this;split at this
   ·cases this
   ·rename_i h3;exact Sab.1 h3
 ·intro hall;rw[pb.2]
  ·rfl
  ·intro i hi;unfold GU;rw[iaa hi];dsimp only;rw[if_neg (saa.2 (hall _ (raa hi)))]
theorem hhV_rev1{l:GLaw}{h:GHousehold}(hv:(gS l h).2=0):(gS l (Eaf h)).2=0:=by
 unfold gS Eaf at *
 cases hx:l.Scopes[h.Scope.toNat]? with
 |none=>rw[hx]at hv;simp at hv
 |some x=>
  rw[hx]at hv;dsimp only at hv⊢;split at hv
  ·simp at hv
  rename_i h1;rw[if_neg h1];split at hv
  ·simp at hv
  rename_i h2;rw[if_neg h2];split at hv
  ·rename_i h3;exact absurd hv h3
  rename_i h3;rw[if_neg (saa.2 (factsV_of (factsOk_rev (Pz (Sab.1 h3)))))];have:=hhF_none.1 hv;exact(hhF_none (h:=⟨h.Id,h.Scope,h.Members,h.Facts.reverse⟩)).2 fun f hf=>this f (by simpa using hf)
theorem revH_rev(h:GHousehold):Eaf (Eaf h)=h:=by unfold Eaf;simp
theorem hhV_rev{l:GLaw}{h:GHousehold}:(gS l (Eaf h)).2=0↔(gS l h).2=0:=
 ⟨fun hv=>by have:=hhV_rev1 hv;rwa [revH_rev]at this,hhV_rev1⟩
theorem accepted_rev{l:GLaw}(hl:LawOk l) {h:GHousehold}{c:GPayConfig}:Od l (Eaf h) c=Od l h c:=by
 unfold Od;rw[Tj l h hl.ns,Tj l (Eaf h) hl.ns,show(Eaf h).Scope=h.Scope from rfl];have:((gS l (Eaf h)).2==0)=((gS l h).2==0):=by rw[dac,beq_iff_eq,beq_iff_eq];exact hhV_rev
 rw[haa,haa,this]
theorem rise_ext:∀{a b:List Int},a.Pairwise (·<·)→b.Pairwise (·<·)→(∀x,x∈a↔x∈b)→a=b
 |[],[],_,_,_=>rfl
 |[],y::b,_,_,h=>by have:=(h y).2 (by simp);simp at this
 |x::a,[],_,_,h=>by have:=(h x).1 (by simp);simp at this
 |x::a,y::b,ha,hb,h=>by
  rw[jac]at ha hb;have hxy:x=y:=by
   rcases fab.1 ((h x).1 (by simp))with e|e
   ·exact e
   ·rcases fab.1 ((h y).2 (by simp))with e2|e2
    ·exact e2.symm
    ·have h1:=hb.1 x e;have h2:=ha.1 y e2;omega
  subst hxy;rw[rise_ext ha.2 hb.2 fun z=>?_];constructor
  ·intro hz;rcases fab.1 ((h z).1 (by simp[hz]))with e|e
   ·subst e;exact absurd (ha.1 z hz) (aag _)
   ·exact e
  ·intro hz;rcases fab.1 ((h z).2 (by simp[hz]))with e|e
   ·subst e;exact absurd (hb.1 z hz) (aag _)
   ·exact e
theorem Naf{l:List GDateRange}{x:Int}:x∈ends l↔∃r∈l,tQ r=true∧(x=r.From∨x=r.To):=by
 induction l with
 |nil=>simp[ends]
 |cons r l ih=>
  simp only[ends,Jaa,ih,fab,exists_eq_or_imp];by_cases h:tQ r=true<;>simp[h]
theorem cdS_rev{l:GLaw}{h:GHousehold}(rec:Int) (hl:FewR l) (hh:h.Facts.length≤40):RF l (Eaf h) rec=RF l h rec:=by
 obtain⟨-,a2,-,a4⟩:=yV (l:=l) (h:=h) rec hl hh;obtain⟨-,b2,-,b4⟩:=yV (l:=l) (h:=Eaf h) rec hl (by simpa [Eaf] using hh);refine rise_ext b2 a2 fun x=>?_;rw[a4,b4];have:x∈ends (mB rec (Eaf h).Facts)↔x∈ends (mB rec h.Facts):=by
  rw[Naf,Naf];simp only[mB,Eaf,Tab,tab,List.mem_reverse]
 rw[this]
theorem pieceV_rev{l:GLaw}{i:Nat}{h:GHousehold}(hf:FactsOk h.Facts) (def_ rec d:Int):Ig l i (Eaf h) def_ rec d=Ig l i h def_ rec d:=by
 have hlen:=hf.len;have has:∀m j,Dy (Eaf h).Facts m j d rec=Dy h.Facts m j d rec:=fun m j=>(asS_same hf (by simpa [Eaf] using Iab hlen (by decide)) (fun f=>by simp[Eaf]) fun _ _=>rfl).symm;have hv:∀m n,Ql (Eaf h).Facts m n d rec=Ql h.Facts m n d rec:=fun m n=>by
  unfold Ql;simp only[has]
 have hp:D8 (Eaf h).Facts d rec=D8 h.Facts d rec:=by
  funext m;unfold D8;simp only[has]
 have hc:∀x,tn l x (Eaf h) d rec=tn l x h d rec:=fun x=>by
  unfold tn Ml;simp only[hv,hp];rfl
 unfold Ig;simp only[hc]
theorem awS_rev{l:GLaw}(hl:LawOk l) (hfr:FewR l) {h:GHousehold}(hh:h.Facts.length≤40) {c:GPayConfig}(hc:c.Calendar.Holidays.length≤1048576) (m rec:Int):oD l (Eaf h) c m rec=oD l h c m rec:=by
 obtain⟨b,b1,b3⟩:=Xz hl (fun x hx=>Iab (hfr.s x hx) (by decide)) (h:=h) (by omega) hc;unfold oD;rw[accepted_rev hl,b1,Qab];by_cases hm:(ub m).2=0
 case neg=>rw[if_pos hm,if_pos hm]
 rw[if_neg (saa.2 hm),if_neg (saa.2 hm)]
 cases b with
 |false=>rw[if_pos rfl,if_pos rfl]
 |true=>
  rw[if_neg (by simp),if_neg (by simp)];obtain⟨i,H⟩:=b3 rfl;obtain⟨i',hok⟩:=YC H.hv;have hV:Ig l (Eaf h).Scope.toNat (Eaf h) c.Def rec=Ig l h.Scope.toNat h c.Def rec:=by
   funext d;exact pieceV_rev hok.f _ _ _
  have hpc:eL l (Eaf h) m rec=eL l h m rec:=by
   unfold eL;rw[cdS_rev rec hfr hh]
  rw[hV,hpc]
theorem rev_loop{h:GHousehold}(hh:h.Facts.length≤40):ia (bb h) (([]:List GFact),ca .i64 ((h.Facts.length:Int)-1))=some (.inl h.Facts.reverse):=by
 refine wi (fun j=>(h.Facts.reverse.take j,(h.Facts.length:Int)-1-j)) h.Facts.length _ (fun j hj=>?_) ?_ (by simp;exact wid (by omega) (by omega))
 ·unfold bb;dsimp only;have hx:idx h.Facts ((h.Facts.length:Int)-1-j)=some (h.Facts.reverse[j]'(by simpa using hj)):=by
   rw[show(h.Facts.length:Int)-1-j=((h.Facts.length-1-j:Nat):Int) by omega,Na (by omega),Vaf]
  rw[if_pos (by omega),hx,haa,Sj (by simp;omega),haa,wid (by omega) (by omega),Zaa,iaa (by simpa using hj),show(h.Facts.length:Int)-1-j-1=(h.Facts.length:Int)-1-((j+1:Nat):Int) by omega];simp only[zab]
 ·unfold bb;dsimp only;rw[if_neg (by omega),kac (by simp)]
theorem AwardOrderFree_plain(haw:xi=some true) {l:GLaw}(hz:Q3 l) (ht:MO l) (h:GHousehold) (c:GPayConfig) (q:GGuerdonlaw36_Query):Laa l h c q=some true:=by
 unfold Laa Kp Kh Nk;obtain⟨b,hb,hb2⟩:=qy l;rw[hb,haw]
 cases b with
 |false=>rfl
 |true=>
  have hs:=hb2 rfl;by_cases hh:(h.Facts.length:Int)≤40
  case neg=>simp[hh]
  by_cases hc:(c.Calendar.Holidays.length:Int)≤70
  case neg=>simp[hh,hc]
  have hf:FewR l:=⟨hs.nt,hs.ns,hs.rows hz,fun s hs'=>(hs.s s hs').rules⟩;have hl:=hs.ok ht;rw[decide_eq_true hh,decide_eq_true hc];simp only[haa,if_true,yab,if_false];rw[rev_loop (by omega),haa];dsimp only;rw[Mu hl hf (h:=h) (by omega) (c:=c) (by omega) q.Month q.Recorded,show GHousehold.mk h.Id h.Scope h.Members h.Facts.reverse=Eaf h from rfl,Mu hl hf (h:=Eaf h) (by simp[Eaf];omega) (c:=c) (by omega) q.Month q.Recorded,awS_rev hl hf (by omega) (by omega)];simp
end Go.Proofs.Dev
namespace Go.Proofs.Dev
open Go Go.Tm
theorem bindC{α β:Type}{o:Option α}{f g:α→Option β}(h:∀x,o=some x→f x=g x):o.bind f=o.bind g:=by
 cases o with
 |none=>rfl
 |some x=>exact h x rfl
theorem Haf{α:Type}{l:List α}{i:Int}{x:α}(h:idx l i=some x):x∈l:=by
 unfold idx at h;split at h
 ·exact kab h
 ·cases h
def SameT(l:List GTable) (d e:Int):Prop:=∀t∈l,∀r∈t.Rows,ou r.Valid e=ou r.Valid d
theorem Lookup_same{t:GTable}{d e:Int}(h:∀r∈t.Rows,ou r.Valid e=ou r.Valid d):uk t e=uk t d:=by
 funext k;unfold uk qb;have:ab t.Rows (fun x=>fe x e k)=ab t.Rows (fun x=>fe x d k):=by
  funext i;unfold ab;split
  ·exact bindC fun x hx=>by
    show jaa (fe x e k) _=jaa (fe x d k) _;rw[uv,uv];unfold aJ;rw[h x (Haf hx)]
  ·rfl
 rw[this]
theorem Brackets_same{t:GTable}{d e:Int}(h:∀r∈t.Rows,ou r.Valid e=ou r.Valid d):pk t e=pk t d:=by
 funext k m;unfold pk;have:oh t e k=oh t d k:=by
  funext ⟨a,b,c⟩;unfold oh;dsimp only;split
  ·congr 1;exact bindC fun x hx=>by rw[rh,rh,h x (Haf hx)]
  ·rfl
 rw[this]
def onD(env:GEnv) (e:Int):GEnv:=⟨e,env.Inputs,env.Defs,env.Members,env.MemberTypes,env.Tables⟩
theorem Apply_same{n:GNode}{args:List GValue}{env:GEnv}{e:Int}(h9:n.Op≠9) (hT:SameT env.Tables env.Date e):Ki n args (onD env e)=Ki n args env:=by
 have h1:rn n (onD env e)=rn n env:=rfl;have h2:ja n args (onD env e)=ja n args env:=rfl;have h3:wa n args (onD env e)=wa n args env:=by
  have h4:Qf n (onD env e)=Qf n env:=rfl;have h33:((idx (onD env e).Tables n.N).bind fun x21=>(idx args 0).bind fun x22=>(uk x21 (onD env e).Date x22.N).bind fun x23=>if x23.2=false then some ((GValue.mk 0 0 0),(6:Int))else(idx x21.Rows x23.1).bind fun x25=>some ((GValue.mk x21.Value.Kind x21.Value.Enum x25.N),0))=((idx env.Tables n.N).bind fun x21=>(idx args 0).bind fun x22=>(uk x21 env.Date x22.N).bind fun x23=>if x23.2=false then some ((GValue.mk 0 0 0),(6:Int))else(idx x21.Rows x23.1).bind fun x25=>some ((GValue.mk x21.Value.Kind x21.Value.Enum x25.N),0)):=
   bindC fun t ht=>by
    show((idx args 0).bind fun x22=>(uk t e x22.N).bind _)=_;rw[Lookup_same (hT t (Haf ht))]
  have h34:((idx (onD env e).Tables (ca .i64 (Int.tdiv n.N 8))).bind fun x27=>(idx args 0).bind fun x28=>(pk x27 (onD env e).Date x28.N (Lab n.N 8)).bind fun x29=>some ((GValue.mk 3 0 x29.1),x29.2))=((idx env.Tables (ca .i64 (Int.tdiv n.N 8))).bind fun x27=>(idx args 0).bind fun x28=>(pk x27 env.Date x28.N (Lab n.N 8)).bind fun x29=>some ((GValue.mk 3 0 x29.1),x29.2)):=
   bindC fun t ht=>by
    show((idx args 0).bind fun x28=>(pk t e x28.N (Lab n.N 8)).bind _)=_;rw[Brackets_same (hT t (Haf ht))]
  unfold wa;rw[h4,if_neg h9,if_neg h9,h33,h34];rfl
 unfold Ki;rw[h1,h2,h3]
theorem G_same{e:List GNode}{st:List Int}{env:GEnv}{d:Int}(h9:∀n∈e,n.Op≠9) (hT:SameT env.Tables env.Date d):∀n,((da n).1 ⟨e,st,onD env d⟩=(da n).1 ⟨e,st,env⟩)∧((da n).2.1 ⟨e,st,onD env d⟩=(da n).2.1 ⟨e,st,env⟩)∧(da n).2.2 ⟨e,st,onD env d⟩=(da n).2.2 ⟨e,st,env⟩
 |0=>⟨rfl,rfl,rfl⟩
 |n+1=>by
  obtain⟨i1,i2,i3⟩:=G_same (st:=st) h9 hT n;refine⟨?_,?_,?_⟩
  ·show Sb (da n).1 (da n).2.1 (da n).2.2 _=Sb (da n).1 (da n).2.1 (da n).2.2 _;funext i;unfold Sb;have ho:sd ⟨e,st,onD env d⟩=sd ⟨e,st,env⟩:=rfl;have hl:∀x2,Cc ⟨e,st,onD env d⟩ x2 (da n).1=Cc ⟨e,st,env⟩ x2 (da n).1:=fun x2=>by
    unfold Cc;rw[i1]
   rw[ho,i2];simp only[hl];exact bindC fun x hx=>by
    simp only[Apply_same (h9 x (Haf hx)) hT]
  ·show ue (da n).1 (da n).2.1 (da n).2.2 _=ue (da n).1 (da n).2.1 (da n).2.2 _;funext a b;unfold ue;rw[i1,i3]
  ·show Rb (da n).1 (da n).2.1 (da n).2.2 _=Rb (da n).1 (da n).2.1 (da n).2.2 _;funext a;unfold Rb;rw[i1]
theorem Eval_same{e:List GNode}{env:GEnv}{d:Int}(h9:∀n∈e,n.Op≠9) (hT:SameT env.Tables env.Date d):xk e (onD env d)=xk e env:=by
 unfold xk Ih;simp only[(G_same h9 hT Ap).1]
def SameS(s:GScope) (d e:Int):Prop:=∀r∈s.Rules,ou r.Valid e=ou r.Valid d∧(∀n∈r.Guard,n.Op≠9)∧∀n∈r.Value,n.Op≠9
theorem remS_congr{rules:List GRule}{q q':GRule→Bool}(h:∀r∈rules,q r=q' r):∀i,Cl rules q i=Cl rules q' i
 |0=>rfl
 |i+1=>by
  unfold Cl;rw[remS_congr h i];split
  ·rfl
  ·rename_i r hr;rw[h r (kab hr)]
theorem select_same{s:GScope}(hr:s.Rules.length≤1048576) {env:GEnv}{e:Int}(hS:SameS s env.Date e) (hT:SameT env.Tables env.Date e) (m d:Int):xf s (onD env e) m d=xf s env m d:=by
 unfold xf;have ht:JI s d e=JI s d env.Date:=by
  unfold JI;rw[remS_congr (q:=oK d e) (q':=oK d env.Date) fun r hr=>by unfold oK;rw[(hS r hr).1]]
 rw[Zo hr,Zo hr,show(onD env e).Date=e from rfl,ht];simp only[haa];have hl:Ni s (onD env e) m d (JI s d env.Date)=Ni s env m d (JI s d env.Date):=by
  funext ⟨a,b⟩;unfold Ni;dsimp only;split
  ·congr 1;exact bindC fun x _=>bindC fun r hr2=>by rw[Eval_same (hS r (Haf hr2)).2.1 hT]
  ·rfl
 rw[hl]
def exM{σ β ρ:Type}(g:ρ→ρ):Ex σ β ρ→Ex σ β ρ
 |.go s=>.go s
 |.brk b=>.brk b
 |.ret r=>.ret (g r)
def suM{β ρ:Type}(g:ρ→ρ):β⊕ρ→β⊕ρ
 |.inl b=>.inl b
 |.inr r=>.inr (g r)
theorem loopN_map{σ β ρ:Type}{s1 s2:σ→Option (Ex σ β ρ)}{g:ρ→ρ}(h:∀x,s2 x=(s1 x).map (exM g)):∀n x,Fm s2 n x=(Fm s1 n x).map (suM g)
 |0,x=>rfl
 |n+1,x=>by
  unfold Fm;rw[h]
  cases s1 x with
  |none=>rfl
  |some v=>
   cases v with
   |go s=>exact loopN_map h n s
   |brk b=>rfl
   |ret r=>rfl
theorem loopO_map{σ β ρ:Type}{s1 s2:σ→Option (Ex σ β ρ)}{g:ρ→ρ}(h:∀x,s2 x=(s1 x).map (exM g)) (x:σ):ia s2 x=(ia s1 x).map (suM g):=by
 apply Option.ext;intro r;rw[RB];constructor
 ·rintro⟨n,hn⟩;rw[loopN_map h]at hn
  cases h1:Fm s1 n x with
  |none=>rw[h1]at hn;cases hn
  |some v=>rw[h1]at hn;rw[wA h1];exact hn
 ·intro hr
  cases h1:ia s1 x with
  |none=>rw[h1]at hr;cases hr
  |some v=>
   obtain⟨n,hn⟩:=RB.1 h1;refine⟨n,?_⟩;rw[loopN_map h,hn,←hr,h1]
def scM(e:Int) (p:(List Int×GEvalError)×GEnv):(List Int×GEvalError)×GEnv:=(p.1,onD p.2 e)
theorem scope_same{s:GScope}(hr:s.Rules.length≤1048576) {env:GEnv}{e:Int}(hS:SameS s env.Date e) (hT:SameT env.Tables env.Date e) (m:Int) (w:List Bool):ya s (onD env e) m w=(ya s env m w).map (scM e):=by
 unfold ya;have hl:∀x3 x,td s (onD env e) m w x3 x=(td s env m w x3 x).map (exM (scM e)):=by
  rintro x3 ⟨a,b,c⟩;unfold td;dsimp only;split
  case isFalse=>rfl
  cases h1:idx x3.1 c with
  |none=>rfl
  |some x8=>
   cases h2:idx w x8 with
   |none=>simp only[haa,h2];rfl
   |some x9=>
    simp only[haa,h2];split
    ·rfl
    rw[show GEnv.mk (onD env e).Date (onD env e).Inputs a (onD env e).Members (onD env e).MemberTypes (onD env e).Tables=onD ⟨env.Date,env.Inputs,a,env.Members,env.MemberTypes,env.Tables⟩ e from rfl];rw[select_same hr (env:=⟨env.Date,env.Inputs,a,env.Members,env.MemberTypes,env.Tables⟩) hS hT]
    cases xf s ⟨env.Date,env.Inputs,a,env.Members,env.MemberTypes,env.Tables⟩ m x8 with
    |none=>rfl
    |some x11=>
     simp only[haa];split
     ·rfl
     split
     ·rfl
     split
     ·rfl
     cases h3:idx s.Rules x11.1 with
     |none=>rfl
     |some r=>
      simp only[haa];rw[Eval_same (env:=⟨env.Date,env.Inputs,a,env.Members,env.MemberTypes,env.Tables⟩) (hS r (Haf h3)).2.2 hT]
      cases xk r.Value ⟨env.Date,env.Inputs,a,env.Members,env.MemberTypes,env.Tables⟩with
      |none=>rfl
      |some x16=>
       simp only[haa];split
       ·rfl
       cases idx a x8 with
       |none=>rfl
       |some _=>
        cases put a x8 x16.1 with
        |none=>rfl
        |some _=>
         cases idx b x8 with
         |none=>rfl
         |some _=>
          cases put b x8 x11.1 with
          |none=>rfl
          |some _=>rfl
 cases au 24 (GValue.mk 0 0 0) (s.Defs.length:Int) (s.Defs.length:Int)with
 |none=>rfl
 |some x1=>
  cases au 8 (0:Int) (s.Defs.length:Int) (s.Defs.length:Int)with
  |none=>rfl
  |some x2=>
   cases Cd s with
   |none=>rfl
   |some x3=>
    simp only[haa];rw[loopO_map (hl x3)]
    cases ia (td s env m w x3) (x1,x2,0)with
    |none=>rfl
    |some v=>
     cases v with
     |inl b=>rfl
     |inr r=>rfl
def caD(c:GCase) (e:Int):GCase:=⟨e,c.Inputs,c.Members⟩
theorem evaluate_same{l:GLaw}{i:Int}{c:GCase}{n:GInterp_needs}{e:Int}(h1:n.scope.Rules.length≤1048576) (h2:n.memberScope.Rules.length≤1048576) (hS:SameS n.scope c.Date e) (hM:SameS n.memberScope c.Date e) (hT:SameT l.Tables c.Date e) :
 (rf l i (caD c e) n).map (fun p=>(p.1,p.2.2))=(rf l i c n).map (fun p=>(p.1,p.2.2)):=by
 unfold rf;have hl:Vi l (caD c e) n=Vi l c n:=by
  funext ⟨a,b,k⟩;unfold Vi;dsimp only;rw[show(caD c e).Members=c.Members from rfl];split
  ·exact bindC fun x _=>by
    rw[show GEnv.mk (caD c e).Date x [] [] [] l.Tables=onD ⟨c.Date,x,[],[],[],l.Tables⟩ e from rfl,scope_same h2 (env:=⟨c.Date,x,[],[],[],l.Tables⟩) hM hT]
    cases ya n.memberScope ⟨c.Date,x,[],[],[],l.Tables⟩ k n.memberDefs with
    |none=>rfl
    |some p=>rfl
  ·rfl
 rw[hl]
 cases ia (Mi n) (([]:List GType),0)with
 |none=>rfl
 |some y=>
  simp only[haa]
  cases y with
  |inr _=>rfl
  |inl b8=>
   dsimp only
   cases ia (Vi l c n) (([]:List (List GValue)),([]:List GMemberResult),0)with
   |none=>rfl
   |some z=>
    simp only[haa]
    cases z with
    |inr v=>rfl
    |inl v=>
     dsimp only;rw[show GEnv.mk (caD c e).Date (caD c e).Inputs [] v.1 b8 l.Tables=onD ⟨c.Date,c.Inputs,[],v.1,b8,l.Tables⟩ e from rfl,scope_same h1 (env:=⟨c.Date,c.Inputs,[],v.1,b8,l.Tables⟩) hS hT]
     cases ya n.scope ⟨c.Date,c.Inputs,[],v.1,b8,l.Tables⟩ (-1) n.defs with
     |none=>rfl
     |some p=>
      simp only[Vab,haa,scM];by_cases h0:p.1.2.Code=0
      ·rw[if_neg (saa.2 h0),if_neg (saa.2 h0)];rfl
      ·rw[if_pos h0,if_pos h0]
end Go.Proofs.Dev
namespace Go.Proofs.Dev
open Go Go.Tm
theorem ff_true{α:Type}{l:List α}{q:α→Bool}:(match ff (fun i=>if(l[i]?.any q)=true then some true else none) l.length with|some v=>v|none=>false)=l.any q:=by
 have h:=FH (l:=l) (q:=q) (g:=fun _=>true)
 cases hf:ff (fun i=>if(l[i]?.any q)=true then some true else none) l.length with
 |none=>rw[hf]at h;exact h
 |some v=>
  rw[hf]at h;obtain⟨k,_,h2,_⟩:=Mb.1 hf;split at h2
  ·injection h2 with h2;rw[←h2,←h];rfl
  ·cases h2
def dateB(e:List GNode):Bool:=e.any fun n=>n.Op==9
theorem hasDate_s{e:List GNode}(hl:e.length≤1048576):Baf e=some (dateB e):=by
 have h1:ia (Aaf e) 0=some (ui () (ff (fun i=>if(e[i]?.any fun n=>n.Op==9)=true then some true else none) e.length)):=
  Uh (fun i=>(i:Int)) _ e.length () (fun i hi _=>by
   unfold Aaf;rw[if_pos (by omega),Na hi,iaa hi];simp only[haa,Dac,beq_iff_eq];rw[La (by omega)];by_cases h:e[i].Op=9<;>simp[h,jw]) (fun _=>by unfold Aaf;simp)
 unfold Baf dateB;rw[h1,haa,←ff_true];cases ff (fun i=>if(e[i]?.any fun n=>n.Op==9)=true then some true else none) e.length<;>rfl
def Jaf(r:GRule):Bool:=dateB r.Guard || dateB r.Value
theorem usesDate_s{l:GLaw}(hl:LawOk l):Caf l=some (l.Scopes.any fun s=>s.Rules.any Jaf):=by
 have hns:=hl.ns;have h8:∀i (hi:i<l.Scopes.length),ia (Oaa l (i:Int)) 0=some (ui () (ff (fun j=>if(l.Scopes[i].Rules[j]?.any Jaf)=true then some (Ex.ret true:Ex Int Unit Bool)else none) l.Scopes[i].Rules.length)):=fun i hi=>by
  obtain⟨-,hsc,-⟩:=hl.s _ (raa hi);have hr:=hsc.rules;exact Uh (fun j=>(j:Int)) _ l.Scopes[i].Rules.length () (fun j hj _=>by
   obtain⟨g1,g2⟩:=hsc.g _ (raa hj);unfold Oaa;rw[Na hi,haa,if_pos (by omega),Na hj,iaa hj];simp only[haa,Dac,hasDate_s g1,hasDate_s g2];rw[La (by omega)];unfold Jaf;by_cases hA:dateB l.Scopes[i].Rules[j].Guard=true<;>by_cases hB:dateB l.Scopes[i].Rules[j].Value=true<;>simp[jw,hA,hB]) (fun _=>by unfold Oaa;rw[Na hi,haa,if_neg (by omega)])
 have h9:ia (Lac l) 0=some (ui () (ff (fun i=>if(l.Scopes[i]?.any fun s=>s.Rules.any Jaf)=true then some true else none) l.Scopes.length)):=
  Uh (fun i=>(i:Int)) _ l.Scopes.length () (fun i hi _=>by
   unfold Lac;rw[if_pos (by omega),h8 i hi,iaa hi,Dac,haa];have hf:=FH (l:=l.Scopes[i].Rules) (q:=Jaf) (g:=fun _=>(Ex.ret true:Ex Int Unit Bool))
   cases hff:ff (fun j=>if(l.Scopes[i].Rules[j]?.any Jaf)=true then some (Ex.ret true:Ex Int Unit Bool)else none) l.Scopes[i].Rules.length with
   |none=>
    rw[hff]at hf;rw[←hf,La (by omega)];rfl
   |some v=>
    rw[hff]at hf;obtain⟨k,_,h2,_⟩:=Mb.1 hff;split at h2
    ·injection h2 with h2;rw[←hf,←h2];rfl
    ·cases h2) (fun _=>by unfold Lac;simp)
 unfold Caf;rw[h9,haa,←ff_true];cases ff (fun i=>if(l.Scopes[i]?.any fun s=>s.Rules.any Jaf)=true then some true else none) l.Scopes.length<;>rfl
theorem noDate{e:List GNode}(h:dateB e=false):∀n∈e,n.Op≠9:=by
 unfold dateB at h;rw[Uaf]at h;intro n hn;have:=h n hn;simpa using this
theorem Maf{r:GDateRange}{d:Int}(h:ou r d=true):tQ r=true:=by
 unfold ou sQ at h;unfold tQ;simp only[paa,decide_eq_true_eq]at h⊢;omega
theorem month_end{m:Int}(hm:(ub m).2=0):(ub m).1.To≤109573:=by
 unfold ub at hm⊢;split
 case isFalse=>simp
 rename_i hc;have h1:∀(y:Int) (k:Nat),k<12→Kj y k+oj y ((k:Int)+1)≤if DA y=true then 366 else 365:=by
  intro y k hk;have hd:∀j:Int,0≤oj y j:=fun j=>by have:=Ri (y:=y) (m:=j);omega
  have:k=0∨k=1∨k=2∨k=3∨k=4∨k=5∨k=6∨k=7∨k=8∨k=9∨k=10∨k=11:=by omega
  rcases this with rfl|rfl|rfl|rfl|rfl|rfl|rfl|rfl|rfl|rfl|rfl|rfl<;>simp[Kj,oj]<;>cases DA y<;>simp
 have h2:=h1 (1900+((m.toNat / 12:Nat):Int)) (m.toNat % 12) (by omega);have h3:sj (m.toNat / 12) (m.toNat % 12)+oj (1900+((m.toNat / 12:Nat):Int)) (((m.toNat % 12:Nat):Int)+1)≤Ef (m.toNat / 12+1):=by
  have e:Ef (m.toNat / 12+1)=Ef (m.toNat / 12)+if DA (1900+((m.toNat / 12:Nat):Int))=true then 366 else 365:=by
   conv=>lhs;unfold Ef
  unfold sj;omega
 have h4:=zA (m.toNat / 12+1);dsimp only;omega
theorem cont_same{l:GLaw}{h:GHousehold}{m rec:Int}(hm:(ub m).2=0) (hl:FewR l) (hh:h.Facts.length≤40) (h1:(eL l h m rec).length=1) {d:Int}(hd:(ub m).1.From≤d∧d<(ub m).1.To) {r:GDateRange}(hr:r∈mB rec h.Facts∨r∈Zp l.Tables++Sp l.Scopes):ou r d=ou r (ub m).1.From:=by
 obtain⟨-,-,-,c4⟩:=yV (l:=l) (h:=h) rec hl hh;have hro:=Nq hm;have hre:=month_end hm;have hno:∀x,(ub m).1.From<x→x<(ub m).1.To→x∉RF l h rec:=by
  intro x hx1 hx2 hx;unfold eL at h1;rw[SB]at h1;have:x∈(RF l h rec).filter (inside (ub m).1):=tab.2 ⟨hx,by unfold inside;simp;omega⟩;have:=List.length_pos_of_mem this;omega
 generalize (ub m).1.From=a at *;generalize (ub m).1.To=b at *;by_cases hn:tQ r=true
 case neg=>
  have k1:ou r d=false:=by cases hc:ou r d with|false=>rfl|true=>exact absurd (Maf hc) hn
  have k2:ou r a=false:=by cases hc:ou r a with|false=>rfl|true=>exact absurd (Maf hc) hn
  rw[k1,k2]
 have hin:∀x,(x=r.From∨x=r.To)→a<x→x<b→False:=by
  intro x hx g1 g2;refine hno x g1 g2 ((c4 x).2 ?_);have hdb:Hg x=true:=by unfold Hg;simp;omega
  rcases hr with hr|hr
  ·exact .inl ⟨Naf.2 ⟨r,hr,hn,hx⟩,hdb⟩
  ·exact .inr ⟨Naf.2 ⟨r,hr,hn,hx⟩,hdb⟩
 have k1:=hin r.From (.inl rfl);have k2:=hin r.To (.inr rfl);unfold ou;rw[dac];simp only[paa,decide_eq_true_eq];constructor
 ·rintro⟨g0,g1,g2⟩;refine⟨g0,?_,by omega⟩;rcases bag a r.From with g|g
  ·exact absurd (k1 g (by omega)) id
  ·exact g
 ·rintro⟨g0,g1,g2⟩;refine⟨g0,by omega,?_⟩;rcases bag d r.To with g|g
  ·exact g
  ·exact absurd (k2 g2 (by omega)) id
theorem hits_same{l:GLaw}{h:GHousehold}{m rec:Int}(hm:(ub m).2=0) (hl:FewR l) (hh:h.Facts.length≤40) (h1:(eL l h m rec).length=1) {d:Int}(hd:(ub m).1.From≤d∧d<(ub m).1.To) (k j:Int):∀f∈h.Facts,Xt k j d rec f=Xt k j (ub m).1.From rec f:=by
 intro f hf;unfold Xt;by_cases hrec:rec<f.Recorded
 ·simp[hrec]
 by_cases hn:tQ f.Valid=true
 ·have:f.Valid∈mB rec h.Facts:=by
   unfold mB known;exact Tab.2 ⟨f,tab.2 ⟨hf,by simp[hn];omega⟩,rfl⟩
  rw[cont_same hm hl hh h1 hd (.inl this)]
 ·have k1:ou f.Valid d=false:=by cases hc:ou f.Valid d with|false=>rfl|true=>exact absurd (Maf hc) hn
  have k2:ou f.Valid (ub m).1.From=false:=by cases hc:ou f.Valid (ub m).1.From with|false=>rfl|true=>exact absurd (Maf hc) hn
  rw[k1,k2]
theorem case_same{l:GLaw}{h:GHousehold}(hf:FactsOk h.Facts) {m rec:Int}(hm:(ub m).2=0) (hl:FewR l) (hh:h.Facts.length≤40) (h1:(eL l h m rec).length=1) {d:Int}(hd:(ub m).1.From≤d∧d<(ub m).1.To) (x:GScope) (h0:(tn l x h (ub m).1.From rec).2=0):tn l x h d rec=(caD (tn l x h (ub m).1.From rec).1 d,0):=by
 have hro:=Nq hm;have hre:=month_end hm;have hlen:=hf.len;have has:∀k j,Dy h.Facts k j d rec=Dy h.Facts k j (ub m).1.From rec:=fun k j=>asS_same hf (by omega) (fun f=>Iff.rfl) (hits_same hm hl hh h1 hd k j);have hv:∀k n,Ql h.Facts k n d rec=Ql h.Facts k n (ub m).1.From rec:=fun k n=>by
  unfold Ql;simp only[has]
 have hp:D8 h.Facts d rec=D8 h.Facts (ub m).1.From rec:=by
  funext k;unfold D8;simp only[has]
 have hmo:Ml h d rec=Ml h (ub m).1.From rec:=by unfold Ml;rw[hp]
 unfold tn at h0⊢;simp only[hv,hmo];rw[if_neg (by omega)]at h0;rw[if_neg (show¬(d<0∨109572<d) by omega),if_neg (show¬((ub m).1.From<0∨109572<(ub m).1.From) by omega)];by_cases g1:(Ql h.Facts (-1) x.Inputs.length (ub m).1.From rec).2=false
 ·rw[if_pos g1]at h0;simp at h0
 rw[if_neg g1]at h0;rw[if_neg g1,if_neg g1];by_cases g2:((Ml h (ub m).1.From rec).all fun k=>(Ql h.Facts k (Ul l x).1.length (ub m).1.From rec).2)=true
 ·rw[if_pos g2,if_pos g2];rfl
 ·rw[if_neg g2]at h0;simp at h0
theorem bind_pi{α β γ:Type}{o o':Option α}{p:α→β}{K:α→Option γ}{K':β→Option γ}(h:o'.map p=o.map p) (hK:∀x,K x=K' (p x)):o'.bind K=o.bind K:=by
 cases o with
 |none=>
  cases o' with
  |none=>rfl
  |some x=>cases h
 |some y=>
  cases o' with
  |none=>cases h
  |some x=>
   have:p x=p y:=Uaa h;show K x=K y;rw[hK,hK,this]
theorem piece_same{l:GLaw}{h:GHousehold}{c:GPayConfig}{i:Nat}(H:Ctx l h c i) (hnd:(l.Scopes.any fun s=>s.Rules.any Jaf)=false) {m rec:Int}(hm:(ub m).2=0) (hl:FewR l) (hh:h.Facts.length≤40) (h1:(eL l h m rec).length=1) {d:Int}(hd:(ub m).1.From≤d∧d<(ub m).1.To) (h0:(Ig l i h c.Def rec (ub m).1.From).2=0):Ig l i h c.Def rec d=Ig l i h c.Def rec (ub m).1.From:=by
 have hi:=H.cf.hi;obtain⟨i',hok⟩:=YC H.hv;have hii:i'=i:=by have:=hok.sc;have:=H.sc;omega
 subst hii;unfold Ig at h0⊢;rw[iaa hi]at h0⊢;dsimp only at h0⊢;by_cases hc:(tn l l.Scopes[i'] h (ub m).1.From rec).2=0
 case neg=>rw[if_pos hc]at h0;exact absurd h0 hc
 have hcs:=case_same hok.f hm hl hh h1 hd l.Scopes[i'] hc;have hc2:(tn l l.Scopes[i'] h d rec).2=0:=by rw[hcs]
 rw[if_neg (saa.2 hc),if_neg (saa.2 hc2)];obtain⟨k1,-⟩:=xI H.ok H.cf.v hok hc H.cf.d;obtain⟨k2,-⟩:=xI H.ok H.cf.v hok hc2 H.cf.d;have hV:=PA H.cf.v;have hda:(tn l l.Scopes[i'] h (ub m).1.From rec).1.Date=(ub m).1.From:=by
  unfold tn at hc⊢;split at hc
  ·simp at hc
  split at hc
  ·simp at hc
  split at hc
  ·rename_i g1 g2 g3;rw[if_neg g1,if_neg g2,if_pos g3]
  ·simp at hc
 have hS:∀s∈l.Scopes,SameS s (tn l l.Scopes[i'] h (ub m).1.From rec).1.Date d:=fun s hs r hr=>by
  rw[Uaf]at hnd;have h3:=hnd s hs;have h4:Jaf r=false:=by
   cases hdr:Jaf r with
   |false=>rfl
   |true=>exact absurd (Qae.2 ⟨r,hr,hdr⟩) h3
  unfold Jaf at h4;rw[Bool.or_eq_false_iff]at h4;refine⟨?_,noDate h4.1,noDate h4.2⟩;rw[hda];refine cont_same hm hl hh h1 hd (.inr (Jaa.2 (.inr ?_)));exact Xaf.2 ⟨s,hs,Tab.2 ⟨r,hr,rfl⟩⟩
 have hT:SameT l.Tables (tn l l.Scopes[i'] h (ub m).1.From rec).1.Date d:=fun t ht r hr=>by
  rw[hda];refine cont_same hm hl hh h1 hd (.inr (Jaa.2 (.inl ?_)));exact Xaf.2 ⟨t,ht,Tab.2 ⟨r,hr,rfl⟩⟩
 have hx:=tC H.ok (raa hi);have hms:=gH H.ok l.Scopes[i'];have hSm:SameS (SA l l.Scopes[i']) (tn l l.Scopes[i'] h (ub m).1.From rec).1.Date d:=by
  unfold SA;split
  ·exact hS _ (raa _)
  ·intro r hr;simp at hr
 have key:Uc l (i':Int) (tn l l.Scopes[i'] h d rec).1 c.Def=Uc l (i':Int) (tn l l.Scopes[i'] h (ub m).1.From rec).1 c.Def:=by
  rw[az H.ok hV H.C3 hi H.cf.d k1,az H.ok hV H.C3 hi H.cf.d k2,hcs];dsimp only;exact bind_pi (evaluate_same (n:=lI l i' hi c.Def) hx.ok.rules hms.ok.rules (hS _ (raa hi)) hSm hT) (K':=fun q=>if¬q.2.Code=0 then some ((GValue.mk 0 0 0),0,q.2)else(idx q.1.Values c.Def).bind fun x63=>(idx q.1.Rules c.Def).bind fun x64=>some (x63,x64,(GEvalError.mk 0 0 0 0))) fun _=>rfl
 rw[key]
theorem drS_whole{v D mode:Int}(hD:1≤D∧D≤31) (hm:0≤mode∧mode≤5) (hv:-1000000000000000≤v∧v≤1000000000000000):(vQ (v*D) D mode).1=v:=by
 have hw:=O6 (n:=v) (k:=D) (B:=1000000000000000) hv (by omega);have:=Kaf (w:=v*D) (D:=D) (mode:=mode) (L:=v) (U:=v) hD hm (by omega) (kad _) (kad _);omega
theorem AwardUnchangedMonth_plain(haw:xi=some true) {l:GLaw}(hz:Q3 l) (ht:MO l) (h:GHousehold) (c:GPayConfig) (q:GGuerdonlaw36_Query):k8 l h c q=some true:=by
 unfold k8 Kp Kh Nk;obtain⟨b,hb,hb2⟩:=qy l;rw[hb,haw]
 cases b with
 |false=>rfl
 |true=>
  have hs:=hb2 rfl;by_cases hh:(h.Facts.length:Int)≤40
  case neg=>simp[hh]
  by_cases hc:(c.Calendar.Holidays.length:Int)≤70
  case neg=>simp[hh,hc]
  have hf:FewR l:=⟨hs.nt,hs.ns,hs.rows hz,fun s hs'=>(hs.s s hs').rules⟩;have hl:=hs.ok ht;rw[decide_eq_true hh,decide_eq_true hc];simp only[haa,if_true,yab,if_false];rw[Mu hl hf (h:=h) (by omega) (c:=c) (by omega) q.Month q.Recorded,usesDate_s hl];simp only[haa];by_cases h0:(oD l h c q.Month q.Recorded).Code=0
  case neg=>rw[if_neg h0];rfl
  rw[if_pos h0]
  cases hnd:(l.Scopes.any fun s=>s.Rules.any Jaf)with
  |true=>rfl
  |false=>
   rw[if_pos rfl];obtain⟨k1,k2,k3⟩:=awS_code h0;rw[Pieces_s k1 hf (by omega)];simp only[haa];by_cases hp:(eL l h q.Month q.Recorded).length=1
   case neg=>
    rw[show(((eL l h q.Month q.Recorded).length:Int) !=1)=true by simp;omega];rfl
   rw[show(((eL l h q.Month q.Recorded).length:Int) !=1)=false by simp;omega];obtain⟨v,v1,v3⟩:=Xz hl (fun x hx=>Iab (hf.s x hx) (by decide)) (h:=h) (by omega) (c:=c) (by omega);rw[v1,Qab]at k2;obtain⟨i,H⟩:=v3 k2;have hi:h.Scope.toNat=i:=by have:=H.sc;omega
   rw[hi]at k3;rw[k3]at h0⊢;dsimp only at h0⊢;obtain⟨d1,d2,-,-⟩:=wI k1;have hro:=Nq k1;rw[if_neg (by simp),su,haa,if_pos k1,if_pos (by omega),wid (n:=(ub q.Month).1.To-(ub q.Month).1.From) (by omega) (by omega),haa,if_neg (by simp;omega)];have e1:=Int.tmod_lt_of_pos q.Day (show(0:Int)<31 by decide);have e2:=Int.lt_tmod_of_pos q.Day (show(0:Int)<31 by decide);rw[wid (n:=Lab q.Day 31+31) (by omega) (by omega),Io (a:=Lab q.Day 31+31) (by omega)];have e3:=Yaf (Lab q.Day 31+31) (show(31:Int)≠0 by decide);have e4:=Int.emod_lt_of_pos (Lab q.Day 31+31) (show(0:Int)<31 by decide);generalize (Lab q.Day 31+31) % 31=k at e3 e4;rw[wid (n:=(ub q.Month).1.From+k) (by omega) (by omega)];by_cases hto:(ub q.Month).1.To≤(ub q.Month).1.From+k
   ·rw[if_pos hto]
   rw[if_neg hto];obtain⟨a1,a2⟩:=amt_ok h0;have hP:eL l h q.Month q.Recorded=[⟨(ub q.Month).1.From,(ub q.Month).1.To⟩]:=by
    obtain⟨c1,-⟩:=Lw (l:=l) (h:=h) (rec:=q.Recorded) k1 hf (by omega)
    match hq:eL l h q.Month q.Recorded,hp with
    |[p],_=>
     rw[hq]at c1;obtain⟨g1,g2,g3⟩:=c1;obtain⟨p1,p2⟩:=p;dsimp only at g1 g2 g3;simp only[Jq]at g3;rw[g1,g3]
   have hz0:=a1 _ (by rw[hP];exact Paa.2 rfl);dsimp only at hz0;have hsame:=piece_same H hnd k1 hf (by omega) hp (d:=(ub q.Month).1.From+k) (by omega) hz0;have hb:=Vy H q.Recorded (ub q.Month).1.From hz0;rw[amountOn_s H q.Recorded _ (by rw[hsame];exact hz0),hsame,a2,hP];have hw:Tt (fun d=>(Ig l i h c.Def q.Recorded d).1.N) [⟨(ub q.Month).1.From,(ub q.Month).1.To⟩]=(Ig l i h c.Def q.Recorded (ub q.Month).1.From).1.N*((ub q.Month).1.To-(ub q.Month).1.From):=by simp[Tt]
   have hds:wq [⟨(ub q.Month).1.From,(ub q.Month).1.To⟩]=(ub q.Month).1.To-(ub q.Month).1.From:=by simp[wq]
   rw[hw,hds,drS_whole (by omega) H.cf.r hb];simp
end Go.Proofs.Dev
namespace Go.Tm
def Em(l:List Int) (k:Nat):Int:=l.getD k 0
def swp(l:List Int) (i j:Nat):List Int:=(l.set i (Em l j)).set j (Em l i)
def Hp(l:List Int) (n:Nat):Prop:=∀k,0<k→k<n→Em l ((k-1) / 2)≤Em l k
def wZ(l:List Int) (j:Nat):Prop:=(∀k,0<k→k<l.length→k≠j→Em l ((k-1) / 2)≤Em l k)∧(∀k,0<j→0<k→k<l.length→(k-1) / 2=j→Em l ((j-1) / 2)≤Em l k)
def DW(l:List Int) (n i:Nat):Prop:=(∀k,0<k→k<n→(k-1) / 2≠i→Em l ((k-1) / 2)≤Em l k)∧(∀k,0<i→0<k→k<n→(k-1) / 2=i→Em l ((i-1) / 2)≤Em l k)
theorem Lb{l:List Int}{k:Nat}(h:k<l.length):Em l k=l[k]:=by simp[Em,h]
theorem zv{l:List Int}{i j:Nat}:(swp l i j).length=l.length:=by simp[swp]
theorem vj{l:List Int}{i j k:Nat}(hi:i<l.length) (hj:j<l.length):Em (swp l i j) k=if k=j then Em l i else if k=i then Em l j else Em l k:=by
 unfold swp;unfold Em;simp only[List.getD_eq_getElem?_getD,fac,pae];by_cases h1:j=k
 ·rw[if_pos h1,if_pos h1.symm,if_pos (by omega)];rfl
 ·rw[if_neg h1,if_neg (show¬k=j from fun h=>h1 h.symm)];by_cases h2:i=k
  ·rw[if_pos h2,if_pos h2.symm,if_pos (by omega)];rfl
  ·rw[if_neg h2,if_neg (show¬k=i from fun h=>h2 h.symm)]
theorem Yr{l:List Int}{i j:Nat}(hi:i<l.length) (hj:j<l.length):(swp l i j).Perm l:=by
 unfold swp;rw[Lb hi,Lb hj];exact List.set_set_perm hi hj
theorem qL{l:List Int}{j:Nat}(h:wZ l j) (hj:j=0∨Em l ((j-1) / 2)≤Em l j):Hp l l.length:=by
 intro k h0 h1;by_cases hk:k=j
 ·subst hk;rcases hj with h2|h2
  ·omega
  ·exact h2
 ·exact h.1 k h0 h1 hk
theorem F3{l:List Int}{j:Nat}(h:wZ l j) (hj:0<j) (hl:j<l.length) (hlt:Em l j<Em l ((j-1) / 2)):wZ (swp l ((j-1) / 2) j) ((j-1) / 2):=by
 have hp:(j-1) / 2<l.length:=by omega
 refine⟨fun k h0 h1 h2=>?_,fun k h0 h1 h2 h3=>?_⟩
 ·rw[zv]at h1;rw[vj hp hl,vj hp hl];by_cases hk:k=j
  ·subst hk;rw[if_pos rfl,if_neg (by omega),if_pos rfl];omega
  ·rw[if_neg hk,if_neg h2];by_cases h4:(k-1) / 2=j
   ·rw[if_pos h4];exact h.2 k hj h0 h1 h4
   ·rw[if_neg h4];by_cases h5:(k-1) / 2=(j-1) / 2
    ·rw[if_pos h5];have:=h.1 k h0 h1 hk;rw[h5]at this;omega
    ·rw[if_neg h5];exact h.1 k h0 h1 hk
 ·rw[zv]at h2;rw[vj hp hl,vj hp hl];have e:Em l (((j-1) / 2-1) / 2)≤Em l ((j-1) / 2):=h.1 _ h0 hp (by omega);rw[if_neg (by omega),if_neg (by omega)];by_cases hk:k=j
  ·rw[if_pos hk];exact e
  ·rw[if_neg hk,if_neg (by omega)];have:=h.1 k h1 h2 hk;rw[h3]at this;omega
theorem kW{l:List Int}{x:Int}(h:Hp l l.length):wZ (l++[x]) l.length:=by
 refine⟨fun k h0 h1 h2=>?_,fun k h0 h1 h2 h3=>?_⟩
 ·have hk:k<l.length:=by simp at h1;omega
  have e:∀q,q<l.length→Em (l++[x]) q=Em l q:=fun q hq=>by rw[Lb (by simp;omega),Lb hq,List.getElem_append_left hq]
  rw[e _ (by omega),e _ hk];exact h k h0 hk
 ·simp at h2;omega
def Cm(l:List Int) (n i j:Nat):Prop:=0<j∧j<n∧(j-1) / 2=i∧∀k,0<k→k<n→(k-1) / 2=i→Em l j≤Em l k
theorem o6{l:List Int}{n i:Nat}(h1:2*i+1<n) (h:2*i+2<n→Em l (2*i+1)≤Em l (2*i+2)):Cm l n i (2*i+1):=by
 refine⟨by omega,h1,by omega,fun k h0 h2 h3=>?_⟩;by_cases hk:k=2*i+1
 ·rw[hk];exact kad _
 ·have:k=2*i+2:=by omega
  subst this;exact h h2
theorem H8{l:List Int}{n i:Nat}(h1:2*i+2<n) (h:Em l (2*i+2)<Em l (2*i+1)):Cm l n i (2*i+2):=by
 refine⟨by omega,h1,by omega,fun k h0 h2 h3=>?_⟩;by_cases hk:k=2*i+1
 ·rw[hk];omega
 ·have:k=2*i+2:=by omega
  subst this;exact kad _
theorem MJ{l:List Int}{n i:Nat}(h:DW l n i) (hn:n≤2*i+1):Hp l n:=fun k h0 h1=>h.1 k h0 h1 (by omega)
theorem Sy{l:List Int}{n i j:Nat}(h:DW l n i) (hc:Cm l n i j) (hle:Em l i≤Em l j):Hp l n:=by
 intro k h0 h1;by_cases hk:(k-1) / 2=i
 ·have:=hc.2.2.2 k h0 h1 hk;rw[hk];omega
 ·exact h.1 k h0 h1 hk
theorem EC{l:List Int}{n i j:Nat}(h:DW l n i) (hn:n≤l.length) (hc:Cm l n i j) (hlt:Em l j<Em l i):DW (swp l i j) n j:=by
 obtain⟨c0,c1,c2,c3⟩:=hc;have hi:i<l.length:=by omega
 have hj:j<l.length:=by omega
 refine⟨fun k h0 h1 h2=>?_,fun k h0 h1 h2 h3=>?_⟩
 ·rw[vj hi hj,vj hi hj,if_neg h2];by_cases hk:k=j
  ·subst hk;rw[if_pos c2,if_pos rfl];omega
  ·rw[if_neg hk];by_cases hki:k=i
   ·subst hki;rw[if_neg (by omega),if_pos rfl];exact h.2 j h0 c0 c1 c2
   ·rw[if_neg hki];by_cases hp:(k-1) / 2=i
    ·rw[if_pos hp];exact c3 k h0 h1 hp
    ·rw[if_neg hp];exact h.1 k h0 h1 hp
 ·rw[vj hi hj,vj hi hj,if_neg (by omega),if_pos c2,if_neg (by omega),if_neg (by omega)];have:=h.1 k h1 h2 (by omega);rw[h3]at this;exact this
theorem N7{l:List Int}{n:Nat}(h:Hp l l.length) (hl:l.length=n+1):DW (swp l 0 n) n 0:=by
 refine⟨fun k h0 h1 h2=>?_,fun k h0=>absurd h0 (by omega)⟩;rw[vj (by omega) (by omega),vj (by omega) (by omega),if_neg (by omega),if_neg h2,if_neg (by omega),if_neg (by omega)];exact h k h0 (by omega)
theorem fZ{l:List Int}{n:Nat}(h:Hp l n):∀k,k<n→Em l 0≤Em l k:=by
 intro k
 induction k using Mad with
 |ind k ih=>
  intro hk;by_cases h0:k=0
  ·rw[h0];exact kad _
  ·have h1:=ih ((k-1) / 2) (by omega) (by omega);have h2:=h k (by omega) hk;omega
theorem ES{l:List Int}{n:Nat}(h:Hp l n) (hn:n≤l.length):Hp (l.take n) (l.take n).length:=by
 intro k h0 h1;rw[Qaa]at h1;have e:∀q,q<n→Em (l.take n) q=Em l q:=fun q hq=>by
  rw[Lb (by rw[Qaa];omega),Lb (by omega),zac]
 rw[e _ (by omega),e _ (by omega)];exact h k h0 (by omega)
end Go.Tm
namespace Go.Proofs.Dev
open Go Go.Tm
structure GOk (g:List (List Int)):Prop where
 len:g.length≤1048576
 inr:∀l∈g,∀e∈l,0≤e∧e<g.length
 nd:∀l∈g,l.Nodup
theorem Kw:∀{n:Nat}{l:List Int},l.Nodup→(∀x∈l,0≤x∧x<(n:Int))→l.length≤n
 |0,l,_,h=>by
  cases l with
  |nil=>exact yaa _
  |cons x l=>have:=h x (had ..);omega
 |n+1,l,hd,h=>by
  by_cases hm:(n:Int)∈l
  ·have h1:=Kw (n:=n) (l:=l.erase n) (hd.erase _) (fun x hx=>by
    have h2:=h x (List.mem_of_mem_erase hx);have h3:x≠n:=((hd.mem_erase_iff).1 hx).1;omega)
   rw[List.length_erase_of_mem hm]at h1;omega
  ·have:=Kw (n:=n) (l:=l) hd (fun x hx=>by
    have h2:=h x hx;have h3:x≠n:=fun e=>hm (e▸hx);omega)
   omega
def ef(g:List (List Int)) (i d:Nat):List Int:=((waa i).filter fun e=>(g.getD e []).contains (d:Int)).map fun(e:Nat)=>(e:Int)
def Mm(g:List (List Int)) (i j d:Nat):List Int:=ef g i d++if((g.getD i []).take j).contains (d:Int)then [(i:Int)]else []
theorem WK{g:List (List Int)}{d:Nat}:ef g 0 d=[]:=rfl
theorem YI{g:List (List Int)}{i d:Nat}:Mm g i 0 d=ef g i d:=by simp[Mm]
theorem DK{g:List (List Int)}{i d:Nat}:ef g (i+1) d=Mm g i (g.getD i []).length d:=by
 unfold ef Mm ef;rw[Oac,uab,Cab,dab];congr 1;simp only[Gab,Vac];split<;>rfl
theorem oC{g:List (List Int)}{i j d:Nat}(hj:j<(g.getD i []).length) (hnd:(g.getD i []).Nodup):Mm g i (j+1) d=if(g.getD i [])[j]=(d:Int)then Mm g i j d++[(i:Int)]else Mm g i j d:=by
 unfold Mm;rw[Zaa,iaa hj,zab];by_cases h:(g.getD i [])[j]=(d:Int)
 ·rw[if_pos h];have h1:((g.getD i []).take j++[(g.getD i [])[j]]).contains (d:Int)=true:=xaa.2 (Jaa.2 (.inr (by rw[h];exact iae _)));have h2:((g.getD i []).take j).contains (d:Int)=false:=by
   rw[←Fac,xaa];intro hm;obtain⟨k,hk,e⟩:=Faa hm;rw[Qaa]at hk;rw[zac,←h]at e;exact(Cac.1 hnd) k j (by omega) hj (by omega) e
  rw[if_pos h1,if_neg (by rw[h2];simp),List.append_nil]
 ·rw[if_neg h];have h1:((g.getD i []).take j++[(g.getD i [])[j]]).contains (d:Int)=((g.getD i []).take j).contains (d:Int):=by
   rw[dac,xaa,xaa,Jaa,Paa];exact⟨fun hm=>hm.elim id fun e=>(h e.symm).elim,.inl⟩
  rw[h1]
theorem MA{g:List (List Int)}{i d:Nat}:(ef g i d).length≤i:=by
 unfold ef;rw[gab];exact Iab (Maa _ _) (by simp)
theorem GL{g:List (List Int)}{i j d:Nat}:(Mm g i j d).length≤i+1:=by
 unfold Mm;rw[Haa];have:=MA (g:=g) (i:=i) (d:=d);split<;>simp<;>omega
def TG(g:List (List Int)) (i:Nat):List Int:=((waa i).filter fun e=>(g.getD e []).isEmpty).map fun(e:Nat)=>(e:Int)
theorem JF{g:List (List Int)}{i:Nat}:TG g (i+1)=if(g.getD i [])=[]then TG g i++[(i:Int)]else TG g i:=by
 unfold TG;rw[Oac,uab,Cab];simp only[Gab,Vac,List.isEmpty_iff];split<;>simp
theorem uR{g:List (List Int)}{i:Nat}:(TG g i).length≤i:=by
 unfold TG;rw[gab];exact Iab (Maa _ _) (by simp)
def Zu(g:List (List Int)) (i:Nat):List Int:=(waa g.length).map fun e=>if e<i then((g.getD e []).length:Int)else 0
theorem TK{g:List (List Int)}:Zu g 0=maa g.length 0:=by
 unfold Zu;apply xac<;>simp
theorem FK{g:List (List Int)}{i:Nat}(hi:i<g.length):(Zu g i).set i ((g.getD i []).length:Int)=Zu g (i+1):=by
 unfold Zu;apply xac
 ·simp
 ·intro k h1 h2;rw[oad];simp only[eac,vac];split
  ·rename_i h;subst h;rw[if_pos (by omega)]
  ·by_cases hk:k<i
   ·rw[if_pos hk,if_pos (by omega)]
   ·rw[if_neg hk,if_neg (by omega)]
end Go.Proofs.Dev
namespace Go.Proofs.Dev
open Go Go.Tm
def Yx(g:List (List Int)) (out:List Int) (e:Nat):Int:=(((g.getD e []).filter fun d=>!out.contains d).length:Int)
def YD(g:List (List Int)) (out:List Int):List Int:=(waa g.length).map fun e=>Yx g out e
def oI(g:List (List Int)) (out:List Int):List Int:=((waa g.length).filter (mE g out)).map fun(d:Nat)=>(d:Int)
structure J2 (g:List (List Int)) (out l:List Int):Prop where
 nd:out.Nodup
 inr:∀x∈out,0≤x∧x<(g.length:Int)
 JM:∀d:Nat,(d:Int)∈out→∀e∈g.getD d [],e∈out
 perm:l.Perm (oI g out)
 ord:Dp g (g.length-out.length) out=Xp g
theorem vy{g:List (List Int)}{out:List Int}{x:Int}:x∈oI g out↔∃d:Nat,x=d∧d<g.length∧(d:Int)∉out∧∀e∈g.getD d [],e∈out:=by
 unfold oI;rw[Tab];constructor
 ·rintro⟨d,hd,rfl⟩;rw[tab,Nab]at hd;obtain⟨h1,h2⟩:=hd;unfold mE at h2;simp only[paa,Cad,Raa,xaa]at h2;refine⟨d,rfl,h1,fun hm=>?_,h2.2⟩;have:=xaa.2 hm;rw[h2.1]at this;cases this
 ·rintro⟨d,rfl,h1,h2,h3⟩;refine⟨d,?_,rfl⟩;rw[tab,Nab];refine⟨h1,?_⟩;unfold mE;simp only[paa,Cad,Raa,xaa];refine⟨?_,h3⟩;rw[←Fac,xaa];exact h2
theorem XP{g:List (List Int)}{out:List Int}:(oI g out).Nodup:=by
 unfold oI;rw[Uad,Jae];refine Kae (R:=fun a b:Nat=>a<b) (fun h=>by omega) ?_;exact Kad _ lae
theorem j2_0{g:List (List Int)}{l:List Int}(h:l.Perm (TG g g.length)):J2 g [] l:=by
 refine⟨List.nodup_nil,fun x h=>(Jad h).elim,fun d h=>(Jad h).elim,?_,by rw[Hab,jad];rfl⟩;have:TG g g.length=oI g []:=by
  unfold TG oI;congr 1;refine eae fun d _=>?_;unfold mE;cases hq:g.getD d []<;>simp
 rw[←this];exact h
theorem sW{g:List (List Int)}:Zu g g.length=YD g []:=by
 unfold Zu YD;refine nac fun e he=>?_;rw[if_pos (Nab.1 he)];unfold Yx;congr 2;exact(List.filter_eq_self.2 fun _ _=>by simp).symm
theorem FX{g:List (List Int)}{out:List Int}(h:J2 g out []):Xp g=if out.length<g.length then([],9)else(out,0):=by
 rw[←h.ord];have hl:out.length≤g.length:=Kw h.nd h.inr;have he:oI g out=[]:=List.Perm.eq_nil (h.perm.symm);split
 ·rename_i hlt;obtain⟨k,hk⟩:∃k,g.length-out.length=k+1:=⟨g.length-out.length-1,by omega⟩;rw[hk];unfold Dp;have hf:(waa g.length).find? (mE g out)=none:=by
   rw[List.find?_eq_none];intro d hd hr;have:(d:Int)∈oI g out:=by
    unfold oI;exact Tab.2 ⟨d,tab.2 ⟨hd,hr⟩,rfl⟩
   rw[he]at this;exact Jad this
  rw[hf]
 ·rw[show g.length-out.length=0 by omega];rfl
def Sr(g:List (List Int)) (out:List Int) (d k:Nat):List Int:=(waa g.length).map fun e=>Yx g out e-if((ef g g.length d).take k).contains (e:Int)then 1 else 0
def ew(g:List (List Int)) (out:List Int) (d k:Nat):List Int:=((ef g g.length d).take k).filter fun e=>Yx g out e.toNat==1
theorem Js{g:List (List Int)}{d:Nat}{x:Int}:x∈ef g g.length d↔∃e:Nat,x=e∧e<g.length∧(d:Int)∈g.getD e []:=by
 unfold ef;rw[Tab];constructor
 ·rintro⟨e,he,rfl⟩;rw[tab,Nab,xaa]at he;exact⟨e,rfl,he.1,he.2⟩
 ·rintro⟨e,rfl,h1,h2⟩;exact⟨e,by rw[tab,Nab,xaa];exact⟨h1,h2⟩,rfl⟩
theorem uI{g:List (List Int)}{d:Nat}:(ef g g.length d).Nodup:=by
 unfold ef;rw[Uad,Jae];refine Kae (R:=fun a b:Nat=>a<b) (fun h=>by omega) ?_;exact Kad _ lae
theorem WW{g:List (List Int)}{out:List Int}{d:Nat}:Sr g out d 0=YD g out:=by
 unfold Sr YD;simp
theorem HL{l:List Int}(hnd:l.Nodup) {k:Nat}(hk:k<l.length):(l.take k).contains l[k]=false:=by
 rw[←Fac,xaa];intro hm;obtain⟨q,hq,e⟩:=Faa hm;rw[Qaa]at hq;rw[zac]at e;exact(Cac.1 hnd) q k (by omega) hk (by omega) e
theorem AM{g:List (List Int)}{out:List Int}{d k e:Nat}(hk:k<(ef g g.length d).length) (he:(ef g g.length d)[k]=(e:Int)) (hl:e<g.length):(Sr g out d k)[e]?=some (Yx g out e):=by
 unfold Sr;rw[List.getElem?_map,List.getElem?_range hl,Vab,←he,HL uI hk];simp
theorem AB{g:List (List Int)}{out:List Int}{d k e:Nat}(hk:k<(ef g g.length d).length) (he:(ef g g.length d)[k]=(e:Int)):(Sr g out d k).set e (Yx g out e-1)=Sr g out d (k+1):=by
 unfold Sr;apply xac
 ·simp
 ·intro q h1 h2;rw[oad];simp only[eac,vac];rw[Zaa,iaa hk,zab,he];split
  ·rename_i h;subst h;rw[if_pos (xaa.2 (Jaa.2 (.inr (iae _))))]
  ·rename_i h;have:((ef g g.length d).take k++[(e:Int)]).contains (q:Int)=((ef g g.length d).take k).contains (q:Int):=by
    rw[dac,xaa,xaa,Jaa,Paa];exact⟨fun hm=>hm.elim id fun e=>absurd e (by omega),.inl⟩
   rw[this]
theorem vW{g:List (List Int)}{out:List Int}{d:Nat}:ew g out d 0=[]:=rfl
theorem zB{g:List (List Int)}{out:List Int}{d k e:Nat}(hk:k<(ef g g.length d).length) (he:(ef g g.length d)[k]=(e:Int)):ew g out d (k+1)=if Yx g out e=1 then ew g out d k++[(e:Int)]else ew g out d k:=by
 unfold ew;rw[Zaa,iaa hk,zab,he,uab];simp only[Gab,Vac,Rab,beq_iff_eq];split<;>simp
theorem wO{g:List (List Int)}{out:List Int}{d k:Nat}:(ew g out d k).length≤g.length:=by
 unfold ew;refine Iab (Maa _ _) ?_;rw[Qaa];exact Iab (Nat.min_le_right _ _) MA
theorem nW{g:List (List Int)}{e:Nat}(h:e<g.length):g.getD e []∈g:=by
 have:g[e]?=some (g.getD e []):=by simp[h]
 exact kab this
theorem Bz{g:List (List Int)}(hg:GOk g) {out:List Int}{d e:Nat}(he:e<g.length) (hd:(d:Int)∉out):Yx g (out++[(d:Int)]) e=Yx g out e-if(ef g g.length d).contains (e:Int)then 1 else 0:=by
 unfold Yx;have hn:=hg.nd _ (nW he);have hc:(ef g g.length d).contains (e:Int)=(g.getD e []).contains (d:Int):=by
  rw[dac,xaa,xaa,Js];constructor
  ·rintro⟨e',h1,h2,h3⟩;have:e=e':=by omega
   subst this;exact h3
  ·intro h;exact⟨e,rfl,he,h⟩
 rw[hc];generalize g.getD e []=l at hn
 induction l with
 |nil=>rfl
 |cons a l ih=>
  have hn':=wad.1 hn;have ih:=ih hn'.2;by_cases ha:a=(d:Int)
  ·subst ha;have h1:(!(out++[(d:Int)]).contains (d:Int))=false:=by simp
   have h2:(!out.contains (d:Int))=true:=by simpa using hd
   have h3:l.contains (d:Int)=false:=by rw[←Fac,xaa];exact hn'.1
   rw[h3]at ih;rw[Gab,Gab,h1,h2,if_neg (by simp),if_pos rfl,Daa,if_pos (xaa.2 (had ..)),ih];simp
  ·have h1:(!(out++[(d:Int)]).contains a)=(!out.contains a):=by
    congr 1;rw[dac,xaa,xaa,Jaa,Paa];exact⟨fun hm=>hm.elim id fun e=>(ha e).elim,.inl⟩
   have h2:(a::l).contains (d:Int)=l.contains (d:Int):=by
    rw[dac,xaa,xaa,fab];exact⟨fun hm=>hm.elim (fun e=>(ha e.symm).elim) id,.inr⟩
   rw[Gab,Gab,h1,h2];split
   ·rw[Daa,Daa];omega
   ·exact ih
theorem gF{g:List (List Int)}{out:List Int}{e:Nat}(h:∀q∈g.getD e [],q∈out):Yx g out e=0:=by
 unfold Yx;rw[fad.2 (fun q hq=>by simpa using h q hq)];rfl
theorem GJ{g:List (List Int)}{out:List Int}{e:Nat}(h:Yx g out e=0):∀q∈g.getD e [],q∈out:=by
 unfold Yx at h;have h1:(g.getD e []).filter (fun d=>!out.contains d)=[]:=Eaa (by omega);intro q hq;have:=fad.1 h1 q hq;simpa using this
theorem kV{g:List (List Int)}(hg:GOk g) {x:Int}{l l' out:List Int}(h:J2 g out l) (hp:(x::l').Perm l) (hmin:∀y∈l',x≤y) :
 ∃d:Nat,x=d∧d<g.length∧Sr g out d (ef g g.length d).length=YD g (out++[x])∧out.length<g.length∧∀l'',l''.Perm (l'++ew g out d (ef g g.length d).length)→J2 g (out++[x]) l'':=by
 have hpr:=hp.trans h.perm;obtain⟨d,rfl,hdl,hdo,hde⟩:=vy.1 (hpr.mem_iff.1 (had ..));have hnd1:(out++[(d:Int)]).Nodup:=by
  rw[Lae];refine⟨h.nd,by simp,fun a ha b hb=>?_⟩;rw[Paa]at hb;intro e;exact hdo (hb▸e▸ha)
 have hin1:∀x∈out++[(d:Int)],0≤x∧x<(g.length:Int):=fun x hx=>by
  rcases Jaa.1 hx with h1|h1
  ·exact h.inr x h1
  ·rw[Paa]at h1;omega
 have hlen:out.length<g.length:=by
  have:=Kw hnd1 hin1;simp at this;omega
 have hxl:(d:Int)∉l'∧l'.Nodup:=wad.1 ((hpr.nodup_iff).2 XP);refine⟨d,rfl,hdl,?_,hlen,fun l'' hl''=>⟨hnd1,hin1,?_,?_,?_⟩⟩
 ·unfold Sr YD;refine nac fun e he=>?_;rw[dab,Bz hg (Nab.1 he) hdo]
 ·intro q hq e he;rcases Jaa.1 hq with h1|h1
  ·exact nad _ (h.JM q h1 e he)
  ·rw[Paa]at h1;have:q=d:=by omega
   subst this;exact nad _ (hde e he)
 ·refine hl''.trans ?_;have hnw:(ew g out d (ef g g.length d).length).Nodup:=by
   unfold ew;rw[dab];exact Kad _ uI
  have mnew:∀y,y∈ew g out d (ef g g.length d).length↔∃e:Nat,y=e∧e<g.length∧(d:Int)∈g.getD e []∧Yx g out e=1:=by
   intro y;unfold ew;rw[dab,tab,Js];constructor
   ·rintro⟨⟨e,rfl,h1,h2⟩,h3⟩;exact⟨e,rfl,h1,h2,by simpa using h3⟩
   ·rintro⟨e,rfl,h1,h2,h3⟩;exact⟨⟨e,rfl,h1,h2⟩,by simpa using h3⟩
  have ml:∀y,y∈l'↔y∈oI g out∧y≠d:=by
   intro y;rw[←hpr.mem_iff,fab];constructor
   ·intro hy;exact⟨.inr hy,fun e=>hxl.1 (e▸hy)⟩
   ·rintro⟨h1,h2⟩;exact h1.elim (fun e=>(h2 e).elim) id
  rw[List.perm_ext_iff_of_nodup ?_ XP]
  ·intro y;rw[Jaa,ml,mnew,vy,vy];constructor
   ·rintro(⟨⟨e,rfl,h1,h2,h3⟩,h4⟩|⟨e,rfl,h1,h2,h3⟩)
    ·refine⟨e,rfl,h1,fun hm=>?_,fun q hq=>nad _ (h3 q hq)⟩;rcases Jaa.1 hm with h5|h5
     ·exact h2 h5
     ·exact h4 (Paa.1 h5)
    ·refine⟨e,rfl,h1,fun hm=>?_,?_⟩
     ·rcases Jaa.1 hm with h5|h5
      ·exact hdo (h.JM e h5 d h2)
      ·rw[Paa]at h5;have:e=d:=by omega
       subst this;exact hdo (hde _ h2)
     ·refine GJ ?_;rw[Bz hg h1 hdo,if_pos (xaa.2 (Js.2 ⟨e,rfl,h1,h2⟩)),h3];rfl
   ·rintro⟨e,rfl,h1,h2,h3⟩;have h4:(e:Int)∉out:=fun hm=>h2 (nad _ hm);have h5:(e:Int)≠d:=fun hm=>h2 (List.mem_append_right _ (Paa.2 hm));by_cases h6:(d:Int)∈g.getD e []
    ·refine .inr ⟨e,rfl,h1,h6,?_⟩;have:=gF h3;rw[Bz hg h1 hdo,if_pos (xaa.2 (Js.2 ⟨e,rfl,h1,h6⟩))]at this;omega
    ·refine .inl ⟨⟨e,rfl,h1,h4,fun q hq=>?_⟩,h5⟩;rcases Jaa.1 (h3 q hq)with h7|h7
     ·exact h7
     ·rw[Paa]at h7;exact(h6 (h7▸hq)).elim
  ·rw[Lae];refine⟨hxl.2,hnw,fun a ha b hb e=>?_⟩;subst e;obtain⟨e,rfl,h1,h2,h3⟩:=(mnew a).1 hb;obtain⟨e',h4,h5,h6,h7⟩:=vy.1 ((ml _).1 ha).1;have:e=e':=by omega
   subst this;rw[gF h7]at h3;cases h3
 ·rw[←h.ord];obtain⟨k,hk⟩:∃k,g.length-out.length=k+1:=⟨g.length-out.length-1,by omega⟩;rw[hk,Haa,Fab,show g.length-(out.length+1)=k by omega];have hf:(waa g.length).find? (mE g out)=some d:=by
   have hr:∀e:Nat,e<g.length→(mE g out e=true↔(e:Int)∈oI g out):=by
    intro e he;unfold oI;rw[Tab];constructor
    ·intro h1;exact⟨e,tab.2 ⟨Nab.2 he,h1⟩,rfl⟩
    ·rintro⟨e',h1,h2⟩;have:e'=e:=by omega
     subst this;exact(tab.1 h1).2
   rw[List.find?_range_eq_some];refine⟨(hr d hdl).2 (hpr.mem_iff.1 (had ..)),by simpa using hdl,fun e he=>?_⟩;rw[Cad,←Fac,hr e (by omega)];intro hm;rcases fab.1 (hpr.mem_iff.2 hm)with h1|h1
   ·omega
   ·have:=hmin _ h1;omega
  rw[Dp,hf]
end Go.Proofs.Dev
namespace Go.Proofs.Dev
open Go Go.Tm
noncomputable def Sf(x7:List Int):((List Bool)×(List Int)×Int)→Option (Ex ((List Bool)×(List Int)×Int) ((List Bool)×(List Int)) Unit):=fun(s8,s9,s10)=>
 if s10<(x7.length:Int)then
  jaa (α:=((List Bool)×(List Int))) (
   (idx x7 s10).bind fun x12=>
   (idx s8 x12).bind fun x13=>
   if x13=false then
    (put s8 x12 true).bind fun x15=>
    (app 8 s9 ([x12])).bind fun x16=>
    some (x15,x16)
   else
   some (s8,s9)) fun(j17,j18)=>
  some (Ex.go (j17,j18,(ca .i64 (s10+1))))
 else
 some (Ex.brk (s8,s9))
noncomputable def Be(t0:(List (List Int))):((List Bool)×(List Int))→Option (Ex ((List Bool)×(List Int)) (List Bool) Unit):=fun(s2,s3)=>
 if 0<(s3.length:Int)then
  (idx s3 0).bind fun x5=>
  (Zx s3 1).bind fun x6=>
  (idx t0 x5).bind fun x7=>
  (ia (Sf x7) (s2,x6,0)).bind fun y=>match y with
  |.inr _=>none
  |.inl (b22,b23)=>
  some (Ex.go (b22,b23))
 else
 some (Ex.brk s2)
noncomputable def Xf(b26:List Bool):((List Int)×Int)→Option (Ex ((List Int)×Int) (List Int) Unit):=fun(s27,s28)=>
 if s28<(b26.length:Int)then
  jaa (α:=(List Int)) (
   (idx b26 s28).bind fun x30=>
   if x30=true then
    (app 8 s27 ([s28])).bind fun x32=>
    some x32
   else
   some s27) fun j33=>
  some (Ex.go (j33,(ca .i64 (s28+1))))
 else
 some (Ex.brk s27)
noncomputable def ln(t0:(List (List Int))) (t1:Int):Option (List Int):=
 (au 1 false (t0.length:Int) (t0.length:Int)).bind fun x1=>
 (ia (Be t0) (x1,[t1])).bind fun y=>match y with
 |.inr _=>none
 |.inl b26=>
 (ia (Xf b26) (([]:List Int),0)).bind fun y=>match y with
 |.inr _=>none
 |.inl b36=>
 some b36
def visit(p:List Bool×List Int) (e:Int):List Bool×List Int:=if p.1[e.toNat]?=some true then p else(p.1.set e.toNat true,p.2++[e])
def Sn(s:List Bool) (b:Int):Prop:=s[b.toNat]?=some true
instance (s:List Bool) (b:Int):Decidable (Sn s b):=by unfold Sn;infer_instance
def cF(s:List Bool):Nat:=s.count false
theorem OM:∀{s:List Bool}{i:Nat},s[i]?=some false→cF (s.set i true)+1=cF s
 |[],i,h=>by simp at h
 |b::s,0,h=>by simp at h;subst h;simp[cF]
 |b::s,i+1,h=>by
  have:=OM (s:=s) (i:=i) (by simpa using h);unfold cF at this⊢;simp only[List.set_cons_succ,List.count_cons];omega
theorem n8(s:List Bool):cF s≤s.length:=List.count_le_length
structure Ok (n:Nat) (p:List Bool×List Int):Prop where
 len:p.1.length=n
 q:∀x∈p.2,0≤x∧x<n
 m:p.2.length+cF p.1≤n+1
theorem ZD{n:Nat}{p:List Bool×List Int}{e:Int}(h:Ok n p) (h0:0≤e) (h1:e<n) :
 Ok n (visit p e)∧(visit p e).2.length+cF (visit p e).1=p.2.length+cF p.1∧(∀b,0≤b→(Sn (visit p e).1 b↔Sn p.1 b∨b=e))∧(∀x,x∈(visit p e).2↔x∈p.2∨(x=e∧¬Sn p.1 e)):=by
 unfold visit;split
 ·rename_i hs;refine⟨h,rfl,fun b hb=>⟨.inl,fun h=>?_⟩,fun x=>⟨.inl,fun h=>?_⟩⟩
  ·rcases h with h|rfl
   ·exact h
   ·exact hs
  ·rcases h with h|⟨rfl,h⟩
   ·exact h
   ·exact(h hs).elim
 ·rename_i hs;have hlt:e.toNat<p.1.length:=by rw[h.len];omega
  have hf:p.1[e.toNat]?=some false:=by
   rw[iaa hlt]at hs⊢
   cases hb:p.1[e.toNat]with
   |true=>rw[hb]at hs;exact(hs rfl).elim
   |false=>rfl
  have hc:=OM hf;have hm:=h.m;refine⟨⟨by simp[h.len],fun x hx=>?_,?_⟩,?_,fun b hb=>?_,fun x=>?_⟩
  ·rcases Jaa.1 hx with hx|hx
   ·exact h.q x hx
   ·rw[Paa]at hx;subst hx;exact⟨h0,h1⟩
  ·simp only[Haa,Fab];omega
  ·simp only[Haa,Fab];omega
  ·unfold Sn;rw[fac];by_cases hbe:e.toNat=b.toNat
   ·rw[if_pos hbe,if_pos hlt];exact⟨fun _=>.inr (by omega),fun _=>rfl⟩
   ·rw[if_neg hbe];exact⟨.inl,fun h=>h.elim id fun h=>(hbe (by rw[h])).elim⟩
  ·rw[Jaa,Paa];exact⟨fun h=>h.imp id fun h=>⟨h,hs⟩,fun h=>h.imp id fun h=>h.1⟩
theorem PB{n:Nat}:∀{l:List Int}{p:List Bool×List Int},Ok n p→(∀e∈l,0≤e∧e<n)→
 Ok n (l.foldl visit p)∧(l.foldl visit p).2.length+cF (l.foldl visit p).1=p.2.length+cF p.1∧(∀b,0≤b→(Sn (l.foldl visit p).1 b↔Sn p.1 b∨b∈l))∧(∀x,x∈(l.foldl visit p).2↔x∈p.2∨(x∈l∧¬Sn p.1 x))
 |[],p,h,_=>by simp[h]
 |e::l,p,h,hl=>by
  obtain⟨h0,h1⟩:=hl e (by simp);obtain⟨a1,a2,a3,a4⟩:=ZD h h0 h1;obtain⟨b1,b2,b3,b4⟩:=PB a1 (fun x hx=>hl x (by simp[hx])) (l:=l);simp only[aac];refine⟨b1,by omega,fun b hb=>?_,fun x=>?_⟩
  ·rw[b3 b hb,a3 b hb,fab];constructor
   ·rintro((h|h)|h)
    ·exact .inl h
    ·exact .inr (.inl h)
    ·exact .inr (.inr h)
   ·rintro(h|h|h)
    ·exact .inl (.inl h)
    ·exact .inl (.inr h)
    ·exact .inr h
  ·rw[b4 x,a4 x,fab];constructor
   ·rintro((h|⟨rfl,h⟩)|⟨h,h'⟩)
    ·exact .inl h
    ·exact .inr ⟨.inl rfl,h⟩
    ·exact .inr ⟨.inr h,fun hs=>h' ((a3 x (hl x (by simp[h])).1).2 (.inl hs))⟩
   ·rintro(h|⟨rfl|h,h'⟩)
    ·exact .inl (.inl h)
    ·exact .inl (.inr ⟨rfl,h'⟩)
    ·by_cases hxe:x=e
     ·subst hxe;exact .inl (.inr ⟨rfl,h'⟩)
     ·exact .inr ⟨h,fun hs=>((a3 x (hl x (by simp[h])).1).1 hs).elim h' hxe⟩
theorem GI{i:Int}(h0:0≤i) (h1:i<9223372036854775807):ca .i64 (i+1)=i+1:=Vo ⟨by omega,by omega⟩
theorem ZU{n:Nat}(hn:n≤1048576) {l:List Int}(hl:l.length≤1048576) (hle:∀e∈l,0≤e∧e<n):∀(k:Nat) {p:List Bool×List Int}{i:Nat},l.length-i=k→Ok n p→
 ia (Sf l) (p.1,p.2,(i:Int))=some (.inl ((l.drop i).foldl visit p))
 |0,p,i,hk,hp=>by
  rw[List.drop_eq_nil_of_le (by omega)];refine Nb ?_;unfold Sf;simp only;rw[if_neg (by omega)];rfl
 |k+1,p,i,hk,hp=>by
  have hi:i<l.length:=by omega
  obtain⟨h0,h1⟩:=hle l[i] (raa hi);have hlt:l[i].toNat<p.1.length:=by rw[hp.len];omega
  rw[nab hi,aac];have hstep:Sf l (p.1,p.2,(i:Int))=some (.go ((visit p l[i]).1,(visit p l[i]).2,((i+1:Nat):Int))):=by
   unfold Sf;simp only;rw[if_pos (by omega)];have e1:idx l (i:Int)=some l[i]:=by simp[idx,hi]
   have e2:idx p.1 l[i]=some p.1[l[i].toNat]:=by simp[idx,h0,hlt]
   have e3:ca .i64 ((i:Int)+1)=((i+1:Nat):Int):=by rw[GI (by omega) (by omega)];omega
   rw[e1,haa,e2,haa,e3];unfold visit;rw[iaa hlt]
   cases hb:p.1[l[i].toNat]with
   |true=>simp
   |false=>
    have e4:put p.1 l[i] true=some (p.1.set l[i].toNat true):=by simp[put,h0,hlt]
    have e5:app 8 p.2 [l[i]]=some (p.2++[l[i]]):=by
     have hm:=hp.m;unfold app;rw[if_pos];simp only[Fab];omega
    rw[if_pos rfl,e4,haa,e5];simp
  rw[Xe hstep];exact ZU hn hl hle k (i:=i+1) (by omega) (ZD hp h0 h1).1
def EX(g:List (List Int)) (a b:Int):Prop:=b=a∨ReachL g a b
structure Bfs (g:List (List Int)) (a:Int) (p:List Bool×List Int):Prop where
 ok:Ok g.length p
 sound:∀b,0≤b→Sn p.1 b→ReachL g a b
 qs:∀x∈p.2,EX g a x
 done:∀b,0≤b→(b=a∨Sn p.1 b)→b∈p.2∨∀l,g[b.toNat]?=some l→∀c∈l,Sn p.1 c
theorem V7{g:List (List Int)}{a:Int}(hn:g.length≤1048576) (hg:∀l∈g,l.length≤1048576∧∀e∈l,0≤e∧e<g.length):∀(k:Nat) {p:List Bool×List Int},p.2.length+cF p.1=k→Bfs g a p→
 ∃s,ia (Be g) p=some (.inl s)∧Bfs g a (s,[]):=by
 intro k
 induction k with
 |zero=>
  intro p hk hp;obtain⟨s,q⟩:=p;have:q=[]:=Eaa (by dsimp only at hk;omega);subst this;exact⟨s,Nb (by simp[Be]),hp⟩
 |succ k ih=>
  intro p hk hp;obtain⟨s,q⟩:=p
  cases q with
  |nil=>exact⟨s,Nb (by simp[Be]),hp⟩
  |cons d q=>
   obtain⟨d0,d1⟩:=hp.ok.q d (by simp);have hd:d.toNat<g.length:=by omega
   obtain⟨gl,ge⟩:=hg g[d.toNat] (raa hd);have hok:Ok g.length (s,q):=⟨hp.ok.len,fun x hx=>hp.ok.q x (by simp[hx]),by have:=hp.ok.m;simp only[Daa]at this⊢;omega⟩;obtain⟨v1,v2,v3,v4⟩:=PB hok ge (l:=g[d.toNat]);have hstep:Be g (s,d::q)=some (.go (g[d.toNat].foldl visit (s,q))):=by
    unfold Be;simp only;rw[if_pos (by simp)];have e1:idx (d::q) 0=some d:=rfl;have e2:Zx (d::q) 1=some q:=by simp[Zx]
    have e3:idx g d=some g[d.toNat]:=by simp[idx,d0,hd]
    have e4:=ZU hn gl ge _ (p:=(s,q)) (i:=0) rfl hok;simp only[List.drop_zero,aad]at e4;rw[e1,haa,e2,haa,e3,haa,e4];rfl
   rw[Xe hstep];have hk2:q.length+cF s=k:=by simp only[Daa]at hk;omega
   refine ih (by rw[v2];exact hk2) ⟨v1,fun b hb hs=>?_,fun x hx=>?_,fun b hb hbs=>?_⟩
   ·rcases(v3 b hb).1 hs with h|h
    ·exact hp.sound b hb h
    ·rcases hp.qs d (by simp)with rfl|hr
     ·exact .one (iaa hd) h
     ·exact .step hr (iaa hd) h
   ·rcases(v4 x).1 hx with h|⟨h,-⟩
    ·exact hp.qs x (by simp[h])
    ·right;rcases hp.qs d (by simp)with rfl|hr
     ·exact .one (iaa hd) h
     ·exact .step hr (iaa hd) h
   ·have up:∀c,0≤c→Sn s c→Sn (g[d.toNat].foldl visit (s,q)).1 c:=fun c hc h=>(v3 c hc).2 (.inl h);by_cases hbd:b=d
    ·subst hbd;right;intro l hl c hc;rw[iaa hd]at hl;injection hl with hl;subst hl;exact(v3 c (ge c hc).1).2 (.inr hc)
    ·have key:(b=a∨Sn s b)∨(b∈g[d.toNat]∧¬Sn s b):=by
      rcases hbs with h|h
      ·exact .inl (.inl h)
      ·rcases(v3 b hb).1 h with h|h
       ·exact .inl (.inr h)
       ·by_cases hs:Sn s b
        ·exact .inl (.inr hs)
        ·exact .inr ⟨h,hs⟩
     rcases key with h|h
     ·rcases hp.done b hb h with h|h
      ·rcases fab.1 h with h|h
       ·exact(hbd h).elim
       ·exact .inl ((v4 b).2 (.inl h))
      ·right;intro l hl c hc;have hm:l∈g:=kab hl;exact up c ((hg l hm).2 c hc).1 (h l hl c hc)
     ·exact .inl ((v4 b).2 (.inr h))
theorem vU{s:List Bool}(hs:s.length≤1048576):∀(k:Nat) {i:Nat},s.length-i=k→i≤s.length→
 ia (Xf s) (((waa i).map fun(k:Nat)=>(k:Int)).filter (fun b=>decide (Sn s b)),(i:Int))=some (.inl (((waa s.length).map fun(k:Nat)=>(k:Int)).filter fun b=>decide (Sn s b)))
 |0,i,hk,hi=>by
  have:i=s.length:=by omega
  subst this;refine Nb ?_;unfold Xf;simp
 |k+1,i,hk,hi=>by
  have hlt:i<s.length:=by omega
  have hlen:(((waa i).map fun(k:Nat)=>(k:Int)).filter (fun b=>decide (Sn s b))).length≤i:=Iab (Maa _ _) (by simp);have hstep:Xf s (((waa i).map fun(k:Nat)=>(k:Int)).filter (fun b=>decide (Sn s b)),(i:Int))=some (.go (((waa (i+1)).map fun(k:Nat)=>(k:Int)).filter (fun b=>decide (Sn s b)),((i+1:Nat):Int))):=by
   unfold Xf;simp only;rw[if_pos (by omega)];have e1:idx s (i:Int)=some s[i]:=by simp[idx,hlt]
   have e3:ca .i64 ((i:Int)+1)=((i+1:Nat):Int):=by rw[GI (by omega) (by omega)];omega
   rw[e1,haa,e3,Oac,Cab,uab]
   cases hb:s[i]with
   |true=>
    have hsn:Sn s ((i:Nat):Int):=by unfold Sn;simp[hlt,hb]
    have e5:app 8 (((waa i).map fun(k:Nat)=>(k:Int)).filter (fun b=>decide (Sn s b))) [(i:Int)]=some (((waa i).map fun(k:Nat)=>(k:Int)).filter (fun b=>decide (Sn s b))++[(i:Int)]):=by
     unfold app;rw[if_pos];simp only[Fab];omega
    rw[if_pos rfl,e5];simp[hsn]
   |false=>
    have hsn:¬Sn s ((i:Nat):Int):=by unfold Sn;simp[hlt,hb]
    rw[if_neg (by simp)];simp[hsn]
  rw[Xe hstep];exact vU hs k (i:=i+1) (by omega) (by omega)
theorem AJ{t0:List (List Int)}{t1:Int}{r:List Int}(h:kh t0 t1=some r):ln t0 t1=some r:=by
 unfold kh at h;split at h
 ·rename_i hc;obtain⟨hn,hg,h0,h1⟩:=hc;obtain rfl:=Uaa h;unfold ln;have e1:au 1 false (t0.length:Int) (t0.length:Int)=some (maa t0.length false):=by
   unfold au;rw[if_pos ⟨by omega,by omega,by omega,by simp;omega⟩];simp
  have hb:Bfs t0 t1 (maa t0.length false,[t1]):=by
   have hno:∀b,¬Sn (maa t0.length false) b:=fun b hb=>by
    unfold Sn at hb;rw[List.getElem?_replicate]at hb;split at hb<;>simp at hb
   refine⟨⟨by simp,fun x hx=>?_,?_⟩,fun b _ hs=>(hno b hs).elim,fun x hx=>?_,fun b _ hs=>?_⟩
   ·rw[Paa]at hx;subst hx;exact⟨h0,h1⟩
   ·have:=n8 (maa t0.length false);simp only[Kab,Fab]at this⊢;omega
   ·rw[Paa]at hx;exact .inl hx
   ·rcases hs with rfl|hs
    ·exact .inl (by simp)
    ·exact(hno b hs).elim
  obtain⟨s,e2,hb⟩:=V7 hn hg _ rfl hb;have hlen:s.length=t0.length:=hb.ok.len;have e3:=vU (s:=s) (by omega) _ (i:=0) rfl (by omega);simp only[List.range_zero,Xac,Vac,aad]at e3;rw[e1,haa,e2,haa];simp only;rw[e3,haa];simp only;rw[hlen];unfold JA;congr 1;apply eae;intro b hbm;obtain⟨k,-,rfl⟩:=Tab.1 hbm;have hfull:∀b,ReachL t0 t1 b→0≤b∧Sn s b:=by
   intro b hr
   induction hr with
   |one h hb2=>
    have hm:=kab h;refine⟨((hg _ hm).2 _ hb2).1,?_⟩;rcases hb.done t1 h0 (.inl rfl)with h'|h'
    ·cases h'
    ·exact h' _ h _ hb2
   |step _ hl hc ih=>
    have hm:=kab hl;refine⟨((hg _ hm).2 _ hc).1,?_⟩;rcases hb.done _ ih.1 (.inr ih.2)with h'|h'
    ·cases h'
    ·exact h' _ hl _ hc
  exact decide_eq_decide.2 ⟨fun h=>hb.sound _ (by omega) h,fun h=>(hfull _ h).2⟩
 ·cases h
end Go.Proofs.Dev
namespace Go.Proofs.Dev
open Go Go.Tm
def qC:GRule:=GRule.mk (vaa #[98,97,115,101]) 0 (-1) 0 (GDateRange.mk 0 109573) ([]) ([(GNode.mk 7 0)]) (vaa #[])
def Wd:GScope:=GScope.mk (vaa #[104,111,117,115,101]) (-1) ([(GField.mk (vaa #[97]) (GType.mk 3 0))]) ([(GField.mk (vaa #[100]) (GType.mk 3 0))]) [qC]
def ee:GLaw:=GLaw.mk ([]) ([]) [Wd]
def qo:GFact:=GFact.mk 0 (-1) 0 (GValue.mk 3 0 500) (GDateRange.mk 0 109573) 0
def cj(l:List GFact):GHousehold:=GHousehold.mk 0 0 0 l
def vu:GPayConfig:=GPayConfig.mk 0 0 1 0 0 0 0 (GCalendar.mk 0 ([]))
def fv:GEnv:=⟨90,[⟨3,0,500⟩],[⟨0,0,0⟩],[],[],[]⟩
theorem eU:Fl ee 0 Wd=(0,0):=by
 have hc:ff (QJ Wd) Wd.Defs.length=none:=pb.2 fun i hi=>by
  have:i=0:=by simp only[Wd,Daa,Hab]at hi;omega
  subst this;unfold QJ;rw[if_neg];rw[←Fy];have:(ED Wd 0 Wd.Defs.length).contains 0=false:=by kernel_rfl
  intro h;have h2:(0:Int)∈ED Wd 0 Wd.Defs.length:=h;rw[xaa.2 h2]at this;cases this
 unfold Fl;rw[hc];rfl
theorem Zy:Pk ee=⟨0,0,0,0⟩:=by
 unfold Pk;simp only[show ee.Enums.length=0 from rfl,show ee.Tables.length=0 from rfl,show ee.Scopes.length=1 from rfl,ff];rw[show ee.Scopes[0]?=some Wd from rfl];dsimp only;rw[eU];rfl
theorem jL:gS ee (cj [])=(0,0):=by kernel_rfl
theorem RD:gS ee (cj [qo])=(0,0):=by kernel_rfl
theorem bD:ub 3=(⟨90,120⟩,0):=by kernel_rfl
theorem Ar:LawOk ee:=by
 have hs:ScOk Wd:=by constructor<;>simp[Wd,qC]
 constructor<;>simp[ee,hs];simp[Wd,qC,Kc]
 decide
theorem oE:FewR ee:=by constructor<;>simp[ee,Wd]
theorem aO:Of vu.Calendar=some true:=by
 unfold Of;rw[Nb (step:=Dc vu.Calendar) (b:=()) rfl];rfl
theorem zE{l:List GFact}(h:gS ee (cj l)=(0,0)):Od ee (cj l) vu=some true:=by
 unfold Od db;rw[Rj Ar,Tj _ _ Ar.ns,h,Zy,aO];rfl
theorem WO(i:Int):Dy [] (-1) i 90 10=(⟨0,0,0⟩,false):=by
 rcases(vE (l:=[]) (by simp) (-1) i 90 10).2 with⟨e,-⟩|⟨f,h,-⟩
 ·exact e
 ·simp at h
theorem fM:Dy [qo] (-1) 0 90 10=(⟨3,0,500⟩,true):=by
 rcases(vE (l:=[qo]) (by simp) (-1) 0 90 10).2 with⟨-,e⟩|⟨f,h,e,-⟩
 ·have:=e qo (by simp);exact absurd this (by decide)
 ·rw[Paa]at h;rw[e,h];rfl
theorem dG:tn ee Wd (cj []) 90 10=(⟨0,[],[]⟩,6):=by
 unfold tn Ql;simp[Wd,cj,WO,Oac]
theorem Vu:tn ee Wd (cj [qo]) 90 10=(⟨90,[⟨3,0,500⟩],[]⟩,0):=by
 have hm:Ml (cj [qo]) 90 10=[]:=by
  unfold Ml;rw[show(min (max (cj [qo]).Members 0) 8).toNat=0 from rfl];rfl
 unfold tn;rw[hm];unfold Ql;simp[Wd,cj,fM,Oac]
theorem jK:xk [GNode.mk 7 0] fv=some (⟨3,0,500⟩,0):=by
 have hw:Wst [GNode.mk 7 0]:=pD (by kernel_rfl);have hN:∀n∈[GNode.mk 7 0],Kc n:=by simp[Kc]
 have he:EnvOk fv:=⟨by simp[fv],by simp[fv]⟩;have ha:ti [GNode.mk 7 0] 0=0:=by decide
 rw[(TI hN he hw).1];show some (nB [GNode.mk 7 0] fv 0)=_;rw[(oQ hw hN he 0 (by decide)).q];unfold sT Tw;rw[if_neg (by decide),ha];show some ((Ki ⟨7,0⟩ [] fv).getD (⟨0,0,0⟩,0))=_;unfold Ki;rw[JB,Ak,ru,jN (by simp)];rfl
theorem CP:xf Wd fv (-1) 0=some (0,iL):=by
 unfold xf;rw[Zo (by decide),haa,show JI Wd 0 fv.Date=([0],[-1],[0]) by kernel_rfl];dsimp only;rw[show au 1 false (([0]:List Int).length:Int) (([0]:List Int).length:Int)=some [false] by rfl,haa,Xe (s':=([true],1)) rfl,Nb (b:=[true]) rfl,haa];dsimp only;rw[Cp,haa,show fJ [-1] [0] [true]=0 by kernel_rfl];rfl
theorem yG:ya Wd ⟨90,[⟨3,0,500⟩],[],[],[],[]⟩ (-1) [true]=some (([0],iL),⟨90,[⟨3,0,500⟩],[⟨3,0,500⟩],[],[],[]⟩):=by
 unfold ya;rw[show au 24 (GValue.mk 0 0 0) (Wd.Defs.length:Int) (Wd.Defs.length:Int)=some [⟨0,0,0⟩] by rfl,haa,show au 8 (0:Int) (Wd.Defs.length:Int) (Wd.Defs.length:Int)=some [0] by rfl,haa,cm (Ar.s Wd (by simp[ee])).2.1,haa,show Xp (Bm Wd)=([0],0) by kernel_rfl];rw[Xe (s':=([⟨3,0,500⟩],[0],1)) (by
  unfold td;dsimp only;rw[if_pos (by decide),show idx ([0]:List Int) 0=some 0 by rfl,haa,show idx [true] 0=some true by rfl,haa,if_neg (by decide)];rw[show GEnv.mk 90 [⟨3,0,500⟩] [⟨0,0,0⟩] [] [] []=fv from rfl,CP,haa,if_neg (by decide),if_neg (by decide),if_neg (by decide),show idx Wd.Rules 0=some qC by rfl,haa,show qC.Value=[GNode.mk 7 0]from rfl,jK];rfl),Nb (b:=([⟨3,0,500⟩],[0])) rfl]
 rfl
theorem ZL:Uc ee 0 ⟨90,[⟨3,0,500⟩],[]⟩ 0=some (⟨3,0,500⟩,0,iL):=by
 obtain⟨i',hh⟩:=YC (l:=ee) (h:=cj [qo]) (by rw[RD]);have hii:i'=0:=by have:=hh.sc;simp only[cj]at this;omega
 subst hii;have hV:(Pk ee).Code=0:=by rw[Zy]
 have hok:=(xI Ar hV hh (d:=90) (r:=10) (def_:=0) (by show(tn ee Wd (cj [qo]) 90 10).2=0;rw[Vu]) (by simp[ee,Wd])).1;rw[show ee.Scopes[0]=Wd from rfl,Vu]at hok;have hfew:∀x∈ee.Scopes,x.Rules.length≤64:=by simp[ee,Wd]
 dsimp only at hok;refine(az Ar (PA hV) hfew (i:=0) (by decide) (d:=0) (by simp[ee,Wd]) hok).trans ?_;rw[show lI ee 0 (by decide) 0=⟨Wd,⟨vaa #[],0,[],[],[]⟩,[true],[]⟩ by kernel_rfl];unfold rf;rw[Nb (b:=[]) rfl,haa];dsimp only;rw[Nb (b:=([],[])) rfl,haa];dsimp only;rw[show ya Wd ⟨90,[⟨3,0,500⟩],[],[],[],ee.Tables⟩ (-1) [true]=_ from yG];rfl
theorem SH{l:List GFact}(h:l=[]∨l=[qo]):RF ee (cj l) 10=[]:=by
 rcases h with rfl|rfl<;>kernel_rfl
theorem CN:oD ee (cj []) vu 3 10=⟨3,0,6⟩:=by
 have hp:Ig ee 0 (cj []) 0 10 90=(⟨0,0,0⟩,6):=by
  unfold Ig;rw[show ee.Scopes[0]?=some Wd from rfl];dsimp only;rw[dG,if_pos (by decide)]
 have hpc:eL ee (cj []) 3 10=[⟨90,120⟩]:=by unfold eL;rw[SH (.inl rfl),bD];rfl
 unfold oD;rw[bD,if_neg (by decide),zE jL,Qab,if_neg (by decide),hpc];unfold DJ;simp only[Daa,Hab,ff,Waa];rw[show(cj []).Scope.toNat=0 from rfl,show vu.Def=0 from rfl,hp];rfl
theorem HM:oD ee (cj [qo]) vu 3 10=⟨3,500,0⟩:=by
 have hp:Ig ee 0 (cj [qo]) 0 10 90=(⟨3,0,500⟩,0):=by
  unfold Ig;rw[show ee.Scopes[0]?=some Wd from rfl];dsimp only;rw[Vu,if_neg (by decide)];dsimp only;rw[show((0:Nat):Int)=0 from rfl,ZL];rfl
 have hpc:eL ee (cj [qo]) 3 10=[⟨90,120⟩]:=by unfold eL;rw[SH (.inr rfl),bD];rfl
 unfold oD;rw[bD,if_neg (by decide),zE RD,Qab,if_neg (by decide),hpc];unfold DJ Tt;simp only[Daa,Hab,ff,Waa,eab,Xac];rw[show(cj [qo]).Scope.toNat=0 from rfl,show vu.Def=0 from rfl,hp];rfl
theorem KE:xi=some true:=by
 unfold xi vo zm;simp only[haa];have h1:=Mu Ar oE (h:=cj [qo]) (by decide) (c:=vu) (by decide) 3 10;have h0:=Mu Ar oE (h:=cj []) (by decide) (c:=vu) (by decide) 3 10;rw[HM]at h1;rw[CN]at h0;unfold ee Wd qC cj vu at h1 h0;unfold qo at h1;rw[h1,h0];rfl
end Go.Proofs.Dev
