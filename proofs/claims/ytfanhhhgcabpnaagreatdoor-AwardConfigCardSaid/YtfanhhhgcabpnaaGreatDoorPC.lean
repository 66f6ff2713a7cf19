/-
  The functions as plain partial functions, and plain lemmas about them: no condition.
-/
import Derived.Test.YtfanhhhgcabpnaaGreatDoorPB
import Derived.Test.YtfanhhhgcabpnaaGreatDoorPA
set_option linter.all false
set_option maxRecDepth 10000
set_option maxHeartbeats 1000000
namespace Go.Proofs.Dev
open Go Go.Tm
theorem idx0 {α:Type}{x:α}{l:List α}:idx (x::l) 0=some x:=rfl
theorem idx1 {α:Type}{x y:α}{l:List α}:idx (x::y::l) 1=some y:=rfl
theorem idx2 {α:Type}{x y z:α}{l:List α}:idx (x::y::z::l) 2=some z:=rfl
theorem node_one {op N:Int}{s:GSignature}{a:GType}(hop:op=10∨op=25∨op=31∨op=32) (ha:validTypeB a s.Enums=true):Eq2 ⟨op,N⟩ [a] s:=by
 have hu:=expr_UsesN_s (op:=op) (by omega);have hm:=ref10_meaning_s (op:=op) (by omega);have hus:usesB op=false:=by unfold usesB;simp;omega
 unfold Eq2 implNode expr_nodeType expr_resultType ref10_Result ref10_ranged ref10_found ref10_single ref10_kind;simp only [hu,hm,hus,fmt_f,expr_isNumber_s,ref10_number_s];obtain⟨ak,ae⟩:=a;rcases hop with h|h|h|h<;>subst h<;>cases N==0
 ·simp [exs,-Prod.exists]
 ·cases hn:numB ak<;>simp [idx0,hn,ha,exs,-Prod.exists]
 ·simp [exs,-Prod.exists]
 ·by_cases k1:ak=1
  ·subst k1;have:=vt_enum ha (by simp);simp only at this;subst this;simp [idx0,ha,exs,-Prod.exists]
  ·simp [idx0,k1,exs,-Prod.exists]
 ·simp [exs,-Prod.exists]
 ·by_cases k1:ak=5<;>simp [idx0,k1,vt_2,exs,-Prod.exists]
 ·simp [exs,-Prod.exists]
 ·by_cases k1:ak=5<;>simp [idx0,k1,vt_2,exs,-Prod.exists]
theorem node_33 {N:Int}{s:GSignature}{a:GType}(ha:validTypeB a s.Enums=true):Eq2 ⟨33,N⟩ [a] s:=by
 have hu:=expr_UsesN_s (op:=33) (by omega);have hm:=ref10_meaning_s (op:=33) (by omega);have hus:usesB 33=true:=rfl;unfold Eq2 implNode expr_nodeType expr_tableType ref10_Result ref10_ranged ref10_found ref10_single;simp only [hu,hm,hus,ref09_ValidType_s,value_ValidType_s,fmt_t];by_cases h0:0≤N
 ·have e1:¬N<0:=by omega
  by_cases h1:N<(s.Tables.length:Int)
  ·obtain⟨t,ht⟩:∃t,idx s.Tables N=some t:=⟨_,idxI h0 h1⟩;have e2:¬(s.Tables.length:Int)≤N:=by omega
   cases hk:validTypeB t.Key s.Enums
   ·simp [idx0,ht,h0,h1,e1,e2,hk,exs,-Prod.exists]
   ·cases hv:validTypeB t.Value s.Enums
    ·simp [idx0,ht,h0,h1,e1,e2,hk,hv,exs,-Prod.exists]
    ·by_cases k1:a.Kind=t.Key.Kind<;>by_cases k2:a.Enum=t.Key.Enum<;>simp [idx0,ht,h0,h1,e1,e2,hk,hv,k1,k2,exs,-Prod.exists]
  ·have e2:(s.Tables.length:Int)≤N:=by omega
   simp [idx0,h0,h1,e1,e2,exs,-Prod.exists]
 ·have e1:N<0:=by omega
  have e3:¬N<(s.Tables.length:Int)∨N<(s.Tables.length:Int):=by omega
  simp [idx0,h0,e1,exs,-Prod.exists]
theorem node_34 {N:Int}{s:GSignature}{a:GType}(hN:NodeOk ⟨34,N⟩) (ha:validTypeB a s.Enums=true):Eq2 ⟨34,N⟩ [a] s:=by
 have hu:=expr_UsesN_s (op:=34) (by omega);have hm:=ref10_meaning_s (op:=34) (by omega);have hus:usesB 34=true:=rfl;have w:=tdiv_w (n:=N) (k:=8) (by omega) hN;unfold Eq2 implNode expr_nodeType expr_tableType expr_validMode ref10_Result ref10_ranged ref10_found ref10_single ref10_kind;simp only [hu,hm,hus,ref09_ValidType_s,value_ValidType_s,fmt_t,w];by_cases h0:0≤N
 ·have e1:¬N<0:=by omega
  have hd:0≤Int.tdiv N 8:=Int.tdiv_nonneg h0 (by omega);have hmod:0≤Int.tmod N 8:=Int.tmod_nonneg _ h0;have e3:¬Int.tdiv N 8<0:=by omega
  by_cases h5:Int.tmod N 8≤5
  ·by_cases h1:Int.tdiv N 8<(s.Tables.length:Int)
   ·obtain⟨t,ht⟩:∃t,idx s.Tables (Int.tdiv N 8)=some t:=⟨_,idxI hd h1⟩;have e2:¬(s.Tables.length:Int)≤Int.tdiv N 8:=by omega
    obtain⟨_,⟨kk,ke⟩,⟨vk,ve⟩,_⟩:=t;obtain⟨ak,ae⟩:=a;simp only [idx0,ht,h0,h1,e1,e2,e3,hmod,h5,Option.bind_some,if_true,if_false,not_true_eq_false,not_false_eq_true,decide_false,decide_true,Bool.false_eq_true,Bool.true_eq_false,Int.reduceEq,beq_self_eq_true,Int.reduceBEq,Bool.not_true,Bool.not_false];by_cases hk3:kk=3
    ·subst hk3;by_cases hke:ke=0
     ·subst hke;rw [show validTypeB ⟨3,0⟩ s.Enums=true from vt_3];by_cases hv4:vk=4
      ·subst hv4;by_cases hve:ve=0
       ·subst hve;rw [show validTypeB ⟨4,0⟩ s.Enums=true from vt_4];by_cases ha3:ak=3
        ·subst ha3;have:=vt_enum ha (by simp);simp only at this;subst this;simp [vt_3,exs,-Prod.exists]
        ·simp [ha3,exs,-Prod.exists]
       ·have:validTypeB ⟨4,ve⟩ s.Enums=false:=by unfold validTypeB;simp [hve]
        rw [this];by_cases ha3:ak=3<;>simp [ha3,hve,exs,-Prod.exists]
      ·cases validTypeB ⟨vk,ve⟩ s.Enums<;>by_cases ha3:ak=3<;>by_cases hae:ae=0<;>simp [ha3,hae,hv4,exs,-Prod.exists]
     ·have:validTypeB ⟨3,ke⟩ s.Enums=false:=by unfold validTypeB;simp [hke]
      rw [this];by_cases ha3:ak=3<;>simp [ha3,hke,exs,-Prod.exists]
    ·cases validTypeB ⟨kk,ke⟩ s.Enums<;>cases validTypeB ⟨vk,ve⟩ s.Enums<;>by_cases ha3:ak=3<;>by_cases hak:ak=kk<;>by_cases hae:ae=ke<;>simp_all [exs,-Prod.exists]
   ·have e2:(s.Tables.length:Int)≤Int.tdiv N 8:=by omega
    simp [idx0,h0,h1,e1,e2,e3,hmod,h5,exs,-Prod.exists]
  ·simp [idx0,h0,e1,hmod,h5,exs,-Prod.exists]
 ·have e1:N<0:=by omega
  simp [idx0,h0,e1,exs,-Prod.exists]
theorem node_26 {N:Int}{s:GSignature}{a b c:GType}(hb:validTypeB b s.Enums=true):Eq2 ⟨26,N⟩ [a,b,c] s:=by
 have hu:=expr_UsesN_s (op:=26) (by omega);have hm:=ref10_meaning_s (op:=26) (by omega);have hus:usesB 26=false:=rfl;unfold Eq2 implNode expr_nodeType expr_resultType ref10_Result ref10_ranged ref10_found;simp only [hu,hm,hus,fmt_f];obtain⟨bk,be⟩:=b;cases N==0
 ·simp [exs,-Prod.exists]
 ·by_cases k1:a.Kind=1<;>by_cases k2:bk=c.Kind<;>by_cases k3:be=c.Enum<;>simp [idx0,idx1,idx2,k1,k2,k3,exs,-Prod.exists]
  all_goals simp_all
theorem res2 {op N:Int}{s:GSignature}{a b:GType}{u:Bool}(hm:ref10_meaning op=some u) (hr:ref10_ranged ⟨op,N⟩ s=some true) (hf:ref10_found ⟨op,N⟩ s=some true) {t:GType}{ok:Bool}
 (hd:ref10_double op a b=some (t,ok)) (hu:u=true∨N=0):ref10_Result ⟨op,N⟩ [a,b] s=some (if ok=true then (t,0)else (⟨0,0⟩,8)):=by
 unfold ref10_Result;simp only [hm,hr,hf,idx0,idx1];rcases hu with rfl|rfl<;>cases ok<;>simp [hd]
theorem imp2 {op N:Int}{s:GSignature}{a b:GType}{u:Bool}(hm:expr_UsesN op=some u) (h1:expr_nodeType ⟨op,N⟩ [a,b] s=(expr_resultType op [a,b]).bind fun x=>if x.2=false then some (⟨0,0⟩,8)else some (x.1,0)) {t:GType}{ok:Bool}
 (hd:expr_resultType op [a,b]=some (t,ok)) (hu:u=true∨N=0):implNode ⟨op,N⟩ [a,b] s=some (if ok=true then (t,0)else (⟨0,0⟩,8)):=by
 unfold implNode;rw [h1,hd];simp only [hm];rcases hu with rfl|rfl<;>cases ok<;>simp
theorem two_of {op N:Int}{s:GSignature}{a b:GType}(hop:(11≤op∧op≤24)∨(27≤op∧op≤30)) {t:GType}{ok:Bool}{t':GType}(hI:expr_resultType op [a,b]=some (t',ok)) (hR:ref10_double op a b=some (t,ok)) (ht:ok=true→t'=t∧validTypeB t s.Enums=true) :
 Eq2 ⟨op,N⟩ [a,b] s:=by
 have hu:=expr_UsesN_s (op:=op) (by omega);have hm:=ref10_meaning_s (op:=op) (by omega);have hr:(14≤op∧op≤16)∧ref10_ranged ⟨op,N⟩ s=some (decide (0≤N)&&decide (N≤5))∧expr_nodeType ⟨op,N⟩ [a,b] s=(if (decide (0≤N)&&decide (N≤5))=true then (expr_resultType op [a,b]).bind fun x=>if x.2=false then some (⟨0,0⟩,8)else some (x.1,0)else some (⟨0,0⟩,3))∨
  ¬(14≤op∧op≤16)∧ref10_ranged ⟨op,N⟩ s=some true∧expr_nodeType ⟨op,N⟩ [a,b] s=((expr_resultType op [a,b]).bind fun x=>if x.2=false then some (⟨0,0⟩,8)else some (x.1,0)):=by
  clear hI hR ht hu hm;by_cases h:14≤op∧op≤16
  ·refine .inl ⟨h,?_,?_⟩
   ·unfold ref10_ranged;simp only [range2];rcases (by omega:op=14∨op=15∨op=16)with h|h|h<;>subst h<;>simp
   ·unfold expr_nodeType expr_validMode;simp only [range2];rcases (by omega:op=14∨op=15∨op=16)with h|h|h<;>subst h<;>by_cases g1:0≤N<;>by_cases g2:N≤5<;>simp [g1,g2]
  ·refine .inr ⟨h,?_,?_⟩
   ·unfold ref10_ranged;rcases (by omega:op=11∨op=12∨op=13∨op=17∨op=18∨op=19∨op=20∨op=21∨op=22∨op=23∨op=24∨op=27∨op=28∨op=29∨op=30)with h|h|h|h|h|h|h|h|h|h|h|h|h|h|h<;>subst h<;>simp
   ·unfold expr_nodeType;rcases (by omega:op=11∨op=12∨op=13∨op=17∨op=18∨op=19∨op=20∨op=21∨op=22∨op=23∨op=24∨op=27∨op=28∨op=29∨op=30)with h|h|h|h|h|h|h|h|h|h|h|h|h|h|h<;>subst h<;>simp
 have hf:ref10_found ⟨op,N⟩ s=some true:=by
  unfold ref10_found;rcases (by omega:op=11∨op=12∨op=13∨op=14∨op=15∨op=16∨op=17∨op=18∨op=19∨op=20∨op=21∨op=22∨op=23∨op=24∨op=27∨op=28∨op=29∨op=30)with h|h|h|h|h|h|h|h|h|h|h|h|h|h|h|h|h|h<;>subst h<;>simp
 have fin:∀(hz:usesB op=true∨N=0),ref10_ranged ⟨op,N⟩ s=some true→expr_nodeType ⟨op,N⟩ [a,b] s=((expr_resultType op [a,b]).bind fun x=>if x.2=false then some (⟨0,0⟩,8)else some (x.1,0))→Eq2 ⟨op,N⟩ [a,b] s:=by
  intro hz h1 h2;unfold Eq2;rw [res2 hm h1 hf hR hz,imp2 hu h2 hI hz];cases ok
  ·by_cases hz:N=0<;>simp [hz,exs,-Prod.exists]
  ·obtain⟨rfl,h⟩:=ht rfl;exact⟨rfl,_,rfl,fun _=>h⟩
 rcases hr with ⟨h,h1,h2⟩|⟨h,h1,h2⟩
 ·have hus:usesB op=true:=by unfold usesB;simp;omega
  by_cases hN:(decide (0≤N)&&decide (N≤5))=true
  ·rw [hN]at h1;rw [if_pos hN]at h2;exact fin (.inl hus) h1 h2
  ·rw [Bool.not_eq_true]at hN;rw [hN]at h1;rw [hN,if_neg (by simp)]at h2;unfold Eq2 implNode ref10_Result;simp only [hu,hm,hus,fmt_t,h1,h2,Option.bind_some,Bool.false_eq_true,if_false,if_true];simp [hN,exs,-Prod.exists]
 ·have hus:usesB op=false:=by unfold usesB;simp;omega
  by_cases hN:N=0
  ·exact fin (.inr hN) h1 h2
  ·unfold Eq2 implNode ref10_Result;simp only [hu,hm,hus,fmt_f,show (N==0)=false by simpa using hN,Option.bind_some,Bool.not_false,if_true];simp [hN,exs,-Prod.exists]
theorem node_two {op N:Int}{s:GSignature}{a b:GType}(hop:(11≤op∧op≤24)∨(27≤op∧op≤30)) (ha:validTypeB a s.Enums=true):Eq2 ⟨op,N⟩ [a,b] s:=by
 have hz:∀k,1≤k→k≤5→a.Kind=k→a.Enum=0:=fun k h1 h2 h=>vt_enum ha (by omega);obtain⟨ak,ae⟩:=a;obtain⟨bk,be⟩:=b;simp only at hz;have hr:∃t t' ok,expr_resultType op [⟨ak,ae⟩,⟨bk,be⟩]=some (t',ok)∧ref10_double op ⟨ak,ae⟩ ⟨bk,be⟩=some (t,ok)∧(ok=true→t'=t∧validTypeB t s.Enums=true):=by
  unfold expr_resultType ref10_double expr_productType ref10_scaled ref10_kind;simp only [idx0,idx1,expr_isNumber_s,ref10_number_s,ref10_ordered_s];rcases (by omega:op=11∨op=12∨op=13∨op=14∨op=15∨op=16∨op=17∨op=18∨op=19∨op=20∨op=21∨op=22∨op=23∨op=24∨op=27∨op=28∨op=29∨op=30)with h|h|h|h|h|h|h|h|h|h|h|h|h|h|h|h|h|h<;>subst h
  ·by_cases k1:ak=bk∧ae=be
   ·cases hn:numB ak<;>simp [k1,hn,ha]
    all_goals simp_all
   ·simp [k1]
  ·by_cases k1:ak=bk∧ae=be
   ·cases hn:numB ak<;>simp [k1,hn,ha]
    all_goals simp_all
   ·simp [k1]
  ·by_cases k1:bk=2<;>by_cases k2:ak=2<;>by_cases k3:ak=3<;>simp [k1,k2,k3,vt_2,vt_3]
  ·by_cases k1:bk=4<;>by_cases k2:ak=3<;>by_cases k3:ak=4<;>simp [k1,k2,k3,vt_4,vt_3]
  ·by_cases k1:bk=2<;>by_cases k2:ak=2<;>by_cases k3:ak=3<;>by_cases k4:bk=3<;>simp [k1,k2,k3,k4,vt_2,vt_3,vt_4]
   all_goals simp_all
  ·by_cases k1:ak=3<;>by_cases k2:bk=3<;>simp [k1,k2]
   ·have:=hz 3 (by omega) (by omega) k1;simp [this,vt_3]
  ·by_cases k1:ak=bk∧ae=be
   ·cases hn:numB ak<;>by_cases k5:ak=5<;>simp [k1,hn,k5,ha]
    all_goals simp_all
   ·simp [k1]
  ·by_cases k1:ak=bk∧ae=be
   ·cases hn:numB ak<;>by_cases k5:ak=5<;>simp [k1,hn,k5,ha]
    all_goals simp_all
   ·simp [k1]
  ·by_cases k1:ak=bk<;>by_cases k2:ae=be<;>simp [k1,k2,vt_1]
  ·by_cases k1:ak=bk<;>by_cases k2:ae=be<;>simp [k1,k2,vt_1]
  ·by_cases k1:ak=bk∧ae=be
   ·cases hn:numB ak<;>by_cases k5:ak=5<;>simp [k1,hn,k5,vt_1]
    all_goals simp_all [vt_1]
   ·simp [k1]
  ·by_cases k1:ak=bk∧ae=be
   ·cases hn:numB ak<;>by_cases k5:ak=5<;>simp [k1,hn,k5,vt_1]
    all_goals simp_all [vt_1]
   ·simp [k1]
  ·by_cases k1:ak=1<;>by_cases k2:bk=1<;>simp [k1,k2]
   ·have:=hz 1 (by omega) (by omega) k1;simp [this,vt_1]
  ·by_cases k1:ak=1<;>by_cases k2:bk=1<;>simp [k1,k2]
   ·have:=hz 1 (by omega) (by omega) k1;simp [this,vt_1]
  ·by_cases k1:ak=5<;>by_cases k2:bk=2<;>simp [k1,k2]
   ·have:=hz 5 (by omega) (by omega) k1;simp [this,vt_5]
  ·by_cases k1:ak=5<;>by_cases k2:bk=2<;>simp [k1,k2]
   ·have:=hz 5 (by omega) (by omega) k1;simp [this,vt_5]
  ·by_cases k1:ak=5<;>by_cases k2:bk=5<;>simp [k1,k2,vt_2]
  ·by_cases k1:ak=5<;>by_cases k2:bk=5<;>simp [k1,k2,vt_2]
 obtain⟨t,t',ok,h1,h2,h3⟩:=hr;exact two_of hop h1 h2 h3
theorem node_eq {n:GNode}{ops:List GType}{s:GSignature}(hop:1≤n.Op∧n.Op≤39) (hN:NodeOk n) (hlen:(ops.length:Int)=arityS n.Op) (hv:∀t∈ops,validTypeB t s.Enums=true):Eq2 n ops s:=by
 obtain⟨op,N⟩:=n;simp only at hop hlen;unfold arityS at hlen;by_cases h0:(1≤op∧op≤9)∨(35≤op∧op≤39)
 ·rw [if_pos h0]at hlen;obtain rfl:ops=[]:=List.eq_nil_of_length_eq_zero (by omega);rcases (by omega:(1≤op∧op≤5)∨op=6∨op=7∨op=8∨op=9∨op=35∨(36≤op∧op≤39))with h|h|h|h|h|h|h
  ·exact node_lit h rfl
  ·subst h;exact node_6 hN
  ·subst h;exact node_7
  ·subst h;exact node_8
  ·subst h;exact node_9
  ·subst h;exact node_35
  ·exact node_mem h
 rw [if_neg h0]at hlen;by_cases h1:op=10∨op=25∨(31≤op∧op≤34)
 ·rw [if_pos h1]at hlen;obtain⟨a,rfl⟩:∃a,ops=[a]:=by
   match ops,hlen with
   |[a],_=>exact⟨a,rfl⟩
  have ha:=hv a (by simp);rcases (by omega:(op=10∨op=25∨op=31∨op=32)∨op=33∨op=34)with h|h|h
  ·exact node_one h ha
  ·subst h;exact node_33 ha
  ·subst h;exact node_34 hN ha
 rw [if_neg h1]at hlen;by_cases h2:op=26
 ·rw [if_pos h2]at hlen;obtain⟨a,b,c,rfl⟩:∃a b c,ops=[a,b,c]:=by
   match ops,hlen with
   |[a,b,c],_=>exact⟨a,b,c,rfl⟩
  subst h2;exact node_26 (hv b (by simp))
 rw [if_neg h2,if_pos (by omega)]at hlen;obtain⟨a,b,rfl⟩:∃a b,ops=[a,b]:=by
  match ops,hlen with
  |[a,b],_=>exact⟨a,b,rfl⟩
 exact node_two (by omega) (hv a (by simp))
end Go.Proofs.Dev
namespace Go.Proofs.Dev
open Go Go.Tm
def ndAt (e:List GNode) (i:Nat):GNode:=(e[i]?).getD ⟨0,0⟩
theorem ndAt_lt {e:List GNode}{i:Nat}(h:i<e.length):e[i]=ndAt e i:=by
 unfold ndAt;rw [List.getElem?_eq_getElem h];rfl
def stk (e:List GNode):Nat→List Int×List Int
 |0=>([],[])
 |i+1=>
  let p:=stk e i
  let a:=(arityS (ndAt e i).Op).toNat
  let f:=if 0<a then (p.2[p.2.length-a]?).getD 0 else (i:Int)
  (p.1++[f],p.2.take (p.2.length-a)++[f])
theorem stk_len (e:List GNode):∀i,(stk e i).1.length=i
 |0=>rfl
 |i+1=>by simp [stk,stk_len e i]
def errAt (e:List GNode) (i:Nat):Option (List Int×Int×Int):=
 if arityS (ndAt e i).Op<0 then some ([],(i:Int),2)
 else if ((stk e i).2.length:Int)<arityS (ndAt e i).Op then some ([],(i:Int),5)
 else if 12<(stk e (i+1)).2.length then some ([],(i:Int),16)else none
def structS (e:List GNode):List Int×Int×Int:=
 if 48<e.length then ([],0,4)else if e.length=0 then ([],0,5)
 else match ff (errAt e) e.length with
  |some v=>v
  |none=>if 1<(stk e e.length).2.length then ([],(e.length:Int),4)else ((stk e e.length).1,0,0)
theorem stk_small {e:List GNode}{i:Nat}(h:∀j,j<i→errAt e j=none):(stk e i).2.length≤12:=by
 cases i with
 |zero=>simp [stk]
 |succ i=>
  have:=h i (by omega);unfold errAt at this;split at this
  ·cases this
  ·split at this
   ·cases this
   ·split at this
    ·cases this
    ·omega
theorem set_mid {p:List Int}{i n:Nat}{f:Int}(hp:p.length=i) (h:i<n):(p++List.replicate (n-i) 0).set i f=p++[f]++List.replicate (n-(i+1)) 0:=by
 obtain⟨k,hk⟩:∃k,n-i=k+1:=⟨n-i-1,by omega⟩;have hk':n-(i+1)=k:=by omega
 rw [hk,hk',List.replicate_succ,List.set_append_right _ _ (by omega),hp,Nat.sub_self,List.set_cons_zero];simp
theorem get_mid {p r:List Int}{i:Nat}{f:Int}(hp:p.length=i):(p++[f]++r)[i]?=some f:=by
 rw [List.append_assoc,List.getElem?_append_right (by omega),hp,Nat.sub_self];rfl
theorem expr_structure_s (e:List GNode):expr_structure e=some (structS e):=by
 unfold expr_structure structS;by_cases h48:48<e.length
 ·rw [if_pos (by omega),if_pos h48]
 rw [if_neg (by omega),if_neg h48];by_cases h0:e.length=0
 ·rw [if_pos (by omega),if_pos h0]
 rw [if_neg (by omega),if_neg h0,mksN (by omega) (by omega),Option.bind_some];have hl:loopO (expr_structure_L1 e) (List.replicate e.length 0,([]:List Int),0)=some (outR ((stk e e.length).1,(stk e e.length).2) (ff (errAt e) e.length)):=by
  refine loopF (fun i=>((stk e i).1++List.replicate (e.length-i) 0,(stk e i).2,(i:Int))) (errAt e) e.length _ (fun i hi hf=>?_) (fun _=>?_) ?_
  ·have hs:=stk_small hf;have hl:=stk_len e i;unfold expr_structure_L1 errAt;simp only;rw [if_pos (by omega),idxN hi,Option.bind_some,ndAt_lt hi,expr_Arity_s,Option.bind_some];by_cases ha:arityS (ndAt e i).Op<0
   ·rw [if_pos ha,if_pos ha];rfl
   rw [if_neg ha,if_neg ha];by_cases hb:((stk e i).2.length:Int)<arityS (ndAt e i).Op
   ·rw [if_pos hb,if_pos hb];rfl
   rw [if_neg hb,if_neg hb];obtain⟨a,ha'⟩:∃a:Nat,arityS (ndAt e i).Op=a:=⟨(arityS (ndAt e i).Op).toNat,by omega⟩;have hst:stk e (i+1)=((stk e i).1++[if 0<a then ((stk e i).2[(stk e i).2.length-a]?).getD 0 else (i:Int)],(stk e i).2.take ((stk e i).2.length-a)++[if 0<a then ((stk e i).2[(stk e i).2.length-a]?).getD 0 else (i:Int)]):=by
    simp only [stk,ha',Int.toNat_natCast]
   have hsub:wrapF .i64 (((stk e i).2.length:Int)-(a:Int))=(((stk e i).2.length-a:Nat):Int):=by
    rw [wid (by omega) (by omega)];omega
   rw [ha',hst,hsub];generalize hS:(stk e i).2=sk at *;generalize (stk e i).1=st at *;rw [ha']at hb;rw [idxN (i:=i) (by simp;omega),Option.bind_some,putN (by simp;omega),Option.bind_some,set_mid hl hi,subhN (by omega)];by_cases h0a:0<a
   ·have hk:sk.length-a<sk.length:=by omega
    rw [if_pos (by omega),if_pos h0a,idxN hk,Option.bind_some,idxN (i:=i) (by simp;omega),Option.bind_some,putN (by simp;omega),Option.bind_some];have hset:(st++[(i:Int)]++List.replicate (e.length-(i+1)) 0).set i sk[sk.length-a]=st++[sk[sk.length-a]]++List.replicate (e.length-(i+1)) 0:=by
     rw [List.append_assoc,List.set_append_right _ _ (by omega),hl,Nat.sub_self];simp
    rw [hset,Option.bind_some,Option.bind_some,List.getElem?_eq_getElem hk,Option.getD_some,idxN?,get_mid hl,Option.bind_some];rw [appS (by simp;omega),Option.bind_some];by_cases hd:12<(sk.take (sk.length-a)++[sk[sk.length-a]]).length
    ·rw [if_pos (by omega),if_pos hd];rfl
    ·rw [if_neg (by omega),if_neg hd,wsucc (by omega)];rfl
   ·rw [if_neg (by omega),if_neg h0a,Option.bind_some,Option.bind_some,idxN?,get_mid hl,Option.bind_some];rw [appS (by simp;omega),Option.bind_some];by_cases hd:12<(sk.take (sk.length-a)++[(i:Int)]).length
    ·rw [if_pos (by omega),if_pos hd];rfl
    ·rw [if_neg (by omega),if_neg hd,wsucc (by omega)];rfl
  ·unfold expr_structure_L1;simp
  ·simp [stk]
 rw [hl]
 cases ff (errAt e) e.length with
 |some v=>rfl
 |none=>
  simp only [outR,Option.bind_some];by_cases h1:1<(stk e e.length).2.length
  ·rw [if_pos (by omega),if_pos h1]
  ·rw [if_neg (by omega),if_neg h1]
theorem ref10_structure_s (e:List GNode):ref10_structure e=some (structS e):=by
 unfold ref10_structure structS;by_cases h48:48<e.length
 ·rw [if_pos (by omega),if_pos h48]
 rw [if_neg (by omega),if_neg h48];by_cases h0:e.length=0
 ·rw [if_pos (by omega),if_pos h0]
 rw [if_neg (by omega),if_neg h0];have hl:loopO (ref10_structure_L1 e) (([]:List Int),([]:List Int),0)=some (outR ((stk e e.length).1,(stk e e.length).2) (ff (errAt e) e.length)):=by
  refine loopF (fun i=>((stk e i).1,(stk e i).2,(i:Int))) (errAt e) e.length _ (fun i hi hf=>?_) (fun _=>?_)
  ·have hs:=stk_small hf;have hl:=stk_len e i;unfold ref10_structure_L1 errAt;simp only;rw [if_pos (by omega),idxN hi,Option.bind_some,ndAt_lt hi,ref10_Arity_s,Option.bind_some];by_cases ha:arityS (ndAt e i).Op<0
   ·rw [if_pos ha,if_pos ha];rfl
   rw [if_neg ha,if_neg ha];by_cases hb:((stk e i).2.length:Int)<arityS (ndAt e i).Op
   ·rw [if_pos hb,if_pos hb];rfl
   rw [if_neg hb,if_neg hb];obtain⟨a,ha'⟩:∃a:Nat,arityS (ndAt e i).Op=a:=⟨(arityS (ndAt e i).Op).toNat,by omega⟩;have hst:stk e (i+1)=((stk e i).1++[if 0<a then ((stk e i).2[(stk e i).2.length-a]?).getD 0 else (i:Int)],(stk e i).2.take ((stk e i).2.length-a)++[if 0<a then ((stk e i).2[(stk e i).2.length-a]?).getD 0 else (i:Int)]):=by
    simp only [stk,ha',Int.toNat_natCast]
   have hsub:wrapF .i64 (((stk e i).2.length:Int)-(a:Int))=(((stk e i).2.length-a:Nat):Int):=by
    rw [wid (by omega) (by omega)];omega
   rw [ha',hst,hsub];generalize hS:(stk e i).2=sk at *;generalize (stk e i).1=st at *;rw [ha']at hb;by_cases h0a:0<a
   ·have hk:sk.length-a<sk.length:=by omega
    rw [if_pos (by omega),if_pos h0a,idxN hk,Option.bind_some,subhN (by omega),Option.bind_some,Option.bind_some,List.getElem?_eq_getElem hk,Option.getD_some];simp only;rw [appS (by simp;omega),Option.bind_some,appS (by simp;omega),Option.bind_some];by_cases hd:12<(sk.take (sk.length-a)++[sk[sk.length-a]]).length
    ·rw [if_pos (by omega),if_pos hd];rfl
    ·rw [if_neg (by omega),if_neg hd,wsucc (by omega)];rfl
   ·have ha0:a=0:=by omega
    subst ha0;rw [if_neg (by omega),if_neg h0a,Option.bind_some];simp only [Nat.sub_zero,List.take_length];rw [appS (by simp;omega),Option.bind_some,appS (by simp;omega),Option.bind_some];by_cases hd:12<(sk++[(i:Int)]).length
    ·rw [if_pos (by omega),if_pos hd];rfl
    ·rw [if_neg (by omega),if_neg hd,wsucc (by omega)];rfl
  ·unfold ref10_structure_L1;simp
 rw [hl]
 cases ff (errAt e) e.length with
 |some v=>rfl
 |none=>
  simp only [outR,Option.bind_some];by_cases h1:1<(stk e e.length).2.length
  ·rw [if_pos (by omega),if_pos h1]
  ·rw [if_neg (by omega),if_neg h1]
end Go.Proofs.Dev
namespace Go.Proofs.Dev
open Go Go.Tm
def arN (e:List GNode) (i:Nat):Nat:=(arityS (ndAt e i).Op).toNat
noncomputable def resAt (e:List GNode) (s:GSignature) (st:List GType) (i:Nat):GType×Int:=(ref10_Result (ndAt e i) (st.drop (st.length-arN e i)) s).getD (⟨0,0⟩,0)
noncomputable def tys (e:List GNode) (s:GSignature):Nat→List GType
 |0=>[]
 |i+1=>(tys e s i).take ((tys e s i).length-arN e i)++[(resAt e s (tys e s i) i).1]
noncomputable def terr (e:List GNode) (s:GSignature) (i:Nat):Option (GType×Int×Int):=
 if (resAt e s (tys e s i) i).2=0 then none else some (⟨0,0⟩,(i:Int),(resAt e s (tys e s i) i).2)
noncomputable def typeS (e:List GNode) (s:GSignature):GType×Int×Int:=
 if (structS e).2.2=0 then (match ff (terr e s) e.length with|some v=>v|none=>((tys e s e.length)[0]?.getD ⟨0,0⟩,0,0))else (⟨0,0⟩,(structS e).2.1,(structS e).2.2)
structure Wst (e:List GNode):Prop where
 pos:0<e.length
 le:e.length≤48
 err:∀i,i<e.length→errAt e i=none
 one:(stk e e.length).2.length≤1
theorem wst_of {e:List GNode}(h:(structS e).2.2=0):Wst e:=by
 unfold structS at h;split at h
 ·simp at h
 split at h
 ·simp at h
 rename_i h48 h0;split at h
 ·rename_i v hv;obtain⟨i,h1,h2,-⟩:=ff_some.1 hv;unfold errAt at h2;exfalso;split at h2
  ·injection h2 with h2;subst h2;simp at h
  ·split at h2
   ·injection h2 with h2;subst h2;simp at h
   ·split at h2
    ·injection h2 with h2;subst h2;simp at h
    ·cases h2
 ·rename_i hn;split at h
  ·simp at h
  ·exact⟨by omega,by omega,ff_none.1 hn,by omega⟩
theorem Wst.ar {e:List GNode}(h:Wst e) {i:Nat}(hi:i<e.length):0≤arityS (ndAt e i).Op∧arN e i≤(stk e i).2.length∧(1≤(ndAt e i).Op∧(ndAt e i).Op≤39):=by
 have:=h.err i hi;unfold errAt at this;split at this
 ·cases this
 split at this
 ·cases this
 rename_i h1 h2;refine⟨by omega,by unfold arN;omega,?_⟩;by_cases hop:1≤(ndAt e i).Op∧(ndAt e i).Op≤39
 ·exact hop
 ·rw [arity_out hop]at h1;omega
theorem stk_succ {e:List GNode}{i:Nat}:(stk e (i+1)).2.length=(stk e i).2.length-arN e i+1:=by
 simp [stk,arN]
theorem ndOk {e:List GNode}(hN:∀n∈e,NodeOk n) {i:Nat}(hi:i<e.length):NodeOk (ndAt e i):=by
 rw [←ndAt_lt hi];exact hN _ (List.getElem_mem hi)
theorem tys_inv {e:List GNode}{s:GSignature}(h:Wst e) (hN:∀n∈e,NodeOk n):∀i,i≤e.length→(∀j,j<i→terr e s j=none)→(tys e s i).length=(stk e i).2.length∧∀t∈tys e s i,validTypeB t s.Enums=true
 |0,_,_=>by simp [tys,stk]
 |i+1,hi,ht=>by
  obtain⟨h1,h2⟩:=tys_inv h hN i (by omega) fun j hj=>ht j (by omega);obtain⟨a1,a2,a3⟩:=h.ar (i:=i) (by omega);refine⟨by rw [stk_succ];simp [tys];omega,?_⟩;intro t hm;simp only [tys,List.mem_append,List.mem_singleton]at hm;rcases hm with hm|rfl
  ·exact h2 t (List.mem_of_mem_take hm)
  ·obtain⟨e1,r,hr,hv⟩:=node_eq (n:=ndAt e i) (ops:=(tys e s i).drop ((tys e s i).length-arN e i)) (s:=s) a3 (ndOk hN (by omega)) (by simp [arN];unfold arN at a2;omega) (fun t ht=>h2 t (List.mem_of_mem_drop ht));have hz:=ht i (by omega);unfold terr at hz;split at hz
   ·rename_i hz0;unfold resAt at hz0⊢;rw [hr]at hz0⊢;exact hv hz0
   ·cases hz
theorem node_at {e:List GNode}{s:GSignature}(h:Wst e) (hN:∀n∈e,NodeOk n) {i:Nat}(hi:i<e.length) (ht:∀j,j<i→terr e s j=none) :
 implNode (ndAt e i) ((tys e s i).drop ((tys e s i).length-arN e i)) s=some (resAt e s (tys e s i) i)∧ref10_Result (ndAt e i) ((tys e s i).drop ((tys e s i).length-arN e i)) s=some (resAt e s (tys e s i) i):=by
 obtain⟨h1,h2⟩:=tys_inv h hN i (by omega) ht;obtain⟨a1,a2,a3⟩:=h.ar hi;obtain⟨e1,r,hr,hv⟩:=node_eq (n:=ndAt e i) (ops:=(tys e s i).drop ((tys e s i).length-arN e i)) (s:=s) a3 (ndOk hN hi) (by simp [arN];unfold arN at a2;omega) (fun t ht=>h2 t (List.mem_of_mem_drop ht));unfold resAt;rw [e1,hr];exact⟨rfl,rfl⟩
theorem ref10_TypeOf_s {e:List GNode}(hN:∀n∈e,NodeOk n) (s:GSignature):ref10_TypeOf e s=some (typeS e s):=by
 unfold ref10_TypeOf typeS;rw [ref10_structure_s,Option.bind_some];by_cases h0:(structS e).2.2=0
 ·rw [if_neg (by simpa using h0),if_pos h0];have hw:=wst_of h0;have hl:loopO (ref10_TypeOf_L1 e s) (([]:List GType),0)=some (outR (tys e s e.length) (ff (terr e s) e.length)):=by
   refine loopF (fun i=>(tys e s i,(i:Int))) (terr e s) e.length _ (fun i hi ht=>?_) (fun _=>?_)
   ·obtain⟨n1,n2⟩:=node_at hw hN hi ht;obtain⟨h1,h2⟩:=tys_inv hw hN i (by omega) ht;obtain⟨a1,a2,a3⟩:=hw.ar hi;have hle:=hw.le;have h12:=stk_small (e:=e) (i:=i) fun j hj=>hw.err j (by omega);unfold ref10_TypeOf_L1 terr;simp only;have hsub:wrapF .i64 (((tys e s i).length:Int)-arityS (ndAt e i).Op)=(((tys e s i).length-arN e i:Nat):Int):=by
     unfold arN at a2⊢;rw [wid (by omega) (by omega)];omega
    rw [if_pos (by omega),idxN hi,Option.bind_some,ndAt_lt hi,ref10_Arity_s,Option.bind_some,hsub,sublN (by omega),Option.bind_some,n2,Option.bind_some];by_cases hz:(resAt e s (tys e s i) i).2=0
    ·rw [if_neg (by simpa using hz),if_pos hz,subhN (by omega),Option.bind_some,appS (by simp;omega),Option.bind_some,wsucc (by omega)];rfl
    ·rw [if_pos hz,if_neg hz];rfl
   ·unfold ref10_TypeOf_L1;simp
  rw [hl]
  cases hf:ff (terr e s) e.length with
  |some v=>rfl
  |none=>
   obtain⟨h1,h2⟩:=tys_inv (s:=s) hw hN e.length (by omega) (ff_none.1 hf);have:0<(tys e s e.length).length:=by
    rw [h1];obtain⟨k,hk⟩:∃k,e.length=k+1:=⟨e.length-1,by have:=hw.pos;omega⟩;rw [hk,stk_succ];omega
   simp only [outR,Option.bind_some];rw [show (0:Int)=((0:Nat):Int)from rfl,idxN this,Option.bind_some,List.getElem?_eq_getElem this];rfl
 ·rw [if_pos h0,if_neg h0]
theorem expr_TypeOf_s {e:List GNode}(hN:∀n∈e,NodeOk n) (s:GSignature):expr_TypeOf e s=some (typeS e s):=by
 unfold expr_TypeOf typeS;rw [expr_structure_s,Option.bind_some];by_cases h0:(structS e).2.2=0
 ·rw [if_neg (by simpa using h0),if_pos h0];have hw:=wst_of h0;have hl:loopO (expr_TypeOf_L1 e s) (([]:List GType),0)=some (outR (tys e s e.length) (ff (terr e s) e.length)):=by
   refine loopF (fun i=>(tys e s i,(i:Int))) (terr e s) e.length _ (fun i hi ht=>?_) (fun _=>?_)
   ·obtain⟨n1,n2⟩:=node_at hw hN hi ht;obtain⟨h1,h2⟩:=tys_inv hw hN i (by omega) ht;obtain⟨a1,a2,a3⟩:=hw.ar hi;have hle:=hw.le;have h12:=stk_small (e:=e) (i:=i) fun j hj=>hw.err j (by omega);unfold expr_TypeOf_L1 terr;simp only;have hsub:wrapF .i64 (((tys e s i).length:Int)-arityS (ndAt e i).Op)=(((tys e s i).length-arN e i:Nat):Int):=by
     unfold arN at a2⊢;rw [wid (by omega) (by omega)];omega
    rw [if_pos (by omega),idxN hi,Option.bind_some,ndAt_lt hi];unfold implNode at n1;rw [expr_UsesN_s a3]at n1⊢;have hj:(if¬(ndAt e i).N=0 then (some (usesB (ndAt e i).Op)).bind fun x8=>some (!x8)else some false)=some (!(ndAt e i).N==0&&!usesB (ndAt e i).Op):=by
     by_cases h:(ndAt e i).N=0<;>simp [h]
    rw [hj]at n1⊢;rw [Option.bind_some]at n1⊢;generalize (!(ndAt e i).N==0&&!usesB (ndAt e i).Op)=c at n1⊢;cases c
    ·rw [if_neg (by simp)]at n1⊢;rw [expr_Arity_s,Option.bind_some,hsub,sublN (by omega),Option.bind_some,n1,Option.bind_some];by_cases hz:(resAt e s (tys e s i) i).2=0
     ·rw [if_neg (by simpa using hz),if_pos hz,subhN (by omega),Option.bind_some,appS (by simp;omega),Option.bind_some,wsucc (by omega)];rfl
     ·rw [if_pos hz,if_neg hz];rfl
    ·rw [if_pos rfl]at n1⊢;injection n1 with n1;rw [←n1,if_neg (by decide)];rfl
   ·unfold expr_TypeOf_L1;simp
  rw [hl]
  cases hf:ff (terr e s) e.length with
  |some v=>rfl
  |none=>
   obtain⟨h1,h2⟩:=tys_inv (s:=s) hw hN e.length (by omega) (ff_none.1 hf);have:0<(tys e s e.length).length:=by
    rw [h1];obtain⟨k,hk⟩:∃k,e.length=k+1:=⟨e.length-1,by have:=hw.pos;omega⟩;rw [hk,stk_succ];omega
   simp only [outR,Option.bind_some];rw [show (0:Int)=((0:Nat):Int)from rfl,idxN this,Option.bind_some,List.getElem?_eq_getElem this];rfl
 ·rw [if_pos h0,if_neg h0]
end Go.Proofs.Dev
namespace Go.Tm
theorem mem_insS {x n:Int}:∀{l:List Int},x∈insS l n↔x∈l∨x=n
 |[]=>by simp [insS]
 |y::l=>by
  simp only [insS];split
  ·split
   ·simp only [List.mem_cons];constructor
    ·rintro (h|h|h)
     ·exact .inr h
     ·exact .inl (.inl h)
     ·exact .inl (.inr h)
    ·rintro ((h|h)|h)
     ·exact .inr (.inl h)
     ·exact .inr (.inr h)
     ·exact .inl h
   ·have:n=y:=by omega
    simp only [List.mem_cons];constructor
    ·exact .inl
    ·rintro (h|h)
     ·exact h
     ·exact .inl (h.trans this)
  ·simp only [List.mem_cons,mem_insS (l:=l)];constructor
   ·rintro (h|h|h)
    ·exact .inl (.inl h)
    ·exact .inl (.inr h)
    ·exact .inr h
   ·rintro ((h|h)|h)
    ·exact .inl h
    ·exact .inr (.inl h)
    ·exact .inr (.inr h)
abbrev Inc (l:List Int):Prop:=l.Pairwise (·<·)
theorem inc_insS {n:Int}:∀{l:List Int},Inc l→Inc (insS l n)
 |[],_=>by simp [insS]
 |y::l,h=>by
  have h':=List.pairwise_cons.1 h;simp only [insS];split
  ·split
   ·refine List.pairwise_cons.2 ⟨fun z hz=>?_,h⟩;rcases List.mem_cons.1 hz with rfl|hz
    ·assumption
    ·have:=h'.1 z hz;omega
   ·exact h
  ·refine List.pairwise_cons.2 ⟨fun z hz=>?_,inc_insS h'.2⟩;rcases mem_insS.1 hz with hz|rfl
   ·exact h'.1 z hz
   ·omega
theorem len_insS {n:Int}:∀{l:List Int},(insS l n).length≤l.length+1
 |[]=>by simp [insS]
 |y::l=>by
  simp only [insS];split
  ·split<;>simp
  ·have:=len_insS (n:=n) (l:=l);simp;omega
theorem insS_lt {n:Int}:∀{l:List Int},(∀x∈l,x<n)→insS l n=l++[n]
 |[],_=>rfl
 |y::l,h=>by
  have:=h y (by simp);simp only [insS];rw [if_neg (by omega),insS_lt fun x hx=>h x (by simp [hx])];rfl
theorem insS_app {n:Int}{r:List Int}:∀{l:List Int},(∃x∈l,n≤x)→insS (l++r) n=insS l n++r
 |[],h=>by simp at h
 |y::l,h=>by
  simp only [insS,List.cons_append];split
  ·split<;>rfl
  ·rename_i hny;rw [insS_app (l:=l),List.cons_append];obtain⟨x,hx,hn⟩:=h;rcases List.mem_cons.1 hx with rfl|hx
   ·omega
   ·exact⟨x,hx,hn⟩
theorem insS_app2 {n x:Int}:∀{l:List Int},(∀y∈l,y<n)→n≤x→insS (l++[x]) n=l++(if n<x then [n,x]else [x])
 |[],_,h=>by simp only [List.nil_append,insS,if_pos h]
 |y::l,hl,h=>by
  have:=hl y (by simp);simp only [insS,List.cons_append];rw [if_neg (by omega),insS_app2 (fun y hy=>hl y (by simp [hy])) h]
theorem loopL {α A β ρ:Type}{step:A×Int→Option (Ex (A×Int) β ρ)}(xs:List α) (f:A→α→A) (a0:A) (b:β) {x0:A×Int}(hx:x0=(a0,0))
 (hgo:∀(i:Nat) (hi:i<xs.length),step ((xs.take i).foldl f a0,(i:Int))=some (.go (f ((xs.take i).foldl f a0) xs[i],((i+1:Nat):Int)))) (hend:step (xs.foldl f a0,(xs.length:Int))=some (.brk b)) :
 loopO step x0=some (.inl b):=by
 refine loopG (fun i=>((xs.take i).foldl f a0,(i:Int))) xs.length b (fun i hi=>?_) ?_ (by subst hx;rfl)
 ·rw [hgo i hi,List.take_add_one,List.foldl_append,List.getElem?_eq_getElem hi];rfl
 ·rw [List.take_length];exact hend
end Go.Tm
namespace Go.Proofs.Dev
open Go Go.Tm
theorem ins_step {l:List Int}{n:Int}(hl:l.length≤1099511627776):loopO (ref10_insert_L1 l n) (([]:List Int),false,0)=some (.inl (if (l.any fun x=>decide (n≤x))=true then insS l n else l,l.any fun x=>decide (n≤x))):=by
 refine loopG (fun i=>(if ((l.take i).any fun x=>decide (n≤x))=true then insS (l.take i) n else l.take i,(l.take i).any fun x=>decide (n≤x),(i:Int))) l.length _ (fun i hi=>?_) ?_ (by simp)
 ·unfold ref10_insert_L1;simp only;have ht:l.take (i+1)=l.take i++[l[i]]:=by rw [List.take_add_one,List.getElem?_eq_getElem hi];rfl
  have hlen:(l.take i).length=i:=by simp;omega
  rw [if_pos (by omega),ht,List.any_append,idxN hi];generalize l[i]=x;generalize l.take i=p at hlen⊢;cases hp:p.any fun x=>decide (n≤x)
  ·have hall:∀y∈p,y<n:=fun y hy=>by
    have:=List.any_eq_false.1 hp y hy;simp at this;omega
   simp only [if_true,Option.bind_some,Bool.false_eq_true,if_false,Bool.false_or,List.any_cons,List.any_nil,Bool.or_false];by_cases hx:n≤x
   ·rw [decide_eq_true hx];simp only [if_true];by_cases hx2:n<x
    ·rw [if_pos hx2,appS (by simp;omega),Option.bind_some,Option.bind_some,Option.bind_some];simp only;rw [appS (by simp;omega),Option.bind_some,wsucc (by omega),insS_app2 hall hx,if_pos hx2];simp
    ·rw [if_neg hx2,Option.bind_some,Option.bind_some];simp only;rw [appS (by simp;omega),Option.bind_some,wsucc (by omega),insS_app2 hall hx,if_neg hx2]
   ·rw [decide_eq_false hx];simp only [Bool.false_eq_true,if_false,Option.bind_some];rw [appS (by simp;omega),Option.bind_some,wsucc (by omega)]
  ·have hex:∃y∈p,n≤y:=by
    obtain⟨y,h1,h2⟩:=List.any_eq_true.1 hp;exact⟨y,h1,by simpa using h2⟩
   have:=len_insS (n:=n) (l:=p);simp only [Bool.true_eq_false,if_false,Option.bind_some,if_true,Bool.false_eq_true,Bool.true_or];rw [appS (by simp;omega),Option.bind_some,wsucc (by omega),insS_app hex]
 ·unfold ref10_insert_L1;simp
theorem ref10_insert_s {l:List Int}{n:Int}(hl:l.length≤1099511627776):ref10_insert l n=some (insS l n):=by
 unfold ref10_insert;rw [ins_step hl,Option.bind_some];simp only;cases hp:l.any fun x=>decide (n≤x)
 ·have hall:∀y∈l,y<n:=fun y hy=>by
   have:=List.any_eq_false.1 hp y hy;simp at this;omega
  simp only [if_true,Bool.false_eq_true,if_false];rw [appS (by simp;omega),Option.bind_some,Option.bind_some,insS_lt hall]
 ·simp
theorem ref16_insert_s {l:List Int}{n:Int}(hl:l.length≤1099511627776):ref16_insert l n=some (insS l n):=by
 rw [←ref10_insert_s hl];rfl
end Go.Proofs.Dev
namespace Go.Tm
theorem dsort_snoc {l:List Int}{x:Int}:dsort (l++[x])=insS (dsort l) x:=by simp [dsort,List.foldl_append]
theorem dsort_inv (l:List Int):Inc (dsort l)∧(dsort l).length≤l.length∧∀x,x∈dsort l↔x∈l:=by
 have key:∀(l a:List Int),Inc a→Inc (l.foldl insS a)∧(l.foldl insS a).length≤a.length+l.length∧∀x,x∈l.foldl insS a↔x∈a∨x∈l:=by
  intro l
  induction l with
  |nil=>intro a h;exact⟨h,by simp,fun x=>by simp⟩
  |cons y l ih=>
   intro a h;obtain⟨h1,h2,h3⟩:=ih (insS a y) (inc_insS h);have:=len_insS (n:=y) (l:=a);refine⟨h1,by simp only [List.foldl_cons,List.length_cons];omega,fun x=>?_⟩;simp only [List.foldl_cons];rw [h3 x,mem_insS,List.mem_cons,or_assoc]
 obtain⟨h1,h2,h3⟩:=key l [] (by simp);exact⟨h1,by simpa [dsort] using h2,fun x=>by simpa [dsort] using h3 x⟩
theorem inc_len {lo hi:Int}:∀{a:List Int},Inc a→(∀x∈a,lo≤x∧x<hi)→a.length≤(hi-lo).toNat
 |[],_,_=>by simp
 |x::a,h,hb=>by
  have h':=List.pairwise_cons.1 h;have hx:=hb x (by simp);have:=inc_len (lo:=x+1) (hi:=hi) h'.2 fun y hy=>⟨by have:=h'.1 y hy;omega,(hb y (by simp [hy])).2⟩;simp only [List.length_cons];omega
theorem inc_ext:∀{a b:List Int},Inc a→Inc b→(∀x,x∈a↔x∈b)→a=b
 |[],[],_,_,_=>rfl
 |[],y::b,_,_,h=>by have:=(h y).2 (by simp);simp at this
 |x::a,[],_,_,h=>by have:=(h x).1 (by simp);simp at this
 |x::a,y::b,ha,hb,h=>by
  have ha':=List.pairwise_cons.1 ha;have hb':=List.pairwise_cons.1 hb;have hxy:x=y:=by
   have h1:=(h x).1 (by simp);have h2:=(h y).2 (by simp);rcases List.mem_cons.1 h1 with h1|h1
   ·exact h1
   ·rcases List.mem_cons.1 h2 with h2|h2
    ·exact h2.symm
    ·have:=ha'.1 y h2;have:=hb'.1 x h1;omega
  subst hxy;rw [inc_ext ha'.2 hb'.2 fun z=>?_];constructor
  ·intro hz;rcases List.mem_cons.1 ((h z).1 (by simp [hz]))with rfl|h1
   ·have:=ha'.1 z hz;omega
   ·exact h1
  ·intro hz;rcases List.mem_cons.1 ((h z).2 (by simp [hz]))with rfl|h1
   ·have:=hb'.1 z hz;omega
   ·exact h1
end Go.Tm
namespace Go.Proofs.Dev
open Go Go.Tm
def dfl (p:GNode→Bool) (e:List GNode):List Int:=dsort ((e.filter p).map (·.N))
theorem dfl_snoc {p:GNode→Bool}{l:List GNode}{x:GNode}:dfl p (l++[x])=if p x=true then insS (dfl p l) x.N else dfl p l:=by
 unfold dfl;rw [List.filter_append,List.map_append];by_cases h:p x=true
 ·rw [if_pos h,List.filter_cons_of_pos h,List.filter_nil];exact dsort_snoc
 ·rw [if_neg h,List.filter_cons_of_neg h,List.filter_nil];simp
theorem dfl_len {p:GNode→Bool}{e:List GNode}:(dfl p e).length≤e.length:=by
 have:=(dsort_inv ((e.filter p).map (·.N))).2.1;have h2:=List.length_filter_le p e;unfold dfl;simp at this;omega
def isIn (n:GNode):Bool:=n.Op==7
def isDef (n:GNode):Bool:=n.Op==8
def isMem (n:GNode):Bool:=n.Op==36 || n.Op==37 || n.Op==38 || n.Op==39
def refsS (e:List GNode):List Int×List Int×List Int:=(dfl isIn e,dfl isDef e,dfl isMem e)
theorem inc_ext:∀{a b:List Int},Inc a→Inc b→(∀x,x∈a↔x∈b)→a=b
 |[],[],_,_,_=>rfl
 |[],y::b,_,_,h=>by have:=(h y).2 (by simp);simp at this
 |x::a,[],_,_,h=>by have:=(h x).1 (by simp);simp at this
 |x::a,y::b,ha,hb,h=>by
  obtain⟨ha1,ha2⟩:=List.pairwise_cons.1 ha;obtain⟨hb1,hb2⟩:=List.pairwise_cons.1 hb;have hxy:x=y:=by
   have h1:=(h x).1 (by simp);have h2:=(h y).2 (by simp);simp only [List.mem_cons]at h1 h2;rcases h1 with h1|h1
   ·exact h1
   ·rcases h2 with h2|h2
    ·exact h2.symm
    ·have:=ha1 y h2;have:=hb1 x h1;omega
  subst hxy;rw [inc_ext ha2 hb2 fun z=>?_];have hz:=h z;simp only [List.mem_cons]at hz;constructor
  ·intro h1;rcases hz.1 (.inr h1)with h2|h2
   ·subst h2;have:=ha1 z h1;omega
   ·exact h2
  ·intro h1;rcases hz.2 (.inr h1)with h2|h2
   ·subst h2;have:=hb1 z h1;omega
   ·exact h2
theorem compU {d:Array Int}(hs:∀i j,i<j→j<d.size→d[i]!≤d[j]!):∀m,m≤d.size→Inc (Go.Lib.compactUpTo d m)∧∀x,x∈Go.Lib.compactUpTo d m↔∃i,i<m∧d[i]! = x
 |0,_=>⟨by simp [Go.Lib.compactUpTo,Inc],by simp [Go.Lib.compactUpTo]⟩
 |m+1,hm=>by
  obtain⟨ih1,ih2⟩:=compU hs m (by omega);have hle:∀i,i<m→d[i]!≤d[m-1]!:=by
   intro i hi;by_cases h:i=m-1
   ·rw [h];exact Int.le_refl _
   ·exact hs i (m-1) (by omega) (by omega)
  rw [Go.Lib.compactUpTo_succ];by_cases hk:Go.Lib.keeps d m=true
  ·rw [if_pos hk];refine⟨?_,fun x=>?_⟩
   ·unfold Inc;rw [List.pairwise_append];refine⟨ih1,by simp,fun a ha c hc=>?_⟩;obtain⟨i,hi,rfl⟩:=(ih2 a).1 ha;obtain rfl:=List.mem_singleton.1 hc;have hne:d[m]!≠d[m-1]!:=by
     have:=of_decide_eq_true hk;rcases this with h|h
     ·omega
     ·exact h
    have h1:=hle i hi;have h2:=hs (m-1) m (by omega) (by omega);omega
   ·rw [List.mem_append,ih2,List.mem_singleton];constructor
    ·rintro (⟨i,hi,rfl⟩|rfl)
     ·exact⟨i,by omega,rfl⟩
     ·exact⟨m,by omega,rfl⟩
    ·rintro ⟨i,hi,rfl⟩;by_cases h:i=m
     ·subst h;exact .inr rfl
     ·exact .inl ⟨i,by omega,rfl⟩
  ·rw [if_neg hk,List.append_nil];refine⟨ih1,fun x=>?_⟩;rw [ih2];have hk':Go.Lib.keeps d m=false:=by simpa using hk
   have hmm:¬(m=0∨d[m]!≠d[m-1]!):=of_decide_eq_false hk';constructor
   ·rintro ⟨i,hi,rfl⟩;exact⟨i,by omega,rfl⟩
   ·rintro ⟨i,hi,rfl⟩;by_cases h:i=m
    ·subst h;refine⟨i-1,by omega,?_⟩;by_cases h2:d[i]! = d[i-1]!
     ·exact h2.symm
     ·exact absurd (.inr h2) hmm
    ·exact⟨i,by omega,rfl⟩
theorem compact_msort (l:List Int):Go.Lib.compact (l.mergeSort fun x y=>decide (x≤y))=dsort l:=by
 have hp:=List.pairwise_mergeSort (le:=fun(x y:Int)=>decide (x≤y)) (fun a b c h1 h2=>by simp at h1 h2⊢;omega) (fun a b=>by simp;omega) l;have hm:∀x,x∈(l.mergeSort fun x y=>decide (x≤y))↔x∈l:=fun x=>List.mem_mergeSort;generalize (l.mergeSort fun x y=>decide (x≤y))=q at *;obtain⟨h1,h2⟩:=compU (d:=q.toArray) (fun i j hij hj=>by
  have hj':j<q.length:=by simpa using hj
  have:=List.pairwise_iff_getElem.1 hp i j (by omega) hj' hij;simp at this;rw [getElem!_pos q.toArray i (by simp;omega),getElem!_pos q.toArray j hj];simpa using this) q.length (by simp)
 obtain⟨g1,-,g2⟩:=dsort_inv l;refine inc_ext h1 g1 fun x=>?_;unfold Go.Lib.compact;rw [h2,g2,←hm x];constructor
 ·rintro ⟨i,hi,rfl⟩;rw [getElem!_pos q.toArray i (by simpa using hi)];simp
 ·intro h;obtain⟨i,hi,rfl⟩:=List.mem_iff_getElem.1 h;exact⟨i,hi,by rw [getElem!_pos q.toArray i (by simpa using hi)];simp⟩
theorem expr_distinct_s {l:List Int}(h:l.length≤1099511627776):expr_distinct l=some (dsort l):=by
 unfold expr_distinct slices_Sort_int_int slices_Compact_int_int;rw [if_pos (by omega),Option.bind_some,if_pos (by simp;omega),Option.bind_some,compact_msort]
theorem deps_sortedSet_s {l:List Int}(h:l.length≤8796093022208):deps_sortedSet l=some (dsort l):=by
 unfold deps_sortedSet slices_Sort_int_int slices_Compact_int_int;rw [if_pos h,Option.bind_some,if_pos (by simpa using h),Option.bind_some,compact_msort]
theorem filter_snoc {p:GNode→Bool}{l:List GNode}{x:GNode}:((l++[x]).filter p).map (·.N)=if p x=true then (l.filter p).map (·.N)++[x.N]else (l.filter p).map (·.N):=by
 by_cases h:p x=true
 ·simp [List.filter_append,h]
 ·simp [List.filter_append,h]
theorem expr_References_s {e:List GNode}(h:e.length≤1099511627776):expr_References e=some (refsS e):=by
 unfold expr_References;have hb:∀(p:GNode→Bool) (i:Nat),(((e.take i).filter p).map (·.N)).length≤e.length:=fun p i=>by
  have h1:=List.length_filter_le p (e.take i);have h2:(e.take i).length≤e.length:=by rw [List.length_take];omega
  rw [List.length_map];omega
 have hl:loopO (expr_References_L1 e) (([]:List Int),([]:List Int),([]:List Int),0)=some (.inl ((e.filter isIn).map (·.N),(e.filter isDef).map (·.N),(e.filter isMem).map (·.N))):=by
  refine loopG (fun i=>(((e.take i).filter isIn).map (·.N),((e.take i).filter isDef).map (·.N),((e.take i).filter isMem).map (·.N),(i:Int))) e.length _ (fun i hi=>?_) ?_ rfl
  ·have ht:e.take (i+1)=e.take i++[e[i]]:=by rw [List.take_add_one,List.getElem?_eq_getElem hi];rfl
   have b1:=hb isIn i;have b2:=hb isDef i;have b3:=hb isMem i;unfold expr_References_L1;simp only;rw [if_pos (by omega),idxN hi,Option.bind_some,wsucc (by omega),ht,filter_snoc,filter_snoc,filter_snoc];generalize e[i]=x at *;generalize ((e.take i).filter isIn).map (·.N)=l1 at *;generalize ((e.take i).filter isDef).map (·.N)=l2 at *;generalize ((e.take i).filter isMem).map (·.N)=l3 at *;simp only [isIn,isDef,isMem];by_cases h7:x.Op=7
   ·simp [h7,appS (show (l1.length + [x.N].length)*8≤2 ^ 47 by simp;omega)]
   ·by_cases h8:x.Op=8
    ·simp [h8,appS (show (l2.length + [x.N].length)*8≤2 ^ 47 by simp;omega)]
    ·by_cases h36:x.Op=36
     ·simp [h36,appS (show (l3.length + [x.N].length)*8≤2 ^ 47 by simp;omega)]
     ·by_cases h37:x.Op=37
      ·simp [h37,appS (show (l3.length + [x.N].length)*8≤2 ^ 47 by simp;omega)]
      ·by_cases h38:x.Op=38
       ·simp [h38,appS (show (l3.length + [x.N].length)*8≤2 ^ 47 by simp;omega)]
       ·by_cases h39:x.Op=39
        ·simp [h39,appS (show (l3.length + [x.N].length)*8≤2 ^ 47 by simp;omega)]
        ·simp [h7,h8,h36,h37,h38,h39]
  ·unfold expr_References_L1;simp only;rw [if_neg (by omega),List.take_length]
 have c:∀p:GNode→Bool,((e.filter p).map (·.N)).length≤1099511627776:=fun p=>by
  have h1:=List.length_filter_le p e;simp only [List.length_map];omega
 rw [hl,Option.bind_some];simp only;rw [expr_distinct_s (c isIn),Option.bind_some,expr_distinct_s (c isDef),Option.bind_some,expr_distinct_s (c isMem),Option.bind_some];rfl
theorem ref10_References_s {e:List GNode}(h:e.length≤1099511627776):ref10_References e=some (refsS e):=by
 unfold ref10_References;have hl:loopO (ref10_References_L1 e) (([]:List Int),([]:List Int),([]:List Int),0)=some (.inl (refsS e)):=by
  refine loopG (fun i=>((refsS (e.take i)).1,(refsS (e.take i)).2.1,(refsS (e.take i)).2.2,(i:Int))) e.length _ (fun i hi=>?_) ?_ rfl
  ·have ht:e.take (i+1)=e.take i++[e[i]]:=by rw [List.take_add_one,List.getElem?_eq_getElem hi];rfl
   have hlen:(e.take i).length≤1099511627776:=by simp;omega
   have l1:=dfl_len (p:=isIn) (e:=e.take i);have l2:=dfl_len (p:=isDef) (e:=e.take i);have l3:=dfl_len (p:=isMem) (e:=e.take i);unfold ref10_References_L1 refsS;simp only [ht,dfl_snoc];rw [if_pos (by omega),idxN hi,wsucc (by omega)];generalize e[i]=x;simp only [Option.bind_some,ref10_insert_s (Nat.le_trans l1 hlen),ref10_insert_s (Nat.le_trans l2 hlen),ref10_insert_s (Nat.le_trans l3 hlen),range2];have hr:(Option.bind (α:=Bool) (if 36≤x.Op then some (decide (x.Op≤39))else some false) fun j14=>if j14=true then some (.go ((if isIn x=true then insS (dfl isIn (e.take i)) x.N else dfl isIn (e.take i)),(if isDef x=true then insS (dfl isDef (e.take i)) x.N else dfl isDef (e.take i)),insS (dfl isMem (e.take i)) x.N,((i+1:Nat):Int)):Ex (List Int×List Int×List Int×Int) (List Int×List Int×List Int) Unit)else some (.go ((if isIn x=true then insS (dfl isIn (e.take i)) x.N else dfl isIn (e.take i)),(if isDef x=true then insS (dfl isDef (e.take i)) x.N else dfl isDef (e.take i)),dfl isMem (e.take i),((i+1:Nat):Int)))) =
    some (.go ((if isIn x=true then insS (dfl isIn (e.take i)) x.N else dfl isIn (e.take i)),(if isDef x=true then insS (dfl isDef (e.take i)) x.N else dfl isDef (e.take i)),(if isMem x=true then insS (dfl isMem (e.take i)) x.N else dfl isMem (e.take i)),((i+1:Nat):Int))):=by
    by_cases h1:36≤x.Op
    ·by_cases h2:x.Op≤39
     ·have:isMem x=true:=by unfold isMem;simp;omega
      simp [h1,h2,this]
     ·have:isMem x=false:=by unfold isMem;simp;omega
      simp [h1,h2,this]
    ·have:isMem x=false:=by unfold isMem;simp;omega
     simp [h1,this]
   rw [←hr];by_cases h7:x.Op=7
   ·have e7:isIn x=true:=by simp [isIn,h7]
    have e8:isDef x=false:=by simp [isDef,h7]
    simp [h7,e7,e8]
   ·have e7:isIn x=false:=by simp [isIn,h7]
    by_cases h8:x.Op=8
    ·have e8:isDef x=true:=by simp [isDef,h8]
     simp [h8,e7,e8]
    ·have e8:isDef x=false:=by simp [isDef,h8]
     by_cases h1:36≤x.Op<;>by_cases h2:x.Op≤39<;>simp [h7,h8,e7,e8,h1,h2]
  ·unfold ref10_References_L1;simp
 rw [hl];rfl
def insR (n:Int) (a:List Int) (x:Int):List Int:=if 0≤x∧x<n then insS a x else a
def InR (n:Int) (a:List Int):Prop:=Inc a∧∀x∈a,0≤x∧x<n
theorem InR.len {n:Int}{a:List Int}(h:InR n a):a.length≤n.toNat:=by
 have:=inc_len (lo:=0) (hi:=n) h.1 h.2;simpa using this
theorem InR.nil {n:Int}:InR n []:=⟨by simp,by simp⟩
theorem InR.ins {n:Int}{a:List Int}{x:Int}(h:InR n a):InR n (insR n a x):=by
 unfold insR;split
 ·rename_i hx;refine⟨inc_insS h.1,fun y hy=>?_⟩;rcases mem_insS.1 hy with hy|rfl
  ·exact h.2 y hy
  ·exact hx
 ·exact h
theorem InR.fold {n:Int}:∀{l a:List Int},InR n a→InR n (l.foldl (insR n) a)
 |[],a,h=>h
 |x::l,a,h=>InR.fold (l:=l) h.ins
theorem mem_fold {n x:Int}:∀{l a:List Int},x∈l.foldl (insR n) a↔x∈a∨(x∈l∧0≤x∧x<n)
 |[],a=>by simp
 |y::l,a=>by
  simp only [List.foldl_cons];rw [mem_fold (l:=l)];unfold insR;split
  ·rename_i hy;rw [mem_insS,List.mem_cons];constructor
   ·rintro ((h|rfl)|h)
    ·exact .inl h
    ·exact .inr ⟨.inl rfl,hy⟩
    ·exact .inr ⟨.inr h.1,h.2⟩
   ·rintro (h|⟨rfl|h,h2⟩)
    ·exact .inl (.inl h)
    ·exact .inl (.inr rfl)
    ·exact .inr ⟨h,h2⟩
  ·rename_i hy;rw [List.mem_cons];constructor
   ·rintro (h|h)
    ·exact .inl h
    ·exact .inr ⟨.inr h.1,h.2⟩
   ·rintro (h|⟨rfl|h,h2⟩)
    ·exact .inl h
    ·exact(hy h2).elim
    ·exact .inr ⟨h,h2⟩
theorem ref16_is_s (s:GScope) (d:Int):ref16_is s d=some (decide (0≤d)&&decide (d<(s.Defs.length:Int))):=by
 unfold ref16_is;by_cases h:0≤d<;>simp [h]
def ruleRefs (r:GRule):List Int:=dfl isDef r.Guard++dfl isDef r.Value
def dirF (n d:Int) (a:List Int) (r:GRule):List Int:=if r.Def=d then (ruleRefs r).foldl (insR n) a else a
def dirS (s:GScope) (d:Int):List Int:=if 0≤d∧d<(s.Defs.length:Int)then s.Rules.foldl (dirF s.Defs.length d) []else []
structure ScOk (s:GScope):Prop where
 defs:s.Defs.length≤1048576
 rules:s.Rules.length≤1048576
 g:∀r∈s.Rules,r.Guard.length≤1048576∧r.Value.length≤1048576
theorem dirF_inv {n d:Int}{a:List Int}{r:GRule}(h:InR n a):InR n (dirF n d a r):=by
 unfold dirF;split
 ·exact h.fold
 ·exact h
theorem dirFold_inv {n d:Int}:∀{l:List GRule}{a:List Int},InR n a→InR n (l.foldl (dirF n d) a)
 |[],a,h=>h
 |r::l,a,h=>dirFold_inv (l:=l) (dirF_inv h)
theorem dirS_inv (s:GScope) (d:Int):InR s.Defs.length (dirS s d):=by
 unfold dirS;split
 ·exact dirFold_inv InR.nil
 ·exact InR.nil
theorem direct_loop {s:GScope}(hs:ScOk s) {l:List Int}(hl:l.length≤1099511627776) {a:List Int}(ha:InR s.Defs.length a) {step:List Int×Int→Option (Ex (List Int×Int) (List Int) Unit)}
 (hstep:∀(a:List Int) (i:Nat) (hi:i<l.length),step (a,(i:Int))=(Option.bind (α:=List Int) (if (decide (0≤l[i])&&decide (l[i]<(s.Defs.length:Int)))=true then (ref16_insert a l[i]).bind fun x=>some x else some a) fun j=>some (.go (j,wrapF .i64 ((i:Int)+1)))))
 (hend:∀a,step (a,(l.length:Int))=some (.brk a)):loopO step (a,0)=some (.inl (l.foldl (insR s.Defs.length) a)):=by
 refine loopL l (insR s.Defs.length) a _ rfl (fun i hi=>?_) (hend _);have hI:=(InR.fold (l:=l.take i) ha).len;have:=hs.defs;rw [hstep _ i hi,wsucc (by omega)];generalize (l.take i).foldl (insR s.Defs.length) a=b at hI⊢;unfold insR;by_cases h:0≤l[i]∧l[i]<(s.Defs.length:Int)
 ·rw [if_pos (by simpa using h),if_pos h,ref16_insert_s (by omega)];rfl
 ·rw [if_neg (by simpa using h),if_neg h];rfl
theorem ref16_Direct_s {s:GScope}(hs:ScOk s) (d:Int):ref16_Direct s d=some (dirS s d):=by
 unfold ref16_Direct dirS;rw [ref16_is_s,Option.bind_some];by_cases hd:0≤d∧d<(s.Defs.length:Int)
 ·rw [if_neg (by simpa using hd),if_pos hd];have hl:loopO (ref16_Direct_L13 s d) (([]:List Int),0)=some (.inl (s.Rules.foldl (dirF s.Defs.length d) [])):=by
   refine loopL s.Rules (dirF s.Defs.length d) [] _ rfl (fun i hi=>?_) ?_
   ·have hI:InR s.Defs.length ((s.Rules.take i).foldl (dirF s.Defs.length d) []):=dirFold_inv InR.nil;have:=hs.rules;have hg:=hs.g _ (List.getElem_mem hi);unfold ref16_Direct_L13;simp only;rw [if_pos (by omega),idxN hi,wsucc (by omega)];generalize (s.Rules.take i).foldl (dirF s.Defs.length d) []=a at hI⊢;generalize s.Rules[i]=r at hg⊢;unfold dirF;by_cases h:r.Def=d
    ·rw [if_pos h,Option.bind_some,if_neg (by simpa using h),ref10_References_s (by omega),Option.bind_some,ref10_References_s (by omega),Option.bind_some];have l1:=dfl_len (p:=isDef) (e:=r.Guard);have l2:=dfl_len (p:=isDef) (e:=r.Value);have b1:loopO (ref16_Direct_L12 s (refsS r.Guard)) (a,0)=some (.inl ((dfl isDef r.Guard).foldl (insR s.Defs.length) a)):=by
      refine direct_loop hs (l:=dfl isDef r.Guard) (by omega) hI (fun a i hi=>?_) (fun a=>?_)
      ·unfold ref16_Direct_L12 refsS;simp only;rw [if_pos (by omega),idxN hi,Option.bind_some,ref16_is_s,Option.bind_some]
      ·unfold ref16_Direct_L12 refsS;simp
     rw [b1,Option.bind_some];simp only;have b2:loopO (ref16_Direct_L11 s (refsS r.Value)) ((dfl isDef r.Guard).foldl (insR s.Defs.length) a,0)=some (.inl ((dfl isDef r.Value).foldl (insR s.Defs.length) ((dfl isDef r.Guard).foldl (insR s.Defs.length) a))):=by
      refine direct_loop hs (l:=dfl isDef r.Value) (by omega) (InR.fold hI) (fun a i hi=>?_) (fun a=>?_)
      ·unfold ref16_Direct_L11 refsS;simp only;rw [if_pos (by omega),idxN hi,Option.bind_some,ref16_is_s,Option.bind_some]
      ·unfold ref16_Direct_L11 refsS;simp
     rw [b2,Option.bind_some];simp only;rw [Option.bind_some,ruleRefs,List.foldl_append]
    ·rw [if_neg h,Option.bind_some,if_pos h];rfl
   ·unfold ref16_Direct_L13;simp
  rw [hl];rfl
 ·rw [if_pos,if_neg hd];have:¬(decide (0≤d)&&decide (d<(s.Defs.length:Int)))=true:=by simpa using hd
  simpa using this
def DRef (s:GScope) (d x:Int):Prop:=(0≤d∧d<(s.Defs.length:Int))∧(0≤x∧x<(s.Defs.length:Int))∧∃r∈s.Rules,r.Def=d∧x∈ruleRefs r
theorem mem_dirS {s:GScope}{d x:Int}:x∈dirS s d↔DRef s d x:=by
 have key:∀(l:List GRule) (a:List Int),x∈l.foldl (dirF s.Defs.length d) a↔x∈a∨(0≤x∧x<(s.Defs.length:Int))∧∃r∈l,r.Def=d∧x∈ruleRefs r:=by
  intro l
  induction l with
  |nil=>intro a;simp
  |cons r l ih=>
   intro a;simp only [List.foldl_cons];rw [ih];unfold dirF;split
   ·rename_i hr;rw [mem_fold];constructor
    ·rintro ((h|⟨h1,h2⟩)|⟨h1,r',h2,h3⟩)
     ·exact .inl h
     ·exact .inr ⟨h2,r,by simp,hr,h1⟩
     ·exact .inr ⟨h1,r',by simp [h2],h3⟩
    ·rintro (h|⟨h1,r',h2,h3,h4⟩)
     ·exact .inl (.inl h)
     ·rcases List.mem_cons.1 h2 with rfl|h2
      ·exact .inl (.inr ⟨h4,h1⟩)
      ·exact .inr ⟨h1,r',h2,h3,h4⟩
   ·rename_i hr;constructor
    ·rintro (h|⟨h1,r',h2,h3⟩)
     ·exact .inl h
     ·exact .inr ⟨h1,r',by simp [h2],h3⟩
    ·rintro (h|⟨h1,r',h2,h3,h4⟩)
     ·exact .inl h
     ·rcases List.mem_cons.1 h2 with rfl|h2
      ·exact(hr h3).elim
      ·exact .inr ⟨h1,r',h2,h3,h4⟩
 unfold dirS DRef;split
 ·rename_i h;rw [key];simp [h]
 ·rename_i h;simp;intro h1 h2;exact(h ⟨h1,h2⟩).elim
end Go.Proofs.Dev
namespace Go.Tm
theorem nodup_sub_len {α:Type} [DecidableEq α]:∀{a b:List α},a.Nodup→(∀x∈a,x∈b)→a.length≤b.length
 |[],b,_,_=>by simp
 |x::a,b,h,hs=>by
  obtain⟨h1,h2⟩:=List.nodup_cons.1 h;have:=nodup_sub_len (a:=a) (b:=b.erase x) h2 fun y hy=>by
   have hne:y≠x:=fun he=>h1 (he▸hy);exact(List.mem_erase_of_ne hne).2 (hs y (by simp [hy]))
  have hl:=List.length_erase_of_mem (hs x (by simp));have hp:0<b.length:=List.length_pos_of_mem (hs x (by simp));simp only [List.length_cons];omega
theorem inc_nodup {a:List Int}(h:Inc a):a.Nodup:=h.imp fun h he=>by omega
end Go.Tm
namespace Go.Proofs.Dev
open Go Go.Tm
inductive Way (s:GScope):Int→Int→Prop
 |one {a b:Int} (h:DRef s a b):Way s a b
 |step {a b c:Int} (h:Way s a b) (h2:DRef s b c):Way s a c
def trF (s:GScope) (a:List Int) (x:Int):List Int:=(dirS s x).foldl insS a
def trR (s:GScope) (a:List Int):List Int:=a.foldl (trF s) a
def trN (s:GScope) (d:Int):Nat→List Int
 |0=>dirS s d
 |k+1=>trR s (trN s d k)
theorem insS_insR {n:Int}:∀{l a:List Int},(∀x∈l,0≤x∧x<n)→l.foldl insS a=l.foldl (insR n) a
 |[],a,_=>rfl
 |x::l,a,h=>by
  simp only [List.foldl_cons];rw [show insR n a x=insS a x from if_pos (h x (by simp)),insS_insR fun y hy=>h y (by simp [hy])]
theorem trF_eq (s:GScope) (a:List Int) (x:Int):trF s a x=(dirS s x).foldl (insR s.Defs.length) a:=insS_insR (dirS_inv s x).2
theorem trF_inv {s:GScope}{a:List Int}{x:Int}(h:InR s.Defs.length a):InR s.Defs.length (trF s a x):=by rw [trF_eq];exact h.fold
theorem trF_mem {s:GScope}{a:List Int}{x y:Int}:y∈trF s a x↔y∈a∨DRef s x y:=by
 rw [trF_eq,mem_fold];constructor
 ·rintro (h|⟨h,-⟩)
  ·exact .inl h
  ·exact .inr (mem_dirS.1 h)
 ·rintro (h|h)
  ·exact .inl h
  ·exact .inr ⟨mem_dirS.2 h,h.2.1⟩
theorem trFold_inv {s:GScope}:∀{l a:List Int},InR s.Defs.length a→InR s.Defs.length (l.foldl (trF s) a)
 |[],a,h=>h
 |x::l,a,h=>trFold_inv (l:=l) (trF_inv h)
theorem trFold_mem {s:GScope}{y:Int}:∀{l a:List Int},y∈l.foldl (trF s) a↔y∈a∨∃x∈l,DRef s x y
 |[],a=>by simp
 |x::l,a=>by
  simp only [List.foldl_cons];rw [trFold_mem (l:=l),trF_mem];constructor
  ·rintro ((h|h)|⟨z,h1,h2⟩)
   ·exact .inl h
   ·exact .inr ⟨x,by simp,h⟩
   ·exact .inr ⟨z,by simp [h1],h2⟩
  ·rintro (h|⟨z,h1,h2⟩)
   ·exact .inl (.inl h)
   ·rcases List.mem_cons.1 h1 with rfl|h1
    ·exact .inl (.inr h2)
    ·exact .inr ⟨z,h1,h2⟩
theorem trN_inv (s:GScope) (d:Int):∀k,InR s.Defs.length (trN s d k)
 |0=>dirS_inv s d
 |k+1=>trFold_inv (trN_inv s d k)
theorem trN_sound {s:GScope}{d y:Int}:∀{k:Nat},y∈trN s d k→Way s d y
 |0,h=>.one (mem_dirS.1 h)
 |k+1,h=>by
  rcases trFold_mem.1 h with h|⟨x,h1,h2⟩
  ·exact trN_sound h
  ·exact .step (trN_sound h1) h2
theorem trN_mono {s:GScope}{d y:Int}{k:Nat}(h:y∈trN s d k):y∈trN s d (k+1):=trFold_mem.2 (.inl h)
theorem trN_base {s:GScope}{d y:Int}(h:DRef s d y):∀k,y∈trN s d k
 |0=>mem_dirS.2 h
 |k+1=>trN_mono (trN_base h k)
def Shut (s:GScope) (a:List Int):Prop:=∀x∈a,∀y,DRef s x y→y∈a
open Classical in
theorem trN_grow {s:GScope}{d:Int}:∀k,Shut s (trN s d k)∨k+1≤(trN s d k).length
 |0=>by
  cases h:trN s d 0 with
  |nil=>exact .inl fun x hx=>by simp at hx
  |cons x l=>exact .inr (by simp)
 |k+1=>by
  by_cases hc:Shut s (trN s d k)
  ·refine .inl fun x hx y hy=>?_;have hx':x∈trN s d k:=by
    rcases trFold_mem.1 hx with h|⟨z,h1,h2⟩
    ·exact h
    ·exact hc z h1 x h2
   exact trN_mono (hc x hx' y hy)
  ·rcases trN_grow k with h|h
   ·exact(hc h).elim
   ·right;obtain⟨x,hx⟩:=Classical.not_forall.1 hc;obtain⟨hx1,hx2⟩:=Classical.not_imp.1 hx;obtain⟨y,hy⟩:=Classical.not_forall.1 hx2;obtain⟨hy1,hy2⟩:=Classical.not_imp.1 hy;have:=nodup_sub_len (a:=y::trN s d k) (b:=trN s d (k+1)) (List.nodup_cons.2 ⟨hy2,inc_nodup (trN_inv s d k).1⟩) fun z hz=>by
     rcases List.mem_cons.1 hz with rfl|hz
     ·exact trFold_mem.2 (.inr ⟨x,hx1,hy1⟩)
     ·exact trN_mono hz
    simp only [List.length_cons]at this;omega
theorem trN_shut (s:GScope) (d:Int):Shut s (trN s d s.Defs.length):=by
 rcases trN_grow (s:=s) (d:=d) s.Defs.length with h|h
 ·exact h
 ·have:=(trN_inv s d s.Defs.length).len;omega
theorem mem_trN {s:GScope}{d y:Int}:y∈trN s d s.Defs.length↔Way s d y:=by
 constructor
 ·exact trN_sound
 ·intro h
  induction h with
  |one h=>exact trN_base h _
  |step h h2 ih=>exact trN_shut s d _ ih _ h2
theorem ref16_Transitive_s {s:GScope}(hs:ScOk s) (d:Int):ref16_Transitive s d=some (trN s d s.Defs.length):=by
 unfold ref16_Transitive;have hn:=hs.defs;have round:∀a,InR s.Defs.length a→loopO (ref16_Transitive_L40 s a) (a,0)=some (.inl (trR s a)):=by
  intro a ha;have:=ha.len;refine loopL a (trF s) a _ rfl (fun i hi=>?_) (by unfold ref16_Transitive_L40;simp [trR]);have hI:InR s.Defs.length ((a.take i).foldl (trF s) a):=trFold_inv ha;unfold ref16_Transitive_L40;simp only;rw [if_pos (by omega),idxN hi,Option.bind_some,ref16_Direct_s hs,Option.bind_some,wsucc (by omega)];generalize (a.take i).foldl (trF s) a=b at hI⊢;have hd:=(dirS_inv s a[i]).len;have hb:loopO (ref16_Transitive_L39 (dirS s a[i])) (b,0)=some (.inl ((dirS s a[i]).foldl insS b)):=by
   refine loopL (dirS s a[i]) insS b _ rfl (fun k hk=>?_) (by unfold ref16_Transitive_L39;simp);have hI2:InR s.Defs.length (((dirS s a[i]).take k).foldl insS b):=by
    rw [insS_insR fun x hx=>(dirS_inv s a[i]).2 x (List.mem_of_mem_take hx)];exact hI.fold
   have:=hI2.len;unfold ref16_Transitive_L39;simp only;rw [if_pos (by omega),idxN hk,Option.bind_some,ref16_insert_s (by omega),Option.bind_some,wsucc (by omega)]
  rw [hb,Option.bind_some];rfl
 have hl:loopO (ref16_Transitive_L41 s) (dirS s d,0)=some (.inl (trN s d s.Defs.length)):=by
  refine loopG (fun i=>(trN s d i,(i:Int))) s.Defs.length _ (fun i hi=>?_) (by unfold ref16_Transitive_L41;simp) rfl;unfold ref16_Transitive_L41;simp only;rw [if_pos (by omega),round _ (trN_inv s d i),Option.bind_some,wsucc (by omega)];rfl
 rw [ref16_Direct_s hs,Option.bind_some,hl];rfl
def inR (n:Int) (l:List Int):List Int:=l.filter fun x=>decide (0≤x)&&decide (x<n)
theorem defs_loop {n:Int}{l a:List Int}(h:a.length+l.length≤1099511627776) {step:List Int×Int→Option (Ex (List Int×Int) (List Int) Unit)}
 (hstep:∀(a:List Int) (i:Nat) (hi:i<l.length),step (a,(i:Int))=(Option.bind (α:=List Int) (if (decide (0≤l[i])&&decide (l[i]<n))=true then (app 8 a [l[i]]).bind fun x=>some x else some a) fun j=>some (.go (j,wrapF .i64 ((i:Int)+1)))))
 (hend:∀a,step (a,(l.length:Int))=some (.brk a)):loopO step (a,0)=some (.inl (a++inR n l)):=by
 refine loopG (fun i=>(a++inR n (l.take i),(i:Int))) l.length _ (fun i hi=>?_) ?_ (by simp [inR])
 ·have hlen:(inR n (l.take i)).length≤i:=by
   have:=List.length_filter_le (fun x=>decide (0≤x)&&decide (x<n)) (l.take i);unfold inR;simp at this;omega
  have ht:inR n (l.take (i+1))=inR n (l.take i)++(if (decide (0≤l[i])&&decide (l[i]<n))=true then [l[i]]else []):=by
   unfold inR;rw [List.take_add_one,List.getElem?_eq_getElem hi,List.filter_append];simp only [Option.toList_some,List.filter_cons,List.filter_nil]
  rw [hstep _ i hi,wsucc (by omega),ht];split
  ·rw [appS (by simp;omega)];simp
  ·simp
 ·rw [List.take_length];exact hend _
theorem deps_definitionsOf_s {r:GRule}(h:r.Guard.length≤1048576∧r.Value.length≤1048576) (n:Int):deps_definitionsOf r n=some (inR n (dfl isDef r.Guard)++inR n (dfl isDef r.Value)):=by
 unfold deps_definitionsOf;have l1:=dfl_len (p:=isDef) (e:=r.Guard);have l2:=dfl_len (p:=isDef) (e:=r.Value);have l3:(inR n (dfl isDef r.Guard)).length≤(dfl isDef r.Guard).length:=List.length_filter_le _ _;rw [expr_References_s (by omega),Option.bind_some,expr_References_s (by omega),Option.bind_some];have b1:loopO (deps_definitionsOf_L3 n (refsS r.Guard)) (([]:List Int),0)=some (.inl ([]++inR n (dfl isDef r.Guard))):=by
  refine defs_loop (l:=dfl isDef r.Guard) (by simp;omega) (fun a i hi=>?_) (fun a=>?_)
  ·unfold deps_definitionsOf_L3 refsS;simp only;rw [if_pos (by omega),idxN hi,Option.bind_some];by_cases g1:0≤(dfl isDef r.Guard)[i]<;>by_cases g2:(dfl isDef r.Guard)[i]<n<;>simp [g1,g2]
  ·unfold deps_definitionsOf_L3 refsS;simp
 rw [b1,Option.bind_some];simp only [List.nil_append];have b2:loopO (deps_definitionsOf_L2 n (refsS r.Value)) (inR n (dfl isDef r.Guard),0)=some (.inl (inR n (dfl isDef r.Guard)++inR n (dfl isDef r.Value))):=by
  refine defs_loop (l:=dfl isDef r.Value) (by omega) (fun a i hi=>?_) (fun a=>?_)
  ·unfold deps_definitionsOf_L2 refsS;simp only;rw [if_pos (by omega),idxN hi,Option.bind_some];by_cases g1:0≤(dfl isDef r.Value)[i]<;>by_cases g2:(dfl isDef r.Value)[i]<n<;>simp [g1,g2]
  ·unfold deps_definitionsOf_L2 refsS;simp
 rw [b2];rfl
theorem mapM_some {α β:Type}{f:α→Option β}(g:α→β):∀{l:List α},(∀x∈l,f x=some (g x))→l.mapM f=some (l.map g)
 |[],_=>rfl
 |x::l,h=>by
  rw [List.mapM_cons,h x (by simp),mapM_some g fun y hy=>h y (by simp [hy])];rfl
def allD (s:GScope):List (List Int):=
 (List.range s.Defs.length).map fun(d:Nat)=>dsort ((s.Rules.filter fun(r:GRule)=>r.Def==(d:Int)).map fun r=>inR s.Defs.length (dfl isDef r.Guard)++inR s.Defs.length (dfl isDef r.Value)).flatten
theorem deps_allDirect_s {s:GScope}(hs:ScOk s):deps_allDirect s=some (allD s):=by
 unfold deps_allDirect allD;rw [if_pos ⟨hs.defs,hs.rules,hs.g⟩];refine mapM_some _ fun d _=>?_;rw [mapM_some (fun r=>inR s.Defs.length (dfl isDef r.Guard)++inR s.Defs.length (dfl isDef r.Value)) fun r hr=>deps_definitionsOf_s (hs.g r (List.mem_filter.1 hr).1) _];rfl
theorem mem_allD {s:GScope}{d:Int}{l:List Int}(h0:0≤d) (h:(allD s)[d.toNat]?=some l) (x:Int):x∈l↔DRef s d x:=by
 unfold allD at h;rw [List.getElem?_map]at h;by_cases hd:d.toNat<s.Defs.length
 ·rw [List.getElem?_range hd]at h;simp only [Option.map_some,Option.some.injEq]at h;subst h;rw [(dsort_inv _).2.2];simp only [List.mem_flatten,List.mem_map,List.mem_filter,beq_iff_eq,DRef,ruleRefs,inR];rw [Int.toNat_of_nonneg h0];constructor
  ·rintro ⟨_,⟨r,⟨hr,hrd⟩,rfl⟩,hx⟩;simp only [List.mem_append,List.mem_filter,Bool.and_eq_true,decide_eq_true_eq]at hx;rcases hx with ⟨h1,h2⟩|⟨h1,h2⟩
   ·exact⟨⟨h0,by omega⟩,h2,r,hr,hrd,by simp [h1]⟩
   ·exact⟨⟨h0,by omega⟩,h2,r,hr,hrd,by simp [h1]⟩
  ·rintro ⟨-,h2,r,hr,hrd,hx⟩;refine⟨_,⟨r,⟨hr,hrd⟩,rfl⟩,?_⟩;simp only [List.mem_append,List.mem_filter,Bool.and_eq_true,decide_eq_true_eq]at hx⊢;rcases hx with hx|hx
   ·exact .inl ⟨hx,h2⟩
   ·exact .inr ⟨hx,h2⟩
 ·rw [List.getElem?_eq_none (by simpa using hd)]at h;cases h
theorem allD_len (s:GScope):(allD s).length=s.Defs.length:=by simp [allD]
theorem reach_way {s:GScope}{a b:Int}(h0:0≤a):ReachL (allD s) a b↔Way s a b:=by
 constructor
 ·intro h;have key:∀{b:Int},ReachL (allD s) a b→Way s a b∧0≤b:=by
   intro b h
   induction h with
   |one h hb=>exact have:=(mem_allD h0 h _).1 hb;⟨.one this,this.2.1.1⟩
   |step h hl hc ih=>exact have:=(mem_allD ih.2 hl _).1 hc;⟨.step ih.1 this,this.2.1.1⟩
  exact(key h).1
 ·intro h;have get:∀{d x:Int},DRef s d x→∃l,(allD s)[d.toNat]?=some l∧x∈l:=by
   intro d x hd;have hlt:d.toNat<(allD s).length:=by rw [allD_len];have:=hd.1;omega
   exact⟨_,List.getElem?_eq_getElem hlt,(mem_allD hd.1.1 (List.getElem?_eq_getElem hlt) x).2 hd⟩
  induction h with
  |one h=>obtain⟨l,h1,h2⟩:=get h;exact .one h1 h2
  |step h h2 ih=>obtain⟨l,k1,k2⟩:=get h2;exact .step ih k1 k2
theorem contains_int {l:List Int}(hl:l.length≤1099511627776) (d:Int):slices_Contains_int_int l d=some (decide (d∈l)):=by
 have h:=containsF (l:=l) (p:=fun x=>some (decide (d=x))) (fun x=>decide (d=x)) (fun x _=>rfl) (by omega) (o:=loopO (slices_Index_int_int_L1 l d) 0) (by
  unfold slices_Index_int_int_L1;simp only [Option.bind_some,decide_eq_true_eq])
 have h':slices_Contains_int_int l d=some (l.any fun x=>decide (d=x)):=h;rw [h'];congr 1;rw [Bool.eq_iff_iff,List.any_eq_true];simp
open Classical in
theorem deps_Transitive_s {s:GScope}(hs:ScOk s) (d:Int):∃l,deps_Transitive s d=some l∧l.length≤1048576∧∀x,x∈l↔Way s d x:=by
 unfold deps_Transitive;by_cases hd:0≤d∧d<(s.Defs.length:Int)
 ·have hn:=hs.defs;refine⟨reachL (allD s) d,?_,?_,?_⟩
  ·rw [if_pos (by omega),Option.bind_some,if_neg (by simp;omega),deps_allDirect_s hs,Option.bind_some];unfold deps_reached;rw [if_pos]
   ·rfl
   ·refine⟨by rw [allD_len];omega,fun l hl=>?_,hd.1,by rw [allD_len];exact hd.2⟩;obtain⟨i,hi,rfl⟩:=List.getElem_of_mem hl;have hm:=fun x=>mem_allD (s:=s) (d:=(i:Int)) (l:=(allD s)[i]) (by omega) (by rw [Int.toNat_natCast];exact List.getElem?_eq_getElem hi) x;have hb:∀x∈(allD s)[i],0≤x∧x<((allD s).length:Int):=fun x hx=>by rw [allD_len];exact((hm x).1 hx).2.1
    refine⟨?_,hb⟩;have hinc:Inc (allD s)[i]:=by simp only [allD,List.getElem_map];exact(dsort_inv _).1
    have:=inc_len hinc hb;rw [allD_len]at this;omega
  ·have h1:=List.length_filter_le (fun b=>@decide (ReachL (allD s) d b) (Classical.propDecidable _)) ((List.range (allD s).length).map fun(k:Nat)=>(k:Int));unfold reachL;simp only [List.length_map,List.length_range,allD_len]at h1⊢;omega
  ·intro x;unfold reachL;rw [List.mem_filter,allD_len,List.mem_map,decide_eq_true_eq,reach_way hd.1];constructor
   ·exact fun h=>h.2
   ·intro h;refine⟨?_,h⟩;have:0≤x∧x<(s.Defs.length:Int):=by cases h with|one h=>exact h.2.1|step _ h=>exact h.2.1
    exact⟨x.toNat,by simp;omega,by omega⟩
 ·refine⟨[],?_,by simp,fun x=>?_⟩
  ·have:(if¬d<0 then some (decide ((s.Defs.length:Int)≤d))else some true)=some true:=by
    by_cases h:d<0
    ·rw [if_neg (by omega)]
    ·rw [if_pos h,decide_eq_true (by omega)]
   rw [this];rfl
  ·constructor
   ·intro h;simp at h
   ·intro h;exfalso;apply hd;clear hd
    induction h with
    |one h=>exact h.1
    |step h h2 ih=>exact ih
end Go.Proofs.Dev
namespace Go.Proofs.Dev
open Go Go.Tm
noncomputable def deps_reachedP_L4 (x7:List Int):((List Bool)×(List Int)×Int)→Option (Ex ((List Bool)×(List Int)×Int) ((List Bool)×(List Int)) Unit):=fun(s8,s9,s10)=>
 if s10<(x7.length:Int)then
  Option.bind (α:=((List Bool)×(List Int))) (
   (idx x7 s10).bind fun x12=>
   (idx s8 x12).bind fun x13=>
   if x13=false then
    (put s8 x12 true).bind fun x15=>
    (app 8 s9 ([x12])).bind fun x16=>
    some (x15,x16)
   else
   some (s8,s9)) fun(j17,j18)=>
  some (Ex.go (j17,j18,(wrapF .i64 (s10+1))))
 else
 some (Ex.brk (s8,s9))
noncomputable def deps_reachedP_L7 (t0:(List (List Int))):((List Bool)×(List Int))→Option (Ex ((List Bool)×(List Int)) (List Bool) Unit):=fun(s2,s3)=>
 if 0<(s3.length:Int)then
  (idx s3 0).bind fun x5=>
  (subl s3 1).bind fun x6=>
  (idx t0 x5).bind fun x7=>
  (loopO (deps_reachedP_L4 x7) (s2,x6,0)).bind fun y=>match y with
  |.inr _=>none
  |.inl (b22,b23)=>
  some (Ex.go (b22,b23))
 else
 some (Ex.brk s2)
noncomputable def deps_reachedP_L6 (b26:List Bool):((List Int)×Int)→Option (Ex ((List Int)×Int) (List Int) Unit):=fun(s27,s28)=>
 if s28<(b26.length:Int)then
  Option.bind (α:=(List Int)) (
   (idx b26 s28).bind fun x30=>
   if x30=true then
    (app 8 s27 ([s28])).bind fun x32=>
    some x32
   else
   some s27) fun j33=>
  some (Ex.go (j33,(wrapF .i64 (s28+1))))
 else
 some (Ex.brk s27)
noncomputable def deps_reachedP (t0:(List (List Int))) (t1:Int):Option (List Int):=
 (mks 1 false (t0.length:Int) (t0.length:Int)).bind fun x1=>
 (loopO (deps_reachedP_L7 t0) (x1,[t1])).bind fun y=>match y with
 |.inr _=>none
 |.inl b26=>
 (loopO (deps_reachedP_L6 b26) (([]:List Int),0)).bind fun y=>match y with
 |.inr _=>none
 |.inl b36=>
 some b36
def visit (p:List Bool×List Int) (e:Int):List Bool×List Int:=if p.1[e.toNat]?=some true then p else (p.1.set e.toNat true,p.2++[e])
def Sn (s:List Bool) (b:Int):Prop:=s[b.toNat]?=some true
instance (s:List Bool) (b:Int):Decidable (Sn s b):=by unfold Sn;infer_instance
def cF (s:List Bool):Nat:=s.count false
theorem cF_set:∀{s:List Bool}{i:Nat},s[i]?=some false→cF (s.set i true)+1=cF s
 |[],i,h=>by simp at h
 |b::s,0,h=>by simp at h;subst h;simp [cF]
 |b::s,i+1,h=>by
  have:=cF_set (s:=s) (i:=i) (by simpa using h);unfold cF at this⊢;simp only [List.set_cons_succ,List.count_cons];omega
theorem cF_le (s:List Bool):cF s≤s.length:=List.count_le_length
structure Ok (n:Nat) (p:List Bool×List Int):Prop where
 len:p.1.length=n
 q:∀x∈p.2,0≤x∧x<n
 m:p.2.length+cF p.1≤n+1
theorem visit_ok {n:Nat}{p:List Bool×List Int}{e:Int}(h:Ok n p) (h0:0≤e) (h1:e<n) :
 Ok n (visit p e)∧(visit p e).2.length+cF (visit p e).1=p.2.length+cF p.1∧(∀b,0≤b→(Sn (visit p e).1 b↔Sn p.1 b∨b=e))∧(∀x,x∈(visit p e).2↔x∈p.2∨(x=e∧¬Sn p.1 e)):=by
 unfold visit;split
 ·rename_i hs;refine⟨h,rfl,fun b hb=>⟨.inl,fun h=>?_⟩,fun x=>⟨.inl,fun h=>?_⟩⟩
  ·rcases h with h|rfl
   ·exact h
   ·exact hs
  ·rcases h with h|⟨rfl,h⟩
   ·exact h
   ·exact(h hs).elim
 ·rename_i hs;have hlt:e.toNat<p.1.length:=by rw [h.len];omega
  have hf:p.1[e.toNat]?=some false:=by
   rw [List.getElem?_eq_getElem hlt]at hs⊢
   cases hb:p.1[e.toNat]with
   |true=>rw [hb]at hs;exact(hs rfl).elim
   |false=>rfl
  have hc:=cF_set hf;have hm:=h.m;refine⟨⟨by simp [h.len],fun x hx=>?_,?_⟩,?_,fun b hb=>?_,fun x=>?_⟩
  ·rcases List.mem_append.1 hx with hx|hx
   ·exact h.q x hx
   ·rw [List.mem_singleton]at hx;subst hx;exact⟨h0,h1⟩
  ·simp only [List.length_append,List.length_singleton];omega
  ·simp only [List.length_append,List.length_singleton];omega
  ·unfold Sn;rw [List.getElem?_set];by_cases hbe:e.toNat=b.toNat
   ·rw [if_pos hbe,if_pos hlt];exact⟨fun _=>.inr (by omega),fun _=>rfl⟩
   ·rw [if_neg hbe];exact⟨.inl,fun h=>h.elim id fun h=>(hbe (by rw [h])).elim⟩
  ·rw [List.mem_append,List.mem_singleton];exact⟨fun h=>h.imp id fun h=>⟨h,hs⟩,fun h=>h.imp id fun h=>h.1⟩
theorem visits_ok {n:Nat}:∀{l:List Int}{p:List Bool×List Int},Ok n p→(∀e∈l,0≤e∧e<n)→
 Ok n (l.foldl visit p)∧(l.foldl visit p).2.length+cF (l.foldl visit p).1=p.2.length+cF p.1∧(∀b,0≤b→(Sn (l.foldl visit p).1 b↔Sn p.1 b∨b∈l))∧(∀x,x∈(l.foldl visit p).2↔x∈p.2∨(x∈l∧¬Sn p.1 x))
 |[],p,h,_=>by simp [h]
 |e::l,p,h,hl=>by
  obtain⟨h0,h1⟩:=hl e (by simp);obtain⟨a1,a2,a3,a4⟩:=visit_ok h h0 h1;obtain⟨b1,b2,b3,b4⟩:=visits_ok a1 (fun x hx=>hl x (by simp [hx])) (l:=l);simp only [List.foldl_cons];refine⟨b1,by omega,fun b hb=>?_,fun x=>?_⟩
  ·rw [b3 b hb,a3 b hb,List.mem_cons];constructor
   ·rintro ((h|h)|h)
    ·exact .inl h
    ·exact .inr (.inl h)
    ·exact .inr (.inr h)
   ·rintro (h|h|h)
    ·exact .inl (.inl h)
    ·exact .inl (.inr h)
    ·exact .inr h
  ·rw [b4 x,a4 x,List.mem_cons];constructor
   ·rintro ((h|⟨rfl,h⟩)|⟨h,h'⟩)
    ·exact .inl h
    ·exact .inr ⟨.inl rfl,h⟩
    ·exact .inr ⟨.inr h,fun hs=>h' ((a3 x (hl x (by simp [h])).1).2 (.inl hs))⟩
   ·rintro (h|⟨rfl|h,h'⟩)
    ·exact .inl (.inl h)
    ·exact .inl (.inr ⟨rfl,h'⟩)
    ·by_cases hxe:x=e
     ·subst hxe;exact .inl (.inr ⟨rfl,h'⟩)
     ·exact .inr ⟨h,fun hs=>((a3 x (hl x (by simp [h])).1).1 hs).elim h' hxe⟩
theorem wrap_lt {i:Int}(h0:0≤i) (h1:i<9223372036854775807):wrapF .i64 (i+1)=i+1:=wrapI ⟨by omega,by omega⟩
theorem L4_eq {n:Nat}(hn:n≤1048576) {l:List Int}(hl:l.length≤1048576) (hle:∀e∈l,0≤e∧e<n):∀(k:Nat) {p:List Bool×List Int}{i:Nat},l.length-i=k→Ok n p→
 loopO (deps_reachedP_L4 l) (p.1,p.2,(i:Int))=some (.inl ((l.drop i).foldl visit p))
 |0,p,i,hk,hp=>by
  rw [List.drop_eq_nil_of_le (by omega)];refine loopO_brk ?_;unfold deps_reachedP_L4;simp only;rw [if_neg (by omega)];rfl
 |k+1,p,i,hk,hp=>by
  have hi:i<l.length:=by omega
  obtain⟨h0,h1⟩:=hle l[i] (List.getElem_mem hi);have hlt:l[i].toNat<p.1.length:=by rw [hp.len];omega
  rw [List.drop_eq_getElem_cons hi,List.foldl_cons];have hstep:deps_reachedP_L4 l (p.1,p.2,(i:Int))=some (.go ((visit p l[i]).1,(visit p l[i]).2,((i+1:Nat):Int))):=by
   unfold deps_reachedP_L4;simp only;rw [if_pos (by omega)];have e1:idx l (i:Int)=some l[i]:=by simp [idx,hi]
   have e2:idx p.1 l[i]=some p.1[l[i].toNat]:=by simp [idx,h0,hlt]
   have e3:wrapF .i64 ((i:Int)+1)=((i+1:Nat):Int):=by rw [wrap_lt (by omega) (by omega)];omega
   rw [e1,Option.bind_some,e2,Option.bind_some,e3];unfold visit;rw [List.getElem?_eq_getElem hlt]
   cases hb:p.1[l[i].toNat]with
   |true=>simp
   |false=>
    have e4:put p.1 l[i] true=some (p.1.set l[i].toNat true):=by simp [put,h0,hlt]
    have e5:app 8 p.2 [l[i]]=some (p.2++[l[i]]):=by
     have hm:=hp.m;unfold app;rw [if_pos];simp only [List.length_singleton];omega
    rw [if_pos rfl,e4,Option.bind_some,e5];simp
  rw [loopO_go hstep];exact L4_eq hn hl hle k (i:=i+1) (by omega) (visit_ok hp h0 h1).1
def Reach1 (g:List (List Int)) (a b:Int):Prop:=b=a∨ReachL g a b
structure Bfs (g:List (List Int)) (a:Int) (p:List Bool×List Int):Prop where
 ok:Ok g.length p
 sound:∀b,0≤b→Sn p.1 b→ReachL g a b
 qs:∀x∈p.2,Reach1 g a x
 done:∀b,0≤b→(b=a∨Sn p.1 b)→b∈p.2∨∀l,g[b.toNat]?=some l→∀c∈l,Sn p.1 c
theorem L7_eq {g:List (List Int)}{a:Int}(hn:g.length≤1048576) (hg:∀l∈g,l.length≤1048576∧∀e∈l,0≤e∧e<g.length):∀(k:Nat) {p:List Bool×List Int},p.2.length+cF p.1=k→Bfs g a p→
 ∃s,loopO (deps_reachedP_L7 g) p=some (.inl s)∧Bfs g a (s,[]):=by
 intro k
 induction k with
 |zero=>
  intro p hk hp;obtain⟨s,q⟩:=p;have:q=[]:=List.eq_nil_of_length_eq_zero (by dsimp only at hk;omega);subst this;exact⟨s,loopO_brk (by simp [deps_reachedP_L7]),hp⟩
 |succ k ih=>
  intro p hk hp;obtain⟨s,q⟩:=p
  cases q with
  |nil=>exact⟨s,loopO_brk (by simp [deps_reachedP_L7]),hp⟩
  |cons d q=>
   obtain⟨d0,d1⟩:=hp.ok.q d (by simp);have hd:d.toNat<g.length:=by omega
   obtain⟨gl,ge⟩:=hg g[d.toNat] (List.getElem_mem hd);have hok:Ok g.length (s,q):=⟨hp.ok.len,fun x hx=>hp.ok.q x (by simp [hx]),by have:=hp.ok.m;simp only [List.length_cons]at this⊢;omega⟩;obtain⟨v1,v2,v3,v4⟩:=visits_ok hok ge (l:=g[d.toNat]);have hstep:deps_reachedP_L7 g (s,d::q)=some (.go (g[d.toNat].foldl visit (s,q))):=by
    unfold deps_reachedP_L7;simp only;rw [if_pos (by simp)];have e1:idx (d::q) 0=some d:=rfl;have e2:subl (d::q) 1=some q:=by simp [subl]
    have e3:idx g d=some g[d.toNat]:=by simp [idx,d0,hd]
    have e4:=L4_eq hn gl ge _ (p:=(s,q)) (i:=0) rfl hok;simp only [List.drop_zero,Int.natCast_zero]at e4;rw [e1,Option.bind_some,e2,Option.bind_some,e3,Option.bind_some,e4];rfl
   rw [loopO_go hstep];have hk2:q.length+cF s=k:=by simp only [List.length_cons]at hk;omega
   refine ih (by rw [v2];exact hk2) ⟨v1,fun b hb hs=>?_,fun x hx=>?_,fun b hb hbs=>?_⟩
   ·rcases (v3 b hb).1 hs with h|h
    ·exact hp.sound b hb h
    ·rcases hp.qs d (by simp)with rfl|hr
     ·exact .one (List.getElem?_eq_getElem hd) h
     ·exact .step hr (List.getElem?_eq_getElem hd) h
   ·rcases (v4 x).1 hx with h|⟨h,-⟩
    ·exact hp.qs x (by simp [h])
    ·right;rcases hp.qs d (by simp)with rfl|hr
     ·exact .one (List.getElem?_eq_getElem hd) h
     ·exact .step hr (List.getElem?_eq_getElem hd) h
   ·have up:∀c,0≤c→Sn s c→Sn (g[d.toNat].foldl visit (s,q)).1 c:=fun c hc h=>(v3 c hc).2 (.inl h);by_cases hbd:b=d
    ·subst hbd;right;intro l hl c hc;rw [List.getElem?_eq_getElem hd]at hl;injection hl with hl;subst hl;exact(v3 c (ge c hc).1).2 (.inr hc)
    ·have key:(b=a∨Sn s b)∨(b∈g[d.toNat]∧¬Sn s b):=by
      rcases hbs with h|h
      ·exact .inl (.inl h)
      ·rcases (v3 b hb).1 h with h|h
       ·exact .inl (.inr h)
       ·by_cases hs:Sn s b
        ·exact .inl (.inr hs)
        ·exact .inr ⟨h,hs⟩
     rcases key with h|h
     ·rcases hp.done b hb h with h|h
      ·rcases List.mem_cons.1 h with h|h
       ·exact(hbd h).elim
       ·exact .inl ((v4 b).2 (.inl h))
      ·right;intro l hl c hc;have hm:l∈g:=List.mem_of_getElem? hl;exact up c ((hg l hm).2 c hc).1 (h l hl c hc)
     ·exact .inl ((v4 b).2 (.inr h))
theorem L6_eq {s:List Bool}(hs:s.length≤1048576):∀(k:Nat) {i:Nat},s.length-i=k→i≤s.length→
 loopO (deps_reachedP_L6 s) (((List.range i).map fun(k:Nat)=>(k:Int)).filter (fun b=>decide (Sn s b)),(i:Int))=some (.inl (((List.range s.length).map fun(k:Nat)=>(k:Int)).filter fun b=>decide (Sn s b)))
 |0,i,hk,hi=>by
  have:i=s.length:=by omega
  subst this;refine loopO_brk ?_;unfold deps_reachedP_L6;simp
 |k+1,i,hk,hi=>by
  have hlt:i<s.length:=by omega
  have hlen:(((List.range i).map fun(k:Nat)=>(k:Int)).filter (fun b=>decide (Sn s b))).length≤i:=Nat.le_trans (List.length_filter_le _ _) (by simp);have hstep:deps_reachedP_L6 s (((List.range i).map fun(k:Nat)=>(k:Int)).filter (fun b=>decide (Sn s b)),(i:Int))=some (.go (((List.range (i+1)).map fun(k:Nat)=>(k:Int)).filter (fun b=>decide (Sn s b)),((i+1:Nat):Int))):=by
   unfold deps_reachedP_L6;simp only;rw [if_pos (by omega)];have e1:idx s (i:Int)=some s[i]:=by simp [idx,hlt]
   have e3:wrapF .i64 ((i:Int)+1)=((i+1:Nat):Int):=by rw [wrap_lt (by omega) (by omega)];omega
   rw [e1,Option.bind_some,e3,List.range_succ,List.map_append,List.filter_append]
   cases hb:s[i]with
   |true=>
    have hsn:Sn s ((i:Nat):Int):=by unfold Sn;simp [hlt,hb]
    have e5:app 8 (((List.range i).map fun(k:Nat)=>(k:Int)).filter (fun b=>decide (Sn s b))) [(i:Int)]=some (((List.range i).map fun(k:Nat)=>(k:Int)).filter (fun b=>decide (Sn s b))++[(i:Int)]):=by
     unfold app;rw [if_pos];simp only [List.length_singleton];omega
    rw [if_pos rfl,e5];simp [hsn]
   |false=>
    have hsn:¬Sn s ((i:Nat):Int):=by unfold Sn;simp [hlt,hb]
    rw [if_neg (by simp)];simp [hsn]
  rw [loopO_go hstep];exact L6_eq hs k (i:=i+1) (by omega) (by omega)
theorem reached_P {t0:List (List Int)}{t1:Int}{r:List Int}(h:deps_reached t0 t1=some r):deps_reachedP t0 t1=some r:=by
 unfold deps_reached at h;split at h
 ·rename_i hc;obtain⟨hn,hg,h0,h1⟩:=hc;obtain rfl:=Option.some.inj h;unfold deps_reachedP;have e1:mks 1 false (t0.length:Int) (t0.length:Int)=some (List.replicate t0.length false):=by
   unfold mks;rw [if_pos ⟨by omega,by omega,by omega,by simp;omega⟩];simp
  have hb:Bfs t0 t1 (List.replicate t0.length false,[t1]):=by
   have hno:∀b,¬Sn (List.replicate t0.length false) b:=fun b hb=>by
    unfold Sn at hb;rw [List.getElem?_replicate]at hb;split at hb<;>simp at hb
   refine⟨⟨by simp,fun x hx=>?_,?_⟩,fun b _ hs=>(hno b hs).elim,fun x hx=>?_,fun b _ hs=>?_⟩
   ·rw [List.mem_singleton]at hx;subst hx;exact⟨h0,h1⟩
   ·have:=cF_le (List.replicate t0.length false);simp only [List.length_replicate,List.length_singleton]at this⊢;omega
   ·rw [List.mem_singleton]at hx;exact .inl hx
   ·rcases hs with rfl|hs
    ·exact .inl (by simp)
    ·exact(hno b hs).elim
  obtain⟨s,e2,hb⟩:=L7_eq hn hg _ rfl hb;have hlen:s.length=t0.length:=hb.ok.len;have e3:=L6_eq (s:=s) (by omega) _ (i:=0) rfl (by omega);simp only [List.range_zero,List.map_nil,List.filter_nil,Int.natCast_zero]at e3;rw [e1,Option.bind_some,e2,Option.bind_some];simp only;rw [e3,Option.bind_some];simp only;rw [hlen];unfold reachL;congr 1;apply List.filter_congr;intro b hbm;obtain⟨k,-,rfl⟩:=List.mem_map.1 hbm;have hfull:∀b,ReachL t0 t1 b→0≤b∧Sn s b:=by
   intro b hr
   induction hr with
   |one h hb2=>
    have hm:=List.mem_of_getElem? h;refine⟨((hg _ hm).2 _ hb2).1,?_⟩;rcases hb.done t1 h0 (.inl rfl)with h'|h'
    ·cases h'
    ·exact h' _ h _ hb2
   |step _ hl hc ih=>
    have hm:=List.mem_of_getElem? hl;refine⟨((hg _ hm).2 _ hc).1,?_⟩;rcases hb.done _ ih.1 (.inr ih.2)with h'|h'
    ·cases h'
    ·exact h' _ hl _ hc
  exact decide_eq_decide.2 ⟨fun h=>hb.sound _ (by omega) h,fun h=>(hfull _ h).2⟩
 ·cases h
end Go.Proofs.Dev
