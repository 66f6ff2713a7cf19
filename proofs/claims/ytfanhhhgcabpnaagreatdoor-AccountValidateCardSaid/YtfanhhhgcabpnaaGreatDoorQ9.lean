/-
  Contracts of the functions: each answers as its plain partial function says.
-/
import Derived.Test.YtfanhhhgcabpnaaGreatDoorK
import Derived.Test.YtfanhhhgcabpnaaGreatDoorG
import Derived.Test.YtfanhhhgcabpnaaGreatDoorPD
import Derived.Test.YtfanhhhgcabpnaaGreatDoorL1
import Derived.Test.YtfanhhhgcabpnaaGreatDoorQ4
import Derived.Test.YtfanhhhgcabpnaaGreatDoorQ5
import Derived.Test.YtfanhhhgcabpnaaGreatDoorQ6
import Derived.Test.YtfanhhhgcabpnaaGreatDoorQ7
open Classical renaming not_not→ko
open List renaming drop_eq_nil_iff→Vr
open List.cons renaming inj→Lr
open Option renaming bind_some→nn
set_option linter.all false
set_option maxHeartbeats 1000000
set_option maxRecDepth 10000
namespace Go.Proofs.Dev
open Go Go.Tm
noncomputable def Gc(t0:List GFact):((List (Int×Bool))×Int)→Option (Ex ((List (Int×Bool))×Int) Unit (Int×Int)):=fun(s1,s2)=>
 if s2<(t0.length:Int)then
  (idx t0 s2).bind fun x3=>
  (facts_checkFact x3).bind fun x4=>
  if¬x4=0 then
   some (Ex.ret (s2,x4))
  else
  if(mlk s1 x3.Id).getD false=true then
   some (Ex.ret (s2,7))
  else
  some (Ex.go ((mpt x3.Id true s1),(wrapF .i64 (s2+1))))
 else
 some (Ex.brk ())
noncomputable def Gf(t0:List GFact):Option (Int×Int):=
 if 128<(t0.length:Int)then
  some (0,4)
 else
 (loopO (Gc t0) (([]:List (Int×Bool)),0)).bind fun y=>match y with
 |.inr v=>some v
 |.inl ()=>
 some (0,0)
theorem Df{m:List Ent}{o:Option Bool}:lookR false (.v (.bool false)) m (o.map e_bool)=some (.v (.bool (o.getD false)),m):=by cases o<;>rfl
theorem Nk{k:Int}{b:Bool}{l:List (Int×Bool)}:putD (.int .i64 k) (.v (.bool b)) (em e_bool l)=em e_bool (mpt k b l):=put_em (e:=e_bool)
theorem Ze{t0 r}(h:Gf t0=some r):Den Tryz.prog 95 [e_s_GFact t0] (.tup [e_i64 r.1,e_i64 r.2]):=by
 refine dk 33 Fl ?_;simp only[Fl,Kf.of,zs,ze];unfold Gf at h;have q1:=@Df;have q2:=@Nk;have q3:=fun l=>frM_em (e:=e_bool) (l:=l);exact pg @Gc.eq_1 (.b .o (.l 2 0 (fun(q:((List (Int×Bool))×Int))=>⟨[.p 14,.s (e_i64 q.2)],[.m 0 (em e_bool q.1)]⟩) (fun(_:Unit)=>⟨[],[]⟩) [ok 0] (.b (.b .o (.b .o (.t [ok 0]))) (.t [])) .o))
theorem wc{k:Int}{x:Bool}{q:Int}:∀{l:List (Int×Bool)},mlk (mpt k x l) q=if q=k then some x else mlk l q
 |[]=>rfl
 |(a,b)::l=>by
  unfold mpt;split
  ·rename_i h;subst h;simp only[mlk];split<;>rfl
  ·rename_i h;simp only[mlk,wc (l:=l)];by_cases h1:q=k
   ·rw[if_pos h1,if_pos h1,if_neg (by omega)]
   ·rw[if_neg h1,if_neg h1]
theorem qd{t0:List GFact}(hl:t0.length≤128) {r:Int×Int}:∀(l:List GFact) (i:Nat) (seen:List Int) (s:List (Int×Bool)),t0.drop i=l→(∀x,seen.contains x=(mlk s x).getD false)→facts_Validate_go (i:Int) seen l=some r→
 ((
  loopO (Gc t0) (s,(i:Int))).bind fun y=>match y with
  |.inr v=>some v
  |.inl ()=>some (0,0))=some r
 |[],i,seen,s,hd,hs,h=>by
  unfold facts_Validate_go at h;have hi:t0.length≤i:=Vr.1 hd;rw[loopO_brk (b:=()) (by unfold Gc;dsimp only;rw[if_neg (by omega)])];exact h
 |f::l,i,seen,s,hd,hs,h=>by
  have hi:i<t0.length:=by
   by_cases hc:i<t0.length
   ·exact hc
   ·rw[Vr.2 (by omega)]at hd;cases hd
  have hf:t0[i]=f∧t0.drop (i+1)=l:=by
   rw[List.drop_eq_getElem_cons hi]at hd;exact⟨(Lr hd).1,(Lr hd).2⟩
  unfold facts_Validate_go at h
  cases hc:facts_checkFact f with
  |none=>rw[hc]at h;cases h
  |some c=>
   rw[hc]at h;have st:Gc t0 (s,(i:Int))=if¬c=0 then some (.ret ((i:Int),c))else if(mlk s f.Id).getD false=true then some (.ret ((i:Int),7))else some (.go (mpt f.Id true s,wrapF .i64 ((i:Int)+1))):=by
    unfold Gc;dsimp only;rw[if_pos (by omega),idxN hi,hf.1,nn,hc,nn]
   simp only[nn]at h;by_cases h0:c=0
   ·rw[if_neg (ko.2 h0)]at h st;rw[hs f.Id]at h;by_cases h1:(mlk s f.Id).getD false=true
    ·rw[if_pos h1]at h st;rw[loopO_ret st];exact h
    ·rw[if_neg h1]at h st;rw[wsucc (by omega)]at st;rw[loopO_go st];refine qd hl l (i+1) (f.Id::seen) _ hf.2 (fun x=>?_) (by rw[←h];congr 1);rw[wc,List.contains_cons,hs x];by_cases hx:x=f.Id
     ·rw[if_pos hx];simp[hx]
     ·rw[if_neg hx];have:(x==f.Id)=false:=by simpa using hx
      rw[this,Bool.false_or]
   ·rw[if_pos h0]at h st;rw[loopO_ret st];exact h
theorem bb{t0 r}(h:facts_Validate t0=some r):Den Tryz.prog 95 [e_s_GFact t0] (.tup [e_i64 r.1,e_i64 r.2]):=by
 refine Ze ?_;unfold facts_Validate at h;unfold Gf;split at h
 ·rename_i hc;rw[if_pos hc];exact h
 ·rename_i hc;rw[if_neg hc];exact qd (by omega) t0 0 [] [] rfl (fun x=>rfl) h
instance {t0 r}:Con (facts_Validate t0=some r) (Den Tryz.prog 95 [e_s_GFact t0] (.tup [e_i64 r.1,e_i64 r.2])):=⟨bb⟩
instance {t0 t1 t2 r}:Con (law_checkEnum t0 t1 t2=some r) (Den Tryz.prog 108 [e_GLaw t0,e_i64 t1,e_GEnum t2] (.tup [e_i64 r.1,e_i64 r.2])):=⟨fun h=>by
 refine dk 52 xd ?_
 simp only[xd,Kf.of,zs,ze]
 unfold law_checkEnum at h
 exact pg @law_checkEnum_L1.eq_1 (.b .o (.b .o (.b .o (.b .o (.l 1 0 (fun(s8:Int)=>⟨[.k 5,.p 1,.k 28,.p 2,.s (e_i64 s8),.p 18],[.o 1]⟩) (fun(_:Unit)=>⟨[],[]⟩) [ok 1] (.b (.b .o (.b .o (.t [ok 0]))) (.t [])) .o)))))⟩
instance {t0 t1 r}:Con (ref17_enumError t0 t1=some r) (Den Tryz.prog 114 [e_GLaw t0,e_i64 t1] (e_GLawError r)):=⟨fun h=>by
 refine dk 78 bg ?_
 simp only[bg,Kf.of,zs,ze]
 unfold ref17_enumError at h
 exact pg (And.intro @ref17_enumError_L9.eq_1 @ref17_enumError_L8.eq_1) (.b .o (.b .o (.b .o (.b .o (.l 2 0 (fun(q:(Int × Int))=>⟨[.k 4,.p 3,.s (e_i64 q.2),.p 1],[.o 1,.o 2,.h 3 [.g [.p 3,.s (e_i64 q.1)]]]⟩) (fun(_:Unit)=>⟨[.k 4,.p 1],[.o 1]⟩) [ok 1,ok 2,ok 3] (.b (.b .o (.l 1 0 (fun(s14:Int)=>⟨[.k 4,.p 4,.s (e_i64 s14),.p 33],[.o 0,.o 1,.o 2]⟩) (fun(_:Unit)=>⟨[.k 4,.p 4],[.o 0,.o 1,.o 2]⟩) [ok 0,ok 1,ok 2] (.b (.b .o (.t [ok 0,ok 1,ok 2])) (.t [ok 0,ok 1,ok 2])) (.t [ok 0,ok 1,ok 2]))) (.t [ok 0])) .o)))))⟩
instance {t0 t1 r}:Con (household_Validate t0 t1=some r) (Den Tryz.prog 45 [e_GLaw t0,e_GHousehold t1] (.tup [e_i64 r.1,e_i64 r.2])):=⟨fun h=>by
 refine dk 146 Yk ?_
 simp only[Yk,Kf.of,zs,ze]
 unfold household_Validate at h
 exact pg @household_Validate_L1.eq_1 (.z 2 (.j 1 (fun(j2:Bool)=>⟨[.k 2,.p 2,.k 22,.s (e_bool j2),.p 121],[.o 0,.o 1]⟩) (.b (.t [ok 0,ok 1]) (.t [ok 0,ok 1])) (.b .o (.z 2 (.j 1 (fun(j9:Bool)=>⟨[.k 2,.p 5,.k 48,.s (e_bool j9),.p 92],[.o 0,.o 1]⟩) (.b (.b (.b (.b (.t [ok 0,ok 1]) (.t [ok 0,ok 1])) (.t [ok 0,ok 1])) (.t [ok 0,ok 1])) (.t [ok 0,ok 1])) (.b .o (.b .o (.l 1 0 (fun(s13:Int)=>⟨[.k 2,.p 6,.k 59,.p 2,.s (e_i64 s13),.p 78],[.o 0,.o 1]⟩) (fun(_:Unit)=>⟨[],[]⟩) [ok 0,ok 1] (.b (.b .o (.z 1 (.j 1 (fun(j19:(List GField))=>⟨[.k 2,.p 10,.s (e_s_GField j19),.p 57],[.o 0,.o 1,.o 2]⟩) (.b (.t [ok 0,ok 1,ok 2]) (.t [ok 0,ok 1,ok 2])) (.z 1 (.e 2 (fun(q:(Int × Int))=>⟨[.k 2,.p 10,.k 1,.p 78],[.o 0,.o 1,.o 2,.h 3 [.g [.s (e_i64 q.1),.s (e_i64 q.2)]]]⟩) (.b (.z 1 (.j 1 (fun(j22:Bool)=>⟨[.k 2,.p 89,.k 13,.s (e_bool j22),.p 43],[.o 0,.o 1,.o 2,.o 3]⟩) (.b (.t [ok 0,ok 1,ok 2,ok 3]) (.t [ok 0,ok 1,ok 2,ok 3])) (.b .o (.t [ok 0,ok 1,ok 2,ok 3])))) (.t [ok 0,ok 1,ok 2,ok 3])) (.z 1 (.j 1 (fun(j28:Bool)=>⟨[.k 2,.p 123,.s (e_bool j28),.p 22],[.o 0,.o 1,.o 2,.o 3]⟩) (.b (.t [ok 0,ok 1,ok 2,ok 3]) (.t [ok 0,ok 1,ok 2,ok 3])) (.b .o (.z 1 (.j 1 (fun(j32:Bool)=>⟨[.k 2,.p 9,.k 56,.p 58,.k 20,.s (e_bool j32),.p 2],[.o 0,.o 1]⟩) (.b (.t [ok 0,ok 1]) (.t [ok 0,ok 1])) (.b .o (.t [ok 0,ok 1])))))))))))) (.t [])) .o))))))))⟩
instance {t0 r}:Con (law_checkEnums t0=some r) (Den Tryz.prog 63 [e_GLaw t0] (e_GLawError r)):=⟨fun h=>by
 refine dk 34 xl ?_
 simp only[xl,Kf.of,zs,ze]
 unfold law_checkEnums at h
 exact pg @law_checkEnums_L1.eq_1 (.b .o (.l 1 0 (fun(s2:Int)=>⟨[.k 1,.p 6,.k 6,.p 2,.s (e_i64 s2),.p 19],[.o 0,.o 1]⟩) (fun(_:Unit)=>⟨[.k 2,.p 5],[.o 1]⟩) [ok 0,ok 1] (.b (.b .o (.t [ok 0,ok 1])) (.t [ok 1])) .o))⟩
end Go.Proofs.Dev
