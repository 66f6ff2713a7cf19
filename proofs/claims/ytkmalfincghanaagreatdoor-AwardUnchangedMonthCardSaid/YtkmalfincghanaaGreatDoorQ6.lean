/-
  Contracts of the functions: each answers as its plain partial function says.
-/
import Derived.Test.YtkmalfincghanaaGreatDoorK
import Derived.Test.YtkmalfincghanaaGreatDoorG
import Derived.Test.YtkmalfincghanaaGreatDoorPD
import Derived.Test.YtkmalfincghanaaGreatDoorH1
import Derived.Test.YtkmalfincghanaaGreatDoorH2
import Derived.Test.YtkmalfincghanaaGreatDoorQ0
import Derived.Test.YtkmalfincghanaaGreatDoorQ1
import Derived.Test.YtkmalfincghanaaGreatDoorQ2
import Derived.Test.YtkmalfincghanaaGreatDoorQ3
open List renaming drop_eq_nil_iff→tae
open List.cons renaming inj→uad
open Option renaming bind_some→haa
set_option linter.all false
set_option maxHeartbeats 1000000
set_option maxRecDepth 10000
namespace Go.Proofs.Dev
open Go Go.Tm
instance {t0 t1 r}:Con (Wb t0 t1=some r) (Den Tryz.prog 45 [sa t0,aa t1] (.tup [aa r.1,ba r.2])):=⟨fun h=>by
 refine dk 52 k45 ?_
 simp only[k45,Kf.of,zs,ze]
 unfold Wb at h
 exact pg @Ec.eq_1 (.l 2 1 (fun(q:(Int × Int))=>⟨[.p 4,.k 2,.p 1,.s (aa q.1),.s (aa q.2),.p 1],[]⟩) (fun(b9:Int)=>⟨[.p 4,.k 2,.p 1,.s (aa b9)],[]⟩) [] (.b (.b (.t []) (.t [])) (.t [])) (.j 1 (fun(j16:Bool)=>⟨[.k 4,.y 7,.s (ba j16)],[]⟩) (.b (.b (.b (.t []) (.t [])) (.t [])) (.t [])) .o))⟩
instance {t0 r}:Con (sf t0=some r) (Den Tryz.prog 126 [Al t0] (aa r)):=⟨fun h=>by
 refine dk 68 Q6 ?_
 simp only[Q6,Kf.of,zs,ze]
 unfold sf at h
 exact pg trivial (.b .o (.j 1 (fun(j3:Bool)=>⟨[.k 1,.p 1,.k 5,.s (ba j3),.p 61],[.o 0]⟩) (.b (.t [ok 0]) (.t [ok 0])) (.b .o (.j 1 (fun(j6:Bool)=>⟨[.k 1,.p 6,.k 9,.s (ba j6),.p 52],[.o 0]⟩) (.b (.t [ok 0]) (.t [ok 0])) (.b .o (.j 1 (fun(j9:Bool)=>⟨[.k 1,.p 15,.k 9,.s (ba j9),.p 43],[.o 0]⟩) (.b (.t [ok 0]) (.t [ok 0])) (.b .o (.b .o (.j 1 (fun(j14:Bool)=>⟨[.k 1,.p 24,.k 14,.s (ba j14),.p 29],[.o 0]⟩) (.b (.t [ok 0]) (.t [ok 0])) (.b .o (.j 1 (fun(j17:Bool)=>⟨[.k 1,.p 38,.k 9,.s (ba j17),.p 20],[.o 0]⟩) (.b (.t [ok 0]) (.t [ok 0])) (.b .o (.j 1 (fun(j20:Bool)=>⟨[.k 59,.s (ba j20),.p 9],[]⟩) (.b (.t []) (.t [])) .o)))))))))))))⟩
theorem Hm{t0 r} (h:Ra t0=some r):Den Tryz.prog 156 [Eh t0] (ba r):=by
 refine dk 26 F2 ?_
 simp only[F2,Kf.of,zs,ze]
 unfold Ra at h
 exact pg trivial (.z 1 (.j 1 (fun(j9:Bool)=>⟨[.k 2,.s (ba j9),.p 24],[]⟩) (.b (.b (.b (.b (.t []) (.t [])) (.t [])) (.t [])) (.t [])) .o))
instance {t0 r}:Con (Ra t0=some r) (Den Tryz.prog 156 [Eh t0] (ba r)):=⟨Hm⟩
instance {t0 c10 r}:Con (Ma t0 (fun x900=>Ue x900 c10)=some r) (Den Tryz.prog 196 [Uf t0,.fn 197 [] [nn c10]] (ba r)):=⟨fun h=>rj (q1:=[nn c10]) (Vz Rx) (fun x900 _ hb=>Fp hb) h⟩
theorem Ez{t0 t1 r} (h:zi t0 t1=some r):Den Tryz.prog 157 [Uf t0,Eh t1] (ba r):=by
 refine dk 6 M0 ?_
 simp only[M0,Kf.of,zs,ze]
 unfold zi at h
 exact pg trivial .o
instance {t0 t1 r}:Con (zi t0 t1=some r) (Den Tryz.prog 157 [Uf t0,Eh t1] (ba r)):=⟨Ez⟩
instance {t0 c10 r}:Con (Ja t0 (fun x900=>Xd x900 c10)=some r) (Den Tryz.prog 198 [Bi t0,.fn 199 [] [nn c10]] (ba r)):=⟨fun h=>Di (q1:=[nn c10]) (Vz Rx) (fun x900 _ hb=>bp hb) h⟩
theorem jy{t0 t1 r} (h:Ti t0 t1=some r):Den Tryz.prog 158 [Bi t0,Eh t1] (ba r):=by
 refine dk 6 L5 ?_
 simp only[L5,Kf.of,zs,ze]
 unfold Ti at h
 exact pg trivial .o
instance {t0 t1 r}:Con (Ti t0 t1=some r) (Den Tryz.prog 158 [Bi t0,Eh t1] (ba r)):=⟨jy⟩
instance {t0 t1 t2 r}:Con (ja t0 t1 t2=some r) (Den Tryz.prog 279 [ob t0,Wa t1,ik t2] (ba r)):=⟨fun h=>by
 refine dk 130 X7 ?_
 simp only[X7,Kf.of,zs,ze]
 unfold ja at h
 exact pg trivial (.b .o (.b .o (.b (.z 1 (.j 1 (fun(j13:Bool)=>⟨[.k 6,.s (ba j13)],[]⟩) (.b (.b (.t []) (.t [])) (.t [])) .o)) (.b (.z 1 (.j 1 (fun(j19:Bool)=>⟨[.k 6,.s (ba j19),.p 1],[]⟩) (.b (.b (.t []) (.t [])) (.t [])) .o)) (.j 1 (fun(j23:Bool)=>⟨[.k 1,.p 1,.k 1,.p 3,.k 75,.s (ba j23),.p 51],[.o 0,.o 1]⟩) (.b (.t [ok 0,ok 1]) (.b (.t [ok 0,ok 1]) (.b (.t [ok 0,ok 1]) (.t [ok 0,ok 1])))) (.b .o (.b .o (.b .o (.b (.j 1 (fun(j40:Bool)=>⟨[.k 6,.s (ba j40),.p 74],[]⟩) (.b (.t []) (.t [])) .o) .o)))))))))⟩
instance {t0 t1 r}:Con (Qf t0 t1=some r) (Den Tryz.prog 306 [ob t0,ik t1] (.tup [pa r.1,aa r.2])):=⟨fun h=>by
 refine dk 111 F7 ?_
 simp only[F7,Kf.of,zs,ze]
 unfold Qf at h
 exact pg @Jh.eq_1 (.z 3 (.j 1 (fun(j3:Int)=>⟨[.k 2,.p 3,.k 1,.p 5],[.o 0,.o 1,.o 2,.o 3,.h 4 [.g [.p 2,.s (aa j3)]]]⟩) (.b (.t [ok 0,ok 1,ok 2,ok 3,ok 4]) (.t [ok 0,ok 1,ok 2,ok 3,ok 4])) (.z 1 (.j 1 (fun(j5:Bool)=>⟨[.k 2,.p 32,.s (ba j5),.p 78],[.o 0,.o 1,.o 2,.o 3,.o 4]⟩) (.b (.t [ok 0,ok 1,ok 2,ok 3,ok 4]) (.t [ok 0,ok 1,ok 2,ok 3,ok 4])) (.b .o (.l 4 3 (fun(q:(Int × Int × Int × Int))=>⟨[.k 2,.p 1,.k 1,.p 30,.k 3,.p 2,.s (aa q.2.2.2),.p 73],[.o 0,.o 2,.o 3,.h 4 [.g [.s (aa q.1),.s (aa q.2.1),.s (aa q.2.2.1)]]]⟩) (fun(q:(Int × Int × Int))=>⟨[.k 4,.p 2,.k 1,.p 27],[.o 2,.h 4 [.g [.s (aa q.1),.s (aa q.2.1),.s (aa q.2.2)]]]⟩) [ok 0,ok 2,ok 3,ok 4] (.b (.e 3 (fun(q:(Int × Int × Int))=>⟨[.k 2,.p 38],[.o 0,.o 1,.o 2,.h 3 [.g [.s (aa q.1),.s (aa q.2.1),.s (aa q.2.2)]]]⟩) (.z 2 (.j 1 (fun(j15:Bool)=>⟨[.k 2,.p 38,.k 17,.s (ba j15),.p 55],[.o 0,.o 1,.o 2,.o 3]⟩) (.b (.t [ok 0,ok 1,ok 2,ok 3]) (.t [ok 0,ok 1,ok 2,ok 3])) (.b .o (.b .o (.b (.b .o (.t [ok 0,ok 1,ok 2,ok 3])) (.b (.t [ok 0,ok 1,ok 2,ok 3]) (.b (.t [ok 0,ok 1,ok 2,ok 3]) (.b (.j 1 (fun(j27:Bool)=>⟨[.k 2,.p 6,.k 2,.p 47,.k 52,.s (ba j27),.p 3],[.o 0,.o 1,.o 2,.o 3,.o 4]⟩) (.b (.t [ok 0,ok 1,ok 2,ok 3,ok 4]) (.t [ok 0,ok 1,ok 2,ok 3,ok 4])) (.b (.t [ok 0,ok 1,ok 2,ok 3]) (.t [ok 0,ok 1,ok 2,ok 3]))) (.t [ok 0,ok 1,ok 2,ok 3]))))))))) (.t [ok 0,ok 1,ok 2,ok 3])) (.t [ok 1,ok 3])) .o))))))⟩
instance {t0 t1 r}:Con (Qi t0 t1=some r) (Den Tryz.prog 27 [xa t0,sa t1] (ei r)):=⟨fun h=>by
 refine dk 48 k27 ?_
 simp only[k27,Kf.of,zs,ze]
 unfold Qi at h
 exact pg @Bl.eq_1 (.l 3 2 (fun(q:(Int × (List GDateRange) × Int))=>⟨[.k 1,.p 3,.k 1,.s (.own 1 0),.s (aa q.2.2)],[.h 0 [.g [.s (aa q.1),.p 1]],.n 2 ((q.2.1.map xa))]⟩) (fun(q:(Int × (List GDateRange)))=>⟨[.k 2,.p 2,.k 1,.s (.own 1 0)],[.h 0 [.g [.s (aa q.1),.p 1]],.n 2 ((q.2.map xa))]⟩) [ok 0,on 2] (.z 1 (.j 1 (fun(j7:Bool)=>⟨[.k 1,.p 27,.s (ba j7),.p 21],[.o 0,.o 1]⟩) (.b (.t [ok 0,ok 1]) (.t [ok 0,ok 1])) (.b (.t [ok 0,ov 1 1]) (.t [ok 0,ok 1])))) .o)⟩
noncomputable def JJ(t0:List GFact):((List (Int×Bool))×Int)→Option (Ex ((List (Int×Bool))×Int) Unit (Int×Int)):=fun(s1,s2)=>
 if s2<(t0.length:Int)then
  (idx t0 s2).bind fun x3=>
  (sf x3).bind fun x4=>
  if¬x4=0 then
   some (Ex.ret (s2,x4))
  else
  if(sO s1 x3.Id).getD false=true then
   some (Ex.ret (s2,7))
  else
  some (Ex.go ((BU x3.Id true s1),(ca .i64 (s2+1))))
 else
 some (Ex.brk ())
noncomputable def uW(t0:List GFact):Option (Int×Int):=
 if 128<(t0.length:Int)then
  some (0,4)
 else
 (ia (JJ t0) (([]:List (Int×Bool)),0)).bind fun y=>match y with
 |.inr v=>some v
 |.inl ()=>
 some (0,0)
theorem PV{m:List Ent}{o:Option Bool}:IP false (.v (.bool false)) m (o.map ba)=some (.v (.bool (o.getD false)),m):=by cases o<;>rfl
theorem PZ{k:Int}{b:Bool}{l:List (Int×Bool)}:Uw (.int .i64 k) (.v (.bool b)) (em ba l)=em ba (BU k b l):=iN (e:=ba)
theorem KQ{t0 r}(h:uW t0=some r):Den Tryz.prog 75 [Jk t0] (.tup [aa r.1,aa r.2]):=by
 refine dk 33 k75 ?_;simp only[k75,Kf.of,zs,ze];unfold uW at h;have q1:=@PV;have q2:=@PZ;have q3:=fun l=>OP (e:=ba) (l:=l);exact pg @JJ.eq_1 (.b .o (.l 2 0 (fun(q:((List (Int×Bool))×Int))=>⟨[.p 14,.s (aa q.2)],[.m 0 (em ba q.1)]⟩) (fun(_:Unit)=>⟨[],[]⟩) [ok 0] (.b (.b .o (.b .o (.t [ok 0]))) (.t [])) .o))
theorem XH{k:Int}{x:Bool}{q:Int}:∀{l:List (Int×Bool)},sO (BU k x l) q=if q=k then some x else sO l q
 |[]=>rfl
 |(a,b)::l=>by
  unfold BU;split
  ·rename_i h;subst h;simp only[sO];split<;>rfl
  ·rename_i h;simp only[sO,XH (l:=l)];by_cases h1:q=k
   ·rw[if_pos h1,if_pos h1,if_neg (by omega)]
   ·rw[if_neg h1,if_neg h1]
theorem KP{t0:List GFact}(hl:t0.length≤128) {r:Int×Int}:∀(l:List GFact) (i:Nat) (seen:List Int) (s:List (Int×Bool)),t0.drop i=l→(∀x,seen.contains x=(sO s x).getD false)→Ld (i:Int) seen l=some r→
 ((
  ia (JJ t0) (s,(i:Int))).bind fun y=>match y with
  |.inr v=>some v
  |.inl ()=>some (0,0))=some r
 |[],i,seen,s,hd,hs,h=>by
  unfold Ld at h;have hi:t0.length≤i:=tae.1 hd;rw[Nb (b:=()) (by unfold JJ;dsimp only;rw[if_neg (by omega)])];exact h
 |f::l,i,seen,s,hd,hs,h=>by
  have hi:i<t0.length:=by
   by_cases hc:i<t0.length
   ·exact hc
   ·rw[tae.2 (by omega)]at hd;cases hd
  have hf:t0[i]=f∧t0.drop (i+1)=l:=by
   rw[List.drop_eq_getElem_cons hi]at hd;exact⟨(uad hd).1,(uad hd).2⟩
  unfold Ld at h
  cases hc:sf f with
  |none=>rw[hc]at h;cases h
  |some c=>
   rw[hc]at h;have st:JJ t0 (s,(i:Int))=if¬c=0 then some (.ret ((i:Int),c))else if(sO s f.Id).getD false=true then some (.ret ((i:Int),7))else some (.go (BU f.Id true s,ca .i64 ((i:Int)+1))):=by
    unfold JJ;dsimp only;rw[if_pos (by omega),Na hi,hf.1,haa,hc,haa]
   simp only[haa]at h;by_cases h0:c=0
   ·rw[if_neg (Classical.not_not.2 h0)]at h st;rw[hs f.Id]at h;by_cases h1:(sO s f.Id).getD false=true
    ·rw[if_pos h1]at h st;rw[Sl st];exact h
    ·rw[if_neg h1]at h st;rw[La (by omega)]at st;rw[Xe st];refine KP hl l (i+1) (f.Id::seen) _ hf.2 (fun x=>?_) (by rw[←h];congr 1);rw[XH,List.contains_cons,hs x];by_cases hx:x=f.Id
     ·rw[if_pos hx];simp[hx]
     ·rw[if_neg hx];have:(x==f.Id)=false:=by simpa using hx
      rw[this,Bool.false_or]
   ·rw[if_pos h0]at h st;rw[Sl st];exact h
theorem sv{t0 r}(h:Vh t0=some r):Den Tryz.prog 75 [Jk t0] (.tup [aa r.1,aa r.2]):=by
 refine KQ ?_;unfold Vh at h;unfold uW;split at h
 ·rename_i hc;rw[if_pos hc];exact h
 ·rename_i hc;rw[if_neg hc];exact KP (by omega) t0 0 [] [] rfl (fun x=>rfl) h
instance {t0 r}:Con (Vh t0=some r) (Den Tryz.prog 75 [Jk t0] (.tup [aa r.1,aa r.2])):=⟨sv⟩
instance {t0 t1 t2 r}:Con (Yk t0 t1 t2=some r) (Den Tryz.prog 154 [Zb t0,aa t1,Dg t2] (.tup [aa r.1,aa r.2])):=⟨fun h=>by
 refine dk 52 a8 ?_
 simp only[a8,Kf.of,zs,ze]
 unfold Yk at h
 exact pg @Oh.eq_1 (.b .o (.b .o (.b .o (.b .o (.l 1 0 (fun(s8:Int)=>⟨[.k 5,.p 1,.k 28,.p 2,.s (aa s8),.p 18],[.o 1]⟩) (fun(_:Unit)=>⟨[],[]⟩) [ok 1] (.b (.b .o (.b .o (.t [ok 0]))) (.t [])) .o)))))⟩
instance {t0 c10 r}:Con (Ba t0 (fun x900=>Vb x900 c10)=some r) (Den Tryz.prog 234 [Va t0,.fn 233 [] [an c10]] (ba r)):=⟨fun h=>Ei (q1:=[an c10]) (Vz Rx) (fun x900 _ hb=>vn hb) h⟩
theorem Ov{t0 t1 t2 t3 r} (h:eg t0 t1 t2 t3=some r):Den Tryz.prog 202 [Zb t0,Ua t1,Va t2,Va t3] (aa r):=by
 refine dk 28 F0 ?_
 simp only[F0,Kf.of,zs,ze]
 unfold eg at h
 exact pg trivial (.b .o (.j 1 (fun(j6:Bool)=>⟨[.k 4,.p 4,.k 8,.s (ba j6),.p 15],[.o 0,.o 1]⟩) (.b (.t [ok 0,ok 1]) (.t [ok 0,ok 1])) .o))
instance {t0 t1 t2 t3 r}:Con (eg t0 t1 t2 t3=some r) (Den Tryz.prog 202 [Zb t0,Ua t1,Va t2,Va t3] (aa r)):=⟨Ov⟩
instance {t0 t1 r}:Con (Ce t0 t1=some r) (Den Tryz.prog 43 [Zb t0,Sa t1] (.tup [aa r.1,aa r.2])):=⟨fun h=>by
 refine dk 146 k43 ?_
 simp only[k43,Kf.of,zs,ze]
 unfold Ce at h
 exact pg @je.eq_1 (.z 2 (.j 1 (fun(j2:Bool)=>⟨[.k 2,.p 2,.k 22,.s (ba j2),.p 121],[.o 0,.o 1]⟩) (.b (.t [ok 0,ok 1]) (.t [ok 0,ok 1])) (.b .o (.z 2 (.j 1 (fun(j9:Bool)=>⟨[.k 2,.p 5,.k 48,.s (ba j9),.p 92],[.o 0,.o 1]⟩) (.b (.b (.b (.b (.t [ok 0,ok 1]) (.t [ok 0,ok 1])) (.t [ok 0,ok 1])) (.t [ok 0,ok 1])) (.t [ok 0,ok 1])) (.b .o (.b .o (.l 1 0 (fun(s13:Int)=>⟨[.k 2,.p 6,.k 59,.p 2,.s (aa s13),.p 78],[.o 0,.o 1]⟩) (fun(_:Unit)=>⟨[],[]⟩) [ok 0,ok 1] (.b (.b .o (.z 1 (.j 1 (fun(j19:(List GField))=>⟨[.k 2,.p 10,.s (Va j19),.p 57],[.o 0,.o 1,.o 2]⟩) (.b (.t [ok 0,ok 1,ok 2]) (.t [ok 0,ok 1,ok 2])) (.z 1 (.e 2 (fun(q:(Int × Int))=>⟨[.k 2,.p 10,.k 1,.p 78],[.o 0,.o 1,.o 2,.h 3 [.g [.s (aa q.1),.s (aa q.2)]]]⟩) (.b (.z 1 (.j 1 (fun(j22:Bool)=>⟨[.k 2,.p 89,.k 13,.s (ba j22),.p 43],[.o 0,.o 1,.o 2,.o 3]⟩) (.b (.t [ok 0,ok 1,ok 2,ok 3]) (.t [ok 0,ok 1,ok 2,ok 3])) (.b .o (.t [ok 0,ok 1,ok 2,ok 3])))) (.t [ok 0,ok 1,ok 2,ok 3])) (.z 1 (.j 1 (fun(j28:Bool)=>⟨[.k 2,.p 123,.s (ba j28),.p 22],[.o 0,.o 1,.o 2,.o 3]⟩) (.b (.t [ok 0,ok 1,ok 2,ok 3]) (.t [ok 0,ok 1,ok 2,ok 3])) (.b .o (.z 1 (.j 1 (fun(j32:Bool)=>⟨[.k 2,.p 9,.k 56,.p 58,.k 20,.s (ba j32),.p 2],[.o 0,.o 1]⟩) (.b (.t [ok 0,ok 1]) (.t [ok 0,ok 1])) (.b .o (.t [ok 0,ok 1])))))))))))) (.t [])) .o))))))))⟩
instance {t0 r}:Con (Am t0=some r) (Den Tryz.prog 116 [Zb t0] (vi r)):=⟨fun h=>by
 refine dk 34 U1 ?_
 simp only[U1,Kf.of,zs,ze]
 unfold Am at h
 exact pg @mh.eq_1 (.b .o (.l 1 0 (fun(s2:Int)=>⟨[.k 1,.p 6,.k 6,.p 2,.s (aa s2),.p 19],[.o 0,.o 1]⟩) (fun(_:Unit)=>⟨[.k 2,.p 5],[.o 1]⟩) [ok 0,ok 1] (.b (.b .o (.t [ok 0,ok 1])) (.t [ok 1])) .o))⟩
end Go.Proofs.Dev
