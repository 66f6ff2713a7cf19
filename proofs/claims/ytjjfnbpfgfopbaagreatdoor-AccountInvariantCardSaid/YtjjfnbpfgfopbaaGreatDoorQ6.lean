/-
  Contracts of the functions: each answers as its plain partial function says.
-/
import Derived.Test.YtjjfnbpfgfopbaaGreatDoorK
import Derived.Test.YtjjfnbpfgfopbaaGreatDoorG
import Derived.Test.YtjjfnbpfgfopbaaGreatDoorPE
import Derived.Test.YtjjfnbpfgfopbaaGreatDoorH1
import Derived.Test.YtjjfnbpfgfopbaaGreatDoorH2
import Derived.Test.YtjjfnbpfgfopbaaGreatDoorL1
import Derived.Test.YtjjfnbpfgfopbaaGreatDoorQ0
import Derived.Test.YtjjfnbpfgfopbaaGreatDoorQ1
import Derived.Test.YtjjfnbpfgfopbaaGreatDoorQ2
import Derived.Test.YtjjfnbpfgfopbaaGreatDoorQ3
open List renaming drop_eq_nil_iff->aae
open List.cons renaming inj->Kae
open Option renaming bind_some->naa
set_option linter.all false
set_option maxHeartbeats 1000000
set_option maxRecDepth 10000
namespace Go.Proofs.Dev
open Go Go.Tm
instance zI140{t0 r}:Con (yg t0=some r) (Den Tryz.prog 110 [sb t0] (aa r)):=⟨λh=>by
 refine dk 68 k110 ?_
 simp only[k110,Kf.of,zs,ze]
 unfold yg at h
 exact pg trivial (.b .o (.j 1 (λ(j3:Bool)=>⟨[.k 1,.p 1,.k 5,.s (ba j3),.p 61],[.o 0]⟩) (.b (.t [ok 0]) (.t [ok 0])) (.b .o (.j 1 (λ(j6:Bool)=>⟨[.k 1,.p 6,.k 9,.s (ba j6),.p 52],[.o 0]⟩) (.b (.t [ok 0]) (.t [ok 0])) (.b .o (.j 1 (λ(j9:Bool)=>⟨[.k 1,.p 15,.k 9,.s (ba j9),.p 43],[.o 0]⟩) (.b (.t [ok 0]) (.t [ok 0])) (.b .o (.b .o (.j 1 (λ(j14:Bool)=>⟨[.k 1,.p 24,.k 14,.s (ba j14),.p 29],[.o 0]⟩) (.b (.t [ok 0]) (.t [ok 0])) (.b .o (.j 1 (λ(j17:Bool)=>⟨[.k 1,.p 38,.k 9,.s (ba j17),.p 20],[.o 0]⟩) (.b (.t [ok 0]) (.t [ok 0])) (.b .o (.j 1 (λ(j20:Bool)=>⟨[.k 59,.s (ba j20),.p 9],[]⟩) (.b (.t []) (.t [])) .o)))))))))))))⟩
instance zI141{t0 t1 t2 t3 t4 r}:Con (zm t0 t1 t2 t3 t4=some r) (Den Tryz.prog 168 [Pd t0,aa t1,aa t2,aa t3,aa t4] (.tup [ra r.1,ba r.2])):=⟨λh=>by
 refine dk 60 k168 ?_
 simp only[k168,Kf.of,zs,ze]
 unfold zm at h
 exact pg @Gn.eq_1 (.l 2 1 (λ(q:(Int × Int))=>⟨[.p 11,.k 1,.s (aa q.1),.p 4,.s (aa q.2),.p 47],[.o 0]⟩) (λ(b19:Int)=>⟨[.p 1,.k 9,.p 1,.k 1,.s (aa b19),.p 2],[.o 0]⟩) [ok 0] (.b (.j 1 (λ(j16:Int)=>⟨[.p 12,.s (aa j16),.p 5],[.o 0]⟩) (.z 2 (.j 1 (λ(j9:Bool)=>⟨[.p 18,.k 26,.s (ba j9),.p 20],[.o 0,.o 1]⟩) (.b (.b (.b (.t [ok 0,ok 1]) (.t [ok 0,ok 1])) (.t [ok 0,ok 1])) (.t [ok 0,ok 1])) (.b (.t [ok 0]) (.j 1 (λ(j14:Bool)=>⟨[.p 14,.k 1,.p 29,.k 10,.s (ba j14),.p 10],[.o 0]⟩) (.b (.t [ok 0]) (.t [ok 0])) (.b (.t [ok 0]) (.t [ok 0])))))) (.t [ok 0])) (.t [ok 0])) .o)⟩
instance zI142{t0 t1 r}:Con (lj t0 t1=some r) (Den Tryz.prog 205 [za t0,za t1] (.tup [za r.1,ba r.2])):=⟨λh=>by
 refine dk 32 k205 ?_
 simp only[k205,Kf.of,zs,ze]
 unfold lj at h
 exact pg trivial (.z 2 (.j 1 (λ(j4:Bool)=>⟨[.k 2,.p 3,.k 9,.s (ba j4),.p 19],[.o 0,.o 1,.o 2]⟩) (.b (.t [ok 0,ok 1,ok 2]) (.t [ok 0,ok 1,ok 2])) .o))⟩
instance zI143{t0 r}:Con (Kq t0=some r) (Den Tryz.prog 226 [Zh t0] (.tup [ua r.1,aa r.2])):=⟨λh=>by
 refine dk 14 k226 ?_
 simp only[k226,Kf.of,zs,ze]
 unfold Kq at h
 exact pg trivial .o⟩
instance zI144{t0 t1 t2 r}:Con (qa t0 t1 t2=some r) (Den Tryz.prog 254 [Sb t0,Db t1,tm t2] (ba r)):=⟨λh=>by
 refine dk 130 k254 ?_
 simp only[k254,Kf.of,zs,ze]
 unfold qa at h
 exact pg trivial (.b .o (.b .o (.b (.z 1 (.j 1 (λ(j13:Bool)=>⟨[.k 6,.s (ba j13)],[]⟩) (.b (.b (.t []) (.t [])) (.t [])) .o)) (.b (.z 1 (.j 1 (λ(j19:Bool)=>⟨[.k 6,.s (ba j19),.p 1],[]⟩) (.b (.b (.t []) (.t [])) (.t [])) .o)) (.j 1 (λ(j23:Bool)=>⟨[.k 1,.p 1,.k 1,.p 3,.k 75,.s (ba j23),.p 51],[.o 0,.o 1]⟩) (.b (.t [ok 0,ok 1]) (.b (.t [ok 0,ok 1]) (.b (.t [ok 0,ok 1]) (.t [ok 0,ok 1])))) (.b .o (.b .o (.b .o (.b (.j 1 (λ(j40:Bool)=>⟨[.k 6,.s (ba j40),.p 74],[]⟩) (.b (.t []) (.t [])) .o) .o)))))))))⟩
instance zI145{t0 t1 t2 r}:Con (xe t0 t1 t2=some r) (Den Tryz.prog 258 [aa t0,aa t1,Oa t2] (.tup [vb r.1,aa r.2])):=⟨λh=>by
 refine dk 27 k258 ?_
 simp only[k258,Kf.of,zs,ze]
 unfold xe at h
 exact pg trivial (.z 4 (.j 1 (λ(j3:Bool)=>⟨[.k 6,.p 1,.k 1,.p 1,.k 18,.s (ba j3),.p 2],[.o 1,.o 2]⟩) (.b (.t [ok 1,ok 2]) (.t [ok 1,ok 2])) .o))⟩
instance zI146{t0 t1 r}:Con (di t0 t1=some r) (Den Tryz.prog 262 [Sb t0,Oa t1] (.tup [vb r.1,aa r.2])):=⟨λh=>by
 refine dk 60 k262 ?_
 simp only[k262,Kf.of,zs,ze]
 unfold di at h
 exact pg trivial (.b .o (.b .o (.b .o (.z 1 (.j 1 (λ(j13:Bool)=>⟨[.k 4,.p 1,.k 1,.p 1,.k 1,.s (ba j13)],[.o 2,.o 3]⟩) (.b (.b (.t [ok 2,ok 3]) (.t [ok 2,ok 3])) (.j 1 (λ(j8:Bool)=>⟨[.k 4,.p 1,.k 1,.p 1,.k 1,.p 1,.k 22,.p 1,.k 10,.s (ba j8),.p 19],[.o 2,.o 3]⟩) (.b (.t [ok 2,ok 3]) (.t [ok 2,ok 3])) (.b (.t [ok 0,ok 1]) (.b (.b (.t [ok 0,ok 1]) (.t [ok 0,ok 1])) (.t [ok 0,ok 1]))))) .o)))))⟩
instance zI147{t0 t1 r}:Con (lh t0 t1=some r) (Den Tryz.prog 271 [Sb t0,tm t1] (.tup [ra r.1,aa r.2])):=⟨λh=>by
 refine dk 111 k271 ?_
 simp only[k271,Kf.of,zs,ze]
 unfold lh at h
 exact pg @pj.eq_1 (.z 3 (.j 1 (λ(j3:Int)=>⟨[.k 2,.p 3,.k 1,.p 5],[.o 0,.o 1,.o 2,.o 3,.h 4 [.g [.p 2,.s (aa j3)]]]⟩) (.b (.t [ok 0,ok 1,ok 2,ok 3,ok 4]) (.t [ok 0,ok 1,ok 2,ok 3,ok 4])) (.z 1 (.j 1 (λ(j5:Bool)=>⟨[.k 2,.p 32,.s (ba j5),.p 78],[.o 0,.o 1,.o 2,.o 3,.o 4]⟩) (.b (.t [ok 0,ok 1,ok 2,ok 3,ok 4]) (.t [ok 0,ok 1,ok 2,ok 3,ok 4])) (.b .o (.l 4 3 (λ(q:(Int × Int × Int × Int))=>⟨[.k 2,.p 1,.k 1,.p 30,.k 3,.p 2,.s (aa q.2.2.2),.p 73],[.o 0,.o 2,.o 3,.h 4 [.g [.s (aa q.1),.s (aa q.2.1),.s (aa q.2.2.1)]]]⟩) (λ(q:(Int × Int × Int))=>⟨[.k 4,.p 2,.k 1,.p 27],[.o 2,.h 4 [.g [.s (aa q.1),.s (aa q.2.1),.s (aa q.2.2)]]]⟩) [ok 0,ok 2,ok 3,ok 4] (.b (.e 3 (λ(q:(Int × Int × Int))=>⟨[.k 2,.p 38],[.o 0,.o 1,.o 2,.h 3 [.g [.s (aa q.1),.s (aa q.2.1),.s (aa q.2.2)]]]⟩) (.z 2 (.j 1 (λ(j15:Bool)=>⟨[.k 2,.p 38,.k 17,.s (ba j15),.p 55],[.o 0,.o 1,.o 2,.o 3]⟩) (.b (.t [ok 0,ok 1,ok 2,ok 3]) (.t [ok 0,ok 1,ok 2,ok 3])) (.b .o (.b .o (.b (.b .o (.t [ok 0,ok 1,ok 2,ok 3])) (.b (.t [ok 0,ok 1,ok 2,ok 3]) (.b (.t [ok 0,ok 1,ok 2,ok 3]) (.b (.j 1 (λ(j27:Bool)=>⟨[.k 2,.p 6,.k 2,.p 47,.k 52,.s (ba j27),.p 3],[.o 0,.o 1,.o 2,.o 3,.o 4]⟩) (.b (.t [ok 0,ok 1,ok 2,ok 3,ok 4]) (.t [ok 0,ok 1,ok 2,ok 3,ok 4])) (.b (.t [ok 0,ok 1,ok 2,ok 3]) (.t [ok 0,ok 1,ok 2,ok 3]))) (.t [ok 0,ok 1,ok 2,ok 3]))))))))) (.t [ok 0,ok 1,ok 2,ok 3])) (.t [ok 1,ok 3])) .o))))))⟩
noncomputable def aS(t0:List GFact):((List (Int×Bool))×Int)->Option (Ex ((List (Int×Bool))×Int) Unit (Int×Int)):=λ(s1,s2)=>
 if s2<(t0.length:Int)then
  (idx t0 s2).bind λx3=>
  (yg x3).bind λx4=>
  if¬x4=0 then
   some (Ex.ret (s2,x4))
  else
  if(wy s1 x3.Id).getD false=true then
   some (Ex.ret (s2,7))
  else
  some (Ex.go ((CG x3.Id true s1),(ca .i64 (s2+1))))
 else
 some (Ex.brk ())
noncomputable def valM(t0:List GFact):Option (Int×Int):=
 if 128<(t0.length:Int)then
  some (0,4)
 else
 (ja (aS t0) (([]:List (Int×Bool)),0)).bind λy=>match y with
 |.inr v=>some v
 |.inl ()=>
 some (0,0)
theorem look_b{m:List Ent}{o:Option Bool}:Yz false (.v (.bool false)) m (o.map ba)=some (.v (.bool (o.getD false)),m):=by cases o<;>rfl
theorem put_b{k:Int}{b:Bool}{l:List (Int×Bool)}:Xq (.int .i64 k) (.v (.bool b)) (em ba l)=em ba (CG k b l):=SI (e:=ba)
theorem W4{t0 r}(h:valM t0=some r):Den Tryz.prog 77 [Pd t0] (.tup [aa r.1,aa r.2]):=by
 refine dk 33 k77 ?_;simp only[k77,Kf.of,zs,ze];unfold valM at h;have q1:=@look_b;have q2:=@put_b;have q3:=λl=>AI (e:=ba) (l:=l);exact pg @aS.eq_1 (.b .o (.l 2 0 (λ(q:((List (Int×Bool))×Int))=>⟨[.p 14,.s (aa q.2)],[.m 0 (em ba q.1)]⟩) (λ(_:Unit)=>⟨[],[]⟩) [ok 0] (.b (.b .o (.b .o (.t [ok 0]))) (.t [])) .o))
theorem RO{k:Int}{x:Bool}{q:Int}:∀{l:List (Int×Bool)},wy (CG k x l) q=if q=k then some x else wy l q
 |[]=>rfl
 |(a,b)::l=>by
  unfold CG;split
  .rename_i h;subst h;simp only[wy];split<;>rfl
  .rename_i h;simp only[wy,RO (l:=l)];by_cases h1:q=k
   .rw[if_pos h1,if_pos h1,if_neg (by omega)]
   .rw[if_neg h1,if_neg h1]
theorem vX{t0:List GFact}(hl:t0.length<=128) {r:Int×Int}:∀(l:List GFact) (i:Nat) (seen:List Int) (s:List (Int×Bool)),t0.drop i=l->(∀x,seen.contains x=(wy s x).getD false)->Oe (i:Int) seen l=some r->
 ((
  ja (aS t0) (s,(i:Int))).bind λy=>match y with
  |.inr v=>some v
  |.inl ()=>some (0,0))=some r
 |[],i,seen,s,hd,hs,h=>by
  unfold Oe at h;have hi:t0.length<=i:=aae.1 hd;rw[Gb (b:=()) (by unfold aS;dsimp only;rw[if_neg (by omega)])];exact h
 |f::l,i,seen,s,hd,hs,h=>by
  have hi:i<t0.length:=by
   by_cases hc:i<t0.length
   .exact hc
   .rw[aae.2 (by omega)]at hd;cases hd
  have hf:t0[i]=f/\t0.drop (i+1)=l:=by
   rw[List.drop_eq_getElem_cons hi]at hd;exact⟨(Kae hd).1,(Kae hd).2⟩
  unfold Oe at h
  cases hc:yg f with
  |none=>rw[hc]at h;cases h
  |some c=>
   rw[hc]at h;have st:aS t0 (s,(i:Int))=if¬c=0 then some (.ret ((i:Int),c))else if(wy s f.Id).getD false=true then some (.ret ((i:Int),7))else some (.go (CG f.Id true s,ca .i64 ((i:Int)+1))):=by
    unfold aS;dsimp only;rw[if_pos (by omega),Pa hi,hf.1,naa,hc,naa]
   simp only[naa]at h;by_cases h0:c=0
   .rw[if_neg (Classical.not_not.2 h0)]at h st;rw[hs f.Id]at h;by_cases h1:(wy s f.Id).getD false=true
    .rw[if_pos h1]at h st;rw[aq st];exact h
    .rw[if_neg h1]at h st;rw[Ha (by omega)]at st;rw[ud st];refine vX hl l (i+1) (f.Id::seen) _ hf.2 (λx=>?_) (by rw[←h];congr 1);rw[RO,List.contains_cons,hs x];by_cases hx:x=f.Id
     .rw[if_pos hx];simp[hx]
     .rw[if_neg hx];have:(x==f.Id)=false:=by simpa using hx
      rw[this,Bool.false_or]
   .rw[if_pos h0]at h st;rw[aq st];exact h
theorem Hz{t0 r}(h:Gj t0=some r):Den Tryz.prog 77 [Pd t0] (.tup [aa r.1,aa r.2]):=by
 refine W4 ?_;unfold Gj at h;unfold valM;split at h
 .rename_i hc;rw[if_pos hc];exact h
 .rename_i hc;rw[if_neg hc];exact vX (by omega) t0 0 [] [] rfl (λx=>rfl) h
instance zI148{t0 r}:Con (Gj t0=some r) (Den Tryz.prog 77 [Pd t0] (.tup [aa r.1,aa r.2])):=⟨Hz⟩
instance zI149{t0 t1 t2 t3 t4 r}:Con (je t0 t1 t2 t3 t4=some r) (Den Tryz.prog 143 [Pd t0,aa t1,aa t2,aa t3,aa t4] (.tup [Db r.1,ba r.2])):=⟨λh=>by
 refine dk 35 k143 ?_
 simp only[k143,Kf.of,zs,ze]
 unfold je at h
 exact pg @Qd.eq_1 (.l 2 1 (λ(q:((List GValue) × Int))=>⟨[.p 2,.k 1,.p 7,.k 2,.p 4,.k 3,.p 1,.s (aa q.2),.p 19],[.c 0 ((q.1.map ra))]⟩) (λ(b11:(List GValue))=>⟨[.k 12,.p 4],[.c 0 ((b11.map ra))]⟩) [ok 0] (.b (.b .o (.t [ok 0])) (.t [ok 0])) .o)⟩
instance zI150{t0 t1 t2 r}:Con (Kg t0 t1 t2=some r) (Den Tryz.prog 144 [ub t0,aa t1,aa t2] (ua r)):=⟨λh=>by
 refine dk 41 k144 ?_
 simp only[k144,Kf.of,zs,ze]
 unfold Kg at h
 exact pg @Pe.eq_1 (.l 2 1 (λ(q:((List Int) × Int))=>⟨[.k 1,.p 5,.k 1,.s (.own 1 0),.p 3,.k 3,.p 1,.s (aa q.2),.p 28],[.o 0,.n 1 ((q.1.map aa))]⟩) (λ(b13:(List Int))=>⟨[.k 7,.s (.own 0 0),.p 3],[.n 1 ((b13.map aa))]⟩) [ok 0,on 1] (.b (.j 1 (λ(j10:(List Int))=>⟨[.k 1,.p 15],[.o 0,.c 1 ((j10.map aa))]⟩) (.z 2 (.j 1 (λ(j7:Bool)=>⟨[.k 1,.p 8,.k 5,.p 2,.k 21,.s (ba j7),.p 6],[.o 0,.o 1]⟩) (.b (.b (.t [ok 0,ok 1]) (.t [ok 0,ok 1])) (.t [ok 0,ok 1])) (.b (.t [ok 0,ov 1 1]) (.t [ok 0,ok 1])))) (.t [ok 0,ok 1])) (.t [ok 1])) .o)⟩
instance zI151{t0 t1 r}:Con (Lm t0 t1=some r) (Den Tryz.prog 177 [Cj t0,Cj t1] (ba r)):=⟨λh=>by
 refine dk 27 k177 ?_
 simp only[k177,Kf.of,zs,ze]
 unfold Lm at h
 exact pg trivial (.z 2 (.j 1 (λ(j3:Bool)=>⟨[.k 4,.s (ba j3)],[]⟩) (.b (.t []) (.t [])) .o))⟩
instance zI152{t0 t1 t2 r}:Con (La t0 t1 t2=some r) (Den Tryz.prog 247 [Sb t0,uo t1,Oa t2] (.tup [vb r.1,aa r.2])):=⟨λh=>by
 refine dk 122 k247 ?_
 simp only[k247,Kf.of,zs,ze]
 unfold La at h
 exact pg trivial (.z 1 (.e 0 (λ(_:Unit)=>⟨[.k 1,.p 1,.k 1,.p 2,.k 1,.p 1],[.o 0,.o 2]⟩) (.b .o (.b .o (.b .o (.b .o (.b .o (.b .o (.b .o (.b .o (.b .o (.j 1 (λ(j19:Bool)=>⟨[.k 1,.p 1,.k 1,.p 4,.k 4,.p 1,.k 71,.s (ba j19),.p 41],[.o 0,.o 1,.o 2]⟩) (.b (.t [ok 0,ok 1,ok 2]) (.t [ok 0,ok 1,ok 2])) (.b .o (.j 1 (λ(j27:Bool)=>⟨[.k 1,.p 82,.k 11,.s (ba j27),.p 30],[.o 0,.o 1,.o 2]⟩) (.b (.t [ok 0,ok 1,ok 2]) (.b (.t [ok 0,ok 1,ok 2]) (.b (.t [ok 0,ok 1,ok 2]) (.b (.t [ok 0,ok 1,ok 2]) (.t [ok 0,ok 1,ok 2]))))) (.b .o (.j 1 (λ(j32:Bool)=>⟨[.k 1,.p 4,.k 1,.p 5,.k 94,.s (ba j32),.p 19],[.o 0,.o 2]⟩) (.b (.t [ok 0,ok 2]) (.b (.t [ok 0,ok 2]) (.t [ok 0,ok 2]))) (.b (.b .o (.t [ok 0,ok 1])) (.t [ok 0,ok 1])))))))))))))))) .o))⟩
instance zI153{t0 t1 r}:Con (Oc t0 t1=some r) (Den Tryz.prog 38 [xb t0,ub t1] (.tup [aa r.1,aa r.2])):=⟨λh=>by
 refine dk 146 k38 ?_
 simp only[k38,Kf.of,zs,ze]
 unfold Oc at h
 exact pg @xf.eq_1 (.z 2 (.j 1 (λ(j2:Bool)=>⟨[.k 2,.p 2,.k 22,.s (ba j2),.p 121],[.o 0,.o 1]⟩) (.b (.t [ok 0,ok 1]) (.t [ok 0,ok 1])) (.b .o (.z 2 (.j 1 (λ(j9:Bool)=>⟨[.k 2,.p 5,.k 48,.s (ba j9),.p 92],[.o 0,.o 1]⟩) (.b (.b (.b (.b (.t [ok 0,ok 1]) (.t [ok 0,ok 1])) (.t [ok 0,ok 1])) (.t [ok 0,ok 1])) (.t [ok 0,ok 1])) (.b .o (.b .o (.l 1 0 (λ(s13:Int)=>⟨[.k 2,.p 6,.k 59,.p 2,.s (aa s13),.p 78],[.o 0,.o 1]⟩) (λ(_:Unit)=>⟨[],[]⟩) [ok 0,ok 1] (.b (.b .o (.z 1 (.j 1 (λ(j19:(List GField))=>⟨[.k 2,.p 10,.s (Cb j19),.p 57],[.o 0,.o 1,.o 2]⟩) (.b (.t [ok 0,ok 1,ok 2]) (.t [ok 0,ok 1,ok 2])) (.z 1 (.e 2 (λ(q:(Int × Int))=>⟨[.k 2,.p 10,.k 1,.p 78],[.o 0,.o 1,.o 2,.h 3 [.g [.s (aa q.1),.s (aa q.2)]]]⟩) (.b (.z 1 (.j 1 (λ(j22:Bool)=>⟨[.k 2,.p 89,.k 13,.s (ba j22),.p 43],[.o 0,.o 1,.o 2,.o 3]⟩) (.b (.t [ok 0,ok 1,ok 2,ok 3]) (.t [ok 0,ok 1,ok 2,ok 3])) (.b .o (.t [ok 0,ok 1,ok 2,ok 3])))) (.t [ok 0,ok 1,ok 2,ok 3])) (.z 1 (.j 1 (λ(j28:Bool)=>⟨[.k 2,.p 123,.s (ba j28),.p 22],[.o 0,.o 1,.o 2,.o 3]⟩) (.b (.t [ok 0,ok 1,ok 2,ok 3]) (.t [ok 0,ok 1,ok 2,ok 3])) (.b .o (.z 1 (.j 1 (λ(j32:Bool)=>⟨[.k 2,.p 9,.k 56,.p 58,.k 20,.s (ba j32),.p 2],[.o 0,.o 1]⟩) (.b (.t [ok 0,ok 1]) (.t [ok 0,ok 1])) (.b .o (.t [ok 0,ok 1])))))))))))) (.t [])) .o))))))))⟩
theorem dr{t0 t1 r} (h:Md t0 t1=some r):Den Tryz.prog 176 [Cj t0,Au t1] (ba r):=by
 refine dk 5 k176 ?_
 simp only[k176,Kf.of,zs,ze]
 unfold Md at h
 exact pg trivial .o
instance zI154{t0 t1 r}:Con (Md t0 t1=some r) (Den Tryz.prog 176 [Cj t0,Au t1] (ba r)):=⟨dr⟩
instance zI155{t0 t1 r}:Con (Mq t0 t1=some r) (Den Tryz.prog 231 [Zh t0,Oa t1] (.tup [vb r.1,aa r.2.1,aa r.2.2])):=⟨λh=>by
 refine dk 73 k231 ?_
 simp only[k231,Kf.of,zs,ze]
 unfold Mq at h
 exact pg @vm.eq_1 (.b .o (.l 2 1 (λ(q:((List GType) × Int))=>⟨[.k 3,.p 2,.k 5,.s (.own 2 0),.p 5,.k 11,.p 2,.s (aa q.2),.p 45],[.o 0,.o 1,.n 2 ((q.1.map vb))]⟩) (λ(b19:(List GType))=>⟨[.k 4,.p 1,.k 5,.s (.own 1 0),.p 5],[.o 1,.n 2 ((b19.map vb))]⟩) [ok 0,ok 1,on 2] (.b (.z 3 (.j 1 (λ(j9:Bool)=>⟨[.k 3,.p 27,.k 12,.s (ba j9),.p 32],[.o 0,.o 1,.o 2,.o 3]⟩) (.b (.t [ok 0,ok 1,ok 2,ok 3]) (.t [ok 0,ok 1,ok 2,ok 3])) (.b .o (.a [[],[],[],[],[],[],[],[],[],[],[]] (.b .o (.a [[],[],[],[2],[]] (.t [ok 0,ok 1,ov 2 2]))))))) (.t [ok 1,ok 2])) .o))⟩
end Go.Proofs.Dev
