/-
  Contracts of the functions: each answers as its plain partial function says.
-/
import Derived.Test.YtjiaejcpmcknnaaGreatDoorK
import Derived.Test.YtjiaejcpmcknnaaGreatDoorG
import Derived.Test.YtjiaejcpmcknnaaGreatDoorPD
import Derived.Test.YtjiaejcpmcknnaaGreatDoorH1
import Derived.Test.YtjiaejcpmcknnaaGreatDoorH2
import Derived.Test.YtjiaejcpmcknnaaGreatDoorQ4
import Derived.Test.YtjiaejcpmcknnaaGreatDoorQ5
import Derived.Test.YtjiaejcpmcknnaaGreatDoorQ6
import Derived.Test.YtjiaejcpmcknnaaGreatDoorQ7
set_option linter.all false
set_option maxHeartbeats 1000000
set_option maxRecDepth 10000
namespace Go.Proofs.Dev
open Go Go.Tm
instance {t0 c10 c11 r}:Con (ic t0 (λx900=>Ac x900 c10 c11)=some r) (Den Tryz.prog 52 [cf t0,.fn 53 [] [Sg c10,Sg c11]] (.tup [ea r.1,ea r.2])):=⟨λh=>Rn (q1:=[Sg c10,Sg c11]) (kD (kD oB)) (λx900 _ hb=>tn hb) h⟩
theorem Qv{t0 t1 t2 r} (h:ef t0 t1 t2=some r):Den Tryz.prog 20 [Ca t0,aa t1,aa t2] (ea r):=by
 refine dk 14 k20 ?_
 simp only[k20,Kf.of,zs,ze]
 unfold ef at h
 exact pg trivial (.z 2 (.d [.o 0] [ok 0] .o))
instance {t0 t1 t2 r}:Con (ef t0 t1 t2=some r) (Den Tryz.prog 20 [Ca t0,aa t1,aa t2] (ea r)):=⟨Qv⟩
instance {t0 t1 t2 r}:Con (Co t0 t1 t2=some r) (Den Tryz.prog 57 [Ca t0,aa t1,aa t2] (rh r)):=⟨λh=>by
 refine dk 41 k57 ?_
 simp only[k57,Kf.of,zs,ze]
 unfold Co at h
 exact pg @Hq.eq_1 (.l 2 1 (λ(q:((List (List GNode)) × Int))=>⟨[.k 3,.p 3,.k 1,.s (.own 1 0),.p 1,.s (aa q.2)],[.o 0,.n 1 ((q.1.map xa))]⟩) (λ(b12:(List (List GNode)))=>⟨[.k 7,.s (.own 0 0)],[.n 1 ((b12.map xa))]⟩) [ok 0,on 1] (.b (.j 1 (λ(j9:(List (List GNode)))=>⟨[.k 3,.p 11],[.o 0,.c 1 ((j9.map xa))]⟩) (.b (.t [ok 0,ov 1 1]) (.t [ok 0,ok 1])) (.t [ok 0,ok 1])) (.t [ok 1])) .o)⟩
instance {t0 t1 t2 r}:Con (Uh t0 t1 t2=some r) (Den Tryz.prog 76 [ea t0,ea t1,nb t2] (ea r)):=⟨λh=>by
 refine dk 45 k76 ?_
 simp only[k76,Kf.of,zs,ze]
 unfold Uh at h
 exact pg @Ye.eq_1 (.l 2 1 (λ(q:((List Int) × Int))=>⟨[.k 2,.p 4,.k 1,.p 1,.s (aa q.2)],[.o 1,.c 0 ((q.1.map aa))]⟩) (λ(b18:(List Int))=>⟨[.k 7,.p 1],[.o 1,.c 0 ((b18.map aa))]⟩) [ok 1,ok 0] (.b (.j 1 (λ(j15:(List Int))=>⟨[.k 2,.p 16],[.o 0,.c 1 ((j15.map aa))]⟩) (.z 1 (.j 1 (λ(j11:Bool)=>⟨[.k 2,.p 16,.k 22,.s (ba j11),.p 7],[.o 0,.o 1]⟩) (.b (.t [ok 0,ok 1]) (.t [ok 0,ok 1])) (.b (.t [ok 0,ok 1]) (.t [ok 0,ok 1])))) (.t [ok 0,ok 1])) (.t [ok 0,ok 1])) .o)⟩
instance {t0 t1 t2 r}:Con (ra t0 t1 t2=some r) (Den Tryz.prog 151 [Ea t0,Ci t1,ta t2] (.tup [qa r.1,aa r.2])):=⟨λh=>by
 refine dk 122 C5 ?_
 simp only[C5,Kf.of,zs,ze]
 unfold ra at h
 exact pg trivial (.z 1 (.e 0 (λ(_:Unit)=>⟨[.k 1,.p 1,.k 1,.p 2,.k 1,.p 1],[.o 0,.o 2]⟩) (.b .o (.b .o (.b .o (.b .o (.b .o (.b .o (.b .o (.b .o (.b .o (.j 1 (λ(j19:Bool)=>⟨[.k 1,.p 1,.k 1,.p 4,.k 4,.p 1,.k 71,.s (ba j19),.p 41],[.o 0,.o 1,.o 2]⟩) (.b (.t [ok 0,ok 1,ok 2]) (.t [ok 0,ok 1,ok 2])) (.b .o (.j 1 (λ(j27:Bool)=>⟨[.k 1,.p 82,.k 11,.s (ba j27),.p 30],[.o 0,.o 1,.o 2]⟩) (.b (.t [ok 0,ok 1,ok 2]) (.b (.t [ok 0,ok 1,ok 2]) (.b (.t [ok 0,ok 1,ok 2]) (.b (.t [ok 0,ok 1,ok 2]) (.t [ok 0,ok 1,ok 2]))))) (.b .o (.j 1 (λ(j32:Bool)=>⟨[.k 1,.p 4,.k 1,.p 5,.k 94,.s (ba j32),.p 19],[.o 0,.o 2]⟩) (.b (.t [ok 0,ok 2]) (.b (.t [ok 0,ok 2]) (.t [ok 0,ok 2]))) (.b (.b .o (.t [ok 0,ok 1])) (.t [ok 0,ok 1])))))))))))))))) .o))⟩
instance {t0 t1 r}:Con (Cm t0 t1=some r) (Den Tryz.prog 152 [xa t0,aa t1] (ea r)):=⟨λh=>by
 refine dk 51 D5 ?_
 simp only[D5,Kf.of,zs,ze]
 unfold Cm at h
 exact pg @Di.eq_1 (.z 3 (.j 1 (λ(j4:Bool)=>⟨[.p 4,.k 1,.p 1,.k 20,.s (ba j4),.p 26],[]⟩) (.b (.b (.t []) (.t [])) (.t [])) (.b .o (.l 3 1 (λ(q:((List Int) × Int × Int))=>⟨[.k 5,.p 3,.s (aa q.2.1),.s (aa q.2.2),.p 16],[.c 0 ((q.1.map aa))]⟩) (λ(b19:(List Int))=>⟨[.k 7,.p 1],[.c 0 ((b19.map aa))]⟩) [ok 0] (.b (.t [ok 0]) (.t [ok 0])) .o))))⟩
instance {t0 t1 r}:Con (Ml t0 t1=some r) (Den Tryz.prog 171 [jg t0,jg t1] (ba r)):=⟨λh=>by
 refine dk 27 Q5 ?_
 simp only[Q5,Kf.of,zs,ze]
 unfold Ml at h
 exact pg trivial (.z 2 (.j 1 (λ(j3:Bool)=>⟨[.k 4,.s (ba j3)],[]⟩) (.b (.t []) (.t [])) .o))⟩
instance {t0 c10 r}:Con (Ha t0 (λx900=>nc x900 c10)=some r) (Den Tryz.prog 239 [Gd t0,.fn 238 [] [Uo c10]] (ba r)):=⟨λh=>zj (q1:=[Uo c10]) (kD oB) (λx900 _ hb=>Zp hb) h⟩
theorem wz{t0 t1 t2 t3 r} (h:sg t0 t1 t2 t3=some r):Den Tryz.prog 181 [Ib t0,Ya t1,Gd t2,Gd t3] (aa r):=by
 refine dk 28 X5 ?_
 simp only[X5,Kf.of,zs,ze]
 unfold sg at h
 exact pg trivial (.b .o (.j 1 (λ(j6:Bool)=>⟨[.k 4,.p 4,.k 8,.s (ba j6),.p 15],[.o 0,.o 1]⟩) (.b (.t [ok 0,ok 1]) (.t [ok 0,ok 1])) .o))
instance {t0 t1 t2 t3 r}:Con (sg t0 t1 t2 t3=some r) (Den Tryz.prog 181 [Ib t0,Ya t1,Gd t2,Gd t3] (aa r)):=⟨wz⟩
instance {t0 t1 t2 r}:Con (Zj t0 t1 t2=some r) (Den Tryz.prog 32 [ea t0,ea t1,nb t2] (aa r)):=⟨λh=>by
 refine dk 23 k32 ?_
 simp only[k32,Kf.of,zs,ze]
 unfold Zj at h
 exact pg trivial (.z 2 (.j 1 (λ(j3:Bool)=>⟨[.p 6,.k 11,.s (ba j3),.p 8],[]⟩) (.b (.t []) (.t [])) .o))⟩
instance {t0 t1 t2 r}:Con (oh t0 t1 t2=some r) (Den Tryz.prog 65 [Ca t0,aa t1,aa t2] (rh r)):=⟨λh=>by
 refine dk 35 k65 ?_
 simp only[k65,Kf.of,zs,ze]
 unfold oh at h
 exact pg @Ie.eq_1 (.l 2 1 (λ(q:((List (List GNode)) × Int))=>⟨[.k 3,.p 3,.k 1,.s (.own 1 0),.p 2,.k 3,.p 2,.s (aa q.2),.p 22],[.o 0,.n 1 ((q.1.map xa))]⟩) (λ(b12:(List (List GNode)))=>⟨[.k 7,.s (.own 0 0),.p 2],[.n 1 ((b12.map xa))]⟩) [ok 0,on 1] (.b (.j 1 (λ(j9:(List (List GNode)))=>⟨[.k 3,.p 13],[.o 0,.c 1 ((j9.map xa))]⟩) (.b (.t [ok 0,ov 1 1]) (.t [ok 0,ok 1])) (.t [ok 0,ok 1])) (.t [ok 1])) .o)⟩
instance {t0 t1 r}:Con (yn t0 t1=some r) (Den Tryz.prog 106 [xa t0,ta t1] (.tup [qa r.1,aa r.2.1,aa r.2.2])):=⟨λh=>by
 refine dk 73 n4 ?_
 simp only[n4,Kf.of,zs,ze]
 unfold yn at h
 exact pg @Vk.eq_1 (.b .o (.l 2 1 (λ(q:((List GType) × Int))=>⟨[.k 3,.p 2,.k 5,.s (.own 2 0),.p 5,.k 11,.p 2,.s (aa q.2),.p 45],[.o 0,.o 1,.n 2 ((q.1.map qa))]⟩) (λ(b19:(List GType))=>⟨[.k 4,.p 1,.k 5,.s (.own 1 0),.p 5],[.o 1,.n 2 ((b19.map qa))]⟩) [ok 0,ok 1,on 2] (.b (.z 3 (.j 1 (λ(j9:Bool)=>⟨[.k 3,.p 27,.k 12,.s (ba j9),.p 32],[.o 0,.o 1,.o 2,.o 3]⟩) (.b (.t [ok 0,ok 1,ok 2,ok 3]) (.t [ok 0,ok 1,ok 2,ok 3])) (.b .o (.a [[],[],[],[],[],[],[],[],[],[],[]] (.b .o (.a [[],[],[],[2],[]] (.t [ok 0,ok 1,ov 2 2]))))))) (.t [ok 1,ok 2])) .o))⟩
instance {t0 t1 r}:Con (Dc t0 t1=some r) (Den Tryz.prog 109 [xa t0,aa t1] (.tup [aa r.1,Ea r.2.1,ba r.2.2])):=⟨λh=>by
 refine dk 50 r4 ?_
 simp only[r4,Kf.of,zs,ze]
 unfold Dc at h
 exact pg trivial (.b .o (.z 1 (.f ⟨[.p 52],[.o 0,.n 2 [],.n 2 []]⟩ [ok 0,on 2,on 2] (.g [[],[],[],[],[],[],[],[],[],[],[],[],[2,3,4,5,8,9,10,11],[2,3,4,5,8,9,10,11,12],[8,9,10,11]] [none,none,none,none,none,none,none,none,none,none,none,none,some 1,some 2,none] (.z 1 (.j 1 (λ(j9:Bool)=>⟨[.k 5,.p 1,.k 2,.p 2,.k 19,.s (ba j9),.p 22],[.o 0,.o 1,.o 2]⟩) (.b (.t [ok 0,ov 1 1,ov 2 1]) (.t [ok 0,ov 1 1,ov 2 1])) (.b .o (.j 1 (λ(j13:Bool)=>⟨[.k 5,.p 24,.k 11,.s (ba j13),.p 11],[.o 0,.o 1,.o 2]⟩) (.b (.t [ok 0,ok 1,ok 2]) (.t [ok 0,ok 1,ok 2])) .o))))))))⟩
theorem rq{t0 t1 r} (h:Sc t0 t1=some r):Den Tryz.prog 170 [jg t0,bu t1] (ba r):=by
 refine dk 5 P5 ?_
 simp only[P5,Kf.of,zs,ze]
 unfold Sc at h
 exact pg trivial .o
instance {t0 t1 r}:Con (Sc t0 t1=some r) (Den Tryz.prog 170 [jg t0,bu t1] (ba r)):=⟨rq⟩
instance {t0 t1 r}:Con (Ul t0 t1=some r) (Den Tryz.prog 67 [xa t0,ta t1] (ba r)):=⟨λh=>by
 refine dk 55 k67 ?_
 simp only[k67,Kf.of,zs,ze]
 unfold Ul at h
 exact pg @Ej.eq_1 (.z 3 (.j 1 (λ(j3:Bool)=>⟨[.p 1,.k 25,.s (ba j3),.p 30],[]⟩) (.b (.t []) (.t [])) (.b .o (.l 1 0 (λ(s5:Int)=>⟨[.p 26,.k 1,.p 2,.s (aa s5),.p 27],[]⟩) (λ(_:Unit)=>⟨[],[]⟩) [] (.b (.e 0 (λ(_:Unit)=>⟨[.p 30],[]⟩) (.z 3 (.j 1 (λ(j12:Bool)=>⟨[.p 30,.k 6,.s (ba j12),.p 20],[.o 0]⟩) (.b (.t [ok 0]) (.b (.t [ok 0]) (.b (.t [ok 0]) (.b (.t [ok 0]) (.t [ok 0]))))) (.b (.t []) (.b (.t []) (.b .o (.b .o (.t []))))))) (.t [])) (.t [])) .o))))⟩
instance {t0 t1 r}:Con (Dj t0 t1=some r) (Den Tryz.prog 70 [rh t0,aa t1] (ea r)):=⟨λh=>by
 refine dk 75 k70 ?_
 simp only[k70,Kf.of,zs,ze]
 unfold Dj at h
 exact pg (And.intro @cg.eq_1 @bg.eq_1) (.l 2 1 (λ(q:((List Int) × Int))=>⟨[.k 1,.p 3,.k 1,.s (.own 0 0),.p 11,.s (aa q.2),.p 59],[.n 1 ((q.1.map aa))]⟩) (λ(b28:(List Int))=>⟨[.k 5,.s (.own 0 0),.p 9],[.n 1 ((b28.map aa))]⟩) [on 1] (.b (.j 1 (λ(j25:(List Int))=>⟨[.k 1,.p 17],[.c 0 ((j25.map aa))]⟩) (.b (.t [ok 0]) (.l 2 1 (λ(q:((List Int) × Int))=>⟨[.k 1,.p 7,.k 7,.p 3,.k 10,.p 2,.s (aa q.2),.p 46],[.c 0 ((q.1.map aa))]⟩) (λ(b24:(List Int))=>⟨[.k 1,.p 6,.k 8,.p 3],[.c 0 ((b24.map aa))]⟩) [ok 0] (.b (.j 1 (λ(j21:(List Int))=>⟨[.k 1,.p 30],[.c 0 ((j21.map aa))]⟩) (.b (.t [ok 0]) (.z 2 (.j 1 (λ(j16:Bool)=>⟨[.k 1,.p 9,.k 3,.p 1,.k 1,.p 16,.k 25,.s (ba j16),.p 20],[.o 0,.o 2]⟩) (.b (.b (.t [ok 0,ok 2]) (.t [ok 0,ok 2])) (.t [ok 0,ok 2])) (.b (.t [ok 0]) (.b (.t [ov 0 2]) (.t [ov 0 1])))))) (.t [ok 0])) (.t [ok 0])) (.t [ok 0]))) (.t [ok 0])) (.t [ok 0])) .o)⟩
instance {t0 c10 r}:Con (Qd t0 (λx900=>Sc x900 c10)=some r) (Den Tryz.prog 169 [Dr t0,.fn 170 [] [bu c10]] (.tup [aa r.1,ba r.2])):=⟨λh=>dv (q1:=[bu c10]) (kD oB) (λx900 _ hb=>rq hb) h⟩
theorem aA{t0 t1 r} (h:dj t0 t1=some r):Den Tryz.prog 129 [eb t0,Jb t1] (.tup [aa r.1,aa r.2]):=by
 refine dk 119 N4 ?_
 simp only[N4,Kf.of,zs,ze]
 unfold dj at h
 exact pg @ai.eq_1 (.b .o (.z 1 (.j 1 (λ(j5:Bool)=>⟨[.k 1,.p 3,.k 25,.s (ba j5),.p 91],[.o 0]⟩) (.b (.t [ok 0]) (.t [ok 0])) (.b .o (.l 1 0 (λ(s9:Int)=>⟨[.k 2,.p 27,.k 16,.p 2,.s (aa s9),.p 73],[.o 0]⟩) (λ(_:Unit)=>⟨[],[]⟩) [ok 0] (.b (.z 3 (.j 1 (λ(j15:Bool)=>⟨[.k 2,.p 46,.k 23,.s (ba j15),.p 49],[.o 0,.o 1]⟩) (.b (.b (.t [ok 0,ok 1]) (.t [ok 0,ok 1])) (.t [ok 0,ok 1])) (.b .o (.z 1 (.j 1 (λ(j20:Bool)=>⟨[.k 2,.p 69,.k 25,.s (ba j20),.p 24],[.o 0,.o 1]⟩) (.b (.b (.b (.t [ok 0,ok 1]) (.t [ok 0,ok 1])) (.t [ok 0,ok 1])) (.t [ok 0,ok 1])) (.b .o (.z 1 (.j 1 (λ(j23:Bool)=>⟨[.k 2,.p 94,.k 11,.s (ba j23),.p 13],[.o 0,.o 1]⟩) (.b (.t [ok 0,ok 1]) (.t [ok 0,ok 1])) (.b .o (.b .o (.t [ok 0]))))))))))) (.t [])) .o)))))
instance {t0 t1 r}:Con (dj t0 t1=some r) (Den Tryz.prog 129 [eb t0,Jb t1] (.tup [aa r.1,aa r.2])):=⟨aA⟩
theorem bp{t0 t1 t2 r} (h:fi t0 t1 t2=some r):Den Tryz.prog 243 [xa t0,ta t1,qa t2] (aa r):=by
 refine dk 20 r7 ?_
 simp only[r7,Kf.of,zs,ze]
 unfold fi at h
 exact pg trivial .o
instance {t0 t1 t2 r}:Con (fi t0 t1 t2=some r) (Den Tryz.prog 243 [xa t0,ta t1,qa t2] (aa r)):=⟨bp⟩
end Go.Proofs.Dev
