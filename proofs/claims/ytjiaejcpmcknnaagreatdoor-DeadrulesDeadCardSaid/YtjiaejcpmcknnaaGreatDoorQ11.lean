/-
  Contracts of the functions: each answers as its plain partial function says.
-/
import Derived.Test.YtjiaejcpmcknnaaGreatDoorK
import Derived.Test.YtjiaejcpmcknnaaGreatDoorG
import Derived.Test.YtjiaejcpmcknnaaGreatDoorPD
import Derived.Test.YtjiaejcpmcknnaaGreatDoorH1
import Derived.Test.YtjiaejcpmcknnaaGreatDoorH2
import Derived.Test.YtjiaejcpmcknnaaGreatDoorQ4
import Derived.Test.YtjiaejcpmcknnaaGreatDoorQ5
import Derived.Test.YtjiaejcpmcknnaaGreatDoorQ6
import Derived.Test.YtjiaejcpmcknnaaGreatDoorQ7
set_option linter.all false
set_option maxHeartbeats 1000000
set_option maxRecDepth 10000
namespace Go.Proofs.Dev
open Go Go.Tm
instance {t0 t1 r}:Con (km t0 t1=some r) (Den Tryz.prog 99 [xa t0,aa t1] (.tup [Ea r.1,Ea r.2.1,ba r.2.2])):=⟨λh=>by
 refine dk 59 k99 ?_
 simp only[k99,Kf.of,zs,ze]
 unfold km at h
 exact pg trivial (.z 3 (.j 1 (λ(j5:Bool)=>⟨[.p 1,.k 3,.p 2,.k 1,.p 3,.k 14,.s (ba j5),.p 36],[.o 0,.o 1]⟩) (.b (.t [ok 0,ok 1]) (.t [ok 0,ok 1])) (.b .o (.z 1 (.f ⟨[.p 61],[.o 0,.o 1,.n 2 [],.n 2 []]⟩ [ok 0,ok 1,on 2,on 2] (.g [[],[],[],[],[],[],[],[],[],[],[],[],[2,3,4,5,8,9,10,11],[2,3,4,5,8,9,10,11,12],[8,9,10,11]] [none,none,none,none,none,none,none,none,none,none,none,none,some 2,some 3,none] (.z 1 (.j 1 (λ(j13:Bool)=>⟨[.k 4,.p 3,.k 1,.p 16,.k 22,.s (ba j13),.p 14],[.o 0,.o 1,.o 2,.o 3]⟩) (.b (.t [ok 0,ok 1,ov 2 1,ov 3 1]) (.t [ok 0,ok 1,ov 2 1,ov 3 1])) (.b (.a [[],[],[1]] .o) (.z 1 (.j 1 (λ(j17:Bool)=>⟨[.k 4,.p 42,.k 10,.s (ba j17),.p 4],[.o 0,.o 1,.o 2,.o 3]⟩) (.b (.t [ok 0,ok 1,ok 2,ok 3]) (.t [ok 0,ok 1,ok 2,ok 3])) (.b (.a [[],[],[1]] .o) .o))))))))))))⟩
instance {t0 t1 t2 r}:Con (Ao t0 t1 t2=some r) (Den Tryz.prog 125 [Ca t0,aa t1,aa t2] (.tup [ea r.1,ea r.2.1,ea r.2.2])):=⟨λh=>by
 refine dk 45 J4 ?_
 simp only[J4,Kf.of,zs,ze]
 unfold Ao at h
 exact pg @Qj.eq_1 (.l 3 2 (λ(q:((List Int) × (List Int) × Int))=>⟨[.k 3,.p 3,.k 3,.p 1,.s (.own 1 0),.s (.own 2 0),.s (aa q.2.2)],[.o 0,.n 1 ((q.1.map aa)),.n 1 ((q.2.1.map aa))]⟩) (λ(q:((List Int) × (List Int)))=>⟨[.k 9,.p 1,.s (.own 0 0),.s (.own 1 0)],[.n 1 ((q.1.map aa)),.n 1 ((q.2.map aa))]⟩) [ok 0,on 1,on 1] (.b (.t [ok 0,ov 1 1,ov 2 1]) (.t [ok 1,ok 2])) .o)⟩
instance {t0 t1 r}:Con (Xi t0 t1=some r) (Den Tryz.prog 137 [Ib t0,aa t1] (pd r)):=⟨λh=>by
 refine dk 120 V4 ?_
 simp only[V4,Kf.of,zs,ze]
 unfold Xi at h
 exact pg (And.intro @Df.eq_1 @Ef.eq_1) (.l 1 0 (λ(s2:Int)=>⟨[.k 1,.p 5,.s (aa s2),.p 3],[.o 0,.o 1,.o 2]⟩) (λ(_:Unit)=>⟨[.k 1,.p 5],[.o 0,.o 1,.o 2]⟩) [ok 0,ok 1,ok 2] (.b (.z 2 (.j 1 (λ(j11:Int)=>⟨[.k 1,.p 14],[.o 0,.o 1,.o 2,.h 3 [.g [.s (aa j11),.p 3]]]⟩) (.b (.t [ok 0,ok 1,ok 2,ok 3]) (.b (.t [ok 0,ok 1,ok 2,ok 3]) (.b (.t [ok 0,ok 1,ok 2,ok 3]) (.t [ok 0,ok 1,ok 2,ok 3])))) (.b .o (.t [ok 0,ok 1,ok 2])))) (.t [ok 0,ok 1,ok 2])) (.l 1 0 (λ(s14:Int)=>⟨[.k 1,.p 7,.s (aa s14),.p 113],[.o 0,.o 1,.o 2]⟩) (λ(_:Unit)=>⟨[.k 4,.p 1],[.o 1]⟩) [ok 0,ok 1,ok 2] (.b (.z 2 (.j 1 (λ(j26:Int)=>⟨[.k 1,.p 60],[.o 0,.o 1,.o 2,.h 3 [.g [.s (aa j26),.p 3]]]⟩) (.b (.t [ok 0,ok 1,ok 2,ok 3]) (.j 1 (λ(j22:Bool)=>⟨[.k 1,.p 60,.k 43,.s (ba j22),.p 17],[.o 0,.o 1,.o 2,.o 3]⟩) (.b (.t [ok 0,ok 1,ok 2,ok 3]) (.t [ok 0,ok 1,ok 2,ok 3])) (.b (.t [ok 0,ok 1,ok 2,ok 3]) (.b (.t [ok 0,ok 1,ok 2,ok 3]) (.t [ok 0,ok 1,ok 2,ok 3]))))) (.b .o (.t [ok 0,ok 1,ok 2])))) (.t [ok 1])) .o))⟩
instance {t0 t1 r}:Con (Wi t0 t1=some r) (Den Tryz.prog 139 [Ca t0,aa t1] (ea r)):=⟨λh=>by
 refine dk 45 X4 ?_
 simp only[X4,Kf.of,zs,ze]
 unfold Wi at h
 exact pg (And.intro @Te.eq_1 (And.intro @Se.eq_1 @Re.eq_1)) (.l 2 1 (λ(q:((List Int) × Int))=>⟨[.k 2,.p 2,.k 1,.s (ea q.1),.s (aa q.2),.p 4],[.o 0]⟩) (λ(b23:(List Int))=>⟨[.k 5,.s (ea b23)],[]⟩) [ok 0] (.b (.l 2 1 (λ(q:((List Int) × Int))=>⟨[.k 2,.p 3,.s (ea q.1),.p 2,.s (aa q.2),.p 5],[.o 0]⟩) (λ(b20:(List Int))=>⟨[.k 2,.p 3,.s (ea b20),.p 1],[.o 0]⟩) [ok 0] (.b (.l 2 1 (λ(q:((List Int) × Int))=>⟨[.k 2,.p 3,.s (ea q.1),.p 4,.s (aa q.2),.p 11],[.o 0]⟩) (λ(b17:(List Int))=>⟨[.k 2,.p 3,.s (ea b17),.p 3],[.o 0]⟩) [ok 0] (.b (.t [ok 0]) (.t [ok 0])) (.t [ok 0])) (.t [ok 0])) (.t [ok 0])) (.t [])) .o)⟩
instance {t0 t1 t2 r}:Con (Pa t0 t1 t2=some r) (Den Tryz.prog 142 [Ea t0,Ci t1,ta t2] (.tup [qa r.1,aa r.2])):=⟨λh=>by
 refine dk 84 n5 ?_
 simp only[n5,Kf.of,zs,ze]
 unfold Pa at h
 exact pg trivial (.z 2 (.j 1 (λ(j3:Bool)=>⟨[.k 1,.p 1,.k 1,.p 4,.k 11,.s (ba j3),.p 68],[.o 0,.o 1,.o 2]⟩) (.b (.t [ok 0,ok 1,ok 2]) (.t [ok 0,ok 1,ok 2])) (.b .o (.b .o (.b .o (.z 2 (.j 3 (λ(q:(Int × Int × Bool))=>⟨[.k 6,.p 3,.s (ba q.2.2),.p 8],[.o 2,.h 3 [.g [.s (aa q.1),.s (aa q.2.1)]]]⟩) (.b (.t [ok 2,ok 3]) (.b (.a [[],[],[],[],[],[],[],[],[],[]] (.t [ok 2,ok 3])) (.b (.a [[],[],[],[],[],[],[],[],[],[],[],[],[]] (.t [ok 2,ok 3])) (.b (.t [ok 2,ok 3]) (.t [ok 2,ok 3]))))) .o)))))))⟩
instance {t0 t1 r}:Con (mi t0 t1=some r) (Den Tryz.prog 276 [Ea t0,Kc t1] (.tup [ka r.1,aa r.2])):=⟨λh=>by
 refine dk 77 T7 ?_
 simp only[T7,Kf.of,zs,ze]
 unfold mi at h
 exact pg trivial .o⟩
instance {t0 t1 t2 r}:Con (vy t0 t1 t2=some r) (Den Tryz.prog 306 [aa t0,aa t1,aa t2] (.tup [ka r.1,aa r.2])):=⟨λh=>by
 refine dk 14 z8 ?_
 simp only[z8,Kf.of,zs,ze]
 unfold vy at h
 exact pg trivial .o⟩
instance {t0 t1 t2 r}:Con (Bg t0 t1 t2=some r) (Den Tryz.prog 309 [aa t0,ka t1,ka t2] (.tup [ka r.1,aa r.2])):=⟨λh=>by
 refine dk 138 A8 ?_
 simp only[A8,Kf.of,zs,ze]
 unfold Bg at h
 exact pg trivial (.z 2 (.j 1 (λ(j2:Bool)=>⟨[.p 1,.k 3,.p 3,.k 12,.s (ba j2),.p 121],[.o 0,.o 1,.o 2]⟩) (.b (.t [ok 0,ok 1,ok 2]) (.t [ok 0,ok 1,ok 2])) (.b .o (.b .o (.b .o (.j 1 (λ(j9:Bool)=>⟨[.p 19,.k 2,.p 1,.k 20,.s (ba j9),.p 98],[.o 0,.o 1,.o 2]⟩) (.b (.t [ok 0,ok 1,ok 2]) (.t [ok 0,ok 1,ok 2])) (.b (.b .o (.j 4 (λ(q:(Int × Int × Int × Int))=>⟨[.k 6,.p 1,.s (aa q.2.2.2),.p 13],[.h 2 [.g [.s (aa q.1),.s (aa q.2.1),.s (aa q.2.2.1)]]]⟩) (.b (.b (.t [ok 2]) (.t [ok 2])) (.t [ok 2])) .o)) (.j 1 (λ(j22:Bool)=>⟨[.p 21,.k 49,.s (ba j22),.p 70],[.o 0,.o 1,.o 2]⟩) (.b (.t [ok 0,ok 1,ok 2]) (.t [ok 0,ok 1,ok 2])) (.b .o (.z 1 (.j 1 (λ(j31:Bool)=>⟨[.p 70,.k 38,.s (ba j31),.p 32],[.o 0,.o 1,.o 2]⟩) (.b (.t [ok 0,ok 1,ok 2]) (.t [ok 0,ok 1,ok 2])) .o)))))))))))⟩
instance {t0 t1 r}:Con (Uj t0 t1=some r) (Den Tryz.prog 62 [rh t0,aa t1] (ea r)):=⟨λh=>by
 refine dk 63 k62 ?_
 simp only[k62,Kf.of,zs,ze]
 unfold Uj at h
 exact pg (And.intro @Jg.eq_1 @Ig.eq_1) (.l 2 1 (λ(q:((List Int) × Int))=>⟨[.p 4,.k 1,.s (ea q.1),.s (aa q.2),.p 58],[]⟩) (λ(b22:(List Int))=>⟨[.k 5,.s (ea b22)],[]⟩) [] (.b (.l 2 1 (λ(q:((List Int) × Int))=>⟨[.p 5,.s (ea q.1),.p 1,.s (aa q.2),.p 3],[]⟩) (λ(b19:(List Int))=>⟨[.p 5,.s (ea b19),.p 1],[]⟩) [] (.b (.j 1 (λ(j16:(List Int))=>⟨[.p 5,.s (ea j16),.p 11],[]⟩) (.z 2 (.j 1 (λ(j11:Bool)=>⟨[.p 8,.k 1,.p 1,.k 38,.s (ba j11),.p 16],[.o 1]⟩) (.b (.b (.t [ok 1]) (.t [ok 1])) (.t [ok 1])) (.b (.t []) (.b (.t []) (.t []))))) (.t [])) (.t [])) (.t [])) (.t [])) .o)⟩
instance {t0 t1 r}:Con (Zl t0 t1=some r) (Den Tryz.prog 97 [xa t0,ta t1] (.tup [qa r.1,aa r.2.1,aa r.2.2])):=⟨λh=>by
 refine dk 65 k97 ?_
 simp only[k97,Kf.of,zs,ze]
 unfold Zl at h
 exact pg @Nj.eq_1 (.b .o (.l 2 1 (λ(q:((List GType) × Int))=>⟨[.p 1,.k 2,.p 2,.k 5,.s (.own 2 0),.s (aa q.2),.p 3],[.o 0,.o 1,.n 2 ((q.1.map qa))]⟩) (λ(b15:(List GType))=>⟨[.k 4,.p 1,.k 5,.s (.own 1 0)],[.o 1,.n 2 ((b15.map qa))]⟩) [ok 0,ok 1,on 2] (.b (.a [[],[],[],[],[],[],[],[],[],[],[],[],[],[]] (.b .o (.a [[],[],[],[2],[]] (.t [ok 0,ok 1,ov 2 2])))) (.t [ok 1,ok 2])) .o))⟩
instance {t0 t1 t2 r}:Con (bm t0 t1 t2=some r) (Den Tryz.prog 277 [Ea t0,ka t1,Kc t2] (.tup [ka r.1,aa r.2])):=⟨λh=>by
 refine dk 131 U7 ?_
 simp only[U7,Kf.of,zs,ze]
 unfold bm at h
 exact pg trivial (.b .o (.b .o (.j 1 (λ(j9:Bool)=>⟨[.k 3,.p 4,.k 8,.p 1,.k 27,.s (ba j9),.p 90],[.o 0,.o 1,.o 2,.o 3]⟩) (.b (.t [ok 0,ok 1,ok 2,ok 3]) (.t [ok 0,ok 1,ok 2,ok 3])) (.b .o (.b .o (.z 2 (.j 1 (λ(j24:Bool)=>⟨[.k 3,.p 12,.k 100,.s (ba j24),.p 18],[.o 0,.o 1,.o 2,.o 3,.o 4]⟩) (.b (.b (.b (.b (.t [ok 0,ok 1,ok 2,ok 3,ok 4]) (.t [ok 0,ok 1,ok 2,ok 3,ok 4])) (.t [ok 0,ok 1,ok 2,ok 3,ok 4])) (.t [ok 0,ok 1,ok 2,ok 3,ok 4])) (.t [ok 0,ok 1,ok 2,ok 3,ok 4])) .o)))))))⟩
instance {t0 t1 t2 r}:Con (Ih t0 t1 t2=some r) (Den Tryz.prog 278 [Ea t0,ka t1,ka t2] (.tup [ka r.1,aa r.2])):=⟨λh=>by
 refine dk 36 V7 ?_
 simp only[V7,Kf.of,zs,ze]
 unfold Ih at h
 exact pg trivial (.z 2 (.j 1 (λ(j2:Bool)=>⟨[.k 3,.p 4,.k 8,.s (ba j2),.p 23],[.o 0,.o 1,.o 2,.o 3]⟩) (.b (.t [ok 0,ok 1,ok 2,ok 3]) (.t [ok 0,ok 1,ok 2,ok 3])) .o))⟩
instance {t0 t1 r}:Con (im t0 t1=some r) (Den Tryz.prog 59 [xa t0,ta t1] (ba r)):=⟨λh=>by
 refine dk 70 k59 ?_
 simp only[k59,Kf.of,zs,ze]
 unfold im at h
 exact pg @Vj.eq_1 (.z 3 (.j 1 (λ(j3:Bool)=>⟨[.p 1,.k 25,.s (ba j3),.p 45],[]⟩) (.b (.t []) (.t [])) (.b .o (.l 1 0 (λ(s5:Int)=>⟨[.p 8,.s (aa s5),.p 17],[]⟩) (λ(_:Unit)=>⟨[],[]⟩) [] (.b (.e 0 (λ(_:Unit)=>⟨[.p 27],[]⟩) (.b (.b .o (.t [])) (.j 1 (λ(j18:Bool)=>⟨[.p 9,.k 62,.s (ba j18)],[]⟩) (.b (.b (.b (.b (.b (.t []) (.t [])) (.t [])) (.t [])) (.t [])) (.t [])) (.b .o (.t [])))) (.t [])) (.t [])) .o))))⟩
instance {t0 t1 t2 r}:Con (fh t0 t1 t2=some r) (Den Tryz.prog 191 [xa t0,ta t1,qa t2] (aa r)):=⟨λh=>by
 refine dk 20 u6 ?_
 simp only[u6,Kf.of,zs,ze]
 unfold fh at h
 exact pg trivial .o⟩
instance {t0 t1 t2 r}:Con (Bl t0 t1 t2=some r) (Den Tryz.prog 229 [Ea t0,ob t1,Kc t2] (.tup [ka r.1,aa r.2])):=⟨λh=>by
 refine dk 109 W6 ?_
 simp only[W6,Kf.of,zs,ze]
 unfold Bl at h
 exact pg @Ri.eq_1 (.b .o (.b .o (.l 1 0 (λ(s5:Int)=>⟨[.k 1,.p 1,.k 1,.p 4,.k 1,.s (aa s5),.p 3],[.o 0,.o 1,.o 2]⟩) (λ(_:Unit)=>⟨[.k 1,.p 1,.k 1,.p 4],[.o 0,.o 1,.o 2]⟩) [ok 0,ok 1,ok 2] (.b (.b .o (.t [ok 0,ok 1,ok 2])) (.t [ok 0,ok 1,ok 2])) (.b (.z 1 (.j 1 (λ(j13:Bool)=>⟨[.k 3,.p 33,.k 11,.s (ba j13),.p 64],[.o 0,.o 1,.o 2]⟩) (.b (.t [ok 0,ok 1,ok 2]) (.t [ok 0,ok 1,ok 2])) .o)) (.b .o (.b .o (.z 1 (.f ⟨[.k 1,.p 111],[.o 0,.o 1,.o 2,.n 3 [],.n 3 [],.n 3 []]⟩ [ok 0,ok 1,ok 2,on 3,on 3,on 3] (.g [[],[],[],[],[],[],[],[],[],[1,2,4,5,7,8],[1,2,4,5,7,8,9],[1,2,4,5,7,8,9,10],[4,5,7,8],[7,8]] [none,none,none,none,none,none,none,none,none,some 3,some 4,some 5,none,none] (.z 1 (.j 1 (λ(j29:Bool)=>⟨[.k 6,.p 30,.k 69,.s (ba j29),.p 6],[.o 2,.o 3,.o 4,.o 5]⟩) (.b (.b (.t [ok 2,ov 3 1,ov 4 1,ov 5 1]) (.t [ok 2,ov 3 1,ov 4 1,ov 5 1])) (.t [ok 2,ov 3 1,ov 4 1,ov 5 1])) .o)))))))))))⟩
end Go.Proofs.Dev
