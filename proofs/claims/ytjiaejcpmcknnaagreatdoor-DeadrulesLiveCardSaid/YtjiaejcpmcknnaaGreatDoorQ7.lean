/-
  Contracts of the functions: each answers as its plain partial function says.
-/
import Derived.Test.YtjiaejcpmcknnaaGreatDoorK
import Derived.Test.YtjiaejcpmcknnaaGreatDoorG
import Derived.Test.YtjiaejcpmcknnaaGreatDoorPD
import Derived.Test.YtjiaejcpmcknnaaGreatDoorH1
import Derived.Test.YtjiaejcpmcknnaaGreatDoorH2
import Derived.Test.YtjiaejcpmcknnaaGreatDoorQ0
import Derived.Test.YtjiaejcpmcknnaaGreatDoorQ1
import Derived.Test.YtjiaejcpmcknnaaGreatDoorQ2
import Derived.Test.YtjiaejcpmcknnaaGreatDoorQ3
set_option linter.all false
set_option maxHeartbeats 1000000
set_option maxRecDepth 10000
namespace Go.Proofs.Dev
open Go Go.Tm
instance {t0 t1 r}:Con (Zh t0 t1=some r) (Den Tryz.prog 27 [Gb t0,Gb t1] (ba r)):=⟨λh=>by
 refine dk 31 k27 ?_
 simp only[k27,Kf.of,zs,ze]
 unfold Zh at h
 exact pg @sq.eq_1 (.b .o (.l 1 0 (λ(s2:Int)=>⟨[.p 4,.k 1,.s (aa s2)],[]⟩) (λ(_:Unit)=>⟨[],[]⟩) [] (.z 1 (.j 1 (λ(j4:Bool)=>⟨[.p 20,.s (ba j4),.p 12],[]⟩) (.b (.t []) (.t [])) (.b (.b .o (.t [])) (.t [])))) .o))⟩
instance {t0 t1 t2 r}:Con (Fj t0 t1 t2=some r) (Den Tryz.prog 50 [Ca t0,aa t1,aa t2] (ka r)):=⟨λh=>by
 refine dk 36 k50 ?_
 simp only[k50,Kf.of,zs,ze]
 unfold Fj at h
 exact pg @fk.eq_1 (.l 2 1 (λ(q:((List Int) × Int))=>⟨[.k 1,.p 5,.k 1,.s (.own 1 0),.s (aa q.2),.p 30],[.o 0,.n 1 ((q.1.map aa))]⟩) (λ(b13:(List Int))=>⟨[.k 7,.s (.own 0 0)],[.n 1 ((b13.map aa))]⟩) [ok 0,on 1] (.b (.j 1 (λ(j10:(List Int))=>⟨[.k 1,.p 8],[.o 0,.c 1 ((j10.map aa))]⟩) (.j 1 (λ(j7:Bool)=>⟨[.k 1,.p 8,.k 24,.s (ba j7),.p 5],[.o 0,.o 1]⟩) (.b (.t [ok 0,ok 1]) (.t [ok 0,ok 1])) (.b (.t [ok 0,ov 1 1]) (.t [ok 0,ok 1]))) (.t [ok 0,ok 1])) (.t [ok 1])) .o)⟩
theorem Yo{t0 t1 t2 r} (h:Pc t0 t1 t2=some r):Den Tryz.prog 53 [Za t0,oi t1,oi t2] (ba r):=by
 refine dk 12 k53 ?_
 simp only[k53,Kf.of,zs,ze]
 unfold Pc at h
 exact pg trivial (.z 1 (.j 1 (λ(j3:Bool)=>⟨[.k 4,.s (ba j3),.p 10],[]⟩) (.b (.t []) (.t [])) .o))
instance {t0 t1 t2 r}:Con (Pc t0 t1 t2=some r) (Den Tryz.prog 53 [Za t0,oi t1,oi t2] (ba r)):=⟨Yo⟩
instance {t0 t1 t2 r}:Con (Eb t0 t1 t2=some r) (Den Tryz.prog 118 [ab t0,gb t1,Bb t2] (.tup [aa r.1,aa r.2])):=⟨λh=>by
 refine dk 68 eab ?_
 simp only[eab,Kf.of,zs,ze]
 unfold Eb at h
 exact pg @Ab.eq_1 (.b .o (.b .o (.l 1 0 (λ(s3:Int)=>⟨[.k 2,.p 4,.k 21,.p 2,.s (aa s3),.p 41],[.o 0]⟩) (λ(_:Unit)=>⟨[],[]⟩) [ok 0] (.b (.z 4 (.j 1 (λ(j8:Bool)=>⟨[.k 2,.p 28,.k 20,.s (ba j8),.p 20],[.o 0,.o 1,.o 2]⟩) (.b (.t [ok 0,ok 1,ok 2]) (.t [ok 0,ok 1,ok 2])) (.b .o (.z 1 (.j 1 (λ(j12:Bool)=>⟨[.k 2,.p 7,.k 18,.p 23,.k 18,.s (ba j12),.p 2],[.o 0]⟩) (.b (.t [ok 0]) (.t [ok 0])) (.b .o (.t [ok 0]))))))) (.t [])) .o)))⟩
theorem qq{t0 r} (h:vb t0=some r):Den Tryz.prog 130 [ng t0] (ba r):=by
 refine dk 26 nab ?_
 simp only[nab,Kf.of,zs,ze]
 unfold vb at h
 exact pg trivial (.z 1 (.j 1 (λ(j9:Bool)=>⟨[.k 2,.s (ba j9),.p 24],[]⟩) (.b (.b (.b (.b (.t []) (.t [])) (.t [])) (.t [])) (.t [])) .o))
instance {t0 r}:Con (vb t0=some r) (Den Tryz.prog 130 [ng t0] (ba r)):=⟨qq⟩
instance {t0 c10 r}:Con (eb t0 (λx900=>Qf x900 c10)=some r) (Den Tryz.prog 175 [Vb t0,.fn 176 [] [Xq c10]] (ba r)):=⟨λh=>cm (q1:=[Xq c10]) (iD AA) (λx900 _ hb=>Hu hb) h⟩
theorem RF{t0 t1 r} (h:Fk t0 t1=some r):Den Tryz.prog 131 [Vb t0,ng t1] (ba r):=by
 refine dk 6 oab ?_
 simp only[oab,Kf.of,zs,ze]
 unfold Fk at h
 exact pg trivial .o
instance {t0 t1 r}:Con (Fk t0 t1=some r) (Den Tryz.prog 131 [Vb t0,ng t1] (ba r)):=⟨RF⟩
instance {t0 c10 r}:Con (Wa t0 (λx900=>Ve x900 c10)=some r) (Den Tryz.prog 177 [vh t0,.fn 178 [] [Xq c10]] (ba r)):=⟨λh=>Bl (q1:=[Xq c10]) (iD AA) (λx900 _ hb=>Lt hb) h⟩
theorem RD{t0 t1 r} (h:Xk t0 t1=some r):Den Tryz.prog 132 [vh t0,ng t1] (ba r):=by
 refine dk 6 pab ?_
 simp only[pab,Kf.of,zs,ze]
 unfold Xk at h
 exact pg trivial .o
instance {t0 t1 r}:Con (Xk t0 t1=some r) (Den Tryz.prog 132 [vh t0,ng t1] (ba r)):=⟨RD⟩
instance {t0 r}:Con (wb t0=some r) (Den Tryz.prog 134 [ng t0] (ba r)):=⟨λh=>by
 refine dk 43 rab ?_
 simp only[rab,Kf.of,zs,ze]
 unfold wb at h
 exact pg (And.intro @lf.eq_1 @mf.eq_1) (.z 2 (.j 1 (λ(j5:Bool)=>⟨[.p 2,.k 17,.s (ba j5),.p 24],[]⟩) (.b (.b (.t []) (.t [])) (.t [])) (.b .o (.l 1 0 (λ(s7:Int)=>⟨[.p 3,.s (aa s7),.p 15],[]⟩) (λ(_:Unit)=>⟨[.p 3],[]⟩) [] (.b (.b .o (.t [])) (.t [])) (.l 1 0 (λ(s14:Int)=>⟨[.p 5,.s (aa s14),.p 25],[]⟩) (λ(_:Unit)=>⟨[],[]⟩) [] (.b (.b .o (.t [])) (.t [])) .o)))))⟩
instance {t0 t1 r}:Con (yn t0 t1=some r) (Den Tryz.prog 192 [Ca t0,aa t1] (ka r)):=⟨λh=>by
 refine dk 91 jac ?_
 simp only[jac,Kf.of,zs,ze]
 unfold yn at h
 exact pg (And.intro @gk.eq_1 (And.intro @An.eq_1 @Bn.eq_1)) (.b .o (.l 2 1 (λ(q:((List Int) × Int))=>⟨[.k 1,.p 3,.k 1,.s (ka q.1),.s (aa q.2),.p 8],[.o 0]⟩) (λ(b35:(List Int))=>⟨[.k 5,.s (ka b35)],[]⟩) [ok 0] (.b (.j 1 (λ(j32:(List Int))=>⟨[.k 1,.p 4,.s (ka j32),.p 13],[.o 0]⟩) (.b (.t [ok 0]) (.l 2 1 (λ(q:((List Int) × Int))=>⟨[.k 1,.p 4,.s (ka q.1),.p 1,.k 1,.p 1,.k 2,.p 1,.k 1,.s (aa q.2),.p 5],[.o 0]⟩) (λ(b20:(List Int))=>⟨[.k 1,.p 4,.s (ka b20),.p 1,.k 4,.p 1],[.o 0]⟩) [ok 0] (.b (.j 1 (λ(j17:(List Int))=>⟨[.k 1,.p 4,.s (ka j17),.p 50],[.o 0]⟩) (.b (.t [ok 0]) (.t [ok 0])) (.t [ok 0])) (.t [ok 0])) (.l 2 1 (λ(q:((List Int) × Int))=>⟨[.k 1,.p 4,.s (ka q.1),.p 8,.s (aa q.2),.p 78],[.o 0]⟩) (λ(b31:(List Int))=>⟨[.k 1,.p 4,.s (ka b31),.p 5],[.o 0]⟩) [ok 0] (.b (.j 1 (λ(j28:(List Int))=>⟨[.k 1,.p 4,.s (ka j28),.p 68],[.o 0]⟩) (.b (.t [ok 0]) (.t [ok 0])) (.t [ok 0])) (.t [ok 0])) (.t [ok 0])))) (.t [ok 0])) (.t [])) .o))⟩
instance {t0 t1 t2 r}:Con (Db t0 t1 t2=some r) (Den Tryz.prog 200 [aa t0,aa t1,ta t2] (.tup [ra r.1,aa r.2])):=⟨λh=>by
 refine dk 27 rac ?_
 simp only[rac,Kf.of,zs,ze]
 unfold Db at h
 exact pg trivial (.z 4 (.j 1 (λ(j3:Bool)=>⟨[.k 6,.p 1,.k 1,.p 1,.k 18,.s (ba j3),.p 2],[.o 1,.o 2]⟩) (.b (.t [ok 1,ok 2]) (.t [ok 1,ok 2])) .o))⟩
instance {t0 t1 r}:Con (Dg t0 t1=some r) (Den Tryz.prog 204 [La t0,ta t1] (.tup [ra r.1,aa r.2])):=⟨λh=>by
 refine dk 60 vac ?_
 simp only[vac,Kf.of,zs,ze]
 unfold Dg at h
 exact pg trivial (.b .o (.b .o (.b .o (.z 1 (.j 1 (λ(j13:Bool)=>⟨[.k 4,.p 1,.k 1,.p 1,.k 1,.s (ba j13)],[.o 2,.o 3]⟩) (.b (.b (.t [ok 2,ok 3]) (.t [ok 2,ok 3])) (.j 1 (λ(j8:Bool)=>⟨[.k 4,.p 1,.k 1,.p 1,.k 1,.p 1,.k 22,.p 1,.k 10,.s (ba j8),.p 19],[.o 2,.o 3]⟩) (.b (.t [ok 2,ok 3]) (.t [ok 2,ok 3])) (.b (.t [ok 0,ok 1]) (.b (.b (.t [ok 0,ok 1]) (.t [ok 0,ok 1])) (.t [ok 0,ok 1]))))) .o)))))⟩
instance {t0 c10 c11 r}:Con (Cc t0 (λx900=>Pc x900 c10 c11)=some r) (Den Tryz.prog 52 [me t0,.fn 53 [] [oi c10,oi c11]] (.tup [ka r.1,ka r.2])):=⟨λh=>Ap (q1:=[oi c10,oi c11]) (iD (iD AA)) (λx900 _ hb=>Yo hb) h⟩
theorem yx{t0 t1 t2 r} (h:td t0 t1 t2=some r):Den Tryz.prog 20 [Ca t0,aa t1,aa t2] (ka r):=by
 refine dk 14 k20 ?_
 simp only[k20,Kf.of,zs,ze]
 unfold td at h
 exact pg trivial (.z 2 (.d [.o 0] [ok 0] .o))
instance {t0 t1 t2 r}:Con (td t0 t1 t2=some r) (Den Tryz.prog 20 [Ca t0,aa t1,aa t2] (ka r)):=⟨yx⟩
instance {t0 t1 t2 r}:Con (Wp t0 t1 t2=some r) (Den Tryz.prog 57 [Ca t0,aa t1,aa t2] (Li r)):=⟨λh=>by
 refine dk 41 k57 ?_
 simp only[k57,Kf.of,zs,ze]
 unfold Wp at h
 exact pg @Bs.eq_1 (.l 2 1 (λ(q:((List (List GNode)) × Int))=>⟨[.k 3,.p 3,.k 1,.s (.own 1 0),.p 1,.s (aa q.2)],[.o 0,.n 1 ((q.1.map Ya))]⟩) (λ(b12:(List (List GNode)))=>⟨[.k 7,.s (.own 0 0)],[.n 1 ((b12.map Ya))]⟩) [ok 0,on 1] (.b (.j 1 (λ(j9:(List (List GNode)))=>⟨[.k 3,.p 11],[.o 0,.c 1 ((j9.map Ya))]⟩) (.b (.t [ok 0,ov 1 1]) (.t [ok 0,ok 1])) (.t [ok 0,ok 1])) (.t [ok 1])) .o)⟩
instance {t0 t1 t2 r}:Con (Be t0 t1 t2=some r) (Den Tryz.prog 80 [ab t0,aa t1,wo t2] (.tup [aa r.1,aa r.2.1,aa r.2.2])):=⟨λh=>by
 refine dk 81 k80 ?_
 simp only[k80,Kf.of,zs,ze]
 unfold Be at h
 exact pg @fe.eq_1 (.z 2 (.j 1 (λ(j2:Bool)=>⟨[.k 1,.p 1,.k 1,.p 3,.k 19,.s (ba j2),.p 58],[.o 0,.o 1]⟩) (.b (.t [ok 0,ok 1]) (.t [ok 0,ok 1])) (.b .o (.z 1 (.j 1 (λ(j5:Bool)=>⟨[.k 1,.p 24,.k 8,.s (ba j5),.p 50],[.o 0,.o 1]⟩) (.b (.t [ok 0,ok 1]) (.t [ok 0,ok 1])) (.b .o (.b .o (.b .o (.l 1 0 (λ(s12:Int)=>⟨[.k 3,.p 2,.k 6,.p 1,.k 52,.p 2,.s (aa s12),.p 17],[.o 0]⟩) (λ(_:Unit)=>⟨[],[]⟩) [ok 0] (.b (.b .o (.t [ok 0])) (.t [])) .o)))))))))⟩
instance {t0 t1 r}:Con (Ml t0 t1=some r) (Den Tryz.prog 93 [ab t0,aa t1] (je r)):=⟨λh=>by
 refine dk 78 k93 ?_
 simp only[k93,Kf.of,zs,ze]
 unfold Ml at h
 exact pg (And.intro @Qh.eq_1 @Ph.eq_1) (.b .o (.b .o (.b .o (.b .o (.l 2 0 (λ(q:(Int × Int))=>⟨[.k 4,.p 3,.s (aa q.2),.p 1],[.o 1,.o 2,.h 3 [.g [.p 3,.s (aa q.1)]]]⟩) (λ(_:Unit)=>⟨[.k 4,.p 1],[.o 1]⟩) [ok 1,ok 2,ok 3] (.b (.b .o (.l 1 0 (λ(s14:Int)=>⟨[.k 4,.p 4,.s (aa s14),.p 33],[.o 0,.o 1,.o 2]⟩) (λ(_:Unit)=>⟨[.k 4,.p 4],[.o 0,.o 1,.o 2]⟩) [ok 0,ok 1,ok 2] (.b (.b .o (.t [ok 0,ok 1,ok 2])) (.t [ok 0,ok 1,ok 2])) (.t [ok 0,ok 1,ok 2]))) (.t [ok 0])) .o)))))⟩
instance {t0 t1 t2 r}:Con (Zn t0 t1 t2=some r) (Den Tryz.prog 128 [ab t0,aa t1,lg t2] (.tup [aa r.1,aa r.2])):=⟨λh=>by
 refine dk 52 lab ?_
 simp only[lab,Kf.of,zs,ze]
 unfold Zn at h
 exact pg @Wj.eq_1 (.b .o (.b .o (.b .o (.b .o (.l 1 0 (λ(s8:Int)=>⟨[.k 5,.p 1,.k 28,.p 2,.s (aa s8),.p 18],[.o 1]⟩) (λ(_:Unit)=>⟨[],[]⟩) [ok 1] (.b (.b .o (.b .o (.t [ok 0]))) (.t [])) .o)))))⟩
instance {t0 t1 r}:Con (lk t0 t1=some r) (Den Tryz.prog 137 [ab t0,aa t1] (je r)):=⟨λh=>by
 refine dk 120 uab ?_
 simp only[uab,Kf.of,zs,ze]
 unfold lk at h
 exact pg (And.intro @Lg.eq_1 @Mg.eq_1) (.l 1 0 (λ(s2:Int)=>⟨[.k 1,.p 5,.s (aa s2),.p 3],[.o 0,.o 1,.o 2]⟩) (λ(_:Unit)=>⟨[.k 1,.p 5],[.o 0,.o 1,.o 2]⟩) [ok 0,ok 1,ok 2] (.b (.z 2 (.j 1 (λ(j11:Int)=>⟨[.k 1,.p 14],[.o 0,.o 1,.o 2,.h 3 [.g [.s (aa j11),.p 3]]]⟩) (.b (.t [ok 0,ok 1,ok 2,ok 3]) (.b (.t [ok 0,ok 1,ok 2,ok 3]) (.b (.t [ok 0,ok 1,ok 2,ok 3]) (.t [ok 0,ok 1,ok 2,ok 3])))) (.b .o (.t [ok 0,ok 1,ok 2])))) (.t [ok 0,ok 1,ok 2])) (.l 1 0 (λ(s14:Int)=>⟨[.k 1,.p 7,.s (aa s14),.p 113],[.o 0,.o 1,.o 2]⟩) (λ(_:Unit)=>⟨[.k 4,.p 1],[.o 1]⟩) [ok 0,ok 1,ok 2] (.b (.z 2 (.j 1 (λ(j26:Int)=>⟨[.k 1,.p 60],[.o 0,.o 1,.o 2,.h 3 [.g [.s (aa j26),.p 3]]]⟩) (.b (.t [ok 0,ok 1,ok 2,ok 3]) (.j 1 (λ(j22:Bool)=>⟨[.k 1,.p 60,.k 43,.s (ba j22),.p 17],[.o 0,.o 1,.o 2,.o 3]⟩) (.b (.t [ok 0,ok 1,ok 2,ok 3]) (.t [ok 0,ok 1,ok 2,ok 3])) (.b (.t [ok 0,ok 1,ok 2,ok 3]) (.b (.t [ok 0,ok 1,ok 2,ok 3]) (.t [ok 0,ok 1,ok 2,ok 3]))))) (.b .o (.t [ok 0,ok 1,ok 2])))) (.t [ok 1])) .o))⟩
instance {t0 t1 r}:Con (ik t0 t1=some r) (Den Tryz.prog 139 [Ca t0,aa t1] (ka r)):=⟨λh=>by
 refine dk 45 wab ?_
 simp only[wab,Kf.of,zs,ze]
 unfold ik at h
 exact pg (And.intro @Uf.eq_1 (And.intro @Tf.eq_1 @Sf.eq_1)) (.l 2 1 (λ(q:((List Int) × Int))=>⟨[.k 2,.p 2,.k 1,.s (ka q.1),.s (aa q.2),.p 4],[.o 0]⟩) (λ(b23:(List Int))=>⟨[.k 5,.s (ka b23)],[]⟩) [ok 0] (.b (.l 2 1 (λ(q:((List Int) × Int))=>⟨[.k 2,.p 3,.s (ka q.1),.p 2,.s (aa q.2),.p 5],[.o 0]⟩) (λ(b20:(List Int))=>⟨[.k 2,.p 3,.s (ka b20),.p 1],[.o 0]⟩) [ok 0] (.b (.l 2 1 (λ(q:((List Int) × Int))=>⟨[.k 2,.p 3,.s (ka q.1),.p 4,.s (aa q.2),.p 11],[.o 0]⟩) (λ(b17:(List Int))=>⟨[.k 2,.p 3,.s (ka b17),.p 3],[.o 0]⟩) [ok 0] (.b (.t [ok 0]) (.t [ok 0])) (.t [ok 0])) (.t [ok 0])) (.t [ok 0])) (.t [])) .o)⟩
instance {t0 t1 t2 r}:Con (na t0 t1 t2=some r) (Den Tryz.prog 151 [La t0,Rj t1,ta t2] (.tup [ra r.1,aa r.2])):=⟨λh=>by
 refine dk 122 Iab ?_
 simp only[Iab,Kf.of,zs,ze]
 unfold na at h
 exact pg trivial (.z 1 (.e 0 (λ(_:Unit)=>⟨[.k 1,.p 1,.k 1,.p 2,.k 1,.p 1],[.o 0,.o 2]⟩) (.b .o (.b .o (.b .o (.b .o (.b .o (.b .o (.b .o (.b .o (.b .o (.j 1 (λ(j19:Bool)=>⟨[.k 1,.p 1,.k 1,.p 4,.k 4,.p 1,.k 71,.s (ba j19),.p 41],[.o 0,.o 1,.o 2]⟩) (.b (.t [ok 0,ok 1,ok 2]) (.t [ok 0,ok 1,ok 2])) (.b .o (.j 1 (λ(j27:Bool)=>⟨[.k 1,.p 82,.k 11,.s (ba j27),.p 30],[.o 0,.o 1,.o 2]⟩) (.b (.t [ok 0,ok 1,ok 2]) (.b (.t [ok 0,ok 1,ok 2]) (.b (.t [ok 0,ok 1,ok 2]) (.b (.t [ok 0,ok 1,ok 2]) (.t [ok 0,ok 1,ok 2]))))) (.b .o (.j 1 (λ(j32:Bool)=>⟨[.k 1,.p 4,.k 1,.p 5,.k 94,.s (ba j32),.p 19],[.o 0,.o 2]⟩) (.b (.t [ok 0,ok 2]) (.b (.t [ok 0,ok 2]) (.t [ok 0,ok 2]))) (.b (.b .o (.t [ok 0,ok 1])) (.t [ok 0,ok 1])))))))))))))))) .o))⟩
instance {t0 c10 r}:Con (Ha t0 (λx900=>Fc x900 c10)=some r) (Den Tryz.prog 239 [Bb t0,.fn 238 [] [Aq c10]] (ba r)):=⟨λh=>xl (q1:=[Aq c10]) (iD AA) (λx900 _ hb=>Hr hb) h⟩
theorem LA{t0 t1 t2 t3 r} (h:Eh t0 t1 t2 t3=some r):Den Tryz.prog 181 [ab t0,bb t1,Bb t2,Bb t3] (aa r):=by
 refine dk 28 Yab ?_
 simp only[Yab,Kf.of,zs,ze]
 unfold Eh at h
 exact pg trivial (.b .o (.j 1 (λ(j6:Bool)=>⟨[.k 4,.p 4,.k 8,.s (ba j6),.p 15],[.o 0,.o 1]⟩) (.b (.t [ok 0,ok 1]) (.t [ok 0,ok 1])) .o))
instance {t0 t1 t2 t3 r}:Con (Eh t0 t1 t2 t3=some r) (Den Tryz.prog 181 [ab t0,bb t1,Bb t2,Bb t3] (aa r)):=⟨LA⟩
instance {t0 t1 t2 r}:Con (Gi t0 t1 t2=some r) (Den Tryz.prog 65 [Ca t0,aa t1,aa t2] (Li r)):=⟨λh=>by
 refine dk 35 k65 ?_
 simp only[k65,Kf.of,zs,ze]
 unfold Gi at h
 exact pg @Lf.eq_1 (.l 2 1 (λ(q:((List (List GNode)) × Int))=>⟨[.k 3,.p 3,.k 1,.s (.own 1 0),.p 2,.k 3,.p 2,.s (aa q.2),.p 22],[.o 0,.n 1 ((q.1.map Ya))]⟩) (λ(b12:(List (List GNode)))=>⟨[.k 7,.s (.own 0 0),.p 2],[.n 1 ((b12.map Ya))]⟩) [ok 0,on 1] (.b (.j 1 (λ(j9:(List (List GNode)))=>⟨[.k 3,.p 13],[.o 0,.c 1 ((j9.map Ya))]⟩) (.b (.t [ok 0,ov 1 1]) (.t [ok 0,ok 1])) (.t [ok 0,ok 1])) (.t [ok 1])) .o)⟩
instance {t0 r}:Con (Rp t0=some r) (Den Tryz.prog 90 [ab t0] (je r)):=⟨λh=>by
 refine dk 34 k90 ?_
 simp only[k90,Kf.of,zs,ze]
 unfold Rp at h
 exact pg @Ui.eq_1 (.b .o (.l 1 0 (λ(s2:Int)=>⟨[.k 1,.p 6,.k 6,.p 2,.s (aa s2),.p 19],[.o 0,.o 1]⟩) (λ(_:Unit)=>⟨[.k 2,.p 5],[.o 1]⟩) [ok 0,ok 1] (.b (.b .o (.t [ok 0,ok 1])) (.t [ok 1])) .o))⟩
instance {t0 t1 r}:Con (bp t0 t1=some r) (Den Tryz.prog 106 [Ya t0,ta t1] (.tup [ra r.1,aa r.2.1,aa r.2.2])):=⟨λh=>by
 refine dk 73 Saa ?_
 simp only[Saa,Kf.of,zs,ze]
 unfold bp at h
 exact pg @Hm.eq_1 (.b .o (.l 2 1 (λ(q:((List GType) × Int))=>⟨[.k 3,.p 2,.k 5,.s (.own 2 0),.p 5,.k 11,.p 2,.s (aa q.2),.p 45],[.o 0,.o 1,.n 2 ((q.1.map ra))]⟩) (λ(b19:(List GType))=>⟨[.k 4,.p 1,.k 5,.s (.own 1 0),.p 5],[.o 1,.n 2 ((b19.map ra))]⟩) [ok 0,ok 1,on 2] (.b (.z 3 (.j 1 (λ(j9:Bool)=>⟨[.k 3,.p 27,.k 12,.s (ba j9),.p 32],[.o 0,.o 1,.o 2,.o 3]⟩) (.b (.t [ok 0,ok 1,ok 2,ok 3]) (.t [ok 0,ok 1,ok 2,ok 3])) (.b .o (.a [[],[],[],[],[],[],[],[],[],[],[]] (.b .o (.a [[],[],[],[2],[]] (.t [ok 0,ok 1,ov 2 2]))))))) (.t [ok 1,ok 2])) .o))⟩
end Go.Proofs.Dev
