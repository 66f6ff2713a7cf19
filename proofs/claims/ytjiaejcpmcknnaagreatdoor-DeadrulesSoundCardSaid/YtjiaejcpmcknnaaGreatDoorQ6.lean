/-
  Contracts of the functions: each answers as its plain partial function says.
-/
import Derived.Test.YtjiaejcpmcknnaaGreatDoorK
import Derived.Test.YtjiaejcpmcknnaaGreatDoorG
import Derived.Test.YtjiaejcpmcknnaaGreatDoorPD
import Derived.Test.YtjiaejcpmcknnaaGreatDoorH1
import Derived.Test.YtjiaejcpmcknnaaGreatDoorH2
import Derived.Test.YtjiaejcpmcknnaaGreatDoorQ0
import Derived.Test.YtjiaejcpmcknnaaGreatDoorQ1
import Derived.Test.YtjiaejcpmcknnaaGreatDoorQ2
import Derived.Test.YtjiaejcpmcknnaaGreatDoorQ3
set_option linter.all false
set_option maxHeartbeats 1000000
set_option maxRecDepth 10000
namespace Go.Proofs.Dev
open Go Go.Tm
theorem Mp{t0 t1 t2 r} (h:Xc t0 t1 t2=some r):Den Tryz.prog 53 [Za t0,Cd t1,Cd t2] (ba r):=by
 refine dk 12 k53 ?_
 simp only[k53,Kf.of,zs,ze]
 unfold Xc at h
 exact pg trivial (.z 1 (.j 1 (λ(j3:Bool)=>⟨[.k 4,.s (ba j3),.p 10],[]⟩) (.b (.t []) (.t [])) .o))
instance zzi21 {t0 t1 t2 r}:Con (Xc t0 t1 t2=some r) (Den Tryz.prog 53 [Za t0,Cd t1,Cd t2] (ba r)):=⟨Mp⟩
instance {t0 t1 r}:Con (Qo t0 t1=some r) (Den Tryz.prog 66 [Bb t0,aa t1] (wa r)):=⟨λh=>by
 refine dk 26 k66 ?_
 simp only[k66,Kf.of,zs,ze]
 unfold Qo at h
 exact pg trivial (.z 2 (.j 1 (λ(j2:Bool)=>⟨[.k 1,.p 13,.s (ba j2),.p 13],[.o 0,.o 1]⟩) (.b (.t [ok 0,ok 1]) (.t [ok 0,ok 1])) .o))⟩
instance {t0 t1 t2 r}:Con (lf t0 t1 t2=some r) (Den Tryz.prog 69 [ua t0,Wb t1,la t2] (la r)):=⟨λh=>by
 refine dk 66 k69 ?_
 simp only[k69,Kf.of,zs,ze]
 unfold lf at h
 exact pg (And.intro @Nd.eq_1 @Md.eq_1) (.b .o (.z 3 (.j 1 (λ(j5:Bool)=>⟨[.k 2,.p 1,.k 4,.p 6,.k 17,.s (ba j5),.p 38],[]⟩) (.b (.t []) (.t [])) (.b (.l 2 1 (λ(q:((List Int) × Int))=>⟨[.k 8,.p 1,.s (.own 0 0),.s (aa q.2),.p 19],[.n 1 ((q.1.map aa))]⟩) (λ(b13:(List Int))=>⟨[.k 9,.s (.own 0 0)],[.n 1 ((b13.map aa))]⟩) [on 1] (.b (.t [ov 0 1]) (.t [ok 0])) .o) (.l 2 1 (λ(q:((List Int) × Int))=>⟨[.k 7,.p 23,.k 16,.p 2,.s (aa q.2),.p 20],[.c 1 ((q.1.map aa))]⟩) (λ(b25:(List Int))=>⟨[.k 9,.p 21],[.c 1 ((b25.map aa))]⟩) [ok 1] (.b (.j 1 (λ(j22:(List Int))=>⟨[.k 7,.p 42],[.c 0 ((j22.map aa))]⟩) (.z 1 (.j 1 (λ(j19:Bool)=>⟨[.k 7,.p 42,.k 10,.s (ba j19),.p 9],[.o 0]⟩) (.b (.t [ok 0]) (.t [ok 0])) (.b (.t [ov 0 1]) (.t [ok 0])))) (.t [ok 0])) (.t [ok 0])) .o)))))⟩
instance {t0 r}:Con (wb t0=some r) (Den Tryz.prog 134 [vg t0] (ba r)):=⟨λh=>by
 refine dk 43 k134 ?_
 simp only[k134,Kf.of,zs,ze]
 unfold wb at h
 exact pg (And.intro @qf.eq_1 @sf.eq_1) (.z 2 (.j 1 (λ(j5:Bool)=>⟨[.p 2,.k 17,.s (ba j5),.p 24],[]⟩) (.b (.b (.t []) (.t [])) (.t [])) (.b .o (.l 1 0 (λ(s7:Int)=>⟨[.p 3,.s (aa s7),.p 15],[]⟩) (λ(_:Unit)=>⟨[.p 3],[]⟩) [] (.b (.b .o (.t [])) (.t [])) (.l 1 0 (λ(s14:Int)=>⟨[.p 5,.s (aa s14),.p 25],[]⟩) (λ(_:Unit)=>⟨[],[]⟩) [] (.b (.b .o (.t [])) (.t [])) .o)))))⟩
instance {t0 t1 r}:Con (En t0 t1=some r) (Den Tryz.prog 188 [Fg t0,Fg t1] (ba r)):=⟨λh=>by
 refine dk 27 k188 ?_
 simp only[k188,Kf.of,zs,ze]
 unfold En at h
 exact pg trivial (.z 2 (.j 1 (λ(j3:Bool)=>⟨[.k 4,.s (ba j3)],[]⟩) (.b (.t []) (.t [])) .o))⟩
instance {t0 t1 r}:Con (mo t0 t1=some r) (Den Tryz.prog 192 [Ea t0,aa t1] (la r)):=⟨λh=>by
 refine dk 91 k192 ?_
 simp only[k192,Kf.of,zs,ze]
 unfold mo at h
 exact pg (And.intro @Ik.eq_1 (And.intro @oo.eq_1 @qo.eq_1)) (.b .o (.l 2 1 (λ(q:((List Int) × Int))=>⟨[.k 1,.p 3,.k 1,.s (la q.1),.s (aa q.2),.p 8],[.o 0]⟩) (λ(b35:(List Int))=>⟨[.k 5,.s (la b35)],[]⟩) [ok 0] (.b (.j 1 (λ(j32:(List Int))=>⟨[.k 1,.p 4,.s (la j32),.p 13],[.o 0]⟩) (.b (.t [ok 0]) (.l 2 1 (λ(q:((List Int) × Int))=>⟨[.k 1,.p 4,.s (la q.1),.p 1,.k 1,.p 1,.k 2,.p 1,.k 1,.s (aa q.2),.p 5],[.o 0]⟩) (λ(b20:(List Int))=>⟨[.k 1,.p 4,.s (la b20),.p 1,.k 4,.p 1],[.o 0]⟩) [ok 0] (.b (.j 1 (λ(j17:(List Int))=>⟨[.k 1,.p 4,.s (la j17),.p 50],[.o 0]⟩) (.b (.t [ok 0]) (.t [ok 0])) (.t [ok 0])) (.t [ok 0])) (.l 2 1 (λ(q:((List Int) × Int))=>⟨[.k 1,.p 4,.s (la q.1),.p 8,.s (aa q.2),.p 78],[.o 0]⟩) (λ(b31:(List Int))=>⟨[.k 1,.p 4,.s (la b31),.p 5],[.o 0]⟩) [ok 0] (.b (.j 1 (λ(j28:(List Int))=>⟨[.k 1,.p 4,.s (la j28),.p 68],[.o 0]⟩) (.b (.t [ok 0]) (.t [ok 0])) (.t [ok 0])) (.t [ok 0])) (.t [ok 0])))) (.t [ok 0])) (.t [])) .o))⟩
instance {t0 t1 t2 r}:Con (ld t0 t1 t2=some r) (Den Tryz.prog 200 [aa t0,aa t1,wa t2] (.tup [ua r.1,aa r.2])):=⟨λh=>by
 refine dk 27 k200 ?_
 simp only[k200,Kf.of,zs,ze]
 unfold ld at h
 exact pg trivial (.z 4 (.j 1 (λ(j3:Bool)=>⟨[.k 6,.p 1,.k 1,.p 1,.k 18,.s (ba j3),.p 2],[.o 1,.o 2]⟩) (.b (.t [ok 1,ok 2]) (.t [ok 1,ok 2])) .o))⟩
instance {t0 t1 r}:Con (Ve t0 t1=some r) (Den Tryz.prog 204 [Na t0,wa t1] (.tup [ua r.1,aa r.2])):=⟨λh=>by
 refine dk 60 k204 ?_
 simp only[k204,Kf.of,zs,ze]
 unfold Ve at h
 exact pg trivial (.b .o (.b .o (.b .o (.z 1 (.j 1 (λ(j13:Bool)=>⟨[.k 4,.p 1,.k 1,.p 1,.k 1,.s (ba j13)],[.o 2,.o 3]⟩) (.b (.b (.t [ok 2,ok 3]) (.t [ok 2,ok 3])) (.j 1 (λ(j8:Bool)=>⟨[.k 4,.p 1,.k 1,.p 1,.k 1,.p 1,.k 22,.p 1,.k 10,.s (ba j8),.p 19],[.o 2,.o 3]⟩) (.b (.t [ok 2,ok 3]) (.t [ok 2,ok 3])) (.b (.t [ok 0,ok 1]) (.b (.b (.t [ok 0,ok 1]) (.t [ok 0,ok 1])) (.t [ok 0,ok 1]))))) .o)))))⟩
instance {t0 t1 t2 r}:Con (qa t0 t1 t2=some r) (Den Tryz.prog 222 [Na t0,jb t1,dn t2] (ba r)):=⟨λh=>by
 refine dk 130 k222 ?_
 simp only[k222,Kf.of,zs,ze]
 unfold qa at h
 exact pg trivial (.b .o (.b .o (.b (.z 1 (.j 1 (λ(j13:Bool)=>⟨[.k 6,.s (ba j13)],[]⟩) (.b (.b (.t []) (.t [])) (.t [])) .o)) (.b (.z 1 (.j 1 (λ(j19:Bool)=>⟨[.k 6,.s (ba j19),.p 1],[]⟩) (.b (.b (.t []) (.t [])) (.t [])) .o)) (.j 1 (λ(j23:Bool)=>⟨[.k 1,.p 1,.k 1,.p 3,.k 75,.s (ba j23),.p 51],[.o 0,.o 1]⟩) (.b (.t [ok 0,ok 1]) (.b (.t [ok 0,ok 1]) (.b (.t [ok 0,ok 1]) (.t [ok 0,ok 1])))) (.b .o (.b .o (.b .o (.b (.j 1 (λ(j40:Bool)=>⟨[.k 6,.s (ba j40),.p 74],[]⟩) (.b (.t []) (.t [])) .o) .o)))))))))⟩
instance {t0 t1 t2 r}:Con (eu t0 t1 t2=some r) (Den Tryz.prog 246 [aa t0,ua t1,Wb t2] (ba r)):=⟨λh=>by
 refine dk 20 k246 ?_
 simp only[k246,Kf.of,zs,ze]
 unfold eu at h
 exact pg trivial (.z 2 (.j 1 (λ(j3:Bool)=>⟨[.k 6,.s (ba j3)],[]⟩) (.b (.t []) (.t [])) .o))⟩
instance zzi17 {t0 t1 r}:Con (oh t0 t1=some r) (Den Tryz.prog 267 [Na t0,dn t1] (.tup [ra r.1,aa r.2])):=⟨λh=>by
 refine dk 111 k267 ?_
 simp only[k267,Kf.of,zs,ze]
 unfold oh at h
 exact pg @ck.eq_1 (.z 3 (.j 1 (λ(j3:Int)=>⟨[.k 2,.p 3,.k 1,.p 5],[.o 0,.o 1,.o 2,.o 3,.h 4 [.g [.p 2,.s (aa j3)]]]⟩) (.b (.t [ok 0,ok 1,ok 2,ok 3,ok 4]) (.t [ok 0,ok 1,ok 2,ok 3,ok 4])) (.z 1 (.j 1 (λ(j5:Bool)=>⟨[.k 2,.p 32,.s (ba j5),.p 78],[.o 0,.o 1,.o 2,.o 3,.o 4]⟩) (.b (.t [ok 0,ok 1,ok 2,ok 3,ok 4]) (.t [ok 0,ok 1,ok 2,ok 3,ok 4])) (.b .o (.l 4 3 (λ(q:(Int × Int × Int × Int))=>⟨[.k 2,.p 1,.k 1,.p 30,.k 3,.p 2,.s (aa q.2.2.2),.p 73],[.o 0,.o 2,.o 3,.h 4 [.g [.s (aa q.1),.s (aa q.2.1),.s (aa q.2.2.1)]]]⟩) (λ(q:(Int × Int × Int))=>⟨[.k 4,.p 2,.k 1,.p 27],[.o 2,.h 4 [.g [.s (aa q.1),.s (aa q.2.1),.s (aa q.2.2)]]]⟩) [ok 0,ok 2,ok 3,ok 4] (.b (.e 3 (λ(q:(Int × Int × Int))=>⟨[.k 2,.p 38],[.o 0,.o 1,.o 2,.h 3 [.g [.s (aa q.1),.s (aa q.2.1),.s (aa q.2.2)]]]⟩) (.z 2 (.j 1 (λ(j15:Bool)=>⟨[.k 2,.p 38,.k 17,.s (ba j15),.p 55],[.o 0,.o 1,.o 2,.o 3]⟩) (.b (.t [ok 0,ok 1,ok 2,ok 3]) (.t [ok 0,ok 1,ok 2,ok 3])) (.b .o (.b .o (.b (.b .o (.t [ok 0,ok 1,ok 2,ok 3])) (.b (.t [ok 0,ok 1,ok 2,ok 3]) (.b (.t [ok 0,ok 1,ok 2,ok 3]) (.b (.j 1 (λ(j27:Bool)=>⟨[.k 2,.p 6,.k 2,.p 47,.k 52,.s (ba j27),.p 3],[.o 0,.o 1,.o 2,.o 3,.o 4]⟩) (.b (.t [ok 0,ok 1,ok 2,ok 3,ok 4]) (.t [ok 0,ok 1,ok 2,ok 3,ok 4])) (.b (.t [ok 0,ok 1,ok 2,ok 3]) (.t [ok 0,ok 1,ok 2,ok 3]))) (.t [ok 0,ok 1,ok 2,ok 3]))))))))) (.t [ok 0,ok 1,ok 2,ok 3])) (.t [ok 1,ok 3])) .o))))))⟩
instance {t0 t1 t2 r}:Con (Pn t0 t1 t2=some r) (Den Tryz.prog 289 [aa t0,aa t1,aa t2] (.tup [aa r.1,aa r.2])):=⟨λh=>by
 refine dk 57 k289 ?_
 simp only[k289,Kf.of,zs,ze]
 unfold Pn at h
 exact pg trivial (.z 4 (.j 1 (λ(j2:Bool)=>⟨[.p 6,.k 17,.s (ba j2),.p 36],[]⟩) (.b (.t []) (.t [])) (.b .o (.z 1 (.j 1 (λ(j6:Int)=>⟨[.p 8,.s (aa j6),.p 14],[]⟩) (.b (.t []) (.b (.t []) (.t []))) (.b .o (.z 2 (.j 1 (λ(j10:Bool)=>⟨[.k 11,.p 25,.k 22,.s (ba j10),.p 1],[]⟩) (.b (.t []) (.t [])) .o))))))))⟩
instance {t0 c10 c11 r}:Con (Ec t0 (λx900=>Xc x900 c10 c11)=some r) (Den Tryz.prog 52 [ue t0,.fn 53 [] [Cd c10,Cd c11]] (.tup [la r.1,la r.2])):=⟨λh=>qq (q1:=[Cd c10,Cd c11]) (tE (tE JC)) (λx900 _ hb=>Mp hb) h⟩
theorem Rx{t0 t1 t2 r} (h:Fe t0 t1 t2=some r):Den Tryz.prog 20 [Ea t0,aa t1,aa t2] (la r):=by
 refine dk 14 k20 ?_
 simp only[k20,Kf.of,zs,ze]
 unfold Fe at h
 exact pg trivial (.z 2 (.d [.o 0] [ok 0] .o))
instance {t0 t1 t2 r}:Con (Fe t0 t1 t2=some r) (Den Tryz.prog 20 [Ea t0,aa t1,aa t2] (la r)):=⟨Rx⟩
instance {t0 t1 r}:Con (Zl t0 t1=some r) (Den Tryz.prog 93 [Bb t0,aa t1] (re r)):=⟨λh=>by
 refine dk 78 k93 ?_
 simp only[k93,Kf.of,zs,ze]
 unfold Zl at h
 exact pg (And.intro @Vh.eq_1 @Uh.eq_1) (.b .o (.b .o (.b .o (.b .o (.l 2 0 (λ(q:(Int × Int))=>⟨[.k 4,.p 3,.s (aa q.2),.p 1],[.o 1,.o 2,.h 3 [.g [.p 3,.s (aa q.1)]]]⟩) (λ(_:Unit)=>⟨[.k 4,.p 1],[.o 1]⟩) [ok 1,ok 2,ok 3] (.b (.b .o (.l 1 0 (λ(s14:Int)=>⟨[.k 4,.p 4,.s (aa s14),.p 33],[.o 0,.o 1,.o 2]⟩) (λ(_:Unit)=>⟨[.k 4,.p 4],[.o 0,.o 1,.o 2]⟩) [ok 0,ok 1,ok 2] (.b (.b .o (.t [ok 0,ok 1,ok 2])) (.t [ok 0,ok 1,ok 2])) (.t [ok 0,ok 1,ok 2]))) (.t [ok 0])) .o)))))⟩
instance {t0 t1 r}:Con (Kk t0 t1=some r) (Den Tryz.prog 137 [Bb t0,aa t1] (re r)):=⟨λh=>by
 refine dk 120 k137 ?_
 simp only[k137,Kf.of,zs,ze]
 unfold Kk at h
 exact pg (And.intro @Qg.eq_1 @Rg.eq_1) (.l 1 0 (λ(s2:Int)=>⟨[.k 1,.p 5,.s (aa s2),.p 3],[.o 0,.o 1,.o 2]⟩) (λ(_:Unit)=>⟨[.k 1,.p 5],[.o 0,.o 1,.o 2]⟩) [ok 0,ok 1,ok 2] (.b (.z 2 (.j 1 (λ(j11:Int)=>⟨[.k 1,.p 14],[.o 0,.o 1,.o 2,.h 3 [.g [.s (aa j11),.p 3]]]⟩) (.b (.t [ok 0,ok 1,ok 2,ok 3]) (.b (.t [ok 0,ok 1,ok 2,ok 3]) (.b (.t [ok 0,ok 1,ok 2,ok 3]) (.t [ok 0,ok 1,ok 2,ok 3])))) (.b .o (.t [ok 0,ok 1,ok 2])))) (.t [ok 0,ok 1,ok 2])) (.l 1 0 (λ(s14:Int)=>⟨[.k 1,.p 7,.s (aa s14),.p 113],[.o 0,.o 1,.o 2]⟩) (λ(_:Unit)=>⟨[.k 4,.p 1],[.o 1]⟩) [ok 0,ok 1,ok 2] (.b (.z 2 (.j 1 (λ(j26:Int)=>⟨[.k 1,.p 60],[.o 0,.o 1,.o 2,.h 3 [.g [.s (aa j26),.p 3]]]⟩) (.b (.t [ok 0,ok 1,ok 2,ok 3]) (.j 1 (λ(j22:Bool)=>⟨[.k 1,.p 60,.k 43,.s (ba j22),.p 17],[.o 0,.o 1,.o 2,.o 3]⟩) (.b (.t [ok 0,ok 1,ok 2,ok 3]) (.t [ok 0,ok 1,ok 2,ok 3])) (.b (.t [ok 0,ok 1,ok 2,ok 3]) (.b (.t [ok 0,ok 1,ok 2,ok 3]) (.t [ok 0,ok 1,ok 2,ok 3]))))) (.b .o (.t [ok 0,ok 1,ok 2])))) (.t [ok 1])) .o))⟩
instance {t0 t1 r}:Con (Jk t0 t1=some r) (Den Tryz.prog 139 [Ea t0,aa t1] (la r)):=⟨λh=>by
 refine dk 45 k139 ?_
 simp only[k139,Kf.of,zs,ze]
 unfold Jk at h
 exact pg (And.intro @fg.eq_1 (And.intro @cg.eq_1 @bg.eq_1)) (.l 2 1 (λ(q:((List Int) × Int))=>⟨[.k 2,.p 2,.k 1,.s (la q.1),.s (aa q.2),.p 4],[.o 0]⟩) (λ(b23:(List Int))=>⟨[.k 5,.s (la b23)],[]⟩) [ok 0] (.b (.l 2 1 (λ(q:((List Int) × Int))=>⟨[.k 2,.p 3,.s (la q.1),.p 2,.s (aa q.2),.p 5],[.o 0]⟩) (λ(b20:(List Int))=>⟨[.k 2,.p 3,.s (la b20),.p 1],[.o 0]⟩) [ok 0] (.b (.l 2 1 (λ(q:((List Int) × Int))=>⟨[.k 2,.p 3,.s (la q.1),.p 4,.s (aa q.2),.p 11],[.o 0]⟩) (λ(b17:(List Int))=>⟨[.k 2,.p 3,.s (la b17),.p 3],[.o 0]⟩) [ok 0] (.b (.t [ok 0]) (.t [ok 0])) (.t [ok 0])) (.t [ok 0])) (.t [ok 0])) (.t [])) .o)⟩
instance zzi24 {t0 t1 t2 r}:Con (sa t0 t1 t2=some r) (Den Tryz.prog 151 [Na t0,nk t1,wa t2] (.tup [ua r.1,aa r.2])):=⟨λh=>by
 refine dk 122 k151 ?_
 simp only[k151,Kf.of,zs,ze]
 unfold sa at h
 exact pg trivial (.z 1 (.e 0 (λ(_:Unit)=>⟨[.k 1,.p 1,.k 1,.p 2,.k 1,.p 1],[.o 0,.o 2]⟩) (.b .o (.b .o (.b .o (.b .o (.b .o (.b .o (.b .o (.b .o (.b .o (.j 1 (λ(j19:Bool)=>⟨[.k 1,.p 1,.k 1,.p 4,.k 4,.p 1,.k 71,.s (ba j19),.p 41],[.o 0,.o 1,.o 2]⟩) (.b (.t [ok 0,ok 1,ok 2]) (.t [ok 0,ok 1,ok 2])) (.b .o (.j 1 (λ(j27:Bool)=>⟨[.k 1,.p 82,.k 11,.s (ba j27),.p 30],[.o 0,.o 1,.o 2]⟩) (.b (.t [ok 0,ok 1,ok 2]) (.b (.t [ok 0,ok 1,ok 2]) (.b (.t [ok 0,ok 1,ok 2]) (.b (.t [ok 0,ok 1,ok 2]) (.t [ok 0,ok 1,ok 2]))))) (.b .o (.j 1 (λ(j32:Bool)=>⟨[.k 1,.p 4,.k 1,.p 5,.k 94,.s (ba j32),.p 19],[.o 0,.o 2]⟩) (.b (.t [ok 0,ok 2]) (.b (.t [ok 0,ok 2]) (.t [ok 0,ok 2]))) (.b (.b .o (.t [ok 0,ok 1])) (.t [ok 0,ok 1])))))))))))))))) .o))⟩
instance {t0 t1 t2 r}:Con (Gs t0 t1 t2=some r) (Den Tryz.prog 187 [Fg t0,ob t1,Wb t2] (ba r)):=⟨λh=>by
 refine dk 50 k187 ?_
 simp only[k187,Kf.of,zs,ze]
 unfold Gs at h
 exact pg trivial (.z 2 (.j 1 (λ(j4:Bool)=>⟨[.k 2,.p 4,.k 20,.s (ba j4),.p 26],[.o 0,.o 1]⟩) (.b (.b (.t [ok 0,ok 1]) (.t [ok 0,ok 1])) (.t [ok 0,ok 1])) (.b .o (.j 1 (λ(j11:Bool)=>⟨[.k 6,.s (ba j11),.p 19],[]⟩) (.b (.b (.t []) (.t [])) (.t [])) .o))))⟩
instance zzi22 {t0 t1 t2 t3 r}:Con (Nn t0 t1 t2 t3=some r) (Den Tryz.prog 269 [ob t0,aa t1,aa t2,aa t3] (.tup [aa r.1,aa r.2])):=⟨λh=>by
 refine dk 86 k269 ?_
 simp only[k269,Kf.of,zs,ze]
 unfold Nn at h
 exact pg @Jj.eq_1 (.z 2 (.j 1 (λ(j2:Bool)=>⟨[.k 1,.p 7,.k 16,.s (ba j2),.p 65],[.o 0]⟩) (.b (.t [ok 0]) (.t [ok 0])) (.b .o (.z 1 (.j 1 (λ(j5:Bool)=>⟨[.k 1,.p 23,.k 10,.s (ba j5),.p 55],[.o 0]⟩) (.b (.t [ok 0]) (.t [ok 0])) (.b .o (.z 1 (.j 1 (λ(j8:Bool)=>⟨[.k 1,.p 33,.k 6,.s (ba j8),.p 49],[.o 0]⟩) (.b (.t [ok 0]) (.t [ok 0])) (.b .o (.l 3 2 (λ(q:(Int × Int × Int))=>⟨[.k 1,.p 3,.k 6,.s (aa q.1),.s (aa q.2.1),.p 28,.k 2,.p 2,.s (aa q.2.2),.p 45],[]⟩) (λ(q:(Int × Int))=>⟨[.k 3,.p 1,.k 6,.s (aa q.1),.s (aa q.2),.p 28],[]⟩) [] (.b (.e 2 (λ(q:(Int × Int))=>⟨[.k 1,.p 9,.s (aa q.1),.s (aa q.2),.p 33],[]⟩) (.z 3 (.j 1 (λ(j17:Bool)=>⟨[.k 1,.p 44,.k 19,.s (ba j17),.p 25],[.o 0]⟩) (.b (.t [ok 0]) (.t [ok 0])) (.b (.t []) (.b .o (.t []))))) (.t [])) (.t [])) .o))))))))))⟩
instance {t0 t1 t2 r}:Con (Oi t0 t1 t2=some r) (Den Tryz.prog 65 [Ea t0,aa t1,aa t2] (Vi r)):=⟨λh=>by
 refine dk 35 k65 ?_
 simp only[k65,Kf.of,zs,ze]
 unfold Oi at h
 exact pg @Qf.eq_1 (.l 2 1 (λ(q:((List (List GNode)) × Int))=>⟨[.k 3,.p 3,.k 1,.s (.own 1 0),.p 2,.k 3,.p 2,.s (aa q.2),.p 22],[.o 0,.n 1 ((q.1.map Wa))]⟩) (λ(b12:(List (List GNode)))=>⟨[.k 7,.s (.own 0 0),.p 2],[.n 1 ((b12.map Wa))]⟩) [ok 0,on 1] (.b (.j 1 (λ(j9:(List (List GNode)))=>⟨[.k 3,.p 13],[.o 0,.c 1 ((j9.map Wa))]⟩) (.b (.t [ok 0,ov 1 1]) (.t [ok 0,ok 1])) (.t [ok 0,ok 1])) (.t [ok 1])) .o)⟩
instance {t0 t1 r}:Con (Pp t0 t1=some r) (Den Tryz.prog 106 [Wa t0,wa t1] (.tup [ua r.1,aa r.2.1,aa r.2.2])):=⟨λh=>by
 refine dk 73 k106 ?_
 simp only[k106,Kf.of,zs,ze]
 unfold Pp at h
 exact pg @mn.eq_1 (.b .o (.l 2 1 (λ(q:((List GType) × Int))=>⟨[.k 3,.p 2,.k 5,.s (.own 2 0),.p 5,.k 11,.p 2,.s (aa q.2),.p 45],[.o 0,.o 1,.n 2 ((q.1.map ua))]⟩) (λ(b19:(List GType))=>⟨[.k 4,.p 1,.k 5,.s (.own 1 0),.p 5],[.o 1,.n 2 ((b19.map ua))]⟩) [ok 0,ok 1,on 2] (.b (.z 3 (.j 1 (λ(j9:Bool)=>⟨[.k 3,.p 27,.k 12,.s (ba j9),.p 32],[.o 0,.o 1,.o 2,.o 3]⟩) (.b (.t [ok 0,ok 1,ok 2,ok 3]) (.t [ok 0,ok 1,ok 2,ok 3])) (.b .o (.a [[],[],[],[],[],[],[],[],[],[],[]] (.b .o (.a [[],[],[],[2],[]] (.t [ok 0,ok 1,ov 2 2]))))))) (.t [ok 1,ok 2])) .o))⟩
instance {t0 t1 r}:Con (Dn t0 t1=some r) (Den Tryz.prog 136 [ob t0,Wb t1] (.tup [aa r.1,aa r.2])):=⟨λh=>by
 refine dk 55 k136 ?_
 simp only[k136,Kf.of,zs,ze]
 unfold Dn at h
 exact pg (And.intro @vj.eq_1 @uj.eq_1) (.b .o (.z 1 (.j 1 (λ(j5:Bool)=>⟨[.k 1,.p 3,.k 19,.s (ba j5),.p 33],[.o 0]⟩) (.b (.t [ok 0]) (.t [ok 0])) (.b .o (.l 1 0 (λ(s7:Int)=>⟨[.k 1,.p 5,.s (aa s7),.p 16],[.o 0]⟩) (λ(_:Unit)=>⟨[],[]⟩) [ok 0] (.b (.b .o (.l 1 0 (λ(s12:Int)=>⟨[.k 1,.p 6,.s (aa s12),.p 16],[.o 0]⟩) (λ(_:Unit)=>⟨[.k 1,.p 6],[.o 0]⟩) [ok 0] (.b (.b .o (.t [ok 0])) (.t [ok 0])) (.t [ok 0]))) (.t [])) .o)))))⟩
end Go.Proofs.Dev
