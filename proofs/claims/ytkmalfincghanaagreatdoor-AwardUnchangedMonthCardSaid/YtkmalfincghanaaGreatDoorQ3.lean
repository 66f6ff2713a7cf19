/-
  Contracts of the functions: each answers as its plain partial function says.
-/
import Derived.Test.YtkmalfincghanaaGreatDoorK
import Derived.Test.YtkmalfincghanaaGreatDoorG
import Derived.Test.YtkmalfincghanaaGreatDoorPD
import Derived.Test.YtkmalfincghanaaGreatDoorH1
import Derived.Test.YtkmalfincghanaaGreatDoorH2
set_option linter.all false
set_option maxHeartbeats 1000000
set_option maxRecDepth 10000
namespace Go.Proofs.Dev
open Go Go.Tm
instance {t0 r}:Con (Nk t0=some r) (Den Tryz.prog 22 [Qd t0] (ba r)):=⟨fun h=>by
 refine dk 7 k22 ?_
 simp only[k22,Kf.of,zs,ze]
 unfold Nk at h
 exact pg trivial .o⟩
instance {t0 r}:Con (vo t0=some r) (uA Tryz.prog 23 [] [] 2 (t0.map ob) (Zb r)):=⟨fun h=>by
 refine uA.at 21 L8.ok L8.nm Rx Rx (Fr.l _) rfl ?_
 simp only[L8,Kf.of,zs,ze]
 unfold vo at h
 exact pg trivial .o⟩
instance {r}:Con (zm=some r) (Den Tryz.prog 24 [] (xa r)):=⟨fun h=>by
 refine dk 2 k24 ?_
 simp only[k24,Kf.of,zs,ze]
 unfold zm at h
 exact pg trivial .o⟩
instance {t0 r}:Con (cmp_isNaN_int t0=some r) (Den Tryz.prog 128 [aa t0] (ba r)):=⟨fun h=>by
 refine dk 5 M6 ?_
 simp only[M6,Kf.of,zs,ze]
 unfold cmp_isNaN_int at h
 exact pg trivial .o⟩
instance {t0 r}:Con (nc t0=some r) (Den Tryz.prog 129 [xa t0] (ba r)):=⟨fun h=>by
 refine dk 17 A1 ?_
 simp only[A1,Kf.of,zs,ze]
 unfold nc at h
 exact pg trivial (.z 1 (.j 1 (fun(j3:Bool)=>⟨[.k 2,.s (ba j3),.p 15],[]⟩) (.b (.b (.t []) (.t [])) (.t [])) .o))⟩
instance {t0 t1 r}:Con (xe t0 t1=some r) (Den Tryz.prog 163 [Zb t0,aa t1] (.tup [Va r.1,aa r.2])):=⟨fun h=>by
 refine dk 26 X2 ?_
 simp only[X2,Kf.of,zs,ze]
 unfold xe at h
 exact pg trivial (.z 3 (.j 1 (fun(j3:Bool)=>⟨[.k 2,.p 2,.k 2,.p 1,.k 14,.s (ba j3),.p 6],[.o 0]⟩) (.b (.t [ok 0]) (.t [ok 0])) .o))⟩
instance {t0 r}:Con (bl t0=some r) (Den Tryz.prog 193 [zP t0] (ba r)):=⟨fun h=>by
 refine dk 8 Q1 ?_
 simp only[Q1,Kf.of,zs,ze]
 unfold bl at h
 exact pg trivial (.z 1 (.j 1 (fun(j2:Bool)=>⟨[.k 2,.s (ba j2),.p 6],[]⟩) (.b (.t []) (.t [])) .o))⟩
instance {t0 r}:Con (yg t0=some r) (Den Tryz.prog 195 [Eh t0] (ba r)):=⟨fun h=>by
 refine dk 59 W2 ?_
 simp only[W2,Kf.of,zs,ze]
 unfold yg at h
 exact pg trivial (.z 3 (.j 1 (fun(j55:Bool)=>⟨[.k 4,.s (ba j55),.p 55],[]⟩) (.b (.t []) (.b (.t []) (.b (.t []) (.b (.t []) (.b (.t []) (.b (.t []) (.b (.t []) (.b (.t []) (.b (.t []) (.b (.t []) (.b (.t []) (.b (.t []) (.b (.t []) (.b (.t []) (.b (.t []) (.b (.t []) (.b (.t []) (.b (.t []) (.b (.t []) (.b (.t []) (.b (.t []) (.b (.t []) (.b (.t []) (.b (.t []) (.b (.t []) (.b (.t []) (.b (.t []) (.b (.t []) (.b (.t []) (.b (.t []) (.b (.t []) (.b (.t []) (.b (.t []) (.b (.t []) (.b (.t []) (.b (.t []) (.b (.t []) (.b (.t []) (.b (.t []) (.b (.t []) (.b (.t []) (.b (.t []) (.b (.t []) (.b (.t []) (.b (.t []) (.b (.t []) (.b (.t []) (.b (.t []) (.b (.t []) (.b (.t []) (.b (.t []) (.b (.t []) (.b (.t []) (.b (.t []) (.t []))))))))))))))))))))))))))))))))))))))))))))))))))))))) .o))⟩
instance {t0 r}:Con (Gaf t0=some r) (Den Tryz.prog 229 [zP t0] (ba r)):=⟨fun h=>by
 refine dk 8 J3 ?_
 simp only[J3,Kf.of,zs,ze]
 unfold Gaf at h
 exact pg trivial (.z 1 (.j 1 (fun(j2:Bool)=>⟨[.k 2,.s (ba j2),.p 6],[]⟩) (.b (.t []) (.t [])) .o))⟩
instance {t0 r}:Con (Bh t0=some r) (Den Tryz.prog 274 [aa t0] (aa r)):=⟨fun h=>by
 refine dk 46 Z0 ?_
 simp only[Z0,Kf.of,zs,ze]
 unfold Bh at h
 exact pg trivial (.z 3 (.j 1 (fun(j14:Bool)=>⟨[.k 3,.p 1,.s (ba j14),.p 42],[]⟩) (.b (.t []) (.b (.t []) (.b (.t []) (.b (.t []) (.b (.t []) (.b (.t []) (.b (.t []) (.b (.t []) (.b (.t []) (.b (.t []) (.b (.t []) (.b (.t []) (.b (.t []) (.t [])))))))))))))) (.b .o (.j 1 (fun(j21:Bool)=>⟨[.k 3,.p 1,.k 15,.s (ba j21),.p 27],[]⟩) (.b (.t []) (.b (.t []) (.b (.t []) (.b (.t []) (.b (.t []) (.t [])))))) (.b .o (.j 1 (fun(j40:Bool)=>⟨[.k 3,.p 16,.k 7,.s (ba j40),.p 20],[]⟩) (.b (.t []) (.b (.t []) (.b (.t []) (.b (.t []) (.b (.t []) (.b (.t []) (.b (.t []) (.b (.t []) (.b (.t []) (.b (.t []) (.b (.t []) (.b (.t []) (.b (.t []) (.b (.t []) (.b (.t []) (.b (.t []) (.b (.t []) (.t [])))))))))))))))))) .o))))))⟩
instance {t0 t1 r}:Con (rn t0 t1=some r) (Den Tryz.prog 277 [ob t0,ik t1] (ba r)):=⟨fun h=>by
 refine dk 79 a7 ?_
 simp only[a7,Kf.of,zs,ze]
 unfold rn at h
 exact pg trivial (.b (.j 1 (fun(j3:Bool)=>⟨[.k 4,.s (ba j3)],[]⟩) (.b (.t []) (.t [])) .o) (.b (.j 1 (fun(j8:Bool)=>⟨[.k 4,.s (ba j8)],[]⟩) (.b (.b (.t []) (.t [])) (.t [])) .o) (.b (.j 1 (fun(j11:Bool)=>⟨[.k 4,.s (ba j11)],[]⟩) (.b (.t []) (.t [])) .o) (.b .o (.j 1 (fun(j16:Bool)=>⟨[.k 2,.p 2,.k 61,.s (ba j16),.p 15],[.o 0,.o 1]⟩) (.b (.t [ok 0,ok 1]) (.b (.t [ok 0,ok 1]) (.b (.t [ok 0,ok 1]) (.t [ok 0,ok 1])))) (.b (.j 1 (fun(j19:Bool)=>⟨[.k 4,.s (ba j19),.p 60],[]⟩) (.b (.t []) (.t [])) .o) .o))))))⟩
instance {t0 r}:Con (Oj t0=some r) (Den Tryz.prog 298 [aa t0] (ba r)):=⟨fun h=>by
 refine dk 21 G7 ?_
 simp only[G7,Kf.of,zs,ze]
 unfold Oj at h
 exact pg trivial (.z 3 (.j 1 (fun(j17:Bool)=>⟨[.k 4,.s (ba j17),.p 17],[]⟩) (.b (.t []) (.b (.t []) (.b (.t []) (.b (.t []) (.b (.t []) (.b (.t []) (.b (.t []) (.b (.t []) (.b (.t []) (.b (.t []) (.b (.t []) (.b (.t []) (.b (.t []) (.b (.t []) (.b (.t []) (.b (.t []) (.t []))))))))))))))))) .o))⟩
instance {t0 t1 r}:Con (ph t0 t1=some r) (Den Tryz.prog 300 [sa t0,aa t1] (sa r)):=⟨fun h=>by
 refine dk 22 w7 ?_
 simp only[w7,Kf.of,zs,ze]
 unfold ph at h
 exact pg @Oe.eq_1 (.l 2 1 (fun(q:((List Int) × Int))=>⟨[.k 1,.p 3,.k 1,.s (.own 0 0),.p 4,.s (aa q.2),.p 13],[.n 1 ((q.1.map aa))]⟩) (fun(b10:(List Int))=>⟨[.k 5,.s (.own 0 0),.p 2],[.n 1 ((b10.map aa))]⟩) [on 1] (.b (.j 1 (fun(j7:(List Int))=>⟨[.k 1,.p 10],[.c 0 ((j7.map aa))]⟩) (.b (.t [ov 0 1]) (.t [ok 0])) (.t [ok 0])) (.t [ok 0])) .o)⟩
instance {t0 t1 r}:Con (Gd t0 t1=some r) (Den Tryz.prog 305 [pa t0,pa t1] (ba r)):=⟨fun h=>by
 refine dk 15 W6 ?_
 simp only[W6,Kf.of,zs,ze]
 unfold Gd at h
 exact pg trivial (.z 1 (.j 1 (fun(j2:Bool)=>⟨[.k 4,.s (ba j2),.p 12],[]⟩) (.b (.t []) (.t [])) .o))⟩
instance {t0 r}:Con (Mf t0=some r) (Den Tryz.prog 336 [aa t0] (ba r)):=⟨fun h=>by
 refine dk 12 B7 ?_
 simp only[B7,Kf.of,zs,ze]
 unfold Mf at h
 exact pg trivial (.z 1 (.j 1 (fun(j3:Bool)=>⟨[.k 2,.s (ba j3),.p 10],[]⟩) (.b (.b (.t []) (.t [])) (.t [])) .o))⟩
instance {t0 r}:Con (Yj t0=some r) (Den Tryz.prog 370 [aa t0] (ba r)):=⟨fun h=>by
 refine dk 8 u7 ?_
 simp only[u7,Kf.of,zs,ze]
 unfold Yj at h
 exact pg trivial (.z 1 (.j 1 (fun(j2:Bool)=>⟨[.k 2,.s (ba j2),.p 6],[]⟩) (.b (.t []) (.t [])) .o))⟩
instance {t0 t1 r}:Con (cmp_Less_int t0 t1=some r) (Den Tryz.prog 82 [aa t0,aa t1] (ba r)):=⟨fun h=>by
 refine dk 15 k82 ?_
 simp only[k82,Kf.of,zs,ze]
 unfold cmp_Less_int at h
 exact pg trivial (.z 1 (.j 1 (fun(j5:Bool)=>⟨[.k 4,.s (ba j5),.p 12],[]⟩) (.b (.b (.t []) (.t [])) (.t [])) .o))⟩
instance {t0 r}:Con (Yh t0=some r) (Den Tryz.prog 85 [xa t0] (ba r)):=⟨fun h=>by
 refine dk 11 k85 ?_
 simp only[k85,Kf.of,zs,ze]
 unfold Yh at h
 exact pg trivial (.z 1 (.j 1 (fun(j3:Bool)=>⟨[.k 2,.s (ba j3),.p 9],[]⟩) (.b (.t []) (.t [])) .o))⟩
instance {t0 r}:Con (Xb t0=some r) (Den Tryz.prog 130 [xa t0] (ba r)):=⟨fun h=>by
 refine dk 11 H5 ?_
 simp only[H5,Kf.of,zs,ze]
 unfold Xb at h
 exact pg trivial (.z 1 (.j 1 (fun(j3:Bool)=>⟨[.k 2,.s (ba j3),.p 9],[]⟩) (.b (.t []) (.t [])) .o))⟩
instance {t0 t1 r}:Con (Eb t0 t1=some r) (Den Tryz.prog 160 [xa t0,aa t1] (ba r)):=⟨fun h=>by
 refine dk 17 L6 ?_
 simp only[L6,Kf.of,zs,ze]
 unfold Eb at h
 exact pg trivial (.z 1 (.j 1 (fun(j4:Bool)=>⟨[.k 4,.s (ba j4),.p 14],[]⟩) (.b (.b (.t []) (.t [])) (.t [])) .o))⟩
instance {t0 r}:Con (Th t0=some r) (Den Tryz.prog 194 [Eh t0] (aa r)):=⟨fun h=>by
 refine dk 28 T7 ?_
 simp only[T7,Kf.of,zs,ze]
 unfold Th at h
 exact pg @Lc.eq_1 (.l 1 1 (fun(s1:Int)=>⟨[.p 2,.k 1,.s (aa s1),.p 25],[]⟩) (fun(b11:Int)=>⟨[.k 3,.s (aa b11),.p 25],[]⟩) [] (.z 1 (.j 1 (fun(j8:Bool)=>⟨[.p 25,.s (ba j8),.p 3],[]⟩) (.b (.b (.b (.t []) (.t [])) (.t [])) (.t [])) (.b (.t []) (.t [])))) .o)⟩
instance {t0 r}:Con (oi t0=some r) (Den Tryz.prog 248 [lj t0] (.tup [sa r.1,aa r.2.1,aa r.2.2])):=⟨fun h=>by
 refine dk 75 O7 ?_
 simp only[O7,Kf.of,zs,ze]
 unfold oi at h
 exact pg @uh.eq_1 (.b .o (.b .o (.l 3 2 (fun(q:((List Int) × (List Int) × Int))=>⟨[.p 2,.k 3,.p 1,.s (.own 1 0),.p 3,.k 9,.p 2,.s (aa q.2.2),.p 54],[.c 0 ((q.1.map aa)),.n 1 ((q.2.1.map aa))]⟩) (fun(q:((List Int) × (List Int)))=>⟨[.p 2,.k 3,.p 1,.s (.own 1 0),.p 3],[.c 0 ((q.1.map aa)),.n 1 ((q.2.map aa))]⟩) [ok 0,on 1] (.b (.b .o (.b .o (.z 1 (.j 1 (fun(j18:(List Int))=>⟨[.p 8,.k 1,.p 13],[.c 0 ((j18.map aa)),.o 1]⟩) (.b (.t [ok 0,ok 1]) (.t [ok 0,ok 1])) (.a [[],[],[],[],[],[],[],[],[5],[5],[]] (.b .o (.t [ok 0,ov 1 2]))))))) (.t [ok 0,ok 1])) .o)))⟩
instance {t0 t1 r}:Con (sd t0 t1=some r) (Den Tryz.prog 249 [oa t0,aa t1] (sa r)):=⟨fun h=>by
 refine dk 34 B3 ?_
 simp only[B3,Kf.of,zs,ze]
 unfold sd at h
 exact pg @ig.eq_1 (.l 3 1 (fun(q:((List Int) × Int × Int))=>⟨[.k 2,.p 2,.k 1,.p 1,.s (aa q.2.1),.s (aa q.2.2)],[.o 0,.c 1 ((q.1.map aa))]⟩) (fun(b14:(List Int))=>⟨[.k 5,.p 1],[.c 1 ((b14.map aa))]⟩) [ok 0,ok 1] (.b (.t [ok 0,ok 1]) (.t [ok 1])) .o)⟩
instance {t0 t1 r}:Con (Ui t0 t1=some r) (Den Tryz.prog 273 [Tf t0,aa t1] (sa r)):=⟨fun h=>by
 refine dk 65 l6 ?_
 simp only[l6,Kf.of,zs,ze]
 unfold Ui at h
 exact pg @Cg.eq_1 (.l 2 1 (fun(q:((List Int) × Int))=>⟨[.k 2,.p 2,.k 1,.s (.own 1 0),.p 2,.k 3,.p 2,.s (aa q.2),.p 53],[.o 0,.n 1 ((q.1.map aa))]⟩) (fun(b26:(List Int))=>⟨[.k 5,.s (.own 0 0),.p 2],[.n 1 ((b26.map aa))]⟩) [ok 0,on 1] (.b (.j 1 (fun(j23:(List Int))=>⟨[.k 2,.p 12],[.o 0,.c 1 ((j23.map aa))]⟩) (.b (.t [ok 0,ok 1]) (.j 1 (fun(j15:(List Int))=>⟨[.k 2,.p 12],[.o 0,.c 1 ((j15.map aa))]⟩) (.j 1 (fun(j12:Bool)=>⟨[.k 2,.p 12,.k 26,.s (ba j12),.p 26],[.o 0,.o 1]⟩) (.b (.t [ok 0,ok 1]) (.t [ok 0,ok 1])) (.b (.t [ok 0,ov 1 1]) (.t [ok 0,ok 1]))) (.j 1 (fun(j20:Bool)=>⟨[.k 2,.p 58,.s (ba j20),.p 6],[.o 0,.o 1]⟩) (.b (.t [ok 0,ok 1]) (.t [ok 0,ok 1])) (.b (.t [ok 0,ov 1 1]) (.t [ok 0,ok 1]))))) (.t [ok 0,ok 1])) (.t [ok 1])) .o)⟩
instance {t0 r}:Con (aj t0=some r) (Den Tryz.prog 276 [ob t0] (ba r)):=⟨fun h=>by
 refine dk 47 V3 ?_
 simp only[V3,Kf.of,zs,ze]
 unfold aj at h
 exact pg trivial (.z 2 (.j 1 (fun(j5:Bool)=>⟨[.k 1,.p 1,.k 15,.s (ba j5),.p 30],[.o 0]⟩) (.b (.b (.t [ok 0]) (.t [ok 0])) (.t [ok 0])) (.b .o (.z 2 (.j 1 (fun(j9:Bool)=>⟨[.k 1,.p 16,.k 2,.p 1,.s (ba j9),.p 27],[.o 0]⟩) (.b (.t [ok 0]) (.b (.t [ok 0]) (.t [ok 0]))) (.b (.j 1 (fun(j12:Bool)=>⟨[.k 2,.s (ba j12),.p 16],[]⟩) (.b (.t []) (.t [])) .o) (.b (.j 1 (fun(j15:Bool)=>⟨[.k 2,.s (ba j15),.p 16],[]⟩) (.b (.t []) (.t [])) .o) .o)))))))⟩
instance {t0 t1 r}:Con (Zc t0 t1=some r) (Den Tryz.prog 302 [aa t0,Oa t1] (ba r)):=⟨fun h=>by
 refine dk 30 K7 ?_
 simp only[K7,Kf.of,zs,ze]
 unfold Zc at h
 exact pg trivial (.b .o (.b (.j 1 (fun(j4:Bool)=>⟨[.k 4,.s (ba j4)],[]⟩) (.b (.t []) (.t [])) .o) (.b (.j 1 (fun(j8:Bool)=>⟨[.k 4,.s (ba j8)],[]⟩) (.b (.t []) (.t [])) .o) .o)))⟩
instance {t0 t1 r}:Con (Za t0 t1=some r) (Den Tryz.prog 303 [aa t0,aa t1] (ba r)):=⟨fun h=>by
 refine dk 14 F4 ?_
 simp only[F4,Kf.of,zs,ze]
 unfold Za at h
 exact pg trivial .o⟩
instance {t0 t1 t2 r}:Con (Ca t0 t1 t2=some r) (Den Tryz.prog 304 [aa t0,pa t1,pa t2] (ba r)):=⟨fun h=>by
 refine dk 131 EZ ?_
 simp only[EZ,Kf.of,zs,ze]
 unfold Ca at h
 exact pg trivial (.z 3 (.j 1 (fun(j2:Bool)=>⟨[.k 4,.p 2,.k 1,.p 1,.s (ba j2),.p 125],[.o 0,.o 1]⟩) (.b (.t [ok 0,ok 1]) (.t [ok 0,ok 1])) (.b (.j 1 (fun(j7:Bool)=>⟨[.k 6,.s (ba j7)],[]⟩) (.b (.t []) (.t [])) .o) (.b (.j 1 (fun(j11:Bool)=>⟨[.k 6,.s (ba j11)],[]⟩) (.b (.b (.t []) (.t [])) (.t [])) .o) (.b (.j 1 (fun(j15:Bool)=>⟨[.k 6,.s (ba j15)],[]⟩) (.b (.b (.t []) (.t [])) (.t [])) .o) (.b (.b (.j 1 (fun(j19:Bool)=>⟨[.k 6,.s (ba j19)],[]⟩) (.b (.t []) (.t [])) .o) (.j 1 (fun(j21:Bool)=>⟨[.k 6,.s (ba j21)],[]⟩) (.b (.t []) (.t [])) .o)) (.b (.j 1 (fun(j24:Bool)=>⟨[.k 6,.s (ba j24)],[]⟩) (.b (.t []) (.t [])) .o) (.j 1 (fun(j28:Bool)=>⟨[.k 4,.p 4,.k 72,.s (ba j28),.p 53],[.o 0,.o 1]⟩) (.b (.t [ok 0,ok 1]) (.b (.t [ok 0,ok 1]) (.b (.t [ok 0,ok 1]) (.t [ok 0,ok 1])))) (.b (.j 1 (fun(j34:Bool)=>⟨[.k 6,.s (ba j34)],[]⟩) (.b (.b (.t []) (.t [])) (.t [])) .o) (.j 1 (fun(j36:Bool)=>⟨[.k 4,.p 76,.k 18,.s (ba j36),.p 35],[.o 0,.o 1]⟩) (.b (.t [ok 0,ok 1]) (.t [ok 0,ok 1])) (.b .o (.j 1 (fun(j40:Bool)=>⟨[.k 4,.p 94,.k 6,.s (ba j40),.p 29],[.o 0,.o 1]⟩) (.b (.t [ok 0,ok 1]) (.t [ok 0,ok 1])) (.b (.j 1 (fun(j43:Bool)=>⟨[.k 6,.s (ba j43)],[]⟩) (.b (.t []) (.t [])) .o) (.j 1 (fun(j45:Bool)=>⟨[.k 4,.p 3,.k 108,.s (ba j45),.p 18],[.o 0,.o 1]⟩) (.b (.t [ok 0,ok 1]) (.t [ok 0,ok 1])) (.b (.j 1 (fun(j48:Bool)=>⟨[.k 6,.s (ba j48),.p 108],[]⟩) (.b (.t []) (.t [])) .o) (.j 1 (fun(j50:Bool)=>⟨[.k 6,.s (ba j50),.p 108],[]⟩) (.b (.t []) (.t [])) .o))))))))))))))))⟩
end Go.Proofs.Dev
