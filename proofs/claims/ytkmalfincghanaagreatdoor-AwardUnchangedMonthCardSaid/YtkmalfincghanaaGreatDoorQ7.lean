/-
  Contracts of the functions: each answers as its plain partial function says.
-/
import Derived.Test.YtkmalfincghanaaGreatDoorK
import Derived.Test.YtkmalfincghanaaGreatDoorG
import Derived.Test.YtkmalfincghanaaGreatDoorPD
import Derived.Test.YtkmalfincghanaaGreatDoorH1
import Derived.Test.YtkmalfincghanaaGreatDoorH2
import Derived.Test.YtkmalfincghanaaGreatDoorQ0
import Derived.Test.YtkmalfincghanaaGreatDoorQ1
import Derived.Test.YtkmalfincghanaaGreatDoorQ2
import Derived.Test.YtkmalfincghanaaGreatDoorQ3
set_option linter.all false
set_option maxHeartbeats 1000000
set_option maxRecDepth 10000
namespace Go.Proofs.Dev
open Go Go.Tm
instance {t0 t1 t2 r}:Con (ah t0 t1 t2=some r) (Den Tryz.prog 38 [aa t0,aa t1,aa t2] (.tup [aa r.1,aa r.2])):=⟨fun h=>by
 refine dk 50 k38 ?_
 simp only[k38,Kf.of,zs,ze]
 unfold ah at h
 exact pg @qc.eq_1 (.z 2 (.j 1 (fun(j7:Bool)=>⟨[.p 6,.k 28,.s (ba j7),.p 18],[]⟩) (.b (.b (.b (.b (.b (.t []) (.t [])) (.t [])) (.t [])) (.t [])) (.t [])) (.b .o (.l 2 1 (fun(q:(Int × Int))=>⟨[.p 1,.k 1,.p 6,.s (aa q.1),.p 25,.k 4,.p 1,.s (aa q.2),.p 13],[]⟩) (fun(b16:Int)=>⟨[.k 2,.p 6,.s (aa b16),.p 25],[]⟩) [] (.b (.t []) (.t [])) .o))))⟩
instance {t0 r}:Con (xr t0=some r) (Den Tryz.prog 39 [aa t0] (aa r)):=⟨fun h=>by
 refine dk 12 k39 ?_
 simp only[k39,Kf.of,zs,ze]
 unfold xr at h
 exact pg trivial .o⟩
instance {t0 r}:Con (On t0=some r) (Den Tryz.prog 213 [lj t0] (.tup [sa r.1,aa r.2])):=⟨fun h=>by
 refine dk 14 G3 ?_
 simp only[G3,Kf.of,zs,ze]
 unfold On at h
 exact pg trivial .o⟩
instance {t0 t1 r}:Con (Nh t0 t1=some r) (Den Tryz.prog 228 [xa t0,xa t1] (.tup [xa r.1,ba r.2])):=⟨fun h=>by
 refine dk 32 z6 ?_
 simp only[z6,Kf.of,zs,ze]
 unfold Nh at h
 exact pg trivial (.z 2 (.j 1 (fun(j4:Bool)=>⟨[.k 2,.p 3,.k 9,.s (ba j4),.p 19],[.o 0,.o 1,.o 2]⟩) (.b (.t [ok 0,ok 1,ok 2]) (.t [ok 0,ok 1,ok 2])) .o))⟩
theorem bm{t0 t1 t2 r} (h:Td t0 t1 t2=some r):Den Tryz.prog 244 [Qa t0,Bg t1,Bg t2] (ba r):=by
 refine dk 12 JZ ?_
 simp only[JZ,Kf.of,zs,ze]
 unfold Td at h
 exact pg trivial (.z 1 (.j 1 (fun(j3:Bool)=>⟨[.k 4,.s (ba j3),.p 10],[]⟩) (.b (.t []) (.t [])) .o))
instance {t0 t1 t2 r}:Con (Td t0 t1 t2=some r) (Den Tryz.prog 244 [Qa t0,Bg t1,Bg t2] (ba r)):=⟨bm⟩
instance {t0 t1 t2 r}:Con (Qb t0 t1 t2=some r) (Den Tryz.prog 329 [aa t0,aa t1,Fa t2] (.tup [Oa r.1,aa r.2])):=⟨fun h=>by
 refine dk 27 J5 ?_
 simp only[J5,Kf.of,zs,ze]
 unfold Qb at h
 exact pg trivial (.z 4 (.j 1 (fun(j3:Bool)=>⟨[.k 6,.p 1,.k 1,.p 1,.k 18,.s (ba j3),.p 2],[.o 1,.o 2]⟩) (.b (.t [ok 1,ok 2]) (.t [ok 1,ok 2])) .o))⟩
instance {t0 t1 r}:Con (Mg t0 t1=some r) (Den Tryz.prog 333 [ob t0,Fa t1] (.tup [Oa r.1,aa r.2])):=⟨fun h=>by
 refine dk 60 X4 ?_
 simp only[X4,Kf.of,zs,ze]
 unfold Mg at h
 exact pg trivial (.b .o (.b .o (.b .o (.z 1 (.j 1 (fun(j13:Bool)=>⟨[.k 4,.p 1,.k 1,.p 1,.k 1,.s (ba j13)],[.o 2,.o 3]⟩) (.b (.b (.t [ok 2,ok 3]) (.t [ok 2,ok 3])) (.j 1 (fun(j8:Bool)=>⟨[.k 4,.p 1,.k 1,.p 1,.k 1,.p 1,.k 22,.p 1,.k 10,.s (ba j8),.p 19],[.o 2,.o 3]⟩) (.b (.t [ok 2,ok 3]) (.t [ok 2,ok 3])) (.b (.t [ok 0,ok 1]) (.b (.b (.t [ok 0,ok 1]) (.t [ok 0,ok 1])) (.t [ok 0,ok 1]))))) .o)))))⟩
instance {t0 t1 t2 r}:Con (Uj t0 t1 t2=some r) (Den Tryz.prog 339 [aa t0,aa t1,aa t2] (.tup [aa r.1,aa r.2])):=⟨fun h=>by
 refine dk 57 Y2 ?_
 simp only[Y2,Kf.of,zs,ze]
 unfold Uj at h
 exact pg trivial (.z 4 (.j 1 (fun(j2:Bool)=>⟨[.p 6,.k 17,.s (ba j2),.p 36],[]⟩) (.b (.t []) (.t [])) (.b .o (.z 1 (.j 1 (fun(j6:Int)=>⟨[.p 8,.s (aa j6),.p 14],[]⟩) (.b (.t []) (.b (.t []) (.t []))) (.b .o (.z 2 (.j 1 (fun(j10:Bool)=>⟨[.k 11,.p 25,.k 22,.s (ba j10),.p 1],[]⟩) (.b (.t []) (.t [])) .o))))))))⟩
instance {t0 r}:Con (Ci t0=some r) (Den Tryz.prog 341 [aa t0] (.tup [aa r.1,aa r.2.1,aa r.2.2])):=⟨fun h=>by
 refine dk 44 y6 ?_
 simp only[y6,Kf.of,zs,ze]
 unfold Ci at h
 exact pg (And.intro @kj.eq_1 @ij.eq_1) (.b .o (.l 1 1 (fun(s3:Int)=>⟨[.p 2,.k 3,.s (aa s3),.p 3],[]⟩) (fun(b7:Int)=>⟨[.p 2,.k 3,.s (aa b7),.p 3],[]⟩) [] (.b (.t []) (.t [])) (.l 2 0 (fun(q:(Int × Int))=>⟨[.k 5,.p 1,.s (aa q.1),.p 15,.k 4,.s (aa q.2),.p 18],[]⟩) (fun(_:Unit)=>⟨[],[]⟩) [] (.b (.b .o (.t [])) (.t [])) .o)))⟩
instance {t0 t1 t2 r}:Con (Ho t0 t1 t2=some r) (Den Tryz.prog 372 [aa t0,aa t1,aa t2] (.tup [aa r.1,aa r.2])):=⟨fun h=>by
 refine dk 11 U7 ?_
 simp only[U7,Kf.of,zs,ze]
 unfold Ho at h
 exact pg trivial .o⟩
instance {t0 t1 t2 r}:Con (Ws t0 t1 t2=some r) (Den Tryz.prog 373 [aa t0,aa t1,aa t2] (.tup [aa r.1,aa r.2])):=⟨fun h=>by
 refine dk 30 U3 ?_
 simp only[U3,Kf.of,zs,ze]
 unfold Ws at h
 exact pg trivial (.b .o (.z 1 (.j 1 (fun(j6:Bool)=>⟨[.p 6,.k 12,.s (ba j6),.p 14],[]⟩) (.b (.t []) (.t [])) .o)))⟩
instance {t0 t1 t2 r}:Con (Vk t0 t1 t2=some r) (Den Tryz.prog 374 [aa t0,aa t1,aa t2] (.tup [aa r.1,aa r.2])):=⟨fun h=>by
 refine dk 35 Q7 ?_
 simp only[Q7,Kf.of,zs,ze]
 unfold Vk at h
 exact pg trivial (.b .o (.b .o (.z 1 (.j 1 (fun(j6:Bool)=>⟨[.p 6,.k 14,.s (ba j6),.p 17],[]⟩) (.b (.t []) (.t [])) .o))))⟩
instance {t0 r}:Con (Pl t0=some r) (Den Tryz.prog 19 [aa t0] (.tup [xa r.1,aa r.2])):=⟨fun h=>by
 refine dk 29 k19 ?_
 simp only[k19,Kf.of,zs,ze]
 unfold Pl at h
 exact pg trivial .o⟩
instance {t0 t1 r}:Con (Nj t0 t1=some r) (Den Tryz.prog 192 [di t0,di t1] (ba r)):=⟨fun h=>by
 refine dk 27 C6 ?_
 simp only[C6,Kf.of,zs,ze]
 unfold Nj at h
 exact pg trivial (.z 2 (.j 1 (fun(j3:Bool)=>⟨[.k 4,.s (ba j3)],[]⟩) (.b (.t []) (.t [])) .o))⟩
instance {t0 c10 c11 r}:Con (Sd t0 (fun x900=>Td x900 c10 c11)=some r) (Den Tryz.prog 243 [Ud t0,.fn 244 [] [Bg c10,Bg c11]] (.tup [sa r.1,sa r.2])):=⟨fun h=>yr (q1:=[Bg c10,Bg c11]) (Vz (Vz Rx)) (fun x900 _ hb=>bm hb) h⟩
theorem Rt{t0 t1 t2 r} (h:Pf t0 t1 t2=some r):Den Tryz.prog 211 [Ea t0,aa t1,aa t2] (.tup [sa r.1,sa r.2.1,sa r.2.2]):=by
 refine dk 37 K6 ?_
 simp only[K6,Kf.of,zs,ze]
 unfold Pf at h
 exact pg @Cf.eq_1 (.z 2 (.d [.o 0] [ok 0] (.l 2 1 (fun(q:((List Int) × Int))=>⟨[.k 3,.p 1,.k 5,.p 2,.s (.own 1 0),.p 2,.k 7,.p 2,.s (aa q.2),.p 16],[.o 0,.n 1 ((q.1.map aa))]⟩) (fun(b10:(List Int))=>⟨[.k 9,.p 2,.s (.own 0 0),.p 2],[.n 1 ((b10.map aa))]⟩) [ok 0,on 1] (.b (.t [ok 0,ov 1 1]) (.t [ok 1])) .o)))
instance {t0 t1 t2 r}:Con (Pf t0 t1 t2=some r) (Den Tryz.prog 211 [Ea t0,aa t1,aa t2] (.tup [sa r.1,sa r.2.1,sa r.2.2])):=⟨Rt⟩
instance {t0 t1 t2 r}:Con (za t0 t1 t2=some r) (Den Tryz.prog 299 [ob t0,Rl t1,Fa t2] (.tup [Oa r.1,aa r.2])):=⟨fun h=>by
 refine dk 122 o5 ?_
 simp only[o5,Kf.of,zs,ze]
 unfold za at h
 exact pg trivial (.z 1 (.e 0 (fun(_:Unit)=>⟨[.k 1,.p 1,.k 1,.p 2,.k 1,.p 1],[.o 0,.o 2]⟩) (.b .o (.b .o (.b .o (.b .o (.b .o (.b .o (.b .o (.b .o (.b .o (.j 1 (fun(j19:Bool)=>⟨[.k 1,.p 1,.k 1,.p 4,.k 4,.p 1,.k 71,.s (ba j19),.p 41],[.o 0,.o 1,.o 2]⟩) (.b (.t [ok 0,ok 1,ok 2]) (.t [ok 0,ok 1,ok 2])) (.b .o (.j 1 (fun(j27:Bool)=>⟨[.k 1,.p 82,.k 11,.s (ba j27),.p 30],[.o 0,.o 1,.o 2]⟩) (.b (.t [ok 0,ok 1,ok 2]) (.b (.t [ok 0,ok 1,ok 2]) (.b (.t [ok 0,ok 1,ok 2]) (.b (.t [ok 0,ok 1,ok 2]) (.t [ok 0,ok 1,ok 2]))))) (.b .o (.j 1 (fun(j32:Bool)=>⟨[.k 1,.p 4,.k 1,.p 5,.k 94,.s (ba j32),.p 19],[.o 0,.o 2]⟩) (.b (.t [ok 0,ok 2]) (.b (.t [ok 0,ok 2]) (.t [ok 0,ok 2]))) (.b (.b .o (.t [ok 0,ok 1])) (.t [ok 0,ok 1])))))))))))))))) .o))⟩
instance {t0 t1 t2 t3 r}:Con (pk t0 t1 t2 t3=some r) (Den Tryz.prog 308 [yb t0,aa t1,aa t2,aa t3] (.tup [aa r.1,aa r.2])):=⟨fun h=>by
 refine dk 86 FZ ?_
 simp only[FZ,Kf.of,zs,ze]
 unfold pk at h
 exact pg @oh.eq_1 (.z 2 (.j 1 (fun(j2:Bool)=>⟨[.k 1,.p 7,.k 16,.s (ba j2),.p 65],[.o 0]⟩) (.b (.t [ok 0]) (.t [ok 0])) (.b .o (.z 1 (.j 1 (fun(j5:Bool)=>⟨[.k 1,.p 23,.k 10,.s (ba j5),.p 55],[.o 0]⟩) (.b (.t [ok 0]) (.t [ok 0])) (.b .o (.z 1 (.j 1 (fun(j8:Bool)=>⟨[.k 1,.p 33,.k 6,.s (ba j8),.p 49],[.o 0]⟩) (.b (.t [ok 0]) (.t [ok 0])) (.b .o (.l 3 2 (fun(q:(Int × Int × Int))=>⟨[.k 1,.p 3,.k 6,.s (aa q.1),.s (aa q.2.1),.p 28,.k 2,.p 2,.s (aa q.2.2),.p 45],[]⟩) (fun(q:(Int × Int))=>⟨[.k 3,.p 1,.k 6,.s (aa q.1),.s (aa q.2),.p 28],[]⟩) [] (.b (.e 2 (fun(q:(Int × Int))=>⟨[.k 1,.p 9,.s (aa q.1),.s (aa q.2),.p 33],[]⟩) (.z 3 (.j 1 (fun(j17:Bool)=>⟨[.k 1,.p 44,.k 19,.s (ba j17),.p 25],[.o 0]⟩) (.b (.t [ok 0]) (.t [ok 0])) (.b (.t []) (.b .o (.t []))))) (.t [])) (.t [])) .o))))))))))⟩
instance {t0 t1 r}:Con (Jl t0 t1=some r) (Den Tryz.prog 309 [aa t0,pa t1] (pa r)):=⟨fun h=>by
 refine dk 34 P0 ?_
 simp only[P0,Kf.of,zs,ze]
 unfold Jl at h
 exact pg trivial .o⟩
instance {t0 t1 t2 r}:Con (Me t0 t1 t2=some r) (Den Tryz.prog 342 [ob t0,pa t1,pa t2] (.tup [pa r.1,aa r.2])):=⟨fun h=>by
 refine dk 102 S7 ?_
 simp only[S7,Kf.of,zs,ze]
 unfold Me at h
 exact pg trivial (.z 2 (.j 3 (fun(q:(Int × Int × Int))=>⟨[.k 6,.p 1,.k 1,.p 1,.s (aa q.2.2)],[.o 3,.h 4 [.g [.s (aa q.1),.p 1,.s (aa q.2.1)]]]⟩) (.b (.t [ok 3,ok 4]) (.j 1 (fun(j4:Bool)=>⟨[.k 3,.p 4,.k 1,.p 1,.k 29,.s (ba j4),.p 66],[.o 0,.o 1,.o 2,.o 3,.o 4]⟩) (.b (.t [ok 0,ok 1,ok 2,ok 3,ok 4]) (.t [ok 0,ok 1,ok 2,ok 3,ok 4])) (.b (.t [ok 3,ok 4]) (.b (.t [ok 3,ok 4]) (.b (.t [ok 3,ok 4]) (.b (.t [ok 3,ok 4]) (.t [ok 3,ok 4]))))))) .o))⟩
instance {t0 t1 r}:Con (Re t0 t1=some r) (Den Tryz.prog 343 [aa t0,aa t1] (.tup [aa r.1,aa r.2])):=⟨fun h=>by
 refine dk 55 D5 ?_
 simp only[D5,Kf.of,zs,ze]
 unfold Re at h
 exact pg trivial (.z 2 (.j 1 (fun(j4:Bool)=>⟨[.p 4,.k 16,.s (ba j4),.p 36],[]⟩) (.b (.b (.t []) (.t [])) (.t [])) (.b .o (.z 3 (.j 1 (fun(j8:Bool)=>⟨[.k 8,.p 12,.k 20,.s (ba j8),.p 16],[]⟩) (.b (.t []) (.t [])) .o)))))⟩
theorem Nn{t0 t1 r} (h:Pc t0 t1=some r):Den Tryz.prog 191 [di t0,Aq t1] (ba r):=by
 refine dk 5 MZ ?_
 simp only[MZ,Kf.of,zs,ze]
 unfold Pc at h
 exact pg trivial .o
instance {t0 t1 r}:Con (Pc t0 t1=some r) (Den Tryz.prog 191 [di t0,Aq t1] (ba r)):=⟨Nn⟩
instance {t0 t1 r}:Con (qn t0 t1=some r) (Den Tryz.prog 272 [lj t0,Fa t1] (.tup [Oa r.1,aa r.2.1,aa r.2.2])):=⟨fun h=>by
 refine dk 73 R6 ?_
 simp only[R6,Kf.of,zs,ze]
 unfold qn at h
 exact pg @fk.eq_1 (.b .o (.l 2 1 (fun(q:((List GType) × Int))=>⟨[.k 3,.p 2,.k 5,.s (.own 2 0),.p 5,.k 11,.p 2,.s (aa q.2),.p 45],[.o 0,.o 1,.n 2 ((q.1.map Oa))]⟩) (fun(b19:(List GType))=>⟨[.k 4,.p 1,.k 5,.s (.own 1 0),.p 5],[.o 1,.n 2 ((b19.map Oa))]⟩) [ok 0,ok 1,on 2] (.b (.z 3 (.j 1 (fun(j9:Bool)=>⟨[.k 3,.p 27,.k 12,.s (ba j9),.p 32],[.o 0,.o 1,.o 2,.o 3]⟩) (.b (.t [ok 0,ok 1,ok 2,ok 3]) (.t [ok 0,ok 1,ok 2,ok 3])) (.b .o (.a [[],[],[],[],[],[],[],[],[],[],[]] (.b .o (.a [[],[],[],[2],[]] (.t [ok 0,ok 1,ov 2 2]))))))) (.t [ok 1,ok 2])) .o))⟩
instance {t0 t1 r}:Con (vh t0 t1=some r) (Den Tryz.prog 344 [aa t0,aa t1] (aa r)):=⟨fun h=>by
 refine dk 58 R5 ?_
 simp only[R5,Kf.of,zs,ze]
 unfold vh at h
 exact pg trivial (.z 2 (.j 1 (fun(j5:Bool)=>⟨[.p 4,.k 22,.s (ba j5),.p 33],[]⟩) (.b (.b (.t []) (.t [])) (.t [])) (.b .o (.z 3 (.j 1 (fun(j13:Int)=>⟨[.k 11,.s (aa j13),.p 14],[]⟩) (.z 1 (.j 1 (fun(j11:Bool)=>⟨[.k 11,.p 1,.k 43,.s (ba j11),.p 4],[]⟩) (.b (.t []) (.t [])) (.b (.t []) (.t [])))) .o)))))⟩
end Go.Proofs.Dev
