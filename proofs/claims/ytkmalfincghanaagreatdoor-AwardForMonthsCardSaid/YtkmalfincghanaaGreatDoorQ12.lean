/-
  Contracts of the functions: each answers as its plain partial function says.
-/
import Derived.Test.YtkmalfincghanaaGreatDoorK
import Derived.Test.YtkmalfincghanaaGreatDoorG
import Derived.Test.YtkmalfincghanaaGreatDoorPD
import Derived.Test.YtkmalfincghanaaGreatDoorH1
import Derived.Test.YtkmalfincghanaaGreatDoorH2
import Derived.Test.YtkmalfincghanaaGreatDoorQ8
import Derived.Test.YtkmalfincghanaaGreatDoorQ9
import Derived.Test.YtkmalfincghanaaGreatDoorQ10
import Derived.Test.YtkmalfincghanaaGreatDoorQ11
set_option linter.all false
set_option maxHeartbeats 1000000
set_option maxRecDepth 10000
namespace Go.Proofs.Dev
open Go Go.Tm
instance {t0 t1 t2 r}:Con (Od t0 t1 t2=some r) (Den Tryz.prog 25 [Zb t0,Sa t1,Qd t2] (ba r)):=⟨fun h=>by
 refine dk 20 k25 ?_
 simp only[k25,Kf.of,zs,ze]
 unfold Od at h
 exact pg trivial .o⟩
instance {t0 t1 t2 t3 r}:Con (ya t0 t1 t2 t3=some r) (XK Tryz.prog 124 [Ea t0] [aa t2,Bq t3] 6 [ik t1] [ik r.2] (.tup [sa r.1.1,Lf r.1.2])):=⟨fun h=>by
 refine XK.of 101 P7 ?_
 simp only[P7,Kf.of,zs,ze]
 unfold ya at h
 exact pg @td.eq_1 (.l 3 2 (fun(q:((List GValue) × (List Int) × Int))=>⟨[.k 1,.p 7,.k 1,.p 2,.k 24,.p 2,.s (aa q.2.2),.p 67],[.O 0,.c 3 ((q.1.map pa)),.o 1,.o 2,.c 4 ((q.2.1.map aa))]⟩) (fun(q:((List GValue) × (List Int)))=>⟨[.k 9,.p 2],[.O 0,.c 3 ((q.1.map pa)),.o 2,.c 4 ((q.2.map aa))]⟩) [ok 0,ok 3,ok 1,ok 2,ok 4] (.b (.e 2 (fun(q:((List GValue) × (List Int)))=>⟨[.k 1,.p 37],[.O 0,.c 1 ((q.1.map pa)),.o 2,.o 3,.c 4 ((q.2.map aa))]⟩) (.b (.t [ok 0,ok 1,ok 2,ok 3,ok 4]) (.b (.t [ok 0]) (.b (.t [ok 0]) (.b (.t [ok 0]) (.a [[],[],[],[],[],[],[],[],[],[],[],[],[],[],[]] (.b (.t [ok 0]) (.t [ok 0,ok 1,ok 2,ok 3,ok 4]))))))) (.t [ok 0,ok 1,ok 2,ok 3,ok 4])) (.t [ok 0,ok 1,ok 3,ok 4])) (.t [ok 0]))⟩
instance {t0 t1 t2 t3 r}:Con (rf t0 t1 t2 t3=some r) (Den Tryz.prog 73 [Zb t0,aa t1,yo t2,fm t3] (.tup [qq r.1,ik r.2.1,Lf r.2.2])):=⟨fun h=>by
 refine dk 119 k73 ?_
 simp only[k73,Kf.of,zs,ze]
 unfold rf at h
 exact pg (And.intro @Vi.eq_1 @Mi.eq_1) (.l 2 1 (fun(q:((List GType) × Int))=>⟨[.k 3,.p 19,.k 11,.p 2,.s (aa q.2),.p 87],[.o 0,.o 1,.o 2,.o 3,.o 4,.h 5 [.g [.p 4,.s (.own 6 0),.p 1]],.n 2 ((q.1.map Oa)),.o 6]⟩) (fun(b8:(List GType))=>⟨[.k 3,.p 19],[.o 0,.o 1,.o 2,.o 3,.o 4,.h 5 [.g [.p 4,.s (.own 6 0),.p 1]],.n 2 ((b8.map Oa)),.o 6]⟩) [ok 0,ok 1,ok 2,ok 3,ok 4,ok 5,on 2,ok 6] (.b (.t [ok 0,ok 1,ok 2,ok 3,ok 4,ok 5,ov 6 1,ok 7]) (.t [ok 0,ok 1,ok 2,ok 3,ok 4,ok 5,ok 6,ok 7])) (.l 3 2 (fun(q:((List (List GValue)) × (List GMemberResult) × Int))=>⟨[.k 3,.p 44,.k 1,.p 2,.s (aa q.2.2),.p 72],[.o 0,.o 1,.o 2,.o 3,.o 4,.h 5 [.g [.p 3,.s (.own 6 0),.p 2]],.n 1 ((q.1.map Wa)),.o 6,.h 7 [.g [.p 2,.s (.own 9 0)]],.n 2 ((q.2.1.map mc))]⟩) (fun(q:((List (List GValue)) × (List GMemberResult)))=>⟨[.k 3,.p 1,.k 4,.p 39],[.o 2,.o 3,.o 4,.h 5 [.g [.p 3,.s (.own 4 0),.p 2]],.n 1 ((q.1.map Wa)),.o 6,.h 7 [.g [.p 2,.s (.own 7 0)]],.n 2 ((q.2.map mc))]⟩) [ok 0,ok 1,ok 2,ok 3,ok 4,ok 5,on 1,ok 6,ok 7,on 2] (.b (.z 4 (.f ⟨[.k 3,.p 120],[.o 0,.o 1,.o 2,.o 3,.o 4,.o 5,.o 6,.o 7,.o 8,.o 9,.h 10 [.g [.p 2,.s (.sl 3 (([] : List GValue).map pa)),.s (.sl 1 (([] : List (List GValue)).map Wa)),.s (.sl 2 (([] : List GType).map Oa)),.p 1]]]⟩ [ok 0,ok 1,ok 2,ok 3,ok 4,ok 5,ok 6,ok 7,ok 8,ok 9,ok 10] (.g [[],[0],[0,1],[0,1,2],[0,1,2,3],[0,1,2,3,4],[0,1,2,3,4,5],[0,1,2,3,4,5,6],[0,1,2,3,4,5,6,7],[0,1,2,3,4,5,6,7,8],[0,1,2,3,4,5,6,7,8,9],[0,1,2,3,4,5,6,7,8,9,10],[0,1,2,3,4,5,6,7,8,9,10,11],[0,1,2,3,4,5,6,7,8,9,10,11,12],[0,1,2,3,4,5,6,7,8,9,10,11,12,13]] [none,none,none,none,none,none,none,none,none,some 10,none,none,none,none,none] (.b (.a [[],[],[],[2],[2]] .o) (.t [ok 0,ok 1,ok 2,ok 3,ok 4,ok 5,ov 6 1,ok 7,ok 8,ov 9 1]))))) (.t [ok 2,ok 3,ok 4,ok 5,ok 6,ok 7,ok 8,ok 9])) (.z 1 (.f ⟨[.k 3,.p 120],[.o 0,.o 1,.o 2,.h 3 [.g [.p 2,.s (.sl 3 (([] : List GValue).map pa)),.p 3]],.o 6,.o 7]⟩ [ok 0,ok 1,ok 2,ok 3,ok 6,ok 7] (.g [[],[0],[0,1],[0,1,2],[0,1,2,3],[0,1,2,3,4],[0,1,2,3,4,5],[0,1,2,3,4,5,6],[0,1,2,3,4,5,6,7],[0,1,2,3,4,5,6,7,8],[0,1,2,3,4,5,6,7,8,9],[0,1,2,3,4,5,6,7,8,9,10],[0,1,2,3,4,5,6,7,8,9,10,11],[0,1,2,3,4,5,6,7,8,9,10,11,12]] [none,none,none,none,none,none,none,none,some 3,none,none,none,none,none] (.b (.a [[],[],[],[2],[2]] .o) (.a [[],[],[],[1],[]] .o)))))))⟩
instance {t0 t1 t2 t3 r}:Con (Uc t0 t1 t2 t3=some r) (Den Tryz.prog 41 [Zb t0,aa t1,yo t2,aa t3] (.tup [pa r.1,aa r.2.1,Lf r.2.2])):=⟨fun h=>by
 refine dk 53 k41 ?_
 simp only[k41,Kf.of,zs,ze]
 unfold Uc at h
 exact pg (And.intro @Li.eq_1 (And.intro @Oi.eq_1 (And.intro @kg.eq_1 (And.intro @Wi.eq_1 (And.intro @Ii.eq_1 (And.intro @zj.eq_1 (And.intro @L7.eq_1 (And.intro @k72.eq_1 @k71.eq_1)))))))) (.b (.a [[],[],[1],[]] .o) (.i k71 12 50 (fun(q:(ByteArray × Int × (List GField) × (List GField) × (List GRule) × ByteArray × Int × (List GField) × (List GField) × (List GRule) × (List Bool) × (List Bool)))=>⟨[.s (.ref 5 0 0 0)],[.O 0,.O 1,.O 2,.O 3,.O 4,.n 12 [.agg [.v (.string q.1),aa q.2.1,Va q.2.2.1,Va q.2.2.2.1,Ud q.2.2.2.2.1,.v (.string q.2.2.2.2.2.1),aa q.2.2.2.2.2.2.1,Va q.2.2.2.2.2.2.2.1,Va q.2.2.2.2.2.2.2.2.1,Ud q.2.2.2.2.2.2.2.2.2.1,.own 6 0,.own 7 0]],.n 1 ((q.2.2.2.2.2.2.2.2.2.2.1.map ba)),.n 1 ((q.2.2.2.2.2.2.2.2.2.2.2.map ba))]⟩) (.z 3 (.j 6 (fun(q:(ByteArray × Int × (List GField) × (List GField) × (List GRule) × (List Bool)))=>⟨[.k 5,.p 1],[.O 0,.O 1,.O 2,.O 3,.O 4,.h 6 [.g [.p 5,.s (.v (.string q.1)),.s (aa q.2.1),.s (Va q.2.2.1),.s (Va q.2.2.2.1),.s (Ud q.2.2.2.2.1),.p 1,.s (.own 7 0)]],.o 7,.n 1 ((q.2.2.2.2.2.map ba))]⟩) (.b (.t [ok 0,ok 1,ok 2,ok 3,ok 4,ok 6,ok 7,ok 8]) (.t [ok 0,ok 1,ok 2,ok 3,ok 4,ok 6,ok 7,on 1])) (.t [ok 0,ok 1,ok 2,ok 3,ok 4,ok 5,ok 6,ok 7]))) (.i k72 2 45 (fun(q:((List Bool) × (List Bool)))=>⟨[.s (.tup [])],[.O 0,.O 1,.O 2,.O 3,.O 4,.O 5,.C 6 ((q.1.map ba)),.C 7 ((q.2.map ba))]⟩) (.l 2 1 (fun(q:((List Bool) × Int))=>⟨[.p 8,.k 11,.p 2,.s (aa q.2),.p 25],[.O 0,.O 1,.O 2,.O 3,.O 4,.O 5,.C 6 ((q.1.map ba)),.O 7]⟩) (fun(b37:(List Bool))=>⟨[.p 8],[.O 0,.O 1,.O 2,.O 3,.O 4,.O 5,.C 6 ((b37.map ba)),.O 7]⟩) [ok 0,ok 1,ok 2,ok 3,ok 4,ok 5,ok 6,ok 7] (.b (.t [ok 0,ok 1,ok 2,ok 3,ok 4,ok 5,ok 6,ok 7]) (.t [ok 0,ok 1,ok 2,ok 3,ok 4,ok 5,ok 6,ok 7])) (.l 2 1 (fun(q:((List Bool) × Int))=>⟨[.p 1,.k 36,.p 2,.s (aa q.2),.p 7],[.O 0,.O 1,.O 2,.O 3,.O 4,.O 5,.O 6,.C 7 ((q.1.map ba))]⟩) (fun(b58:(List Bool))=>⟨[],[.O 0,.O 1,.O 2,.O 3,.O 4,.O 5,.O 6,.C 7 ((b58.map ba))]⟩) [ok 0,ok 1,ok 2,ok 3,ok 4,ok 5,ok 6,ok 7] (.b (.i L7 1 28 (fun(i55:(List Bool))=>⟨[.s (.tup [])],[.O 0,.O 1,.O 2,.O 3,.O 4,.O 5,.O 6,.C 7 ((i55.map ba))]⟩) (.l 2 1 (fun(q:((List Bool) × Int))=>⟨[.p 1,.k 16,.p 2,.s (aa q.2),.p 10],[.O 0,.O 1,.O 2,.O 3,.O 4,.O 5,.O 6,.C 7 ((q.1.map ba))]⟩) (fun(b54:(List Bool))=>⟨[],[.O 0,.O 1,.O 2,.O 3,.O 4,.O 5,.O 6,.C 7 ((b54.map ba))]⟩) [ok 0,ok 1,ok 2,ok 3,ok 4,ok 5,ok 6,ok 7] (.b (.t [ok 0,ok 1,ok 2,ok 3,ok 4,ok 5,ok 6,ok 7]) (.t [ok 0,ok 1,ok 2,ok 3,ok 4,ok 5,ok 6,ok 7])) (.t [ok 0,ok 1,ok 2,ok 3,ok 4,ok 5,ok 6,ok 7])) (.t [ok 0,ok 1,ok 2,ok 3,ok 4,ok 5,ok 6,ok 7])) (.t [ok 0,ok 1,ok 2,ok 3,ok 4,ok 5,ok 6,ok 7])) (.t [ok 0,ok 1,ok 2,ok 3,ok 4,ok 5,ok 6,ok 7]))) (.z 1 (.d [.o 0,.o 1,.o 2,.o 3,.o 4] [ok 0,ok 1,ok 2,ok 3,ok 4] (.b (.a [[],[],[1],[]] .o) (.a [[],[],[],[],[],[],[],[],[],[],[],[6,8,9],[]] .o)))))))⟩
instance {t0 t1 t2 t3 t4 r}:Con (Si t0 t1 t2 t3 t4=some r) (Den Tryz.prog 26 [Zb t0,Sa t1,Qd t2,ei t3,aa t4] (.tup [aa r.1,aa r.2])):=⟨fun h=>by
 refine dk 83 k26 ?_
 simp only[k26,Kf.of,zs,ze]
 unfold Si at h
 exact pg @Ng.eq_1 (.l 3 2 (fun(q:(Int × Int × Int))=>⟨[.k 4,.p 6,.k 2,.s (aa q.1),.s (aa q.2.1),.p 11,.s (aa q.2.2),.p 62],[.o 0,.o 1,.o 2]⟩) (fun(q:(Int × Int))=>⟨[.k 7,.p 3,.k 2,.s (aa q.1),.s (aa q.2),.p 9],[.o 2]⟩) [ok 0,ok 1,ok 2] (.b (.b .o (.b .o (.t [ok 0,ok 1,ok 2]))) (.t [ok 2])) .o)⟩
instance {t0 t1 t2 t3 t4 r}:Con (qg t0 t1 t2 t3 t4=some r) (Den Tryz.prog 11 [Zb t0,Sa t1,Qd t2,aa t3,aa t4] (km r)):=⟨fun h=>by
 refine dk 43 k11 ?_
 simp only[k11,Kf.of,zs,ze]
 unfold qg at h
 exact pg trivial .o⟩
instance {t0 t1 t2 t3 t4 t5 r}:Con (Af t0 t1 t2 t3 t4 t5=some r) (Den Tryz.prog 21 [Zb t0,Sa t1,Qd t2,aa t3,aa t4,aa t5] (cr r)):=⟨fun h=>by
 refine dk 79 k21 ?_
 simp only[k21,Kf.of,zs,ze]
 unfold Af at h
 exact pg @jg.eq_1 (.z 2 (.j 1 (fun(j4:Bool)=>⟨[.k 3,.p 9,.k 24,.s (ba j4),.p 48],[.o 0,.o 1,.o 2]⟩) (.b (.b (.b (.t [ok 0,ok 1,ok 2]) (.t [ok 0,ok 1,ok 2])) (.t [ok 0,ok 1,ok 2])) (.t [ok 0,ok 1,ok 2])) (.b .o (.z 3 (.j 2 (fun(q:(Bool × (List Int)))=>⟨[.k 3,.p 11,.s (ba q.1),.s (sa q.2),.p 20],[.o 0,.o 1,.o 2,.o 3]⟩) (.b (.t [ok 0,ok 1,ok 2,ok 3]) (.t [ok 0,ok 1,ok 2,ok 3])) (.l 3 1 (fun(q:((List GAward) × Bool × Int))=>⟨[.k 4,.p 10,.s (ba q.2.1),.p 1,.s (aa q.2.2),.p 33],[.o 0,.o 1,.o 2,.c 3 ((q.1.map km))]⟩) (fun(b28:(List GAward))=>⟨[.k 13,.p 1],[.c 3 ((b28.map km))]⟩) [ok 0,ok 1,ok 2,ok 3] (.b (.z 2 (.j 3 (fun(q:(Bool × Int × Int))=>⟨[.k 4,.p 10,.s (ba q.1),.p 36],[.o 0,.o 1,.o 2,.o 3,.h 4 [.g [.p 1,.s (aa q.2.1),.s (aa q.2.2)]]]⟩) (.b (.t [ok 0,ok 1,ok 2,ok 3,ok 4]) (.b (.a [[],[],[],[],[],[],[],[],[],[],[],[],[]] (.t [ok 0,ok 1,ok 2,ok 3,ok 4])) (.t [ok 0,ok 1,ok 2,ok 3,ok 4]))) (.t [ok 0,ok 1,ok 2,ov 3 1]))) (.t [ok 3])) .o))))))⟩
instance {r}:Con (xi=some r) (Den Tryz.prog 10 [] (ba r)):=⟨fun h=>by
 refine dk 32 k10 ?_
 simp only[k10,Kf.of,zs,ze]
 unfold xi at h
 exact pg trivial (.z 7 (.j 1 (fun(j6:Bool)=>⟨[.s (ba j6)],[]⟩) (.b (.t []) (.t [])) .o))⟩
theorem Ll{t0 t1 t2 t3 r} (h:Qe t0 t1 t2 t3=some r):Den Tryz.prog 8 [Zb t0,Sa t1,aa t2,aa t3] (ba r):=by
 refine dk 105 k8 ?_
 simp only[k8,Kf.of,zs,ze]
 unfold Qe at h
 exact pg @xd.eq_1 (.z 3 (.j 1 (fun(j7:Bool)=>⟨[.k 2,.p 6,.k 1,.p 3,.k 30,.s (ba j7),.p 66],[.o 0,.o 1,.o 2]⟩) (.b (.b (.b (.b (.b (.t [ok 0,ok 1,ok 2]) (.t [ok 0,ok 1,ok 2])) (.t [ok 0,ok 1,ok 2])) (.t [ok 0,ok 1,ok 2])) (.t [ok 0,ok 1,ok 2])) (.t [ok 0,ok 1,ok 2])) (.b .o (.z 2 (.j 1 (fun(j14:Bool)=>⟨[.k 2,.p 40,.k 24,.s (ba j14),.p 42],[.o 0,.o 1,.o 2]⟩) (.b (.b (.b (.t [ok 0,ok 1,ok 2]) (.t [ok 0,ok 1,ok 2])) (.t [ok 0,ok 1,ok 2])) (.t [ok 0,ok 1,ok 2])) (.b (.j 1 (fun(j18:Bool)=>⟨[.k 8,.s (ba j18)],[]⟩) (.b (.t []) (.t [])) .o) (.b .o (.l 1 0 (fun(s20:Int)=>⟨[.k 2,.p 1,.k 1,.p 7,.s (aa s20),.p 54],[.o 0,.o 1,.o 2]⟩) (fun(_:Unit)=>⟨[],[]⟩) [ok 0,ok 1,ok 2] (.b (.z 1 (.j 1 (fun(j25:Bool)=>⟨[.k 2,.p 77,.k 28,.s (ba j25),.p 1],[.o 0,.o 1,.o 2]⟩) (.b (.t [ok 0,ok 1,ok 2]) (.t [ok 0,ok 1,ok 2])) (.b .o (.t [ok 0,ok 1,ok 2])))) (.t [])) .o))))))))
instance {t0 t1 t2 t3 r}:Con (Qe t0 t1 t2 t3=some r) (Den Tryz.prog 8 [Zb t0,Sa t1,aa t2,aa t3] (ba r)):=⟨Ll⟩
end Go.Proofs.Dev
