/-
  Contracts of the functions: each answers as its plain partial function says.
-/
import Derived.Test.YtkmalfincghanaaGreatDoorK
import Derived.Test.YtkmalfincghanaaGreatDoorG
import Derived.Test.YtkmalfincghanaaGreatDoorPD
import Derived.Test.YtkmalfincghanaaGreatDoorH1
import Derived.Test.YtkmalfincghanaaGreatDoorH2
import Derived.Test.YtkmalfincghanaaGreatDoorQ8
import Derived.Test.YtkmalfincghanaaGreatDoorQ9
import Derived.Test.YtkmalfincghanaaGreatDoorQ10
import Derived.Test.YtkmalfincghanaaGreatDoorQ11
set_option linter.all false
set_option maxHeartbeats 1000000
set_option maxRecDepth 10000
namespace Go.Proofs.Dev
open Go Go.Tm
instance {t0 t1 t2 r}:Con (Od t0 t1 t2=some r) (Den Tryz.prog 25 [Zb t0,Sa t1,Qd t2] (ba r)):=⟨fun h=>by
 refine dk 20 k25 ?_
 simp only[k25,Kf.of,zs,ze]
 unfold Od at h
 exact pg trivial .o⟩
instance {t0 t1 t2 t3 r}:Con (ya t0 t1 t2 t3=some r) (XK Tryz.prog 124 [Ea t0] [aa t2,Bq t3] 6 [ik t1] [ik r.2] (.tup [sa r.1.1,Lf r.1.2])):=⟨fun h=>by
 refine XK.of 101 P7 ?_
 simp only[P7,Kf.of,zs,ze]
 unfold ya at h
 exact pg @td.eq_1 (.l 3 2 (fun(q:((List GValue) × (List Int) × Int))=>⟨[.k 1,.p 7,.k 1,.p 2,.k 24,.p 2,.s (aa q.2.2),.p 67],[.O 0,.c 3 ((q.1.map pa)),.o 1,.o 2,.c 4 ((q.2.1.map aa))]⟩) (fun(q:((List GValue) × (List Int)))=>⟨[.k 9,.p 2],[.O 0,.c 3 ((q.1.map pa)),.o 2,.c 4 ((q.2.map aa))]⟩) [ok 0,ok 3,ok 1,ok 2,ok 4] (.b (.e 2 (fun(q:((List GValue) × (List Int)))=>⟨[.k 1,.p 37],[.O 0,.c 1 ((q.1.map pa)),.o 2,.o 3,.c 4 ((q.2.map aa))]⟩) (.b (.t [ok 0,ok 1,ok 2,ok 3,ok 4]) (.b (.t [ok 0]) (.b (.t [ok 0]) (.b (.t [ok 0]) (.a [[],[],[],[],[],[],[],[],[],[],[],[],[],[],[]] (.b (.t [ok 0]) (.t [ok 0,ok 1,ok 2,ok 3,ok 4]))))))) (.t [ok 0,ok 1,ok 2,ok 3,ok 4])) (.t [ok 0,ok 1,ok 3,ok 4])) (.t [ok 0]))⟩
instance {t0 t1 t2 t3 r}:Con (rf t0 t1 t2 t3=some r) (Den Tryz.prog 73 [Zb t0,aa t1,yo t2,fm t3] (.tup [qq r.1,ik r.2.1,Lf r.2.2])):=⟨fun h=>by
 refine dk 119 k73 ?_
 simp only[k73,Kf.of,zs,ze]
 unfold rf at h
 exact pg (And.intro @Vi.eq_1 @Mi.eq_1) (.l 2 1 (fun(q:((List GType) × Int))=>⟨[.k 3,.p 19,.k 11,.p 2,.s (aa q.2),.p 87],[.o 0,.o 1,.o 2,.o 3,.o 4,.h 5 [.g [.p 4,.s (.own 6 0),.p 1]],.n 2 ((q.1.map Oa)),.o 6]⟩) (fun(b8:(List GType))=>⟨[.k 3,.p 19],[.o 0,.o 1,.o 2,.o 3,.o 4,.h 5 [.g [.p 4,.s (.own 6 0),.p 1]],.n 2 ((b8.map Oa)),.o 6]⟩) [ok 0,ok 1,ok 2,ok 3,ok 4,ok 5,on 2,ok 6] (.b (.t [ok 0,ok 1,ok 2,ok 3,ok 4,ok 5,ov 6 1,ok 7]) (.t [ok 0,ok 1,ok 2,ok 3,ok 4,ok 5,ok 6,ok 7])) (.l 3 2 (fun(q:((List (List GValue)) × (List GMemberResult) × Int))=>⟨[.k 3,.p 44,.k 1,.p 2,.s (aa q.2.2),.p 72],[.o 0,.o 1,.o 2,.o 3,.o 4,.h 5 [.g [.p 3,.s (.own 6 0),.p 2]],.n 1 ((q.1.map Wa)),.o 6,.h 7 [.g [.p 2,.s (.own 9 0)]],.n 2 ((q.2.1.map mc))]⟩) (fun(q:((List (List GValue)) × (List GMemberResult)))=>⟨[.k 3,.p 1,.k 4,.p 39],[.o 2,.o 3,.o 4,.h 5 [.g [.p 3,.s (.own 4 0),.p 2]],.n 1 ((q.1.map Wa)),.o 6,.h 7 [.g [.p 2,.s (.own 7 0)]],.n 2 ((q.2.map mc))]⟩) [ok 0,ok 1,ok 2,ok 3,ok 4,ok 5,on 1,ok 6,ok 7,on 2] (.b (.z 4 (.f ⟨[.k 3,.p 120],[.o 0,.o 1,.o 2,.o 3,.o 4,.o 5,.o 6,.o 7,.o 8,.o 9,.h 10 [.g [.p 2,.s (.sl 3 (([] : List GValue).map pa)),.s (.sl 1 (([] : List (List GValue)).map Wa)),.s (.sl 2 (([] : List GType).map Oa)),.p 1]]]⟩ [ok 0,ok 1,ok 2,ok 3,ok 4,ok 5,ok 6,ok 7,ok 8,ok 9,ok 10] (.g [[],[0],[0,1],[0,1,2],[0,1,2,3],[0,1,2,3,4],[0,1,2,3,4,5],[0,1,2,3,4,5,6],[0,1,2,3,4,5,6,7],[0,1,2,3,4,5,6,7,8],[0,1,2,3,4,5,6,7,8,9],[0,1,2,3,4,5,6,7,8,9,10],[0,1,2,3,4,5,6,7,8,9,10,11],[0,1,2,3,4,5,6,7,8,9,10,11,12],[0,1,2,3,4,5,6,7,8,9,10,11,12,13]] [none,none,none,none,none,none,none,none,none,some 10,none,none,none,none,none] (.b (.a [[],[],[],[2],[2]] .o) (.t [ok 0,ok 1,ok 2,ok 3,ok 4,ok 5,ov 6 1,ok 7,ok 8,ov 9 1]))))) (.t [ok 2,ok 3,ok 4,ok 5,ok 6,ok 7,ok 8,ok 9])) (.z 1 (.f ⟨[.k 3,.p 120],[.o 0,.o 1,.o 2,.h 3 [.g [.p 2,.s (.sl 3 (([] : List GValue).map pa)),.p 3]],.o 6,.o 7]⟩ [ok 0,ok 1,ok 2,ok 3,ok 6,ok 7] (.g [[],[0],[0,1],[0,1,2],[0,1,2,3],[0,1,2,3,4],[0,1,2,3,4,5],[0,1,2,3,4,5,6],[0,1,2,3,4,5,6,7],[0,1,2,3,4,5,6,7,8],[0,1,2,3,4,5,6,7,8,9],[0,1,2,3,4,5,6,7,8,9,10],[0,1,2,3,4,5,6,7,8,9,10,11],[0,1,2,3,4,5,6,7,8,9,10,11,12]] [none,none,none,none,none,none,none,none,some 3,none,none,none,none,none] (.b (.a [[],[],[],[2],[2]] .o) (.a [[],[],[],[1],[]] .o)))))))⟩
instance {t0 t1 t2 t3 r}:Con (Uc t0 t1 t2 t3=some r) (Den Tryz.prog 41 [Zb t0,aa t1,yo t2,aa t3] (.tup [pa r.1,aa r.2.1,Lf r.2.2])):=⟨fun h=>by
 refine dk 53 k41 ?_
 simp only[k41,Kf.of,zs,ze]
 unfold Uc at h
 exact pg (And.intro @Li.eq_1 (And.intro @Oi.eq_1 (And.intro @kg.eq_1 (And.intro @Wi.eq_1 (And.intro @Ii.eq_1 (And.intro @zj.eq_1 (And.intro @L7.eq_1 (And.intro @k72.eq_1 @k71.eq_1)))))))) (.b (.a [[],[],[1],[]] .o) (.i k71 12 50 (fun(q:(ByteArray × Int × (List GField) × (List GField) × (List GRule) × ByteArray × Int × (List GField) × (List GField) × (List GRule) × (List Bool) × (List Bool)))=>⟨[.s (.ref 5 0 0 0)],[.O 0,.O 1,.O 2,.O 3,.O 4,.n 12 [.agg [.v (.string q.1),aa q.2.1,Va q.2.2.1,Va q.2.2.2.1,Ud q.2.2.2.2.1,.v (.string q.2.2.2.2.2.1),aa q.2.2.2.2.2.2.1,Va q.2.2.2.2.2.2.2.1,Va q.2.2.2.2.2.2.2.2.1,Ud q.2.2.2.2.2.2.2.2.2.1,.own 6 0,.own 7 0]],.n 1 ((q.2.2.2.2.2.2.2.2.2.2.1.map ba)),.n 1 ((q.2.2.2.2.2.2.2.2.2.2.2.map ba))]⟩) (.z 3 (.j 6 (fun(q:(ByteArray × Int × (List GField) × (List GField) × (List GRule) × (List Bool)))=>⟨[.k 5,.p 1],[.O 0,.O 1,.O 2,.O 3,.O 4,.h 6 [.g [.p 5,.s (.v (.string q.1)),.s (aa q.2.1),.s (Va q.2.2.1),.s (Va q.2.2.2.1),.s (Ud q.2.2.2.2.1),.p 1,.s (.own 7 0)]],.o 7,.n 1 ((q.2.2.2.2.2.map ba))]⟩) (.b (.t [ok 0,ok 1,ok 2,ok 3,ok 4,ok 6,ok 7,ok 8]) (.t [ok 0,ok 1,ok 2,ok 3,ok 4,ok 6,ok 7,on 1])) (.t [ok 0,ok 1,ok 2,ok 3,ok 4,ok 5,ok 6,ok 7]))) (.i k72 2 45 (fun(q:((List Bool) × (List Bool)))=>⟨[.s (.tup [])],[.O 0,.O 1,.O 2,.O 3,.O 4,.O 5,.C 6 ((q.1.map ba)),.C 7 ((q.2.map ba))]⟩) (.l 2 1 (fun(q:((List Bool) × Int))=>⟨[.p 8,.k 11,.p 2,.s (aa q.2),.p 25],[.O 0,.O 1,.O 2,.O 3,.O 4,.O 5,.C 6 ((q.1.map ba)),.O 7]⟩) (fun(b37:(List Bool))=>⟨[.p 8],[.O 0,.O 1,.O 2,.O 3,.O 4,.O 5,.C 6 ((b37.map ba)),.O 7]⟩) [ok 0,ok 1,ok 2,ok 3,ok 4,ok 5,ok 6,ok 7] (.b (.t [ok 0,ok 1,ok 2,ok 3,ok 4,ok 5,ok 6,ok 7]) (.t [ok 0,ok 1,ok 2,ok 3,ok 4,ok 5,ok 6,ok 7])) (.l 2 1 (fun(q:((List Bool) × Int))=>⟨[.p 1,.k 36,.p 2,.s (aa q.2),.p 7],[.O 0,.O 1,.O 2,.O 3,.O 4,.O 5,.O 6,.C 7 ((q.1.map ba))]⟩) (fun(b58:(List Bool))=>⟨[],[.O 0,.O 1,.O 2,.O 3,.O 4,.O 5,.O 6,.C 7 ((b58.map ba))]⟩) [ok 0,ok 1,ok 2,ok 3,ok 4,ok 5,ok 6,ok 7] (.b (.i L7 1 28 (fun(i55:(List Bool))=>⟨[.s (.tup [])],[.O 0,.O 1,.O 2,.O 3,.O 4,.O 5,.O 6,.C 7 ((i55.map ba))]⟩) (.l 2 1 (fun(q:((List Bool) × Int))=>⟨[.p 1,.k 16,.p 2,.s (aa q.2),.p 10],[.O 0,.O 1,.O 2,.O 3,.O 4,.O 5,.O 6,.C 7 ((q.1.map ba))]⟩) (fun(b54:(List Bool))=>⟨[],[.O 0,.O 1,.O 2,.O 3,.O 4,.O 5,.O 6,.C 7 ((b54.map ba))]⟩) [ok 0,ok 1,ok 2,ok 3,ok 4,ok 5,ok 6,ok 7] (.b (.t [ok 0,ok 1,ok 2,ok 3,ok 4,ok 5,ok 6,ok 7]) (.t [ok 0,ok 1,ok 2,ok 3,ok 4,ok 5,ok 6,ok 7])) (.t [ok 0,ok 1,ok 2,ok 3,ok 4,ok 5,ok 6,ok 7])) (.t [ok 0,ok 1,ok 2,ok 3,ok 4,ok 5,ok 6,ok 7])) (.t [ok 0,ok 1,ok 2,ok 3,ok 4,ok 5,ok 6,ok 7])) (.t [ok 0,ok 1,ok 2,ok 3,ok 4,ok 5,ok 6,ok 7]))) (.z 1 (.d [.o 0,.o 1,.o 2,.o 3,.o 4] [ok 0,ok 1,ok 2,ok 3,ok 4] (.b (.a [[],[],[1],[]] .o) (.a [[],[],[],[],[],[],[],[],[],[],[],[6,8,9],[]] .o)))))))⟩
instance {t0 t1 t2 t3 t4 r}:Con (zaf t0 t1 t2 t3 t4=some r) (Den Tryz.prog 20 [Zb t0,Sa t1,Qd t2,aa t3,aa t4] (.tup [aa r.1,ba r.2])):=⟨fun h=>by
 refine dk 39 k20 ?_
 simp only[k20,Kf.of,zs,ze]
 unfold zaf at h
 exact pg trivial .o⟩
instance {t0 t1 t2 t3 t4 r}:Con (Si t0 t1 t2 t3 t4=some r) (Den Tryz.prog 26 [Zb t0,Sa t1,Qd t2,ei t3,aa t4] (.tup [aa r.1,aa r.2])):=⟨fun h=>by
 refine dk 83 k26 ?_
 simp only[k26,Kf.of,zs,ze]
 unfold Si at h
 exact pg @Ng.eq_1 (.l 3 2 (fun(q:(Int × Int × Int))=>⟨[.k 4,.p 6,.k 2,.s (aa q.1),.s (aa q.2.1),.p 11,.s (aa q.2.2),.p 62],[.o 0,.o 1,.o 2]⟩) (fun(q:(Int × Int))=>⟨[.k 7,.p 3,.k 2,.s (aa q.1),.s (aa q.2),.p 9],[.o 2]⟩) [ok 0,ok 1,ok 2] (.b (.b .o (.b .o (.t [ok 0,ok 1,ok 2]))) (.t [ok 2])) .o)⟩
instance {t0 t1 t2 t3 t4 r}:Con (qg t0 t1 t2 t3 t4=some r) (Den Tryz.prog 11 [Zb t0,Sa t1,Qd t2,aa t3,aa t4] (km r)):=⟨fun h=>by
 refine dk 43 k11 ?_
 simp only[k11,Kf.of,zs,ze]
 unfold qg at h
 exact pg trivial .o⟩
instance {r}:Con (xi=some r) (Den Tryz.prog 10 [] (ba r)):=⟨fun h=>by
 refine dk 32 k10 ?_
 simp only[k10,Kf.of,zs,ze]
 unfold xi at h
 exact pg trivial (.z 7 (.j 1 (fun(j6:Bool)=>⟨[.s (ba j6)],[]⟩) (.b (.t []) (.t [])) .o))⟩
instance {t0 t1 t2 t3 r}:Con (Laa t0 t1 t2 t3=some r) (Den Tryz.prog 4 [Zb t0,Sa t1,Qd t2,Eg t3] (ba r)):=⟨fun h=>by
 refine dk 53 k4 ?_
 simp only[k4,Kf.of,zs,ze]
 unfold Laa at h
 exact pg @bb.eq_1 (.b .o (.l 2 1 (fun(q:((List GFact) × Int))=>⟨[.k 4,.p 4,.k 1,.p 1,.s (aa q.2)],[.o 0,.o 1,.o 2,.o 3,.h 4 [.g [.p 3,.s (.own 5 0)]],.n 9 ((q.1.map Al))]⟩) (fun(b11:(List GFact))=>⟨[.k 4,.p 4,.k 1,.p 1],[.o 0,.o 1,.o 2,.o 3,.h 4 [.g [.p 3,.s (.own 5 0)]],.n 9 ((b11.map Al))]⟩) [ok 0,ok 1,ok 2,ok 3,ok 4,on 9] (.b (.t [ok 0,ok 1,ok 2,ok 3,ok 4,ov 5 1]) (.t [ok 0,ok 1,ok 2,ok 3,ok 4,ok 5])) (.j 1 (fun(j16:Bool)=>⟨[.k 8,.s (ba j16)],[]⟩) (.b (.t []) (.t [])) .o)))⟩
theorem dag{t0 t1 t2 t3 r} (h:k8 t0 t1 t2 t3=some r):Den Tryz.prog 6 [Zb t0,Sa t1,Qd t2,Eg t3] (ba r):=by
 refine dk 100 k6 ?_
 simp only[k6,Kf.of,zs,ze]
 unfold k8 at h
 exact pg trivial (.b .o (.z 2 (.j 1 (fun(j9:Bool)=>⟨[.k 4,.p 4,.k 1,.p 6,.k 31,.s (ba j9),.p 57],[.o 0,.o 1,.o 2,.o 3,.o 4]⟩) (.b (.b (.t [ok 0,ok 1,ok 2,ok 3,ok 4]) (.t [ok 0,ok 1,ok 2,ok 3,ok 4])) (.t [ok 0,ok 1,ok 2,ok 3,ok 4])) (.b .o (.z 2 (.j 1 (fun(j15:Bool)=>⟨[.k 4,.p 7,.k 59,.s (ba j15),.p 33],[.o 0,.o 1,.o 2,.o 3,.o 4,.o 5]⟩) (.b (.b (.t [ok 0,ok 1,ok 2,ok 3,ok 4,ok 5]) (.t [ok 0,ok 1,ok 2,ok 3,ok 4,ok 5])) (.t [ok 0,ok 1,ok 2,ok 3,ok 4,ok 5])) (.b .o (.b .o (.z 1 (.j 1 (fun(j23:Bool)=>⟨[.k 8,.s (ba j23)],[]⟩) (.b (.b (.t []) (.t [])) (.t [])) .o))))))))))
instance {t0 t1 t2 t3 r}:Con (k8 t0 t1 t2 t3=some r) (Den Tryz.prog 6 [Zb t0,Sa t1,Qd t2,Eg t3] (ba r)):=⟨dag⟩
instance {t0 t1 t2 t3 r}:Con (Kaa t0 t1 t2 t3=some r) (Den Tryz.prog 7 [Zb t0,Sa t1,Qd t2,Eg t3] (ba r)):=⟨fun h=>by
 refine dk 93 k7 ?_
 simp only[k7,Kf.of,zs,ze]
 unfold Kaa at h
 exact pg @taa.eq_1 (.b .o (.b (.j 1 (fun(j8:Bool)=>⟨[.k 8,.s (ba j8)],[]⟩) (.b (.t []) (.t [])) .o) (.l 3 2 (fun(q:(Int × Int × Int))=>⟨[.k 4,.p 4,.k 1,.p 2,.s (aa q.1),.s (aa q.2.1),.s (aa q.2.2),.p 2],[.o 0,.o 1,.o 2,.o 3,.o 4]⟩) (fun(q:(Int × Int))=>⟨[.k 9,.p 2,.s (aa q.1),.s (aa q.2)],[.o 4]⟩) [ok 0,ok 1,ok 2,ok 3,ok 4] (.b (.b .o (.t [ok 0,ok 1,ok 2,ok 3,ok 4])) (.t [ok 4])) (.j 1 (fun(j27:Bool)=>⟨[.k 8,.s (ba j27)],[]⟩) (.b (.b (.b (.b (.t []) (.t [])) (.t [])) (.t [])) (.t [])) .o))))⟩
end Go.Proofs.Dev
