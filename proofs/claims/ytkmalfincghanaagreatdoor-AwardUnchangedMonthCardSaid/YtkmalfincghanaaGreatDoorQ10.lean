/-
  Contracts of the functions: each answers as its plain partial function says.
-/
import Derived.Test.YtkmalfincghanaaGreatDoorK
import Derived.Test.YtkmalfincghanaaGreatDoorG
import Derived.Test.YtkmalfincghanaaGreatDoorPD
import Derived.Test.YtkmalfincghanaaGreatDoorH1
import Derived.Test.YtkmalfincghanaaGreatDoorH2
import Derived.Test.YtkmalfincghanaaGreatDoorQ4
import Derived.Test.YtkmalfincghanaaGreatDoorQ5
import Derived.Test.YtkmalfincghanaaGreatDoorQ6
import Derived.Test.YtkmalfincghanaaGreatDoorQ7
set_option linter.all false
set_option maxHeartbeats 1000000
set_option maxRecDepth 10000
namespace Go.Proofs.Dev
open Go Go.Tm
instance {t0 t1 t2 r}:Con (zb t0 t1 t2=some r) (Den Tryz.prog 310 [ob t0,pa t1,pa t2] (.tup [pa r.1,aa r.2])):=⟨fun h=>by
 refine dk 136 E6 ?_
 simp only[E6,Kf.of,zs,ze]
 unfold zb at h
 exact pg trivial (.z 3 (.j 1 (fun(j2:Bool)=>⟨[.k 3,.p 4,.k 4,.p 1,.s (ba j2),.p 126],[.o 0,.o 1,.o 2,.o 3]⟩) (.b (.t [ok 0,ok 1,ok 2,ok 3]) (.t [ok 0,ok 1,ok 2,ok 3])) (.b .o (.b .o (.j 1 (fun(j8:Bool)=>⟨[.k 3,.p 9,.k 21,.s (ba j8),.p 105],[.o 0,.o 1,.o 2,.o 3]⟩) (.b (.t [ok 0,ok 1,ok 2,ok 3]) (.b (.t [ok 0,ok 1,ok 2,ok 3]) (.b (.t [ok 0,ok 1,ok 2,ok 3]) (.t [ok 0,ok 1,ok 2,ok 3])))) (.b .o (.j 1 (fun(j12:Bool)=>⟨[.k 3,.p 30,.k 11,.s (ba j12),.p 94],[.o 0,.o 1,.o 2,.o 3]⟩) (.b (.t [ok 0,ok 1,ok 2,ok 3]) (.t [ok 0,ok 1,ok 2,ok 3])) (.b .o (.b .o (.b .o (.b .o (.b .o (.b (.j 3 (fun(q:(Int × Int × Int))=>⟨[.k 6,.p 1,.s (aa 0),.p 3],[.h 3 [.g [.s (aa q.1),.s (aa q.2.1),.s (aa q.2.2)]]]⟩) (.b (.t [ok 3]) (.t [ok 3])) .o) (.b (.j 3 (fun(q:(Int × Int × Int))=>⟨[.k 6,.p 1,.s (aa 0),.p 3],[.h 3 [.g [.s (aa q.1),.s (aa q.2.1),.s (aa q.2.2)]]]⟩) (.b (.t [ok 3]) (.t [ok 3])) .o) .o))))))))))))))⟩
instance {t0 t1 t2 r}:Con (wa t0 t1 t2=some r) (Den Tryz.prog 280 [ob t0,Wa t1,ik t2] (.tup [pa r.1,aa r.2])):=⟨fun h=>by
 refine dk 162 W4 ?_
 simp only[W4,Kf.of,zs,ze]
 unfold wa at h
 exact pg trivial (.z 3 (.j 1 (fun(j5:Bool)=>⟨[.k 1,.p 1,.k 1,.p 4,.k 7,.p 1,.s (ba j5),.p 149],[.o 0,.o 1,.o 2]⟩) (.b (.t [ok 0,ok 1,ok 2]) (.b (.t [ok 0,ok 1,ok 2]) (.b (.t [ok 0,ok 1,ok 2]) (.b (.t [ok 0,ok 1,ok 2]) (.t [ok 0,ok 1,ok 2]))))) (.b .o (.b .o (.b .o (.b .o (.b .o (.b .o (.j 1 (fun(j17:Bool)=>⟨[.k 1,.p 14,.k 47,.s (ba j17),.p 102],[.o 0,.o 1,.o 2]⟩) (.b (.t [ok 0,ok 1,ok 2]) (.b (.t [ok 0,ok 1,ok 2]) (.b (.t [ok 0,ok 1,ok 2]) (.t [ok 0,ok 1,ok 2])))) .o)))))))))⟩
instance {t0 t1 t2 r}:Con (Ki t0 t1 t2=some r) (Den Tryz.prog 251 [ob t0,Wa t1,ik t2] (.tup [pa r.1,aa r.2])):=⟨fun h=>by
 refine dk 51 A7 ?_
 simp only[A7,Kf.of,zs,ze]
 unfold Ki at h
 exact pg trivial (.z 2 (.j 1 (fun(j4:Bool)=>⟨[.k 1,.p 1,.k 1,.p 4,.k 13,.s (ba j4),.p 33],[.o 0,.o 1,.o 2]⟩) (.b (.t [ok 0,ok 1,ok 2]) (.t [ok 0,ok 1,ok 2])) (.b .o (.b .o (.z 1 (.j 1 (fun(j11:Bool)=>⟨[.k 1,.p 19,.k 16,.s (ba j11),.p 17],[.o 0,.o 1,.o 2]⟩) (.b (.t [ok 0,ok 1,ok 2]) (.t [ok 0,ok 1,ok 2])) .o))))))⟩
theorem Mp{R214:(GEval_evaluator → Int → Option (GValue × Int))} {R250:(GEval_evaluator → GNode → (List Int) → Option (GValue × Int))} {R275:(GEval_evaluator → Int → Option (GValue × Int))} {t0 t1 r} [∀ t0 t1 r,Con (R214 t0 t1=some r) (Den Tryz.prog 214 [oa t0,aa t1] (.tup [pa r.1,aa r.2]))] [∀ t0 t1 t2 r,Con (R250 t0 t1 t2=some r) (Den Tryz.prog 250 [oa t0,ob t1,sa t2] (.tup [pa r.1,aa r.2]))] [∀ t0 t1 r,Con (R275 t0 t1=some r) (Den Tryz.prog 275 [oa t0,aa t1] (.tup [pa r.1,aa r.2]))] (h:Sb R214 R250 R275 t0 t1=some r):Den Tryz.prog 214 [oa t0,aa t1] (.tup [pa r.1,aa r.2]):=by
 refine dk 63 K1 ?_
 simp only[K1,Kf.of,zs,ze]
 unfold Sb at h
 exact pg @Cc.eq_1 (.z 5 (.j 1 (fun(j5:Bool)=>⟨[.k 2,.p 3,.k 1,.p 7,.k 10,.s (ba j5),.p 41],[.o 0,.o 1,.o 2]⟩) (.b (.t [ok 0,ok 1,ok 2]) (.b (.t [ok 0,ok 1,ok 2]) (.t [ok 0,ok 1,ok 2]))) (.b .o (.l 2 1 (fun(q:((List GValue) × Int))=>⟨[.k 2,.p 5,.k 1,.p 15,.k 13,.p 2,.s (aa q.2),.p 26],[.o 0,.o 1,.o 2,.c 3 ((q.1.map pa))]⟩) (fun(b19:(List GValue))=>⟨[.k 2,.p 5,.k 1,.p 15],[.o 0,.o 1,.o 2,.c 3 ((b19.map pa))]⟩) [ok 0,ok 1,ok 2,ok 3] (.b (.b .o (.t [ok 0,ok 1,ok 2,ok 3])) (.t [ok 0,ok 1,ok 2,ok 3])) .o))))
theorem Qp{R214:(GEval_evaluator → Int → Option (GValue × Int))} {R250:(GEval_evaluator → GNode → (List Int) → Option (GValue × Int))} {R275:(GEval_evaluator → Int → Option (GValue × Int))} {t0 t1 t2 r} [∀ t0 t1 r,Con (R214 t0 t1=some r) (Den Tryz.prog 214 [oa t0,aa t1] (.tup [pa r.1,aa r.2]))] [∀ t0 t1 t2 r,Con (R250 t0 t1 t2=some r) (Den Tryz.prog 250 [oa t0,ob t1,sa t2] (.tup [pa r.1,aa r.2]))] [∀ t0 t1 r,Con (R275 t0 t1=some r) (Den Tryz.prog 275 [oa t0,aa t1] (.tup [pa r.1,aa r.2]))] (h:ue R214 R250 R275 t0 t1 t2=some r):Den Tryz.prog 250 [oa t0,ob t1,sa t2] (.tup [pa r.1,aa r.2]):=by
 refine dk 66 L4 ?_
 simp only[L4,Kf.of,zs,ze]
 unfold ue at h
 exact pg trivial (.b .o (.a [[],[],[],[],[],[],[],[],[],[]] (.b .o (.z 1 (.j 1 (fun(j6:Bool)=>⟨[.k 2,.p 5,.k 1,.p 1,.k 17,.s (ba j6),.p 42],[.o 0,.o 1,.o 2,.o 3]⟩) (.b (.t [ok 0,ok 1,ok 2,ok 3]) (.t [ok 0,ok 1,ok 2,ok 3])) .o)))))
theorem wo{R214:(GEval_evaluator → Int → Option (GValue × Int))} {R250:(GEval_evaluator → GNode → (List Int) → Option (GValue × Int))} {R275:(GEval_evaluator → Int → Option (GValue × Int))} {t0 t1 r} [∀ t0 t1 r,Con (R214 t0 t1=some r) (Den Tryz.prog 214 [oa t0,aa t1] (.tup [pa r.1,aa r.2]))] [∀ t0 t1 t2 r,Con (R250 t0 t1 t2=some r) (Den Tryz.prog 250 [oa t0,ob t1,sa t2] (.tup [pa r.1,aa r.2]))] [∀ t0 t1 r,Con (R275 t0 t1=some r) (Den Tryz.prog 275 [oa t0,aa t1] (.tup [pa r.1,aa r.2]))] (h:Rb R214 R250 R275 t0 t1=some r):Den Tryz.prog 275 [oa t0,aa t1] (.tup [pa r.1,aa r.2]):=by
 refine dk 26 N3 ?_
 simp only[N3,Kf.of,zs,ze]
 unfold Rb at h
 exact pg trivial (.b .o (.z 1 (.j 1 (fun(j5:Bool)=>⟨[.k 4,.p 1,.k 1,.p 1,.k 18,.s (ba j5),.p 2],[.o 1,.o 2]⟩) (.b (.t [ok 1,ok 2]) (.t [ok 1,ok 2])) .o)))
theorem Ie:∀n,(∀ t0 t1 r,(da n).1 t0 t1=some r→Den Tryz.prog 214 [oa t0,aa t1] (.tup [pa r.1,aa r.2]))∧(∀ t0 t1 t2 r,(da n).2.1 t0 t1 t2=some r→Den Tryz.prog 250 [oa t0,ob t1,sa t2] (.tup [pa r.1,aa r.2]))∧(∀ t0 t1 r,(da n).2.2 t0 t1=some r→Den Tryz.prog 275 [oa t0,aa t1] (.tup [pa r.1,aa r.2]))
|0=>⟨fun _ _ _ h=>(nomatch h),fun _ _ _ _ h=>(nomatch h),fun _ _ _ h=>(nomatch h)⟩
|n+1=>by
 obtain⟨H0,H1,H2⟩:=Ie n
 haveI I0:∀ t0 t1 r,Con ((da n).1 t0 t1=some r) (Den Tryz.prog 214 [oa t0,aa t1] (.tup [pa r.1,aa r.2])):=fun t0 t1 r=>⟨H0 t0 t1 r⟩
 haveI I1:∀ t0 t1 t2 r,Con ((da n).2.1 t0 t1 t2=some r) (Den Tryz.prog 250 [oa t0,ob t1,sa t2] (.tup [pa r.1,aa r.2])):=fun t0 t1 t2 r=>⟨H1 t0 t1 t2 r⟩
 haveI I2:∀ t0 t1 r,Con ((da n).2.2 t0 t1=some r) (Den Tryz.prog 275 [oa t0,aa t1] (.tup [pa r.1,aa r.2])):=fun t0 t1 r=>⟨H2 t0 t1 r⟩
 exact⟨fun t0 t1 r h=>Mp (R214:=(da n).1) (R250:=(da n).2.1) (R275:=(da n).2.2) h,fun t0 t1 t2 r h=>Qp (R214:=(da n).1) (R250:=(da n).2.1) (R275:=(da n).2.2) h,fun t0 t1 r h=>wo (R214:=(da n).1) (R250:=(da n).2.1) (R275:=(da n).2.2) h⟩
theorem Yq{t0 t1 r} (h:Ih t0 t1=some r):Den Tryz.prog 214 [oa t0,aa t1] (.tup [pa r.1,aa r.2]):=(Ie Ap).1 _ _ _ h
instance {t0 t1 r}:Con (Ih t0 t1=some r) (Den Tryz.prog 214 [oa t0,aa t1] (.tup [pa r.1,aa r.2])):=⟨Yq⟩
theorem Rq{t0 t1 t2 r} (h:so t0 t1 t2=some r):Den Tryz.prog 250 [oa t0,ob t1,sa t2] (.tup [pa r.1,aa r.2]):=(Ie Ap).2.1 _ _ _ _ h
instance {t0 t1 t2 r}:Con (so t0 t1 t2=some r) (Den Tryz.prog 250 [oa t0,ob t1,sa t2] (.tup [pa r.1,aa r.2])):=⟨Rq⟩
theorem kp{t0 t1 r} (h:um t0 t1=some r):Den Tryz.prog 275 [oa t0,aa t1] (.tup [pa r.1,aa r.2]):=(Ie Ap).2.2 _ _ _ h
instance {t0 t1 r}:Con (um t0 t1=some r) (Den Tryz.prog 275 [oa t0,aa t1] (.tup [pa r.1,aa r.2])):=⟨kp⟩
instance {t0 t1 r}:Con (xk t0 t1=some r) (Den Tryz.prog 170 [lj t0,ik t1] (.tup [pa r.1,aa r.2])):=⟨fun h=>by
 refine dk 25 Z6 ?_
 simp only[Z6,Kf.of,zs,ze]
 unfold xk at h
 exact pg trivial .o⟩
instance {t0 t1 t2 t3 r}:Con (xf t0 t1 t2 t3=some r) (Den Tryz.prog 169 [Ea t0,ik t1,aa t2,aa t3] (.tup [aa r.1,Lf r.2])):=⟨fun h=>by
 refine dk 83 U0 ?_
 simp only[U0,Kf.of,zs,ze]
 unfold xf at h
 exact pg @Ni.eq_1 (.l 2 1 (fun(q:((List Bool) × Int))=>⟨[.k 2,.p 6,.k 1,.p 10,.k 12,.p 2,.s (aa q.2),.p 53],[.o 0,.o 1,.o 2,.c 3 ((q.1.map ba))]⟩) (fun(b18:(List Bool))=>⟨[.k 9,.p 10],[.o 2,.c 3 ((b18.map ba))]⟩) [ok 0,ok 1,ok 2,ok 3] (.b (.e 1 (fun(j15:(List Bool))=>⟨[.k 2,.p 32],[.o 0,.o 1,.o 2,.c 3 ((j15.map ba))]⟩) (.b (.t [ok 0,ok 1,ok 2,ok 3]) (.a [[],[],[],[],[],[],[],[],[],[],[],[],[]] (.b .o (.t [ok 0,ok 1,ok 2,ok 3])))) (.t [ok 0,ok 1,ok 2,ok 3])) (.t [ok 2,ok 3])) .o)⟩
end Go.Proofs.Dev
