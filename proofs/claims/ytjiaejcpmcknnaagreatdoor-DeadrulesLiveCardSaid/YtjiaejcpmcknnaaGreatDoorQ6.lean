/-
  Contracts of the functions: each answers as its plain partial function says.
-/
import Derived.Test.YtjiaejcpmcknnaaGreatDoorK
import Derived.Test.YtjiaejcpmcknnaaGreatDoorG
import Derived.Test.YtjiaejcpmcknnaaGreatDoorPD
import Derived.Test.YtjiaejcpmcknnaaGreatDoorH1
import Derived.Test.YtjiaejcpmcknnaaGreatDoorH2
import Derived.Test.YtjiaejcpmcknnaaGreatDoorQ0
import Derived.Test.YtjiaejcpmcknnaaGreatDoorQ1
import Derived.Test.YtjiaejcpmcknnaaGreatDoorQ2
import Derived.Test.YtjiaejcpmcknnaaGreatDoorQ3
set_option linter.all false
set_option maxHeartbeats 1000000
set_option maxRecDepth 10000
namespace Go.Proofs.Dev
open Go Go.Tm
instance {t0 t1 t2 r}:Con (nf t0 t1 t2=some r) (Den Tryz.prog 61 [ra t0,Vb t1,ka t2] (ka r)):=⟨λh=>by
 refine dk 68 k61 ?_
 simp only[k61,Kf.of,zs,ze]
 unfold nf at h
 exact pg (And.intro @Od.eq_1 @Gj.eq_1) (.b .o (.z 2 (.j 1 (λ(j4:Bool)=>⟨[.k 2,.p 1,.k 4,.p 5,.k 16,.s (ba j4),.p 42],[]⟩) (.b (.t []) (.t [])) (.b (.l 2 1 (λ(q:((List Int) × Int))=>⟨[.k 8,.p 1,.s (.own 0 0),.s (aa q.2),.p 17],[.n 1 ((q.1.map aa))]⟩) (λ(b12:(List Int))=>⟨[.k 9,.s (.own 0 0)],[.n 1 ((b12.map aa))]⟩) [on 1] (.b (.t [ov 0 1]) (.t [ok 0])) .o) (.l 2 1 (λ(q:((List Int) × Int))=>⟨[.k 2,.p 7,.s (ka q.1),.p 1,.s (aa q.2),.p 16],[]⟩) (λ(b25:(List Int))=>⟨[.k 9,.s (ka b25),.p 1],[]⟩) [] (.b (.j 1 (λ(j22:(List Int))=>⟨[.k 2,.p 7,.s (ka j22),.p 34],[]⟩) (.j 1 (λ(j18:Bool)=>⟨[.k 2,.p 42,.k 19,.s (ba j18),.p 7],[]⟩) (.b (.t []) (.t [])) (.b (.t []) (.t []))) (.t [])) (.t [])) .o)))))⟩
instance {t0 t1 r}:Con (Ii t0 t1=some r) (Den Tryz.prog 68 [Li t0,aa t1] (ba r)):=⟨λh=>by
 refine dk 16 k68 ?_
 simp only[k68,Kf.of,zs,ze]
 unfold Ii at h
 exact pg @Mf.eq_1 (.l 1 0 (λ(s1:Int)=>⟨[.k 1,.p 3,.k 3,.p 2,.s (aa s1),.p 8],[]⟩) (λ(_:Unit)=>⟨[],[]⟩) [] (.b (.b .o (.t [])) (.t [])) .o)⟩
theorem zp{t0 t1 t2 r} (h:Qe t0 t1 t2=some r):Den Tryz.prog 73 [Za t0,oi t1,oi t2] (ba r):=by
 refine dk 12 k73 ?_
 simp only[k73,Kf.of,zs,ze]
 unfold Qe at h
 exact pg trivial (.z 1 (.j 1 (λ(j3:Bool)=>⟨[.k 4,.s (ba j3),.p 10],[]⟩) (.b (.t []) (.t [])) .o))
instance {t0 t1 t2 r}:Con (Qe t0 t1 t2=some r) (Den Tryz.prog 73 [Za t0,oi t1,oi t2] (ba r)):=⟨zp⟩
instance {t0 t1 r}:Con (ck t0 t1=some r) (Den Tryz.prog 143 [Ya t0,aa t1] (ka r)):=⟨λh=>by
 refine dk 54 Aab ?_
 simp only[Aab,Kf.of,zs,ze]
 unfold ck at h
 exact pg @Tp.eq_1 (.z 3 (.j 1 (λ(j4:Bool)=>⟨[.p 4,.k 1,.p 1,.k 23,.s (ba j4),.p 26],[]⟩) (.b (.b (.t []) (.t [])) (.t [])) (.b .o (.l 3 1 (λ(q:((List Int) × Int × Int))=>⟨[.k 5,.p 3,.k 1,.p 1,.s (aa q.2.1),.s (aa q.2.2),.p 17],[.c 0 ((q.1.map aa))]⟩) (λ(b19:(List Int))=>⟨[.k 9,.p 1],[.c 0 ((b19.map aa))]⟩) [ok 0] (.b (.t [ok 0]) (.t [ok 0])) .o))))⟩
instance {t0 t1 r}:Con (Wm t0 t1=some r) (Den Tryz.prog 188 [uh t0,uh t1] (ba r)):=⟨λh=>by
 refine dk 27 fac ?_
 simp only[fac,Kf.of,zs,ze]
 unfold Wm at h
 exact pg trivial (.z 2 (.j 1 (λ(j3:Bool)=>⟨[.k 4,.s (ba j3)],[]⟩) (.b (.t []) (.t [])) .o))⟩
instance {t0 t1 t2 r}:Con (Ea t0 t1 t2=some r) (Den Tryz.prog 222 [La t0,gb t1,Em t2] (ba r)):=⟨λh=>by
 refine dk 130 Cac ?_
 simp only[Cac,Kf.of,zs,ze]
 unfold Ea at h
 exact pg trivial (.b .o (.b .o (.b (.z 1 (.j 1 (λ(j13:Bool)=>⟨[.k 6,.s (ba j13)],[]⟩) (.b (.b (.t []) (.t [])) (.t [])) .o)) (.b (.z 1 (.j 1 (λ(j19:Bool)=>⟨[.k 6,.s (ba j19),.p 1],[]⟩) (.b (.b (.t []) (.t [])) (.t [])) .o)) (.j 1 (λ(j23:Bool)=>⟨[.k 1,.p 1,.k 1,.p 3,.k 75,.s (ba j23),.p 51],[.o 0,.o 1]⟩) (.b (.t [ok 0,ok 1]) (.b (.t [ok 0,ok 1]) (.b (.t [ok 0,ok 1]) (.t [ok 0,ok 1])))) (.b .o (.b .o (.b .o (.b (.j 1 (λ(j40:Bool)=>⟨[.k 6,.s (ba j40),.p 74],[]⟩) (.b (.t []) (.t [])) .o) .o)))))))))⟩
instance {t0 t1 t2 r}:Con (nb t0 t1 t2=some r) (Den Tryz.prog 223 [La t0,gb t1,Em t2] (.tup [ma r.1,aa r.2])):=⟨λh=>by
 refine dk 162 Dac ?_
 simp only[Dac,Kf.of,zs,ze]
 unfold nb at h
 exact pg trivial (.z 3 (.j 1 (λ(j5:Bool)=>⟨[.k 1,.p 1,.k 1,.p 4,.k 7,.p 1,.s (ba j5),.p 149],[.o 0,.o 1,.o 2]⟩) (.b (.t [ok 0,ok 1,ok 2]) (.b (.t [ok 0,ok 1,ok 2]) (.b (.t [ok 0,ok 1,ok 2]) (.b (.t [ok 0,ok 1,ok 2]) (.t [ok 0,ok 1,ok 2]))))) (.b .o (.b .o (.b .o (.b .o (.b .o (.b .o (.j 1 (λ(j17:Bool)=>⟨[.k 1,.p 14,.k 47,.s (ba j17),.p 102],[.o 0,.o 1,.o 2]⟩) (.b (.t [ok 0,ok 1,ok 2]) (.b (.t [ok 0,ok 1,ok 2]) (.b (.t [ok 0,ok 1,ok 2]) (.t [ok 0,ok 1,ok 2])))) .o)))))))))⟩
instance {t0 t1 r}:Con (Jj t0 t1=some r) (Den Tryz.prog 233 [Fb t0,Fb t1] (.tup [Fb r.1,ba r.2])):=⟨λh=>by
 refine dk 32 Gac ?_
 simp only[Gac,Kf.of,zs,ze]
 unfold Jj at h
 exact pg trivial (.z 2 (.j 1 (λ(j4:Bool)=>⟨[.k 2,.p 3,.k 9,.s (ba j4),.p 19],[.o 0,.o 1,.o 2]⟩) (.b (.t [ok 0,ok 1,ok 2]) (.t [ok 0,ok 1,ok 2])) .o))⟩
instance {t0 t1 t2 r}:Con (Tt t0 t1 t2=some r) (Den Tryz.prog 246 [aa t0,ra t1,Vb t2] (ba r)):=⟨λh=>by
 refine dk 20 k246 ?_
 simp only[k246,Kf.of,zs,ze]
 unfold Tt at h
 exact pg trivial (.z 2 (.j 1 (λ(j3:Bool)=>⟨[.k 6,.s (ba j3)],[]⟩) (.b (.t []) (.t [])) .o))⟩
instance {t0 c10 c11 r}:Con (Cc t0 (λx900=>Qe x900 c10 c11)=some r) (Den Tryz.prog 52 [me t0,.fn 73 [] [oi c10,oi c11]] (.tup [ka r.1,ka r.2])):=⟨λh=>Ap (q1:=[oi c10,oi c11]) (iD (iD AA)) (λx900 _ hb=>zp hb) h⟩
theorem Ty{t0 t1 t2 r} (h:oe t0 t1 t2=some r):Den Tryz.prog 28 [Ca t0,aa t1,aa t2] (.tup [ka r.1,ka r.2.1,ka r.2.2]):=by
 refine dk 37 k28 ?_
 simp only[k28,Kf.of,zs,ze]
 unfold oe at h
 exact pg @Ig.eq_1 (.z 2 (.d [.o 0] [ok 0] (.l 2 1 (λ(q:((List Int) × Int))=>⟨[.k 3,.p 1,.k 5,.p 2,.s (.own 1 0),.p 2,.k 7,.p 2,.s (aa q.2),.p 16],[.o 0,.n 1 ((q.1.map aa))]⟩) (λ(b10:(List Int))=>⟨[.k 9,.p 2,.s (.own 0 0),.p 2],[.n 1 ((b10.map aa))]⟩) [ok 0,on 1] (.b (.t [ok 0,ov 1 1]) (.t [ok 1])) .o)))
instance {t0 t1 t2 r}:Con (oe t0 t1 t2=some r) (Den Tryz.prog 28 [Ca t0,aa t1,aa t2] (.tup [ka r.1,ka r.2.1,ka r.2.2])):=⟨Ty⟩
instance {t0 t1 r}:Con (Dn t0 t1=some r) (Den Tryz.prog 99 [Ya t0,aa t1] (.tup [La r.1,La r.2.1,ba r.2.2])):=⟨λh=>by
 refine dk 59 k99 ?_
 simp only[k99,Kf.of,zs,ze]
 unfold Dn at h
 exact pg trivial (.z 3 (.j 1 (λ(j5:Bool)=>⟨[.p 1,.k 3,.p 2,.k 1,.p 3,.k 14,.s (ba j5),.p 36],[.o 0,.o 1]⟩) (.b (.t [ok 0,ok 1]) (.t [ok 0,ok 1])) (.b .o (.z 1 (.f ⟨[.p 61],[.o 0,.o 1,.n 2 [],.n 2 []]⟩ [ok 0,ok 1,on 2,on 2] (.g [[],[],[],[],[],[],[],[],[],[],[],[],[2,3,4,5,8,9,10,11],[2,3,4,5,8,9,10,11,12],[8,9,10,11]] [none,none,none,none,none,none,none,none,none,none,none,none,some 2,some 3,none] (.z 1 (.j 1 (λ(j13:Bool)=>⟨[.k 4,.p 3,.k 1,.p 16,.k 22,.s (ba j13),.p 14],[.o 0,.o 1,.o 2,.o 3]⟩) (.b (.t [ok 0,ok 1,ov 2 1,ov 3 1]) (.t [ok 0,ok 1,ov 2 1,ov 3 1])) (.b (.a [[],[],[1]] .o) (.z 1 (.j 1 (λ(j17:Bool)=>⟨[.k 4,.p 42,.k 10,.s (ba j17),.p 4],[.o 0,.o 1,.o 2,.o 3]⟩) (.b (.t [ok 0,ok 1,ok 2,ok 3]) (.t [ok 0,ok 1,ok 2,ok 3])) (.b (.a [[],[],[1]] .o) .o))))))))))))⟩
instance {t0 t1 t2 r}:Con (ub t0 t1 t2=some r) (Den Tryz.prog 158 [La t0,gb t1,Em t2] (.tup [ma r.1,aa r.2])):=⟨λh=>by
 refine dk 51 Nab ?_
 simp only[Nab,Kf.of,zs,ze]
 unfold ub at h
 exact pg trivial (.z 2 (.j 1 (λ(j4:Bool)=>⟨[.k 1,.p 1,.k 1,.p 4,.k 13,.s (ba j4),.p 33],[.o 0,.o 1,.o 2]⟩) (.b (.t [ok 0,ok 1,ok 2]) (.t [ok 0,ok 1,ok 2])) (.b .o (.b .o (.z 1 (.j 1 (λ(j11:Bool)=>⟨[.k 1,.p 19,.k 16,.s (ba j11),.p 17],[.o 0,.o 1,.o 2]⟩) (.b (.t [ok 0,ok 1,ok 2]) (.t [ok 0,ok 1,ok 2])) .o))))))⟩
instance {t0 t1 r}:Con (kn t0 t1=some r) (Den Tryz.prog 171 [uh t0,uh t1] (ba r)):=⟨λh=>by
 refine dk 27 Rab ?_
 simp only[Rab,Kf.of,zs,ze]
 unfold kn at h
 exact pg trivial (.z 2 (.j 1 (λ(j3:Bool)=>⟨[.k 4,.s (ba j3)],[]⟩) (.b (.t []) (.t [])) .o))⟩
instance {t0 t1 t2 r}:Con (Nr t0 t1 t2=some r) (Den Tryz.prog 187 [uh t0,sb t1,Vb t2] (ba r)):=⟨λh=>by
 refine dk 50 eac ?_
 simp only[eac,Kf.of,zs,ze]
 unfold Nr at h
 exact pg trivial (.z 2 (.j 1 (λ(j4:Bool)=>⟨[.k 2,.p 4,.k 20,.s (ba j4),.p 26],[.o 0,.o 1]⟩) (.b (.b (.t [ok 0,ok 1]) (.t [ok 0,ok 1])) (.t [ok 0,ok 1])) (.b .o (.j 1 (λ(j11:Bool)=>⟨[.k 6,.s (ba j11),.p 19],[]⟩) (.b (.b (.t []) (.t [])) (.t [])) .o))))⟩
instance {t0 t1 t2 t3 r}:Con (kg t0 t1 t2 t3=some r) (Den Tryz.prog 46 [ab t0,aa t1,aa t2,aa t3] (Kj r)):=⟨λh=>by
 refine dk 37 k46 ?_
 simp only[k46,Kf.of,zs,ze]
 unfold kg at h
 exact pg trivial .o⟩
instance {t0 t1 r}:Con (Pl t0 t1=some r) (Den Tryz.prog 62 [Li t0,aa t1] (ka r)):=⟨λh=>by
 refine dk 63 k62 ?_
 simp only[k62,Kf.of,zs,ze]
 unfold Pl at h
 exact pg (And.intro @Yh.eq_1 @Xh.eq_1) (.l 2 1 (λ(q:((List Int) × Int))=>⟨[.p 4,.k 1,.s (ka q.1),.s (aa q.2),.p 58],[]⟩) (λ(b22:(List Int))=>⟨[.k 5,.s (ka b22)],[]⟩) [] (.b (.l 2 1 (λ(q:((List Int) × Int))=>⟨[.p 5,.s (ka q.1),.p 1,.s (aa q.2),.p 3],[]⟩) (λ(b19:(List Int))=>⟨[.p 5,.s (ka b19),.p 1],[]⟩) [] (.b (.j 1 (λ(j16:(List Int))=>⟨[.p 5,.s (ka j16),.p 11],[]⟩) (.z 2 (.j 1 (λ(j11:Bool)=>⟨[.p 8,.k 1,.p 1,.k 38,.s (ba j11),.p 16],[.o 1]⟩) (.b (.b (.t [ok 1]) (.t [ok 1])) (.t [ok 1])) (.b (.t []) (.b (.t []) (.t []))))) (.t [])) (.t [])) (.t [])) (.t [])) .o)⟩
theorem Yu{R116:(GEval_evaluator -> Int -> Option (GValue × Int))} {R157:(GEval_evaluator -> GNode -> (List Int) -> Option (GValue × Int))} {R218:(GEval_evaluator -> Int -> Option (GValue × Int))} {t0 t1 r} [∀ t0 t1 r,Con (R116 t0 t1=some r) (Den Tryz.prog 116 [qa t0,aa t1] (.tup [ma r.1,aa r.2]))] [∀ t0 t1 t2 r,Con (R157 t0 t1 t2=some r) (Den Tryz.prog 157 [qa t0,La t1,ka t2] (.tup [ma r.1,aa r.2]))] [∀ t0 t1 r,Con (R218 t0 t1=some r) (Den Tryz.prog 218 [qa t0,aa t1] (.tup [ma r.1,aa r.2]))] (h:Dc R116 R157 R218 t0 t1=some r):Den Tryz.prog 116 [qa t0,aa t1] (.tup [ma r.1,aa r.2]):=by
 refine dk 63 cab ?_
 simp only[cab,Kf.of,zs,ze]
 unfold Dc at h
 exact pg @Yc.eq_1 (.z 5 (.j 1 (λ(j5:Bool)=>⟨[.k 2,.p 3,.k 1,.p 7,.k 10,.s (ba j5),.p 41],[.o 0,.o 1,.o 2]⟩) (.b (.t [ok 0,ok 1,ok 2]) (.b (.t [ok 0,ok 1,ok 2]) (.t [ok 0,ok 1,ok 2]))) (.b .o (.l 2 1 (λ(q:((List GValue) × Int))=>⟨[.k 2,.p 5,.k 1,.p 15,.k 13,.p 2,.s (aa q.2),.p 26],[.o 0,.o 1,.o 2,.c 3 ((q.1.map ma))]⟩) (λ(b19:(List GValue))=>⟨[.k 2,.p 5,.k 1,.p 15],[.o 0,.o 1,.o 2,.c 3 ((b19.map ma))]⟩) [ok 0,ok 1,ok 2,ok 3] (.b (.b .o (.t [ok 0,ok 1,ok 2,ok 3])) (.t [ok 0,ok 1,ok 2,ok 3])) .o))))
theorem Xu{R116:(GEval_evaluator -> Int -> Option (GValue × Int))} {R157:(GEval_evaluator -> GNode -> (List Int) -> Option (GValue × Int))} {R218:(GEval_evaluator -> Int -> Option (GValue × Int))} {t0 t1 t2 r} [∀ t0 t1 r,Con (R116 t0 t1=some r) (Den Tryz.prog 116 [qa t0,aa t1] (.tup [ma r.1,aa r.2]))] [∀ t0 t1 t2 r,Con (R157 t0 t1 t2=some r) (Den Tryz.prog 157 [qa t0,La t1,ka t2] (.tup [ma r.1,aa r.2]))] [∀ t0 t1 r,Con (R218 t0 t1=some r) (Den Tryz.prog 218 [qa t0,aa t1] (.tup [ma r.1,aa r.2]))] (h:kf R116 R157 R218 t0 t1 t2=some r):Den Tryz.prog 157 [qa t0,La t1,ka t2] (.tup [ma r.1,aa r.2]):=by
 refine dk 66 Mab ?_
 simp only[Mab,Kf.of,zs,ze]
 unfold kf at h
 exact pg trivial (.b .o (.a [[],[],[],[],[],[],[],[],[],[]] (.b .o (.z 1 (.j 1 (λ(j6:Bool)=>⟨[.k 2,.p 5,.k 1,.p 1,.k 17,.s (ba j6),.p 42],[.o 0,.o 1,.o 2,.o 3]⟩) (.b (.t [ok 0,ok 1,ok 2,ok 3]) (.t [ok 0,ok 1,ok 2,ok 3])) .o)))))
theorem Ts{R116:(GEval_evaluator -> Int -> Option (GValue × Int))} {R157:(GEval_evaluator -> GNode -> (List Int) -> Option (GValue × Int))} {R218:(GEval_evaluator -> Int -> Option (GValue × Int))} {t0 t1 r} [∀ t0 t1 r,Con (R116 t0 t1=some r) (Den Tryz.prog 116 [qa t0,aa t1] (.tup [ma r.1,aa r.2]))] [∀ t0 t1 t2 r,Con (R157 t0 t1 t2=some r) (Den Tryz.prog 157 [qa t0,La t1,ka t2] (.tup [ma r.1,aa r.2]))] [∀ t0 t1 r,Con (R218 t0 t1=some r) (Den Tryz.prog 218 [qa t0,aa t1] (.tup [ma r.1,aa r.2]))] (h:Bc R116 R157 R218 t0 t1=some r):Den Tryz.prog 218 [qa t0,aa t1] (.tup [ma r.1,aa r.2]):=by
 refine dk 26 yac ?_
 simp only[yac,Kf.of,zs,ze]
 unfold Bc at h
 exact pg trivial (.b .o (.z 1 (.j 1 (λ(j5:Bool)=>⟨[.k 4,.p 1,.k 1,.p 1,.k 18,.s (ba j5),.p 2],[.o 1,.o 2]⟩) (.b (.t [ok 1,ok 2]) (.t [ok 1,ok 2])) .o)))
theorem Cf:∀n,(∀ t0 t1 r,(ea n).1 t0 t1=some r->Den Tryz.prog 116 [qa t0,aa t1] (.tup [ma r.1,aa r.2]))/\(∀ t0 t1 t2 r,(ea n).2.1 t0 t1 t2=some r->Den Tryz.prog 157 [qa t0,La t1,ka t2] (.tup [ma r.1,aa r.2]))/\(∀ t0 t1 r,(ea n).2.2 t0 t1=some r->Den Tryz.prog 218 [qa t0,aa t1] (.tup [ma r.1,aa r.2]))
|0=>⟨λ_ _ _ h=>(nomatch h),λ_ _ _ _ h=>(nomatch h),λ_ _ _ h=>(nomatch h)⟩
|n+1=>by
 obtain⟨H0,H1,H2⟩:=Cf n
 haveI I0:∀ t0 t1 r,Con ((ea n).1 t0 t1=some r) (Den Tryz.prog 116 [qa t0,aa t1] (.tup [ma r.1,aa r.2])):=λt0 t1 r=>⟨H0 t0 t1 r⟩
 haveI I1:∀ t0 t1 t2 r,Con ((ea n).2.1 t0 t1 t2=some r) (Den Tryz.prog 157 [qa t0,La t1,ka t2] (.tup [ma r.1,aa r.2])):=λt0 t1 t2 r=>⟨H1 t0 t1 t2 r⟩
 haveI I2:∀ t0 t1 r,Con ((ea n).2.2 t0 t1=some r) (Den Tryz.prog 218 [qa t0,aa t1] (.tup [ma r.1,aa r.2])):=λt0 t1 r=>⟨H2 t0 t1 r⟩
 exact⟨λt0 t1 r h=>Yu (R116:=(ea n).1) (R157:=(ea n).2.1) (R218:=(ea n).2.2) h,λt0 t1 t2 r h=>Xu (R116:=(ea n).1) (R157:=(ea n).2.1) (R218:=(ea n).2.2) h,λt0 t1 r h=>Ts (R116:=(ea n).1) (R157:=(ea n).2.1) (R218:=(ea n).2.2) h⟩
theorem bw{t0 t1 r} (h:Mj t0 t1=some r):Den Tryz.prog 116 [qa t0,aa t1] (.tup [ma r.1,aa r.2]):=(Cf br).1 _ _ _ h
instance {t0 t1 r}:Con (Mj t0 t1=some r) (Den Tryz.prog 116 [qa t0,aa t1] (.tup [ma r.1,aa r.2])):=⟨bw⟩
theorem aw{t0 t1 t2 r} (h:Is t0 t1 t2=some r):Den Tryz.prog 157 [qa t0,La t1,ka t2] (.tup [ma r.1,aa r.2]):=(Cf br).2.1 _ _ _ _ h
instance {t0 t1 t2 r}:Con (Is t0 t1 t2=some r) (Den Tryz.prog 157 [qa t0,La t1,ka t2] (.tup [ma r.1,aa r.2])):=⟨aw⟩
theorem ru{t0 t1 r} (h:Cp t0 t1=some r):Den Tryz.prog 218 [qa t0,aa t1] (.tup [ma r.1,aa r.2]):=(Cf br).2.2 _ _ _ h
instance {t0 t1 r}:Con (Cp t0 t1=some r) (Den Tryz.prog 218 [qa t0,aa t1] (.tup [ma r.1,aa r.2])):=⟨ru⟩
instance {t0 t1 r}:Con (Vm t0 t1=some r) (Den Tryz.prog 136 [sb t0,Vb t1] (.tup [aa r.1,aa r.2])):=⟨λh=>by
 refine dk 55 tab ?_
 simp only[tab,Kf.of,zs,ze]
 unfold Vm at h
 exact pg (And.intro @kj.eq_1 @jj.eq_1) (.b .o (.z 1 (.j 1 (λ(j5:Bool)=>⟨[.k 1,.p 3,.k 19,.s (ba j5),.p 33],[.o 0]⟩) (.b (.t [ok 0]) (.t [ok 0])) (.b .o (.l 1 0 (λ(s7:Int)=>⟨[.k 1,.p 5,.s (aa s7),.p 16],[.o 0]⟩) (λ(_:Unit)=>⟨[],[]⟩) [ok 0] (.b (.b .o (.l 1 0 (λ(s12:Int)=>⟨[.k 1,.p 6,.s (aa s12),.p 16],[.o 0]⟩) (λ(_:Unit)=>⟨[.k 1,.p 6],[.o 0]⟩) [ok 0] (.b (.b .o (.t [ok 0])) (.t [ok 0])) (.t [ok 0]))) (.t [])) .o)))))⟩
theorem Ur{t0 t1 r} (h:Dd t0 t1=some r):Den Tryz.prog 170 [uh t0,zv t1] (ba r):=by
 refine dk 5 Qab ?_
 simp only[Qab,Kf.of,zs,ze]
 unfold Dd at h
 exact pg trivial .o
instance {t0 t1 r}:Con (Dd t0 t1=some r) (Den Tryz.prog 170 [uh t0,zv t1] (ba r)):=⟨Ur⟩
end Go.Proofs.Dev
