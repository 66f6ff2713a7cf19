/-
  Contracts of the functions: each answers as its plain partial function says.
-/
import Derived.Test.YtnlamdfggbdblaaGreatDoorK
import Derived.Test.YtnlamdfggbdblaaGreatDoorG
import Derived.Test.YtnlamdfggbdblaaGreatDoorPD
import Derived.Test.YtnlamdfggbdblaaGreatDoorH2
import Derived.Test.YtnlamdfggbdblaaGreatDoorQ4
import Derived.Test.YtnlamdfggbdblaaGreatDoorQ5
import Derived.Test.YtnlamdfggbdblaaGreatDoorQ6
import Derived.Test.YtnlamdfggbdblaaGreatDoorQ7
set_option linter.all false
set_option maxHeartbeats 1000000
set_option maxRecDepth 10000
namespace Go.Proofs.Dev
open Go Go.Tm
instance {t0 c10 c11 r}:Con (xc t0 (λx900=>je x900 c10 c11)=some r) (Den Tryz.prog 50 [Cf t0,.fn 51 [] [mh c10,mh c11]] (.tup [da r.1,da r.2])):=⟨λh=>Wn (q1:=[mh c10,mh c11]) (iB (iB oz)) (λx900 _ hb=>Vn hb) h⟩
theorem gx{t0 t1 t2 r} (h:ug t0 t1 t2=some r):Den Tryz.prog 19 [Da t0,aa t1,aa t2] (.tup [da r.1,da r.2.1,da r.2.2]):=by
 refine dk 37 k19 ?_
 simp only[k19,Kf.of,zs,ze]
 unfold ug at h
 exact pg @Tf.eq_1 (.z 2 (.d [.o 0] [ok 0] (.l 2 1 (λ(q:((List Int) × Int))=>⟨[.k 3,.p 1,.k 5,.p 2,.s (.own 1 0),.p 2,.k 7,.p 2,.s (aa q.2),.p 16],[.o 0,.n 1 ((q.1.map aa))]⟩) (λ(b10:(List Int))=>⟨[.k 9,.p 2,.s (.own 0 0),.p 2],[.n 1 ((b10.map aa))]⟩) [ok 0,on 1] (.b (.t [ok 0,ov 1 1]) (.t [ok 1])) .o)))
instance {t0 t1 t2 r}:Con (ug t0 t1 t2=some r) (Den Tryz.prog 19 [Da t0,aa t1,aa t2] (.tup [da r.1,da r.2.1,da r.2.2])):=⟨gx⟩
instance {t0 t1 t2 r}:Con (Hf t0 t1 t2=some r) (Den Tryz.prog 55 [da t0,da t1,nb t2] (da r)):=⟨λh=>by
 refine dk 45 k55 ?_
 simp only[k55,Kf.of,zs,ze]
 unfold Hf at h
 exact pg @uf.eq_1 (.l 2 1 (λ(q:((List Int) × Int))=>⟨[.k 2,.p 4,.k 1,.p 1,.s (aa q.2)],[.o 1,.c 0 ((q.1.map aa))]⟩) (λ(b18:(List Int))=>⟨[.k 7,.p 1],[.o 1,.c 0 ((b18.map aa))]⟩) [ok 1,ok 0] (.b (.j 1 (λ(j15:(List Int))=>⟨[.k 2,.p 16],[.o 0,.c 1 ((j15.map aa))]⟩) (.z 1 (.j 1 (λ(j11:Bool)=>⟨[.k 2,.p 16,.k 22,.s (ba j11),.p 7],[.o 0,.o 1]⟩) (.b (.t [ok 0,ok 1]) (.t [ok 0,ok 1])) (.b (.t [ok 0,ok 1]) (.t [ok 0,ok 1])))) (.t [ok 0,ok 1])) (.t [ok 0,ok 1])) .o)⟩
instance {t0 t1 t2 r}:Con (Pe t0 t1 t2=some r) (Den Tryz.prog 62 [da t0,da t1,nb t2] (.tup [aa r.1,aa r.2.1,ba r.2.2])):=⟨λh=>by
 refine dk 30 k62 ?_
 simp only[k62,Kf.of,zs,ze]
 unfold Pe at h
 exact pg @Ee.eq_1 (.b .o (.u 1 (λ(s3:Int)=>⟨[.p 6,.k 3,.s (aa s3),.p 1],[]⟩) [] (.b .o (.t []))))⟩
instance {t0 t1 r}:Con (Yj t0 t1=some r) (Den Tryz.prog 64 [Jb t0,aa t1] (Gd r)):=⟨λh=>by
 refine dk 78 k64 ?_
 simp only[k64,Kf.of,zs,ze]
 unfold Yj at h
 exact pg (And.intro @Ug.eq_1 @Tg.eq_1) (.b .o (.b .o (.b .o (.b .o (.l 2 0 (λ(q:(Int × Int))=>⟨[.k 4,.p 3,.s (aa q.2),.p 1],[.o 1,.o 2,.h 3 [.g [.p 3,.s (aa q.1)]]]⟩) (λ(_:Unit)=>⟨[.k 4,.p 1],[.o 1]⟩) [ok 1,ok 2,ok 3] (.b (.b .o (.l 1 0 (λ(s14:Int)=>⟨[.k 4,.p 4,.s (aa s14),.p 33],[.o 0,.o 1,.o 2]⟩) (λ(_:Unit)=>⟨[.k 4,.p 4],[.o 0,.o 1,.o 2]⟩) [ok 0,ok 1,ok 2] (.b (.b .o (.t [ok 0,ok 1,ok 2])) (.t [ok 0,ok 1,ok 2])) (.t [ok 0,ok 1,ok 2]))) (.t [ok 0])) .o)))))⟩
instance {t0 c10 c11 r}:Con (xc t0 (λx900=>Hc x900 c10 c11)=some r) (Den Tryz.prog 50 [Cf t0,.fn 119 [] [mh c10,mh c11]] (.tup [da r.1,da r.2])):=⟨λh=>Wn (q1:=[mh c10,mh c11]) (iB (iB oz)) (λx900 _ hb=>Bn hb) h⟩
theorem Qv{t0 t1 t2 r} (h:Ef t0 t1 t2=some r):Den Tryz.prog 78 [Da t0,aa t1,aa t2] (da r):=by
 refine dk 14 k78 ?_
 simp only[k78,Kf.of,zs,ze]
 unfold Ef at h
 exact pg trivial (.z 2 (.d [.o 0] [ok 0] .o))
instance {t0 t1 t2 r}:Con (Ef t0 t1 t2=some r) (Den Tryz.prog 78 [Da t0,aa t1,aa t2] (da r)):=⟨Qv⟩
instance {t0 t1 t2 r}:Con (ab t0 t1 t2=some r) (Den Tryz.prog 133 [Ga t0,wb t1,Uc t2] (.tup [ka r.1,aa r.2])):=⟨λh=>by
 refine dk 51 Q3 ?_
 simp only[Q3,Kf.of,zs,ze]
 unfold ab at h
 exact pg trivial (.z 2 (.j 1 (λ(j4:Bool)=>⟨[.k 1,.p 1,.k 1,.p 4,.k 13,.s (ba j4),.p 33],[.o 0,.o 1,.o 2]⟩) (.b (.t [ok 0,ok 1,ok 2]) (.t [ok 0,ok 1,ok 2])) (.b .o (.b .o (.z 1 (.j 1 (λ(j11:Bool)=>⟨[.k 1,.p 19,.k 16,.s (ba j11),.p 17],[.o 0,.o 1,.o 2]⟩) (.b (.t [ok 0,ok 1,ok 2]) (.t [ok 0,ok 1,ok 2])) .o))))))⟩
instance {t0 t1 t2 r}:Con (vh t0 t1 t2=some r) (Den Tryz.prog 23 [da t0,da t1,nb t2] (aa r)):=⟨λh=>by
 refine dk 23 k23 ?_
 simp only[k23,Kf.of,zs,ze]
 unfold vh at h
 exact pg trivial (.z 2 (.j 1 (λ(j3:Bool)=>⟨[.p 6,.k 11,.s (ba j3),.p 8],[]⟩) (.b (.t []) (.t [])) .o))⟩
instance {t0 t1 t2 r}:Con (Ah t0 t1 t2=some r) (Den Tryz.prog 43 [Da t0,aa t1,aa t2] (Eh r)):=⟨λh=>by
 refine dk 35 k43 ?_
 simp only[k43,Kf.of,zs,ze]
 unfold Ah at h
 exact pg @Ze.eq_1 (.l 2 1 (λ(q:((List (List GNode)) × Int))=>⟨[.k 3,.p 3,.k 1,.s (.own 1 0),.p 2,.k 3,.p 2,.s (aa q.2),.p 22],[.o 0,.n 1 ((q.1.map ya))]⟩) (λ(b12:(List (List GNode)))=>⟨[.k 7,.s (.own 0 0),.p 2],[.n 1 ((b12.map ya))]⟩) [ok 0,on 1] (.b (.j 1 (λ(j9:(List (List GNode)))=>⟨[.k 3,.p 13],[.o 0,.c 1 ((j9.map ya))]⟩) (.b (.t [ok 0,ov 1 1]) (.t [ok 0,ok 1])) (.t [ok 0,ok 1])) (.t [ok 1])) .o)⟩
theorem Bt{R93:(GEval_evaluator -> Int -> Option (GValue × Int))} {R132:(GEval_evaluator -> GNode -> (List Int) -> Option (GValue × Int))} {R191:(GEval_evaluator -> Int -> Option (GValue × Int))} {t0 t1 r} [∀ t0 t1 r,Con (R93 t0 t1=some r) (Den Tryz.prog 93 [oa t0,aa t1] (.tup [ka r.1,aa r.2]))] [∀ t0 t1 t2 r,Con (R132 t0 t1 t2=some r) (Den Tryz.prog 132 [oa t0,Ga t1,da t2] (.tup [ka r.1,aa r.2]))] [∀ t0 t1 r,Con (R191 t0 t1=some r) (Den Tryz.prog 191 [oa t0,aa t1] (.tup [ka r.1,aa r.2]))] (h:Va R93 R132 R191 t0 t1=some r):Den Tryz.prog 93 [oa t0,aa t1] (.tup [ka r.1,aa r.2]):=by
 refine dk 63 k93 ?_
 simp only[k93,Kf.of,zs,ze]
 unfold Va at h
 exact pg @Ya.eq_1 (.z 5 (.j 1 (λ(j5:Bool)=>⟨[.k 2,.p 3,.k 1,.p 7,.k 10,.s (ba j5),.p 41],[.o 0,.o 1,.o 2]⟩) (.b (.t [ok 0,ok 1,ok 2]) (.b (.t [ok 0,ok 1,ok 2]) (.t [ok 0,ok 1,ok 2]))) (.b .o (.l 2 1 (λ(q:((List GValue) × Int))=>⟨[.k 2,.p 5,.k 1,.p 15,.k 13,.p 2,.s (aa q.2),.p 26],[.o 0,.o 1,.o 2,.c 3 ((q.1.map ka))]⟩) (λ(b19:(List GValue))=>⟨[.k 2,.p 5,.k 1,.p 15],[.o 0,.o 1,.o 2,.c 3 ((b19.map ka))]⟩) [ok 0,ok 1,ok 2,ok 3] (.b (.b .o (.t [ok 0,ok 1,ok 2,ok 3])) (.t [ok 0,ok 1,ok 2,ok 3])) .o))))
theorem zt{R93:(GEval_evaluator -> Int -> Option (GValue × Int))} {R132:(GEval_evaluator -> GNode -> (List Int) -> Option (GValue × Int))} {R191:(GEval_evaluator -> Int -> Option (GValue × Int))} {t0 t1 t2 r} [∀ t0 t1 r,Con (R93 t0 t1=some r) (Den Tryz.prog 93 [oa t0,aa t1] (.tup [ka r.1,aa r.2]))] [∀ t0 t1 t2 r,Con (R132 t0 t1 t2=some r) (Den Tryz.prog 132 [oa t0,Ga t1,da t2] (.tup [ka r.1,aa r.2]))] [∀ t0 t1 r,Con (R191 t0 t1=some r) (Den Tryz.prog 191 [oa t0,aa t1] (.tup [ka r.1,aa r.2]))] (h:zc R93 R132 R191 t0 t1 t2=some r):Den Tryz.prog 132 [oa t0,Ga t1,da t2] (.tup [ka r.1,aa r.2]):=by
 refine dk 66 P3 ?_
 simp only[P3,Kf.of,zs,ze]
 unfold zc at h
 exact pg trivial (.b .o (.a [[],[],[],[],[],[],[],[],[],[]] (.b .o (.z 1 (.j 1 (λ(j6:Bool)=>⟨[.k 2,.p 5,.k 1,.p 1,.k 17,.s (ba j6),.p 42],[.o 0,.o 1,.o 2,.o 3]⟩) (.b (.t [ok 0,ok 1,ok 2,ok 3]) (.t [ok 0,ok 1,ok 2,ok 3])) .o)))))
theorem Qq{R93:(GEval_evaluator -> Int -> Option (GValue × Int))} {R132:(GEval_evaluator -> GNode -> (List Int) -> Option (GValue × Int))} {R191:(GEval_evaluator -> Int -> Option (GValue × Int))} {t0 t1 r} [∀ t0 t1 r,Con (R93 t0 t1=some r) (Den Tryz.prog 93 [oa t0,aa t1] (.tup [ka r.1,aa r.2]))] [∀ t0 t1 t2 r,Con (R132 t0 t1 t2=some r) (Den Tryz.prog 132 [oa t0,Ga t1,da t2] (.tup [ka r.1,aa r.2]))] [∀ t0 t1 r,Con (R191 t0 t1=some r) (Den Tryz.prog 191 [oa t0,aa t1] (.tup [ka r.1,aa r.2]))] (h:Db R93 R132 R191 t0 t1=some r):Den Tryz.prog 191 [oa t0,aa t1] (.tup [ka r.1,aa r.2]):=by
 refine dk 26 r5 ?_
 simp only[r5,Kf.of,zs,ze]
 unfold Db at h
 exact pg trivial (.b .o (.z 1 (.j 1 (λ(j5:Bool)=>⟨[.k 4,.p 1,.k 1,.p 1,.k 18,.s (ba j5),.p 2],[.o 1,.o 2]⟩) (.b (.t [ok 1,ok 2]) (.t [ok 1,ok 2])) .o)))
theorem Te:∀n,(∀ t0 t1 r,(ca n).1 t0 t1=some r->Den Tryz.prog 93 [oa t0,aa t1] (.tup [ka r.1,aa r.2]))/\(∀ t0 t1 t2 r,(ca n).2.1 t0 t1 t2=some r->Den Tryz.prog 132 [oa t0,Ga t1,da t2] (.tup [ka r.1,aa r.2]))/\(∀ t0 t1 r,(ca n).2.2 t0 t1=some r->Den Tryz.prog 191 [oa t0,aa t1] (.tup [ka r.1,aa r.2]))
|0=>⟨λ_ _ _ h=>(nomatch h),λ_ _ _ _ h=>(nomatch h),λ_ _ _ h=>(nomatch h)⟩
|n+1=>by
 obtain⟨H0,H1,H2⟩:=Te n
 haveI I0:∀ t0 t1 r,Con ((ca n).1 t0 t1=some r) (Den Tryz.prog 93 [oa t0,aa t1] (.tup [ka r.1,aa r.2])):=λt0 t1 r=>⟨H0 t0 t1 r⟩
 haveI I1:∀ t0 t1 t2 r,Con ((ca n).2.1 t0 t1 t2=some r) (Den Tryz.prog 132 [oa t0,Ga t1,da t2] (.tup [ka r.1,aa r.2])):=λt0 t1 t2 r=>⟨H1 t0 t1 t2 r⟩
 haveI I2:∀ t0 t1 r,Con ((ca n).2.2 t0 t1=some r) (Den Tryz.prog 191 [oa t0,aa t1] (.tup [ka r.1,aa r.2])):=λt0 t1 r=>⟨H2 t0 t1 r⟩
 exact⟨λt0 t1 r h=>Bt (R93:=(ca n).1) (R132:=(ca n).2.1) (R191:=(ca n).2.2) h,λt0 t1 t2 r h=>zt (R93:=(ca n).1) (R132:=(ca n).2.1) (R191:=(ca n).2.2) h,λt0 t1 r h=>Qq (R93:=(ca n).1) (R132:=(ca n).2.1) (R191:=(ca n).2.2) h⟩
theorem Ju{t0 t1 r} (h:Uf t0 t1=some r):Den Tryz.prog 93 [oa t0,aa t1] (.tup [ka r.1,aa r.2]):=(Te Gc).1 _ _ _ h
instance {t0 t1 r}:Con (Uf t0 t1=some r) (Den Tryz.prog 93 [oa t0,aa t1] (.tup [ka r.1,aa r.2])):=⟨Ju⟩
theorem Iu{t0 t1 t2 r} (h:Gq t0 t1 t2=some r):Den Tryz.prog 132 [oa t0,Ga t1,da t2] (.tup [ka r.1,aa r.2]):=(Te Gc).2.1 _ _ _ _ h
instance {t0 t1 t2 r}:Con (Gq t0 t1 t2=some r) (Den Tryz.prog 132 [oa t0,Ga t1,da t2] (.tup [ka r.1,aa r.2])):=⟨Iu⟩
theorem Cs{t0 t1 r} (h:Xn t0 t1=some r):Den Tryz.prog 191 [oa t0,aa t1] (.tup [ka r.1,aa r.2]):=(Te Gc).2.2 _ _ _ h
instance {t0 t1 r}:Con (Xn t0 t1=some r) (Den Tryz.prog 191 [oa t0,aa t1] (.tup [ka r.1,aa r.2])):=⟨Cs⟩
instance {t0 t1 t2 r}:Con (kb t0 t1 t2=some r) (Den Tryz.prog 24 [da t0,da t1,nb t2] (.tup [aa r.1,aa r.2.1,ba r.2.2])):=⟨λh=>by
 refine dk 39 k24 ?_
 simp only[k24,Kf.of,zs,ze]
 unfold kb at h
 exact pg @Eb.eq_1 (.b .o (.l 1 1 (λ(s5:(List Int))=>⟨[.k 9,.p 1,.s (da s5)],[.o 0]⟩) (λ(b10:(List Int))=>⟨[.k 10,.s (da b10)],[]⟩) [ok 0] (.b (.t [ok 0]) (.t [])) .o))⟩
instance {t0 t1 r}:Con (Hb t0 t1=some r) (Den Tryz.prog 53 [ya t0,Uc t1] (.tup [ka r.1,aa r.2])):=⟨λh=>by
 refine dk 25 k53 ?_
 simp only[k53,Kf.of,zs,ze]
 unfold Hb at h
 exact pg trivial .o⟩
end Go.Proofs.Dev
