/-
  Contracts of the functions: each answers as its plain partial function says.
-/
import Derived.Test.YtjiaejcpmcknnaaGreatDoorK
import Derived.Test.YtjiaejcpmcknnaaGreatDoorG
import Derived.Test.YtjiaejcpmcknnaaGreatDoorPD
import Derived.Test.YtjiaejcpmcknnaaGreatDoorH1
import Derived.Test.YtjiaejcpmcknnaaGreatDoorH2
import Derived.Test.YtjiaejcpmcknnaaGreatDoorQ4
import Derived.Test.YtjiaejcpmcknnaaGreatDoorQ5
import Derived.Test.YtjiaejcpmcknnaaGreatDoorQ6
import Derived.Test.YtjiaejcpmcknnaaGreatDoorQ7
set_option linter.all false
set_option maxHeartbeats 1000000
set_option maxRecDepth 10000
namespace Go.Proofs.Dev
open Go Go.Tm
instance {t0 c10 c11 r}:Con (ic t0 (λx900=>Pd x900 c10 c11)=some r) (Den Tryz.prog 52 [cf t0,.fn 73 [] [Sg c10,Sg c11]] (.tup [ea r.1,ea r.2])):=⟨λh=>Rn (q1:=[Sg c10,Sg c11]) (kD (kD oB)) (λx900 _ hb=>Qn hb) h⟩
theorem fx{t0 t1 t2 r} (h:Uf t0 t1 t2=some r):Den Tryz.prog 28 [Ca t0,aa t1,aa t2] (.tup [ea r.1,ea r.2.1,ea r.2.2]):=by
 refine dk 37 k28 ?_
 simp only[k28,Kf.of,zs,ze]
 unfold Uf at h
 exact pg @xf.eq_1 (.z 2 (.d [.o 0] [ok 0] (.l 2 1 (λ(q:((List Int) × Int))=>⟨[.k 3,.p 1,.k 5,.p 2,.s (.own 1 0),.p 2,.k 7,.p 2,.s (aa q.2),.p 16],[.o 0,.n 1 ((q.1.map aa))]⟩) (λ(b10:(List Int))=>⟨[.k 9,.p 2,.s (.own 0 0),.p 2],[.n 1 ((b10.map aa))]⟩) [ok 0,on 1] (.b (.t [ok 0,ov 1 1]) (.t [ok 1])) .o)))
instance {t0 t1 t2 r}:Con (Uf t0 t1 t2=some r) (Den Tryz.prog 28 [Ca t0,aa t1,aa t2] (.tup [ea r.1,ea r.2.1,ea r.2.2])):=⟨fx⟩
instance {t0 t1 r}:Con (Rj t0 t1=some r) (Den Tryz.prog 93 [Ib t0,aa t1] (pd r)):=⟨λh=>by
 refine dk 78 k93 ?_
 simp only[k93,Kf.of,zs,ze]
 unfold Rj at h
 exact pg (And.intro @Dg.eq_1 @Cg.eq_1) (.b .o (.b .o (.b .o (.b .o (.l 2 0 (λ(q:(Int × Int))=>⟨[.k 4,.p 3,.s (aa q.2),.p 1],[.o 1,.o 2,.h 3 [.g [.p 3,.s (aa q.1)]]]⟩) (λ(_:Unit)=>⟨[.k 4,.p 1],[.o 1]⟩) [ok 1,ok 2,ok 3] (.b (.b .o (.l 1 0 (λ(s14:Int)=>⟨[.k 4,.p 4,.s (aa s14),.p 33],[.o 0,.o 1,.o 2]⟩) (λ(_:Unit)=>⟨[.k 4,.p 4],[.o 0,.o 1,.o 2]⟩) [ok 0,ok 1,ok 2] (.b (.b .o (.t [ok 0,ok 1,ok 2])) (.t [ok 0,ok 1,ok 2])) (.t [ok 0,ok 1,ok 2]))) (.t [ok 0])) .o)))))⟩
instance {t0 t1 t2 r}:Con (Fm t0 t1 t2=some r) (Den Tryz.prog 128 [Ib t0,aa t1,bf t2] (.tup [aa r.1,aa r.2])):=⟨λh=>by
 refine dk 52 M4 ?_
 simp only[M4,Kf.of,zs,ze]
 unfold Fm at h
 exact pg @Ki.eq_1 (.b .o (.b .o (.b .o (.b .o (.l 1 0 (λ(s8:Int)=>⟨[.k 5,.p 1,.k 28,.p 2,.s (aa s8),.p 18],[.o 1]⟩) (λ(_:Unit)=>⟨[],[]⟩) [ok 1] (.b (.b .o (.b .o (.t [ok 0]))) (.t [])) .o)))))⟩
instance {t0 t1 t2 r}:Con (Wa t0 t1 t2=some r) (Den Tryz.prog 158 [Ea t0,ob t1,Kc t2] (.tup [ka r.1,aa r.2])):=⟨λh=>by
 refine dk 51 H5 ?_
 simp only[H5,Kf.of,zs,ze]
 unfold Wa at h
 exact pg trivial (.z 2 (.j 1 (λ(j4:Bool)=>⟨[.k 1,.p 1,.k 1,.p 4,.k 13,.s (ba j4),.p 33],[.o 0,.o 1,.o 2]⟩) (.b (.t [ok 0,ok 1,ok 2]) (.t [ok 0,ok 1,ok 2])) (.b .o (.b .o (.z 1 (.j 1 (λ(j11:Bool)=>⟨[.k 1,.p 19,.k 16,.s (ba j11),.p 17],[.o 0,.o 1,.o 2]⟩) (.b (.t [ok 0,ok 1,ok 2]) (.t [ok 0,ok 1,ok 2])) .o))))))⟩
instance {t0 t1 t2 r}:Con (iq t0 t1 t2=some r) (Den Tryz.prog 187 [jg t0,eb t1,Jb t2] (ba r)):=⟨λh=>by
 refine dk 50 n6 ?_
 simp only[n6,Kf.of,zs,ze]
 unfold iq at h
 exact pg trivial (.z 2 (.j 1 (λ(j4:Bool)=>⟨[.k 2,.p 4,.k 20,.s (ba j4),.p 26],[.o 0,.o 1]⟩) (.b (.b (.t [ok 0,ok 1]) (.t [ok 0,ok 1])) (.t [ok 0,ok 1])) (.b .o (.j 1 (λ(j11:Bool)=>⟨[.k 6,.s (ba j11),.p 19],[]⟩) (.b (.b (.t []) (.t [])) (.t [])) .o))))⟩
instance {t0 t1 t2 t3 r}:Con (af t0 t1 t2 t3=some r) (Den Tryz.prog 46 [Ib t0,aa t1,aa t2,aa t3] (vi r)):=⟨λh=>by
 refine dk 37 k46 ?_
 simp only[k46,Kf.of,zs,ze]
 unfold af at h
 exact pg trivial .o⟩
instance {t0 r}:Con (Yn t0=some r) (Den Tryz.prog 90 [Ib t0] (pd r)):=⟨λh=>by
 refine dk 34 k90 ?_
 simp only[k90,Kf.of,zs,ze]
 unfold Yn at h
 exact pg @uh.eq_1 (.b .o (.l 1 0 (λ(s2:Int)=>⟨[.k 1,.p 6,.k 6,.p 2,.s (aa s2),.p 19],[.o 0,.o 1]⟩) (λ(_:Unit)=>⟨[.k 2,.p 5],[.o 1]⟩) [ok 0,ok 1] (.b (.b .o (.t [ok 0,ok 1])) (.t [ok 1])) .o))⟩
theorem Ht{R116:(GEval_evaluator -> Int -> Option (GValue × Int))} {R157:(GEval_evaluator -> GNode -> (List Int) -> Option (GValue × Int))} {R218:(GEval_evaluator -> Int -> Option (GValue × Int))} {t0 t1 r} [∀ t0 t1 r,Con (R116 t0 t1=some r) (Den Tryz.prog 116 [oa t0,aa t1] (.tup [ka r.1,aa r.2]))] [∀ t0 t1 t2 r,Con (R157 t0 t1 t2=some r) (Den Tryz.prog 157 [oa t0,Ea t1,ea t2] (.tup [ka r.1,aa r.2]))] [∀ t0 t1 r,Con (R218 t0 t1=some r) (Den Tryz.prog 218 [oa t0,aa t1] (.tup [ka r.1,aa r.2]))] (h:Ra R116 R157 R218 t0 t1=some r):Den Tryz.prog 116 [oa t0,aa t1] (.tup [ka r.1,aa r.2]):=by
 refine dk 63 E4 ?_
 simp only[E4,Kf.of,zs,ze]
 unfold Ra at h
 exact pg @Va.eq_1 (.z 5 (.j 1 (λ(j5:Bool)=>⟨[.k 2,.p 3,.k 1,.p 7,.k 10,.s (ba j5),.p 41],[.o 0,.o 1,.o 2]⟩) (.b (.t [ok 0,ok 1,ok 2]) (.b (.t [ok 0,ok 1,ok 2]) (.t [ok 0,ok 1,ok 2]))) (.b .o (.l 2 1 (λ(q:((List GValue) × Int))=>⟨[.k 2,.p 5,.k 1,.p 15,.k 13,.p 2,.s (aa q.2),.p 26],[.o 0,.o 1,.o 2,.c 3 ((q.1.map ka))]⟩) (λ(b19:(List GValue))=>⟨[.k 2,.p 5,.k 1,.p 15],[.o 0,.o 1,.o 2,.c 3 ((b19.map ka))]⟩) [ok 0,ok 1,ok 2,ok 3] (.b (.b .o (.t [ok 0,ok 1,ok 2,ok 3])) (.t [ok 0,ok 1,ok 2,ok 3])) .o))))
theorem Gt{R116:(GEval_evaluator -> Int -> Option (GValue × Int))} {R157:(GEval_evaluator -> GNode -> (List Int) -> Option (GValue × Int))} {R218:(GEval_evaluator -> Int -> Option (GValue × Int))} {t0 t1 t2 r} [∀ t0 t1 r,Con (R116 t0 t1=some r) (Den Tryz.prog 116 [oa t0,aa t1] (.tup [ka r.1,aa r.2]))] [∀ t0 t1 t2 r,Con (R157 t0 t1 t2=some r) (Den Tryz.prog 157 [oa t0,Ea t1,ea t2] (.tup [ka r.1,aa r.2]))] [∀ t0 t1 r,Con (R218 t0 t1=some r) (Den Tryz.prog 218 [oa t0,aa t1] (.tup [ka r.1,aa r.2]))] (h:jc R116 R157 R218 t0 t1 t2=some r):Den Tryz.prog 157 [oa t0,Ea t1,ea t2] (.tup [ka r.1,aa r.2]):=by
 refine dk 66 G5 ?_
 simp only[G5,Kf.of,zs,ze]
 unfold jc at h
 exact pg trivial (.b .o (.a [[],[],[],[],[],[],[],[],[],[]] (.b .o (.z 1 (.j 1 (λ(j6:Bool)=>⟨[.k 2,.p 5,.k 1,.p 1,.k 17,.s (ba j6),.p 42],[.o 0,.o 1,.o 2,.o 3]⟩) (.b (.t [ok 0,ok 1,ok 2,ok 3]) (.t [ok 0,ok 1,ok 2,ok 3])) .o)))))
theorem Yq{R116:(GEval_evaluator -> Int -> Option (GValue × Int))} {R157:(GEval_evaluator -> GNode -> (List Int) -> Option (GValue × Int))} {R218:(GEval_evaluator -> Int -> Option (GValue × Int))} {t0 t1 r} [∀ t0 t1 r,Con (R116 t0 t1=some r) (Den Tryz.prog 116 [oa t0,aa t1] (.tup [ka r.1,aa r.2]))] [∀ t0 t1 t2 r,Con (R157 t0 t1 t2=some r) (Den Tryz.prog 157 [oa t0,Ea t1,ea t2] (.tup [ka r.1,aa r.2]))] [∀ t0 t1 r,Con (R218 t0 t1=some r) (Den Tryz.prog 218 [oa t0,aa t1] (.tup [ka r.1,aa r.2]))] (h:xb R116 R157 R218 t0 t1=some r):Den Tryz.prog 218 [oa t0,aa t1] (.tup [ka r.1,aa r.2]):=by
 refine dk 26 N6 ?_
 simp only[N6,Kf.of,zs,ze]
 unfold xb at h
 exact pg trivial (.b .o (.z 1 (.j 1 (λ(j5:Bool)=>⟨[.k 4,.p 1,.k 1,.p 1,.k 18,.s (ba j5),.p 2],[.o 1,.o 2]⟩) (.b (.t [ok 1,ok 2]) (.t [ok 1,ok 2])) .o)))
theorem Ce:∀n,(∀ t0 t1 r,(ca n).1 t0 t1=some r->Den Tryz.prog 116 [oa t0,aa t1] (.tup [ka r.1,aa r.2]))/\(∀ t0 t1 t2 r,(ca n).2.1 t0 t1 t2=some r->Den Tryz.prog 157 [oa t0,Ea t1,ea t2] (.tup [ka r.1,aa r.2]))/\(∀ t0 t1 r,(ca n).2.2 t0 t1=some r->Den Tryz.prog 218 [oa t0,aa t1] (.tup [ka r.1,aa r.2]))
|0=>⟨λ_ _ _ h=>(nomatch h),λ_ _ _ _ h=>(nomatch h),λ_ _ _ h=>(nomatch h)⟩
|n+1=>by
 obtain⟨H0,H1,H2⟩:=Ce n
 haveI I0:∀ t0 t1 r,Con ((ca n).1 t0 t1=some r) (Den Tryz.prog 116 [oa t0,aa t1] (.tup [ka r.1,aa r.2])):=λt0 t1 r=>⟨H0 t0 t1 r⟩
 haveI I1:∀ t0 t1 t2 r,Con ((ca n).2.1 t0 t1 t2=some r) (Den Tryz.prog 157 [oa t0,Ea t1,ea t2] (.tup [ka r.1,aa r.2])):=λt0 t1 t2 r=>⟨H1 t0 t1 t2 r⟩
 haveI I2:∀ t0 t1 r,Con ((ca n).2.2 t0 t1=some r) (Den Tryz.prog 218 [oa t0,aa t1] (.tup [ka r.1,aa r.2])):=λt0 t1 r=>⟨H2 t0 t1 r⟩
 exact⟨λt0 t1 r h=>Ht (R116:=(ca n).1) (R157:=(ca n).2.1) (R218:=(ca n).2.2) h,λt0 t1 t2 r h=>Gt (R116:=(ca n).1) (R157:=(ca n).2.1) (R218:=(ca n).2.2) h,λt0 t1 r h=>Yq (R116:=(ca n).1) (R157:=(ca n).2.1) (R218:=(ca n).2.2) h⟩
theorem Pu{t0 t1 r} (h:Af t0 t1=some r):Den Tryz.prog 116 [oa t0,aa t1] (.tup [ka r.1,aa r.2]):=(Ce vd).1 _ _ _ h
instance {t0 t1 r}:Con (Af t0 t1=some r) (Den Tryz.prog 116 [oa t0,aa t1] (.tup [ka r.1,aa r.2])):=⟨Pu⟩
theorem Ou{t0 t1 t2 r} (h:Oq t0 t1 t2=some r):Den Tryz.prog 157 [oa t0,Ea t1,ea t2] (.tup [ka r.1,aa r.2]):=(Ce vd).2.1 _ _ _ _ h
instance {t0 t1 t2 r}:Con (Oq t0 t1 t2=some r) (Den Tryz.prog 157 [oa t0,Ea t1,ea t2] (.tup [ka r.1,aa r.2])):=⟨Ou⟩
theorem Is{t0 t1 r} (h:Tn t0 t1=some r):Den Tryz.prog 218 [oa t0,aa t1] (.tup [ka r.1,aa r.2]):=(Ce vd).2.2 _ _ _ h
instance {t0 t1 r}:Con (Tn t0 t1=some r) (Den Tryz.prog 218 [oa t0,aa t1] (.tup [ka r.1,aa r.2])):=⟨Is⟩
instance {t0 t1 r}:Con (xl t0 t1=some r) (Den Tryz.prog 136 [eb t0,Jb t1] (.tup [aa r.1,aa r.2])):=⟨λh=>by
 refine dk 55 U4 ?_
 simp only[U4,Kf.of,zs,ze]
 unfold xl at h
 exact pg (And.intro @Hh.eq_1 @Fh.eq_1) (.b .o (.z 1 (.j 1 (λ(j5:Bool)=>⟨[.k 1,.p 3,.k 19,.s (ba j5),.p 33],[.o 0]⟩) (.b (.t [ok 0]) (.t [ok 0])) (.b .o (.l 1 0 (λ(s7:Int)=>⟨[.k 1,.p 5,.s (aa s7),.p 16],[.o 0]⟩) (λ(_:Unit)=>⟨[],[]⟩) [ok 0] (.b (.b .o (.l 1 0 (λ(s12:Int)=>⟨[.k 1,.p 6,.s (aa s12),.p 16],[.o 0]⟩) (λ(_:Unit)=>⟨[.k 1,.p 6],[.o 0]⟩) [ok 0] (.b (.b .o (.t [ok 0])) (.t [ok 0])) (.t [ok 0]))) (.t [])) .o)))))⟩
instance {t0 t1 r}:Con (cc t0 t1=some r) (Den Tryz.prog 74 [xa t0,Kc t1] (.tup [ka r.1,aa r.2])):=⟨λh=>by
 refine dk 25 k74 ?_
 simp only[k74,Kf.of,zs,ze]
 unfold cc at h
 exact pg trivial .o⟩
instance {t0 t1 r}:Con (bj t0 t1=some r) (Den Tryz.prog 94 [Ib t0,aa t1] (pd r)):=⟨λh=>by
 refine dk 45 k94 ?_
 simp only[k94,Kf.of,zs,ze]
 unfold bj at h
 exact pg trivial (.b .o (.b .o (.b .o (.z 1 (.j 1 (λ(j9:Int)=>⟨[.k 4,.p 1,.k 1,.p 1],[.o 1,.h 3 [.g [.p 3,.s (aa j9)]]]⟩) (.b (.t [ok 1,ok 3]) (.t [ok 1,ok 3])) .o)))))⟩
end Go.Proofs.Dev
