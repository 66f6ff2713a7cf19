/-
  Contracts of the functions: each answers as its plain partial function says.
-/
import Derived.Test.YtjiaejcpmcknnaaGreatDoorK
import Derived.Test.YtjiaejcpmcknnaaGreatDoorG
import Derived.Test.YtjiaejcpmcknnaaGreatDoorPD
import Derived.Test.YtjiaejcpmcknnaaGreatDoorH1
import Derived.Test.YtjiaejcpmcknnaaGreatDoorH2
import Derived.Test.YtjiaejcpmcknnaaGreatDoorQ0
import Derived.Test.YtjiaejcpmcknnaaGreatDoorQ1
import Derived.Test.YtjiaejcpmcknnaaGreatDoorQ2
import Derived.Test.YtjiaejcpmcknnaaGreatDoorQ3
set_option linter.all false
set_option maxHeartbeats 1000000
set_option maxRecDepth 10000
namespace Go.Proofs.Dev
open Go Go.Tm
instance {t0 r}:Con (Om t0=some r) (Den Tryz.prog 8 [Ib t0] (ba r)):=⟨λh=>by
 refine dk 126 k8 ?_
 simp only[k8,Kf.of,zs,ze]
 unfold Om at h
 exact pg (And.intro @Vh.eq_1 (And.intro @Xh.eq_1 (And.intro @Yh.eq_1 @Zf.eq_1))) (.z 2 (.j 1 (λ(j3:Bool)=>⟨[.k 1,.p 1,.k 22,.s (ba j3),.p 102],[.o 0]⟩) (.b (.b (.t [ok 0]) (.t [ok 0])) (.t [ok 0])) (.b .o (.l 1 0 (λ(s5:Int)=>⟨[.k 1,.p 4,.s (aa s5),.p 18],[.o 0]⟩) (λ(_:Unit)=>⟨[.k 1,.p 4],[.o 0]⟩) [ok 0] (.b (.z 2 (.j 1 (λ(j9:Bool)=>⟨[.k 1,.p 24,.k 24,.s (ba j9),.p 77],[.o 0]⟩) (.b (.t [ok 0]) (.t [ok 0])) (.b .o (.l 1 0 (λ(s11:Int)=>⟨[.k 1,.p 5,.s (aa s11),.p 42],[.o 0]⟩) (λ(_:Unit)=>⟨[.k 1,.p 5],[.o 0]⟩) [ok 0] (.b (.b .o (.t [ok 0])) (.t [ok 0])) (.t [ok 0]))))) (.t [ok 0])) (.l 2 0 (λ(q:(Int × Int))=>⟨[.k 1,.p 2,.s (aa q.1),.p 3,.s (aa q.2),.p 119],[.o 0]⟩) (λ(_:Unit)=>⟨[.k 1,.p 2,.k 1,.p 3],[.o 0]⟩) [ok 0] (.b (.z 2 (.j 1 (λ(j23:Bool)=>⟨[.k 1,.p 71,.k 27,.s (ba j23),.p 27],[.o 0]⟩) (.b (.t [ok 0]) (.t [ok 0])) (.b .o (.t [ok 0])))) (.t [ok 0])) (.l 2 0 (λ(q:(Int × Int))=>⟨[.k 1,.p 3,.s (aa q.1),.p 3,.s (aa q.2),.p 118],[.o 0]⟩) (λ(_:Unit)=>⟨[],[]⟩) [ok 0] (.b (.z 2 (.j 1 (λ(j33:Bool)=>⟨[.k 1,.p 99,.k 26,.s (ba j33)],[.o 0]⟩) (.b (.t [ok 0]) (.t [ok 0])) (.b .o (.t [ok 0])))) (.t [])) .o))))))⟩
instance {t0 t1 r}:Con (Fe t0 t1=some r) (Den Tryz.prog 101 [qa t0,Jb t1] (.tup [aa r.1,aa r.2])):=⟨λh=>by
 refine dk 28 V3 ?_
 simp only[V3,Kf.of,zs,ze]
 unfold Fe at h
 exact pg trivial .o⟩
instance {t0 t1 r}:Con (Lc t0 t1=some r) (Den Tryz.prog 103 [Ib t0,aa t1] (ta r)):=⟨λh=>by
 refine dk 43 X3 ?_
 simp only[X3,Kf.of,zs,ze]
 unfold Lc at h
 exact pg trivial (.z 3 (.j 2 (λ(q:((List GType) × Bool))=>⟨[.k 4,.p 1,.k 1,.p 1],[.o 1,.h 3 [.g [.p 4,.s (Ci q.1),.s (ba q.2)]]]⟩) (.j 1 (λ(j5:Bool)=>⟨[.k 2,.p 5,.k 26,.s (ba j5),.p 11],[.o 0,.o 1,.o 2,.o 3]⟩) (.b (.t [ok 0,ok 1,ok 2,ok 3]) (.t [ok 0,ok 1,ok 2,ok 3])) (.b (.t [ok 1,ok 3]) (.t [ok 1,ok 3]))) .o))⟩
instance {t0 r}:Con (il t0=some r) (Den Tryz.prog 104 [Jb t0] (Jb r)):=⟨λh=>by
 refine dk 22 Y3 ?_
 simp only[Y3,Kf.of,zs,ze]
 unfold il at h
 exact pg @Ah.eq_1 (.l 2 1 (λ(q:((List GEnum) × Int))=>⟨[.k 3,.s (.own 0 0),.p 4,.s (aa q.2),.p 14],[.n 2 ((q.1.map bf))]⟩) (λ(b9:(List GEnum))=>⟨[.k 3,.s (.own 0 0),.p 2],[.n 2 ((b9.map bf))]⟩) [on 2] (.b (.t [ov 0 1]) (.t [ok 0])) .o)⟩
instance {t0 r}:Con (Jj t0=some r) (Den Tryz.prog 105 [kg t0] (kg r)):=⟨λh=>by
 refine dk 21 Z3 ?_
 simp only[Z3,Kf.of,zs,ze]
 unfold Jj at h
 exact pg @vg.eq_1 (.l 2 1 (λ(q:((List GTable) × Int))=>⟨[.k 3,.s (.own 0 0),.p 4,.s (aa q.2),.p 13],[.n 6 ((q.1.map eb))]⟩) (λ(b9:(List GTable))=>⟨[.k 3,.s (.own 0 0),.p 2],[.n 6 ((b9.map eb))]⟩) [on 6] (.b (.t [ov 0 1]) (.t [ok 0])) .o)⟩
theorem Yt{t0 r} (h:Bi t0=some r):HB Tryz.prog 122 [] [] 1 (t0.map aa) (ea r):=by
 refine HB.at 6 OY.ok OY.nm oB oB (Fr.l _) rfl ?_
 simp only[OY,Kf.of,zs,ze]
 unfold Bi at h
 exact pg trivial .o
instance {t0 r}:Con (Bi t0=some r) (HB Tryz.prog 122 [] [] 1 (t0.map aa) (ea r)):=⟨Yt⟩
theorem jx{R167:((List Int) -> (List Int) -> (List Bool) -> Int -> Option Int)} {R230:((List Int) -> (List Int) -> (List Bool) -> Int -> Option (List Int))} {R231:((List Int) -> (List Int) -> (List Bool) -> Int -> Option Int)} {t0 t1 t2 t3 r} [∀ t0 t1 t2 t3 r,Con (R167 t0 t1 t2 t3=some r) (Den Tryz.prog 167 [ea t0,ea t1,nb t2,aa t3] (aa r))] [∀ t0 t1 t2 t3 r,Con (R230 t0 t1 t2 t3=some r) (Den Tryz.prog 230 [ea t0,ea t1,nb t2,aa t3] (ea r))] [∀ t0 t1 t2 t3 r,Con (R231 t0 t1 t2 t3=some r) (Den Tryz.prog 231 [ea t0,ea t1,nb t2,aa t3] (aa r))] (h:Ti R167 R230 R231 t0 t1 t2 t3=some r):Den Tryz.prog 167 [ea t0,ea t1,nb t2,aa t3] (aa r):=by
 refine dk 24 N5 ?_
 simp only[N5,Kf.of,zs,ze]
 unfold Ti at h
 exact pg trivial .o
theorem aC{R167:((List Int) -> (List Int) -> (List Bool) -> Int -> Option Int)} {R230:((List Int) -> (List Int) -> (List Bool) -> Int -> Option (List Int))} {R231:((List Int) -> (List Int) -> (List Bool) -> Int -> Option Int)} {t0 t1 t2 t3 r} [∀ t0 t1 t2 t3 r,Con (R167 t0 t1 t2 t3=some r) (Den Tryz.prog 167 [ea t0,ea t1,nb t2,aa t3] (aa r))] [∀ t0 t1 t2 t3 r,Con (R230 t0 t1 t2 t3=some r) (Den Tryz.prog 230 [ea t0,ea t1,nb t2,aa t3] (ea r))] [∀ t0 t1 t2 t3 r,Con (R231 t0 t1 t2 t3=some r) (Den Tryz.prog 231 [ea t0,ea t1,nb t2,aa t3] (aa r))] (h:wo R167 R230 R231 t0 t1 t2 t3=some r):Den Tryz.prog 230 [ea t0,ea t1,nb t2,aa t3] (ea r):=by
 refine dk 74 X6 ?_
 simp only[X6,Kf.of,zs,ze]
 unfold wo at h
 exact pg @Kp.eq_1 (.l 2 1 (λ(q:((List Int) × Int))=>⟨[.p 3,.k 6,.p 2,.s (aa q.2)],[.c 0 ((q.1.map aa))]⟩) (λ(b25:(List Int))=>⟨[.k 10,.p 1],[.c 0 ((b25.map aa))]⟩) [ok 0] (.b (.j 1 (λ(j22:(List Int))=>⟨[.p 16],[.c 0 ((j22.map aa))]⟩) (.b (.t [ok 0]) (.j 1 (λ(j14:(List Int))=>⟨[.p 16],[.c 0 ((j14.map aa))]⟩) (.j 1 (λ(j12:Bool)=>⟨[.p 16,.k 33,.s (ba j12),.p 28],[.o 0]⟩) (.b (.t [ok 0]) (.t [ok 0])) (.b (.t [ok 1]) (.t [ok 0]))) (.j 1 (λ(j19:Bool)=>⟨[.p 69,.s (ba j19),.p 8],[.o 0]⟩) (.b (.t [ok 0]) (.t [ok 0])) (.b (.t [ov 0 1]) (.t [ok 0]))))) (.t [ok 0])) (.t [ok 0])) .o)
theorem wy{R167:((List Int) -> (List Int) -> (List Bool) -> Int -> Option Int)} {R230:((List Int) -> (List Int) -> (List Bool) -> Int -> Option (List Int))} {R231:((List Int) -> (List Int) -> (List Bool) -> Int -> Option Int)} {t0 t1 t2 t3 r} [∀ t0 t1 t2 t3 r,Con (R167 t0 t1 t2 t3=some r) (Den Tryz.prog 167 [ea t0,ea t1,nb t2,aa t3] (aa r))] [∀ t0 t1 t2 t3 r,Con (R230 t0 t1 t2 t3=some r) (Den Tryz.prog 230 [ea t0,ea t1,nb t2,aa t3] (ea r))] [∀ t0 t1 t2 t3 r,Con (R231 t0 t1 t2 t3=some r) (Den Tryz.prog 231 [ea t0,ea t1,nb t2,aa t3] (aa r))] (h:Pj R167 R230 R231 t0 t1 t2 t3=some r):Den Tryz.prog 231 [ea t0,ea t1,nb t2,aa t3] (aa r):=by
 refine dk 21 Y6 ?_
 simp only[Y6,Kf.of,zs,ze]
 unfold Pj at h
 exact pg trivial (.z 3 (.j 1 (λ(j4:Bool)=>⟨[.k 3,.p 5,.k 1,.p 1,.k 12,.s (ba j4),.p 2],[]⟩) (.b (.t []) (.t [])) .o))
theorem ti:∀n,(∀ t0 t1 t2 t3 r,(ma n).1 t0 t1 t2 t3=some r->Den Tryz.prog 167 [ea t0,ea t1,nb t2,aa t3] (aa r))/\(∀ t0 t1 t2 t3 r,(ma n).2.1 t0 t1 t2 t3=some r->Den Tryz.prog 230 [ea t0,ea t1,nb t2,aa t3] (ea r))/\(∀ t0 t1 t2 t3 r,(ma n).2.2 t0 t1 t2 t3=some r->Den Tryz.prog 231 [ea t0,ea t1,nb t2,aa t3] (aa r))
|0=>⟨λ_ _ _ _ _ h=>(nomatch h),λ_ _ _ _ _ h=>(nomatch h),λ_ _ _ _ _ h=>(nomatch h)⟩
|n+1=>by
 obtain⟨H0,H1,H2⟩:=ti n
 haveI I0:∀ t0 t1 t2 t3 r,Con ((ma n).1 t0 t1 t2 t3=some r) (Den Tryz.prog 167 [ea t0,ea t1,nb t2,aa t3] (aa r)):=λt0 t1 t2 t3 r=>⟨H0 t0 t1 t2 t3 r⟩
 haveI I1:∀ t0 t1 t2 t3 r,Con ((ma n).2.1 t0 t1 t2 t3=some r) (Den Tryz.prog 230 [ea t0,ea t1,nb t2,aa t3] (ea r)):=λt0 t1 t2 t3 r=>⟨H1 t0 t1 t2 t3 r⟩
 haveI I2:∀ t0 t1 t2 t3 r,Con ((ma n).2.2 t0 t1 t2 t3=some r) (Den Tryz.prog 231 [ea t0,ea t1,nb t2,aa t3] (aa r)):=λt0 t1 t2 t3 r=>⟨H2 t0 t1 t2 t3 r⟩
 exact⟨λt0 t1 t2 t3 r h=>jx (R167:=(ma n).1) (R230:=(ma n).2.1) (R231:=(ma n).2.2) h,λt0 t1 t2 t3 r h=>aC (R167:=(ma n).1) (R230:=(ma n).2.1) (R231:=(ma n).2.2) h,λt0 t1 t2 t3 r h=>wy (R167:=(ma n).1) (R230:=(ma n).2.1) (R231:=(ma n).2.2) h⟩
theorem Jz{t0 t1 t2 t3 r} (h:xo t0 t1 t2 t3=some r):Den Tryz.prog 167 [ea t0,ea t1,nb t2,aa t3] (aa r):=(ti vd).1 _ _ _ _ _ h
instance {t0 t1 t2 t3 r}:Con (xo t0 t1 t2 t3=some r) (Den Tryz.prog 167 [ea t0,ea t1,nb t2,aa t3] (aa r)):=⟨Jz⟩
theorem aF{t0 t1 t2 t3 r} (h:VD t0 t1 t2 t3=some r):Den Tryz.prog 230 [ea t0,ea t1,nb t2,aa t3] (ea r):=(ti vd).2.1 _ _ _ _ _ h
instance {t0 t1 t2 t3 r}:Con (VD t0 t1 t2 t3=some r) (Den Tryz.prog 230 [ea t0,ea t1,nb t2,aa t3] (ea r)):=⟨aF⟩
theorem OA{t0 t1 t2 t3 r} (h:Lx t0 t1 t2 t3=some r):Den Tryz.prog 231 [ea t0,ea t1,nb t2,aa t3] (aa r):=(ti vd).2.2 _ _ _ _ _ h
instance {t0 t1 t2 t3 r}:Con (Lx t0 t1 t2 t3=some r) (Den Tryz.prog 231 [ea t0,ea t1,nb t2,aa t3] (aa r)):=⟨OA⟩
instance {t0 t1 r}:Con (ud t0 t1=some r) (Den Tryz.prog 183 [ea t0,aa t1] (ba r)):=⟨λh=>by
 refine dk 7 Z5 ?_
 simp only[Z5,Kf.of,zs,ze]
 unfold ud at h
 exact pg trivial .o⟩
instance {t0 t1 t2 r}:Con (Db t0 t1 t2=some r) (Den Tryz.prog 202 [aa t0,Ci t1,ta t2] (.tup [qa r.1,aa r.2])):=⟨λh=>by
 refine dk 27 I6 ?_
 simp only[I6,Kf.of,zs,ze]
 unfold Db at h
 exact pg trivial (.z 2 (.j 1 (λ(j2:Bool)=>⟨[.p 2,.k 3,.p 2,.k 8,.s (ba j2),.p 14],[.o 0,.o 1]⟩) (.b (.t [ok 0,ok 1]) (.t [ok 0,ok 1])) .o))⟩
instance {t0 r}:Con (Hj t0=some r) (Den Tryz.prog 219 [Ea t0] (ba r)):=⟨λh=>by
 refine dk 47 O6 ?_
 simp only[O6,Kf.of,zs,ze]
 unfold Hj at h
 exact pg trivial (.z 2 (.j 1 (λ(j5:Bool)=>⟨[.k 1,.p 1,.k 15,.s (ba j5),.p 30],[.o 0]⟩) (.b (.b (.t [ok 0]) (.t [ok 0])) (.t [ok 0])) (.b .o (.z 2 (.j 1 (λ(j9:Bool)=>⟨[.k 1,.p 16,.k 2,.p 1,.s (ba j9),.p 27],[.o 0]⟩) (.b (.t [ok 0]) (.b (.t [ok 0]) (.t [ok 0]))) (.b (.j 1 (λ(j12:Bool)=>⟨[.k 2,.s (ba j12),.p 16],[]⟩) (.b (.t []) (.t [])) .o) (.b (.j 1 (λ(j15:Bool)=>⟨[.k 2,.s (ba j15),.p 16],[]⟩) (.b (.t []) (.t [])) .o) .o)))))))⟩
theorem zj{t0}{t1:GField->Option Bool}{k1:Nat}{q1:List D}(hc1:la q1=true)(hp1:∀ x0 r,t1 x0=some r->Den Tryz.prog k1 ([Ya x0]++q1) (ba r)){r} (h:Ha t0 t1=some r):Den Tryz.prog 239 [Gd t0,.fn k1 [] q1] (ba r):=by
 haveI I1:∀ x0 r,Con (t1 x0=some r) (Den Tryz.prog k1 ([Ya x0]++q1) (ba r)):=λx0 r=>⟨hp1 x0 r⟩
 have s1:∀ f:D->D->Prop,Dv f q1 q1=True:=λ_=>Zh hc1
 have z1:∀ a b n,Nt a b n q1=q1:=λ_ _ _=>me _ _ _ _ hc1
 haveI:∀ y0 r,Con (Ab y0 t1=some r) (Den Tryz.prog 281 [Gd y0,.fn k1 [] q1] (aa r)):=λy0 r=>⟨Ik hc1 hp1⟩
 refine Den.at 7 WY.ok WY.nm (kD (HN hc1 oB)) rfl ?_
 simp only[WY,Kf.of,zs,ze]
 unfold Ha at h
 exact pg trivial .o
instance {t0 r}:Con (qh t0=some r) (Den Tryz.prog 280 [ub t0] (ba r)):=⟨λh=>by
 refine dk 11 X7 ?_
 simp only[X7,Kf.of,zs,ze]
 unfold qh at h
 exact pg trivial (.z 1 (.j 1 (λ(j3:Bool)=>⟨[.k 2,.s (ba j3),.p 9],[]⟩) (.b (.t []) (.t [])) .o))⟩
instance {t0 r}:Con (Yl t0=some r) (Den Tryz.prog 324 [aa t0] (aa r)):=⟨λh=>by
 refine dk 4 D8 ?_
 simp only[D8,Kf.of,zs,ze]
 unfold Yl at h
 exact pg trivial .o⟩
instance {t0 t1 r}:Con (Bk t0 t1=some r) (Den Tryz.prog 325 [aa t0,aa t1] (aa r)):=⟨λh=>by
 refine dk 21 E8 ?_
 simp only[E8,Kf.of,zs,ze]
 unfold Bk at h
 exact pg trivial (.b .o (.j 1 (λ(j7:Bool)=>⟨[.k 5,.p 1,.k 4,.s (ba j7),.p 12],[]⟩) (.b (.t []) (.b (.t []) (.b (.t []) (.t [])))) (.b .o (.j 1 (λ(j15:Bool)=>⟨[.k 15,.s (ba j15),.p 7],[]⟩) (.b (.t []) (.b (.t []) (.b (.t []) (.b (.t []) (.b (.t []) (.b (.t []) (.t []))))))) .o))))⟩
instance {t0 t1 t2 r}:Con (je t0 t1 t2=some r) (Den Tryz.prog 61 [qa t0,Jb t1,ea t2] (ea r)):=⟨λh=>by
 refine dk 68 k61 ?_
 simp only[k61,Kf.of,zs,ze]
 unfold je at h
 exact pg (And.intro @Yc.eq_1 @qi.eq_1) (.b .o (.z 2 (.j 1 (λ(j4:Bool)=>⟨[.k 2,.p 1,.k 4,.p 5,.k 16,.s (ba j4),.p 42],[]⟩) (.b (.t []) (.t [])) (.b (.l 2 1 (λ(q:((List Int) × Int))=>⟨[.k 8,.p 1,.s (.own 0 0),.s (aa q.2),.p 17],[.n 1 ((q.1.map aa))]⟩) (λ(b12:(List Int))=>⟨[.k 9,.s (.own 0 0)],[.n 1 ((b12.map aa))]⟩) [on 1] (.b (.t [ov 0 1]) (.t [ok 0])) .o) (.l 2 1 (λ(q:((List Int) × Int))=>⟨[.k 2,.p 7,.s (ea q.1),.p 1,.s (aa q.2),.p 16],[]⟩) (λ(b25:(List Int))=>⟨[.k 9,.s (ea b25),.p 1],[]⟩) [] (.b (.j 1 (λ(j22:(List Int))=>⟨[.k 2,.p 7,.s (ea j22),.p 34],[]⟩) (.j 1 (λ(j18:Bool)=>⟨[.k 2,.p 42,.k 19,.s (ba j18),.p 7],[]⟩) (.b (.t []) (.t [])) (.b (.t []) (.t []))) (.t [])) (.t [])) .o)))))⟩
instance {t0 t1 r}:Con (Em t0 t1=some r) (Den Tryz.prog 66 [Ib t0,aa t1] (ta r)):=⟨λh=>by
 refine dk 26 k66 ?_
 simp only[k66,Kf.of,zs,ze]
 unfold Em at h
 exact pg trivial (.z 2 (.j 1 (λ(j2:Bool)=>⟨[.k 1,.p 13,.s (ba j2),.p 13],[.o 0,.o 1]⟩) (.b (.t [ok 0,ok 1]) (.t [ok 0,ok 1])) .o))⟩
instance {t0 t1 t2 r}:Con (vo t0 t1 t2=some r) (Den Tryz.prog 127 [ea t0,ea t1,nb t2] (aa r)):=⟨λh=>by
 refine dk 19 L4 ?_
 simp only[L4,Kf.of,zs,ze]
 unfold vo at h
 exact pg trivial (.z 2 (.j 1 (λ(j3:Bool)=>⟨[.p 6,.k 11,.s (ba j3),.p 4],[]⟩) (.b (.t []) (.t [])) .o))⟩
instance {t0 t1 r}:Con (Za t0 t1=some r) (Den Tryz.prog 195 [Ea t0,ta t1] (ba r)):=⟨λh=>by
 refine dk 60 B6 ?_
 simp only[B6,Kf.of,zs,ze]
 unfold Za at h
 exact pg trivial (.z 3 (.j 1 (λ(j5:Bool)=>⟨[.k 2,.p 2,.k 4,.p 1,.s (ba j5),.p 52],[.o 0,.o 1]⟩) (.b (.t [ok 0,ok 1]) (.b (.t [ok 0,ok 1]) (.b (.t [ok 0,ok 1]) (.b (.t [ok 0,ok 1]) (.t [ok 0,ok 1]))))) (.b (.z 1 (.j 1 (λ(j10:Bool)=>⟨[.k 4,.s (ba j10)],[]⟩) (.b (.t []) (.t [])) .o)) (.j 1 (λ(j13:Bool)=>⟨[.k 2,.p 1,.k 5,.p 1,.k 25,.s (ba j13),.p 27],[.o 0]⟩) (.b (.t [ok 0]) (.b (.t [ok 0]) (.t [ok 0]))) (.b (.j 1 (λ(j16:Bool)=>⟨[.k 4,.s (ba j16),.p 3],[]⟩) (.b (.t []) (.t [])) .o) (.b (.j 1 (λ(j19:Bool)=>⟨[.k 4,.s (ba j19),.p 3],[]⟩) (.b (.t []) (.t [])) .o) .o))))))⟩
instance {t0 t1 r}:Con (sf t0 t1=some r) (Den Tryz.prog 204 [Ea t0,ta t1] (.tup [qa r.1,aa r.2])):=⟨λh=>by
 refine dk 60 K6 ?_
 simp only[K6,Kf.of,zs,ze]
 unfold sf at h
 exact pg trivial (.b .o (.b .o (.b .o (.z 1 (.j 1 (λ(j13:Bool)=>⟨[.k 4,.p 1,.k 1,.p 1,.k 1,.s (ba j13)],[.o 2,.o 3]⟩) (.b (.b (.t [ok 2,ok 3]) (.t [ok 2,ok 3])) (.j 1 (λ(j8:Bool)=>⟨[.k 4,.p 1,.k 1,.p 1,.k 1,.p 1,.k 22,.p 1,.k 10,.s (ba j8),.p 19],[.o 2,.o 3]⟩) (.b (.t [ok 2,ok 3]) (.t [ok 2,ok 3])) (.b (.t [ok 0,ok 1]) (.b (.b (.t [ok 0,ok 1]) (.t [ok 0,ok 1])) (.t [ok 0,ok 1]))))) .o)))))⟩
instance {t0 t1 r}:Con (ui t0 t1=some r) (Den Tryz.prog 233 [ub t0,ub t1] (.tup [ub r.1,ba r.2])):=⟨λh=>by
 refine dk 32 i7 ?_
 simp only[i7,Kf.of,zs,ze]
 unfold ui at h
 exact pg trivial (.z 2 (.j 1 (λ(j4:Bool)=>⟨[.k 2,.p 3,.k 9,.s (ba j4),.p 19],[.o 0,.o 1,.o 2]⟩) (.b (.t [ok 0,ok 1,ok 2]) (.t [ok 0,ok 1,ok 2])) .o))⟩
instance {t0 t1 t2 r}:Con (Qr t0 t1 t2=some r) (Den Tryz.prog 246 [aa t0,qa t1,Jb t2] (ba r)):=⟨λh=>by
 refine dk 20 w7 ?_
 simp only[w7,Kf.of,zs,ze]
 unfold Qr at h
 exact pg trivial (.z 2 (.j 1 (λ(j3:Bool)=>⟨[.k 6,.s (ba j3)],[]⟩) (.b (.t []) (.t [])) .o))⟩
instance {t0 r}:Con (gw t0=some r) (Den Tryz.prog 303 [aa t0] (.tup [aa r.1,aa r.2.1,aa r.2.2])):=⟨λh=>by
 refine dk 35 v8 ?_
 simp only[v8,Kf.of,zs,ze]
 unfold gw at h
 exact pg (And.intro @iw.eq_1 @jw.eq_1) (.b .o (.l 2 2 (λ(q:(Int × Int))=>⟨[.s (aa q.1),.p 1,.k 3,.s (aa q.2),.p 1],[]⟩) (λ(q:(Int × Int))=>⟨[.s (aa q.1),.p 1,.k 3,.s (aa q.2),.p 1],[]⟩) [] (.b (.t []) (.t [])) (.l 2 2 (λ(q:(Int × Int))=>⟨[.s (aa q.1),.p 5,.s (aa q.2),.p 29],[]⟩) (λ(q:(Int × Int))=>⟨[.s (aa q.1),.p 5,.s (aa q.2),.p 29],[]⟩) [] (.b (.t []) (.t [])) .o)))⟩
end Go.Proofs.Dev
