/-
  Contracts of the functions: each answers as its plain partial function says.
-/
import Derived.Test.YtnlamdfggbdblaaGreatDoorK
import Derived.Test.YtnlamdfggbdblaaGreatDoorG
import Derived.Test.YtnlamdfggbdblaaGreatDoorPD
import Derived.Test.YtnlamdfggbdblaaGreatDoorH2
import Derived.Test.YtnlamdfggbdblaaGreatDoorQ0
import Derived.Test.YtnlamdfggbdblaaGreatDoorQ1
import Derived.Test.YtnlamdfggbdblaaGreatDoorQ2
import Derived.Test.YtnlamdfggbdblaaGreatDoorQ3
set_option linter.all false
set_option maxHeartbeats 1000000
set_option maxRecDepth 10000
namespace Go.Proofs.Dev
open Go Go.Tm
instance {t0 r}:Con (xk t0=some r) (Den Tryz.prog 5 [Jb t0] (ba r)):=⟨λh=>by
 refine dk 126 k5 ?_
 simp only[k5,Kf.of,zs,ze]
 unfold xk at h
 exact pg (And.intro @mi.eq_1 (And.intro @ni.eq_1 (And.intro @oi.eq_1 @Ag.eq_1))) (.z 2 (.j 1 (λ(j3:Bool)=>⟨[.k 1,.p 1,.k 22,.s (ba j3),.p 102],[.o 0]⟩) (.b (.b (.t [ok 0]) (.t [ok 0])) (.t [ok 0])) (.b .o (.l 1 0 (λ(s5:Int)=>⟨[.k 1,.p 4,.s (aa s5),.p 18],[.o 0]⟩) (λ(_:Unit)=>⟨[.k 1,.p 4],[.o 0]⟩) [ok 0] (.b (.z 2 (.j 1 (λ(j9:Bool)=>⟨[.k 1,.p 24,.k 24,.s (ba j9),.p 77],[.o 0]⟩) (.b (.t [ok 0]) (.t [ok 0])) (.b .o (.l 1 0 (λ(s11:Int)=>⟨[.k 1,.p 5,.s (aa s11),.p 42],[.o 0]⟩) (λ(_:Unit)=>⟨[.k 1,.p 5],[.o 0]⟩) [ok 0] (.b (.b .o (.t [ok 0])) (.t [ok 0])) (.t [ok 0]))))) (.t [ok 0])) (.l 2 0 (λ(q:(Int × Int))=>⟨[.k 1,.p 2,.s (aa q.1),.p 3,.s (aa q.2),.p 119],[.o 0]⟩) (λ(_:Unit)=>⟨[.k 1,.p 2,.k 1,.p 3],[.o 0]⟩) [ok 0] (.b (.z 2 (.j 1 (λ(j23:Bool)=>⟨[.k 1,.p 71,.k 27,.s (ba j23),.p 27],[.o 0]⟩) (.b (.t [ok 0]) (.t [ok 0])) (.b .o (.t [ok 0])))) (.t [ok 0])) (.l 2 0 (λ(q:(Int × Int))=>⟨[.k 1,.p 3,.s (aa q.1),.p 3,.s (aa q.2),.p 118],[.o 0]⟩) (λ(_:Unit)=>⟨[],[]⟩) [ok 0] (.b (.z 2 (.j 1 (λ(j33:Bool)=>⟨[.k 1,.p 99,.k 26,.s (ba j33)],[.o 0]⟩) (.b (.t [ok 0]) (.t [ok 0])) (.b .o (.t [ok 0])))) (.t [])) .o))))))⟩
theorem Dm{t0 t1 r} (h:jb t0 t1=some r):Den Tryz.prog 26 [va t0,Bf t1] (ba r):=by
 refine dk 5 k26 ?_
 simp only[k26,Kf.of,zs,ze]
 unfold jb at h
 exact pg trivial .o
instance {t0 t1 r}:Con (jb t0 t1=some r) (Den Tryz.prog 26 [va t0,Bf t1] (ba r)):=⟨Dm⟩
instance {t0 t1 r}:Con (We t0 t1=some r) (Den Tryz.prog 73 [qa t0,Tb t1] (.tup [aa r.1,aa r.2])):=⟨λh=>by
 refine dk 28 k73 ?_
 simp only[k73,Kf.of,zs,ze]
 unfold We at h
 exact pg trivial .o⟩
instance {t0 t1 r}:Con (Vc t0 t1=some r) (Den Tryz.prog 79 [Jb t0,aa t1] (ta r)):=⟨λh=>by
 refine dk 43 k79 ?_
 simp only[k79,Kf.of,zs,ze]
 unfold Vc at h
 exact pg trivial (.z 3 (.j 2 (λ(q:((List GType) × Bool))=>⟨[.k 4,.p 1,.k 1,.p 1],[.o 1,.h 3 [.g [.p 4,.s (Mi q.1),.s (ba q.2)]]]⟩) (.j 1 (λ(j5:Bool)=>⟨[.k 2,.p 5,.k 26,.s (ba j5),.p 11],[.o 0,.o 1,.o 2,.o 3]⟩) (.b (.t [ok 0,ok 1,ok 2,ok 3]) (.t [ok 0,ok 1,ok 2,ok 3])) (.b (.t [ok 1,ok 3]) (.t [ok 1,ok 3]))) .o))⟩
instance {t0 r}:Con (ml t0=some r) (Den Tryz.prog 80 [Tb t0] (Tb r)):=⟨λh=>by
 refine dk 22 k80 ?_
 simp only[k80,Kf.of,zs,ze]
 unfold ml at h
 exact pg @Oh.eq_1 (.l 2 1 (λ(q:((List GEnum) × Int))=>⟨[.k 3,.s (.own 0 0),.p 4,.s (aa q.2),.p 14],[.n 2 ((q.1.map Af))]⟩) (λ(b9:(List GEnum))=>⟨[.k 3,.s (.own 0 0),.p 2],[.n 2 ((b9.map Af))]⟩) [on 2] (.b (.t [ov 0 1]) (.t [ok 0])) .o)⟩
instance {t0 r}:Con (Qj t0=some r) (Den Tryz.prog 81 [Fg t0] (Fg r)):=⟨λh=>by
 refine dk 21 k81 ?_
 simp only[k81,Kf.of,zs,ze]
 unfold Qj at h
 exact pg @Ng.eq_1 (.l 2 1 (λ(q:((List GTable) × Int))=>⟨[.k 3,.s (.own 0 0),.p 4,.s (aa q.2),.p 13],[.n 6 ((q.1.map mb))]⟩) (λ(b9:(List GTable))=>⟨[.k 3,.s (.own 0 0),.p 2],[.n 6 ((b9.map mb))]⟩) [on 6] (.b (.t [ov 0 1]) (.t [ok 0])) .o)⟩
instance {t0 t1 r}:Con (qc t0 t1=some r) (Den Tryz.prog 86 [ya t0,Ga t1] (ba r)):=⟨λh=>by
 refine dk 7 k86 ?_
 simp only[k86,Kf.of,zs,ze]
 unfold qc at h
 exact pg trivial .o⟩
instance {t0 t1 t2 r}:Con (Ao t0 t1 t2=some r) (Den Tryz.prog 95 [Da t0,da t1,aa t2] (aa r)):=⟨λh=>by
 refine dk 32 k95 ?_
 simp only[k95,Kf.of,zs,ze]
 unfold Ao at h
 exact pg @sh.eq_1 (.l 2 0 (λ(q:(Int × Int))=>⟨[.k 1,.p 1,.s (aa q.1),.p 3,.k 1,.s (aa q.2),.p 1],[.o 0]⟩) (λ(_:Unit)=>⟨[],[]⟩) [ok 0] (.z 1 (.j 1 (λ(j5:Bool)=>⟨[.k 1,.p 1,.k 1,.p 18,.s (ba j5),.p 13],[.o 0]⟩) (.b (.t [ok 0]) (.t [ok 0])) (.b (.b .o (.t [ok 0])) (.t [])))) .o)⟩
theorem kx{R99:((List Int) -> (List Int) -> (List Bool) -> Int -> Option Int)} {R100:((List Int) -> (List Int) -> (List Bool) -> Int -> Option (List Int))} {R137:((List Int) -> (List Int) -> (List Bool) -> Int -> Option Int)} {t0 t1 t2 t3 r} [∀ t0 t1 t2 t3 r,Con (R99 t0 t1 t2 t3=some r) (Den Tryz.prog 99 [da t0,da t1,nb t2,aa t3] (aa r))] [∀ t0 t1 t2 t3 r,Con (R100 t0 t1 t2 t3=some r) (Den Tryz.prog 100 [da t0,da t1,nb t2,aa t3] (da r))] [∀ t0 t1 t2 t3 r,Con (R137 t0 t1 t2 t3=some r) (Den Tryz.prog 137 [da t0,da t1,nb t2,aa t3] (aa r))] (h:cj R99 R100 R137 t0 t1 t2 t3=some r):Den Tryz.prog 99 [da t0,da t1,nb t2,aa t3] (aa r):=by
 refine dk 24 k99 ?_
 simp only[k99,Kf.of,zs,ze]
 unfold cj at h
 exact pg trivial .o
theorem YB{R99:((List Int) -> (List Int) -> (List Bool) -> Int -> Option Int)} {R100:((List Int) -> (List Int) -> (List Bool) -> Int -> Option (List Int))} {R137:((List Int) -> (List Int) -> (List Bool) -> Int -> Option Int)} {t0 t1 t2 t3 r} [∀ t0 t1 t2 t3 r,Con (R99 t0 t1 t2 t3=some r) (Den Tryz.prog 99 [da t0,da t1,nb t2,aa t3] (aa r))] [∀ t0 t1 t2 t3 r,Con (R100 t0 t1 t2 t3=some r) (Den Tryz.prog 100 [da t0,da t1,nb t2,aa t3] (da r))] [∀ t0 t1 t2 t3 r,Con (R137 t0 t1 t2 t3=some r) (Den Tryz.prog 137 [da t0,da t1,nb t2,aa t3] (aa r))] (h:vo R99 R100 R137 t0 t1 t2 t3=some r):Den Tryz.prog 100 [da t0,da t1,nb t2,aa t3] (da r):=by
 refine dk 74 L2 ?_
 simp only[L2,Kf.of,zs,ze]
 unfold vo at h
 exact pg @Ip.eq_1 (.l 2 1 (λ(q:((List Int) × Int))=>⟨[.p 3,.k 6,.p 2,.s (aa q.2)],[.c 0 ((q.1.map aa))]⟩) (λ(b25:(List Int))=>⟨[.k 10,.p 1],[.c 0 ((b25.map aa))]⟩) [ok 0] (.b (.j 1 (λ(j22:(List Int))=>⟨[.p 16],[.c 0 ((j22.map aa))]⟩) (.b (.t [ok 0]) (.j 1 (λ(j14:(List Int))=>⟨[.p 16],[.c 0 ((j14.map aa))]⟩) (.j 1 (λ(j12:Bool)=>⟨[.p 16,.k 33,.s (ba j12),.p 28],[.o 0]⟩) (.b (.t [ok 0]) (.t [ok 0])) (.b (.t [ok 1]) (.t [ok 0]))) (.j 1 (λ(j19:Bool)=>⟨[.p 69,.s (ba j19),.p 8],[.o 0]⟩) (.b (.t [ok 0]) (.t [ok 0])) (.b (.t [ov 0 1]) (.t [ok 0]))))) (.t [ok 0])) (.t [ok 0])) .o)
theorem sy{R99:((List Int) -> (List Int) -> (List Bool) -> Int -> Option Int)} {R100:((List Int) -> (List Int) -> (List Bool) -> Int -> Option (List Int))} {R137:((List Int) -> (List Int) -> (List Bool) -> Int -> Option Int)} {t0 t1 t2 t3 r} [∀ t0 t1 t2 t3 r,Con (R99 t0 t1 t2 t3=some r) (Den Tryz.prog 99 [da t0,da t1,nb t2,aa t3] (aa r))] [∀ t0 t1 t2 t3 r,Con (R100 t0 t1 t2 t3=some r) (Den Tryz.prog 100 [da t0,da t1,nb t2,aa t3] (da r))] [∀ t0 t1 t2 t3 r,Con (R137 t0 t1 t2 t3=some r) (Den Tryz.prog 137 [da t0,da t1,nb t2,aa t3] (aa r))] (h:Wj R99 R100 R137 t0 t1 t2 t3=some r):Den Tryz.prog 137 [da t0,da t1,nb t2,aa t3] (aa r):=by
 refine dk 21 U3 ?_
 simp only[U3,Kf.of,zs,ze]
 unfold Wj at h
 exact pg trivial (.z 3 (.j 1 (λ(j4:Bool)=>⟨[.k 3,.p 5,.k 1,.p 1,.k 12,.s (ba j4),.p 2],[]⟩) (.b (.t []) (.t [])) .o))
theorem Ei:∀n,(∀ t0 t1 t2 t3 r,(ma n).1 t0 t1 t2 t3=some r->Den Tryz.prog 99 [da t0,da t1,nb t2,aa t3] (aa r))/\(∀ t0 t1 t2 t3 r,(ma n).2.1 t0 t1 t2 t3=some r->Den Tryz.prog 100 [da t0,da t1,nb t2,aa t3] (da r))/\(∀ t0 t1 t2 t3 r,(ma n).2.2 t0 t1 t2 t3=some r->Den Tryz.prog 137 [da t0,da t1,nb t2,aa t3] (aa r))
|0=>⟨λ_ _ _ _ _ h=>(nomatch h),λ_ _ _ _ _ h=>(nomatch h),λ_ _ _ _ _ h=>(nomatch h)⟩
|n+1=>by
 obtain⟨H0,H1,H2⟩:=Ei n
 haveI I0:∀ t0 t1 t2 t3 r,Con ((ma n).1 t0 t1 t2 t3=some r) (Den Tryz.prog 99 [da t0,da t1,nb t2,aa t3] (aa r)):=λt0 t1 t2 t3 r=>⟨H0 t0 t1 t2 t3 r⟩
 haveI I1:∀ t0 t1 t2 t3 r,Con ((ma n).2.1 t0 t1 t2 t3=some r) (Den Tryz.prog 100 [da t0,da t1,nb t2,aa t3] (da r)):=λt0 t1 t2 t3 r=>⟨H1 t0 t1 t2 t3 r⟩
 haveI I2:∀ t0 t1 t2 t3 r,Con ((ma n).2.2 t0 t1 t2 t3=some r) (Den Tryz.prog 137 [da t0,da t1,nb t2,aa t3] (aa r)):=λt0 t1 t2 t3 r=>⟨H2 t0 t1 t2 t3 r⟩
 exact⟨λt0 t1 t2 t3 r h=>kx (R99:=(ma n).1) (R100:=(ma n).2.1) (R137:=(ma n).2.2) h,λt0 t1 t2 t3 r h=>YB (R99:=(ma n).1) (R100:=(ma n).2.1) (R137:=(ma n).2.2) h,λt0 t1 t2 t3 r h=>sy (R99:=(ma n).1) (R100:=(ma n).2.1) (R137:=(ma n).2.2) h⟩
theorem Kz{t0 t1 t2 t3 r} (h:wo t0 t1 t2 t3=some r):Den Tryz.prog 99 [da t0,da t1,nb t2,aa t3] (aa r):=(Ei Gc).1 _ _ _ _ _ h
instance {t0 t1 t2 t3 r}:Con (wo t0 t1 t2 t3=some r) (Den Tryz.prog 99 [da t0,da t1,nb t2,aa t3] (aa r)):=⟨Kz⟩
theorem RE{t0 t1 t2 t3 r} (h:Nr t0 t1 t2 t3=some r):Den Tryz.prog 100 [da t0,da t1,nb t2,aa t3] (da r):=(Ei Gc).2.1 _ _ _ _ _ h
instance {t0 t1 t2 t3 r}:Con (Nr t0 t1 t2 t3=some r) (Den Tryz.prog 100 [da t0,da t1,nb t2,aa t3] (da r)):=⟨RE⟩
theorem JA{t0 t1 t2 t3 r} (h:Jx t0 t1 t2 t3=some r):Den Tryz.prog 137 [da t0,da t1,nb t2,aa t3] (aa r):=(Ei Gc).2.2 _ _ _ _ _ h
instance {t0 t1 t2 t3 r}:Con (Jx t0 t1 t2 t3=some r) (Den Tryz.prog 137 [da t0,da t1,nb t2,aa t3] (aa r)):=⟨JA⟩
instance {t0 r}:Con (Wi t0=some r) (Den Tryz.prog 161 [Df t0] (aa r)):=⟨λh=>by
 refine dk 28 N4 ?_
 simp only[N4,Kf.of,zs,ze]
 unfold Wi at h
 exact pg @Wc.eq_1 (.l 1 1 (λ(s1:Int)=>⟨[.p 2,.k 1,.s (aa s1),.p 25],[]⟩) (λ(b11:Int)=>⟨[.k 3,.s (aa b11),.p 25],[]⟩) [] (.z 1 (.j 1 (λ(j8:Bool)=>⟨[.p 25,.s (ba j8),.p 3],[]⟩) (.b (.b (.b (.t []) (.t [])) (.t [])) (.t [])) (.b (.t []) (.t [])))) .o)⟩
instance {t0 t1 t2 r}:Con (Ob t0 t1 t2=some r) (Den Tryz.prog 175 [aa t0,Mi t1,ta t2] (.tup [qa r.1,aa r.2])):=⟨λh=>by
 refine dk 27 Y4 ?_
 simp only[Y4,Kf.of,zs,ze]
 unfold Ob at h
 exact pg trivial (.z 2 (.j 1 (λ(j2:Bool)=>⟨[.p 2,.k 3,.p 2,.k 8,.s (ba j2),.p 14],[.o 0,.o 1]⟩) (.b (.t [ok 0,ok 1]) (.t [ok 0,ok 1])) .o))⟩
theorem Ek{t0}{t1:GRule->Option Bool}{k1:Nat}{q1:List D}(hc1:ia q1=true)(hp1:∀ x0 r,t1 x0=some r->Den Tryz.prog k1 ([bb x0]++q1) (ba r)){r} (h:Ib t0 t1=some r):Den Tryz.prog 222 [Cf t0,.fn k1 [] q1] (ba r):=by
 haveI I1:∀ x0 r,Con (t1 x0=some r) (Den Tryz.prog k1 ([bb x0]++q1) (ba r)):=λx0 r=>⟨hp1 x0 r⟩
 have s1:∀ f:D->D->Prop,Zu f q1 q1=True:=λ_=>bg hc1
 have z1:∀ a b n,Ys a b n q1=q1:=λ_ _ _=>Ld _ _ _ _ hc1
 haveI:∀ y0 r,Con (nc y0 t1=some r) (Den Tryz.prog 265 [Cf y0,.fn k1 [] q1] (aa r)):=λy0 r=>⟨wm hc1 hp1⟩
 refine Den.at 7 uY.ok uY.nm (iB (xK hc1 oz)) rfl ?_
 simp only[uY,Kf.of,zs,ze]
 unfold Ib at h
 exact pg trivial .o
instance {t0 r}:Con (Zl t0=some r) (Den Tryz.prog 280 [aa t0] (aa r)):=⟨λh=>by
 refine dk 4 R6 ?_
 simp only[R6,Kf.of,zs,ze]
 unfold Zl at h
 exact pg trivial .o⟩
instance {t0 t1 r}:Con (Ik t0 t1=some r) (Den Tryz.prog 281 [aa t0,aa t1] (aa r)):=⟨λh=>by
 refine dk 21 S6 ?_
 simp only[S6,Kf.of,zs,ze]
 unfold Ik at h
 exact pg trivial (.b .o (.j 1 (λ(j7:Bool)=>⟨[.k 5,.p 1,.k 4,.s (ba j7),.p 12],[]⟩) (.b (.t []) (.b (.t []) (.b (.t []) (.t [])))) (.b .o (.j 1 (λ(j15:Bool)=>⟨[.k 15,.s (ba j15),.p 7],[]⟩) (.b (.t []) (.b (.t []) (.b (.t []) (.b (.t []) (.b (.t []) (.b (.t []) (.t []))))))) .o))))⟩
instance {t0 t1 t2 r}:Con (Fe t0 t1 t2=some r) (Den Tryz.prog 38 [qa t0,Tb t1,da t2] (da r)):=⟨λh=>by
 refine dk 68 k38 ?_
 simp only[k38,Kf.of,zs,ze]
 unfold Fe at h
 exact pg (And.intro @qd.eq_1 @Bi.eq_1) (.b .o (.z 2 (.j 1 (λ(j4:Bool)=>⟨[.k 2,.p 1,.k 4,.p 5,.k 16,.s (ba j4),.p 42],[]⟩) (.b (.t []) (.t [])) (.b (.l 2 1 (λ(q:((List Int) × Int))=>⟨[.k 8,.p 1,.s (.own 0 0),.s (aa q.2),.p 17],[.n 1 ((q.1.map aa))]⟩) (λ(b12:(List Int))=>⟨[.k 9,.s (.own 0 0)],[.n 1 ((b12.map aa))]⟩) [on 1] (.b (.t [ov 0 1]) (.t [ok 0])) .o) (.l 2 1 (λ(q:((List Int) × Int))=>⟨[.k 2,.p 7,.s (da q.1),.p 1,.s (aa q.2),.p 16],[]⟩) (λ(b25:(List Int))=>⟨[.k 9,.s (da b25),.p 1],[]⟩) [] (.b (.j 1 (λ(j22:(List Int))=>⟨[.k 2,.p 7,.s (da j22),.p 34],[]⟩) (.j 1 (λ(j18:Bool)=>⟨[.k 2,.p 42,.k 19,.s (ba j18),.p 7],[]⟩) (.b (.t []) (.t [])) (.b (.t []) (.t []))) (.t [])) (.t [])) .o)))))⟩
instance {t0 t1 r}:Con (Hm t0 t1=some r) (Den Tryz.prog 44 [Jb t0,aa t1] (ta r)):=⟨λh=>by
 refine dk 26 k44 ?_
 simp only[k44,Kf.of,zs,ze]
 unfold Hm at h
 exact pg trivial (.z 2 (.j 1 (λ(j2:Bool)=>⟨[.k 1,.p 13,.s (ba j2),.p 13],[.o 0,.o 1]⟩) (.b (.t [ok 0,ok 1]) (.t [ok 0,ok 1])) .o))⟩
instance {t0 t1 r}:Con (Bh t0 t1=some r) (Den Tryz.prog 46 [Eh t0,aa t1] (ba r)):=⟨λh=>by
 refine dk 16 k46 ?_
 simp only[k46,Kf.of,zs,ze]
 unfold Bh at h
 exact pg @af.eq_1 (.l 1 0 (λ(s1:Int)=>⟨[.k 1,.p 3,.k 3,.p 2,.s (aa s1),.p 8],[]⟩) (λ(_:Unit)=>⟨[],[]⟩) [] (.b (.b .o (.t [])) (.t [])) .o)⟩
instance {t0 t1 t2 r}:Con (fm t0 t1 t2=some r) (Den Tryz.prog 61 [da t0,da t1,nb t2] (aa r)):=⟨λh=>by
 refine dk 19 k61 ?_
 simp only[k61,Kf.of,zs,ze]
 unfold fm at h
 exact pg trivial (.z 2 (.j 1 (λ(j3:Bool)=>⟨[.p 6,.k 11,.s (ba j3),.p 4],[]⟩) (.b (.t []) (.t [])) .o))⟩
theorem Oo{t0 r} (h:qb t0=some r):Den Tryz.prog 115 [Df t0] (ba r):=by
 refine dk 26 A3 ?_
 simp only[A3,Kf.of,zs,ze]
 unfold qb at h
 exact pg trivial (.z 1 (.j 1 (λ(j9:Bool)=>⟨[.k 2,.s (ba j9),.p 24],[]⟩) (.b (.b (.b (.b (.t []) (.t [])) (.t [])) (.t [])) (.t [])) .o))
instance {t0 r}:Con (qb t0=some r) (Den Tryz.prog 115 [Df t0] (ba r)):=⟨Oo⟩
instance {t0 t1 r}:Con (gb t0 t1=some r) (Den Tryz.prog 151 [Ga t0,ta t1] (ba r)):=⟨λh=>by
 refine dk 60 D4 ?_
 simp only[D4,Kf.of,zs,ze]
 unfold gb at h
 exact pg trivial (.z 3 (.j 1 (λ(j5:Bool)=>⟨[.k 2,.p 2,.k 4,.p 1,.s (ba j5),.p 52],[.o 0,.o 1]⟩) (.b (.t [ok 0,ok 1]) (.b (.t [ok 0,ok 1]) (.b (.t [ok 0,ok 1]) (.b (.t [ok 0,ok 1]) (.t [ok 0,ok 1]))))) (.b (.z 1 (.j 1 (λ(j10:Bool)=>⟨[.k 4,.s (ba j10)],[]⟩) (.b (.t []) (.t [])) .o)) (.j 1 (λ(j13:Bool)=>⟨[.k 2,.p 1,.k 5,.p 1,.k 25,.s (ba j13),.p 27],[.o 0]⟩) (.b (.t [ok 0]) (.b (.t [ok 0]) (.t [ok 0]))) (.b (.j 1 (λ(j16:Bool)=>⟨[.k 4,.s (ba j16),.p 3],[]⟩) (.b (.t []) (.t [])) .o) (.b (.j 1 (λ(j19:Bool)=>⟨[.k 4,.s (ba j19),.p 3],[]⟩) (.b (.t []) (.t [])) .o) .o))))))⟩
instance {t0 t1 r}:Con (Pf t0 t1=some r) (Den Tryz.prog 177 [Ga t0,ta t1] (.tup [qa r.1,aa r.2])):=⟨λh=>by
 refine dk 60 n5 ?_
 simp only[n5,Kf.of,zs,ze]
 unfold Pf at h
 exact pg trivial (.b .o (.b .o (.b .o (.z 1 (.j 1 (λ(j13:Bool)=>⟨[.k 4,.p 1,.k 1,.p 1,.k 1,.s (ba j13)],[.o 2,.o 3]⟩) (.b (.b (.t [ok 2,ok 3]) (.t [ok 2,ok 3])) (.j 1 (λ(j8:Bool)=>⟨[.k 4,.p 1,.k 1,.p 1,.k 1,.p 1,.k 22,.p 1,.k 10,.s (ba j8),.p 19],[.o 2,.o 3]⟩) (.b (.t [ok 2,ok 3]) (.t [ok 2,ok 3])) (.b (.t [ok 0,ok 1]) (.b (.b (.t [ok 0,ok 1]) (.t [ok 0,ok 1])) (.t [ok 0,ok 1]))))) .o)))))⟩
instance {t0 t1 t2 r}:Con (Jr t0 t1 t2=some r) (Den Tryz.prog 206 [aa t0,qa t1,Tb t2] (ba r)):=⟨λh=>by
 refine dk 20 K5 ?_
 simp only[K5,Kf.of,zs,ze]
 unfold Jr at h
 exact pg trivial (.z 2 (.j 1 (λ(j3:Bool)=>⟨[.k 6,.s (ba j3)],[]⟩) (.b (.t []) (.t [])) .o))⟩
instance {t0 r}:Con (gw t0=some r) (Den Tryz.prog 255 [aa t0] (.tup [aa r.1,aa r.2.1,aa r.2.2])):=⟨λh=>by
 refine dk 35 G6 ?_
 simp only[G6,Kf.of,zs,ze]
 unfold gw at h
 exact pg (And.intro @iw.eq_1 @jw.eq_1) (.b .o (.l 2 2 (λ(q:(Int × Int))=>⟨[.s (aa q.1),.p 1,.k 3,.s (aa q.2),.p 1],[]⟩) (λ(q:(Int × Int))=>⟨[.s (aa q.1),.p 1,.k 3,.s (aa q.2),.p 1],[]⟩) [] (.b (.t []) (.t [])) (.l 2 2 (λ(q:(Int × Int))=>⟨[.s (aa q.1),.p 5,.s (aa q.2),.p 29],[]⟩) (λ(q:(Int × Int))=>⟨[.s (aa q.1),.p 5,.s (aa q.2),.p 29],[]⟩) [] (.b (.t []) (.t [])) .o)))⟩
end Go.Proofs.Dev
