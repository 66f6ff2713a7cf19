/-
  Contracts of the functions: each answers as its plain partial function says.
-/
import Derived.Test.YtjiaejcpmcknnaaGreatDoorK
import Derived.Test.YtjiaejcpmcknnaaGreatDoorG
import Derived.Test.YtjiaejcpmcknnaaGreatDoorPD
import Derived.Test.YtjiaejcpmcknnaaGreatDoorH1
import Derived.Test.YtjiaejcpmcknnaaGreatDoorH2
import Derived.Test.YtjiaejcpmcknnaaGreatDoorQ0
import Derived.Test.YtjiaejcpmcknnaaGreatDoorQ1
import Derived.Test.YtjiaejcpmcknnaaGreatDoorQ2
import Derived.Test.YtjiaejcpmcknnaaGreatDoorQ3
set_option linter.all false
set_option maxHeartbeats 1000000
set_option maxRecDepth 10000
namespace Go.Proofs.Dev
open Go Go.Tm
instance {t0 t1 t2 r}:Con (tf t0 t1 t2=some r) (Den Tryz.prog 61 [ua t0,Wb t1,la t2] (la r)):=⟨λh=>by
 refine dk 68 k61 ?_
 simp only[k61,Kf.of,zs,ze]
 unfold tf at h
 exact pg (And.intro @Pd.eq_1 @Rj.eq_1) (.b .o (.z 2 (.j 1 (λ(j4:Bool)=>⟨[.k 2,.p 1,.k 4,.p 5,.k 16,.s (ba j4),.p 42],[]⟩) (.b (.t []) (.t [])) (.b (.l 2 1 (λ(q:((List Int) × Int))=>⟨[.k 8,.p 1,.s (.own 0 0),.s (aa q.2),.p 17],[.n 1 ((q.1.map aa))]⟩) (λ(b12:(List Int))=>⟨[.k 9,.s (.own 0 0)],[.n 1 ((b12.map aa))]⟩) [on 1] (.b (.t [ov 0 1]) (.t [ok 0])) .o) (.l 2 1 (λ(q:((List Int) × Int))=>⟨[.k 2,.p 7,.s (la q.1),.p 1,.s (aa q.2),.p 16],[]⟩) (λ(b25:(List Int))=>⟨[.k 9,.s (la b25),.p 1],[]⟩) [] (.b (.j 1 (λ(j22:(List Int))=>⟨[.k 2,.p 7,.s (la j22),.p 34],[]⟩) (.j 1 (λ(j18:Bool)=>⟨[.k 2,.p 42,.k 19,.s (ba j18),.p 7],[]⟩) (.b (.t []) (.t [])) (.b (.t []) (.t []))) (.t [])) (.t [])) .o)))))⟩
theorem pq{t0 t1 t2 r} (h:Te t0 t1 t2=some r):Den Tryz.prog 73 [Za t0,Cd t1,Cd t2] (ba r):=by
 refine dk 12 k73 ?_
 simp only[k73,Kf.of,zs,ze]
 unfold Te at h
 exact pg trivial (.z 1 (.j 1 (λ(j3:Bool)=>⟨[.k 4,.s (ba j3),.p 10],[]⟩) (.b (.t []) (.t [])) .o))
instance {t0 t1 t2 r}:Con (Te t0 t1 t2=some r) (Den Tryz.prog 73 [Za t0,Cd t1,Cd t2] (ba r)):=⟨pq⟩
instance {t0 t1 r}:Con (Kb t0 t1=some r) (Den Tryz.prog 77 [nh t0,aa t1] (aa r)):=⟨λh=>by
 refine dk 20 k77 ?_
 simp only[k77,Kf.of,zs,ze]
 unfold Kb at h
 exact pg trivial .o⟩
instance {t0 r}:Con (aj t0=some r) (Den Tryz.prog 115 [Wa t0] (.tup [la r.1,aa r.2])):=⟨λh=>by
 refine dk 14 k115 ?_
 simp only[k115,Kf.of,zs,ze]
 unfold aj at h
 exact pg trivial .o⟩
theorem Vq{t0 r} (h:vb t0=some r):Den Tryz.prog 130 [vg t0] (ba r):=by
 refine dk 26 k130 ?_
 simp only[k130,Kf.of,zs,ze]
 unfold vb at h
 exact pg trivial (.z 1 (.j 1 (λ(j9:Bool)=>⟨[.k 2,.s (ba j9),.p 24],[]⟩) (.b (.b (.b (.b (.t []) (.t [])) (.t [])) (.t [])) (.t [])) .o))
instance {t0 r}:Con (vb t0=some r) (Den Tryz.prog 130 [vg t0] (ba r)):=⟨Vq⟩
instance {t0 c10 r}:Con (db t0 (λx900=>Yf x900 c10)=some r) (Den Tryz.prog 175 [Wb t0,.fn 176 [] [Hr c10]] (ba r)):=⟨λh=>Bm (q1:=[Hr c10]) (tE JC) (λx900 _ hb=>Wu hb) h⟩
theorem CG{t0 t1 r} (h:Vk t0 t1=some r):Den Tryz.prog 131 [Wb t0,vg t1] (ba r):=by
 refine dk 6 k131 ?_
 simp only[k131,Kf.of,zs,ze]
 unfold Vk at h
 exact pg trivial .o
instance {t0 t1 r}:Con (Vk t0 t1=some r) (Den Tryz.prog 131 [Wb t0,vg t1] (ba r)):=⟨CG⟩
instance {t0 t1 r}:Con (Gk t0 t1=some r) (Den Tryz.prog 143 [Wa t0,aa t1] (la r)):=⟨λh=>by
 refine dk 54 k143 ?_
 simp only[k143,Kf.of,zs,ze]
 unfold Gk at h
 exact pg @Gq.eq_1 (.z 3 (.j 1 (λ(j4:Bool)=>⟨[.p 4,.k 1,.p 1,.k 23,.s (ba j4),.p 26],[]⟩) (.b (.b (.t []) (.t [])) (.t [])) (.b .o (.l 3 1 (λ(q:((List Int) × Int × Int))=>⟨[.k 5,.p 3,.k 1,.p 1,.s (aa q.2.1),.s (aa q.2.2),.p 17],[.c 0 ((q.1.map aa))]⟩) (λ(b19:(List Int))=>⟨[.k 9,.p 1],[.c 0 ((b19.map aa))]⟩) [ok 0] (.b (.t [ok 0]) (.t [ok 0])) .o))))⟩
theorem xu{t0 t1 t2 r} (h:af t0 t1 t2=some r):Den Tryz.prog 287 [Fg t0,Cd t1,Cd t2] (ba r):=by
 refine dk 18 k287 ?_
 simp only[k287,Kf.of,zs,ze]
 unfold af at h
 exact pg trivial (.z 1 (.j 1 (λ(j4:Bool)=>⟨[.k 4,.s (ba j4),.p 16],[]⟩) (.b (.b (.t []) (.t [])) (.t [])) .o))
instance {t0 t1 t2 r}:Con (af t0 t1 t2=some r) (Den Tryz.prog 287 [Fg t0,Cd t1,Cd t2] (ba r)):=⟨xu⟩
instance zzi23 {t0 r}:Con (il t0=some r) (Den Tryz.prog 291 [aa t0] (.tup [aa r.1,aa r.2.1,aa r.2.2])):=⟨λh=>by
 refine dk 44 k291 ?_
 simp only[k291,Kf.of,zs,ze]
 unfold il at h
 exact pg (And.intro @rm.eq_1 @tm.eq_1) (.b .o (.l 1 1 (λ(s3:Int)=>⟨[.p 2,.k 3,.s (aa s3),.p 3],[]⟩) (λ(b7:Int)=>⟨[.p 2,.k 3,.s (aa b7),.p 3],[]⟩) [] (.b (.t []) (.t [])) (.l 2 0 (λ(q:(Int × Int))=>⟨[.k 5,.p 1,.s (aa q.1),.p 15,.k 4,.s (aa q.2),.p 18],[]⟩) (λ(_:Unit)=>⟨[],[]⟩) [] (.b (.b .o (.t [])) (.t [])) .o)))⟩
instance {t0 t1 t2 r}:Con (bu t0 t1 t2=some r) (Den Tryz.prog 318 [aa t0,aa t1,aa t2] (.tup [aa r.1,aa r.2])):=⟨λh=>by
 refine dk 11 k318 ?_
 simp only[k318,Kf.of,zs,ze]
 unfold bu at h
 exact pg trivial .o⟩
instance {t0 t1 t2 r}:Con (uy t0 t1 t2=some r) (Den Tryz.prog 319 [aa t0,aa t1,aa t2] (.tup [aa r.1,aa r.2])):=⟨λh=>by
 refine dk 30 k319 ?_
 simp only[k319,Kf.of,zs,ze]
 unfold uy at h
 exact pg trivial (.b .o (.z 1 (.j 1 (λ(j6:Bool)=>⟨[.p 6,.k 12,.s (ba j6),.p 14],[]⟩) (.b (.t []) (.t [])) .o)))⟩
instance {t0 t1 t2 r}:Con (Vo t0 t1 t2=some r) (Den Tryz.prog 320 [aa t0,aa t1,aa t2] (.tup [aa r.1,aa r.2])):=⟨λh=>by
 refine dk 35 k320 ?_
 simp only[k320,Kf.of,zs,ze]
 unfold Vo at h
 exact pg trivial (.b .o (.b .o (.z 1 (.j 1 (λ(j6:Bool)=>⟨[.p 6,.k 14,.s (ba j6),.p 17],[]⟩) (.b (.t []) (.t [])) .o))))⟩
instance zzi14 {t0 t1 t2 r}:Con (bq t0 t1 t2=some r) (Den Tryz.prog 322 [aa t0,aa t1,aa t2] (.tup [aa r.1,aa r.2])):=⟨λh=>by
 refine dk 50 k322 ?_
 simp only[k322,Kf.of,zs,ze]
 unfold bq at h
 exact pg @Di.eq_1 (.z 2 (.j 1 (λ(j7:Bool)=>⟨[.p 6,.k 28,.s (ba j7),.p 18],[]⟩) (.b (.b (.b (.b (.b (.t []) (.t [])) (.t [])) (.t [])) (.t [])) (.t [])) (.b .o (.l 2 1 (λ(q:(Int × Int))=>⟨[.p 1,.k 1,.p 6,.s (aa q.1),.p 25,.k 4,.p 1,.s (aa q.2),.p 13],[]⟩) (λ(b16:Int)=>⟨[.k 2,.p 6,.s (aa b16),.p 25],[]⟩) [] (.b (.t []) (.t [])) .o))))⟩
instance zzi25 {t0 c10 c11 r}:Con (Ec t0 (λx900=>Te x900 c10 c11)=some r) (Den Tryz.prog 52 [ue t0,.fn 73 [] [Cd c10,Cd c11]] (.tup [la r.1,la r.2])):=⟨λh=>qq (q1:=[Cd c10,Cd c11]) (tE (tE JC)) (λx900 _ hb=>pq hb) h⟩
theorem vz{t0 t1 t2 r} (h:Bf t0 t1 t2=some r):Den Tryz.prog 28 [Ea t0,aa t1,aa t2] (.tup [la r.1,la r.2.1,la r.2.2]):=by
 refine dk 37 k28 ?_
 simp only[k28,Kf.of,zs,ze]
 unfold Bf at h
 exact pg @Mg.eq_1 (.z 2 (.d [.o 0] [ok 0] (.l 2 1 (λ(q:((List Int) × Int))=>⟨[.k 3,.p 1,.k 5,.p 2,.s (.own 1 0),.p 2,.k 7,.p 2,.s (aa q.2),.p 16],[.o 0,.n 1 ((q.1.map aa))]⟩) (λ(b10:(List Int))=>⟨[.k 9,.p 2,.s (.own 0 0),.p 2],[.n 1 ((b10.map aa))]⟩) [ok 0,on 1] (.b (.t [ok 0,ov 1 1]) (.t [ok 1])) .o)))
instance {t0 t1 t2 r}:Con (Bf t0 t1 t2=some r) (Den Tryz.prog 28 [Ea t0,aa t1,aa t2] (.tup [la r.1,la r.2.1,la r.2.2])):=⟨vz⟩
instance {t0 t1 t2 r}:Con (Ej t0 t1 t2=some r) (Den Tryz.prog 76 [la t0,la t1,Wv t2] (la r)):=⟨λh=>by
 refine dk 45 k76 ?_
 simp only[k76,Kf.of,zs,ze]
 unfold Ej at h
 exact pg @mg.eq_1 (.l 2 1 (λ(q:((List Int) × Int))=>⟨[.k 2,.p 4,.k 1,.p 1,.s (aa q.2)],[.o 1,.c 0 ((q.1.map aa))]⟩) (λ(b18:(List Int))=>⟨[.k 7,.p 1],[.o 1,.c 0 ((b18.map aa))]⟩) [ok 1,ok 0] (.b (.j 1 (λ(j15:(List Int))=>⟨[.k 2,.p 16],[.o 0,.c 1 ((j15.map aa))]⟩) (.z 1 (.j 1 (λ(j11:Bool)=>⟨[.k 2,.p 16,.k 22,.s (ba j11),.p 7],[.o 0,.o 1]⟩) (.b (.t [ok 0,ok 1]) (.t [ok 0,ok 1])) (.b (.t [ok 0,ok 1]) (.t [ok 0,ok 1])))) (.t [ok 0,ok 1])) (.t [ok 0,ok 1])) .o)⟩
instance zzi8 {t0 t1 r}:Con (uo t0 t1=some r) (Den Tryz.prog 99 [Wa t0,aa t1] (.tup [Na r.1,Na r.2.1,ba r.2.2])):=⟨λh=>by
 refine dk 59 k99 ?_
 simp only[k99,Kf.of,zs,ze]
 unfold uo at h
 exact pg trivial (.z 3 (.j 1 (λ(j5:Bool)=>⟨[.p 1,.k 3,.p 2,.k 1,.p 3,.k 14,.s (ba j5),.p 36],[.o 0,.o 1]⟩) (.b (.t [ok 0,ok 1]) (.t [ok 0,ok 1])) (.b .o (.z 1 (.f ⟨[.p 61],[.o 0,.o 1,.n 2 [],.n 2 []]⟩ [ok 0,ok 1,on 2,on 2] (.g [[],[],[],[],[],[],[],[],[],[],[],[],[2,3,4,5,8,9,10,11],[2,3,4,5,8,9,10,11,12],[8,9,10,11]] [none,none,none,none,none,none,none,none,none,none,none,none,some 2,some 3,none] (.z 1 (.j 1 (λ(j13:Bool)=>⟨[.k 4,.p 3,.k 1,.p 16,.k 22,.s (ba j13),.p 14],[.o 0,.o 1,.o 2,.o 3]⟩) (.b (.t [ok 0,ok 1,ov 2 1,ov 3 1]) (.t [ok 0,ok 1,ov 2 1,ov 3 1])) (.b (.a [[],[],[1]] .o) (.z 1 (.j 1 (λ(j17:Bool)=>⟨[.k 4,.p 42,.k 10,.s (ba j17),.p 4],[.o 0,.o 1,.o 2,.o 3]⟩) (.b (.t [ok 0,ok 1,ok 2,ok 3]) (.t [ok 0,ok 1,ok 2,ok 3])) (.b (.a [[],[],[1]] .o) .o))))))))))))⟩
instance {t0 t1 t2 r}:Con (Ro t0 t1 t2=some r) (Den Tryz.prog 128 [Bb t0,aa t1,ug t2] (.tup [aa r.1,aa r.2])):=⟨λh=>by
 refine dk 52 k128 ?_
 simp only[k128,Kf.of,zs,ze]
 unfold Ro at h
 exact pg @Ak.eq_1 (.b .o (.b .o (.b .o (.b .o (.l 1 0 (λ(s8:Int)=>⟨[.k 5,.p 1,.k 28,.p 2,.s (aa s8),.p 18],[.o 1]⟩) (λ(_:Unit)=>⟨[],[]⟩) [ok 1] (.b (.b .o (.b .o (.t [ok 0]))) (.t [])) .o)))))⟩
instance {t0 t1 r}:Con (Oo t0 t1=some r) (Den Tryz.prog 152 [Wa t0,aa t1] (la r)):=⟨λh=>by
 refine dk 51 k152 ?_
 simp only[k152,Kf.of,zs,ze]
 unfold Oo at h
 exact pg @pk.eq_1 (.z 3 (.j 1 (λ(j4:Bool)=>⟨[.p 4,.k 1,.p 1,.k 20,.s (ba j4),.p 26],[]⟩) (.b (.b (.t []) (.t [])) (.t [])) (.b .o (.l 3 1 (λ(q:((List Int) × Int × Int))=>⟨[.k 5,.p 3,.s (aa q.2.1),.s (aa q.2.2),.p 16],[.c 0 ((q.1.map aa))]⟩) (λ(b19:(List Int))=>⟨[.k 7,.p 1],[.c 0 ((b19.map aa))]⟩) [ok 0] (.b (.t [ok 0]) (.t [ok 0])) .o))))⟩
instance {t0 c10 r}:Con (Ka t0 (λx900=>Ic x900 c10)=some r) (Den Tryz.prog 239 [Cb t0,.fn 238 [] [cr c10]] (ba r)):=⟨λh=>Kl (q1:=[cr c10]) (tE JC) (λx900 _ hb=>As hb) h⟩
theorem mB{t0 t1 t2 t3 r} (h:Jh t0 t1 t2 t3=some r):Den Tryz.prog 181 [Bb t0,ab t1,Cb t2,Cb t3] (aa r):=by
 refine dk 28 k181 ?_
 simp only[k181,Kf.of,zs,ze]
 unfold Jh at h
 exact pg trivial (.b .o (.j 1 (λ(j6:Bool)=>⟨[.k 4,.p 4,.k 8,.s (ba j6),.p 15],[.o 0,.o 1]⟩) (.b (.t [ok 0,ok 1]) (.t [ok 0,ok 1])) .o))
instance {t0 t1 t2 t3 r}:Con (Jh t0 t1 t2 t3=some r) (Den Tryz.prog 181 [Bb t0,ab t1,Cb t2,Cb t3] (aa r)):=⟨mB⟩
instance {t0 c10 c11 r}:Con (Rb t0 (λx900=>af x900 c10 c11)=some r) (Den Tryz.prog 169 [Wr t0,.fn 287 [] [Cd c10,Cd c11]] (.tup [aa r.1,ba r.2])):=⟨λh=>Oq (q1:=[Cd c10,Cd c11]) (tE (tE JC)) (λx900 _ hb=>xu hb) h⟩
theorem UE{t0 t1 t2 r} (h:Ao t0 t1 t2=some r):Den Tryz.prog 268 [ob t0,aa t1,aa t2] (.tup [aa r.1,ba r.2]):=by
 refine dk 11 k268 ?_
 simp only[k268,Kf.of,zs,ze]
 unfold Ao at h
 exact pg trivial .o
instance {t0 t1 t2 r}:Con (Ao t0 t1 t2=some r) (Den Tryz.prog 268 [ob t0,aa t1,aa t2] (.tup [aa r.1,ba r.2])):=⟨UE⟩
instance zzi18 {t0 t1 r}:Con (ln t0 t1=some r) (Den Tryz.prog 270 [aa t0,ra t1] (ra r)):=⟨λh=>by
 refine dk 34 k270 ?_
 simp only[k270,Kf.of,zs,ze]
 unfold ln at h
 exact pg trivial .o⟩
instance {t0 t1 t2 r}:Con (Vf t0 t1 t2=some r) (Den Tryz.prog 292 [Na t0,ra t1,ra t2] (.tup [ra r.1,aa r.2])):=⟨λh=>by
 refine dk 102 k292 ?_
 simp only[k292,Kf.of,zs,ze]
 unfold Vf at h
 exact pg trivial (.z 2 (.j 3 (λ(q:(Int × Int × Int))=>⟨[.k 6,.p 1,.k 1,.p 1,.s (aa q.2.2)],[.o 3,.h 4 [.g [.s (aa q.1),.p 1,.s (aa q.2.1)]]]⟩) (.b (.t [ok 3,ok 4]) (.j 1 (λ(j4:Bool)=>⟨[.k 3,.p 4,.k 1,.p 1,.k 29,.s (ba j4),.p 66],[.o 0,.o 1,.o 2,.o 3,.o 4]⟩) (.b (.t [ok 0,ok 1,ok 2,ok 3,ok 4]) (.t [ok 0,ok 1,ok 2,ok 3,ok 4])) (.b (.t [ok 3,ok 4]) (.b (.t [ok 3,ok 4]) (.b (.t [ok 3,ok 4]) (.b (.t [ok 3,ok 4]) (.t [ok 3,ok 4]))))))) .o))⟩
instance {t0 t1 r}:Con (Sf t0 t1=some r) (Den Tryz.prog 293 [aa t0,aa t1] (.tup [aa r.1,aa r.2])):=⟨λh=>by
 refine dk 55 k293 ?_
 simp only[k293,Kf.of,zs,ze]
 unfold Sf at h
 exact pg trivial (.z 2 (.j 1 (λ(j4:Bool)=>⟨[.p 4,.k 16,.s (ba j4),.p 36],[]⟩) (.b (.b (.t []) (.t [])) (.t [])) (.b .o (.z 3 (.j 1 (λ(j8:Bool)=>⟨[.k 8,.p 12,.k 20,.s (ba j8),.p 16],[]⟩) (.b (.t []) (.t [])) .o)))))⟩
instance {t0 t1 t2 r}:Con (Ji t0 t1 t2=some r) (Den Tryz.prog 32 [la t0,la t1,Wv t2] (aa r)):=⟨λh=>by
 refine dk 23 k32 ?_
 simp only[k32,Kf.of,zs,ze]
 unfold Ji at h
 exact pg trivial (.z 2 (.j 1 (λ(j3:Bool)=>⟨[.p 6,.k 11,.s (ba j3),.p 8],[]⟩) (.b (.t []) (.t [])) .o))⟩
instance {t0 t1 t2 t3 r}:Con (tg t0 t1 t2 t3=some r) (Den Tryz.prog 46 [Bb t0,aa t1,aa t2,aa t3] (Xj r)):=⟨λh=>by
 refine dk 37 k46 ?_
 simp only[k46,Kf.of,zs,ze]
 unfold tg at h
 exact pg trivial .o⟩
instance {t0 t1 r}:Con (fm t0 t1=some r) (Den Tryz.prog 62 [Vi t0,aa t1] (la r)):=⟨λh=>by
 refine dk 63 k62 ?_
 simp only[k62,Kf.of,zs,ze]
 unfold fm at h
 exact pg (And.intro @ei.eq_1 @di.eq_1) (.l 2 1 (λ(q:((List Int) × Int))=>⟨[.p 4,.k 1,.s (la q.1),.s (aa q.2),.p 58],[]⟩) (λ(b22:(List Int))=>⟨[.k 5,.s (la b22)],[]⟩) [] (.b (.l 2 1 (λ(q:((List Int) × Int))=>⟨[.p 5,.s (la q.1),.p 1,.s (aa q.2),.p 3],[]⟩) (λ(b19:(List Int))=>⟨[.p 5,.s (la b19),.p 1],[]⟩) [] (.b (.j 1 (λ(j16:(List Int))=>⟨[.p 5,.s (la j16),.p 11],[]⟩) (.z 2 (.j 1 (λ(j11:Bool)=>⟨[.p 8,.k 1,.p 1,.k 38,.s (ba j11),.p 16],[.o 1]⟩) (.b (.b (.t [ok 1]) (.t [ok 1])) (.t [ok 1])) (.b (.t []) (.b (.t []) (.t []))))) (.t [])) (.t [])) (.t [])) (.t [])) .o)⟩
instance {t0 r}:Con (Aq t0=some r) (Den Tryz.prog 90 [Bb t0] (re r)):=⟨λh=>by
 refine dk 34 k90 ?_
 simp only[k90,Kf.of,zs,ze]
 unfold Aq at h
 exact pg @fj.eq_1 (.b .o (.l 1 0 (λ(s2:Int)=>⟨[.k 1,.p 6,.k 6,.p 2,.s (aa s2),.p 19],[.o 0,.o 1]⟩) (λ(_:Unit)=>⟨[.k 2,.p 5],[.o 1]⟩) [ok 0,ok 1] (.b (.b .o (.t [ok 0,ok 1])) (.t [ok 1])) .o))⟩
instance {t0 t1 r}:Con (jd t0 t1=some r) (Den Tryz.prog 109 [Wa t0,aa t1] (.tup [aa r.1,Na r.2.1,ba r.2.2])):=⟨λh=>by
 refine dk 50 k109 ?_
 simp only[k109,Kf.of,zs,ze]
 unfold jd at h
 exact pg trivial (.b .o (.z 1 (.f ⟨[.p 52],[.o 0,.n 2 [],.n 2 []]⟩ [ok 0,on 2,on 2] (.g [[],[],[],[],[],[],[],[],[],[],[],[],[2,3,4,5,8,9,10,11],[2,3,4,5,8,9,10,11,12],[8,9,10,11]] [none,none,none,none,none,none,none,none,none,none,none,none,some 1,some 2,none] (.z 1 (.j 1 (λ(j9:Bool)=>⟨[.k 5,.p 1,.k 2,.p 2,.k 19,.s (ba j9),.p 22],[.o 0,.o 1,.o 2]⟩) (.b (.t [ok 0,ov 1 1,ov 2 1]) (.t [ok 0,ov 1 1,ov 2 1])) (.b .o (.j 1 (λ(j13:Bool)=>⟨[.k 5,.p 24,.k 11,.s (ba j13),.p 11],[.o 0,.o 1,.o 2]⟩) (.b (.t [ok 0,ok 1,ok 2]) (.t [ok 0,ok 1,ok 2])) .o))))))))⟩
instance {t0 t1 r}:Con (Ri t0 t1=some r) (Den Tryz.prog 294 [aa t0,aa t1] (aa r)):=⟨λh=>by
 refine dk 58 k294 ?_
 simp only[k294,Kf.of,zs,ze]
 unfold Ri at h
 exact pg trivial (.z 2 (.j 1 (λ(j5:Bool)=>⟨[.p 4,.k 22,.s (ba j5),.p 33],[]⟩) (.b (.b (.t []) (.t [])) (.t [])) (.b .o (.z 3 (.j 1 (λ(j13:Int)=>⟨[.k 11,.s (aa j13),.p 14],[]⟩) (.z 1 (.j 1 (λ(j11:Bool)=>⟨[.k 11,.p 1,.k 43,.s (ba j11),.p 4],[]⟩) (.b (.t []) (.t [])) (.b (.t []) (.t [])))) .o)))))⟩
end Go.Proofs.Dev
