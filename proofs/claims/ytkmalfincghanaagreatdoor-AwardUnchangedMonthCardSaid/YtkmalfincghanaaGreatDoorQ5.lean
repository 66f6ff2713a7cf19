/-
  Contracts of the functions: each answers as its plain partial function says.
-/
import Derived.Test.YtkmalfincghanaaGreatDoorK
import Derived.Test.YtkmalfincghanaaGreatDoorG
import Derived.Test.YtkmalfincghanaaGreatDoorPD
import Derived.Test.YtkmalfincghanaaGreatDoorH1
import Derived.Test.YtkmalfincghanaaGreatDoorH2
import Derived.Test.YtkmalfincghanaaGreatDoorQ0
import Derived.Test.YtkmalfincghanaaGreatDoorQ1
import Derived.Test.YtkmalfincghanaaGreatDoorQ2
import Derived.Test.YtkmalfincghanaaGreatDoorQ3
set_option linter.all false
set_option maxHeartbeats 1000000
set_option maxRecDepth 10000
namespace Go.Proofs.Dev
open Go Go.Tm
instance {t0 t1 t2 r}:Con (Kp t0 t1 t2=some r) (Den Tryz.prog 9 [Zb t0,Sa t1,Qd t2] (ba r)):=⟨fun h=>by
 refine dk 14 k9 ?_
 simp only[k9,Kf.of,zs,ze]
 unfold Kp at h
 exact pg trivial (.z 1 (.j 1 (fun(j6:Bool)=>⟨[.k 6,.s (ba j6),.p 10],[]⟩) (.b (.b (.t []) (.t [])) (.t [])) .o))⟩
instance {t0 r}:Con (re t0=some r) (Den Tryz.prog 48 [Zb t0] (sa r)):=⟨fun h=>by
 refine dk 56 k48 ?_
 simp only[k48,Kf.of,zs,ze]
 unfold re at h
 exact pg (And.intro @Fe.eq_1 (And.intro @Gc.eq_1 (And.intro @xh.eq_1 (And.intro @Jc.eq_1 (And.intro @Ge.eq_1 (And.intro @Fc.eq_1 (And.intro @Bb.eq_1 (And.intro @ie.eq_1 (And.intro @Ab.eq_1 (And.intro @Je.eq_1 (And.intro @ZZ.eq_1 (And.intro @k87.eq_1 @B8.eq_1)))))))))))) (.l 2 1 (fun(q:((List GDateRange) × Int))=>⟨[.k 1,.p 1,.k 1,.s (.own 1 0),.p 8,.k 1,.p 2,.s (aa q.2),.p 41],[.o 0,.n 2 ((q.1.map xa))]⟩) (fun(b15:(List GDateRange))=>⟨[.k 1,.p 1,.k 1,.s (.own 1 0),.p 8],[.o 0,.n 2 ((b15.map xa))]⟩) [ok 0,on 2] (.b (.l 2 1 (fun(q:((List GDateRange) × Int))=>⟨[.k 1,.p 4,.k 8,.p 3,.k 4,.p 2,.s (aa q.2),.p 34],[.o 0,.c 1 ((q.1.map xa))]⟩) (fun(b12:(List GDateRange))=>⟨[.k 1,.p 4,.k 8,.p 3],[.o 0,.c 1 ((b12.map xa))]⟩) [ok 0,ok 1] (.b (.t [ok 0,ov 1 1]) (.t [ok 0,ok 1])) (.t [ok 0,ok 1])) (.t [ok 0,ok 1])) (.l 2 1 (fun(q:((List GDateRange) × Int))=>⟨[.k 3,.p 30,.k 1,.p 2,.s (aa q.2),.p 20],[.c 1 ((q.1.map xa))]⟩) (fun(b30:(List GDateRange))=>⟨[.k 3,.p 30],[.c 1 ((b30.map xa))]⟩) [ok 1] (.b (.l 2 1 (fun(q:((List GDateRange) × Int))=>⟨[.k 3,.p 6,.k 25,.p 3,.k 4,.p 2,.s (aa q.2),.p 13],[.c 0 ((q.1.map xa))]⟩) (fun(b27:(List GDateRange))=>⟨[.k 3,.p 6,.k 25,.p 3],[.c 0 ((b27.map xa))]⟩) [ok 0] (.b (.t [ov 0 1]) (.t [ok 0])) (.t [ok 0])) (.t [ok 0])) (.i B8 1 25 (fun(i44:(List Int))=>⟨[.s (.own 1 0)],[.O 0,.n 1 ((i44.map aa))]⟩) (.l 2 1 (fun(q:((List Int) × Int))=>⟨[.k 3,.s (.own 1 0),.p 4,.s (aa q.2),.p 17],[.O 0,.n 1 ((q.1.map aa))]⟩) (fun(b41:(List Int))=>⟨[.k 3,.s (.own 1 0),.p 2],[.O 0,.n 1 ((b41.map aa))]⟩) [ok 0,on 1] (.b (.j 1 (fun(j38:(List Int))=>⟨[.k 3,.p 6],[.O 0,.c 1 ((j38.map aa))]⟩) (.b (.t [ok 0,ov 1 1]) (.t [ok 0,ok 1])) (.t [ok 0,ok 1])) (.t [ok 0,ok 1])) (.t [ok 0,ov 1 1])) (.c k87 40 (.i ZZ 1 17 (fun(i51:Int)=>⟨[.s (aa i51)],[.O 0,.O 1]⟩) (.l 1 0 (fun(s45:Int)=>⟨[.p 4,.k 3,.p 1,.s (aa s45),.p 10],[.O 0,.O 1]⟩) (fun(_:Unit)=>⟨[],[.O 0,.O 1]⟩) [ok 0,ok 1] (.b (.b (.t [ok 0,ok 1]) (.t [ok 0,ok 1])) (.t [ok 0,ok 1])) (.t [ok 0,ok 1])) (.b (.v .o) (.l 3 2 (fun(q:((List Int) × Int × Int))=>⟨[.p 4,.k 1,.s (aa q.2.1),.s (aa q.2.2),.p 1],[.O 0,.C 1 ((q.1.map aa))]⟩) (fun(q:((List Int) × Int))=>⟨[.p 1,.k 4,.s (aa q.2)],[.O 0,.C 1 ((q.1.map aa))]⟩) [ok 0,ok 1] (.b (.j 2 (fun(q:((List Int) × Int))=>⟨[.p 5,.s (aa q.2),.p 10],[.O 0,.C 1 ((q.1.map aa))]⟩) (.b (.t [ok 0,ok 1]) (.t [ok 0,ok 1])) (.t [ok 0,ok 1])) (.t [ok 0,ok 1])) (.v .o))))))))⟩
instance {t0 r}:Con (bf t0=some r) (Den Tryz.prog 86 [ei t0] (sa r)):=⟨fun h=>by
 refine dk 25 B8 ?_
 simp only[B8,Kf.of,zs,ze]
 unfold bf at h
 exact pg @ud.eq_1 (.l 2 1 (fun(q:((List Int) × Int))=>⟨[.k 3,.s (.own 0 0),.p 4,.s (aa q.2),.p 17],[.n 1 ((q.1.map aa))]⟩) (fun(b11:(List Int))=>⟨[.k 3,.s (.own 0 0),.p 2],[.n 1 ((b11.map aa))]⟩) [on 1] (.b (.j 1 (fun(j8:(List Int))=>⟨[.k 3,.p 6],[.c 0 ((j8.map aa))]⟩) (.b (.t [ov 0 1]) (.t [ok 0])) (.t [ok 0])) (.t [ok 0])) .o)⟩
instance {t0 t1 t2 t3 t4 r}:Con (Qj t0 t1 t2 t3 t4=some r) (Den Tryz.prog 119 [Jk t0,aa t1,aa t2,aa t3,aa t4] (.tup [pa r.1,ba r.2])):=⟨fun h=>by
 refine dk 60 K3 ?_
 simp only[K3,Kf.of,zs,ze]
 unfold Qj at h
 exact pg @Zk.eq_1 (.l 2 1 (fun(q:(Int × Int))=>⟨[.p 11,.k 1,.s (aa q.1),.p 4,.s (aa q.2),.p 47],[.o 0]⟩) (fun(b19:Int)=>⟨[.p 1,.k 9,.p 1,.k 1,.s (aa b19),.p 2],[.o 0]⟩) [ok 0] (.b (.j 1 (fun(j16:Int)=>⟨[.p 12,.s (aa j16),.p 5],[.o 0]⟩) (.z 2 (.j 1 (fun(j9:Bool)=>⟨[.p 18,.k 26,.s (ba j9),.p 20],[.o 0,.o 1]⟩) (.b (.b (.b (.t [ok 0,ok 1]) (.t [ok 0,ok 1])) (.t [ok 0,ok 1])) (.t [ok 0,ok 1])) (.b (.t [ok 0]) (.j 1 (fun(j14:Bool)=>⟨[.p 14,.k 1,.p 29,.k 10,.s (ba j14),.p 10],[.o 0]⟩) (.b (.t [ok 0]) (.t [ok 0])) (.b (.t [ok 0]) (.t [ok 0])))))) (.t [ok 0])) (.t [ok 0])) .o)⟩
instance {t0 t1 t2 r}:Con (kd t0 t1 t2=some r) (Den Tryz.prog 162 [Zb t0,Wa t1,Va t2] (.tup [aa r.1,aa r.2])):=⟨fun h=>by
 refine dk 68 o8 ?_
 simp only[o8,Kf.of,zs,ze]
 unfold kd at h
 exact pg @od.eq_1 (.b .o (.b .o (.l 1 0 (fun(s3:Int)=>⟨[.k 2,.p 4,.k 21,.p 2,.s (aa s3),.p 41],[.o 0]⟩) (fun(_:Unit)=>⟨[],[]⟩) [ok 0] (.b (.z 4 (.j 1 (fun(j8:Bool)=>⟨[.k 2,.p 28,.k 20,.s (ba j8),.p 20],[.o 0,.o 1,.o 2]⟩) (.b (.t [ok 0,ok 1,ok 2]) (.t [ok 0,ok 1,ok 2])) (.b .o (.z 1 (.j 1 (fun(j12:Bool)=>⟨[.k 2,.p 7,.k 18,.p 23,.k 18,.s (ba j12),.p 2],[.o 0]⟩) (.b (.t [ok 0]) (.t [ok 0])) (.b .o (.t [ok 0]))))))) (.t [])) .o)))⟩
instance {t0 t1 r}:Con (fb t0 t1=some r) (Den Tryz.prog 247 [Tf t0,aa t1] (aa r)):=⟨fun h=>by
 refine dk 20 q7 ?_
 simp only[q7,Kf.of,zs,ze]
 unfold fb at h
 exact pg trivial .o⟩
theorem Oo{t0 t1 t2 r} (h:fe t0 t1 t2=some r):Den Tryz.prog 337 [di t0,Bg t1,Bg t2] (ba r):=by
 refine dk 18 P5 ?_
 simp only[P5,Kf.of,zs,ze]
 unfold fe at h
 exact pg trivial (.z 1 (.j 1 (fun(j4:Bool)=>⟨[.k 4,.s (ba j4),.p 16],[]⟩) (.b (.b (.t []) (.t [])) (.t [])) .o))
instance {t0 t1 t2 r}:Con (fe t0 t1 t2=some r) (Den Tryz.prog 337 [di t0,Bg t1,Bg t2] (ba r)):=⟨Oo⟩
instance {t0 t1 r}:Con (Yg t0 t1=some r) (Den Tryz.prog 47 [Jk t0,aa t1] (sa r)):=⟨fun h=>by
 refine dk 49 k47 ?_
 simp only[k47,Kf.of,zs,ze]
 unfold Yg at h
 exact pg (And.intro @Ze.eq_1 @Ye.eq_1) (.l 2 1 (fun(q:((List GDateRange) × Int))=>⟨[.k 1,.p 3,.k 1,.s (.own 0 0),.p 7,.s (aa q.2),.p 37],[.n 2 ((q.1.map xa))]⟩) (fun(b13:(List GDateRange))=>⟨[.k 5,.s (.own 0 0),.p 5],[.n 2 ((b13.map xa))]⟩) [on 2] (.b (.j 1 (fun(j10:(List GDateRange))=>⟨[.k 1,.p 13],[.c 0 ((j10.map xa))]⟩) (.z 1 (.j 1 (fun(j7:Bool)=>⟨[.k 1,.p 13,.k 11,.s (ba j7),.p 25],[.o 0,.o 1]⟩) (.b (.t [ok 0,ok 1]) (.t [ok 0,ok 1])) (.b (.t [ov 0 1]) (.t [ok 0])))) (.t [ok 0])) (.t [ok 0])) (.z 3 (.d [] [] (.l 2 1 (fun(q:((List Int) × Int))=>⟨[.k 8,.s (.own 0 0),.p 23,.k 1,.p 2,.s (aa q.2),.p 15],[.n 1 ((q.1.map aa))]⟩) (fun(b26:(List Int))=>⟨[.k 8,.s (.own 0 0),.p 23],[.n 1 ((b26.map aa))]⟩) [on 1] (.b (.j 1 (fun(j23:(List Int))=>⟨[.k 8,.p 28],[.c 0 ((j23.map aa))]⟩) (.z 1 (.j 1 (fun(j20:Bool)=>⟨[.k 8,.p 28,.k 8,.s (ba j20),.p 6],[.o 0]⟩) (.b (.t [ok 0]) (.t [ok 0])) (.b (.t [ov 0 1]) (.t [ok 0])))) (.t [ok 0])) (.t [ok 0])) .o))))⟩
instance {t0 t1 t2 t3 t4 r}:Con (jd t0 t1 t2 t3 t4=some r) (Den Tryz.prog 67 [Jk t0,aa t1,aa t2,aa t3,aa t4] (.tup [Wa r.1,ba r.2])):=⟨fun h=>by
 refine dk 35 k67 ?_
 simp only[k67,Kf.of,zs,ze]
 unfold jd at h
 exact pg @Tc.eq_1 (.l 2 1 (fun(q:((List GValue) × Int))=>⟨[.p 2,.k 1,.p 7,.k 2,.p 4,.k 3,.p 1,.s (aa q.2),.p 19],[.c 0 ((q.1.map pa))]⟩) (fun(b11:(List GValue))=>⟨[.k 12,.p 4],[.c 0 ((b11.map pa))]⟩) [ok 0] (.b (.b .o (.t [ok 0])) (.t [ok 0])) .o)⟩
instance {t0 t1 t2 r}:Con (Hf t0 t1 t2=some r) (Den Tryz.prog 69 [Sa t0,aa t1,aa t2] (sa r)):=⟨fun h=>by
 refine dk 41 k69 ?_
 simp only[k69,Kf.of,zs,ze]
 unfold Hf at h
 exact pg @Md.eq_1 (.l 2 1 (fun(q:((List Int) × Int))=>⟨[.k 1,.p 5,.k 1,.s (.own 1 0),.p 3,.k 3,.p 1,.s (aa q.2),.p 28],[.o 0,.n 1 ((q.1.map aa))]⟩) (fun(b13:(List Int))=>⟨[.k 7,.s (.own 0 0),.p 3],[.n 1 ((b13.map aa))]⟩) [ok 0,on 1] (.b (.j 1 (fun(j10:(List Int))=>⟨[.k 1,.p 15],[.o 0,.c 1 ((j10.map aa))]⟩) (.z 2 (.j 1 (fun(j7:Bool)=>⟨[.k 1,.p 8,.k 5,.p 2,.k 21,.s (ba j7),.p 6],[.o 0,.o 1]⟩) (.b (.b (.t [ok 0,ok 1]) (.t [ok 0,ok 1])) (.t [ok 0,ok 1])) (.b (.t [ok 0,ov 1 1]) (.t [ok 0,ok 1])))) (.t [ok 0,ok 1])) (.t [ok 1])) .o)⟩
instance {t0 t1 t2 r}:Con (lh t0 t1 t2=some r) (Den Tryz.prog 120 [Zb t0,aa t1,yo t2] (.tup [aa r.1,aa r.2.1,aa r.2.2])):=⟨fun h=>by
 refine dk 81 A5 ?_
 simp only[A5,Kf.of,zs,ze]
 unfold lh at h
 exact pg @df.eq_1 (.z 2 (.j 1 (fun(j2:Bool)=>⟨[.k 1,.p 1,.k 1,.p 3,.k 19,.s (ba j2),.p 58],[.o 0,.o 1]⟩) (.b (.t [ok 0,ok 1]) (.t [ok 0,ok 1])) (.b .o (.z 1 (.j 1 (fun(j5:Bool)=>⟨[.k 1,.p 24,.k 8,.s (ba j5),.p 50],[.o 0,.o 1]⟩) (.b (.t [ok 0,ok 1]) (.t [ok 0,ok 1])) (.b .o (.b .o (.b .o (.l 1 0 (fun(s12:Int)=>⟨[.k 3,.p 2,.k 6,.p 1,.k 52,.p 2,.s (aa s12),.p 17],[.o 0]⟩) (fun(_:Unit)=>⟨[],[]⟩) [ok 0] (.b (.b .o (.t [ok 0])) (.t [])) .o)))))))))⟩
instance {t0 t1 t2 r}:Con (Qg t0 t1 t2=some r) (Den Tryz.prog 246 [sa t0,sa t1,Bq t2] (sa r)):=⟨fun h=>by
 refine dk 45 NZ ?_
 simp only[NZ,Kf.of,zs,ze]
 unfold Qg at h
 exact pg @af.eq_1 (.l 2 1 (fun(q:((List Int) × Int))=>⟨[.k 2,.p 4,.k 1,.p 1,.s (aa q.2)],[.o 1,.c 0 ((q.1.map aa))]⟩) (fun(b18:(List Int))=>⟨[.k 7,.p 1],[.o 1,.c 0 ((b18.map aa))]⟩) [ok 1,ok 0] (.b (.j 1 (fun(j15:(List Int))=>⟨[.k 2,.p 16],[.o 0,.c 1 ((j15.map aa))]⟩) (.z 1 (.j 1 (fun(j11:Bool)=>⟨[.k 2,.p 16,.k 22,.s (ba j11),.p 7],[.o 0,.o 1]⟩) (.b (.t [ok 0,ok 1]) (.t [ok 0,ok 1])) (.b (.t [ok 0,ok 1]) (.t [ok 0,ok 1])))) (.t [ok 0,ok 1])) (.t [ok 0,ok 1])) .o)⟩
instance {t0 c10 c11 r}:Con (qb t0 (fun x900=>fe x900 c10 c11)=some r) (Den Tryz.prog 190 [sq t0,.fn 337 [] [Bg c10,Bg c11]] (.tup [aa r.1,ba r.2])):=⟨fun h=>vm (q1:=[Bg c10,Bg c11]) (Vz (Vz Rx)) (fun x900 _ hb=>Oo hb) h⟩
theorem py{t0 t1 t2 r} (h:uk t0 t1 t2=some r):Den Tryz.prog 307 [yb t0,aa t1,aa t2] (.tup [aa r.1,ba r.2]):=by
 refine dk 11 M7 ?_
 simp only[M7,Kf.of,zs,ze]
 unfold uk at h
 exact pg trivial .o
instance {t0 t1 t2 r}:Con (uk t0 t1 t2=some r) (Den Tryz.prog 307 [yb t0,aa t1,aa t2] (.tup [aa r.1,ba r.2])):=⟨py⟩
instance {t0 t1 t2 r}:Con (Sc t0 t1 t2=some r) (Den Tryz.prog 28 [Zb t0,Sa t1,aa t2] (sa r)):=⟨fun h=>by
 refine dk 17 k28 ?_
 simp only[k28,Kf.of,zs,ze]
 unfold Sc at h
 exact pg (And.intro @Vg.eq_1 (And.intro @Bd.eq_1 (And.intro @Xg.eq_1 (And.intro @qd.eq_1 (And.intro @k84.eq_1 @k46.eq_1))))) (.i k46 1 35 (fun(i26:(List Int))=>⟨[.s (.own 3 0)],[.O 0,.O 1,.O 2,.n 1 ((i26.map aa))]⟩) (.l 2 1 (fun(q:(Int × Int))=>⟨[.p 2,.k 1,.s (aa q.1),.p 7,.s (aa q.2),.p 24],[.O 0,.O 1,.O 2]⟩) (fun(b11:Int)=>⟨[.p 2,.k 1,.s (aa b11),.p 5],[.O 0,.O 1,.O 2]⟩) [ok 0,ok 1,ok 2] (.b (.b .o (.t [ok 0,ok 1,ok 2])) (.t [ok 0,ok 1,ok 2])) (.i k84 1 25 (fun(i17:(List Int))=>⟨[.s (.own 3 0)],[.O 0,.O 1,.O 2,.n 1 ((i17.map aa))]⟩) (.b .o (.j 1 (fun(j16:(List Int))=>⟨[.s (.own 3 0)],[.O 0,.O 1,.O 2,.n 1 ((j16.map aa))]⟩) (.b (.t [ok 0,ok 1,ok 2,ov 3 1]) (.t [ok 0,ok 1,ok 2,on 1])) (.t [ok 0,ok 1,ok 2,ok 3]))) (.l 2 1 (fun(q:((List Int) × Int))=>⟨[.k 6,.p 17,.k 2,.p 2,.s (aa q.2),.p 8],[.O 0,.O 1,.O 2,.c 3 ((q.1.map aa))]⟩) (fun(b25:(List Int))=>⟨[.k 6,.p 17],[.O 0,.O 1,.O 2,.c 3 ((b25.map aa))]⟩) [ok 0,ok 1,ok 2,ok 3] (.b (.t [ok 0,ok 1,ok 2,ov 3 1]) (.t [ok 0,ok 1,ok 2,ok 3])) (.t [ok 0,ok 1,ok 2,ok 3])))) .o)⟩
instance {t0 t1 t2 r}:Con (Xi t0 t1 t2=some r) (Den Tryz.prog 212 [sa t0,sa t1,Bq t2] (aa r)):=⟨fun h=>by
 refine dk 23 E0 ?_
 simp only[E0,Kf.of,zs,ze]
 unfold Xi at h
 exact pg trivial (.z 2 (.j 1 (fun(j3:Bool)=>⟨[.p 6,.k 11,.s (ba j3),.p 8],[]⟩) (.b (.t []) (.t [])) .o))⟩
end Go.Proofs.Dev
