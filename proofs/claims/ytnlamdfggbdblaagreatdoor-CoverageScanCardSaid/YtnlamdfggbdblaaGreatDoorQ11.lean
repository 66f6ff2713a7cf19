/-
  Contracts of the functions: each answers as its plain partial function says.
-/
import Derived.Test.YtnlamdfggbdblaaGreatDoorK
import Derived.Test.YtnlamdfggbdblaaGreatDoorG
import Derived.Test.YtnlamdfggbdblaaGreatDoorPD
import Derived.Test.YtnlamdfggbdblaaGreatDoorH2
import Derived.Test.YtnlamdfggbdblaaGreatDoorQ4
import Derived.Test.YtnlamdfggbdblaaGreatDoorQ5
import Derived.Test.YtnlamdfggbdblaaGreatDoorQ6
import Derived.Test.YtnlamdfggbdblaaGreatDoorQ7
set_option linter.all false
set_option maxHeartbeats 1000000
set_option maxRecDepth 10000
namespace Go.Proofs.Dev
open Go Go.Tm
instance {t0 t1 t2 r}:Con (xo t0 t1 t2=some r) (Den Tryz.prog 59 [Da t0,aa t1,aa t2] (.tup [da r.1,da r.2.1,da r.2.2])):=⟨λh=>by
 refine dk 45 k59 ?_
 simp only[k59,Kf.of,zs,ze]
 unfold xo at h
 exact pg @Xj.eq_1 (.l 3 2 (λ(q:((List Int) × (List Int) × Int))=>⟨[.k 3,.p 3,.k 3,.p 1,.s (.own 1 0),.s (.own 2 0),.s (aa q.2.2)],[.o 0,.n 1 ((q.1.map aa)),.n 1 ((q.2.1.map aa))]⟩) (λ(q:((List Int) × (List Int)))=>⟨[.k 9,.p 1,.s (.own 0 0),.s (.own 1 0)],[.n 1 ((q.1.map aa)),.n 1 ((q.2.map aa))]⟩) [ok 0,on 1,on 1] (.b (.t [ok 0,ov 1 1,ov 2 1]) (.t [ok 1,ok 2])) .o)⟩
instance {t0 t1 r}:Con (qm t0 t1=some r) (Den Tryz.prog 71 [ya t0,aa t1] (.tup [Ga r.1,Ga r.2.1,ba r.2.2])):=⟨λh=>by
 refine dk 59 k71 ?_
 simp only[k71,Kf.of,zs,ze]
 unfold qm at h
 exact pg trivial (.z 3 (.j 1 (λ(j5:Bool)=>⟨[.p 1,.k 3,.p 2,.k 1,.p 3,.k 14,.s (ba j5),.p 36],[.o 0,.o 1]⟩) (.b (.t [ok 0,ok 1]) (.t [ok 0,ok 1])) (.b .o (.z 1 (.f ⟨[.p 61],[.o 0,.o 1,.n 2 [],.n 2 []]⟩ [ok 0,ok 1,on 2,on 2] (.g [[],[],[],[],[],[],[],[],[],[],[],[],[2,3,4,5,8,9,10,11],[2,3,4,5,8,9,10,11,12],[8,9,10,11]] [none,none,none,none,none,none,none,none,none,none,none,none,some 2,some 3,none] (.z 1 (.j 1 (λ(j13:Bool)=>⟨[.k 4,.p 3,.k 1,.p 16,.k 22,.s (ba j13),.p 14],[.o 0,.o 1,.o 2,.o 3]⟩) (.b (.t [ok 0,ok 1,ov 2 1,ov 3 1]) (.t [ok 0,ok 1,ov 2 1,ov 3 1])) (.b (.a [[],[],[1]] .o) (.z 1 (.j 1 (λ(j17:Bool)=>⟨[.k 4,.p 42,.k 10,.s (ba j17),.p 4],[.o 0,.o 1,.o 2,.o 3]⟩) (.b (.t [ok 0,ok 1,ok 2,ok 3]) (.t [ok 0,ok 1,ok 2,ok 3])) (.b (.a [[],[],[1]] .o) .o))))))))))))⟩
instance {t0 t1 r}:Con (jj t0 t1=some r) (Den Tryz.prog 104 [Jb t0,aa t1] (Gd r)):=⟨λh=>by
 refine dk 120 Q2 ?_
 simp only[Q2,Kf.of,zs,ze]
 unfold jj at h
 exact pg (And.intro @Xf.eq_1 @Yf.eq_1) (.l 1 0 (λ(s2:Int)=>⟨[.k 1,.p 5,.s (aa s2),.p 3],[.o 0,.o 1,.o 2]⟩) (λ(_:Unit)=>⟨[.k 1,.p 5],[.o 0,.o 1,.o 2]⟩) [ok 0,ok 1,ok 2] (.b (.z 2 (.j 1 (λ(j11:Int)=>⟨[.k 1,.p 14],[.o 0,.o 1,.o 2,.h 3 [.g [.s (aa j11),.p 3]]]⟩) (.b (.t [ok 0,ok 1,ok 2,ok 3]) (.b (.t [ok 0,ok 1,ok 2,ok 3]) (.b (.t [ok 0,ok 1,ok 2,ok 3]) (.t [ok 0,ok 1,ok 2,ok 3])))) (.b .o (.t [ok 0,ok 1,ok 2])))) (.t [ok 0,ok 1,ok 2])) (.l 1 0 (λ(s14:Int)=>⟨[.k 1,.p 7,.s (aa s14),.p 113],[.o 0,.o 1,.o 2]⟩) (λ(_:Unit)=>⟨[.k 4,.p 1],[.o 1]⟩) [ok 0,ok 1,ok 2] (.b (.z 2 (.j 1 (λ(j26:Int)=>⟨[.k 1,.p 60],[.o 0,.o 1,.o 2,.h 3 [.g [.s (aa j26),.p 3]]]⟩) (.b (.t [ok 0,ok 1,ok 2,ok 3]) (.j 1 (λ(j22:Bool)=>⟨[.k 1,.p 60,.k 43,.s (ba j22),.p 17],[.o 0,.o 1,.o 2,.o 3]⟩) (.b (.t [ok 0,ok 1,ok 2,ok 3]) (.t [ok 0,ok 1,ok 2,ok 3])) (.b (.t [ok 0,ok 1,ok 2,ok 3]) (.b (.t [ok 0,ok 1,ok 2,ok 3]) (.t [ok 0,ok 1,ok 2,ok 3]))))) (.b .o (.t [ok 0,ok 1,ok 2])))) (.t [ok 1])) .o))⟩
instance {t0 t1 r}:Con (ij t0 t1=some r) (Den Tryz.prog 106 [Da t0,aa t1] (da r)):=⟨λh=>by
 refine dk 45 U2 ?_
 simp only[U2,Kf.of,zs,ze]
 unfold ij at h
 exact pg (And.intro @pf.eq_1 (And.intro @nf.eq_1 @mf.eq_1)) (.l 2 1 (λ(q:((List Int) × Int))=>⟨[.k 2,.p 2,.k 1,.s (da q.1),.s (aa q.2),.p 4],[.o 0]⟩) (λ(b23:(List Int))=>⟨[.k 5,.s (da b23)],[]⟩) [ok 0] (.b (.l 2 1 (λ(q:((List Int) × Int))=>⟨[.k 2,.p 3,.s (da q.1),.p 2,.s (aa q.2),.p 5],[.o 0]⟩) (λ(b20:(List Int))=>⟨[.k 2,.p 3,.s (da b20),.p 1],[.o 0]⟩) [ok 0] (.b (.l 2 1 (λ(q:((List Int) × Int))=>⟨[.k 2,.p 3,.s (da q.1),.p 4,.s (aa q.2),.p 11],[.o 0]⟩) (λ(b17:(List Int))=>⟨[.k 2,.p 3,.s (da b17),.p 3],[.o 0]⟩) [ok 0] (.b (.t [ok 0]) (.t [ok 0])) (.t [ok 0])) (.t [ok 0])) (.t [ok 0])) (.t [])) .o)⟩
instance {t0 t1 t2 r}:Con (Ua t0 t1 t2=some r) (Den Tryz.prog 110 [Ga t0,Mi t1,ta t2] (.tup [qa r.1,aa r.2])):=⟨λh=>by
 refine dk 84 Y2 ?_
 simp only[Y2,Kf.of,zs,ze]
 unfold Ua at h
 exact pg trivial (.z 2 (.j 1 (λ(j3:Bool)=>⟨[.k 1,.p 1,.k 1,.p 4,.k 11,.s (ba j3),.p 68],[.o 0,.o 1,.o 2]⟩) (.b (.t [ok 0,ok 1,ok 2]) (.t [ok 0,ok 1,ok 2])) (.b .o (.b .o (.b .o (.z 2 (.j 3 (λ(q:(Int × Int × Bool))=>⟨[.k 6,.p 3,.s (ba q.2.2),.p 8],[.o 2,.h 3 [.g [.s (aa q.1),.s (aa q.2.1)]]]⟩) (.b (.t [ok 2,ok 3]) (.b (.a [[],[],[],[],[],[],[],[],[],[]] (.t [ok 2,ok 3])) (.b (.a [[],[],[],[],[],[],[],[],[],[],[],[],[]] (.t [ok 2,ok 3])) (.b (.t [ok 2,ok 3]) (.t [ok 2,ok 3]))))) .o)))))))⟩
instance {t0 t1 r}:Con (zi t0 t1=some r) (Den Tryz.prog 202 [Ga t0,Uc t1] (.tup [ka r.1,aa r.2])):=⟨λh=>by
 refine dk 77 G5 ?_
 simp only[G5,Kf.of,zs,ze]
 unfold zi at h
 exact pg trivial .o⟩
instance {t0 t1 t2 r}:Con (ry t0 t1 t2=some r) (Den Tryz.prog 258 [aa t0,aa t1,aa t2] (.tup [ka r.1,aa r.2])):=⟨λh=>by
 refine dk 14 I6 ?_
 simp only[I6,Kf.of,zs,ze]
 unfold ry at h
 exact pg trivial .o⟩
instance {t0 t1 t2 r}:Con (Sg t0 t1 t2=some r) (Den Tryz.prog 261 [aa t0,ka t1,ka t2] (.tup [ka r.1,aa r.2])):=⟨λh=>by
 refine dk 138 J6 ?_
 simp only[J6,Kf.of,zs,ze]
 unfold Sg at h
 exact pg trivial (.z 2 (.j 1 (λ(j2:Bool)=>⟨[.p 1,.k 3,.p 3,.k 12,.s (ba j2),.p 121],[.o 0,.o 1,.o 2]⟩) (.b (.t [ok 0,ok 1,ok 2]) (.t [ok 0,ok 1,ok 2])) (.b .o (.b .o (.b .o (.j 1 (λ(j9:Bool)=>⟨[.p 19,.k 2,.p 1,.k 20,.s (ba j9),.p 98],[.o 0,.o 1,.o 2]⟩) (.b (.t [ok 0,ok 1,ok 2]) (.t [ok 0,ok 1,ok 2])) (.b (.b .o (.j 4 (λ(q:(Int × Int × Int × Int))=>⟨[.k 6,.p 1,.s (aa q.2.2.2),.p 13],[.h 2 [.g [.s (aa q.1),.s (aa q.2.1),.s (aa q.2.2.1)]]]⟩) (.b (.b (.t [ok 2]) (.t [ok 2])) (.t [ok 2])) .o)) (.j 1 (λ(j22:Bool)=>⟨[.p 21,.k 49,.s (ba j22),.p 70],[.o 0,.o 1,.o 2]⟩) (.b (.t [ok 0,ok 1,ok 2]) (.t [ok 0,ok 1,ok 2])) (.b .o (.z 1 (.j 1 (λ(j31:Bool)=>⟨[.p 70,.k 38,.s (ba j31),.p 32],[.o 0,.o 1,.o 2]⟩) (.b (.t [ok 0,ok 1,ok 2]) (.t [ok 0,ok 1,ok 2])) .o)))))))))))⟩
instance {t0 t1 r}:Con (fk t0 t1=some r) (Den Tryz.prog 39 [Eh t0,aa t1] (da r)):=⟨λh=>by
 refine dk 63 k39 ?_
 simp only[k39,Kf.of,zs,ze]
 unfold fk at h
 exact pg (And.intro @ah.eq_1 @Zg.eq_1) (.l 2 1 (λ(q:((List Int) × Int))=>⟨[.p 4,.k 1,.s (da q.1),.s (aa q.2),.p 58],[]⟩) (λ(b22:(List Int))=>⟨[.k 5,.s (da b22)],[]⟩) [] (.b (.l 2 1 (λ(q:((List Int) × Int))=>⟨[.p 5,.s (da q.1),.p 1,.s (aa q.2),.p 3],[]⟩) (λ(b19:(List Int))=>⟨[.p 5,.s (da b19),.p 1],[]⟩) [] (.b (.j 1 (λ(j16:(List Int))=>⟨[.p 5,.s (da j16),.p 11],[]⟩) (.z 2 (.j 1 (λ(j11:Bool)=>⟨[.p 8,.k 1,.p 1,.k 38,.s (ba j11),.p 16],[.o 1]⟩) (.b (.b (.t [ok 1]) (.t [ok 1])) (.t [ok 1])) (.b (.t []) (.b (.t []) (.t []))))) (.t [])) (.t [])) (.t [])) (.t [])) .o)⟩
instance {t0 t1 r}:Con (bm t0 t1=some r) (Den Tryz.prog 69 [ya t0,ta t1] (.tup [qa r.1,aa r.2.1,aa r.2.2])):=⟨λh=>by
 refine dk 65 k69 ?_
 simp only[k69,Kf.of,zs,ze]
 unfold bm at h
 exact pg @Uj.eq_1 (.b .o (.l 2 1 (λ(q:((List GType) × Int))=>⟨[.p 1,.k 2,.p 2,.k 5,.s (.own 2 0),.s (aa q.2),.p 3],[.o 0,.o 1,.n 2 ((q.1.map qa))]⟩) (λ(b15:(List GType))=>⟨[.k 4,.p 1,.k 5,.s (.own 1 0)],[.o 1,.n 2 ((b15.map qa))]⟩) [ok 0,ok 1,on 2] (.b (.a [[],[],[],[],[],[],[],[],[],[],[],[],[],[]] (.b .o (.a [[],[],[],[2],[]] (.t [ok 0,ok 1,ov 2 2])))) (.t [ok 1,ok 2])) .o))⟩
instance {t0 t1 t2 r}:Con (cm t0 t1 t2=some r) (Den Tryz.prog 203 [Ga t0,ka t1,Uc t2] (.tup [ka r.1,aa r.2])):=⟨λh=>by
 refine dk 131 H5 ?_
 simp only[H5,Kf.of,zs,ze]
 unfold cm at h
 exact pg trivial (.b .o (.b .o (.j 1 (λ(j9:Bool)=>⟨[.k 3,.p 4,.k 8,.p 1,.k 27,.s (ba j9),.p 90],[.o 0,.o 1,.o 2,.o 3]⟩) (.b (.t [ok 0,ok 1,ok 2,ok 3]) (.t [ok 0,ok 1,ok 2,ok 3])) (.b .o (.b .o (.z 2 (.j 1 (λ(j24:Bool)=>⟨[.k 3,.p 12,.k 100,.s (ba j24),.p 18],[.o 0,.o 1,.o 2,.o 3,.o 4]⟩) (.b (.b (.b (.b (.t [ok 0,ok 1,ok 2,ok 3,ok 4]) (.t [ok 0,ok 1,ok 2,ok 3,ok 4])) (.t [ok 0,ok 1,ok 2,ok 3,ok 4])) (.t [ok 0,ok 1,ok 2,ok 3,ok 4])) (.t [ok 0,ok 1,ok 2,ok 3,ok 4])) .o)))))))⟩
instance {t0 t1 t2 r}:Con (Xh t0 t1 t2=some r) (Den Tryz.prog 204 [Ga t0,ka t1,ka t2] (.tup [ka r.1,aa r.2])):=⟨λh=>by
 refine dk 36 I5 ?_
 simp only[I5,Kf.of,zs,ze]
 unfold Xh at h
 exact pg trivial (.z 2 (.j 1 (λ(j2:Bool)=>⟨[.k 3,.p 4,.k 8,.s (ba j2),.p 23],[.o 0,.o 1,.o 2,.o 3]⟩) (.b (.t [ok 0,ok 1,ok 2,ok 3]) (.t [ok 0,ok 1,ok 2,ok 3])) .o))⟩
instance {t0 t1 r}:Con (om t0 t1=some r) (Den Tryz.prog 36 [ya t0,ta t1] (ba r)):=⟨λh=>by
 refine dk 70 k36 ?_
 simp only[k36,Kf.of,zs,ze]
 unfold om at h
 exact pg @gk.eq_1 (.z 3 (.j 1 (λ(j3:Bool)=>⟨[.p 1,.k 25,.s (ba j3),.p 45],[]⟩) (.b (.t []) (.t [])) (.b .o (.l 1 0 (λ(s5:Int)=>⟨[.p 8,.s (aa s5),.p 17],[]⟩) (λ(_:Unit)=>⟨[],[]⟩) [] (.b (.e 0 (λ(_:Unit)=>⟨[.p 27],[]⟩) (.b (.b .o (.t [])) (.j 1 (λ(j18:Bool)=>⟨[.p 9,.k 62,.s (ba j18)],[]⟩) (.b (.b (.b (.b (.b (.t []) (.t [])) (.t [])) (.t [])) (.t [])) (.t [])) (.b .o (.t [])))) (.t [])) (.t [])) .o))))⟩
instance {t0 t1 t2 r}:Con (Cl t0 t1 t2=some r) (Den Tryz.prog 136 [Ga t0,wb t1,Uc t2] (.tup [ka r.1,aa r.2])):=⟨λh=>by
 refine dk 109 T3 ?_
 simp only[T3,Kf.of,zs,ze]
 unfold Cl at h
 exact pg @aj.eq_1 (.b .o (.b .o (.l 1 0 (λ(s5:Int)=>⟨[.k 1,.p 1,.k 1,.p 4,.k 1,.s (aa s5),.p 3],[.o 0,.o 1,.o 2]⟩) (λ(_:Unit)=>⟨[.k 1,.p 1,.k 1,.p 4],[.o 0,.o 1,.o 2]⟩) [ok 0,ok 1,ok 2] (.b (.b .o (.t [ok 0,ok 1,ok 2])) (.t [ok 0,ok 1,ok 2])) (.b (.z 1 (.j 1 (λ(j13:Bool)=>⟨[.k 3,.p 33,.k 11,.s (ba j13),.p 64],[.o 0,.o 1,.o 2]⟩) (.b (.t [ok 0,ok 1,ok 2]) (.t [ok 0,ok 1,ok 2])) .o)) (.b .o (.b .o (.z 1 (.f ⟨[.k 1,.p 111],[.o 0,.o 1,.o 2,.n 3 [],.n 3 [],.n 3 []]⟩ [ok 0,ok 1,ok 2,on 3,on 3,on 3] (.g [[],[],[],[],[],[],[],[],[],[1,2,4,5,7,8],[1,2,4,5,7,8,9],[1,2,4,5,7,8,9,10],[4,5,7,8],[7,8]] [none,none,none,none,none,none,none,none,none,some 3,some 4,some 5,none,none] (.z 1 (.j 1 (λ(j29:Bool)=>⟨[.k 6,.p 30,.k 69,.s (ba j29),.p 6],[.o 2,.o 3,.o 4,.o 5]⟩) (.b (.b (.t [ok 2,ov 3 1,ov 4 1,ov 5 1]) (.t [ok 2,ov 3 1,ov 4 1,ov 5 1])) (.t [ok 2,ov 3 1,ov 4 1,ov 5 1])) .o)))))))))))⟩
instance {t0 t1 t2 r}:Con (uh t0 t1 t2=some r) (Den Tryz.prog 147 [ya t0,ta t1,qa t2] (aa r)):=⟨λh=>by
 refine dk 20 y4 ?_
 simp only[y4,Kf.of,zs,ze]
 unfold uh at h
 exact pg trivial .o⟩
end Go.Proofs.Dev
