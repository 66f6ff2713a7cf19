/-
  Contracts of the functions: each answers as its plain partial function says.
-/
import Derived.Test.YtnlamdfggbdblaaGreatDoorK
import Derived.Test.YtnlamdfggbdblaaGreatDoorG
import Derived.Test.YtnlamdfggbdblaaGreatDoorPD
import Derived.Test.YtnlamdfggbdblaaGreatDoorH2
import Derived.Test.YtnlamdfggbdblaaGreatDoorQ4
import Derived.Test.YtnlamdfggbdblaaGreatDoorQ5
import Derived.Test.YtnlamdfggbdblaaGreatDoorQ6
import Derived.Test.YtnlamdfggbdblaaGreatDoorQ7
set_option linter.all false
set_option maxHeartbeats 1000000
set_option maxRecDepth 10000
namespace Go.Proofs.Dev
open Go Go.Tm
instance {t0 t1 t2 r}:Con (Bo t0 t1 t2=some r) (Den Tryz.prog 34 [Da t0,aa t1,aa t2] (Eh r)):=⟨λh=>by
 refine dk 41 k34 ?_
 simp only[k34,Kf.of,zs,ze]
 unfold Bo at h
 exact pg @xq.eq_1 (.l 2 1 (λ(q:((List (List GNode)) × Int))=>⟨[.k 3,.p 3,.k 1,.s (.own 1 0),.p 1,.s (aa q.2)],[.o 0,.n 1 ((q.1.map ya))]⟩) (λ(b12:(List (List GNode)))=>⟨[.k 7,.s (.own 0 0)],[.n 1 ((b12.map ya))]⟩) [ok 0,on 1] (.b (.j 1 (λ(j9:(List (List GNode)))=>⟨[.k 3,.p 11],[.o 0,.c 1 ((j9.map ya))]⟩) (.b (.t [ok 0,ov 1 1]) (.t [ok 0,ok 1])) (.t [ok 0,ok 1])) (.t [ok 1])) .o)⟩
instance {t0 t1 t2 r}:Con (Im t0 t1 t2=some r) (Den Tryz.prog 113 [Jb t0,aa t1,Af t2] (.tup [aa r.1,aa r.2])):=⟨λh=>by
 refine dk 52 w3 ?_
 simp only[w3,Kf.of,zs,ze]
 unfold Im at h
 exact pg @Ti.eq_1 (.b .o (.b .o (.b .o (.b .o (.l 1 0 (λ(s8:Int)=>⟨[.k 5,.p 1,.k 28,.p 2,.s (aa s8),.p 18],[.o 1]⟩) (λ(_:Unit)=>⟨[],[]⟩) [ok 1] (.b (.b .o (.b .o (.t [ok 0]))) (.t [])) .o)))))⟩
instance {t0 t1 t2 r}:Con (ra t0 t1 t2=some r) (Den Tryz.prog 126 [Ga t0,Mi t1,ta t2] (.tup [qa r.1,aa r.2])):=⟨λh=>by
 refine dk 122 L3 ?_
 simp only[L3,Kf.of,zs,ze]
 unfold ra at h
 exact pg trivial (.z 1 (.e 0 (λ(_:Unit)=>⟨[.k 1,.p 1,.k 1,.p 2,.k 1,.p 1],[.o 0,.o 2]⟩) (.b .o (.b .o (.b .o (.b .o (.b .o (.b .o (.b .o (.b .o (.b .o (.j 1 (λ(j19:Bool)=>⟨[.k 1,.p 1,.k 1,.p 4,.k 4,.p 1,.k 71,.s (ba j19),.p 41],[.o 0,.o 1,.o 2]⟩) (.b (.t [ok 0,ok 1,ok 2]) (.t [ok 0,ok 1,ok 2])) (.b .o (.j 1 (λ(j27:Bool)=>⟨[.k 1,.p 82,.k 11,.s (ba j27),.p 30],[.o 0,.o 1,.o 2]⟩) (.b (.t [ok 0,ok 1,ok 2]) (.b (.t [ok 0,ok 1,ok 2]) (.b (.t [ok 0,ok 1,ok 2]) (.b (.t [ok 0,ok 1,ok 2]) (.t [ok 0,ok 1,ok 2]))))) (.b .o (.j 1 (λ(j32:Bool)=>⟨[.k 1,.p 4,.k 1,.p 5,.k 94,.s (ba j32),.p 19],[.o 0,.o 2]⟩) (.b (.t [ok 0,ok 2]) (.b (.t [ok 0,ok 2]) (.t [ok 0,ok 2]))) (.b (.b .o (.t [ok 0,ok 1])) (.t [ok 0,ok 1])))))))))))))))) .o))⟩
instance {t0 t1 r}:Con (Fm t0 t1=some r) (Den Tryz.prog 127 [ya t0,aa t1] (da r)):=⟨λh=>by
 refine dk 51 M3 ?_
 simp only[M3,Kf.of,zs,ze]
 unfold Fm at h
 exact pg @Ni.eq_1 (.z 3 (.j 1 (λ(j4:Bool)=>⟨[.p 4,.k 1,.p 1,.k 20,.s (ba j4),.p 26],[]⟩) (.b (.b (.t []) (.t [])) (.t [])) (.b .o (.l 3 1 (λ(q:((List Int) × Int × Int))=>⟨[.k 5,.p 3,.s (aa q.2.1),.s (aa q.2.2),.p 16],[.c 0 ((q.1.map aa))]⟩) (λ(b19:(List Int))=>⟨[.k 7,.p 1],[.c 0 ((b19.map aa))]⟩) [ok 0] (.b (.t [ok 0]) (.t [ok 0])) .o))))⟩
instance {t0 t1 t2 r}:Con (Zp t0 t1 t2=some r) (Den Tryz.prog 142 [Eg t0,mb t1,Tb t2] (ba r)):=⟨λh=>by
 refine dk 50 Z3 ?_
 simp only[Z3,Kf.of,zs,ze]
 unfold Zp at h
 exact pg trivial (.z 2 (.j 1 (λ(j4:Bool)=>⟨[.k 2,.p 4,.k 20,.s (ba j4),.p 26],[.o 0,.o 1]⟩) (.b (.b (.t [ok 0,ok 1]) (.t [ok 0,ok 1])) (.t [ok 0,ok 1])) (.b .o (.j 1 (λ(j11:Bool)=>⟨[.k 6,.s (ba j11),.p 19],[]⟩) (.b (.b (.t []) (.t [])) (.t [])) .o))))⟩
instance {t0 t1 r}:Con (Nl t0 t1=some r) (Den Tryz.prog 159 [Eg t0,Eg t1] (ba r)):=⟨λh=>by
 refine dk 27 K4 ?_
 simp only[K4,Kf.of,zs,ze]
 unfold Nl at h
 exact pg trivial (.z 2 (.j 1 (λ(j3:Bool)=>⟨[.k 4,.s (ba j3)],[]⟩) (.b (.t []) (.t [])) .o))⟩
instance {t0 c10 r}:Con (La t0 (λx900=>Bc x900 c10)=some r) (Den Tryz.prog 221 [Ud t0,.fn 220 [] [Uo c10]] (ba r)):=⟨λh=>Gj (q1:=[Uo c10]) (iB oz) (λx900 _ hb=>Tp hb) h⟩
theorem xz{t0 t1 t2 t3 r} (h:Kg t0 t1 t2 t3=some r):Den Tryz.prog 169 [Jb t0,eb t1,Ud t2,Ud t3] (aa r):=by
 refine dk 28 S4 ?_
 simp only[S4,Kf.of,zs,ze]
 unfold Kg at h
 exact pg trivial (.b .o (.j 1 (λ(j6:Bool)=>⟨[.k 4,.p 4,.k 8,.s (ba j6),.p 15],[.o 0,.o 1]⟩) (.b (.t [ok 0,ok 1]) (.t [ok 0,ok 1])) .o))
instance {t0 t1 t2 t3 r}:Con (Kg t0 t1 t2 t3=some r) (Den Tryz.prog 169 [Jb t0,eb t1,Ud t2,Ud t3] (aa r)):=⟨xz⟩
instance {t0 r}:Con (jo t0=some r) (Den Tryz.prog 75 [Jb t0] (Gd r)):=⟨λh=>by
 refine dk 34 k75 ?_
 simp only[k75,Kf.of,zs,ze]
 unfold jo at h
 exact pg @Ih.eq_1 (.b .o (.l 1 0 (λ(s2:Int)=>⟨[.k 1,.p 6,.k 6,.p 2,.s (aa s2),.p 19],[.o 0,.o 1]⟩) (λ(_:Unit)=>⟨[.k 2,.p 5],[.o 1]⟩) [ok 0,ok 1] (.b (.b .o (.t [ok 0,ok 1])) (.t [ok 1])) .o))⟩
instance {t0 t1 r}:Con (Dn t0 t1=some r) (Den Tryz.prog 82 [ya t0,ta t1] (.tup [qa r.1,aa r.2.1,aa r.2.2])):=⟨λh=>by
 refine dk 73 k82 ?_
 simp only[k82,Kf.of,zs,ze]
 unfold Dn at h
 exact pg @Uk.eq_1 (.b .o (.l 2 1 (λ(q:((List GType) × Int))=>⟨[.k 3,.p 2,.k 5,.s (.own 2 0),.p 5,.k 11,.p 2,.s (aa q.2),.p 45],[.o 0,.o 1,.n 2 ((q.1.map qa))]⟩) (λ(b19:(List GType))=>⟨[.k 4,.p 1,.k 5,.s (.own 1 0),.p 5],[.o 1,.n 2 ((b19.map qa))]⟩) [ok 0,ok 1,on 2] (.b (.z 3 (.j 1 (λ(j9:Bool)=>⟨[.k 3,.p 27,.k 12,.s (ba j9),.p 32],[.o 0,.o 1,.o 2,.o 3]⟩) (.b (.t [ok 0,ok 1,ok 2,ok 3]) (.t [ok 0,ok 1,ok 2,ok 3])) (.b .o (.a [[],[],[],[],[],[],[],[],[],[],[]] (.b .o (.a [[],[],[],[2],[]] (.t [ok 0,ok 1,ov 2 2]))))))) (.t [ok 1,ok 2])) .o))⟩
instance {t0 t1 r}:Con (Lc t0 t1=some r) (Den Tryz.prog 85 [ya t0,aa t1] (.tup [aa r.1,Ga r.2.1,ba r.2.2])):=⟨λh=>by
 refine dk 50 k85 ?_
 simp only[k85,Kf.of,zs,ze]
 unfold Lc at h
 exact pg trivial (.b .o (.z 1 (.f ⟨[.p 52],[.o 0,.n 2 [],.n 2 []]⟩ [ok 0,on 2,on 2] (.g [[],[],[],[],[],[],[],[],[],[],[],[],[2,3,4,5,8,9,10,11],[2,3,4,5,8,9,10,11,12],[8,9,10,11]] [none,none,none,none,none,none,none,none,none,none,none,none,some 1,some 2,none] (.z 1 (.j 1 (λ(j9:Bool)=>⟨[.k 5,.p 1,.k 2,.p 2,.k 19,.s (ba j9),.p 22],[.o 0,.o 1,.o 2]⟩) (.b (.t [ok 0,ov 1 1,ov 2 1]) (.t [ok 0,ov 1 1,ov 2 1])) (.b .o (.j 1 (λ(j13:Bool)=>⟨[.k 5,.p 24,.k 11,.s (ba j13),.p 11],[.o 0,.o 1,.o 2]⟩) (.b (.t [ok 0,ok 1,ok 2]) (.t [ok 0,ok 1,ok 2])) .o))))))))⟩
instance {t0 t1 r}:Con (Al t0 t1=some r) (Den Tryz.prog 103 [mb t0,Tb t1] (.tup [aa r.1,aa r.2])):=⟨λh=>by
 refine dk 55 P2 ?_
 simp only[P2,Kf.of,zs,ze]
 unfold Al at h
 exact pg (And.intro @Vh.eq_1 @Uh.eq_1) (.b .o (.z 1 (.j 1 (λ(j5:Bool)=>⟨[.k 1,.p 3,.k 19,.s (ba j5),.p 33],[.o 0]⟩) (.b (.t [ok 0]) (.t [ok 0])) (.b .o (.l 1 0 (λ(s7:Int)=>⟨[.k 1,.p 5,.s (aa s7),.p 16],[.o 0]⟩) (λ(_:Unit)=>⟨[],[]⟩) [ok 0] (.b (.b .o (.l 1 0 (λ(s12:Int)=>⟨[.k 1,.p 6,.s (aa s12),.p 16],[.o 0]⟩) (λ(_:Unit)=>⟨[.k 1,.p 6],[.o 0]⟩) [ok 0] (.b (.b .o (.t [ok 0])) (.t [ok 0])) (.t [ok 0]))) (.t [])) .o)))))⟩
theorem mq{t0 t1 r} (h:ld t0 t1=some r):Den Tryz.prog 158 [Eg t0,Wt t1] (ba r):=by
 refine dk 5 J4 ?_
 simp only[J4,Kf.of,zs,ze]
 unfold ld at h
 exact pg trivial .o
instance {t0 t1 r}:Con (ld t0 t1=some r) (Den Tryz.prog 158 [Eg t0,Wt t1] (ba r)):=⟨mq⟩
instance {t0 t1 r}:Con (Ul t0 t1=some r) (Den Tryz.prog 45 [ya t0,ta t1] (ba r)):=⟨λh=>by
 refine dk 55 k45 ?_
 simp only[k45,Kf.of,zs,ze]
 unfold Ul at h
 exact pg @Lj.eq_1 (.z 3 (.j 1 (λ(j3:Bool)=>⟨[.p 1,.k 25,.s (ba j3),.p 30],[]⟩) (.b (.t []) (.t [])) (.b .o (.l 1 0 (λ(s5:Int)=>⟨[.p 26,.k 1,.p 2,.s (aa s5),.p 27],[]⟩) (λ(_:Unit)=>⟨[],[]⟩) [] (.b (.e 0 (λ(_:Unit)=>⟨[.p 30],[]⟩) (.z 3 (.j 1 (λ(j12:Bool)=>⟨[.p 30,.k 6,.s (ba j12),.p 20],[.o 0]⟩) (.b (.t [ok 0]) (.b (.t [ok 0]) (.b (.t [ok 0]) (.b (.t [ok 0]) (.t [ok 0]))))) (.b (.t []) (.b (.t []) (.b .o (.b .o (.t []))))))) (.t [])) (.t [])) .o))))⟩
instance {t0 t1 r}:Con (Kj t0 t1=some r) (Den Tryz.prog 48 [Eh t0,aa t1] (da r)):=⟨λh=>by
 refine dk 75 k48 ?_
 simp only[k48,Kf.of,zs,ze]
 unfold Kj at h
 exact pg (And.intro @Dg.eq_1 @Cg.eq_1) (.l 2 1 (λ(q:((List Int) × Int))=>⟨[.k 1,.p 3,.k 1,.s (.own 0 0),.p 11,.s (aa q.2),.p 59],[.n 1 ((q.1.map aa))]⟩) (λ(b28:(List Int))=>⟨[.k 5,.s (.own 0 0),.p 9],[.n 1 ((b28.map aa))]⟩) [on 1] (.b (.j 1 (λ(j25:(List Int))=>⟨[.k 1,.p 17],[.c 0 ((j25.map aa))]⟩) (.b (.t [ok 0]) (.l 2 1 (λ(q:((List Int) × Int))=>⟨[.k 1,.p 7,.k 7,.p 3,.k 10,.p 2,.s (aa q.2),.p 46],[.c 0 ((q.1.map aa))]⟩) (λ(b24:(List Int))=>⟨[.k 1,.p 6,.k 8,.p 3],[.c 0 ((b24.map aa))]⟩) [ok 0] (.b (.j 1 (λ(j21:(List Int))=>⟨[.k 1,.p 30],[.c 0 ((j21.map aa))]⟩) (.b (.t [ok 0]) (.z 2 (.j 1 (λ(j16:Bool)=>⟨[.k 1,.p 9,.k 3,.p 1,.k 1,.p 16,.k 25,.s (ba j16),.p 20],[.o 0,.o 2]⟩) (.b (.b (.t [ok 0,ok 2]) (.t [ok 0,ok 2])) (.t [ok 0,ok 2])) (.b (.t [ok 0]) (.b (.t [ov 0 2]) (.t [ov 0 1])))))) (.t [ok 0])) (.t [ok 0])) (.t [ok 0]))) (.t [ok 0])) (.t [ok 0])) .o)⟩
instance {t0 t1 r}:Con (mj t0 t1=some r) (Den Tryz.prog 65 [Jb t0,aa t1] (Gd r)):=⟨λh=>by
 refine dk 45 k65 ?_
 simp only[k65,Kf.of,zs,ze]
 unfold mj at h
 exact pg trivial (.b .o (.b .o (.b .o (.z 1 (.j 1 (λ(j9:Int)=>⟨[.k 4,.p 1,.k 1,.p 1],[.o 1,.h 3 [.g [.p 3,.s (aa j9)]]]⟩) (.b (.t [ok 1,ok 3]) (.t [ok 1,ok 3])) .o)))))⟩
instance {t0 c10 r}:Con (me t0 (λx900=>ld x900 c10)=some r) (Den Tryz.prog 157 [vr t0,.fn 158 [] [Wt c10]] (.tup [aa r.1,ba r.2])):=⟨λh=>Wu (q1:=[Wt c10]) (iB oz) (λx900 _ hb=>mq hb) h⟩
theorem Zz{t0 t1 r} (h:pj t0 t1=some r):Den Tryz.prog 114 [mb t0,Tb t1] (.tup [aa r.1,aa r.2]):=by
 refine dk 119 y3 ?_
 simp only[y3,Kf.of,zs,ze]
 unfold pj at h
 exact pg @qi.eq_1 (.b .o (.z 1 (.j 1 (λ(j5:Bool)=>⟨[.k 1,.p 3,.k 25,.s (ba j5),.p 91],[.o 0]⟩) (.b (.t [ok 0]) (.t [ok 0])) (.b .o (.l 1 0 (λ(s9:Int)=>⟨[.k 2,.p 27,.k 16,.p 2,.s (aa s9),.p 73],[.o 0]⟩) (λ(_:Unit)=>⟨[],[]⟩) [ok 0] (.b (.z 3 (.j 1 (λ(j15:Bool)=>⟨[.k 2,.p 46,.k 23,.s (ba j15),.p 49],[.o 0,.o 1]⟩) (.b (.b (.t [ok 0,ok 1]) (.t [ok 0,ok 1])) (.t [ok 0,ok 1])) (.b .o (.z 1 (.j 1 (λ(j20:Bool)=>⟨[.k 2,.p 69,.k 25,.s (ba j20),.p 24],[.o 0,.o 1]⟩) (.b (.b (.b (.t [ok 0,ok 1]) (.t [ok 0,ok 1])) (.t [ok 0,ok 1])) (.t [ok 0,ok 1])) (.b .o (.z 1 (.j 1 (λ(j23:Bool)=>⟨[.k 2,.p 94,.k 11,.s (ba j23),.p 13],[.o 0,.o 1]⟩) (.b (.t [ok 0,ok 1]) (.t [ok 0,ok 1])) (.b .o (.b .o (.t [ok 0]))))))))))) (.t [])) .o)))))
instance {t0 t1 r}:Con (pj t0 t1=some r) (Den Tryz.prog 114 [mb t0,Tb t1] (.tup [aa r.1,aa r.2])):=⟨Zz⟩
theorem bp{t0 t1 t2 r} (h:vi t0 t1 t2=some r):Den Tryz.prog 225 [ya t0,ta t1,qa t2] (aa r):=by
 refine dk 20 Y5 ?_
 simp only[Y5,Kf.of,zs,ze]
 unfold vi at h
 exact pg trivial .o
instance {t0 t1 t2 r}:Con (vi t0 t1 t2=some r) (Den Tryz.prog 225 [ya t0,ta t1,qa t2] (aa r)):=⟨bp⟩
end Go.Proofs.Dev
