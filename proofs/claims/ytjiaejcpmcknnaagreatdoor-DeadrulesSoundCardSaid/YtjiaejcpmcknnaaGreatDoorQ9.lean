/-
  Contracts of the functions: each answers as its plain partial function says.
-/
import Derived.Test.YtjiaejcpmcknnaaGreatDoorK
import Derived.Test.YtjiaejcpmcknnaaGreatDoorG
import Derived.Test.YtjiaejcpmcknnaaGreatDoorPD
import Derived.Test.YtjiaejcpmcknnaaGreatDoorH1
import Derived.Test.YtjiaejcpmcknnaaGreatDoorH2
import Derived.Test.YtjiaejcpmcknnaaGreatDoorQ4
import Derived.Test.YtjiaejcpmcknnaaGreatDoorQ5
import Derived.Test.YtjiaejcpmcknnaaGreatDoorQ6
import Derived.Test.YtjiaejcpmcknnaaGreatDoorQ7
set_option linter.all false
set_option maxHeartbeats 1000000
set_option maxRecDepth 10000
namespace Go.Proofs.Dev
open Go Go.Tm
instance {t0 t1 r}:Con (so t0 t1=some r) (Den Tryz.prog 59 [Wa t0,wa t1] (ba r)):=⟨λh=>by
 refine dk 70 k59 ?_
 simp only[k59,Kf.of,zs,ze]
 unfold so at h
 exact pg @gm.eq_1 (.z 3 (.j 1 (λ(j3:Bool)=>⟨[.p 1,.k 25,.s (ba j3),.p 45],[]⟩) (.b (.t []) (.t [])) (.b .o (.l 1 0 (λ(s5:Int)=>⟨[.p 8,.s (aa s5),.p 17],[]⟩) (λ(_:Unit)=>⟨[],[]⟩) [] (.b (.e 0 (λ(_:Unit)=>⟨[.p 27],[]⟩) (.b (.b .o (.t [])) (.j 1 (λ(j18:Bool)=>⟨[.p 9,.k 62,.s (ba j18)],[]⟩) (.b (.b (.b (.b (.b (.t []) (.t [])) (.t [])) (.t [])) (.t [])) (.t [])) (.b .o (.t [])))) (.t [])) (.t [])) .o))))⟩
instance {t0 t1 r}:Con (Pk t0 t1=some r) (Den Tryz.prog 94 [Bb t0,aa t1] (re r)):=⟨λh=>by
 refine dk 45 k94 ?_
 simp only[k94,Kf.of,zs,ze]
 unfold Pk at h
 exact pg trivial (.b .o (.b .o (.b .o (.z 1 (.j 1 (λ(j9:Int)=>⟨[.k 4,.p 1,.k 1,.p 1],[.o 1,.h 3 [.g [.p 3,.s (aa j9)]]]⟩) (.b (.t [ok 1,ok 3]) (.t [ok 1,ok 3])) .o)))))⟩
instance {t0 t1 t2 r}:Con (Ii t0 t1 t2=some r) (Den Tryz.prog 191 [Wa t0,wa t1,ua t2] (aa r)):=⟨λh=>by
 refine dk 20 k191 ?_
 simp only[k191,Kf.of,zs,ze]
 unfold Ii at h
 exact pg trivial .o⟩
instance {t0 t1 t2 r}:Con (cm t0 t1 t2=some r) (Den Tryz.prog 138 [Bb t0,aa t1,aa t2] (aa r)):=⟨λh=>by
 refine dk 141 k138 ?_
 simp only[k138,Kf.of,zs,ze]
 unfold cm at h
 exact pg @Zh.eq_1 (.b .o (.l 2 1 (λ(q:(Int × Int))=>⟨[.k 1,.p 5,.k 1,.p 2,.s (aa q.1),.s (aa q.2),.p 2],[.o 0,.o 1,.o 2]⟩) (λ(b14:Int)=>⟨[.k 1,.p 5,.k 1,.p 2,.s (aa b14)],[.o 0,.o 1,.o 2]⟩) [ok 0,ok 1,ok 2] (.b (.e 1 (λ(j11:Int)=>⟨[.k 1,.p 8,.s (aa j11),.p 17],[.o 0,.o 1,.o 2]⟩) (.b .o (.b (.t [ok 0,ok 1,ok 2]) (.t [ok 0,ok 1,ok 2]))) (.t [ok 0,ok 1,ok 2])) (.t [ok 0,ok 1,ok 2])) (.z 1 (.j 1 (λ(j16:Bool)=>⟨[.k 1,.p 61,.s (ba j16),.p 81],[.o 0,.o 1,.o 2]⟩) (.b (.t [ok 0,ok 1,ok 2]) (.t [ok 0,ok 1,ok 2])) (.b .o (.z 1 (.j 1 (λ(j22:Bool)=>⟨[.k 1,.p 1,.k 1,.p 59,.k 26,.s (ba j22),.p 55],[.o 0,.o 1,.o 2]⟩) (.b (.b (.b (.t [ok 0,ok 1,ok 2]) (.t [ok 0,ok 1,ok 2])) (.t [ok 0,ok 1,ok 2])) (.t [ok 0,ok 1,ok 2])) (.b .o (.z 1 (.j 1 (λ(j28:Bool)=>⟨[.k 1,.p 87,.k 23,.s (ba j28),.p 32],[.o 0,.o 1,.o 2]⟩) (.b (.b (.b (.t [ok 0,ok 1,ok 2]) (.t [ok 0,ok 1,ok 2])) (.t [ok 0,ok 1,ok 2])) (.t [ok 0,ok 1,ok 2])) (.b .o (.b .o (.b .o (.z 1 (.e 0 (λ(_:Unit)=>⟨[.k 7,.p 2,.k 2,.p 100],[.o 1,.o 2,.o 3]⟩) (.b (.b .o (.t [ok 1,ok 2,ok 3])) (.t [ok 1,ok 2,ok 3])) .o)))))))))))))))⟩
instance {t0 t1 r}:Con (Nk t0 t1=some r) (Den Tryz.prog 95 [Bb t0,aa t1] (re r)):=⟨λh=>by
 refine dk 123 k95 ?_
 simp only[k95,Kf.of,zs,ze]
 unfold Nk at h
 exact pg (And.intro @ig.eq_1 (And.intro @Sg.eq_1 @jg.eq_1)) (.b .o (.b .o (.z 1 (.j 1 (λ(j10:Bool)=>⟨[.k 1,.p 12,.k 43,.s (ba j10),.p 68],[.o 0,.o 1,.o 2,.o 3]⟩) (.b (.b (.b (.t [ok 0,ok 1,ok 2,ok 3]) (.t [ok 0,ok 1,ok 2,ok 3])) (.t [ok 0,ok 1,ok 2,ok 3])) (.t [ok 0,ok 1,ok 2,ok 3])) (.b .o (.b .o (.b .o (.b .o (.l 1 0 (λ(s16:Int)=>⟨[.k 1,.p 5,.k 2,.s (aa s16),.p 47],[.o 0,.o 1,.o 2]⟩) (λ(_:Unit)=>⟨[.k 1,.p 1,.k 2,.p 2],[.o 1,.o 2]⟩) [ok 0,ok 1,ok 2] (.b (.b .o (.t [ok 0,ok 1,ok 2])) (.t [ok 1,ok 2])) (.l 1 0 (λ(s21:Int)=>⟨[.k 1,.p 9,.s (aa s21),.p 114],[.o 0,.o 1]⟩) (λ(_:Unit)=>⟨[.k 4,.p 1],[.o 0]⟩) [ok 0,ok 1] (.b (.l 1 0 (λ(s24:Int)=>⟨[.k 1,.p 11,.s (aa s24),.p 85],[.o 0,.o 1]⟩) (λ(_:Unit)=>⟨[.k 1,.p 10],[.o 0,.o 1]⟩) [ok 0,ok 1] (.b (.b .o (.t [ok 0,ok 1])) (.t [ok 0,ok 1])) (.t [ok 0,ok 1])) (.t [ok 0])) .o))))))))))⟩
instance {t0 r}:Con (Gn t0=some r) (Den Tryz.prog 56 [Bb t0] (re r)):=⟨λh=>by
 refine dk 66 k56 ?_
 simp only[k56,Kf.of,zs,ze]
 unfold Gn at h
 exact pg (And.intro @wj.eq_1 (And.intro @xj.eq_1 @zj.eq_1)) (.b .o (.l 1 0 (λ(s2:Int)=>⟨[.k 1,.p 2,.s (aa s2),.p 5],[.o 0,.o 1]⟩) (λ(_:Unit)=>⟨[.k 1,.p 2],[.o 0,.o 1]⟩) [ok 0,ok 1] (.b (.b .o (.t [ok 0,ok 1])) (.t [ok 0,ok 1])) (.b .o (.l 1 0 (λ(s8:Int)=>⟨[.k 1,.p 4,.s (aa s8),.p 22],[.o 0,.o 1]⟩) (λ(_:Unit)=>⟨[.k 1,.p 4],[.o 0,.o 1]⟩) [ok 0,ok 1] (.b (.b .o (.t [ok 0,ok 1])) (.t [ok 0,ok 1])) (.b .o (.l 1 0 (λ(s14:Int)=>⟨[.k 1,.p 6,.s (aa s14),.p 39],[.o 0,.o 1]⟩) (λ(_:Unit)=>⟨[.k 2,.p 5],[.o 1]⟩) [ok 0,ok 1] (.b (.b .o (.t [ok 0,ok 1])) (.t [ok 1])) .o))))))⟩
instance zzi2 {t0 t1 t2 t3 r}:Con (xr t0 t1 t2 t3=some r) (Den Tryz.prog 23 [Bb t0,aa t1,aa t2,aa t3] (.tup [Eb r.1,aa r.2])):=⟨λh=>by
 refine dk 104 k23 ?_
 simp only[k23,Kf.of,zs,ze]
 unfold xr at h
 exact pg (And.intro @Zo.eq_1 @bp.eq_1) (.b .o (.z 1 (.j 1 (λ(j7:Bool)=>⟨[.k 1,.p 7,.k 35,.s (ba j7),.p 64],[.o 0]⟩) (.b (.b (.b (.t [ok 0]) (.t [ok 0])) (.t [ok 0])) (.t [ok 0])) (.b .o (.z 1 (.j 1 (λ(j10:Bool)=>⟨[.k 1,.p 42,.k 6,.s (ba j10),.p 58],[.o 0]⟩) (.b (.t [ok 0]) (.t [ok 0])) (.b .o (.l 1 0 (λ(s15:Int)=>⟨[.k 4,.p 9,.s (aa s15),.p 35],[.o 0,.o 1,.o 2]⟩) (λ(_:Unit)=>⟨[.k 4,.p 8],[.o 0,.o 1]⟩) [ok 0,ok 1,ok 2] (.b (.b .o (.t [ok 0,ok 1,ok 2])) (.t [ok 0,ok 1])) (.l 2 1 (λ(q:((List (List Int)) × Int))=>⟨[.k 4,.p 10,.s (.own 2 0),.s (aa q.2),.p 92],[.o 0,.o 1,.n 1 ((q.1.map la))]⟩) (λ(b34:(List (List Int)))=>⟨[.k 14,.s (.own 0 0)],[.n 1 ((b34.map la))]⟩) [ok 0,ok 1,on 1] (.b (.j 1 (λ(j31:(List (List Int)))=>⟨[.k 4,.p 71],[.o 0,.o 1,.c 2 ((j31.map la))]⟩) (.b (.t [ok 0,ok 1,ov 2 1]) (.t [ok 0,ok 1,ov 2 1])) (.t [ok 0,ok 1,ok 2])) (.t [ok 2])) .o)))))))))⟩
instance {t0 t1 t2 t3 r}:Con (ts t0 t1 t2 t3=some r) (Den Tryz.prog 14 [Bb t0,aa t1,aa t2,aa t3] (ba r)):=⟨λh=>by
 refine dk 39 k14 ?_
 simp only[k14,Kf.of,zs,ze]
 unfold ts at h
 exact pg @xq.eq_1 (.b .o (.l 2 1 (λ(q:(Int × Int))=>⟨[.k 9,.p 1,.k 1,.s (aa q.1),.s (aa q.2)],[]⟩) (λ(b12:Int)=>⟨[.k 11,.s (aa b12)],[]⟩) [] (.z 1 (.j 1 (λ(j7:Bool)=>⟨[.k 9,.p 22,.s (ba j7),.p 11],[]⟩) (.b (.t []) (.t [])) (.b (.t []) (.t [])))) .o))⟩
end Go.Proofs.Dev
