/-
  Contracts of the functions: each answers as its plain partial function says.
-/
import Derived.Test.YtkmalfincghanaaGreatDoorK
import Derived.Test.YtkmalfincghanaaGreatDoorG
import Derived.Test.YtkmalfincghanaaGreatDoorPD
import Derived.Test.YtkmalfincghanaaGreatDoorH1
import Derived.Test.YtkmalfincghanaaGreatDoorH2
import Derived.Test.YtkmalfincghanaaGreatDoorQ4
import Derived.Test.YtkmalfincghanaaGreatDoorQ5
import Derived.Test.YtkmalfincghanaaGreatDoorQ6
import Derived.Test.YtkmalfincghanaaGreatDoorQ7
set_option linter.all false
set_option maxHeartbeats 1000000
set_option maxRecDepth 10000
namespace Go.Proofs.Dev
open Go Go.Tm
instance {t0 t1 t2 t3 r}:Con (Daf t0 t1 t2 t3=some r) (Den Tryz.prog 16 [Zb t0,Sa t1,aa t2,aa t3] (ei r)):=⟨fun h=>by
 refine dk 20 k16 ?_
 simp only[k16,Kf.of,zs,ze]
 unfold Daf at h
 exact pg trivial .o⟩
instance {t0 t1 r}:Con (Lg t0 t1=some r) (Den Tryz.prog 122 [Ea t0,aa t1] (sa r)):=⟨fun h=>by
 refine dk 93 C4 ?_
 simp only[C4,Kf.of,zs,ze]
 unfold Lg at h
 exact pg (And.intro @bg.eq_1 @Hl.eq_1) (.z 2 (.j 1 (fun(j2:Bool)=>⟨[.k 1,.p 3,.k 21,.s (ba j2),.p 69],[.o 0]⟩) (.b (.t [ok 0]) (.t [ok 0])) (.b .o (.l 2 1 (fun(q:((List Bool) × Int))=>⟨[.k 2,.p 23,.k 11,.p 2,.s (aa q.2),.p 56],[.o 0,.c 1 ((q.1.map ba))]⟩) (fun(b17:(List Bool))=>⟨[.k 2,.p 23],[.o 0,.c 1 ((b17.map ba))]⟩) [ok 0,ok 1] (.b (.t [ok 0,ok 1]) (.t [ok 0,ok 1])) (.l 2 1 (fun(q:((List Int) × Int))=>⟨[.k 2,.p 6,.s (.own 2 0),.p 37,.k 1,.p 2,.s (aa q.2),.p 45],[.o 0,.o 1,.n 1 ((q.1.map aa))]⟩) (fun(b34:(List Int))=>⟨[.k 8,.s (.own 0 0),.p 37],[.n 1 ((b34.map aa))]⟩) [ok 0,ok 1,on 1] (.b (.j 1 (fun(j31:(List Int))=>⟨[.k 2,.p 48],[.o 0,.o 1,.c 2 ((j31.map aa))]⟩) (.z 2 (.j 1 (fun(j25:Bool)=>⟨[.k 2,.p 48,.k 21,.s (ba j25),.p 23],[.o 0,.o 1,.o 2,.o 3]⟩) (.b (.b (.t [ok 0,ok 1,ok 2,ok 3]) (.t [ok 0,ok 1,ok 2,ok 3])) (.t [ok 0,ok 1,ok 2,ok 3])) (.b (.t [ok 0,ok 1,ok 2]) (.t [ok 0,ok 1,ov 2 2])))) (.t [ok 0,ok 1,ok 2])) (.t [ok 2])) .o)))))⟩
end Go.Proofs.Dev
