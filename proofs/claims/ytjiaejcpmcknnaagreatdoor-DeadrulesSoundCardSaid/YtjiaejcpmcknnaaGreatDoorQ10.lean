/-
  Contracts of the functions: each answers as its plain partial function says.
-/
import Derived.Test.YtjiaejcpmcknnaaGreatDoorK
import Derived.Test.YtjiaejcpmcknnaaGreatDoorG
import Derived.Test.YtjiaejcpmcknnaaGreatDoorPD
import Derived.Test.YtjiaejcpmcknnaaGreatDoorH1
import Derived.Test.YtjiaejcpmcknnaaGreatDoorH2
import Derived.Test.YtjiaejcpmcknnaaGreatDoorQ4
import Derived.Test.YtjiaejcpmcknnaaGreatDoorQ5
import Derived.Test.YtjiaejcpmcknnaaGreatDoorQ6
import Derived.Test.YtjiaejcpmcknnaaGreatDoorQ7
set_option linter.all false
set_option maxHeartbeats 1000000
set_option maxRecDepth 10000
namespace Go.Proofs.Dev
open Go Go.Tm
instance {t0 t1 r}:Con (Ei t0 t1=some r) (Den Tryz.prog 83 [Ea t0,aa t1] (la r)):=⟨λh=>by
 refine dk 93 k83 ?_
 simp only[k83,Kf.of,zs,ze]
 unfold Ei at h
 exact pg (And.intro @Bh.eq_1 @yp.eq_1) (.z 2 (.j 1 (λ(j2:Bool)=>⟨[.k 1,.p 3,.k 21,.s (ba j2),.p 69],[.o 0]⟩) (.b (.t [ok 0]) (.t [ok 0])) (.b .o (.l 2 1 (λ(q:((List Bool) × Int))=>⟨[.k 2,.p 23,.k 11,.p 2,.s (aa q.2),.p 56],[.o 0,.c 1 ((q.1.map ba))]⟩) (λ(b17:(List Bool))=>⟨[.k 2,.p 23],[.o 0,.c 1 ((b17.map ba))]⟩) [ok 0,ok 1] (.b (.t [ok 0,ok 1]) (.t [ok 0,ok 1])) (.l 2 1 (λ(q:((List Int) × Int))=>⟨[.k 2,.p 6,.s (.own 2 0),.p 37,.k 1,.p 2,.s (aa q.2),.p 45],[.o 0,.o 1,.n 1 ((q.1.map aa))]⟩) (λ(b34:(List Int))=>⟨[.k 8,.s (.own 0 0),.p 37],[.n 1 ((b34.map aa))]⟩) [ok 0,ok 1,on 1] (.b (.j 1 (λ(j31:(List Int))=>⟨[.k 2,.p 48],[.o 0,.o 1,.c 2 ((j31.map aa))]⟩) (.z 2 (.j 1 (λ(j25:Bool)=>⟨[.k 2,.p 48,.k 21,.s (ba j25),.p 23],[.o 0,.o 1,.o 2,.o 3]⟩) (.b (.b (.t [ok 0,ok 1,ok 2,ok 3]) (.t [ok 0,ok 1,ok 2,ok 3])) (.t [ok 0,ok 1,ok 2,ok 3])) (.b (.t [ok 0,ok 1,ok 2]) (.t [ok 0,ok 1,ov 2 2])))) (.t [ok 0,ok 1,ok 2])) (.t [ok 2])) .o)))))⟩
end Go.Proofs.Dev
