/-
  Contracts of the functions: each answers as its plain partial function says.
-/
import Derived.Test.YtjiaejcpmcknnaaGreatDoorK
import Derived.Test.YtjiaejcpmcknnaaGreatDoorG
import Derived.Test.YtjiaejcpmcknnaaGreatDoorPD
import Derived.Test.YtjiaejcpmcknnaaGreatDoorH1
import Derived.Test.YtjiaejcpmcknnaaGreatDoorH2
import Derived.Test.YtjiaejcpmcknnaaGreatDoorQ8
import Derived.Test.YtjiaejcpmcknnaaGreatDoorQ9
set_option linter.all false
set_option maxHeartbeats 1000000
set_option maxRecDepth 10000
namespace Go.Proofs.Dev
open Go Go.Tm
instance {r}:Con (ue=some r) (Den Tryz.prog 11 [] (ba r)):=⟨λh=>by
 refine dk 56 k11 ?_
 simp only[k11,Kf.of,zs,ze]
 unfold ue at h
 exact pg trivial (.z 6 (.j 1 (λ(j11:Bool)=>⟨[.k 4,.p 1,.k 44,.s (ba j11),.p 6],[]⟩) (.b (.b (.b (.b (.t []) (.t [])) (.t [])) (.t [])) (.t [])) .o))⟩
instance {t0 t1 t2 t3 r}:Con (Ie t0 t1 t2 t3=some r) (Den Tryz.prog 3 [ab t0,aa t1,wo t2,aa t3] (ba r)):=⟨λh=>by
 refine dk 62 k3 ?_
 simp only[k3,Kf.of,zs,ze]
 unfold Ie at h
 exact pg trivial (.z 2 (.j 1 (λ(j6:Bool)=>⟨[.k 1,.p 1,.k 1,.p 5,.k 21,.s (ba j6),.p 36],[.o 0,.o 1]⟩) (.b (.b (.t [ok 0,ok 1]) (.t [ok 0,ok 1])) (.t [ok 0,ok 1])) (.b .o (.z 2 (.j 1 (λ(j11:Bool)=>⟨[.k 1,.p 8,.k 37,.s (ba j11),.p 19],[.o 0,.o 1]⟩) (.b (.t [ok 0,ok 1]) (.t [ok 0,ok 1])) (.b .o (.z 1 (.j 1 (λ(j19:Bool)=>⟨[.k 8,.s (ba j19),.p 2],[]⟩) (.b (.b (.t []) (.t [])) (.t [])) .o))))))))⟩
instance {t0 t1 t2 t3 r}:Con (qi t0 t1 t2 t3=some r) (Den Tryz.prog 4 [ab t0,aa t1,aa t2,aa t3] (ba r)):=⟨λh=>by
 refine dk 79 k4 ?_
 simp only[k4,Kf.of,zs,ze]
 unfold qi at h
 exact pg @Nd.eq_1 (.z 2 (.j 1 (λ(j4:Bool)=>⟨[.k 1,.p 7,.k 16,.s (ba j4),.p 58],[.o 0]⟩) (.b (.t [ok 0]) (.t [ok 0])) (.b .o (.b (.j 1 (λ(j11:Bool)=>⟨[.k 8,.s (ba j11)],[]⟩) (.b (.t []) (.t [])) .o) (.l 1 0 (λ(s12:Int)=>⟨[.k 1,.p 9,.k 1,.s (aa s12),.p 12],[.o 0]⟩) (λ(_:Unit)=>⟨[],[]⟩) [ok 0] (.b (.z 2 (.j 1 (λ(j19:Bool)=>⟨[.k 1,.p 11,.k 69,.s (ba j19),.p 1],[.o 0]⟩) (.b (.b (.b (.t [ok 0]) (.t [ok 0])) (.t [ok 0])) (.t [ok 0])) (.b .o (.t [ok 0])))) (.t [])) .o)))))⟩
end Go.Proofs.Dev
