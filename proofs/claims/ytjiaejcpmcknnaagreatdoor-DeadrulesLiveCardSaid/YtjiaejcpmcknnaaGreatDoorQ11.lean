/-
  Contracts of the functions: each answers as its plain partial function says.
-/
import Derived.Test.YtjiaejcpmcknnaaGreatDoorK
import Derived.Test.YtjiaejcpmcknnaaGreatDoorG
import Derived.Test.YtjiaejcpmcknnaaGreatDoorPD
import Derived.Test.YtjiaejcpmcknnaaGreatDoorH1
import Derived.Test.YtjiaejcpmcknnaaGreatDoorH2
import Derived.Test.YtjiaejcpmcknnaaGreatDoorQ8
import Derived.Test.YtjiaejcpmcknnaaGreatDoorQ9
set_option linter.all false
set_option maxHeartbeats 1000000
set_option maxRecDepth 10000
namespace Go.Proofs.Dev
open Go Go.Tm
instance {r}:Con (Ek=some r) (Den Tryz.prog 15 [] (ba r)):=⟨λh=>by
 refine dk 54 k15 ?_
 simp only[k15,Kf.of,zs,ze]
 unfold Ek at h
 exact pg trivial (.z 4 (.j 1 (λ(j15:Bool)=>⟨[.s (ba j15)],[]⟩) (.b (.b (.b (.b (.b (.b (.t []) (.t [])) (.t [])) (.t [])) (.t [])) (.t [])) (.t [])) .o))⟩
theorem iah{t0 t1 r} (h:Nj t0 t1=some r):Den Tryz.prog 7 [ab t0,oI t1] (ba r):=by
 refine dk 123 k7 ?_
 simp only[k7,Kf.of,zs,ze]
 unfold Nj at h
 exact pg @Je.eq_1 (.b .o (.z 2 (.j 1 (λ(j7:Bool)=>⟨[.k 2,.p 2,.k 1,.p 9,.k 35,.s (ba j7),.p 75],[.o 0,.o 1]⟩) (.b (.b (.t [ok 0,ok 1]) (.t [ok 0,ok 1])) (.t [ok 0,ok 1])) (.b (.j 1 (λ(j11:Bool)=>⟨[.k 4,.s (ba j11)],[]⟩) (.b (.t []) (.t [])) .o) (.l 1 0 (λ(s14:Int)=>⟨[.k 2,.p 4,.k 1,.p 1,.s (aa s14),.p 40],[.o 0,.o 1]⟩) (λ(_:Unit)=>⟨[],[]⟩) [ok 0,ok 1] (.b (.e 0 (λ(_:Unit)=>⟨[.k 2,.p 64],[.o 0,.o 1]⟩) (.z 2 (.j 1 (λ(j20:Bool)=>⟨[.k 2,.p 9,.k 86,.s (ba j20),.p 27],[.o 0,.o 1]⟩) (.b (.t [ok 0,ok 1]) (.t [ok 0,ok 1])) (.b .o (.b (.t [ok 0,ok 1]) (.z 1 (.j 1 (λ(j25:Bool)=>⟨[.k 2,.p 7,.k 114,.s (ba j25),.p 1],[.o 0,.o 1]⟩) (.b (.t [ok 0,ok 1]) (.t [ok 0,ok 1])) (.b .o (.t [ok 0,ok 1])))))))) (.t [ok 0,ok 1])) (.t [])) .o)))))
instance {t0 t1 r}:Con (Nj t0 t1=some r) (Den Tryz.prog 7 [ab t0,oI t1] (ba r)):=⟨iah⟩
end Go.Proofs.Dev
