/-
  Contracts of the functions: each answers as its plain partial function says.
-/
import Derived.Test.YtjjfnbpfgfopbaaGreatDoorK
import Derived.Test.YtjjfnbpfgfopbaaGreatDoorG
import Derived.Test.YtjjfnbpfgfopbaaGreatDoorPE
import Derived.Test.YtjjfnbpfgfopbaaGreatDoorH1
import Derived.Test.YtjjfnbpfgfopbaaGreatDoorH2
import Derived.Test.YtjjfnbpfgfopbaaGreatDoorL1
import Derived.Test.YtjjfnbpfgfopbaaGreatDoorQ8
set_option linter.all false
set_option maxHeartbeats 1000000
set_option maxRecDepth 10000
namespace Go.Proofs.Dev
open Go Go.Tm
instance zI225{r}:Con (ck=some r) (Den Tryz.prog 11 [] (ba r)):=⟨λh=>by
 refine dk 54 k11 ?_
 simp only[k11,Kf.of,zs,ze]
 unfold ck at h
 exact pg trivial (.z 7 (.j 1 (λ(j9:Bool)=>⟨[.s (ba j9)],[]⟩) (.b (.b (.b (.t []) (.t [])) (.t [])) (.t [])) .o))⟩
theorem An{t0 t1 t2 t3 r} (h:Qe t0 t1 t2 t3=some r):Den Tryz.prog 3 [xb t0,Da t1,zb t2,zi t3] (ba r):=by
 refine dk 75 k3 ?_
 simp only[k3,Kf.of,zs,ze]
 unfold Qe at h
 exact pg trivial (.z 2 (.j 1 (λ(j12:Bool)=>⟨[.k 4,.p 4,.k 38,.s (ba j12),.p 32],[.o 0,.o 1,.o 2,.o 3]⟩) (.b (.b (.b (.b (.b (.t [ok 0,ok 1,ok 2,ok 3]) (.t [ok 0,ok 1,ok 2,ok 3])) (.t [ok 0,ok 1,ok 2,ok 3])) (.t [ok 0,ok 1,ok 2,ok 3])) (.t [ok 0,ok 1,ok 2,ok 3])) (.t [ok 0,ok 1,ok 2,ok 3])) (.b .o (.b (.j 1 (λ(j20:Bool)=>⟨[.k 8,.s (ba j20)],[]⟩) (.b (.t []) (.t [])) .o) (.j 1 (λ(j25:Bool)=>⟨[.k 8,.s (ba j25)],[]⟩) (.b (.b (.t []) (.t [])) (.t [])) .o)))))
instance zI226{t0 t1 t2 t3 r}:Con (Qe t0 t1 t2 t3=some r) (Den Tryz.prog 3 [xb t0,Da t1,zb t2,zi t3] (ba r)):=⟨An⟩
end Go.Proofs.Dev
