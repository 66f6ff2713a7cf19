/-
  Contracts of the functions: each answers as its plain partial function says.
-/
import Derived.Test.YtmhfebelfmgckaaGreatDoorK
import Derived.Test.YtmhfebelfmgckaaGreatDoorG
import Derived.Test.YtmhfebelfmgckaaGreatDoorPE
import Derived.Test.YtmhfebelfmgckaaGreatDoorH1
import Derived.Test.YtmhfebelfmgckaaGreatDoorH2
import Derived.Test.YtmhfebelfmgckaaGreatDoorL1
import Derived.Test.YtmhfebelfmgckaaGreatDoorQ8
import Derived.Test.YtmhfebelfmgckaaGreatDoorQ9
import Derived.Test.YtmhfebelfmgckaaGreatDoorQ10
open And renaming intro->ak
set_option linter.all false
set_option maxHeartbeats 1000000
set_option maxRecDepth 10000
namespace Go.Proofs.Dev
open Go Go.Tm
instance I3:C5 k41 pn:=pg (ak (ak k41.eq_1 pn.eq_1) ud.eq_1) (.l (EN [32,49,16,2,10,89,18,497] [0,8,16]) (EN [56,25,16,2,10,73] [16]) [] (.b .o (.t [8])) .o)
instance xR:C4 k96 Sg:=pg (ak (ak k96.eq_1 Sg.eq_1) (ak Ki.eq_1 (ak Mi.eq_1 (ak Rf.eq_1 (ak Li.eq_1 (ak Oj.eq_1 (ak Pj.eq_1 (ak k185.eq_1 k183.eq_1)))))))) (.i k183 23 ⟨[.s (.tup [])],[.O 0,.O 1,.O 2,.O 3,.O 4,.Ci 5 0]⟩ (.l (EN [8,9,32,9,10] [1,9,17,25,33,1283]) (EN [] [1,9,17,25,33,1283]) [] .o .o) (.i k185 28 ⟨[.s (.tup [])],[.O 0,.O 1,.O 2,.O 3,.O 4,.O 5,.Ci 6 0]⟩ (.l (EN [8,17,8,41,10] [1,9,17,25,33,41,1539,56]) (EN [] [1,9,17,25,33,41,1539]) [] (.b (.i k183 23 ⟨[.s (.tup [])],[.O 0,.O 1,.O 2,.O 3,.O 4,.O 5,.Ci 6 0,.O 7]⟩ (.l (EN [8,9,32,9,10] [1,9,17,25,33,41,1539,57]) (EN [] [1,9,17,25,33,41,1539,57]) [] .o .o) .o) .o) .o) (.z 1 (.d [0,8,16,24,32,40] [] (.b (.a [[],[],[1],[]] .o) (.z 1 (.d [0,8,16,24,32,48] [0,4,8,12,16,24] (.b (.a [[],[],[1],[]] .o) (.a [[],[],[],[],[],[],[],[],[],[6,7],[]] .o)))))))))
instance wX:C5 k10 Bf:=pg (ak k10.eq_1 Bf.eq_1) .o
instance CU:C7 k45 Uq:=pg (ak (ak k45.eq_1 Uq.eq_1) Yd.eq_1) (.l (EN [24,17,16,65,16,9,2,10,57] [0,8,16,24]) (EN [24,9,40,49,24,2] [16,24]) [] (.b (.a [[],[],[],[],[],[],[],[],[],[],[],[],[],[]] .o) (.t [8,12])) (.z 1 (.j (EN [24,49,40,33,56,2] [8]) (.t [4]) .o)))
instance law36_awake_C:C0 k9 Ip:=pg (ak k9.eq_1 Ip.eq_1) (.z 7 (.j (EN [2] []) .o .o))
instance FZ:C5 k11 kq:=pg (ak k11.eq_1 kq.eq_1) (.z 2 (.j (EN [24,105,2,169] [0,8,16,24]) .o .o))
instance ZA:C4 k3 vi:=pg (ak k3.eq_1 vi.eq_1) (.b .o (.j (EN [64,2] []) .o .o))
theorem uA{t0 t1 t2 t3 r} (h:vi t0 t1 t2 t3=some r):Den Tryz.prog 3 [mA t0,Cq t1,qt t2,vg t3] (za r):=ZA.h h
end Go.Proofs.Dev
