/-
  Contracts of the functions: each answers as its plain partial function says.
-/
import Derived.Test.YtmhfebelfmgckaaGreatDoorK
import Derived.Test.YtmhfebelfmgckaaGreatDoorG
import Derived.Test.YtmhfebelfmgckaaGreatDoorPE
import Derived.Test.YtmhfebelfmgckaaGreatDoorH1
import Derived.Test.YtmhfebelfmgckaaGreatDoorH2
import Derived.Test.YtmhfebelfmgckaaGreatDoorL1
import Derived.Test.YtmhfebelfmgckaaGreatDoorQ4
import Derived.Test.YtmhfebelfmgckaaGreatDoorQ5
import Derived.Test.YtmhfebelfmgckaaGreatDoorQ6
import Derived.Test.YtmhfebelfmgckaaGreatDoorQ7
open And renaming intro->ak
set_option linter.all false
set_option maxHeartbeats 1000000
set_option maxRecDepth 10000
namespace Go.Proofs.Dev
open Go Go.Tm
instance BU:C2 k285 Wm:=pg (ak k285.eq_1 Wm.eq_1) (.z 11 (.j ⟨[.k 4,.p 1,.k 1,.p 1],[.o 1,.h 3 [.g [.p 3,.i 0]]]⟩ (.t [4,12]) .o))
instance GW:C3 k378 Yj:=pg (ak k378.eq_1 Yj.eq_1) .o
instance JW:C3 k334 uo:=pg (ak (ak k334.eq_1 uo.eq_1) wj.eq_1) (.l (EN [8,41,8,17,2,10,17] [0,8,16]) (EN [8,41,8,17,2] [0,8,16]) [] (.z 2 (.e (EN [8,65,2,137] [0,8,16]) .o .o)) (.z 1 (.j (EN [8,489,2,649] [0,8,16]) .o (.z 1 (.j (EN [8,9,8,473,208,2,441] [0,8,16]) .o (.z 1 (.j (EN [8,697,184,2,257] [0,8,16]) .o (.z 5 (.e (EN [56,17,16,801] [8,16,24]) (.b (.b .o (.t [4,8,12])) (.t [4,8,12])) .o)))))))))
instance AU:C2 k286 Vm:=pg (ak (ak k286.eq_1 Vm.eq_1) (ak Ch.eq_1 (ak Ei.eq_1 Dh.eq_1))) (.b .o (.b .o (.z 1 (.j (EN [8,97,344,2,545] [0,8,16,24]) .o (.l (EN [8,41,16,2,377] [0,8,16]) (EN [8,9,16,17] [8,16]) [] (.b .o (.t [4,8])) (.l (EN [8,73,2,913] [0,8]) (EN [32,9] [0]) [] (.l (EN [8,89,2,681] [0,8]) (EN [8,81] [0,8]) [] .o .o) .o))))))
instance zZ:C1 k244 bq:=pg (ak (ak k244.eq_1 bq.eq_1) (ak Uk.eq_1 (ak Vk.eq_1 Wk.eq_1))) (.l (EN [8,17,2,41] [0,8]) (EN [8,17] [0,8]) [] .o (.l (EN [8,33,2,177] [0,8]) (EN [8,33] [0,8]) [] .o (.l (EN [8,49,2,313] [0,8]) (EN [16,41] [8]) [] (.b .o (.t [4])) .o)))
instance P1:C1 k175 Gr:=pg (ak k175.eq_1 Gr.eq_1) .o
instance WO:C3 k92 Hb:=pg (ak k92.eq_1 Hb.eq_1) (.z 4 (.j (EN [8,9,8,25,232,2,361] [0,8]) .o (.z 3 (.j (EN [40,241,176,2,185] [8]) (.t [4]) (.z 1 (.j (EN [640,2] []) .o .o))))))
instance ref36_valid_C:C3 k44 Xv:=pg (ak k44.eq_1 Xv.eq_1) (.z 2 (.j (EN [48,2] []) .o .o))
end Go.Proofs.Dev
