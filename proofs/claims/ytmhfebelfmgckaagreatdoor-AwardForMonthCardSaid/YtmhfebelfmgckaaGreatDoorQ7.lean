/-
  Contracts of the functions: each answers as its plain partial function says.
-/
import Derived.Test.YtmhfebelfmgckaaGreatDoorK
import Derived.Test.YtmhfebelfmgckaaGreatDoorG
import Derived.Test.YtmhfebelfmgckaaGreatDoorPE
import Derived.Test.YtmhfebelfmgckaaGreatDoorH1
import Derived.Test.YtmhfebelfmgckaaGreatDoorH2
import Derived.Test.YtmhfebelfmgckaaGreatDoorL1
import Derived.Test.YtmhfebelfmgckaaGreatDoorQ0
import Derived.Test.YtmhfebelfmgckaaGreatDoorQ1
import Derived.Test.YtmhfebelfmgckaaGreatDoorQ2
import Derived.Test.YtmhfebelfmgckaaGreatDoorQ3
open And renaming intro->ak
set_option linter.all false
set_option maxHeartbeats 1000000
set_option maxRecDepth 10000
namespace Go.Proofs.Dev
open Go Go.Tm
instance UH:C2 k85 Xc:=pg (ak (ak k85.eq_1 Xc.eq_1) Md.eq_1) (.l (EN [33,16,9,2,10,9] []) (EN [33,16,9,2] []) [] .o (.j (EN [32,60,2] []) .o .o))
instance ref07_Days_C:C1 k98 ts:=pg (ak k98.eq_1 ts.eq_1) .o
instance uU:C1 k102 Hm:=pg (ak (ak k102.eq_1 Hm.eq_1) wi.eq_1) (.l (EN [17,8,2,10,201] []) (EN [24,2] []) [] (.z 2 (.j (EN [25,2,9] []) .o .o)) .o)
instance W0:C3 k179 vf:=pg (ak (ak k179.eq_1 vf.eq_1) (ak Nc.eq_1 Oc.eq_1)) (.z 2 (.j (EN [49,168,2,177] []) .o (.l (EN [17,48,2,10,137] []) (EN [17,48,2] []) [] .o (.l (EN [65,2,9,10,313] []) (EN [64,2,9] []) [] .o .o))))
instance facts_AsOf_C:C5 k222 Jl:=pg (ak (ak k222.eq_1 Jl.eq_1) Kl.eq_1) (.l (EN [89,8,2,33,10,377] [0]) (EN [9,72,9,8,2,17] [0]) [] (.z 2 (.j (EN [97,2,41] [0]) (.z 2 (.j (EN [145,208,2,161] [0,8]) .o (.j (EN [113,8,233,80,2,81] [0]) .o .o))) .o)) .o)
instance UQ:C1 k264 Nb:=pg (ak k264.eq_1 Nb.eq_1) (.z 1 (.j (EN [16,2,193] []) .o .o))
instance zI309{t0 c10 r}:Con (ib t0 (λx900=>uh x900 c10)=some r) (Den Tryz.prog 309 [Fu t0,.fn 310 [] [Zu c10]] (za r)):=⟨λh=>Qo (q1:=[Zu c10]) (WJ DH) (λx900 _ hb=>xy hb) h⟩
instance law_hasEnum_C:C2 k265 Kp:=pg (ak k265.eq_1 Kp.eq_1) .o
instance cO:C3 k269 Te:=pg (ak (ak k269.eq_1 Te.eq_1) Ue.eq_1) (.l (EN [16,33,168,17,2,329] [0]) (EN [] []) [] (.z 6 (.j (EN [16,225,160,2,161] [0,8,16]) .o (.z 1 (.j (EN [16,57,144,185,144,2,17] [0]) .o .o)))) .o)
instance expr_Starts_C:C1 k326 Ks:=pg (ak k326.eq_1 Ks.eq_1) .o
instance Y8:C3 k337 Wt:=pg (ak k337.eq_1 Wt.eq_1) (.z 2 (.j (EN [49,88,2,33] []) .o .o))
instance ref03_Apply_C:C3 k342 Pv:=pg (ak k342.eq_1 Pv.eq_1) .o
instance I5:C3 k401 ea:=pg (ak k401.eq_1 ea.eq_1) (.b .o (.b .o (.b (.z 1 (.j (EN [48,2] []) .o .o)) (.b (.z 1 (.j (EN [48,2,9] []) .o .o)) (.j (EN [8,9,8,25,600,2,409] [0,8]) .o (.b .o (.b .o (.b .o (.b (.j (EN [48,2,593] []) .o .o) .o)))))))))
instance WT:C2 k430 af:=pg (ak (ak k430.eq_1 af.eq_1) Rc.eq_1) (.z 3 (.j ⟨[.k 2,.p 3,.k 1,.p 5],[.o 0,.o 1,.o 2,.o 3,.h 4 [.g [.p 2,.i 0]]]⟩ .o (.z 1 (.j (EN [16,257,2,625] [0,8,16,24,32]) .o (.l ⟨[.k 2,.p 1,.k 1,.p 30,.k 3,.p 2,.i 3,.p 73],[.o 0,.o 2,.o 3,.h 4 [.g [.i 0,.i 1,.i 2]]]⟩ ⟨[.k 4,.p 2,.k 1,.p 27],[.o 2,.h 4 [.g [.i 0,.i 1,.i 2]]]⟩ [0,8,12,16] (.b (.e ⟨[.k 2,.p 38],[.o 0,.o 1,.o 2,.h 3 [.g [.i 0,.i 1,.i 2]]]⟩ (.z 2 (.j (EN [16,305,136,2,441] [0,8,16,24]) .o (.z 8 (.j (EN [16,49,16,377,416,2,25] [0,8,16,24,32]) .o .o)))) .o) (.t [4,12])) .o)))))
instance ref13_Has_C:C2 k440 Sz:=pg (ak k440.eq_1 Sz.eq_1) (.z 1 (.j (EN [32,2,129] []) .o .o))
instance ref13_made_C:C2 k442 xc:=pg (ak k442.eq_1 xc.eq_1) .o
instance ref04_ToYMD_C:C1 k445 Pp:=pg (ak (ak k445.eq_1 Pp.eq_1) (ak Fm.eq_1 Gm.eq_1)) (.l (EN [2,9,24,10,9] []) (EN [2,9,24,10,9] []) [] .o (.l (EN [2,41,10,233] []) (EN [2,41,10,233] []) [] .o .o))
instance N8:C2 k470 gb:=pg (ak k470.eq_1 gb.eq_1) (.z 3 (.j (EN [16,17,32,9,2,417] [0,8]) .o (.b (.z 1 (.j (EN [32,2] []) .o .o)) (.j (EN [16,9,40,9,200,2,217] [0]) .o (.b (.j (EN [32,2,25] []) .o .o) (.b (.j (EN [32,2,25] []) .o .o) .o))))))
instance ref10_leaf_C:C2 k472 Ll:=pg (ak k472.eq_1 Ll.eq_1) (.z 2 (.j ⟨[.k 2,.p 3,.k 1,.p 2],[.o 0,.o 1,.o 2,.h 3 [.g [.i 0,.i 1]]]⟩ (.z 6 (.j (EN [16,25,8,17,272,2,385] [0,8,16,24]) .o .o)) (.z 1 (.j (EN [32,25,2,361] [16,24]) (.b (.t [8,12]) (.j (EN [32,393,40,9,104,2,145] [16,24]) (.t [8,12]) .o)) .o))))
instance zI474{t0 t1 t2 r}:Con (Bn t0 t1 t2=some r) (Den Tryz.prog 474 [da t0,og t1,og t2] (.tup [og r.1,za r.2])):=⟨λh=>by
 refine dk 105 k474 ?_
 simp only[k474,Kf.of,zs,ze]
 unfold Bn at h
 exact pg trivial (.z 3 (.j (EN [9,24,25,8,9,2,785] [0,8,16]) .o (.b (.j ⟨[.k 6,.p 1,.i 0],[.h 2 [.g [.s (da t1.a),.s (da t1.g)]]]⟩ (.a [[],[],[],[],[],[],[],[],[],[]] (.t [8])) .o) (.j (EN [73,96,2,689] [0,8,16]) .o (.b .o (.b (.j ⟨[.k 6,.p 1,.i 0],[.h 2 [.g [.s (da t1.a),.s (da t1.g)]]]⟩ (.a [[],[],[],[],[],[],[],[],[],[6]] (.t [8])) .o) (.j (EN [32,137,184,2,505] [0,8,16]) .o (.b (.j ⟨[.k 6,.p 1,.i 0],[.h 2 [.g [.s (da t1.a),.s (da t1.g)]]]⟩ (.a [[],[],[],[],[],[],[],[],[],[]] (.t [8])) .o) (.j (EN [32,321,96,2,409] [0,8,16]) .o (.b (.a [[],[],[],[],[1,2]] .o) (.j (EN [32,417,56,2,353] [0,8,16]) .o (.b (.j ⟨[.k 6,.p 1,.i 2],[.h 2 [.g [.i 0,.i 1]]]⟩ (.a [[],[],[],[],[],[],[],[],[],[]] (.t [8])) .o) (.j (EN [32,473,96,2,257] [0,8,16]) .o (.b (.j ⟨[.k 6,.p 1,.i 0],[.h 2 [.g [.s (da t1.a),.s (da t1.g)]]]⟩ (.a [[],[],[],[],[],[],[],[],[],[6]] (.t [8])) .o) (.j (EN [32,33,632,2,161] [0,8,16]) .o (.b (.j ⟨[.k 6,.p 1,.i 0,.p 79],[.h 2 [.g [.s (da t1.a),.s (da t1.g)]]]⟩ (.a [[],[],[],[],[],[],[],[],[],[6]] (.t [8])) .o) (.j ⟨[.k 6,.p 1,.i 2,.p 79],[.h 2 [.g [.i 0,.i 1]]]⟩ (.a [[],[],[],[],[],[],[],[],[],[6]] (.t [8])) .o)))))))))))))))))⟩
instance J3:C2 k42 bt:=pg (ak (ak k42.eq_1 bt.eq_1) Jr.eq_1) (.l ⟨[.k 1,.p 3,.k 1,.s (.own 1 0),.i 2],[.h 0 [.g [.i 0,.p 1]],.ni 2 1]⟩ ⟨[.k 2,.p 2,.k 1,.s (.own 1 0)],[.h 0 [.g [.i 0,.p 1]],.ni 2 1]⟩ [0,9] (.z 1 (.j (EN [8,217,2,169] [0,8]) .o (.b (.t [0,260]) .o))) .o)
instance DS:C1 k47 Th:=pg (ak (ak k47.eq_1 Th.eq_1) (ak we.eq_1 (ak Nj.eq_1 (ak xe.eq_1 Rk.eq_1)))) (.l (EN [8,9,8,11,10,545] [0,516]) (EN [8,9,8,11] [0,516]) [0,9] (.l (EN [8,33,10,17] [0,258]) (EN [8,33] [0,258]) [] (.b (.t [0,260]) .o) .o) (.l (EN [8,41,10,529] [0,258]) (EN [24,25] [258]) [] (.b (.l (EN [8,49,10,249] [0,258]) (EN [8,49] [0,258]) [] (.b (.t [0,260]) .o) .o) (.t [4])) (.z 1 (.d [] [] .o))))
instance ref07_Range_C:C1 k93 Qv:=pg (ak k93.eq_1 Qv.eq_1) .o
instance GQ:C5 k152 Pe:=pg (ak (ak k152.eq_1 Pe.eq_1) re.eq_1) (.l (EN [17,8,57,16,33,24,9,10,153] [2]) (EN [96,33] [2]) [] .o .o)
instance rP:C3 k153 ui:=pg (ak (ak k153.eq_1 ui.eq_1) Jf.eq_1) (.l (EN [8,41,8,11,25,24,9,10,225] [0,260]) (EN [56,3,25] [260]) [0,5] (.b (.j (EN [8,121] [0,258]) (.z 2 (.j (EN [8,65,40,17,168,2,49] [0,8]) .o (.b (.t [0,260]) .o))) .o) (.t [4])) .o)
instance uS:C3 k223 ik:=pg (ak (ak k223.eq_1 ik.eq_1) qh.eq_1) (.z 2 (.j (EN [8,9,8,25,152,2,465] [0,8]) .o (.z 1 (.j (EN [8,193,64,2,401] [0,8]) .o (.l (EN [24,17,48,9,416,17,2,137] [0]) (EN [] []) [] .o .o)))))
instance O0:C3 k262 lr:=pg (ak (ak k262.eq_1 lr.eq_1) zm.eq_1) (.l (EN [40,9,224,17,2,145] [8]) (EN [] []) [4] .o .o)
instance zI352{t0 c10 r}:Con (Ma t0 (λx900=>Uc x900 c10)=some r) (Den Tryz.prog 352 [Gu t0,.fn 351 [] [Du c10]] (za r)):=⟨λh=>Mn (q1:=[Du c10]) (WJ DH) (λx900 _ hb=>Iv hb) h⟩
instance IY:C4 k315 Am:=pg (ak k315.eq_1 Am.eq_1) (.b .o (.j (EN [32,33,64,2,121] [0,8]) .o .o))
instance L1:C2 k415 Ko:=pg (ak (ak k415.eq_1 Ko.eq_1) Qq.eq_1) (.z 5 (.j (EN [16,25,8,9,2,33] [0,8,16,24]) .o (.l (EN [16,41,2,10,745] [0,8,16,24]) (EN [16,41,2] [0,8,16,24]) [] (.z 5 (.j (EN [16,201,200,2,393] [0,8,16,24]) .o .o)) (.z 1 (.j (EN [32,721,2,57] [16,24]) (.t [8,12]) .o)))))
instance J1:C2 k416 xf:=pg (ak k416.eq_1 xf.eq_1) .o
instance J8:C3 k435 Ta:=pg (ak k435.eq_1 Ta.eq_1) (.z 2 (.j (EN [8,9,8,33,88,2,545] [0,8,16]) .o (.z 6 (.j ⟨[.k 6,.p 3,.i 2,.p 8],[.o 2,.h 3 [.g [.i 0,.i 1]]]⟩ (.b (.t [8,12]) (.b (.a [[],[],[],[],[],[],[],[],[],[]] (.t [8,12])) (.b (.a [[],[],[],[],[],[],[],[],[],[],[],[],[]] (.t [8,12])) (.t [8,12])))) .o))))
instance ref13_with_C:C3 k448 qj:=pg (ak k448.eq_1 qj.eq_1) .o
instance wZ:C3 k451 Hc:=pg (ak k451.eq_1 Hc.eq_1) (.z 2 (.j (EN [9,24,25,96,2,969] [0,8,16]) .o (.b .o (.b .o (.b .o (.j (EN [153,16,9,160,2,785] [0,8,16]) .o (.b (.b .o (.j ⟨[.k 6,.p 1,.i 3,.p 13],[.h 2 [.g [.i 0,.i 1,.i 2]]]⟩ (.t [8]) .o)) (.j (EN [169,392,2,561] [0,8,16]) .o (.b .o (.z 1 (.j (EN [561,304,2,257] [0,8,16]) .o .o)))))))))))
instance N1:C3 k479 Mo:=pg (ak k479.eq_1 Mo.eq_1) (.z 4 (.j (EN [57,16,9,2,9] [0]) .o (.j (EN [89,2,257] [0]) .o (.z 1 (.j (EN [73,208,2,65] [0]) .o .o)))))
instance AW:C2 k483 jg:=pg (ak k483.eq_1 jg.eq_1) (.z 2 (.j (EN [33,128,2,233] []) .o .o))
instance HY:C1 k216 Gt:=pg (ak (ak k216.eq_1 Gt.eq_1) Bk.eq_1) (.l (EN [8,49,48,17,2,153] [0,8]) (EN [16,41] [8]) [] (.b .o (.t [4])) .o)
instance L8:C2 k407 Pt:=pg (ak (ak k407.eq_1 Pt.eq_1) bo.eq_1) (.l (EN [9,16,17,40,19,10,25] [0,8,516]) (EN [32,9,40,11] [8,516]) [0,4,9] (.b (.a [[],[],[],[],[],[],[],[],[],[],[],[],[],[]] (.b .o (.a [[],[],[],[2],[]] (.t [0,4,520])))) (.t [4,8])) .o)
instance W8:C3 k449 Wc:=pg (ak k449.eq_1 Wc.eq_1) (.z 3 (.j (EN [24,33,8,2,81,24,10,1409] [0,8,16,24]) .o (.b .o (.j (EN [24,153,208,2,1201] [0,8,16,24]) .o (.b .o (.j (EN [24,361,232,2,969] [0,8,16,24]) .o (.b .o (.j (EN [24,41,2,545,248,10,721] [0,8,16,24]) .o (.b .o (.j (EN [24,41,2,793,216,10,505] [0,8,16,24]) .o (.b .o (.j (EN [24,41,1288,2,233] [0,8,16,24]) .o .o))))))))))))
instance rR:C2 k484 mj:=pg (ak (ak k484.eq_1 mj.eq_1) ue.eq_1) (.z 2 (.j (EN [33,88,2,145] []) .o (.u (EN [41,2,73] []) [] (.z 2 (.j (EN [49,192,2,25] []) .o .o)))))
end Go.Proofs.Dev
