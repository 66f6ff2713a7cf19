/-
  Contracts of the functions: each answers as its plain partial function says.
-/
import Derived.Test.YtmhfebelfmgckaaGreatDoorQ0
import Derived.Test.YtmhfebelfmgckaaGreatDoorQ1
import Derived.Test.YtmhfebelfmgckaaGreatDoorQ2
import Derived.Test.YtmhfebelfmgckaaGreatDoorQ3
open Option renaming some->M
open And renaming intro->ak
set_option linter.all false
set_option maxHeartbeats 1000000
set_option maxRecDepth 10000
namespace Go.Proofs.Dev
open Go Go.Tm
instance agm:C3 k27 fv:=pg (ak k27.eq_1 fv.eq_1) (.z 1 (.j (EN [48,2,129] []) .o .o))
instance agn:C2 k54 XE:=pg (ak (ak k54.eq_1 XE.eq_1) Dy.eq_1) (.l (EN [33,8,9,10,9] [2]) (EN [40,9] [2]) [] (.z 4 (.j ⟨[.p 9],[.o 0,.h 1 [.g [.p 1,.i 0,.p 2]]]⟩ .o (.t [256]))) .o)
instance oL:C2 k85 Kd:=pg (ak (ak k85.eq_1 Kd.eq_1) Be.eq_1) (.l (EN [33,16,9,2,10,9] []) (EN [33,16,9,2] []) [] .o (.j (EN [32,60,2] []) .o .o))
instance ago:C1 k98 Ou:=pg (ak k98.eq_1 Ou.eq_1) .o
instance nZ:C1 cg3 qo:=pg (ak (ak cg3.eq_1 qo.eq_1) xj.eq_1) (.l (EN [17,8,2,10,201] []) (EN [24,2] []) [] (.z 2 (.j (EN [25,2,9] []) .o .o)) .o)
instance agp:C3 cb4 fg:=pg (ak (ak cb4.eq_1 fg.eq_1) (ak qd.eq_1 sd.eq_1)) (.z 2 (.j (EN [49,168,2,177] []) .o (.l (EN [17,48,2,10,137] []) (EN [17,48,2] []) [] .o (.l (EN [65,2,9,10,313] []) (EN [64,2,9] []) [] .o .o))))
instance agq:C5 bY6 kn:=pg (ak (ak bY6.eq_1 kn.eq_1) ln.eq_1) (.l (EN [89,8,2,33,10,377] [0]) (EN [9,72,9,8,2,17] [0]) [] (.z 2 (.j (EN [97,2,41] [0]) (.z 2 (.j (EN [145,208,2,161] [0,8]) .o (.j (EN [113,8,233,80,2,81] [0]) .o .o))) .o)) .o)
instance IV:C1 bW1 fc:=pg (ak bW1.eq_1 fc.eq_1) (.z 1 (.j (EN [16,2,193] []) .o .o))
instance agr{t0 c10 r}:o! (ub t0 (λx900=>ki x900 c10)=M r) (e? Tryz.prog 309 [Zw t0,.fn 310 [] [Hx c10]] (za r)):=⟨λh=>Oq (q1:=[Hx c10]) (IN QK) (λx900 _ hb=>YA hb) h⟩
instance ags:C2 bW0 Pr:=pg (ak bW0.eq_1 Pr.eq_1) .o
instance nS:C3 bV6 Ff:=pg (ak (ak bV6.eq_1 Ff.eq_1) Gf.eq_1) (.l (EN [16,33,168,17,2,329] [0]) (EN [] []) [] (.z 6 (.j (EN [16,225,160,2,161] [0,8,16]) .o (.z 1 (.j (EN [16,57,144,185,144,2,17] [0]) .o .o)))) .o)
instance agt:C1 bR3 av:=pg (ak bR3.eq_1 av.eq_1) .o
instance agu:C3 bP9 uy:=pg (ak bP9.eq_1 uy.eq_1) .o
instance agv:C3 bL0 ea:=pg (ak bL0.eq_1 ea.eq_1) (.b .o (.b .o (.b (.z 1 (.j (EN [48,2] []) .o .o)) (.b (.z 1 (.j (EN [48,2,9] []) .o .o)) (.j (EN [8,9,8,25,600,2,409] [0,8]) .o (.b .o (.b .o (.b .o (.b (.j (EN [48,2,593] []) .o .o) .o)))))))))
instance GY:C2 bI2 Pf:=pg (ak (ak bI2.eq_1 Pf.eq_1) vd.eq_1) (.z 3 (.j ⟨[.k 2,.p 3,.k 1,.p 5],[.o 0,.o 1,.o 2,.o 3,.h 4 [.g [.p 2,.i 0]]]⟩ .o (.z 1 (.j (EN [16,257,2,625] [0,8,16,24,32]) .o (.l ⟨[.k 2,.p 1,.k 1,.p 30,.k 3,.p 2,.i 3,.p 73],[.o 0,.o 2,.o 3,.h 4 [.g [.i 0,.i 1,.i 2]]]⟩ ⟨[.k 4,.p 2,.k 1,.p 27],[.o 2,.h 4 [.g [.i 0,.i 1,.i 2]]]⟩ [0,8,12,16] (.b (.e ⟨[.k 2,.p 38],[.o 0,.o 1,.o 2,.h 3 [.g [.i 0,.i 1,.i 2]]]⟩ (.z 2 (.j (EN [16,305,136,2,441] [0,8,16,24]) .o (.z 8 (.j (EN [16,49,16,377,416,2,25] [0,8,16,24,32]) .o .o)))) .o) (.t [4,12])) .o)))))
instance agw:C2 bH2 zC:=pg (ak bH2.eq_1 zC.eq_1) (.z 1 (.j (EN [32,2,129] []) .o .o))
instance agx:C2 bH0 Pc:=pg (ak bH0.eq_1 Pc.eq_1) .o
instance agy:C1 bG7 Sr:=pg (ak (ak bG7.eq_1 Sr.eq_1) (ak mo.eq_1 oo.eq_1)) (.l (EN [2,9,24,10,9] []) (EN [2,9,24,10,9] []) [] .o (.l (EN [2,41,10,233] []) (EN [2,41,10,233] []) [] .o .o))
instance agz:C2 bE3 sb:=pg (ak bE3.eq_1 sb.eq_1) (.z 3 (.j (EN [16,17,32,9,2,417] [0,8]) .o (.b (.z 1 (.j (EN [32,2] []) .o .o)) (.j (EN [16,9,40,9,200,2,217] [0]) .o (.b (.j (EN [32,2,25] []) .o .o) (.b (.j (EN [32,2,25] []) .o .o) .o))))))
instance aha:C2 bE1 mn:=pg (ak bE1.eq_1 mn.eq_1) (.z 2 (.j ⟨[.k 2,.p 3,.k 1,.p 2],[.o 0,.o 1,.o 2,.h 3 [.g [.i 0,.i 1]]]⟩ (.z 6 (.j (EN [16,25,8,17,272,2,385] [0,8,16,24]) .o .o)) (.z 1 (.j (EN [32,25,2,361] [16,24]) (.b (.t [8,12]) (.j (EN [32,393,40,9,104,2,145] [16,24]) (.t [8,12]) .o)) .o))))
instance ahb{t0 t1 t2 r}:o! (yp t0 t1 t2=M r) (e? Tryz.prog 474 [da t0,Vg t1,Vg t2] (.tup [Vg r.1,za r.2])):=⟨λh=>by
 refine dk 105 bD9 ?_
 simp only[bD9,Kf.of,zs,ze]
 unfold yp at h
 exact pg trivial (.z 3 (.j (EN [9,24,25,8,9,2,785] [0,8,16]) .o (.b (.j ⟨[.k 6,.p 1,.i 0],[.h 2 [.g [.s (da t1.a),.s (da t1.g)]]]⟩ (.a [[],[],[],[],[],[],[],[],[],[]] (.t [8])) .o) (.j (EN [73,96,2,689] [0,8,16]) .o (.b .o (.b (.j ⟨[.k 6,.p 1,.i 0],[.h 2 [.g [.s (da t1.a),.s (da t1.g)]]]⟩ (.a [[],[],[],[],[],[],[],[],[],[6]] (.t [8])) .o) (.j (EN [32,137,184,2,505] [0,8,16]) .o (.b (.j ⟨[.k 6,.p 1,.i 0],[.h 2 [.g [.s (da t1.a),.s (da t1.g)]]]⟩ (.a [[],[],[],[],[],[],[],[],[],[]] (.t [8])) .o) (.j (EN [32,321,96,2,409] [0,8,16]) .o (.b (.a [[],[],[],[],[1,2]] .o) (.j (EN [32,417,56,2,353] [0,8,16]) .o (.b (.j ⟨[.k 6,.p 1,.i 2],[.h 2 [.g [.i 0,.i 1]]]⟩ (.a [[],[],[],[],[],[],[],[],[],[]] (.t [8])) .o) (.j (EN [32,473,96,2,257] [0,8,16]) .o (.b (.j ⟨[.k 6,.p 1,.i 0],[.h 2 [.g [.s (da t1.a),.s (da t1.g)]]]⟩ (.a [[],[],[],[],[],[],[],[],[],[6]] (.t [8])) .o) (.j (EN [32,33,632,2,161] [0,8,16]) .o (.b (.j ⟨[.k 6,.p 1,.i 0,.p 79],[.h 2 [.g [.s (da t1.a),.s (da t1.g)]]]⟩ (.a [[],[],[],[],[],[],[],[],[],[6]] (.t [8])) .o) (.j ⟨[.k 6,.p 1,.i 2,.p 79],[.h 2 [.g [.i 0,.i 1]]]⟩ (.a [[],[],[],[],[],[],[],[],[],[6]] (.t [8])) .o)))))))))))))))))⟩
instance ahc:C2 k42 cp:=pg (ak (ak k42.eq_1 cp.eq_1) Au.eq_1) (.l ⟨[.k 1,.p 3,.k 1,.s (.own 1 0),.i 2],[.h 0 [.g [.i 0,.p 1]],.ni 2 1]⟩ ⟨[.k 2,.p 2,.k 1,.s (.own 1 0)],[.h 0 [.g [.i 0,.p 1]],.ni 2 1]⟩ [0,9] (.z 1 (.j (EN [8,217,2,169] [0,8]) .o (.b (.t [0,260]) .o))) .o)
instance AX:C1 k47 Se:=pg (ak (ak k47.eq_1 Se.eq_1) (ak ef.eq_1 (ak Al.eq_1 (ak kf.eq_1 Am.eq_1)))) (.l (EN [8,9,8,11,10,545] [0,516]) (EN [8,9,8,11] [0,516]) [0,9] (.l (EN [8,33,10,17] [0,258]) (EN [8,33] [0,258]) [] (.b (.t [0,260]) .o) .o) (.l (EN [8,41,10,529] [0,258]) (EN [24,25] [258]) [] (.b (.l (EN [8,49,10,249] [0,258]) (EN [8,49] [0,258]) [] (.b (.t [0,260]) .o) .o) (.t [4])) (.z 1 (.d [] [] .o))))
instance ahd:C1 k93 vy:=pg (ak k93.eq_1 vy.eq_1) .o
instance tV:C5 cd7 Cf:=pg (ak (ak cd7.eq_1 Cf.eq_1) bf.eq_1) (.l (EN [17,8,57,16,33,24,9,10,153] [2]) (EN [96,33] [2]) [] .o .o)
instance UT:C3 cd6 sj:=pg (ak (ak cd6.eq_1 sj.eq_1) tg.eq_1) (.l (EN [8,41,8,11,25,24,9,10,225] [0,260]) (EN [56,3,25] [260]) [0,5] (.b (.j (EN [8,121] [0,258]) (.z 2 (.j (EN [8,65,40,17,168,2,49] [0,8]) .o (.b (.t [0,260]) .o))) .o) (.t [4])) .o)
instance rX:C3 bY5 Sl:=pg (ak (ak bY5.eq_1 Sl.eq_1) ai.eq_1) (.z 2 (.j (EN [8,9,8,25,152,2,465] [0,8]) .o (.z 1 (.j (EN [8,193,64,2,401] [0,8]) .o (.l (EN [24,17,48,9,416,17,2,137] [0]) (EN [] []) [] .o .o)))))
instance ahe:C3 bW3 au:=pg (ak (ak bW3.eq_1 au.eq_1) Zn.eq_1) (.l (EN [40,9,224,17,2,145] [8]) (EN [] []) [4] .o .o)
instance ahf{t0 c10 r}:o! (Pa t0 (λx900=>Gd x900 c10)=M r) (e? Tryz.prog 352 [ax t0,.fn 351 [] [Xw c10]] (za r)):=⟨λh=>Ip (q1:=[Xw c10]) (IN QK) (λx900 _ hb=>my hb) h⟩
instance B8:C4 bS0 bo:=pg (ak bS0.eq_1 bo.eq_1) (.b .o (.j (EN [32,33,64,2,121] [0,8]) .o .o))
instance ahg:C2 bJ6 Hq:=pg (ak (ak bJ6.eq_1 Hq.eq_1) Dt.eq_1) (.z 5 (.j (EN [16,25,8,9,2,33] [0,8,16,24]) .o (.l (EN [16,41,2,10,745] [0,8,16,24]) (EN [16,41,2] [0,8,16,24]) [] (.z 5 (.j (EN [16,201,200,2,393] [0,8,16,24]) .o .o)) (.z 1 (.j (EN [32,721,2,57] [16,24]) (.t [8,12]) .o)))))
instance ahh:C2 bJ5 ig:=pg (ak bJ5.eq_1 ig.eq_1) .o
instance ahi:C3 bH7 db:=pg (ak bH7.eq_1 db.eq_1) (.z 2 (.j (EN [8,9,8,33,88,2,545] [0,8,16]) .o (.z 6 (.j ⟨[.k 6,.p 3,.i 2,.p 8],[.o 2,.h 3 [.g [.i 0,.i 1]]]⟩ (.b (.t [8,12]) (.b (.a [[],[],[],[],[],[],[],[],[],[]] (.t [8,12])) (.b (.a [[],[],[],[],[],[],[],[],[],[],[],[],[]] (.t [8,12])) (.t [8,12])))) .o))))
instance ahj:C3 bG4 Hk:=pg (ak bG4.eq_1 Hk.eq_1) .o
instance H9:C3 bG1 bd:=pg (ak bG1.eq_1 bd.eq_1) (.z 2 (.j (EN [9,24,25,96,2,969] [0,8,16]) .o (.b .o (.b .o (.b .o (.j (EN [153,16,9,160,2,785] [0,8,16]) .o (.b (.b .o (.j ⟨[.k 6,.p 1,.i 3,.p 13],[.h 2 [.g [.i 0,.i 1,.i 2]]]⟩ (.t [8]) .o)) (.j (EN [169,392,2,561] [0,8,16]) .o (.b .o (.z 1 (.j (EN [561,304,2,257] [0,8,16]) .o .o)))))))))))
instance ahk:C3 bD4 Iq:=pg (ak bD4.eq_1 Iq.eq_1) (.z 4 (.j (EN [57,16,9,2,9] [0]) .o (.j (EN [89,2,257] [0]) .o (.z 1 (.j (EN [73,208,2,65] [0]) .o .o)))))
instance H4:C2 bD0 Rg:=pg (ak bD0.eq_1 Rg.eq_1) (.z 2 (.j (EN [33,128,2,233] []) .o .o))
instance z8:C1 bZ2 Tv:=pg (ak (ak bZ2.eq_1 Tv.eq_1) fm.eq_1) (.l (EN [8,49,48,17,2,153] [0,8]) (EN [16,41] [8]) [] (.b .o (.t [4])) .o)
instance ahl:C2 bK4 cw:=pg (ak (ak bK4.eq_1 cw.eq_1) bq.eq_1) (.l (EN [9,16,17,40,19,10,25] [0,8,516]) (EN [32,9,40,11] [8,516]) [0,4,9] (.b (.a [[],[],[],[],[],[],[],[],[],[],[],[],[],[]] (.b .o (.a [[],[],[],[2],[]] (.t [0,4,520])))) (.t [4,8])) .o)
instance ahm:C3 bG3 Jd:=pg (ak bG3.eq_1 Jd.eq_1) (.z 3 (.j (EN [24,33,8,2,81,24,10,1409] [0,8,16,24]) .o (.b .o (.j (EN [24,153,208,2,1201] [0,8,16,24]) .o (.b .o (.j (EN [24,361,232,2,969] [0,8,16,24]) .o (.b .o (.j (EN [24,41,2,545,248,10,721] [0,8,16,24]) .o (.b .o (.j (EN [24,41,2,793,216,10,505] [0,8,16,24]) .o (.b .o (.j (EN [24,41,1288,2,233] [0,8,16,24]) .o .o))))))))))))
instance mW:C2 bC9 Dk:=pg (ak (ak bC9.eq_1 Dk.eq_1) df.eq_1) (.z 2 (.j (EN [33,88,2,145] []) .o (.u (EN [41,2,73] []) [] (.z 2 (.j (EN [49,192,2,25] []) .o .o)))))
end Go.Proofs.Dev
