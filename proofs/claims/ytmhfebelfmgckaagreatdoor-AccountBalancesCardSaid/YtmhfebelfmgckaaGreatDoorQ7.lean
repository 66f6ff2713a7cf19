/-
  Contracts of the functions: each answers as its plain partial function says.
-/
import Derived.Test.YtmhfebelfmgckaaGreatDoorQ0
import Derived.Test.YtmhfebelfmgckaaGreatDoorQ1
import Derived.Test.YtmhfebelfmgckaaGreatDoorQ2
import Derived.Test.YtmhfebelfmgckaaGreatDoorQ3
open Option renaming some->M
open And renaming intro->ak
open Go.Proofs.Tryz renaming prog->al
set_option linter.all false
set_option maxHeartbeats 1000000
set_option maxRecDepth 10000
namespace Go.Proofs.Dev
open Go Go.Tm
instance agt:C2 k55 Ty:=pg (ak (ak k55.eq_1 Ty.eq_1) Ew.eq_1) (.l (EN [33,8,3,10,297] [772]) (EN [40,3] [772]) [13] (.z 2 (.j (EN [73] [2]) (.t [256]) .o)) .o)
instance agu:C5 bX9 Yu:=pg (ak (ak bX9.eq_1 Yu.eq_1) iy.eq_1) (.l (EN [89,8,2,10,601] [0]) (EN [9,72,9,8,2] [0]) [] (.z 2 (.j (EN [97,2,17] [0]) (.z 2 (.j (EN [121,256,2,329] [0,8]) .o (.j (EN [113,520,2,73] [0]) .o .o))) .o)) .o)
instance agv:C2 bV0 Np:=pg (ak (ak bV0.eq_1 Np.eq_1) (ak Io.eq_1 (ak Lt.eq_1 Mt.eq_1))) (.l (EN [8,25,8,2,10,65] [0]) (EN [40,2] []) [] (.z 2 (.j (EN [8,33,2,105] [0]) (.l (EN [8,33,2,9,8,9,16,9,8,10,41] [0]) (EN [8,33,2,9,32,9] [0]) [] (.z 2 (.j (EN [8,33,2,401] [0]) .o .o)) (.l (EN [8,33,2,65,10,625] [0]) (EN [8,33,2,41] [0]) [] (.z 2 (.j (EN [8,33,2,545] [0]) .o .o)) .o)) .o)) .o)
instance PW:C1 bR6 Mb:=pg (ak (ak bR6.eq_1 Mb.eq_1) (ak ph.eq_1 qh.eq_1)) (.z 2 (.j (EN [17,136,2,193] []) .o (.l (EN [25,2,121] []) (EN [25] []) [] .o (.l (EN [41,2,201] []) (EN [] []) [] .o .o))))
instance agw:C3 bQ4 Ky:=pg (ak bQ4.eq_1 Ky.eq_1) .o
def Sv{t0 t1 t2 r} (h:Ig t0 t1 t2=M r):e? al 362 [Yg t0,El t1,El t2] (za r):=by
 refine dk 12 bP4 ?_
 simp only[bP4,Kf.of,zs,ze]
 unfold Ig at h
 exact pg trivial (.z 1 (.j (EN [32,2,81] []) .o .o))
instance agx{t0 t1 t2 r}:o! (Ig t0 t1 t2=M r) (e? al 362 [Yg t0,El t1,El t2] (za r)):=⟨Sv⟩
instance T9:C2 bN2 ts:=pg (ak (ak bN2.eq_1 ts.eq_1) fw.eq_1) (.z 3 (.j (EN [33,8,9,184,2,209] []) .o (.l (EN [40,25,8,9,10,18,137] [2]) (EN [72,9] [2]) [] .o .o)))
instance jZ:C2 bI7 Rf:=pg (ak (ak bI7.eq_1 Rf.eq_1) Bd.eq_1) (.z 3 (.j ⟨[.k 2,.p 3,.k 1,.p 5],[.o 0,.o 1,.o 2,.o 3,.h 4 [.g [.p 2,.i 0]]]⟩ .o (.z 1 (.j (EN [16,257,2,625] [0,8,16,24,32]) .o (.l ⟨[.k 2,.p 1,.k 1,.p 30,.k 3,.p 2,.i 3,.p 73],[.o 0,.o 2,.o 3,.h 4 [.g [.i 0,.i 1,.i 2]]]⟩ ⟨[.k 4,.p 2,.k 1,.p 27],[.o 2,.h 4 [.g [.i 0,.i 1,.i 2]]]⟩ [0,8,12,16] (.b (.e ⟨[.k 2,.p 38],[.o 0,.o 1,.o 2,.h 3 [.g [.i 0,.i 1,.i 2]]]⟩ (.z 2 (.j (EN [16,305,136,2,441] [0,8,16,24]) .o (.z 8 (.j (EN [16,49,16,377,416,2,25] [0,8,16,24,32]) .o .o)))) .o) (.t [4,12])) .o)))))
instance agy:C2 bH7 TC:=pg (ak bH7.eq_1 TC.eq_1) (.z 1 (.j (EN [32,2,129] []) .o .o))
instance agz:C2 bH5 Tc:=pg (ak bH5.eq_1 Tc.eq_1) .o
def HA{t0 t1 t2 r} (h:Wg t0 t1 t2=M r):e? al 461 [Qv t0,El t1,El t2] (za r):=by
 refine dk 18 bF7 ?_
 simp only[bF7,Kf.of,zs,ze]
 unfold Wg at h
 exact pg trivial (.z 1 (.j (EN [32,2,129] []) .o .o))
instance aha{t0 t1 t2 r}:o! (Wg t0 t1 t2=M r) (e? al 461 [Qv t0,El t1,El t2] (za r)):=⟨HA⟩
instance ahb:C3 bF5 Us:=pg (ak bF5.eq_1 Us.eq_1) (.z 4 (.j (EN [49,136,2,289] []) .o (.z 1 (.j (EN [65,2,113] []) .o (.z 5 (.j (EN [88,201,176,2,9] []) .o .o))))))
instance ahc:C2 bE8 yb:=pg (ak bE8.eq_1 yb.eq_1) (.z 3 (.j (EN [16,17,32,9,2,417] [0,8]) .o (.b (.z 1 (.j (EN [32,2] []) .o .o)) (.j (EN [16,9,40,9,200,2,217] [0]) .o (.b (.j (EN [32,2,25] []) .o .o) (.b (.j (EN [32,2,25] []) .o .o) .o))))))
instance ahd:C2 bE6 tn:=pg (ak bE6.eq_1 tn.eq_1) (.z 2 (.j ⟨[.k 2,.p 3,.k 1,.p 2],[.o 0,.o 1,.o 2,.h 3 [.g [.i 0,.i 1]]]⟩ (.z 6 (.j (EN [16,25,8,17,272,2,385] [0,8,16,24]) .o .o)) (.z 1 (.j (EN [32,25,2,361] [16,24]) (.b (.t [8,12]) (.j (EN [32,393,40,9,104,2,145] [16,24]) (.t [8,12]) .o)) .o))))
instance ahe{t0 t1 t2 r}:o! (Ip t0 t1 t2=M r) (e? al 474 [da t0,Zg t1,Zg t2] (.tup [Zg r.1,za r.2])):=⟨λh=>by
 refine dk 105 bE4 ?_
 simp only[bE4,Kf.of,zs,ze]
 unfold Ip at h
 exact pg trivial (.z 3 (.j (EN [9,24,25,8,9,2,785] [0,8,16]) .o (.b (.j ⟨[.k 6,.p 1,.i 0],[.h 2 [.g [.s (da t1.a),.s (da t1.g)]]]⟩ (.a [[],[],[],[],[],[],[],[],[],[]] (.t [8])) .o) (.j (EN [73,96,2,689] [0,8,16]) .o (.b .o (.b (.j ⟨[.k 6,.p 1,.i 0],[.h 2 [.g [.s (da t1.a),.s (da t1.g)]]]⟩ (.a [[],[],[],[],[],[],[],[],[],[6]] (.t [8])) .o) (.j (EN [32,137,184,2,505] [0,8,16]) .o (.b (.j ⟨[.k 6,.p 1,.i 0],[.h 2 [.g [.s (da t1.a),.s (da t1.g)]]]⟩ (.a [[],[],[],[],[],[],[],[],[],[]] (.t [8])) .o) (.j (EN [32,321,96,2,409] [0,8,16]) .o (.b (.a [[],[],[],[],[1,2]] .o) (.j (EN [32,417,56,2,353] [0,8,16]) .o (.b (.j ⟨[.k 6,.p 1,.i 2],[.h 2 [.g [.i 0,.i 1]]]⟩ (.a [[],[],[],[],[],[],[],[],[],[]] (.t [8])) .o) (.j (EN [32,473,96,2,257] [0,8,16]) .o (.b (.j ⟨[.k 6,.p 1,.i 0],[.h 2 [.g [.s (da t1.a),.s (da t1.g)]]]⟩ (.a [[],[],[],[],[],[],[],[],[],[6]] (.t [8])) .o) (.j (EN [32,33,632,2,161] [0,8,16]) .o (.b (.j ⟨[.k 6,.p 1,.i 0,.p 79],[.h 2 [.g [.s (da t1.a),.s (da t1.g)]]]⟩ (.a [[],[],[],[],[],[],[],[],[],[6]] (.t [8])) .o) (.j ⟨[.k 6,.p 1,.i 2,.p 79],[.h 2 [.g [.i 0,.i 1]]]⟩ (.a [[],[],[],[],[],[],[],[],[],[6]] (.t [8])) .o)))))))))))))))))⟩
instance ahf:C5 cc4 Qp:=pg (ak (ak cc4.eq_1 Qp.eq_1) Tl.eq_1) (.l (EN [8,73,16,11,10,201] [0,772]) (EN [96,3] [772]) [0,13] (.b (.b .o (.t [0,260])) (.t [4])) .o)
instance H5:C3 cc3 Dq:=pg (ak (ak cc3.eq_1 Dq.eq_1) Xk.eq_1) (.l (EN [8,41,8,11,10,297] [0,260]) (EN [56,3] [260]) [0,5] (.z 1 (.j (EN [8,137,2,217] [0,8]) .o (.b (.j (EN [8,137] [0,258]) (.z 1 (.j (EN [8,65,248,2,41] [0,8]) .o (.b (.t [0,260]) .o))) .o) (.t [4])))) .o)
instance PZ:C2 bX8 Zf:=pg (ak (ak bX8.eq_1 Zf.eq_1) (ak Ki.eq_1 (ak Ji.eq_1 Ii.eq_1))) (.l (EN [16,17,8,2,10,33] [0]) (EN [40,2] []) [] (.l (EN [16,25,2,17,10,41] [0]) (EN [16,25,2,9] [0]) [] (.l (EN [16,25,2,33,10,89] [0]) (EN [16,25,2,25] [0]) [] .o .o) .o) .o)
instance y5:C2 bV4 yq:=pg (ak (ak bV4.eq_1 yq.eq_1) (ak Rk.eq_1 Qk.eq_1)) (.l ⟨[.k 4,.p 3,.i 1,.p 1],[.o 1,.o 2,.h 3 [.g [.p 3,.i 0]]]⟩ (EN [32,9] [8]) [4,8,12] (.l (EN [32,33,2,265] [0,8,16]) (EN [32,33] [0,8,16]) [] .o .o) .o)
instance ahg:C3 bU5 Qy:=pg (ak (ak bU5.eq_1 Qy.eq_1) Is.eq_1) (.l (EN [16,9,32,9,2] []) (EN [] []) [] .o .o)
instance ahh{t0 c10 c11 r}:o! (Jg t0 (λx900=>Ig x900 c10 c11)=M r) (e? al 361 [Vn t0,.fn 362 [] [El c10,El c11]] (.tup [qa r.1,qa r.2])):=⟨λh=>xD (q1:=[El c10,El c11]) (jM (jM PJ)) (λx900 _ hb=>Sv hb) h⟩
instance dZ:C3 bS5 Wn:=pg (ak (ak bS5.eq_1 Wn.eq_1) zj.eq_1) (.z 2 (.d [0] [] (.l (EN [24,9,40,17,11,17,56,17,10,129] [0,260]) (EN [72,17,3,17] [260]) [0,5] (.b (.t [0,260]) (.t [4])) .o)))
instance QZ:C2 bR3 Ko:=pg (ak (ak bR3.eq_1 Ko.eq_1) (ak Fj.eq_1 Gj.eq_1)) (.l (EN [8,41,2,25] [0,8,16]) (EN [8,41] [0,8,16]) [] (.z 4 (.j ⟨[.k 1,.p 14],[.o 0,.o 1,.o 2,.h 3 [.g [.i 0,.p 3]]]⟩ .o .o)) (.l (EN [8,57,2,905] [0,8,16]) (EN [32,9] [8]) [] (.b (.z 2 (.j ⟨[.k 1,.p 60],[.o 0,.o 1,.o 2,.h 3 [.g [.i 0,.p 3]]]⟩ (.z 1 (.j (EN [8,481,344,2,137] [0,8,16,24]) .o .o)) .o)) (.t [4])) .o))
instance ahi:C2 bK1 Qq:=pg (ak (ak bK1.eq_1 Qq.eq_1) Kt.eq_1) (.z 5 (.j (EN [16,25,8,9,2,33] [0,8,16,24]) .o (.l (EN [16,41,2,10,745] [0,8,16,24]) (EN [16,41,2] [0,8,16,24]) [] (.z 5 (.j (EN [16,201,200,2,393] [0,8,16,24]) .o .o)) (.z 1 (.j (EN [32,721,2,57] [16,24]) (.t [8,12]) .o)))))
instance ahj:C2 bK0 ig:=pg (ak bK0.eq_1 ig.eq_1) .o
instance ahk{t0 c10 c11 r}:o! (Bc t0 (λx900=>Wg x900 c10 c11)=M r) (e? al 303 [SE t0,.fn 461 [] [El c10,El c11]] (.tup [da r.1,za r.2])):=⟨λh=>Lw (q1:=[El c10,El c11]) (jM (jM PJ)) (λx900 _ hb=>HA hb) h⟩
instance ahl:C3 bI6 Kw:=pg (ak bI6.eq_1 Kw.eq_1) .o
instance ahm:C4 bI5 xl:=pg (ak (ak bI5.eq_1 xl.eq_1) Gg.eq_1) (.z 2 (.j (EN [8,57,128,2,521] [0]) .o (.z 1 (.j (EN [8,185,80,2,441] [0]) .o (.z 1 (.j (EN [8,265,48,2,393] [0]) .o (.l (EN [8,25,48,2,10,225,16,17,18,361] []) (EN [24,9,48,2,10,225] []) [] (.z 2 (.e (EN [8,73,2,10,265] []) (.z 3 (.j (EN [8,353,152,2,201] [0]) .o .o)) .o)) .o)))))))
instance ahn:C3 bI2 gb:=pg (ak bI2.eq_1 gb.eq_1) (.z 2 (.j (EN [8,9,8,33,88,2,545] [0,8,16]) .o (.z 6 (.j ⟨[.k 6,.p 3,.i 2,.p 8],[.o 2,.h 3 [.g [.i 0,.i 1]]]⟩ (.b (.t [8,12]) (.b (.a [[],[],[],[],[],[],[],[],[],[]] (.t [8,12])) (.b (.a [[],[],[],[],[],[],[],[],[],[],[],[],[]] (.t [8,12])) (.t [8,12])))) .o))))
instance aho:C3 bG9 Pk:=pg (ak bG9.eq_1 Pk.eq_1) .o
instance X9:C3 bG6 kd:=pg (ak bG6.eq_1 kd.eq_1) (.z 2 (.j (EN [9,24,25,96,2,969] [0,8,16]) .o (.b .o (.b .o (.b .o (.j (EN [153,16,9,160,2,785] [0,8,16]) .o (.b (.b .o (.j ⟨[.k 6,.p 1,.i 3,.p 13],[.h 2 [.g [.i 0,.i 1,.i 2]]]⟩ (.t [8]) .o)) (.j (EN [169,392,2,561] [0,8,16]) .o (.b .o (.z 1 (.j (EN [561,304,2,257] [0,8,16]) .o .o)))))))))))
instance ahp:C3 bD9 Rq:=pg (ak bD9.eq_1 Rq.eq_1) (.z 4 (.j (EN [57,16,9,2,9] [0]) .o (.j (EN [89,2,257] [0]) .o (.z 1 (.j (EN [73,208,2,65] [0]) .o .o)))))
instance iY:C4 k95 cj:=pg (ak (ak k95.eq_1 cj.eq_1) Qm.eq_1) (.z 2 (.j (EN [16,57,120,2,481] [0,8,16]) .o (.l ⟨[.k 2,.p 2,.k 1,.p 5,.k 2,.p 2,.k 1,.p 1,.i 1,.p 7],[.o 1,.o 2,.h 3 [.g [.p 2,.s (.own 3 0)]],.ni 1 0]⟩ ⟨[.k 8,.p 2,.k 2,.p 1],[.o 2,.h 3 [.g [.p 2,.s (.own 2 0)]],.ni 1 0]⟩ [4,8,12,5] (.b (.b .o (.t [0,4,8,268])) (.t [4,8,12])) .o)))
instance OZ:C2 bX7 Jo:=pg (ak (ak bX7.eq_1 Jo.eq_1) (ak Gi.eq_1 (ak Hm.eq_1 Im.eq_1))) (.l (EN [16,17,8,9,2,10,65] [0]) (EN [48,2] []) [] (.z 2 (.j (EN [16,33,2,145] [0]) (.l (EN [16,33,2,9,16,9,16,9,10,81] [0]) (EN [16,33,2,9,40,9] [0]) [] .o (.l (EN [16,33,2,65,10,577] [0]) (EN [16,33,2,49] [0]) [] .o .o)) .o)) .o)
instance oS:C1 bX5 rh:=pg (ak (ak bX5.eq_1 rh.eq_1) (ak xd.eq_1 vd.eq_1)) (.l (EN [8,9,16,11,289] [0,260]) (EN [32,3,289] [260]) [0,5] (.b (.l (EN [8,33,2] [0,8]) (EN [8,33,2] [0,8]) [] (.z 1 (.j (EN [8,217,2,97] [0,8]) .o .o)) (.b .o (.t [0,260]))) (.t [4])) .o)
instance ahq:C2 bK9 gw:=pg (ak (ak bK9.eq_1 gw.eq_1) qq.eq_1) (.l (EN [9,16,17,40,19,10,25] [0,8,516]) (EN [32,9,40,11] [8,516]) [0,4,9] (.b (.a [[],[],[],[],[],[],[],[],[],[],[],[],[],[]] (.b .o (.a [[],[],[],[2],[]] (.t [0,4,520])))) (.t [4,8])) .o)
instance ahr:C3 bG8 Nd:=pg (ak bG8.eq_1 Nd.eq_1) (.z 3 (.j (EN [24,33,8,2,81,24,10,1409] [0,8,16,24]) .o (.b .o (.j (EN [24,153,208,2,1201] [0,8,16,24]) .o (.b .o (.j (EN [24,361,232,2,969] [0,8,16,24]) .o (.b .o (.j (EN [24,41,2,545,248,10,721] [0,8,16,24]) .o (.b .o (.j (EN [24,41,2,793,216,10,505] [0,8,16,24]) .o (.b .o (.j (EN [24,41,1288,2,233] [0,8,16,24]) .o .o))))))))))))
end Go.Proofs.Dev
