/-
  Contracts of the functions: each answers as its plain partial function says.
-/
import Derived.Test.YtmhfebelfmgckaaGreatDoorK
import Derived.Test.YtmhfebelfmgckaaGreatDoorG
import Derived.Test.YtmhfebelfmgckaaGreatDoorPE
import Derived.Test.YtmhfebelfmgckaaGreatDoorH1
import Derived.Test.YtmhfebelfmgckaaGreatDoorH2
import Derived.Test.YtmhfebelfmgckaaGreatDoorL1
import Derived.Test.YtmhfebelfmgckaaGreatDoorQ0
import Derived.Test.YtmhfebelfmgckaaGreatDoorQ1
import Derived.Test.YtmhfebelfmgckaaGreatDoorQ2
import Derived.Test.YtmhfebelfmgckaaGreatDoorQ3
open And renaming intro->ak
open Go.Proofs.Tryz renaming prog->al
open List renaming length_cons->bab,length_nil->sab,map_cons->cab,map_nil->Zac
open Nat renaming reduceAdd->Qaa
set_option linter.all false
set_option maxHeartbeats 1000000
set_option maxRecDepth 10000
namespace Go.Proofs.Dev
open Go Go.Tm
instance GS:C2 k46 Uh:=pg (ak (ak k46.eq_1 Uh.eq_1) Eh.eq_1) (.l (EN [33,8,2,10] []) (EN [40,2] []) [] (.z 2 (.j (EN [41,2,17] []) (.z 1 (.j (EN [65,168,2,249] []) .o (.j (EN [41,2,185] []) .o .o))) .o)) .o)
instance OM:C1 k88 wg:=pg (ak (ak k88.eq_1 wg.eq_1) (ak Yg.eq_1 (ak Td.eq_1 (ak Gl.eq_1 (ak Sd.eq_1 (ak Xg.eq_1 (ak Qd.eq_1 (ak qc.eq_1 (ak qg.eq_1 (ak tc.eq_1 (ak Zg.eq_1 (ak k230.eq_1 (ak k168.eq_1 k167.eq_1))))))))))))) (.l (EN [8,9,8,11,65,8,17,10,329] [0,516]) (EN [8,9,8,11,65] [0,516]) [0,9] (.l (EN [8,33,64,25,32,17,10,273] [0,258]) (EN [8,33,64,25] [0,258]) [] (.b (.t [0,260]) .o) .o) (.l (EN [24,241,8,17,10,161] [258]) (EN [24,241] [258]) [4] (.l (EN [24,49,200,25,32,17,10,105] [2]) (EN [24,49,200,25] [2]) [] (.b (.t [256]) .o) .o) (.i k167 25 (EN [11] [1,260]) (.l (EN [24,11,33,10,137] [1,260]) (EN [24,11,17] [1,260]) [0,5] (.z 2 (.j (EN [24,49] [1,258]) (.b (.t [0,260]) .o) .o)) (.t [0,260])) (.c k168 40 (.i k230 17 (EN [2] [1,9]) (.l (EN [33,24,9,2,81] [1,9]) (EN [] [1,9]) [] .o .o) (.b (.v .o) (.l (EN [33,8,10,18,9] [1,259]) (EN [9,32,10] [1,259]) [] (.z 2 (.j (EN [41,10,81] [1,259]) .o .o)) (.v .o))))))))
instance jO:C1 k167 sh:=pg (ak (ak k167.eq_1 sh.eq_1) Ve.eq_1) (.l (EN [24,3,33,10,137] [260]) (EN [24,3,17] [260]) [5] (.z 2 (.j (EN [24,49] [2]) (.b (.t [256]) .o) .o)) .o)
instance ref34_AsOf_C:C5 k247 Bs:=pg (ak (ak k247.eq_1 Bs.eq_1) sv.eq_1) (.l (EN [89,8,2,10,601] [0]) (EN [9,72,9,8,2] [0]) [] (.z 2 (.j (EN [97,2,17] [0]) (.z 2 (.j (EN [121,256,2,329] [0,8]) .o (.j (EN [113,520,2,73] [0]) .o .o))) .o)) .o)
instance zI311{t0 c10 r}:Con (Xa t0 (λx900=>fg x900 c10)=some r) (Den al 311 [Iu t0,.fn 312 [] [Zu c10]] (za r)):=⟨λh=>On (q1:=[Zu c10]) (WJ DH) (λx900 _ hb=>ox hb) h⟩
instance I6:C2 k266 Hq:=pg (ak k266.eq_1 Hq.eq_1) .o
instance l9:C2 k288 Hn:=pg (ak (ak k288.eq_1 Hn.eq_1) (ak Pm.eq_1 (ak Rq.eq_1 Tq.eq_1))) (.l (EN [8,25,8,2,10,65] [0]) (EN [40,2] []) [] (.z 2 (.j (EN [8,33,2,105] [0]) (.l (EN [8,33,2,9,8,9,16,9,8,10,41] [0]) (EN [8,33,2,9,32,9] [0]) [] (.z 2 (.j (EN [8,33,2,401] [0]) .o .o)) (.l (EN [8,33,2,65,10,625] [0]) (EN [8,33,2,41] [0]) [] (.z 2 (.j (EN [8,33,2,545] [0]) .o .o)) .o)) .o)) .o)
instance sR:C1 k330 yb:=pg (ak (ak k330.eq_1 yb.eq_1) (ak Ag.eq_1 Bg.eq_1)) (.z 2 (.j (EN [17,136,2,193] []) .o (.l (EN [25,2,121] []) (EN [25] []) [] .o (.l (EN [41,2,201] []) (EN [] []) [] .o .o))))
instance K8:C1 k338 Mw:=pg (ak k338.eq_1 Mw.eq_1) .o
instance qP:C2 k346 Wl:=pg (ak k346.eq_1 Wl.eq_1) (.z 2 (.j (EN [16,25,72,2,153] [0,8,16]) .o .o))
theorem Bt{t0 t1 t2 r} (h:Uf t0 t1 t2=some r):Den al 362 [mg t0,Lj t1,Lj t2] (za r):=by
 refine dk 12 k362 ?_
 simp only[k362,Kf.of,zs,ze]
 unfold Uf at h
 exact pg trivial (.z 1 (.j (EN [32,2,81] []) .o .o))
instance zI362{t0 t1 t2 r}:Con (Uf t0 t1 t2=some r) (Den al 362 [mg t0,Lj t1,Lj t2] (za r)):=⟨Bt⟩
instance cL:C2 k365 Ob:=pg (ak k365.eq_1 Ob.eq_1) .o
instance Z0:C3 k499 Ar:=pg (ak k499.eq_1 Ar.eq_1) (.z 1 (.j (EN [48,2,129] []) .o .o))
instance zS:C2 k87 ee:=pg (ak (ak k87.eq_1 ee.eq_1) (ak bf.eq_1 df.eq_1)) (.l (EN [8,25,8,3,57,10,297] [516]) (EN [40,3,41] [516]) [9] (.z 2 (.j (EN [8,105] [2]) (.z 1 (.j (EN [8,105,88,2,201] [0,8]) .o (.b (.t [256]) .o))) .o)) (.z 3 (.d [] [] (.l (EN [64,3,185,8,17,10,121] [260]) (EN [64,3,185] [260]) [5] (.z 2 (.j (EN [64,225] [2]) (.z 1 (.j (EN [64,225,64,2,49] [0]) .o (.b (.t [256]) .o))) .o)) .o))))
theorem ZC{t0 t1 r} (h:ee t0 t1=some r):NL al 87 [.own 0 0,da t1] [(9,t0.map jt)] (qa r):=by
 refine NL.of 49 k87 ?_ (by simp[Fr.l])
 simp only[k87,Kf.of,zs,ze,oA,cab,Zac,bab,sab,Qaa]
 unfold ee at h
 exact pg (ak bf.eq_1 df.eq_1) (.l (EN [8,25,8,11,57,10,297] [1,516]) (EN [40,11,41] [1,516]) [0,9] (.z 2 (.j (EN [8,105] [1,258]) (.z 1 (.j (EN [8,105,88,2,201] [1,8,16]) .o (.b (.t [0,260]) .o))) .o)) (.z 3 (.d [1] [] (.l (EN [64,11,185,8,17,10,121] [1,260]) (EN [64,11,185] [1,260]) [0,5] (.z 2 (.j (EN [64,225] [1,258]) (.z 1 (.j (EN [64,225,64,2,49] [1,8]) .o (.b (.t [0,260]) .o))) .o)) .o))))
instance zI87{t0 t1 r}:Con2 (ee t0 t1=some r) (NL al 87 [.own 0 0,da t1] [(9,t0.map jt)] (qa r)):=⟨ZC⟩
instance r9:C5 k181 Kn:=pg (ak (ak k181.eq_1 Kn.eq_1) Zj.eq_1) (.l (EN [8,73,16,11,10,201] [0,772]) (EN [96,3] [772]) [0,13] (.b (.b .o (.t [0,260])) (.t [4])) .o)
instance LW:C3 k182 wo:=pg (ak (ak k182.eq_1 wo.eq_1) Aj.eq_1) (.l (EN [8,41,8,11,10,297] [0,260]) (EN [56,3] [260]) [0,5] (.z 1 (.j (EN [8,137,2,217] [0,8]) .o (.b (.j (EN [8,137] [0,258]) (.z 1 (.j (EN [8,65,248,2,41] [0,8]) .o (.b (.t [0,260]) .o))) .o) (.t [4])))) .o)
instance xU:C2 k248 qf:=pg (ak (ak k248.eq_1 qf.eq_1) (ak Bh.eq_1 (ak Ah.eq_1 zh.eq_1))) (.l (EN [16,17,8,2,10,33] [0]) (EN [40,2] []) [] (.l (EN [16,25,2,17,10,41] [0]) (EN [16,25,2,9] [0]) [] (.l (EN [16,25,2,33,10,89] [0]) (EN [16,25,2,25] [0]) [] .o .o) .o) .o)
instance FW:C2 k284 qo:=pg (ak (ak k284.eq_1 qo.eq_1) (ak sj.eq_1 rj.eq_1)) (.l ⟨[.k 4,.p 3,.i 1,.p 1],[.o 1,.o 2,.h 3 [.g [.p 3,.i 0]]]⟩ (EN [32,9] [8]) [4,8,12] (.l (EN [32,33,2,265] [0,8,16]) (EN [32,33] [0,8,16]) [] .o .o) .o)
instance ref16_ready_C:C3 k293 Vv:=pg (ak (ak k293.eq_1 Vv.eq_1) aq.eq_1) (.l (EN [16,9,32,9,2] []) (EN [] []) [] .o .o)
instance RZ:C2 k305 qq:=pg (ak k305.eq_1 qq.eq_1) (.z 2 (.j (EN [32,2] []) .o .o))
instance zI361{t0 c10 c11 r}:Con (Vf t0 (λx900=>Uf x900 c10 c11)=some r) (Den al 361 [km t0,.fn 362 [] [Lj c10,Lj c11]] (.tup [qa r.1,qa r.2])):=⟨λh=>nA (q1:=[Lj c10,Lj c11]) (WJ (WJ DH)) (λx900 _ hb=>Bt hb) h⟩
instance QT:C3 k324 om:=pg (ak (ak k324.eq_1 om.eq_1) si.eq_1) (.z 2 (.d [0] [] (.l (EN [24,9,40,17,11,17,56,17,10,129] [0,260]) (EN [72,17,3,17] [260]) [0,5] (.b (.t [0,260]) (.t [4])) .o)))
instance yU:C2 k333 Rm:=pg (ak (ak k333.eq_1 Rm.eq_1) (ak Ai.eq_1 Di.eq_1)) (.l (EN [8,41,2,25] [0,8,16]) (EN [8,41] [0,8,16]) [] (.z 4 (.j ⟨[.k 1,.p 14],[.o 0,.o 1,.o 2,.h 3 [.g [.i 0,.p 3]]]⟩ .o .o)) (.l (EN [8,57,2,905] [0,8,16]) (EN [32,9] [8]) [] (.b (.z 2 (.j ⟨[.k 1,.p 60],[.o 0,.o 1,.o 2,.h 3 [.g [.i 0,.p 3]]]⟩ (.z 1 (.j (EN [8,481,344,2,137] [0,8,16,24]) .o .o)) .o)) (.t [4])) .o))
instance MS:C3 k364 Al:=pg (ak (ak k364.eq_1 Al.eq_1) Ih.eq_1) (.l (EN [16,33,8,9,10] [8,2]) (EN [56,9] [8,2]) [4,0] (.z 2 (.j (EN [16,129] [0,258]) (.z 1 (.j (EN [16,129,176,2,57] [0,8]) .o .o)) .o)) .o)
instance P8:C3 k476 Nq:=pg (ak (ak k476.eq_1 Nq.eq_1) fo.eq_1) (.l (EN [8,41,16,2,129] [0]) (EN [] []) [] .o .o)
instance rS:C3 k43 vb:=pg (ak (ak k43.eq_1 vb.eq_1) (ak nh.eq_1 (ak oh.eq_1 (ak mh.eq_1 (ak ph.eq_1 (ak k165.eq_1 k86.eq_1)))))) (.i k86 35 (EN [27] [1,9,17,260]) (.l (EN [17,8,2,57,10,193] [1,9,17]) (EN [17,8,2,41] [1,9,17]) [] .o (.i k165 25 (EN [27] [1,9,17,260]) (.z 3 (.j (EN [27] [1,9,17,260]) (.b (.t [0,4,8,268]) (.t [0,4,8,5])) .o)) (.l (EN [48,137,16,17,10,65] [1,9,17,770]) (EN [48,137] [1,9,17,770]) [] (.b (.t [0,4,8,268]) .o) .o))) .o)
theorem RC{t0 t1 t2 r} (h:vb t0 t1 t2=some r):NL al 43 [mA t0,.agg [da t1.Id,da t1.ah,da t1.r,.own 0 0],da t2] [(9,t1.aa.map jt)] (qa r):=by
 refine NL.of 17 k43 ?_ (by simp[Fr.l])
 simp only[k43,Kf.of,zs,ze,oA,cab,Zac,bab,sab,Qaa]
 unfold vb at h
 exact pg (ak nh.eq_1 (ak oh.eq_1 (ak mh.eq_1 (ak ph.eq_1 (ak k165.eq_1 k86.eq_1))))) (.i k86 35 (EN [35] [1,9,17,25,260]) (.l (EN [17,8,2,57,10,193] [1,9,17,25]) (EN [17,8,2,41] [1,9,17,25]) [] .o (.i k165 25 (EN [35] [1,9,17,25,260]) (.z 3 (.j (EN [35] [1,9,17,25,260]) (.b (.t [0,4,8,12,272]) (.t [0,4,8,12,5])) .o)) (.l (EN [48,137,16,17,10,65] [1,9,17,25,1026]) (EN [48,137] [1,9,17,25,1026]) [] (.b (.t [0,4,8,12,272]) .o) .o))) .o)
instance zI43{t0 t1 t2 r}:Con2 (vb t0 t1 t2=some r) (NL al 43 [mA t0,.agg [da t1.Id,da t1.ah,da t1.r,.own 0 0],da t2] [(9,t1.aa.map jt)] (qa r)):=⟨RC⟩
instance HS:C4 k95 Vh:=pg (ak (ak k95.eq_1 Vh.eq_1) bl.eq_1) (.z 2 (.j (EN [16,57,120,2,481] [0,8,16]) .o (.l ⟨[.k 2,.p 2,.k 1,.p 5,.k 2,.p 2,.k 1,.p 1,.i 1,.p 7],[.o 1,.o 2,.h 3 [.g [.p 2,.s (.own 3 0)]],.ni 1 0]⟩ ⟨[.k 8,.p 2,.k 2,.p 1],[.o 2,.h 3 [.g [.p 2,.s (.own 2 0)]],.ni 1 0]⟩ [4,8,12,5] (.b (.b .o (.t [0,4,8,268])) (.t [4,8,12])) .o)))
instance wU:C2 k249 Qm:=pg (ak (ak k249.eq_1 Qm.eq_1) (ak xh.eq_1 (ak Sk.eq_1 Tk.eq_1))) (.l (EN [16,17,8,9,2,10,65] [0]) (EN [48,2] []) [] (.z 2 (.j (EN [16,33,2,145] [0]) (.l (EN [16,33,2,9,16,9,16,9,10,81] [0]) (EN [16,33,2,9,40,9] [0]) [] .o (.l (EN [16,33,2,65,10,577] [0]) (EN [16,33,2,49] [0]) [] .o .o)) .o)) .o)
instance BN:C1 k251 Cg:=pg (ak (ak k251.eq_1 Cg.eq_1) (ak Qc.eq_1 Pc.eq_1)) (.l (EN [8,9,16,11,289] [0,260]) (EN [32,3,289] [260]) [0,5] (.b (.l (EN [8,33,2] [0,8]) (EN [8,33,2] [0,8]) [] (.z 1 (.j (EN [8,217,2,97] [0,8]) .o .o)) (.b .o (.t [0,260]))) (.t [4])) .o)
theorem cw{t0 t1 r} (h:qe t0 t1=some r):Den al 304 [tt t0,Bz t1] (za r):=by
 refine dk 5 k304 ?_
 simp only[k304,Kf.of,zs,ze]
 unfold qe at h
 exact pg trivial .o
instance zI304{t0 t1 r}:Con (qe t0 t1=some r) (Den al 304 [tt t0,Bz t1] (za r)):=⟨cw⟩
instance SW:C3 k325 Ao:=pg (ak k325.eq_1 Ao.eq_1) (.z 2 (.j (EN [49,88,2,65] []) .o .o))
instance U8:C3 k446 Pq:=pg (ak k446.eq_1 Pq.eq_1) (.z 2 (.j (EN [8,9,8,33,232,2,241] [0,8,16]) .o .o))
end Go.Proofs.Dev
