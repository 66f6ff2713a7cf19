/-
  Contracts of the functions: each answers as its plain partial function says.
-/
import Derived.Test.YtmhfebelfmgckaaGreatDoorQ0
import Derived.Test.YtmhfebelfmgckaaGreatDoorQ1
import Derived.Test.YtmhfebelfmgckaaGreatDoorQ2
import Derived.Test.YtmhfebelfmgckaaGreatDoorQ3
open Option renaming some->M
open And renaming intro->ak
open Go.Proofs.Tryz renaming prog->al
open List renaming length_cons->H!,length_nil->L!,map_cons->F?,map_nil->W?
open Nat renaming reduceAdd->N!
set_option linter.all false
set_option maxHeartbeats 1000000
set_option maxRecDepth 10000
namespace Go.Proofs.Dev
open Go Go.Tm
instance FX:C1 k34 Ui:=pg (ak k34.eq_1 Ui.eq_1) .o
instance CX:C2 k46 Ue:=pg (ak (ak k46.eq_1 Ue.eq_1) Ai.eq_1) (.l (EN [33,8,2,10] []) (EN [40,2] []) [] (.z 2 (.j (EN [41,2,17] []) (.z 1 (.j (EN [65,168,2,249] []) .o (.j (EN [41,2,185] []) .o .o))) .o)) .o)
instance RQ:C1 k88 ah:=pg (ak (ak k88.eq_1 ah.eq_1) (ak Jh.eq_1 (ak Ge.eq_1 (ak bn.eq_1 (ak Fe.eq_1 (ak Ih.eq_1 (ak Ee.eq_1 (ak Lc.eq_1 (ak Wg.eq_1 (ak Mc.eq_1 (ak Kh.eq_1 (ak bX8.eq_1 (ak cc3.eq_1 aK0.eq_1))))))))))))) (.l (EN [8,9,8,11,65,8,17,10,329] [0,516]) (EN [8,9,8,11,65] [0,516]) [0,9] (.l (EN [8,33,64,25,32,17,10,273] [0,258]) (EN [8,33,64,25] [0,258]) [] (.b (.t [0,260]) .o) .o) (.l (EN [24,241,8,17,10,161] [258]) (EN [24,241] [258]) [4] (.l (EN [24,49,200,25,32,17,10,105] [2]) (EN [24,49,200,25] [2]) [] (.b (.t [256]) .o) .o) (.i aK0 25 (EN [11] [1,260]) (.l (EN [24,11,33,10,137] [1,260]) (EN [24,11,17] [1,260]) [0,5] (.z 2 (.j (EN [24,49] [1,258]) (.b (.t [0,260]) .o) .o)) (.t [0,260])) (.c cc3 40 (.i bX8 17 (EN [2] [1,9]) (.l (EN [33,24,9,2,81] [1,9]) (EN [] [1,9]) [] .o .o) (.b (.v .o) (.l (EN [33,8,10,18,9] [1,259]) (EN [9,32,10] [1,259]) [] (.z 2 (.j (EN [41,10,81] [1,259]) .o .o)) (.v .o))))))))
instance uS:C1 aK0 ei:=pg (ak (ak aK0.eq_1 ei.eq_1) Hf.eq_1) (.l (EN [24,3,33,10,137] [260]) (EN [24,3,17] [260]) [5] (.z 2 (.j (EN [24,49] [2]) (.b (.t [256]) .o) .o)) .o)
instance aex:C5 bX0 Qu:=pg (ak (ak bX0.eq_1 Qu.eq_1) Sx.eq_1) (.l (EN [89,8,2,10,601] [0]) (EN [9,72,9,8,2] [0]) [] (.z 2 (.j (EN [97,2,17] [0]) (.z 2 (.j (EN [121,256,2,329] [0,8]) .o (.j (EN [113,520,2,73] [0]) .o .o))) .o)) .o)
instance aey{t0 c10 r}:o! (ib t0 (λx900=>Og x900 c10)=M r) (e? al 311 [fx t0,.fn 312 [] [Hx c10]] (za r)):=⟨λh=>Kp (q1:=[Hx c10]) (IN QK) (λx900 _ hb=>Xz hb) h⟩
instance aez:C2 bV9 bt:=pg (ak bV9.eq_1 bt.eq_1) .o
instance afa:C2 bU3 Dp:=pg (ak (ak bU3.eq_1 Dp.eq_1) (ak Bo.eq_1 (ak Et.eq_1 Ft.eq_1))) (.l (EN [8,25,8,2,10,65] [0]) (EN [40,2] []) [] (.z 2 (.j (EN [8,33,2,105] [0]) (.l (EN [8,33,2,9,8,9,16,9,8,10,41] [0]) (EN [8,33,2,9,32,9] [0]) [] (.z 2 (.j (EN [8,33,2,401] [0]) .o .o)) (.l (EN [8,33,2,65,10,625] [0]) (EN [8,33,2,41] [0]) [] (.z 2 (.j (EN [8,33,2,545] [0]) .o .o)) .o)) .o)) .o)
instance nW:C1 bR0 Jb:=pg (ak (ak bR0.eq_1 Jb.eq_1) (ak dh.eq_1 fh.eq_1)) (.z 2 (.j (EN [17,136,2,193] []) .o (.l (EN [25,2,121] []) (EN [25] []) [] .o (.l (EN [41,2,201] []) (EN [] []) [] .o .o))))
instance afb:C3 bQ3 jw:=pg (ak bQ3.eq_1 jw.eq_1) (.z 2 (.j (EN [49,88,2,33] []) .o .o))
instance TT:C2 bP7 Bn:=pg (ak bP7.eq_1 Bn.eq_1) (.z 2 (.j (EN [16,25,72,2,153] [0,8,16]) .o .o))
def Nv{t0 t1 t2 r} (h:Fg t0 t1 t2=M r):e? al 362 [Ug t0,ql t1,ql t2] (za r):=by
 refine dk 12 bO9 ?_
 simp only[bO9,Kf.of,zs,ze]
 unfold Fg at h
 exact pg trivial (.z 1 (.j (EN [32,2,81] []) .o .o))
instance afc{t0 t1 t2 r}:o! (Fg t0 t1 t2=M r) (e? al 362 [Ug t0,ql t1,ql t2] (za r)):=⟨Nv⟩
instance VO:C2 bO6 jc:=pg (ak bO6.eq_1 jc.eq_1) .o
instance afd:C3 bB8 nu:=pg (ak bB8.eq_1 nu.eq_1) (.z 1 (.j (EN [48,2,129] []) .o .o))
instance wX:C2 k87 Qe:=pg (ak (ak k87.eq_1 Qe.eq_1) (ak Qf.eq_1 Rf.eq_1)) (.l (EN [8,25,8,3,57,10,297] [516]) (EN [40,3,41] [516]) [9] (.z 2 (.j (EN [8,105] [2]) (.z 1 (.j (EN [8,105,88,2,201] [0,8]) .o (.b (.t [256]) .o))) .o)) (.z 3 (.d [] [] (.l (EN [64,3,185,8,17,10,121] [260]) (EN [64,3,185] [260]) [5] (.z 2 (.j (EN [64,225] [2]) (.z 1 (.j (EN [64,225,64,2,49] [0]) .o (.b (.t [256]) .o))) .o)) .o))))
def ZF{t0 t1 r} (h:Qe t0 t1=M r):Ly al 87 [.own 0 0,da t1] [(9,t0.map ue)] (sa r):=by
 refine Ly.of 49 k87 ?_ (by simp[Fr.l])
 simp only[k87,Kf.of,zs,ze,Sz,F?,W?,H!,L!,N!]
 unfold Qe at h
 exact pg (ak Qf.eq_1 Rf.eq_1) (.l (EN [8,25,8,11,57,10,297] [1,516]) (EN [40,11,41] [1,516]) [0,9] (.z 2 (.j (EN [8,105] [1,258]) (.z 1 (.j (EN [8,105,88,2,201] [1,8,16]) .o (.b (.t [0,260]) .o))) .o)) (.z 3 (.d [1] [] (.l (EN [64,11,185,8,17,10,121] [1,260]) (EN [64,11,185] [1,260]) [0,5] (.z 2 (.j (EN [64,225] [1,258]) (.z 1 (.j (EN [64,225,64,2,49] [1,8]) .o (.b (.t [0,260]) .o))) .o)) .o))))
instance afe{t0 t1 r}:T? (Qe t0 t1=M r) (Ly al 87 [.own 0 0,da t1] [(9,t0.map ue)] (sa r)):=⟨ZF⟩
instance aff:C5 cb2 Fp:=pg (ak (ak cb2.eq_1 Fp.eq_1) Ml.eq_1) (.l (EN [8,73,16,11,10,201] [0,772]) (EN [96,3] [772]) [0,13] (.b (.b .o (.t [0,260])) (.t [4])) .o)
instance T4:C3 cb1 uq:=pg (ak (ak cb1.eq_1 uq.eq_1) Rk.eq_1) (.l (EN [8,41,8,11,10,297] [0,260]) (EN [56,3] [260]) [0,5] (.z 1 (.j (EN [8,137,2,217] [0,8]) .o (.b (.j (EN [8,137] [0,258]) (.z 1 (.j (EN [8,65,248,2,41] [0,8]) .o (.b (.t [0,260]) .o))) .o) (.t [4])))) .o)
instance qZ:C2 bW9 Yf:=pg (ak (ak bW9.eq_1 Yf.eq_1) (ak vi.eq_1 (ak ui.eq_1 ti.eq_1))) (.l (EN [16,17,8,2,10,33] [0]) (EN [40,2] []) [] (.l (EN [16,25,2,17,10,41] [0]) (EN [16,25,2,9] [0]) [] (.l (EN [16,25,2,33,10,89] [0]) (EN [16,25,2,25] [0]) [] .o .o) .o) .o)
instance M4:C2 bU7 pq:=pg (ak (ak bU7.eq_1 pq.eq_1) (ak Jk.eq_1 Ik.eq_1)) (.l ⟨[.k 4,.p 3,.i 1,.p 1],[.o 1,.o 2,.h 3 [.g [.p 3,.i 0]]]⟩ (EN [32,9] [8]) [4,8,12] (.l (EN [32,33,2,265] [0,8,16]) (EN [32,33] [0,8,16]) [] .o .o) .o)
instance afg:C3 bT8 By:=pg (ak (ak bT8.eq_1 By.eq_1) Cs.eq_1) (.l (EN [16,9,32,9,2] []) (EN [] []) [] .o .o)
instance afh:C2 bT2 Ms:=pg (ak bT2.eq_1 Ms.eq_1) (.z 2 (.j (EN [32,2] []) .o .o))
instance afi{t0 c10 c11 r}:o! (Gg t0 (λx900=>Fg x900 c10 c11)=M r) (e? al 361 [Pn t0,.fn 362 [] [ql c10,ql c11]] (.tup [sa r.1,sa r.2])):=⟨λh=>VC (q1:=[ql c10,ql c11]) (IN (IN QK)) (λx900 _ hb=>Nv hb) h⟩
instance BY:C3 bR5 Qn:=pg (ak (ak bR5.eq_1 Qn.eq_1) qj.eq_1) (.z 2 (.d [0] [] (.l (EN [24,9,40,17,11,17,56,17,10,129] [0,260]) (EN [72,17,3,17] [260]) [0,5] (.b (.t [0,260]) (.t [4])) .o)))
instance rZ:C2 bQ7 Eo:=pg (ak (ak bQ7.eq_1 Eo.eq_1) (ak Aj.eq_1 Bj.eq_1)) (.l (EN [8,41,2,25] [0,8,16]) (EN [8,41] [0,8,16]) [] (.z 4 (.j ⟨[.k 1,.p 14],[.o 0,.o 1,.o 2,.h 3 [.g [.i 0,.p 3]]]⟩ .o .o)) (.l (EN [8,57,2,905] [0,8,16]) (EN [32,9] [8]) [] (.b (.z 2 (.j ⟨[.k 1,.p 60],[.o 0,.o 1,.o 2,.h 3 [.g [.i 0,.p 3]]]⟩ (.z 1 (.j (EN [8,481,344,2,137] [0,8,16,24]) .o .o)) .o)) (.t [4])) .o))
instance IX:C3 bO7 Rm:=pg (ak (ak bO7.eq_1 Rm.eq_1) Ii.eq_1) (.l (EN [16,33,8,9,10] [8,2]) (EN [56,9] [8,2]) [4,0] (.z 2 (.j (EN [16,129] [0,258]) (.z 1 (.j (EN [16,129,176,2,57] [0,8]) .o .o)) .o)) .o)
instance afj:C3 bD7 vt:=pg (ak (ak bD7.eq_1 vt.eq_1) iq.eq_1) (.l (EN [8,41,16,2,129] [0]) (EN [] []) [] .o .o)
instance qX:C3 k43 fb:=pg (ak (ak k43.eq_1 fb.eq_1) (ak Vh.eq_1 (ak Xh.eq_1 (ak Uh.eq_1 (ak Yh.eq_1 (ak aK1.eq_1 k86.eq_1)))))) (.i k86 35 (EN [27] [1,9,17,260]) (.l (EN [17,8,2,57,10,193] [1,9,17]) (EN [17,8,2,41] [1,9,17]) [] .o (.i aK1 25 (EN [27] [1,9,17,260]) (.z 3 (.j (EN [27] [1,9,17,260]) (.b (.t [0,4,8,268]) (.t [0,4,8,5])) .o)) (.l (EN [48,137,16,17,10,65] [1,9,17,770]) (EN [48,137] [1,9,17,770]) [] (.b (.t [0,4,8,268]) .o) .o))) .o)
def QF{t0 t1 t2 r} (h:fb t0 t1 t2=M r):Ly al 43 [Kv t0,.agg [da t1.Id,da t1.aj,da t1.s,.own 0 0],da t2] [(9,t1.ab.map ue)] (sa r):=by
 refine Ly.of 17 k43 ?_ (by simp[Fr.l])
 simp only[k43,Kf.of,zs,ze,Sz,F?,W?,H!,L!,N!]
 unfold fb at h
 exact pg (ak Vh.eq_1 (ak Xh.eq_1 (ak Uh.eq_1 (ak Yh.eq_1 (ak aK1.eq_1 k86.eq_1))))) (.i k86 35 (EN [35] [1,9,17,25,260]) (.l (EN [17,8,2,57,10,193] [1,9,17,25]) (EN [17,8,2,41] [1,9,17,25]) [] .o (.i aK1 25 (EN [35] [1,9,17,25,260]) (.z 3 (.j (EN [35] [1,9,17,25,260]) (.b (.t [0,4,8,12,272]) (.t [0,4,8,12,5])) .o)) (.l (EN [48,137,16,17,10,65] [1,9,17,25,1026]) (EN [48,137] [1,9,17,25,1026]) [] (.b (.t [0,4,8,12,272]) .o) .o))) .o)
instance afk{t0 t1 t2 r}:T? (fb t0 t1 t2=M r) (Ly al 43 [Kv t0,.agg [da t1.Id,da t1.aj,da t1.s,.own 0 0],da t2] [(9,t1.ab.map ue)] (sa r)):=⟨QF⟩
instance DX:C4 k95 Ti:=pg (ak (ak k95.eq_1 Ti.eq_1) Km.eq_1) (.z 2 (.j (EN [16,57,120,2,481] [0,8,16]) .o (.l ⟨[.k 2,.p 2,.k 1,.p 5,.k 2,.p 2,.k 1,.p 1,.i 1,.p 7],[.o 1,.o 2,.h 3 [.g [.p 2,.s (.own 3 0)]],.ni 1 0]⟩ ⟨[.k 8,.p 2,.k 2,.p 1],[.o 2,.h 3 [.g [.p 2,.s (.own 2 0)]],.ni 1 0]⟩ [4,8,12,5] (.b (.b .o (.t [0,4,8,268])) (.t [4,8,12])) .o)))
instance pZ:C2 bW8 Co:=pg (ak (ak bW8.eq_1 Co.eq_1) (ak si.eq_1 (ak Bm.eq_1 Dm.eq_1))) (.l (EN [16,17,8,9,2,10,65] [0]) (EN [48,2] []) [] (.z 2 (.j (EN [16,33,2,145] [0]) (.l (EN [16,33,2,9,16,9,16,9,10,81] [0]) (EN [16,33,2,9,40,9] [0]) [] .o (.l (EN [16,33,2,65,10,577] [0]) (EN [16,33,2,49] [0]) [] .o .o)) .o)) .o)
instance AR:C1 bW6 gh:=pg (ak (ak bW6.eq_1 gh.eq_1) (ak ud.eq_1 td.eq_1)) (.l (EN [8,9,16,11,289] [0,260]) (EN [32,3,289] [260]) [0,5] (.b (.l (EN [8,33,2] [0,8]) (EN [8,33,2] [0,8]) [] (.z 1 (.j (EN [8,217,2,97] [0,8]) .o .o)) (.b .o (.t [0,260]))) (.t [4])) .o)
def Jy{t0 t1 r} (h:Ze t0 t1=M r):e? al 304 [Lv t0,cC t1] (za r):=by
 refine dk 5 bT3 ?_
 simp only[bT3,Kf.of,zs,ze]
 unfold Ze at h
 exact pg trivial .o
instance afl{t0 t1 r}:o! (Ze t0 t1=M r) (e? al 304 [Lv t0,cC t1] (za r)):=⟨Jy⟩
instance r5:C3 bR4 xq:=pg (ak bR4.eq_1 xq.eq_1) (.z 2 (.j (EN [49,88,2,65] []) .o .o))
instance afm:C3 bG6 Ct:=pg (ak bG6.eq_1 Ct.eq_1) (.z 2 (.j (EN [8,9,8,33,232,2,241] [0,8,16]) .o .o))
end Go.Proofs.Dev
