/-
  Contracts of the functions: each answers as its plain partial function says.
-/
import Derived.Test.YtmhfebelfmgckaaGreatDoorQ0
import Derived.Test.YtmhfebelfmgckaaGreatDoorQ1
import Derived.Test.YtmhfebelfmgckaaGreatDoorQ2
import Derived.Test.YtmhfebelfmgckaaGreatDoorQ3
open Option renaming some->M
open And renaming intro->ak
open Go.Proofs.Tryz renaming prog->al
open List renaming length_cons->G!,length_nil->M!,map_cons->D?,map_nil->R?
open Nat renaming reduceAdd->M?
set_option linter.all false
set_option maxHeartbeats 1000000
set_option maxRecDepth 10000
namespace Go.Proofs.Dev
open Go Go.Tm
instance afb:C2 k54 BF:=pg (ak (ak k54.eq_1 BF.eq_1) Sy.eq_1) (.l (EN [33,8,9,10,9] [2]) (EN [40,9] [2]) [] (.z 4 (.j ⟨[.p 9],[.o 0,.h 1 [.g [.p 1,.i 0,.p 2]]]⟩ .o (.t [256]))) .o)
instance afc:C3 k78 Yl:=pg (ak (ak k78.eq_1 Yl.eq_1) me.eq_1) (.z 2 (.j (EN [49,224,2,145] []) .o (.l (EN [9,8,49,2,201,32,9,10,105] []) (EN [16,49,2,201] []) [] .o .o)))
instance afd:C1 k79 FD:=pg (ak k79.eq_1 FD.eq_1) .o
instance wR:C1 k88 lh:=pg (ak (ak k88.eq_1 lh.eq_1) (ak Xh.eq_1 (ak Ie.eq_1 (ak nn.eq_1 (ak He.eq_1 (ak Vh.eq_1 (ak Ge.eq_1 (ak Pc.eq_1 (ak ah.eq_1 (ak Qc.eq_1 (ak Yh.eq_1 (ak bY6.eq_1 (ak cd5.eq_1 aK4.eq_1))))))))))))) (.l (EN [8,9,8,11,65,8,17,10,329] [0,516]) (EN [8,9,8,11,65] [0,516]) [0,9] (.l (EN [8,33,64,25,32,17,10,273] [0,258]) (EN [8,33,64,25] [0,258]) [] (.b (.t [0,260]) .o) .o) (.l (EN [24,241,8,17,10,161] [258]) (EN [24,241] [258]) [4] (.l (EN [24,49,200,25,32,17,10,105] [2]) (EN [24,49,200,25] [2]) [] (.b (.t [256]) .o) .o) (.i aK4 25 (EN [11] [1,260]) (.l (EN [24,11,33,10,137] [1,260]) (EN [24,11,17] [1,260]) [0,5] (.z 2 (.j (EN [24,49] [1,258]) (.b (.t [0,260]) .o) .o)) (.t [0,260])) (.c cd5 40 (.i bY6 17 (EN [2] [1,9]) (.l (EN [33,24,9,2,81] [1,9]) (EN [] [1,9]) [] .o .o) (.b (.v .o) (.l (EN [33,8,10,18,9] [1,259]) (EN [9,32,10] [1,259]) [] (.z 2 (.j (EN [41,10,81] [1,259]) .o .o)) (.v .o))))))))
instance aT:C1 aK4 ui:=pg (ak (ak aK4.eq_1 ui.eq_1) Lf.eq_1) (.l (EN [24,3,33,10,137] [260]) (EN [24,3,17] [260]) [5] (.z 2 (.j (EN [24,49] [2]) (.b (.t [256]) .o) .o)) .o)
instance afe:C5 bZ4 rn:=pg (ak (ak bZ4.eq_1 rn.eq_1) sn.eq_1) (.l (EN [89,8,2,33,10,377] [0]) (EN [9,72,9,8,2,17] [0]) [] (.z 2 (.j (EN [97,2,41] [0]) (.z 2 (.j (EN [145,208,2,161] [0,8]) .o (.j (EN [113,8,233,80,2,81] [0]) .o .o))) .o)) .o)
instance aff{t0 c10 r}:o! (pb t0 (λx900=>Rg x900 c10)=M r) (e? al 311 [ux t0,.fn 312 [] [Tx c10]] (za r)):=⟨λh=>Up (q1:=[Tx c10]) (jM PJ) (λx900 _ hb=>iA hb) h⟩
instance afg:C2 bW6 Bt:=pg (ak bW6.eq_1 Bt.eq_1) .o
instance afh:C3 bU2 Uu:=pg (ak bU2.eq_1 Uu.eq_1) .o
instance yU:C2 bQ2 Hn:=pg (ak bQ2.eq_1 Hn.eq_1) (.z 2 (.j (EN [16,25,72,2,153] [0,8,16]) .o .o))
instance BP:C2 bP1 pc:=pg (ak bP1.eq_1 pc.eq_1) .o
instance afi:C3 bN7 Au:=pg (ak (ak bN7.eq_1 Au.eq_1) Ho.eq_1) (.l (EN [8,41,8,11,10,241] [0,260]) (EN [56,3] [260]) [0,5] (.b (.j (EN [8,65] [0,258]) (.j (EN [8,65,192,2,41] [0,8]) .o (.b (.t [0,260]) .o)) .o) (.t [4])) .o)
instance afj:C3 bL5 ea:=pg (ak bL5.eq_1 ea.eq_1) (.b .o (.b .o (.b (.z 1 (.j (EN [48,2] []) .o .o)) (.b (.z 1 (.j (EN [48,2,9] []) .o .o)) (.j (EN [8,9,8,25,600,2,409] [0,8]) .o (.b .o (.b .o (.b .o (.b (.j (EN [48,2,593] []) .o .o) .o)))))))))
instance lZ:C3 bG5 Ae:=pg (ak bG5.eq_1 Ae.eq_1) (.z 4 (.j (EN [48,9,8,9,144,2,17] [8,16]) (.t [4,8]) .o))
instance D3:C2 bG1 Pg:=pg (ak bG1.eq_1 Pg.eq_1) (.z 9 (.j (EN [32,9,8,9,8,2] [16,24]) (.b (.t [8,12]) (.j (EN [32,9,8,9,8,9,176,9,80,2,153] [16,24]) (.t [8,12]) .o)) .o))
instance afk:C1 bF3 mn:=pg (ak (ak bF3.eq_1 mn.eq_1) (ak Jq.eq_1 Kq.eq_1)) (.l (EN [17,24,2,25] []) (EN [17,24,2,25] []) [] .o (.l (EN [40,9,2,121,32,10,145] []) (EN [] []) [] .o .o))
instance afl:C3 bD0 wF:=pg (ak bD0.eq_1 wF.eq_1) (.z 4 (.j (EN [49,96,2,113] []) .o .o))
instance afm:C3 bC9 ou:=pg (ak bC9.eq_1 ou.eq_1) (.z 6 (.j (EN [49,112,2,137] []) .o .o))
instance afn:C1 k39 uv:=pg (ak k39.eq_1 uv.eq_1) .o
instance aY:C2 k87 Se:=pg (ak (ak k87.eq_1 Se.eq_1) (ak Sf.eq_1 Tf.eq_1)) (.l (EN [8,25,8,3,57,10,297] [516]) (EN [40,3,41] [516]) [9] (.z 2 (.j (EN [8,105] [2]) (.z 1 (.j (EN [8,105,88,2,201] [0,8]) .o (.b (.t [256]) .o))) .o)) (.z 3 (.d [] [] (.l (EN [64,3,185,8,17,10,121] [260]) (EN [64,3,185] [260]) [5] (.z 2 (.j (EN [64,225] [2]) (.z 1 (.j (EN [64,225,64,2,49] [0]) .o (.b (.t [256]) .o))) .o)) .o))))
def zG{t0 t1 r} (h:Se t0 t1=M r):Ou al 87 [.own 0 0,da t1] [(9,t0.map Kd)] (qa r):=by
 refine Ou.of 49 k87 ?_ aaI
 simp only[k87,Kf.of,zs,ze,cz,D?,R?,G!,M!,M?]
 unfold Se at h
 exact pg (ak Sf.eq_1 Tf.eq_1) (.l (EN [8,25,8,11,57,10,297] [1,516]) (EN [40,11,41] [1,516]) [0,9] (.z 2 (.j (EN [8,105] [1,258]) (.z 1 (.j (EN [8,105,88,2,201] [1,8,16]) .o (.b (.t [0,260]) .o))) .o)) (.z 3 (.d [1] [] (.l (EN [64,11,185,8,17,10,121] [1,260]) (EN [64,11,185] [1,260]) [0,5] (.z 2 (.j (EN [64,225] [1,258]) (.z 1 (.j (EN [64,225,64,2,49] [1,8]) .o (.b (.t [0,260]) .o))) .o)) .o))))
instance afo{t0 t1 r}:Q! (Se t0 t1=M r) (Ou al 87 [.own 0 0,da t1] [(9,t0.map Kd)] (qa r)):=⟨zG⟩
instance XV:C5 ce9 Ef:=pg (ak (ak ce9.eq_1 Ef.eq_1) kf.eq_1) (.l (EN [17,8,57,16,33,24,9,10,153] [2]) (EN [96,33] [2]) [] .o .o)
instance zU:C3 ce8 Bj:=pg (ak (ak ce8.eq_1 Bj.eq_1) tg.eq_1) (.l (EN [8,41,8,11,25,24,9,10,225] [0,260]) (EN [56,3,25] [260]) [0,5] (.b (.j (EN [8,121] [0,258]) (.z 2 (.j (EN [8,65,40,17,168,2,49] [0,8]) .o (.b (.t [0,260]) .o))) .o) (.t [4])) .o)
instance M9:C2 bX2 Gk:=pg (ak bX2.eq_1 Gk.eq_1) .o
instance afp:C2 bT7 Ts:=pg (ak bT7.eq_1 Ts.eq_1) (.z 2 (.j (EN [32,2] []) .o .o))
instance afq:C3 bR0 tw:=pg (ak (ak bR0.eq_1 tw.eq_1) wq.eq_1) (.l (EN [24,25,24,9,11,19,18] [0,260,268]) (EN [72,9,3,11] [260,268]) [0,5,5] (.b (.t [0,260,264]) (.t [4,8])) .o)
instance lY:C3 bP2 Ym:=pg (ak (ak bP2.eq_1 Ym.eq_1) Si.eq_1) (.l (EN [16,33,8,9,10] [8,2]) (EN [56,9] [8,2]) [4,0] (.z 2 (.j (EN [16,129] [0,258]) (.z 1 (.j (EN [16,129,176,2,57] [0,8]) .o .o)) .o)) .o)
instance afr:C3 bJ4 wa:=pg (ak bJ4.eq_1 wa.eq_1) (.z 1 (.e (EN [8,9,8,17,8,9] [0,16]) (.b .o (.b .o (.b .o (.b .o (.b .o (.b .o (.b .o (.b .o (.b .o (.j (EN [8,9,8,33,32,9,568,2,329] [0,8,16]) .o (.b .o (.j (EN [8,657,88,2,241] [0,8,16]) .o (.b .o (.j (EN [8,33,8,41,752,2,153] [0,16]) (.t [0,8]) .o)))))))))))))) .o))
instance afs:C2 bI4 qk:=pg (ak bI4.eq_1 qk.eq_1) .o
instance aft:C3 bF2 Wb:=pg (ak bF2.eq_1 Wb.eq_1) (.z 2 (.j ⟨[.k 6,.p 1,.k 1,.p 1,.i 2],[.o 3,.h 4 [.g [.i 0,.p 1,.i 1]]]⟩ (.b (.t [12,16]) (.j (EN [24,33,8,9,232,2,529] [0,8,16,24,32]) .o (.t [12,16]))) .o))
instance G7:C2 bF1 qf:=pg (ak bF1.eq_1 qf.eq_1) (.z 2 (.j (EN [33,128,2,289] []) .o (.z 3 (.j (EN [64,97,160,2,129] []) .o .o))))
instance UX:C3 k43 jb:=pg (ak (ak k43.eq_1 jb.eq_1) (ak ki.eq_1 (ak oi.eq_1 (ak ji.eq_1 (ak qi.eq_1 (ak aK5.eq_1 k86.eq_1)))))) (.i k86 35 (EN [27] [1,9,17,260]) (.l (EN [17,8,2,57,10,193] [1,9,17]) (EN [17,8,2,41] [1,9,17]) [] .o (.i aK5 25 (EN [27] [1,9,17,260]) (.z 3 (.j (EN [27] [1,9,17,260]) (.b (.t [0,4,8,268]) (.t [0,4,8,5])) .o)) (.l (EN [48,137,16,17,10,65] [1,9,17,770]) (EN [48,137] [1,9,17,770]) [] (.b (.t [0,4,8,268]) .o) .o))) .o)
def rG{t0 t1 t2 r} (h:jb t0 t1 t2=M r):Ou al 43 [Qu t0,.agg [da t1.Id,da t1.ai,da t1.s,.own 0 0],da t2] [(9,t1.aa.map Kd)] (qa r):=by
 refine Ou.of 17 k43 ?_ aaI
 simp only[k43,Kf.of,zs,ze,cz,D?,R?,G!,M!,M?]
 unfold jb at h
 exact pg (ak ki.eq_1 (ak oi.eq_1 (ak ji.eq_1 (ak qi.eq_1 (ak aK5.eq_1 k86.eq_1))))) (.i k86 35 (EN [35] [1,9,17,25,260]) (.l (EN [17,8,2,57,10,193] [1,9,17,25]) (EN [17,8,2,41] [1,9,17,25]) [] .o (.i aK5 25 (EN [35] [1,9,17,25,260]) (.z 3 (.j (EN [35] [1,9,17,25,260]) (.b (.t [0,4,8,12,272]) (.t [0,4,8,12,5])) .o)) (.l (EN [48,137,16,17,10,65] [1,9,17,25,1026]) (EN [48,137] [1,9,17,25,1026]) [] (.b (.t [0,4,8,12,272]) .o) .o))) .o)
instance afu{t0 t1 t2 r}:Q! (jb t0 t1 t2=M r) (Ou al 43 [Qu t0,.agg [da t1.Id,da t1.ai,da t1.s,.own 0 0],da t2] [(9,t1.aa.map Kd)] (qa r)):=⟨rG⟩
instance afv{t0 t1 t2 t3 t4 r}:o! (Zx t0 t1 t2 t3 t4=M r) (e? al 199 [vb t0,da t1,vf t2,da t3,qa t4] (Ga r)):=⟨λh=>by
 refine dk 32 ca7 ?_
 simp only[ca7,Kf.of,zs,ze]
 unfold Zx at h
 have q1:∀ (m:List Ent) (o:Option Bool),VI false (.v (.bool false)) m (o.map za)=M (.v (.bool (o.getD false)),m):=λ_ o=>by cases o <;> rfl
 have q2:∀ (k:Int) (x:Bool) l,Iy (.int .i64 k) (.v (.bool x)) (em za l)=em za (NQ k x l):=λ_ _ _=>XT (e:=za)
 have q3:=λl=>BT (e:=za) (l:=l)
 exact pg (ak Ix.eq_1 (ak Mh.eq_1 (ak uo.eq_1 aK3.eq_1))) (.l (EN [17,8,9,24,25,8,41,8,17,10,137] [0,261]) (EN [17,8,9,24,25,8,41] [0,261]) [] .o (.i aK3 61 ⟨[.u [.s (.own 2 0),.i 1]],[.O 0,.O 1,.ni 4 0]⟩ (.l (EN [8,2,65,16,19,18,25] [1,9,1036]) (EN [8,2,80,19] [1,9,1036]) [0,4,17] (.z 1 (.j (EN [8,225,2,289] [1,9,16]) .o (.j (EN [8,2,217] [1,9,522]) (.z 3 (.j (EN [8,225,152,2,137] [1,9,16,24]) .o (.b .o (.t [0,4,264])))) .o))) .o) .o))⟩
def Yy{t0 t1 r} (h:bf t0 t1=M r):e? al 304 [Qv t0,BC t1] (za r):=by
 refine dk 5 bT8 ?_
 simp only[bT8,Kf.of,zs,ze]
 unfold bf at h
 exact pg trivial .o
instance afw{t0 t1 r}:o! (bf t0 t1=M r) (e? al 304 [Qv t0,BC t1] (za r)):=⟨Yy⟩
instance P5:C3 bS0 Hq:=pg (ak bS0.eq_1 Hq.eq_1) (.z 2 (.j (EN [49,88,2,65] []) .o .o))
instance afx:C2 bM5 vy:=pg (ak (ak bM5.eq_1 vy.eq_1) Mr.eq_1) (.l (EN [24,17,40,19,41,88,17,10,361] [0,8,516]) (EN [32,9,40,11,41] [8,516]) [0,4,9] (.b (.z 3 (.j (EN [24,217,96,2,257] [0,8,16,24]) .o (.b .o (.a [[],[],[],[],[],[],[],[],[],[],[]] (.b .o (.a [[],[],[],[2],[]] (.t [0,4,520]))))))) (.t [4,8])) .o)
instance WX:C2 bF0 lg:=pg (ak bF0.eq_1 lg.eq_1) (.z 2 (.j (EN [33,176,2,265] []) .o (.z 3 (.j (EN [88,2,113] []) (.z 1 (.j (EN [88,9,344,2,33] []) .o .o)) .o))))
end Go.Proofs.Dev
