/-
  Contracts of the functions: each answers as its plain partial function says.
-/
import Derived.Test.YtadinajclolmnaaGreatDoorQ0
import Derived.Test.YtadinajclolmnaaGreatDoorQ1
import Derived.Test.YtadinajclolmnaaGreatDoorQ2
import Derived.Test.YtadinajclolmnaaGreatDoorQ3
open Option renaming some->M
open And renaming intro->ak
open Go.Proofs.Tryz renaming prog->al
set_option linter.all false
set_option maxHeartbeats 1000000
set_option maxRecDepth 10000
namespace Go.Proofs.Dev
open Go Go.Tm
instance H7:C1 k12 Km:=pg (ak (ak k12.eq_1 Km.eq_1) Ak.eq_1) (.l (EN [40,3,17,40,17,10,81] [1284]) (EN [40,3,17] [1284]) [21] (.b (.t [256]) .o) .o)
instance acr:C1 k73 Zl:=pg (ak k73.eq_1 Zl.eq_1) .o
instance daa:C3 k97 fj:=pg (ak (ak k97.eq_1 fj.eq_1) jd.eq_1) (.z 2 (.j (EN [49,224,2,145] []) .o (.l (EN [9,8,49,2,201,32,9,10,105] []) (EN [16,49,2,201] []) [] .o .o)))
instance dS:C1 bx5 Sb:=pg (ak bx5.eq_1 Sb.eq_1) (.z 1 (.j (EN [16,2,193] []) .o .o))
instance acs{t0 c10 r}:r? (Ab t0 (λx900=>Og x900 c10)=M r) (k! al 208 [Dv t0,.fn 209 [] [Nt c10]] (ya r)):=⟨λh=>nn (q1:=[Nt c10]) (gH lF) (λx900 _ hb=>Qw hb) h⟩
instance acu:C2 bx4 eo:=pg (ak bx4.eq_1 eo.eq_1) .o
instance acv{t0 c10 r}:r? (vb t0 (λx900=>Pf x900 c10)=M r) (k! al 210 [bt t0,.fn 211 [] [Nt c10]] (ya r)):=⟨λh=>km (q1:=[Nt c10]) (gH lF) (λx900 _ hb=>Uv hb) h⟩
instance Cab:C2 bx3 cp:=pg (ak bx3.eq_1 cp.eq_1) .o
instance acw:C3 bx0 uq:=pg (ak bx0.eq_1 uq.eq_1) .o
instance acx:C5 bw4 Wn:=pg (ak (ak bw4.eq_1 Wn.eq_1) Dp.eq_1) (.l (EN [89,8,2,33,10,377] [0]) (EN [9,72,9,8,2,17] [0]) [] (.z 2 (.j (EN [97,2,41] [0]) (.z 2 (.j (EN [145,208,2,161] [0,8]) .o (.j (EN [113,8,233,80,2,81] [0]) .o .o))) .o)) .o)
instance GP:C2 bt3 Xj:=pg (ak bt3.eq_1 Xj.eq_1) (.z 2 (.j (EN [16,25,72,2,153] [0,8,16]) .o .o))
instance uK:C2 br3 Ub:=pg (ak br3.eq_1 Ub.eq_1) .o
instance acy:C1 bn2 Il:=pg (ak (ak bn2.eq_1 Il.eq_1) (ak Lm.eq_1 Mm.eq_1)) (.l (EN [17,24,2,25] []) (EN [17,24,2,25] []) [] .o (.l (EN [40,9,2,121,32,10,145] []) (EN [] []) [] .o .o))
instance acz:C3 bm7 EA:=pg (ak bm7.eq_1 EA.eq_1) (.z 4 (.j (EN [49,96,2,113] []) .o .o))
instance W7:C3 bm6 Lp:=pg (ak bm6.eq_1 Lp.eq_1) (.z 6 (.j (EN [49,112,2,137] []) .o .o))
instance ada:C1 k72 Kq:=pg (ak k72.eq_1 Kq.eq_1) .o
instance Y5:C2 bz3 xf:=pg (ak bz3.eq_1 xf.eq_1) .o
instance LR:C5 by8 Re:=pg (ak (ak by8.eq_1 Re.eq_1) qe.eq_1) (.l (EN [17,8,57,16,33,24,9,10,153] [2]) (EN [96,33] [2]) [] .o .o)
instance HP:C3 by7 rh:=pg (ak (ak by7.eq_1 rh.eq_1) tf.eq_1) (.l (EN [8,41,8,11,25,24,9,10,225] [0,260]) (EN [56,3,25] [260]) [0,5] (.b (.j (EN [8,121] [0,258]) (.z 2 (.j (EN [8,65,40,17,168,2,49] [0,8]) .o (.b (.t [0,260]) .o))) .o) (.t [4])) .o)
instance R7:C3 bx7 Fp:=pg (ak (ak bx7.eq_1 Fp.eq_1) Pk.eq_1) (.l (EN [40,9,224,17,2,145] [8]) (EN [] []) [4] .o .o)
instance U6:C2 bv6 Eo:=pg (ak bv6.eq_1 Eo.eq_1) (.z 2 (.j (EN [32,2] []) .o .o))
instance adb{t0 c10 r}:r? (Ua t0 (λx900=>Qc x900 c10)=M r) (k! al 242 [Ys t0,.fn 241 [] [Ws c10]] (ya r)):=⟨λh=>gm (q1:=[Ws c10]) (gH lF) (λx900 _ hb=>qu hb) h⟩
instance R4:C4 bu9 Qk:=pg (ak bu9.eq_1 Qk.eq_1) (.b .o (.j (EN [32,33,64,2,121] [0,8]) .o .o))
instance lU:C3 br4 Ej:=pg (ak (ak br4.eq_1 Ej.eq_1) Tg.eq_1) (.l (EN [16,33,8,9,10] [8,2]) (EN [56,9] [8,2]) [4,0] (.z 2 (.j (EN [16,129] [0,258]) (.z 1 (.j (EN [16,129,176,2,57] [0,8]) .o .o)) .o)) .o)
instance ade:C2 bo1 pq:=pg (ak bo1.eq_1 pq.eq_1) .o
instance adf:C3 bn1 Lg:=pg (ak bn1.eq_1 Lg.eq_1) (.z 2 (.j ⟨[.k 6,.p 1,.k 1,.p 1,.i 2],[.o 3,.h 4 [.g [.i 0,.p 1,.i 1]]]⟩ (.b (.t [12,16]) (.j (EN [24,33,8,9,232,2,529] [0,8,16,24,32]) .o (.t [12,16]))) .o))
instance N1:C2 bn0 Hg:=pg (ak bn0.eq_1 Hg.eq_1) (.z 2 (.j (EN [33,128,2,289] []) .o (.z 3 (.j (EN [64,97,160,2,129] []) .o .o))))
instance adg{t0 t1 t2 t3 t4 r}:r? (Vt t0 t1 t2 t3 t4=M r) (k! al 131 [zb t0,da t1,Ge t2,da t3,pb t4] (Ra r)):=⟨λh=>by
 refine dk 32 bB0 ?_
 simp only[bB0,Kf.of,zs,ze]
 unfold Vt at h
 have q1:∀ (m:List Ent) (o:Option Bool),sz false (.v (.bool false)) m (o.map ya)=M (.v (.bool (o.getD false)),m):=λ_ o=>by cases o <;> rfl
 have q2:∀ (k:Int) (x:Bool) l,Er (.int .i64 k) (.v (.bool x)) (em ya l)=em ya (ZC k x l):=λ_ _ _=>aG (e:=ya)
 have q3:=λl=>MF (e:=ya) (l:=l)
 exact pg (ak Dt.eq_1 (ak qg.eq_1 (ak Xk.eq_1 aq4.eq_1))) (.l (EN [17,8,9,24,25,8,41,8,17,10,137] [0,261]) (EN [17,8,9,24,25,8,41] [0,261]) [] .o (.i aq4 61 ⟨[.u [.s (.own 2 0),.i 1]],[.O 0,.O 1,.ni 4 0]⟩ (.l (EN [8,2,65,16,19,18,25] [1,9,1036]) (EN [8,2,80,19] [1,9,1036]) [0,4,17] (.z 1 (.j (EN [8,225,2,289] [1,9,16]) .o (.j (EN [8,2,217] [1,9,522]) (.z 3 (.j (EN [8,225,152,2,137] [1,9,16,24]) .o (.b .o (.t [0,4,264])))) .o))) .o) .o))⟩
instance Q4:C1 bA2 Br:=pg (ak (ak bA2.eq_1 Br.eq_1) rj.eq_1) (.l (EN [8,49,48,17,2,153] [0,8]) (EN [16,41] [8]) [] (.b .o (.t [4])) .o)
def Eu{t0 t1 r} (h:ie t0 t1=M r):k! al 203 [lr t0,Zx t1] (ya r):=by
 refine dk 5 bv7 ?_
 simp only[bv7,Kf.of,zs,ze]
 unfold ie at h
 exact pg trivial .o
instance adh{t0 t1 r}:r? (ie t0 t1=M r) (k! al 203 [lr t0,Zx t1] (ya r)):=⟨Eu⟩
instance rZ:C3 bs2 Fm:=pg (ak bs2.eq_1 Fm.eq_1) (.z 2 (.j (EN [49,88,2,65] []) .o .o))
instance ZT:C2 bm9 ij:=pg (ak bm9.eq_1 ij.eq_1) (.z 2 (.j (EN [33,176,2,265] []) .o (.z 3 (.j (EN [88,2,113] []) (.z 1 (.j (EN [88,9,344,2,33] []) .o .o)) .o))))
end Go.Proofs.Dev
