/-
  Contracts of the functions: each answers as its plain partial function says.
-/
import Derived.Test.YtjjfnbpfgfopbaaGreatDoorK
import Derived.Test.YtjjfnbpfgfopbaaGreatDoorG
import Derived.Test.YtjjfnbpfgfopbaaGreatDoorPE
import Derived.Test.YtjjfnbpfgfopbaaGreatDoorH1
import Derived.Test.YtjjfnbpfgfopbaaGreatDoorH2
import Derived.Test.YtjjfnbpfgfopbaaGreatDoorL1
import Derived.Test.YtjjfnbpfgfopbaaGreatDoorQ0
import Derived.Test.YtjjfnbpfgfopbaaGreatDoorQ1
import Derived.Test.YtjjfnbpfgfopbaaGreatDoorQ2
import Derived.Test.YtjjfnbpfgfopbaaGreatDoorQ3
open List renaming length_cons->qaa,length_nil->Aaa,map_cons->vaa,map_nil->gab
open Nat renaming reduceAdd->Caa
set_option linter.all false
set_option maxHeartbeats 1000000
set_option maxRecDepth 10000
namespace Go.Proofs.Dev
open Go Go.Tm
instance V6:C3 k19 Cp:=pg (And.intro k19.eq_1 Cp.eq_1) (.z 1 (.j 1 (EN [48,2,129] []) .o .o))
instance NI:C1 k98 Pf:=pg (And.intro (And.intro k98.eq_1 Pf.eq_1) (And.intro eg.eq_1 (And.intro xd.eq_1 (And.intro xj.eq_1 (And.intro vd.eq_1 (And.intro cg.eq_1 (And.intro td.eq_1 (And.intro Zb.eq_1 (And.intro Lf.eq_1 (And.intro bc.eq_1 (And.intro fg.eq_1 (And.intro k165.eq_1 (And.intro k139.eq_1 jaa.eq_1))))))))))))) (.l 2 1 (EN [8,9,8,11,65,8,17,10,329] [0,516]) (EN [8,9,8,11,65] [0,516]) [0,9] (.l 2 1 (EN [8,33,64,25,32,17,10,273] [0,258]) (EN [8,33,64,25] [0,258]) [] (.b (.t [0,260]) .o) .o) (.l 2 1 (EN [24,241,8,17,10,161] [258]) (EN [24,241] [258]) [4] (.l 2 1 (EN [24,49,200,25,32,17,10,105] [2]) (EN [24,49,200,25] [2]) [] (.b (.t [256]) .o) .o) (.i jaa 1 25 (EN [11] [1,260]) (.l 2 1 (EN [24,11,33,10,137] [1,260]) (EN [24,11,17] [1,260]) [0,5] (.z 2 (.j 1 (EN [24,49] [1,258]) (.b (.t [0,260]) .o) .o)) (.t [0,260])) (.c k139 40 (.i k165 1 17 (EN [2] [1,9]) (.l 1 0 (EN [33,24,9,2,81] [1,9]) (EN [] [1,9]) [] .o .o) (.b (.v .o) (.l 3 2 (EN [33,8,10,18,9] [1,259]) (EN [9,32,10] [1,259]) [] (.z 2 (.j 2 (EN [41,10,81] [1,259]) .o .o)) (.v .o))))))))
instance dK:C1 jaa vg:=pg (And.intro (And.intro jaa.eq_1 vg.eq_1) De.eq_1) (.l 2 1 (EN [24,3,33,10,137] [260]) (EN [24,3,17] [260]) [5] (.z 2 (.j 1 (EN [24,49] [2]) (.b (.t [256]) .o) .o)) .o)
instance y9:C5 k168 Zm:=pg (And.intro (And.intro k168.eq_1 Zm.eq_1) Co.eq_1) (.l 2 1 (EN [89,8,2,33,10,377] [0]) (EN [9,72,9,8,2,17] [0]) [] (.z 2 (.j 1 (EN [97,2,41] [0]) (.z 2 (.j 1 (EN [145,208,2,161] [0,8]) .o (.j 1 (EN [113,8,233,80,2,81] [0]) .o .o))) .o)) .o)
instance N6:C1 k226 Xr:=pg (And.intro k226.eq_1 Xr.eq_1) .o
instance QP:C3 k258 Ge:=pg (And.intro k258.eq_1 Ge.eq_1) (.z 4 (.j 1 (EN [48,9,8,9,144,2,17] [8,16]) (.t [4,8]) .o))
instance TR:C2 k262 Fi:=pg (And.intro k262.eq_1 Fi.eq_1) (.z 9 (.j 1 (EN [32,9,8,9,8,2] [16,24]) (.b (.t [8,12]) (.j 1 (EN [32,9,8,9,8,9,176,9,80,2,153] [16,24]) (.t [8,12]) .o)) .o))
instance NP:C2 k271 Eh:=pg (And.intro (And.intro k271.eq_1 Eh.eq_1) Lj.eq_1) (.z 3 (.j 1 ⟨[.k 2,.p 3,.k 1,.p 5],[.o 0,.o 1,.o 2,.o 3,.h 4 [.g [.p 2,.i 0]]]⟩ .o (.z 1 (.j 1 (EN [16,257,2,625] [0,8,16,24,32]) .o (.l 4 3 ⟨[.k 2,.p 1,.k 1,.p 30,.k 3,.p 2,.i 3,.p 73],[.o 0,.o 2,.o 3,.h 4 [.g [.i 0,.i 1,.i 2]]]⟩ ⟨[.k 4,.p 2,.k 1,.p 27],[.o 2,.h 4 [.g [.i 0,.i 1,.i 2]]]⟩ [0,8,12,16] (.b (.e 3 ⟨[.k 2,.p 38],[.o 0,.o 1,.o 2,.h 3 [.g [.i 0,.i 1,.i 2]]]⟩ (.z 2 (.j 1 (EN [16,305,136,2,441] [0,8,16,24]) .o (.z 8 (.j 1 (EN [16,49,16,377,416,2,25] [0,8,16,24,32]) .o .o)))) .o) (.t [4,12])) .o)))))
theorem vu{t0 t1 t2 r} (h:Hf t0 t1 t2=some r):Den Tryz.prog 283 [Wp t0,ti t1,ti t2] (sa r):=by
 refine dk 18 k283 ?_
 simp only[k283,Kf.of,zs,ze]
 unfold Hf at h
 exact pg trivial (.z 1 (.j 1 (EN [32,2,129] []) .o .o))
instance zI283{t0 t1 t2 r}:Con (Hf t0 t1 t2=some r) (Den Tryz.prog 283 [Wp t0,ti t1,ti t2] (sa r)):=⟨vu⟩
instance DO:C2 k97 Md:=pg (And.intro (And.intro k97.eq_1 Md.eq_1) (And.intro He.eq_1 Ie.eq_1)) (.l 2 1 (EN [8,25,8,3,57,10,297] [516]) (EN [40,3,41] [516]) [9] (.z 2 (.j 1 (EN [8,105] [2]) (.z 1 (.j 1 (EN [8,105,88,2,201] [0,8]) .o (.b (.t [256]) .o))) .o)) (.z 3 (.d [] [] (.l 2 1 (EN [64,3,185,8,17,10,121] [260]) (EN [64,3,185] [260]) [5] (.z 2 (.j 1 (EN [64,225] [2]) (.z 1 (.j 1 (EN [64,225,64,2,49] [0]) .o (.b (.t [256]) .o))) .o)) .o))))
theorem pz{t0 t1 r} (h:Md t0 t1=some r):Zo Tryz.prog 97 [.own 0 0,ca t1] [(9,t0.map Hc)] (Xa r):=by
 refine Zo.of 49 k97 ?_ (by simp[Fr.l])
 simp only[k97,Kf.of,zs,ze,Ss,vaa,gab,qaa,Aaa,Caa]
 unfold Md at h
 exact pg (And.intro He.eq_1 Ie.eq_1) (.l 2 1 (EN [8,25,8,11,57,10,297] [1,516]) (EN [40,11,41] [1,516]) [0,9] (.z 2 (.j 1 (EN [8,105] [1,258]) (.z 1 (.j 1 (EN [8,105,88,2,201] [1,8,16]) .o (.b (.t [0,260]) .o))) .o)) (.z 3 (.d [1] [] (.l 2 1 (EN [64,11,185,8,17,10,121] [1,260]) (EN [64,11,185] [1,260]) [0,5] (.z 2 (.j 1 (EN [64,225] [1,258]) (.z 1 (.j 1 (EN [64,225,64,2,49] [1,8]) .o (.b (.t [0,260]) .o))) .o)) .o))))
instance zI97{t0 t1 r}:Con2 (Md t0 t1=some r) (Zo Tryz.prog 97 [.own 0 0,ca t1] [(9,t0.map Hc)] (Xa r)):=⟨pz⟩
instance LM:C5 k143 xe:=pg (And.intro (And.intro k143.eq_1 xe.eq_1) Xd.eq_1) (.l 2 1 (EN [17,8,57,16,33,24,9,10,153] [2]) (EN [96,33] [2]) [] .o .o)
instance tL:C3 k144 bh:=pg (And.intro (And.intro k144.eq_1 bh.eq_1) bf.eq_1) (.l 2 1 (EN [8,41,8,11,25,24,9,10,225] [0,260]) (EN [56,3,25] [260]) [0,5] (.b (.j 1 (EN [8,121] [0,258]) (.z 2 (.j 1 (EN [8,65,40,17,168,2,49] [0,8]) .o (.b (.t [0,260]) .o))) .o) (.t [4])) .o)
instance iX:C3 k247 Ka:=pg (And.intro k247.eq_1 Ka.eq_1) (.z 1 (.e 0 (EN [8,9,8,17,8,9] [0,16]) (.b .o (.b .o (.b .o (.b .o (.b .o (.b .o (.b .o (.b .o (.b .o (.j 1 (EN [8,9,8,33,32,9,568,2,329] [0,8,16]) .o (.b .o (.j 1 (EN [8,657,88,2,241] [0,8,16]) .o (.b .o (.j 1 (EN [8,33,8,41,752,2,153] [0,16]) (.t [0,8]) .o)))))))))))))) .o))
instance zI175b{t0 c10 c11 r}:Con (Nb t0 (λx900=>Hf x900 c10 c11)=some r) (Den Tryz.prog 175 [Vx t0,.fn 283 [] [ti c10,ti c11]] (.tup [ca r.1,sa r.2])):=⟨λh=>Aq (q1:=[ti c10,ti c11]) (bE (bE YB)) (λx900 _ hb=>vu hb) h⟩
instance E5:C3 k272 yq:=pg (And.intro k272.eq_1 yq.eq_1) .o
instance wO:C3 k70 Rb:=pg (And.intro (And.intro k70.eq_1 Rb.eq_1) (And.intro mg.eq_1 (And.intro og.eq_1 (And.intro lg.eq_1 (And.intro qg.eq_1 (And.intro iaa.eq_1 k96.eq_1)))))) (.i k96 1 35 (EN [27] [1,9,17,260]) (.l 2 1 (EN [17,8,2,57,10,193] [1,9,17]) (EN [17,8,2,41] [1,9,17]) [] .o (.i iaa 1 25 (EN [27] [1,9,17,260]) (.z 3 (.j 1 (EN [27] [1,9,17,260]) (.b (.t [0,4,8,268]) (.t [0,4,8,5])) .o)) (.l 2 1 (EN [48,137,16,17,10,65] [1,9,17,770]) (EN [48,137] [1,9,17,770]) [] (.b (.t [0,4,8,268]) .o) .o))) .o)
theorem gz{t0 t1 t2 r} (h:Rb t0 t1 t2=some r):Zo Tryz.prog 70 [Tk t0,.agg [ca t1.Id,ca t1.Scope,ca t1.Members,.own 0 0],ca t2] [(9,t1.Facts.map Hc)] (Xa r):=by
 refine Zo.of 17 k70 ?_ (by simp[Fr.l])
 simp only[k70,Kf.of,zs,ze,Ss,vaa,gab,qaa,Aaa,Caa]
 unfold Rb at h
 exact pg (And.intro mg.eq_1 (And.intro og.eq_1 (And.intro lg.eq_1 (And.intro qg.eq_1 (And.intro iaa.eq_1 k96.eq_1))))) (.i k96 1 35 (EN [35] [1,9,17,25,260]) (.l 2 1 (EN [17,8,2,57,10,193] [1,9,17,25]) (EN [17,8,2,41] [1,9,17,25]) [] .o (.i iaa 1 25 (EN [35] [1,9,17,25,260]) (.z 3 (.j 1 (EN [35] [1,9,17,25,260]) (.b (.t [0,4,8,12,272]) (.t [0,4,8,12,5])) .o)) (.l 2 1 (EN [48,137,16,17,10,65] [1,9,17,25,1026]) (EN [48,137] [1,9,17,25,1026]) [] (.b (.t [0,4,8,12,272]) .o) .o))) .o)
instance zI70{t0 t1 t2 r}:Con2 (Rb t0 t1 t2=some r) (Zo Tryz.prog 70 [Tk t0,.agg [ca t1.Id,ca t1.Scope,ca t1.Members,.own 0 0],ca t2] [(9,t1.Facts.map Hc)] (Xa r)):=⟨gz⟩
instance O6:C2 k231 Yr:=pg (And.intro (And.intro k231.eq_1 Yr.eq_1) Wm.eq_1) (.l 2 1 (EN [24,17,40,19,41,88,17,10,361] [0,8,516]) (EN [32,9,40,11,41] [8,516]) [0,4,9] (.b (.z 3 (.j 1 (EN [24,217,96,2,257] [0,8,16,24]) .o (.b .o (.a [[],[],[],[],[],[],[],[],[],[],[]] (.b .o (.a [[],[],[],[2],[]] (.t [0,4,520]))))))) (.t [4,8])) .o)
instance mX:C3 k216 Rl:=pg (And.intro k216.eq_1 Rl.eq_1) .o
end Go.Proofs.Dev
