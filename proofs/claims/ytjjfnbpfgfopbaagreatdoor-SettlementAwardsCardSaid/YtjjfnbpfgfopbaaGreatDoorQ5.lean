/-
  Contracts of the functions: each answers as its plain partial function says.
-/
import Derived.Test.YtjjfnbpfgfopbaaGreatDoorK
import Derived.Test.YtjjfnbpfgfopbaaGreatDoorG
import Derived.Test.YtjjfnbpfgfopbaaGreatDoorPE
import Derived.Test.YtjjfnbpfgfopbaaGreatDoorH1
import Derived.Test.YtjjfnbpfgfopbaaGreatDoorH2
import Derived.Test.YtjjfnbpfgfopbaaGreatDoorL1
import Derived.Test.YtjjfnbpfgfopbaaGreatDoorQ0
import Derived.Test.YtjjfnbpfgfopbaaGreatDoorQ1
import Derived.Test.YtjjfnbpfgfopbaaGreatDoorQ2
import Derived.Test.YtjjfnbpfgfopbaaGreatDoorQ3
set_option linter.all false
set_option maxHeartbeats 1000000
set_option maxRecDepth 10000
namespace Go.Proofs.Dev
open Go Go.Tm
instance R3:C2 k13 qq:=pg (And.intro k13.eq_1 qq.eq_1) (.z 1 (.j 1 (EN [32,2,265] []) .o .o))
instance rate_Apply_C:C3 k57 kp:=pg (And.intro k57.eq_1 kp.eq_1) .o
instance LY:C3 k100 Qi:=pg (And.intro (And.intro k100.eq_1 Qi.eq_1) Vc.eq_1) (.z 2 (.j 1 (EN [49,224,2,145] []) .o (.l 2 1 (EN [9,8,49,2,201,32,9,10,105] []) (EN [16,49,2,201] []) [] .o .o)))
instance month_Days_C:C1 k101 Lw:=pg (And.intro k101.eq_1 Lw.eq_1) .o
instance zI183{t0 c10 r}:Con (Ua t0 (λx900=>Ff x900 c10)=some r) (Den Tryz.prog 183 [Yq t0,.fn 184 [] [Br c10]] (sa r)):=⟨λh=>Cl (q1:=[Br c10]) (bE YB) (λx900 _ hb=>du hb) h⟩
instance YZ:C2 k154 bo:=pg (And.intro k154.eq_1 bo.eq_1) .o
instance VJ:C3 k195 Be:=pg (And.intro (And.intro k195.eq_1 Be.eq_1) Ce.eq_1) (.l 1 0 (EN [16,33,168,17,2,329] [0]) (EN [] []) [] (.z 6 (.j 1 (EN [16,225,160,2,161] [0,8,16]) .o (.z 1 (.j 1 (EN [16,57,144,185,144,2,17] [0]) .o .o)))) .o)
instance qL:C2 k205 Hj:=pg (And.intro k205.eq_1 Hj.eq_1) (.z 2 (.j 1 (EN [16,25,72,2,153] [0,8,16]) .o .o))
theorem Zp{t0 t1 t2 r} (h:vf t0 t1 t2=some r):Den Tryz.prog 236 [Jf t0,ti t1,ti t2] (sa r):=by
 refine dk 12 k236 ?_
 simp only[k236,Kf.of,zs,ze]
 unfold vf at h
 exact pg trivial (.z 1 (.j 1 (EN [32,2,81] []) .o .o))
instance zI236{t0 t1 t2 r}:Con (vf t0 t1 t2=some r) (Den Tryz.prog 236 [Jf t0,ti t1,ti t2] (sa r)):=⟨Zp⟩
instance rZ:C3 k254 oa:=pg (And.intro k254.eq_1 oa.eq_1) (.b .o (.b .o (.b (.z 1 (.j 1 (EN [48,2] []) .o .o)) (.b (.z 1 (.j 1 (EN [48,2,9] []) .o .o)) (.j 1 (EN [8,9,8,25,600,2,409] [0,8]) .o (.b .o (.b .o (.b .o (.b (.j 1 (EN [48,2,593] []) .o .o) .o)))))))))
instance I8:C1 k287 Qk:=pg (And.intro (And.intro k287.eq_1 Qk.eq_1) (And.intro Ol.eq_1 Pl.eq_1)) (.l 1 1 (EN [17,24,2,25] []) (EN [17,24,2,25] []) [] .o (.l 2 0 (EN [40,9,2,121,32,10,145] []) (EN [] []) [] .o .o))
instance rate_Mul_C:C3 k294 xy:=pg (And.intro k294.eq_1 xy.eq_1) (.z 4 (.j 1 (EN [49,96,2,113] []) .o .o))
instance pX:C3 k295 Mo:=pg (And.intro k295.eq_1 Mo.eq_1) (.z 6 (.j 1 (EN [49,112,2,137] []) .o .o))
instance qW:C2 k18 mf:=pg (And.intro k18.eq_1 mf.eq_1) .o
instance X6:C1 k71 Ds:=pg (And.intro k71.eq_1 Ds.eq_1) .o
instance xO:C3 k169 Oi:=pg (And.intro (And.intro k169.eq_1 Oi.eq_1) sg.eq_1) (.z 2 (.j 1 (EN [8,9,8,25,152,2,465] [0,8]) .o (.z 1 (.j 1 (EN [8,193,64,2,401] [0,8]) .o (.l 1 0 (EN [24,17,48,9,416,17,2,137] [0]) (EN [] []) [] .o .o)))))
instance GW:C2 k177 An:=pg (And.intro k177.eq_1 An.eq_1) (.z 2 (.j 1 (EN [32,2] []) .o .o))
instance zI235{t0 c10 c11 r}:Con (xf t0 (λx900=>vf x900 c10 c11)=some r) (Den Tryz.prog 235 [Wj t0,.fn 236 [] [ti c10,ti c11]] (.tup [Xa r.1,Xa r.2])):=⟨λh=>Aw (q1:=[ti c10,ti c11]) (bE (bE YB)) (λx900 _ hb=>Zp hb) h⟩
instance IP:C3 k224 Xj:=pg (And.intro (And.intro k224.eq_1 Xj.eq_1) ah.eq_1) (.z 2 (.d [0] [] (.l 2 1 (EN [24,9,40,17,11,17,56,17,10,129] [0,260]) (EN [72,17,3,17] [260]) [0,5] (.b (.t [0,260]) (.t [4])) .o)))
instance n9:C2 k274 ep:=pg (And.intro k274.eq_1 ep.eq_1) .o
instance M6:C3 k288 yg:=pg (And.intro k288.eq_1 yg.eq_1) (.z 2 (.j 3 ⟨[.k 6,.p 1,.k 1,.p 1,.i 2],[.o 3,.h 4 [.g [.i 0,.p 1,.i 1]]]⟩ (.b (.t [12,16]) (.j 1 (EN [24,33,8,9,232,2,529] [0,8,16,24,32]) .o (.t [12,16]))) .o))
instance AU:C2 k289 ug:=pg (And.intro k289.eq_1 ug.eq_1) (.z 2 (.j 1 (EN [33,128,2,289] []) .o (.z 3 (.j 1 (EN [64,97,160,2,129] []) .o .o))))
instance zI112{t0 t1 t2 t3 t4 r}:Con (Ir t0 t1 t2 t3 t4=some r) (Den Tryz.prog 112 [Ya t0,ca t1,jc t2,ca t3,Xa t4] (Aa r)):=⟨λh=>by
 refine dk 32 k112 ?_
 simp only[k112,Kf.of,zs,ze]
 unfold Ir at h
 have q1:∀ (m:List Ent) (o:Option Bool),mB false (.v (.bool false)) m (o.map sa)=some (.v (.bool (o.getD false)),m):=λ_ o=>by cases o <;> rfl
 have q2:∀ (k:Int) (x:Bool) l,Is (.int .i64 k) (.v (.bool x)) (em sa l)=em sa (jI k x l):=λ_ _ _=>NK (e:=sa)
 have q3:=λl=>xK (e:=sa) (l:=l)
 exact pg (And.intro mr.eq_1 (And.intro Zf.eq_1 (And.intro xk.eq_1 gaa.eq_1))) (.l 2 1 (EN [17,8,9,24,25,8,41,8,17,10,137] [0,261]) (EN [17,8,9,24,25,8,41] [0,261]) [] .o (.i gaa 2 61 ⟨[.u [.s (.own 2 0),.i 1]],[.O 0,.O 1,.ni 4 0]⟩ (.l 3 2 (EN [8,2,65,16,19,18,25] [1,9,1036]) (EN [8,2,80,19] [1,9,1036]) [0,4,17] (.z 1 (.j 1 (EN [8,225,2,289] [1,9,16]) .o (.j 2 (EN [8,2,217] [1,9,522]) (.z 3 (.j 1 (EN [8,225,152,2,137] [1,9,16,24]) .o (.b .o (.t [0,4,264])))) .o))) .o) .o))⟩
theorem Ns{t0 t1 r} (h:Td t0 t1=some r):Den Tryz.prog 176 [Wp t0,Pv t1] (sa r):=by
 refine dk 5 k176 ?_
 simp only[k176,Kf.of,zs,ze]
 unfold Td at h
 exact pg trivial .o
instance zI176{t0 t1 r}:Con (Td t0 t1=some r) (Den Tryz.prog 176 [Wp t0,Pv t1] (sa r)):=⟨Ns⟩
instance zO:C2 k290 Ri:=pg (And.intro k290.eq_1 Ri.eq_1) (.z 2 (.j 1 (EN [33,176,2,265] []) .o (.z 3 (.j 1 (EN [88,2,113] []) (.z 1 (.j 1 (EN [88,9,344,2,33] []) .o .o)) .o))))
instance Z6:C5 k82 Gs:=pg (And.intro (And.intro k82.eq_1 Gs.eq_1) mn.eq_1) (.l 3 2 (EN [17,8,57,8,11,10,41,18,265] [0,1028]) (EN [9,16,57,8,11,10,25] [0,1028]) [0,17] (.z 2 (.j 2 (EN [97,10,49] [0,258]) (.z 3 (.j 1 (EN [153,96,2,161] [0,8,16]) .o (.b .o (.t [0,260])))) .o)) .o)
instance zI175{t0 c10 r}:Con (Nb t0 (λx900=>Td x900 c10)=some r) (Den Tryz.prog 175 [Vx t0,.fn 176 [] [Pv c10]] (.tup [ca r.1,sa r.2])):=⟨λh=>Aq (q1:=[Pv c10]) (bE YB) (λx900 _ hb=>Ns hb) h⟩
instance FW:C2 k151 yn:=pg (And.intro (And.intro k151.eq_1 yn.eq_1) vj.eq_1) (.z 4 (.j 1 (EN [8,25,200,2,729] [0]) .o (.l 1 0 (EN [16,217,128,17,2,585] [0]) (EN [] []) [] (.z 5 (.j 1 (EN [16,369,184,2,393] [0,8]) .o (.z 1 (.j 1 (EN [16,553,200,2,193] [0,8]) .o (.z 1 (.j 1 (EN [16,753,88,2,105] [0,8]) .o .o)))))) .o)))
instance K6:C3 k275 Vb:=pg (And.intro k275.eq_1 Vb.eq_1) (.z 3 (.j 1 (EN [24,33,32,9,2,1009] [0,8,16,24]) .o (.b .o (.b .o (.j 1 (EN [24,73,168,2,841] [0,8,16,24]) .o (.b .o (.j 1 (EN [24,241,88,2,753] [0,8,16,24]) .o (.b .o (.b .o (.b .o (.b .o (.b .o (.b (.j 3 ⟨[.k 6,.p 1,.s (ca 0),.p 3],[.h 3 [.g [.i 0,.i 1,.i 2]]]⟩ (.t [12]) .o) (.b (.j 3 ⟨[.k 6,.p 1,.s (ca 0),.p 3],[.h 3 [.g [.i 0,.i 1,.i 2]]]⟩ (.t [12]) .o) .o))))))))))))))
end Go.Proofs.Dev
