/-
  Contracts of the functions: each answers as its plain partial function says.
-/
import Derived.Test.YtadinajclolmnaaGreatDoorQ0
import Derived.Test.YtadinajclolmnaaGreatDoorQ1
import Derived.Test.YtadinajclolmnaaGreatDoorQ2
import Derived.Test.YtadinajclolmnaaGreatDoorQ3
open Option renaming some->M
open And renaming intro->ak
open Go.Proofs.Tryz renaming prog->al
open List renaming length_cons->w!,length_nil->A?,map_cons->w?,map_nil->D!
open Nat renaming reduceAdd->l?
set_option linter.all false
set_option maxHeartbeats 1000000
set_option maxRecDepth 10000
namespace Go.Proofs.Dev
open Go Go.Tm
instance acf:C1 k6 Iv:=pg (ak (ak k6.eq_1 Iv.eq_1) tv.eq_1) (.l (EN [8,9,8,2,257] [0]) (EN [8,9] [0]) [] (.z 1 (.j (EN [8,89,2,185] [0]) .o .o)) (.j (EN [16,2,265] []) .o .o))
instance aH:C2 bB2 ab:=pg (ak (ak bB2.eq_1 ab.eq_1) Hb.eq_1) (.l (EN [33,16,9,2,10,9] []) (EN [33,16,9,2] []) [] .o (.j (EN [32,60,2] []) .o .o))
instance AM:C1 bA6 ag:=pg (ak (ak bA6.eq_1 ag.eq_1) (ak wg.eq_1 (ak Kd.eq_1 (ak Pj.eq_1 (ak Jd.eq_1 (ak vg.eq_1 (ak Hd.eq_1 (ak wc.eq_1 (ak Uf.eq_1 (ak xc.eq_1 (ak xg.eq_1 (ak bw5.eq_1 (ak bz0.eq_1 aq0.eq_1))))))))))))) (.l (EN [8,9,8,11,65,8,17,10,329] [0,516]) (EN [8,9,8,11,65] [0,516]) [0,9] (.l (EN [8,33,64,25,32,17,10,273] [0,258]) (EN [8,33,64,25] [0,258]) [] (.b (.t [0,260]) .o) .o) (.l (EN [24,241,8,17,10,161] [258]) (EN [24,241] [258]) [4] (.l (EN [24,49,200,25,32,17,10,105] [2]) (EN [24,49,200,25] [2]) [] (.b (.t [256]) .o) .o) (.i aq0 25 (EN [11] [1,260]) (.l (EN [24,11,33,10,137] [1,260]) (EN [24,11,17] [1,260]) [0,5] (.z 2 (.j (EN [24,49] [1,258]) (.b (.t [0,260]) .o) .o)) (.t [0,260])) (.c bz0 40 (.i bw5 17 (EN [2] [1,9]) (.l (EN [33,24,9,2,81] [1,9]) (EN [] [1,9]) [] .o .o) (.b (.v .o) (.l (EN [33,8,10,18,9] [1,259]) (EN [9,32,10] [1,259]) [] (.z 2 (.j (EN [41,10,81] [1,259]) .o .o)) (.v .o))))))))
instance rO:C1 aq0 Ig:=pg (ak (ak aq0.eq_1 Ig.eq_1) Ue.eq_1) (.l (EN [24,3,33,10,137] [260]) (EN [24,3,17] [260]) [5] (.z 2 (.j (EN [24,49] [2]) (.b (.t [256]) .o) .o)) .o)
def ur{t0 t1 t2 r} (h:Gf t0 t1 t2=M r):k! al 269 [Tf t0,Ei t1,Ei t2] (ya r):=by
 refine dk 12 br6 ?_
 simp only[br6,Kf.of,zs,ze]
 unfold Gf at h
 exact pg trivial (.z 1 (.j (EN [32,2,81] []) .o .o))
instance acg{t0 t1 t2 r}:r? (Gf t0 t1 t2=M r) (k! al 269 [Tf t0,Ei t1,Ei t2] (ya r)):=⟨ur⟩
instance Qaa:C3 bq0 ta:=pg (ak bq0.eq_1 ta.eq_1) (.b .o (.b .o (.b (.z 1 (.j (EN [48,2] []) .o .o)) (.b (.z 1 (.j (EN [48,2,9] []) .o .o)) (.j (EN [8,9,8,25,600,2,409] [0,8]) .o (.b .o (.b .o (.b .o (.b (.j (EN [48,2,593] []) .o .o) .o)))))))))
def mw{t0 t1 t2 r} (h:Sf t0 t1 t2=M r):k! al 315 [lr t0,Ei t1,Ei t2] (ya r):=by
 refine dk 18 bn6 ?_
 simp only[bn6,Kf.of,zs,ze]
 unfold Sf at h
 exact pg trivial (.z 1 (.j (EN [32,2,129] []) .o .o))
instance ach{t0 t1 t2 r}:r? (Sf t0 t1 t2=M r) (k! al 315 [lr t0,Ei t1,Ei t2] (ya r)):=⟨mw⟩
instance V6:C3 bn4 Fo:=pg (ak bn4.eq_1 Fo.eq_1) (.z 4 (.j (EN [49,136,2,289] []) .o (.z 1 (.j (EN [65,2,113] []) .o (.z 5 (.j (EN [88,201,176,2,9] []) .o .o))))))
instance r8:C2 k99 Ih:=pg (ak k99.eq_1 Ih.eq_1) .o
instance n9:C2 bC5 Ro:=pg (ak (ak bC5.eq_1 Ro.eq_1) Yp.eq_1) (.l ⟨[.k 1,.p 3,.k 1,.s (.own 1 0),.i 2],[.h 0 [.g [.i 0,.p 1]],.ni 2 1]⟩ ⟨[.k 2,.p 2,.k 1,.s (.own 1 0)],[.h 0 [.g [.i 0,.p 1]],.ni 2 1]⟩ [0,9] (.z 1 (.j (EN [8,217,2,169] [0,8]) .o (.b (.t [0,260]) .o))) .o)
instance dU:C2 aq2 Vd:=pg (ak (ak aq2.eq_1 Vd.eq_1) (ak Ze.eq_1 af.eq_1)) (.l (EN [8,25,8,3,57,10,297] [516]) (EN [40,3,41] [516]) [9] (.z 2 (.j (EN [8,105] [2]) (.z 1 (.j (EN [8,105,88,2,201] [0,8]) .o (.b (.t [256]) .o))) .o)) (.z 3 (.d [] [] (.l (EN [64,3,185,8,17,10,121] [260]) (EN [64,3,185] [260]) [5] (.z 2 (.j (EN [64,225] [2]) (.z 1 (.j (EN [64,225,64,2,49] [0]) .o (.b (.t [256]) .o))) .o)) .o))))
def UB{t0 t1 r} (h:Vd t0 t1=M r):Wr al 137 [.own 0 0,da t1] [(9,t0.map sd)] (pb r):=by
 refine Wr.of 49 aq2 ?_ aaW
 simp only[aq2,Kf.of,zs,ze,qv,w?,D!,w!,A?,l?]
 unfold Vd at h
 exact pg (ak Ze.eq_1 af.eq_1) (.l (EN [8,25,8,11,57,10,297] [1,516]) (EN [40,11,41] [1,516]) [0,9] (.z 2 (.j (EN [8,105] [1,258]) (.z 1 (.j (EN [8,105,88,2,201] [1,8,16]) .o (.b (.t [0,260]) .o))) .o)) (.z 3 (.d [1] [] (.l (EN [64,11,185,8,17,10,121] [1,260]) (EN [64,11,185] [1,260]) [0,5] (.z 2 (.j (EN [64,225] [1,258]) (.z 1 (.j (EN [64,225,64,2,49] [1,8]) .o (.b (.t [0,260]) .o))) .o)) .o))))
instance aci{t0 t1 r}:Γ (Vd t0 t1=M r) (Wr al 137 [.own 0 0,da t1] [(9,t0.map sd)] (pb r)):=⟨UB⟩
instance acj{t0 c10 c11 r}:r? (Hf t0 (λx900=>Gf x900 c10 c11)=M r) (k! al 268 [Fk t0,.fn 269 [] [Ei c10,Ei c11]] (.tup [pb r.1,pb r.2])):=⟨λh=>Ny (q1:=[Ei c10,Ei c11]) (gH (gH lF)) (λx900 _ hb=>ur hb) h⟩
instance nV:C3 bs3 Gk:=pg (ak (ak bs3.eq_1 Gk.eq_1) qh.eq_1) (.z 2 (.d [0] [] (.l (EN [24,9,40,17,11,17,56,17,10,129] [0,260]) (EN [72,17,3,17] [260]) [0,5] (.b (.t [0,260]) (.t [4])) .o)))
instance ack{t0 c10 c11 r}:r? (jc t0 (λx900=>Sf x900 c10 c11)=M r) (k! al 202 [fA t0,.fn 315 [] [Ei c10,Ei c11]] (.tup [da r.1,ya r.2])):=⟨λh=>Tr (q1:=[Ei c10,Ei c11]) (gH (gH lF)) (λx900 _ hb=>mw hb) h⟩
instance Vad:C3 bo3 Sr:=pg (ak bo3.eq_1 Sr.eq_1) .o
instance S6:C4 bo2 Bo:=pg (ak (ak bo2.eq_1 Bo.eq_1) Kj.eq_1) (.z 2 (.j (EN [8,57,128,2,521] [0]) .o (.z 1 (.j (EN [8,185,80,2,441] [0]) .o (.z 1 (.j (EN [8,265,48,2,393] [0]) .o (.l (EN [8,25,48,2,10,225,16,17,18,361] []) (EN [24,9,48,2,10,225] []) [] (.z 2 (.e (EN [8,73,2,10,265] []) (.z 3 (.j (EN [8,353,152,2,201] [0]) .o .o)) .o)) .o)))))))
instance oU:C2 k74 Ff:=pg (ak k74.eq_1 Ff.eq_1) (.z 1 (.j (EN [32,2,89] []) .o .o))
instance XT:C3 aq5 mc:=pg (ak (ak aq5.eq_1 mc.eq_1) (ak Cg.eq_1 (ak Dg.eq_1 (ak Bg.eq_1 (ak Eg.eq_1 (ak aq1.eq_1 aq3.eq_1)))))) (.i aq3 35 (EN [27] [1,9,17,260]) (.l (EN [17,8,2,57,10,193] [1,9,17]) (EN [17,8,2,41] [1,9,17]) [] .o (.i aq1 25 (EN [27] [1,9,17,260]) (.z 3 (.j (EN [27] [1,9,17,260]) (.b (.t [0,4,8,268]) (.t [0,4,8,5])) .o)) (.l (EN [48,137,16,17,10,65] [1,9,17,770]) (EN [48,137] [1,9,17,770]) [] (.b (.t [0,4,8,268]) .o) .o))) .o)
def JB{t0 t1 t2 r} (h:mc t0 t1 t2=M r):Wr al 113 [mq t0,.agg [da t1.Id,da t1.Scope,da t1.w,.own 0 0],da t2] [(9,t1.ab.map sd)] (pb r):=by
 refine Wr.of 17 aq5 ?_ aaW
 simp only[aq5,Kf.of,zs,ze,qv,w?,D!,w!,A?,l?]
 unfold mc at h
 exact pg (ak Cg.eq_1 (ak Dg.eq_1 (ak Bg.eq_1 (ak Eg.eq_1 (ak aq1.eq_1 aq3.eq_1))))) (.i aq3 35 (EN [35] [1,9,17,25,260]) (.l (EN [17,8,2,57,10,193] [1,9,17,25]) (EN [17,8,2,41] [1,9,17,25]) [] .o (.i aq1 25 (EN [35] [1,9,17,25,260]) (.z 3 (.j (EN [35] [1,9,17,25,260]) (.b (.t [0,4,8,12,272]) (.t [0,4,8,12,5])) .o)) (.l (EN [48,137,16,17,10,65] [1,9,17,25,1026]) (EN [48,137] [1,9,17,25,1026]) [] (.b (.t [0,4,8,12,272]) .o) .o))) .o)
instance acm{t0 t1 t2 r}:Γ (mc t0 t1 t2=M r) (Wr al 113 [mq t0,.agg [da t1.Id,da t1.Scope,da t1.w,.own 0 0],da t2] [(9,t1.ab.map sd)] (pb r)):=⟨JB⟩
instance acn:C3 bw8 Pq:=pg (ak (ak bw8.eq_1 Pq.eq_1) Ur.eq_1) (.l (EN [8,2,10,25] [0]) (EN [] []) [] (.z 2 (.e (EN [8,9,2,41] [0]) .o .o)) .o)
end Go.Proofs.Dev
