/-
  Contracts of the functions: each answers as its plain partial function says.
-/
import Derived.Test.YtadinajclolmnaaGreatDoorQ8
open Option renaming some->M
open And renaming intro->ak
set_option linter.all false
set_option maxHeartbeats 1000000
set_option maxRecDepth 10000
namespace Go.Proofs.Dev
open Go Go.Tm
instance q9:C4 k26 Fe:=pg (ak k26.eq_1 Fe.eq_1) (.z 7 (.j ⟨[.k 3,.p 1,.k 4,.p 1,.k 1,.p 1,.k 2,.p 1,.i 2,.p 5],[.o 3,.h 4 [.g [.p 2,.i 0,.p 5,.i 1]]]⟩ (.t [12,16]) .o))
instance I7:C4 k33 Oj:=pg (ak k33.eq_1 Oj.eq_1) .o
instance aec{t0 t1 t2 t3 t4 t5 r}:r? (kg t0 t1 t2 t3 t4 t5=M r) (k! Tryz.prog 14 [mq t0,Ge t1,tr t2,da t3,Rn t4,da t5] (.tup [Rn r.1,ya r.2])):=⟨λh=>by
 refine dk 88 k14 ?_
 simp only[k14,Kf.of,zs,ze]
 unfold kg at h
 have q1:∀ (m:List Ent) (o:Option Bool),sz false (.v (.bool false)) m (o.map ya)=M (.v (.bool (o.getD false)),m):=λ_ o=>by cases o <;> rfl
 have q2:∀ (k:Int) (x:Bool) l,Er (.int .i64 k) (.v (.bool x)) (em ya l)=em ya (ZC k x l):=λ_ _ _=>aG (e:=ya)
 have q3:=λl=>MF (e:=ya) (l:=l)
 exact pg (ak tg.eq_1 Bp.eq_1) (.l (EN [16,17,8,57,32,73,80,17,10,449] [0,8,16,773]) (EN [16,17,8,57,32,73] [0,8,16,773]) [] (.z 2 (.j (EN [16,289] [0,8,16,773]) .o .o)) (.l (EN [24,17,8,113,18,225,16,17,26,321] [0,8,514,781]) (EN [128,9] [514]) [] (.b (.e (EN [24,137,18,265] [0,8,514,781]) (.b .o (.b .o (.b .o (.t [0,4,264,12])))) .o) (.t [8])) .o))⟩
instance aed:C0 k7 Dh:=pg (ak k7.eq_1 Dh.eq_1) (.a [[],[],[],[],[],[],[],[],[],[],[],[],[],[]] (.z 5 (.j (EN [16,9,40,17,544,2,257] [8]) (.t [4]) (.b .o (.j (EN [2,9] []) .o .o)))))
instance XB:C2 k3 qj:=pg (ak k3.eq_1 qj.eq_1) (.z 2 (.j (EN [8,25,64,2,193] [0]) .o (.b .o (.j (EN [32,2,57] []) .o .o))))
def tA{t0 t1 r} (h:qj t0 t1=M r):k! Tryz.prog 3 [pe t0,Rn t1] (ya r):=XB.h h
instance Xy:C2 k4 Ng:=pg (ak (ak k4.eq_1 Ng.eq_1) Vg.eq_1) (.z 2 (.j (EN [8,25,160,2,921] [0]) .o (.l (EN [8,49,2,10,121] [0]) (EN [16,41,2] [0]) [] (.z 6 (.j (EN [8,49,8,17,656,2,377] [0]) .o .o)) (.z 2 (.j (EN [32,2] []) .o .o)))))
def aN{t0 t1 r} (h:Ng t0 t1=M r):k! Tryz.prog 4 [pe t0,pb t1] (ya r):=Xy.h h
end Go.Proofs.Dev
