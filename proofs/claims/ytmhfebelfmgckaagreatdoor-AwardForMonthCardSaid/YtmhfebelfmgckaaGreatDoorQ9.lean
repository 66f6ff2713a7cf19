/-
  Contracts of the functions: each answers as its plain partial function says.
-/
import Derived.Test.YtmhfebelfmgckaaGreatDoorK
import Derived.Test.YtmhfebelfmgckaaGreatDoorG
import Derived.Test.YtmhfebelfmgckaaGreatDoorPE
import Derived.Test.YtmhfebelfmgckaaGreatDoorH1
import Derived.Test.YtmhfebelfmgckaaGreatDoorH2
import Derived.Test.YtmhfebelfmgckaaGreatDoorL1
import Derived.Test.YtmhfebelfmgckaaGreatDoorQ4
import Derived.Test.YtmhfebelfmgckaaGreatDoorQ5
import Derived.Test.YtmhfebelfmgckaaGreatDoorQ6
import Derived.Test.YtmhfebelfmgckaaGreatDoorQ7
open And renaming intro->ak
open Go.Proofs.Tryz renaming prog->al
set_option linter.all false
set_option maxHeartbeats 1000000
set_option maxRecDepth 10000
namespace Go.Proofs.Dev
open Go Go.Tm
variable {R339:((List GNode) -> Int -> GEnv -> Option (GValue × Int))}{R385:((List GNode) -> Int -> (List Int) -> GEnv -> Option (GValue × Int))}
instance X8:C3 k417 Ld:=pg (ak k417.eq_1 Ld.eq_1) (.b .o (.b .o (.j (EN [24,33,64,9,216,2,721] [0,8,16,24]) .o (.b .o (.z 3 (.j (EN [24,97,800,2,145] [0,8,16,24,32]) .o .o))))))
instance ref13_dated_C:C3 k450 ln:=pg (ak k450.eq_1 ln.eq_1) (.z 4 (.j (EN [9,24,25,96,2,393] [0,8,16]) .o .o))
instance S8:C3 k418 pb:=pg (ak k418.eq_1 pb.eq_1) (.z 2 (.j (EN [24,33,64,2,185] [0,8,16,24]) .o .o))
instance ref13_Apply_C:C3 k386 Wp:=pg (ak (ak k386.eq_1 Wp.eq_1) Km.eq_1) (.l (EN [8,9,8,33,8,2,25] [0,8,16]) (EN [8,9,8,33] [0,8,16]) [] .o (.b (.z 1 (.j (EN [24,265,88,2,513] [0,8,16]) .o .o)) (.b .o (.b .o (.z 1 (.f ⟨[.k 1,.p 111],[.o 0,.o 1,.o 2,.n 3 [],.n 3 [],.n 3 []]⟩ [0,4,8,13,13,13] (.g [[],[],[],[],[],[],[],[],[],[1,2,4,5,7,8],[1,2,4,5,7,8,9],[1,2,4,5,7,8,9,10],[4,5,7,8],[7,8]] [none,none,none,none,none,none,none,none,none,some 3,some 4,some 5,none,none] (.z 1 (.j (EN [48,241,552,2,49] [16,24,32,40]) (.t [8,268,272,276]) .o)))))))))
theorem SG{t0 t1 t2 r} [∀ t0 t1 t2 r,Con (R339 t0 t1 t2=some r) (Den al 339 [Ye t0,da t1,Uj t2] (.tup [Da r.1,da r.2]))] [∀ t0 t1 t2 t3 r,Con (R385 t0 t1 t2 t3=some r) (Den al 385 [Ye t0,da t1,qa t2,Uj t3] (.tup [Da r.1,da r.2]))] (h:Ol R339 R385 t0 t1 t2=some r):Den al 339 [Ye t0,da t1,Uj t2] (.tup [Da r.1,da r.2]):=by
 refine dk 69 k339 ?_
 simp only[k339,Kf.of,zs,ze]
 unfold Ol at h
 exact pg Lm.eq_1 (.z 4 (.j (EN [17,24,17,8,9,176,2,321] [0,8]) .o (.l (EN [81,19,10,153] [0,8,772]) (EN [65,16,19] [0,8,772]) [0,4,13] (.b (.a [[],[],[],[],[],[],[],[],[],[],[],[]] (.b .o (.t [0,4,264]))) .o) .o)))
theorem yI{t0 t1 t2 t3 r} [∀ t0 t1 t2 r,Con (R339 t0 t1 t2=some r) (Den al 339 [Ye t0,da t1,Uj t2] (.tup [Da r.1,da r.2]))] [∀ t0 t1 t2 t3 r,Con (R385 t0 t1 t2 t3=some r) (Den al 385 [Ye t0,da t1,qa t2,Uj t3] (.tup [Da r.1,da r.2]))] (h:Vt R339 R385 t0 t1 t2 t3=some r):Den al 385 [Ye t0,da t1,qa t2,Uj t3] (.tup [Da r.1,da r.2]):=by
 refine dk 98 k385 ?_
 simp only[k385,Kf.of,zs,ze]
 unfold Vt at h
 exact pg trivial (.b .o (.a [[],[],[],[],[],[],[],[],[],[],[]] (.z 3 (.j (EN [25,32,17,8,9,240,2,481] [0,8,16]) .o (.b .o (.b .o (.b .o (.a [[],[],[],[],[],[],[],[],[],[],[]] (.z 3 (.j (EN [64,17,16,9,688,2,17] [8,24]) (.t [4,12]) .o))))))))))
theorem vu:∀n,(∀ t0 t1 t2 r,(Fa n).1 t0 t1 t2=some r->Den al 339 [Ye t0,da t1,Uj t2] (.tup [Da r.1,da r.2]))/\(∀ t0 t1 t2 t3 r,(Fa n).2 t0 t1 t2 t3=some r->Den al 385 [Ye t0,da t1,qa t2,Uj t3] (.tup [Da r.1,da r.2]))
|0=>⟨λ_ _ _ _ h=>(nomatch h),λ_ _ _ _ _ h=>(nomatch h)⟩
|n+1=>by
 obtain⟨H0,H1⟩:=vu n
 haveI I0:∀ t0 t1 t2 r,Con ((Fa n).1 t0 t1 t2=some r) (Den al 339 [Ye t0,da t1,Uj t2] (.tup [Da r.1,da r.2])):=λt0 t1 t2 r=>⟨H0 t0 t1 t2 r⟩
 haveI I1:∀ t0 t1 t2 t3 r,Con ((Fa n).2 t0 t1 t2 t3=some r) (Den al 385 [Ye t0,da t1,qa t2,Uj t3] (.tup [Da r.1,da r.2])):=λt0 t1 t2 t3 r=>⟨H1 t0 t1 t2 t3 r⟩
 exact⟨λt0 t1 t2 r h=>SG (R339:=(Fa n).1) (R385:=(Fa n).2) h,λt0 t1 t2 t3 r h=>yI (R339:=(Fa n).1) (R385:=(Fa n).2) h⟩
theorem MK{t0 t1 t2 r} (h:Cy t0 t1 t2=some r):Den al 339 [Ye t0,da t1,Uj t2] (.tup [Da r.1,da r.2]):=(vu tf).1 _ _ _ _ h
instance zI339{t0 t1 t2 r}:Con (Cy t0 t1 t2=some r) (Den al 339 [Ye t0,da t1,Uj t2] (.tup [Da r.1,da r.2])):=⟨MK⟩
theorem nM{t0 t1 t2 t3 r} (h:LK t0 t1 t2 t3=some r):Den al 385 [Ye t0,da t1,qa t2,Uj t3] (.tup [Da r.1,da r.2]):=(vu tf).2 _ _ _ _ _ h
instance zI385{t0 t1 t2 t3 r}:Con (LK t0 t1 t2 t3=some r) (Den al 385 [Ye t0,da t1,qa t2,Uj t3] (.tup [Da r.1,da r.2])):=⟨nM⟩
instance ref13_Eval_C:C2 k295 Su:=pg (ak k295.eq_1 Su.eq_1) .o
instance o9:C4 k294 du:=pg (ak (ak k294.eq_1 du.eq_1) Sr.eq_1) (.l (EN [16,49,8,33,27,10,33] [0,8,16,260]) (EN [72,33,11] [16,260]) [0,4,8,5] (.b (.e (EN [16,209] [0,8,16,770]) (.b (.t [0,4,8,268]) (.b .o (.t [0,4,8,268]))) .o) (.t [8,12])) .o)
instance p9:C4 k252 Pw:=pg (ak k252.eq_1 Pw.eq_1) (.b (.a [[],[],[1],[]] .o) (.b .o (.b .o (.a [[],[],[],[],[],[],[],[],[],[],[],[],[]] .o))))
instance BZ:C4 k187 xj:=pg (ak (ak k187.eq_1 xj.eq_1) Zo.eq_1) (.l ⟨[.k 2,.p 6,.k 2,.p 4,.k 1,.i 2,.p 4],[.o 0,.h 1 [.g [.p 2,.k 1,.p 3]],.o 2,.ci 3 0,.ci 4 1]⟩ (EN [80,25] [16,770,1034]) [] (.b (.e (EN [16,249] [0,8,16,770,1034]) .o .o) (.t [8,12,16])) .o)
instance CN:C4 k186 Qj:=pg (ak (ak k186.eq_1 Qj.eq_1) gh.eq_1) (.l (EN [24,41,16,9,27,35,9,18,25] [0,8,16,260,268,24]) (EN [80,9,11,19] [16,260,268]) [0,4,8,5,5,12] (.b (.b .o (.t [0,4,8,268,272,20])) (.t [8,12,16])) .o)
end Go.Proofs.Dev
