/-
  Contracts of the functions: each answers as its plain partial function says.
-/
import Derived.Test.YtjjfnbpfgfopbaaGreatDoorK
import Derived.Test.YtjjfnbpfgfopbaaGreatDoorG
import Derived.Test.YtjjfnbpfgfopbaaGreatDoorPE
import Derived.Test.YtjjfnbpfgfopbaaGreatDoorH1
import Derived.Test.YtjjfnbpfgfopbaaGreatDoorH2
import Derived.Test.YtjjfnbpfgfopbaaGreatDoorL1
import Derived.Test.YtjjfnbpfgfopbaaGreatDoorQ4
import Derived.Test.YtjjfnbpfgfopbaaGreatDoorQ5
import Derived.Test.YtjjfnbpfgfopbaaGreatDoorQ6
import Derived.Test.YtjjfnbpfgfopbaaGreatDoorQ7
open List renaming length_cons->qaa,length_nil->Aaa,map_cons->vaa,map_nil->gab
open Nat renaming reduceAdd->Caa
set_option linter.all false
set_option maxHeartbeats 1000000
set_option maxRecDepth 10000
namespace Go.Proofs.Dev
open Go Go.Tm
variable {R227 R250:(GEval_evaluator -> Int -> Option (GValue × Int))}{R242:(GEval_evaluator -> GNode -> (List Int) -> Option (GValue × Int))}
instance wS:C1 k107 Wo:=pg (And.intro (And.intro k107.eq_1 Wo.eq_1) Xh.eq_1) (.l 1 0 (EN [8,57,48,17,2,409] [0,8]) (EN [16,49] [8]) [] (.b (.z 4 (.j 2 ⟨[.k 1,.p 2,.k 2,.p 1,.k 8,.p 3],[.o 0,.o 1,.h 3 [.g [.i 0,.p 2,.i 1]]]⟩ (.b (.t [0,4,12]) (.j 1 (EN [8,17,16,97,152,2,249] [0,8,24]) (.t [0,4,12]) .o)) .o)) (.t [4])) .o)
instance q7:C3 k156 Ps:=pg (And.intro k156.eq_1 Ps.eq_1) (.z 4 (.j 1 (EN [8,41,120,2,113] [0]) .o .o))
instance zI213{t0 c10 r}:Con (db t0 (λx900=>Pe x900 c10)=some r) (Den Tryz.prog 213 [Wj t0,.fn 214 [] [Ot c10]] (sa r)):=⟨λh=>bm (q1:=[Ot c10]) (bE YB) (λx900 _ hb=>Et hb) h⟩
instance lX:C3 k189 Ho:=pg (And.intro (And.intro k189.eq_1 Ho.eq_1) pk.eq_1) (.l 2 1 (EN [8,9,8,25,8,9,2,25,64,17,10,977] [0,8,16]) (EN [8,9,8,25,8,9,2,25] [0,8,16]) [] (.z 2 (.j 1 (EN [8,57,2,113] [0,8,16]) .o .o)) (.b .o (.b .o (.j 1 (EN [8,265,96,2,785] [0,8,16]) .o (.b .o (.j 1 (EN [24,345,96,2,689] [0,8,16]) .o (.b .o (.j 1 (EN [24,441,216,2,473] [0,8,16]) .o (.b .o (.j 1 (EN [24,657,72,2,401] [0,8,16]) .o (.b .o (.b .o (.b .o (.e 0 (EN [24,41] [0,8,16]) .o .o))))))))))))))
instance sZ:C3 k255 Ba:=pg (And.intro k255.eq_1 Ba.eq_1) (.z 3 (.j 1 (EN [8,9,8,33,56,9,2,1193] [0,8,16]) .o (.b .o (.b .o (.b .o (.b .o (.b .o (.b .o (.j 1 (EN [8,113,376,2,817] [0,8,16]) .o .o)))))))))
instance aU:C3 k114 Sj:=pg (And.intro k114.eq_1 Sj.eq_1) .o
instance zI185{t0 c10 r}:Con (Ta t0 (λx900=>Nd x900 c10)=some r) (Den Tryz.prog 185 [Xq t0,.fn 186 [] [Vq c10]] (sa r)):=⟨λh=>Bl (q1:=[Vq c10]) (bE YB) (λx900 _ hb=>Cs hb) h⟩
instance FV:C2 k155 kn:=pg (And.intro (And.intro k155.eq_1 kn.eq_1) (And.intro cj.eq_1 (And.intro dj.eq_1 (And.intro fj.eq_1 ij.eq_1)))) (.z 3 (.j 1 (EN [8,25,16,17,2,81] [0,8]) .o (.b .o (.b .o (.j 1 (EN [8,49,360,2,881] [0,8]) .o (.l 1 0 (EN [8,409,280,17,2,585] [0,8]) (EN [8,409] [0,8]) [] .o (.l 1 0 (EN [8,849,8,17,2,417] [0,8]) (EN [8,849] [0,8]) [] .o (.l 1 0 (EN [48,993,40,9,2,209] [8,16]) (EN [48,73] [8]) [4,8] .o (.l 1 0 (EN [48,1145,16,9,2,81] [0]) (EN [] []) [] .o .o)))))))))
instance e9:C3 k243 zj:=pg (And.intro k243.eq_1 zj.eq_1) (.z 2 (.j 1 (EN [8,9,8,33,104,2,265] [0,8,16]) .o (.z 3 (.j 1 (EN [8,153,128,2,137] [0,8,16]) .o .o))))
instance F6:C6 k84 Qr:=pg (And.intro k84.eq_1 Qr.eq_1) (.z 2 (.j 1 (EN [41,48,17,152,2,345] [0,8]) .o (.z 3 (.j 1 (EN [257,152,2,193] [0,8]) .o (.z 1 (.j 2 ⟨[.k 12,.p 39],[.o 1,.h 2 [.g [.p 4,.i 0,.i 1,.p 1]]]⟩ (.t [4,8]) .o))))))
instance vS:C1 k108 Vo:=pg (And.intro (And.intro k108.eq_1 Vo.eq_1) Vh.eq_1) (.l 1 0 (EN [8,41,56,9,2,129] [0,8]) (EN [16,33] [8]) [] (.b .o (.t [4])) .o)
theorem qv{t0 t1 r} [∀ t0 t1 r,Con (R227 t0 t1=some r) (Den Tryz.prog 227 [qa t0,ca t1] (.tup [Qa r.1,ca r.2]))] [∀ t0 t1 t2 r,Con (R242 t0 t1 t2=some r) (Den Tryz.prog 242 [qa t0,Wi t1,Xa t2] (.tup [Qa r.1,ca r.2]))] [∀ t0 t1 r,Con (R250 t0 t1=some r) (Den Tryz.prog 250 [qa t0,ca t1] (.tup [Qa r.1,ca r.2]))] (h:Dc R227 R242 R250 t0 t1=some r):Den Tryz.prog 227 [qa t0,ca t1] (.tup [Qa r.1,ca r.2]):=by
 refine dk 63 k227 ?_
 simp only[k227,Kf.of,zs,ze]
 unfold Dc at h
 exact pg bd.eq_1 (.z 5 (.j 1 (EN [16,25,8,57,80,2,329] [0,8,16]) .o (.l 2 1 (EN [16,41,8,121,104,17,10,209] [0,8,16,770]) (EN [16,41,8,121] [0,8,16,770]) [] .o .o)))
theorem pv{t0 t1 t2 r} [∀ t0 t1 r,Con (R227 t0 t1=some r) (Den Tryz.prog 227 [qa t0,ca t1] (.tup [Qa r.1,ca r.2]))] [∀ t0 t1 t2 r,Con (R242 t0 t1 t2=some r) (Den Tryz.prog 242 [qa t0,Wi t1,Xa t2] (.tup [Qa r.1,ca r.2]))] [∀ t0 t1 r,Con (R250 t0 t1=some r) (Den Tryz.prog 250 [qa t0,ca t1] (.tup [Qa r.1,ca r.2]))] (h:Qf R227 R242 R250 t0 t1 t2=some r):Den Tryz.prog 242 [qa t0,Wi t1,Xa t2] (.tup [Qa r.1,ca r.2]):=by
 refine dk 66 k242 ?_
 simp only[k242,Kf.of,zs,ze]
 unfold Qf at h
 exact pg trivial (.b .o (.a [[],[],[],[],[],[],[],[],[],[]] (.z 3 (.j 1 (EN [16,41,8,9,136,2,337] [0,8,16,24]) .o .o))))
theorem It{t0 t1 r} [∀ t0 t1 r,Con (R227 t0 t1=some r) (Den Tryz.prog 227 [qa t0,ca t1] (.tup [Qa r.1,ca r.2]))] [∀ t0 t1 t2 r,Con (R242 t0 t1 t2=some r) (Den Tryz.prog 242 [qa t0,Wi t1,Xa t2] (.tup [Qa r.1,ca r.2]))] [∀ t0 t1 r,Con (R250 t0 t1=some r) (Den Tryz.prog 250 [qa t0,ca t1] (.tup [Qa r.1,ca r.2]))] (h:zc R227 R242 R250 t0 t1=some r):Den Tryz.prog 250 [qa t0,ca t1] (.tup [Qa r.1,ca r.2]):=by
 refine dk 26 k250 ?_
 simp only[k250,Kf.of,zs,ze]
 unfold zc at h
 exact pg trivial (.z 5 (.j 1 (EN [32,9,8,9,144,2,17] [8,16]) (.t [4,8]) .o))
theorem bg:∀n,(∀ t0 t1 r,(ba n).1 t0 t1=some r->Den Tryz.prog 227 [qa t0,ca t1] (.tup [Qa r.1,ca r.2]))/\(∀ t0 t1 t2 r,(ba n).2.1 t0 t1 t2=some r->Den Tryz.prog 242 [qa t0,Wi t1,Xa t2] (.tup [Qa r.1,ca r.2]))/\(∀ t0 t1 r,(ba n).2.2 t0 t1=some r->Den Tryz.prog 250 [qa t0,ca t1] (.tup [Qa r.1,ca r.2]))
|0=>⟨λ_ _ _ h=>(nomatch h),λ_ _ _ _ h=>(nomatch h),λ_ _ _ h=>(nomatch h)⟩
|n+1=>by
 obtain⟨H0,H1,H2⟩:=bg n
 haveI I0:∀ t0 t1 r,Con ((ba n).1 t0 t1=some r) (Den Tryz.prog 227 [qa t0,ca t1] (.tup [Qa r.1,ca r.2])):=λt0 t1 r=>⟨H0 t0 t1 r⟩
 haveI I1:∀ t0 t1 t2 r,Con ((ba n).2.1 t0 t1 t2=some r) (Den Tryz.prog 242 [qa t0,Wi t1,Xa t2] (.tup [Qa r.1,ca r.2])):=λt0 t1 t2 r=>⟨H1 t0 t1 t2 r⟩
 haveI I2:∀ t0 t1 r,Con ((ba n).2.2 t0 t1=some r) (Den Tryz.prog 250 [qa t0,ca t1] (.tup [Qa r.1,ca r.2])):=λt0 t1 r=>⟨H2 t0 t1 r⟩
 exact⟨λt0 t1 r h=>qv (R227:=(ba n).1) (R242:=(ba n).2.1) (R250:=(ba n).2.2) h,λt0 t1 t2 r h=>pv (R227:=(ba n).1) (R242:=(ba n).2.1) (R250:=(ba n).2.2) h,λt0 t1 r h=>It (R227:=(ba n).1) (R242:=(ba n).2.1) (R250:=(ba n).2.2) h⟩
theorem Ew{t0 t1 r} (h:Kj t0 t1=some r):Den Tryz.prog 227 [qa t0,ca t1] (.tup [Qa r.1,ca r.2]):=(bg Wu).1 _ _ _ h
instance zI227{t0 t1 r}:Con (Kj t0 t1=some r) (Den Tryz.prog 227 [qa t0,ca t1] (.tup [Qa r.1,ca r.2])):=⟨Ew⟩
theorem Dw{t0 t1 t2 r} (h:Dt t0 t1 t2=some r):Den Tryz.prog 242 [qa t0,Wi t1,Xa t2] (.tup [Qa r.1,ca r.2]):=(bg Wu).2.1 _ _ _ _ h
instance zI242{t0 t1 t2 r}:Con (Dt t0 t1 t2=some r) (Den Tryz.prog 242 [qa t0,Wi t1,Xa t2] (.tup [Qa r.1,ca r.2])):=⟨Dw⟩
theorem Cu{t0 t1 r} (h:aq t0 t1=some r):Den Tryz.prog 250 [qa t0,ca t1] (.tup [Qa r.1,ca r.2]):=(bg Wu).2.2 _ _ _ h
instance zI250{t0 t1 r}:Con (aq t0 t1=some r) (Den Tryz.prog 250 [qa t0,ca t1] (.tup [Qa r.1,ca r.2])):=⟨Cu⟩
instance XZ:C1 k74 ql:=pg (And.intro k74.eq_1 ql.eq_1) .o
instance eval_Eval_C:C2 k203 Ql:=pg (And.intro k203.eq_1 Ql.eq_1) .o
instance PJ:C3 k37 Fa:=pg (And.intro k37.eq_1 Fa.eq_1) (.z 4 (.j 1 (EN [8,9,8,25,240,2,545] [0,8]) .o (.z 3 (.j 1 (EN [40,249,216,2,329] [8]) (.t [4]) (.z 1 (.j 1 (EN [512,2,321] []) (.j 1 (EN [40,465,8,2,321] [0]) .o (.j 1 (EN [40,473,2,321] [0]) .o (.j 1 (EN [40,473,2,321] [0]) .o (.j 1 (EN [40,473,2,321] [0]) .o .o)))) .o))))))
instance XP:C4 k102 Fh:=pg (And.intro (And.intro k102.eq_1 Fh.eq_1) Nj.eq_1) (.z 7 (.j 1 (EN [16,57,248,2,497] [0,8,16]) .o (.l 2 1 ⟨[.k 2,.p 2,.k 1,.p 8,.k 2,.p 1,.k 59,.p 2,.i 1,.p 25],[.o 1,.o 2,.h 3 [.g [.p 2,.s (.own 3 0)]],.ni 1 0]⟩ ⟨[.k 8,.p 5],[.o 2,.h 3 [.g [.p 2,.s (.own 2 0)]],.ni 1 0]⟩ [4,8,12,5] (.b (.b .o (.t [0,4,8,268])) (.t [4,8,12])) .o)))
instance bJ:C5 k145 Ec:=pg (And.intro k145.eq_1 Ec.eq_1) (.z 5 (.j 1 (EN [8,9,24,49,288,2,121] [0,8,16]) .o .o))
instance oS:C4 k202 Ug:=pg (And.intro (And.intro k202.eq_1 Ug.eq_1) il.eq_1) (.l 2 1 (EN [16,49,8,81,96,17,10,425] [0,8,16,770]) (EN [72,81] [16,770]) [] (.b (.e 1 (EN [16,257] [0,8,16,770]) (.b .o (.a [[],[],[],[],[],[],[],[],[],[],[],[],[]] .o)) .o) (.t [8,12])) .o)
instance VO:C3 k9 Ae:=pg (And.intro (And.intro k9.eq_1 Ae.eq_1) (And.intro Xg.eq_1 Yg.eq_1)) (.z 7 (.j 1 (EN [32,17,328,2,521] [8,16]) (.t [4,8]) (.l 1 0 (EN [32,41,400,17,2,409] [0,8]) (EN [40,33] [8]) [] (.b (.z 3 (.j 1 (EN [32,465,96,2,305] [0,8]) .o (.b .o (.j 1 (EN [32,65,376,121,96,2,209] [0,8]) .o .o)))) (.t [4])) (.l 1 0 (EN [40,665,40,17,2,137] [0]) (EN [40,665] [0]) [] (.z 4 (.j 1 (EN [40,65,640,25,96,2,33] [0]) .o .o)) .o))))
instance dU:C3 k69 qc:=pg (And.intro k69.eq_1 qc.eq_1) .o
instance zI173{t0 t1 t2 t3 r}:Con (Ra t0 t1 t2 t3=some r) (MT Tryz.prog 173 [ee t0] [ca t2,PF t3] 6 [Sx t1] [Sx r.2] (.tup [Xa r.1.1,Vp r.1.2])):=⟨λh=>by
 refine MT.of 101 k173 ?_
 simp only[k173,Kf.of,zs,ze]
 unfold Ra at h
 exact pg Je.eq_1 (.l 3 2 (EN [8,57,8,17,192,17,18,537] [1,770,8,16,1034]) (EN [72,17] [1,770,16,1034]) [0,12,4,8,16] (.b (.e 2 (EN [8,297] [1,258,16,24,1034]) (.b .o (.b .o (.b .o (.b .o (.a [[],[],[],[],[],[],[],[],[],[],[],[],[],[],[]] .o))))) .o) (.t [0,4,12,16])) .o)⟩
instance zI148{t0 t1 t2 t3 r}:Con (Tg t0 t1 t2 t3=some r) (Den Tryz.prog 148 [Tk t0,ca t1,wE t2,Yp t3] (.tup [Ny r.1,Sx r.2.1,Vp r.2.2])):=⟨λh=>by
 refine dk 119 k148 ?_
 simp only[k148,Kf.of,zs,ze]
 unfold Tg at h
 exact pg (And.intro Yk.eq_1 Zk.eq_1) (.l 2 1 ⟨[.k 3,.p 19,.k 11,.p 2,.i 1,.p 87],[.o 0,.o 1,.o 2,.o 3,.o 4,.h 5 [.g [.p 4,.s (.own 6 0),.p 1]],.ni 2 0,.o 6]⟩ ⟨[.k 3,.p 19],[.o 0,.o 1,.o 2,.o 3,.o 4,.h 5 [.g [.p 4,.s (.own 6 0),.p 1]],.ni 2 0,.o 6]⟩ [0,4,8,12,16,20,9,24] (.b (.t [0,4,8,12,16,20,280,28]) .o) (.l 3 2 ⟨[.k 3,.p 44,.k 1,.p 2,.i 2,.p 72],[.o 0,.o 1,.o 2,.o 3,.o 4,.h 5 [.g [.p 3,.s (.own 6 0),.p 2]],.ni 1 0,.o 6,.h 7 [.g [.p 2,.s (.own 9 0)]],.ni 2 1]⟩ ⟨[.k 3,.p 1,.k 4,.p 39],[.o 2,.o 3,.o 4,.h 5 [.g [.p 3,.s (.own 4 0),.p 2]],.ni 1 0,.o 6,.h 7 [.g [.p 2,.s (.own 7 0)]],.ni 2 1]⟩ [0,4,8,12,16,20,5,24,28,9] (.b (.z 4 (.f ⟨[.k 3,.p 120],[.o 0,.o 1,.o 2,.o 3,.o 4,.o 5,.o 6,.o 7,.o 8,.o 9,.h 10 [.g [.p 2,.s (.sl 3 (([] : List GValue).map Qa)),.s (.sl 1 (([] : List (List GValue)).map cp)),.s (.sl 2 (([] : List GType).map Xp)),.p 1]]]⟩ [] (.g [[],[0],[0,1],[0,1,2],[0,1,2,3],[0,1,2,3,4],[0,1,2,3,4,5],[0,1,2,3,4,5,6],[0,1,2,3,4,5,6,7],[0,1,2,3,4,5,6,7,8],[0,1,2,3,4,5,6,7,8,9],[0,1,2,3,4,5,6,7,8,9,10],[0,1,2,3,4,5,6,7,8,9,10,11],[0,1,2,3,4,5,6,7,8,9,10,11,12],[0,1,2,3,4,5,6,7,8,9,10,11,12,13]] [none,none,none,none,none,none,none,none,none,some 10,none,none,none,none,none] (.b (.a [[],[],[],[2],[2]] .o) (.t [0,4,8,12,16,20,280,28,32,292]))))) (.t [8,12,16,20,24,28,32,36])) (.z 1 (.f ⟨[.k 3,.p 120],[.o 0,.o 1,.o 2,.h 3 [.g [.p 2,.s (.sl 3 (([] : List GValue).map Qa)),.p 3]],.o 6,.o 7]⟩ [0,4,8,12,24,28] (.g [[],[0],[0,1],[0,1,2],[0,1,2,3],[0,1,2,3,4],[0,1,2,3,4,5],[0,1,2,3,4,5,6],[0,1,2,3,4,5,6,7],[0,1,2,3,4,5,6,7,8],[0,1,2,3,4,5,6,7,8,9],[0,1,2,3,4,5,6,7,8,9,10],[0,1,2,3,4,5,6,7,8,9,10,11],[0,1,2,3,4,5,6,7,8,9,10,11,12]] [none,none,none,none,none,none,none,none,some 3,none,none,none,none,none] (.b (.a [[],[],[],[2],[2]] .o) (.a [[],[],[],[1],[]] .o)))))))⟩
instance BV:C4 k103 fe:=pg (And.intro (And.intro k103.eq_1 fe.eq_1) (And.intro Uk.eq_1 (And.intro Wk.eq_1 (And.intro Uh.eq_1 (And.intro Vk.eq_1 (And.intro Xk.eq_1 (And.intro ym.eq_1 (And.intro k172.eq_1 (And.intro k147.eq_1 k146.eq_1))))))))) (.b (.a [[],[],[1],[]] .o) (.i k146 12 50 ⟨[.s (.ref 5 0 0 0)],[.O 0,.O 1,.O 2,.O 3,.O 4,.nq 12 [.x [.i 0,.i 1,.i 2,.i 3,.i 4,.i 5,.i 6,.i 7,.i 8,.i 9,.s (.own 6 0),.s (.own 7 0)]],.ni 1 10,.ni 1 11]⟩ (.z 3 (.j 6 ⟨[.k 5,.p 1],[.O 0,.O 1,.O 2,.O 3,.O 4,.h 6 [.g [.p 5,.i 0,.i 1,.i 2,.i 3,.i 4,.p 1,.s (.own 7 0)]],.o 7,.ni 1 5]⟩ (.b (.t [0,4,8,12,16,24,28,32]) (.t [0,4,8,12,16,24,28,5])) .o)) (.i k147 2 45 ⟨[.s (.tup [])],[.O 0,.O 1,.O 2,.O 3,.O 4,.O 5,.Ci 6 0,.Ci 7 1]⟩ (.l 2 1 (EN [65,88,17,10,201] [1,9,17,25,33,41,1539,57]) (EN [65] [1,9,17,25,33,41,1539,57]) [] .o (.l 2 1 (EN [9,288,17,10,57] [1,9,17,25,33,41,49,1795]) (EN [] [1,9,17,25,33,41,49,1795]) [] (.b (.i k172 1 28 ⟨[.s (.tup [])],[.O 0,.O 1,.O 2,.O 3,.O 4,.O 5,.O 6,.Ci 7 0]⟩ (.l 2 1 (EN [9,128,17,10,81] [1,9,17,25,33,41,49,1795]) (EN [] [1,9,17,25,33,41,49,1795]) [] .o .o) .o) .o) .o)) (.z 1 (.d [0,8,16,24,32] [] (.b (.a [[],[],[1],[]] .o) (.a [[],[],[],[],[],[],[],[],[],[],[],[6,8,9],[]] .o)))))))
instance dY:C5 k72 Nn:=pg (And.intro (And.intro k72.eq_1 Nn.eq_1) zi.eq_1) (.l 3 2 (EN [32,49,16,2,10,89,18,497] [0,8,16]) (EN [56,25,16,2,10,73] [16]) [] (.b .o (.t [8])) .o)
instance rR:C6 k34 zb:=pg (And.intro (And.intro k34.eq_1 zb.eq_1) Wf.eq_1) (.z 2 (.j 1 (EN [24,73,192,2,385] [0,8,16]) .o (.z 3 (.j 2 (EN [24,89,2,10,161] [0,8,16,24]) .o (.l 3 1 (EN [32,81,10,9,18,265] [0,8,16,770]) (EN [104,9] [770]) [] (.b (.z 2 (.j 3 ⟨[.k 4,.p 10,.i 0,.p 36],[.o 0,.o 1,.o 2,.o 3,.h 4 [.g [.p 1,.i 1,.i 2]]]⟩ (.b .o (.b (.a [[],[],[],[],[],[],[],[],[],[],[],[],[]] .o) .o)) (.t [0,4,8,268]))) (.t [12])) .o)))))
theorem AA{t0 t1 t2 t3 t4 t5 r} (h:zb t0 t1 t2 t3 t4 t5=some r):Zo Tryz.prog 34 [Tk t0,.agg [ca t1.Id,ca t1.Scope,ca t1.Members,.own 0 0],jc t2,ca t3,ca t4,ca t5] [(9,t1.Facts.map Hc)] (Cc r):=by
 refine Zo.of 79 k34 ?_ (by simp[Fr.l])
 simp only[k34,Kf.of,zs,ze,Ss,vaa,gab,qaa,Aaa,Caa]
 unfold zb at h
 exact pg Wf.eq_1 (.z 2 (.j 1 (EN [24,73,192,2,385] [1,8,16,24]) .o (.z 3 (.j 2 (EN [24,89,2,10,161] [1,8,16,24,32]) .o (.l 3 1 (EN [32,81,10,9,18,265] [1,8,16,24,1026]) (EN [104,9] [1,1026]) [] (.b (.z 2 (.j 3 ⟨[.k 4,.p 10,.i 0,.p 36],[.O 0,.o 1,.o 2,.o 3,.o 4,.h 5 [.g [.p 1,.i 1,.i 2]]]⟩ (.b .o (.b (.a [[],[],[],[],[],[],[],[],[],[],[],[],[]] .o) .o)) (.t [0,4,8,12,272]))) (.t [0,16])) .o)))))
instance zI34{t0 t1 t2 t3 t4 t5 r}:Con2 (zb t0 t1 t2 t3 t4 t5=some r) (Zo Tryz.prog 34 [Tk t0,.agg [ca t1.Id,ca t1.Scope,ca t1.Members,.own 0 0],jc t2,ca t3,ca t4,ca t5] [(9,t1.Facts.map Hc)] (Cc r)):=⟨AA⟩
instance UO:C5 k14 ya:=pg (And.intro k14.eq_1 ya.eq_1) (.z 2 (.j 1 (EN [24,57,72,2,161] [0,8,16]) .o .o))
theorem Pz{t0 t1 t2 t3 t4 r} (h:ya t0 t1 t2 t3 t4=some r):Zo Tryz.prog 14 [Tk t0,jc t1,.agg [ca t2.Household.Id,ca t2.Household.Scope,ca t2.Household.Members,.own 0 0,.own 1 0,.own 2 0,ca t2.Date,ca t2.LastMonth],ca t3,ca t4] [(9,t2.Household.Facts.map Hc),(4,t2.Postings.map Ha),(7,t2.Appeals.map Wd)] (Ya r):=by
 refine Zo.of 35 k14 ?_ (by simp[Fr.l])
 simp only[k14,Kf.of,zs,ze,Ss,vaa,gab,qaa,Aaa,Caa]
 unfold ya at h
 exact pg trivial (.z 2 (.j 1 (EN [24,57,72,2,161] [1,9,17,24,32,40]) .o .o))
instance zI14{t0 t1 t2 t3 t4 r}:Con2 (ya t0 t1 t2 t3 t4=some r) (Zo Tryz.prog 14 [Tk t0,jc t1,.agg [ca t2.Household.Id,ca t2.Household.Scope,ca t2.Household.Members,.own 0 0,.own 1 0,.own 2 0,ca t2.Date,ca t2.LastMonth],ca t3,ca t4] [(9,t2.Household.Facts.map Hc),(4,t2.Postings.map Ha),(7,t2.Appeals.map Wd)] (Ya r)):=⟨Pz⟩
instance jX:C3 k27 We:=pg (And.intro (And.intro k27.eq_1 We.eq_1) Ac.eq_1) (.z 3 (.j 1 (EN [40,9,8,17,216,2,225] [16]) (.t [8]) (.l 1 0 (EN [40,25,2,217] [0]) (EN [] []) [] (.z 3 (.j 1 (EN [40,257,216,2] [0]) .o .o)) .o)))
instance zI87{t0 c10 r}:Con (ua t0 (λx900=>Ib x900 c10)=some r) (Den Tryz.prog 87 [Ya t0,.fn 88 [] [Tq c10]] (ca r)):=⟨λh=>oh (q1:=[Tq c10]) (bE YB) (λx900 _ hb=>Bo hb) h⟩
theorem dC{t0 t1 t2 t3 r} (h:Qb t0 t1 t2 t3=some r):Den Tryz.prog 12 [Tk t0,jc t1,we t2,Vm t3] (.tup [we r.1,ca r.2]):=by
 refine dk 69 k12 ?_
 simp only[k12,Kf.of,zs,ze]
 unfold Qb at h
 exact pg (And.intro im.eq_1 (And.intro gm.eq_1 (And.intro fm.eq_1 (And.intro Mn.eq_1 (And.intro Ln.eq_1 (And.intro Kn.eq_1 (And.intro Qj.eq_1 (And.intro Jn.eq_1 (And.intro Hn.eq_1 (And.intro Gn.eq_1 (And.intro k83.eq_1 (And.intro k52.eq_1 (And.intro k51.eq_1 (And.intro k50.eq_1 (And.intro k49.eq_1 (And.intro k48.eq_1 (And.intro k47.eq_1 k46.eq_1))))))))))))))))) (.b .o (.b .o (.b .o (.i k46 3 17 ⟨[.s (.agg [ca t2.Household.Id,ca t2.Household.Scope,ca t2.Household.Members,.own 5 0,.own 6 0,.own 7 0,ca t2.Date,ca t2.LastMonth])],[.O 0,.O 1,.O 2,.O 3,.O 4,.ni 9 0,.ni 4 1,.ni 7 2]⟩ (.t [0,4,8,12,16,28,32,36]) (.z 1 (.j 5 ⟨[.k 6,.p 3,.k 1,.p 1,.i 4],[.o 2,.o 3,.o 4,.h 8 [.g [.p 7,.i 3]],.ci 5 0,.ci 6 1,.ci 7 2]⟩ (.b (.i k47 2 35 ⟨[.i 1],[.O 0,.O 1,.O 2,.O 3,.O 4,.Bi 5 1 0,.O 6,.O 7,.H 8 [.g [.p 3,.s (.own 5 1),.p 4]]]⟩ (.b (.t [0,4,8,12,16,22,24,28,32]) (.a [[],[],[],[],[],[],[],[],[],[]] (.t [0,4,8,12,16,278,24,28,32]))) (.t [8,12,16,32,276,24,28])) (.b (.i k48 3 49 ⟨[.i 2],[.O 0,.O 1,.O 2,.O 3,.O 4,.O 5,.Bi 6 1 0,.O 7,.H 8 [.g [.p 4,.s (.own 6 1),.p 2,.i 1]]]⟩ (.b (.t [0,4,8,12,16,20,26,28,32]) (.b (.t [0,4,8,12,16,20,26,28,32]) (.i k83 2 21 ⟨[.i 1],[.O 0,.O 1,.O 2,.O 3,.O 4,.O 5,.Bi 6 1 0,.O 7,.H 8 [.g [.p 4,.s (.own 6 1),.p 3]],.O 9,.O 10,.O 11]⟩ (.b (.t [0,4,8,12,16,20,26,28,32,36,40,44]) (.t [0,4,8,12,16,20,282,28,32,36,40,44])) (.t [0,4,8,12,16,20,282,28,32])))) (.t [8,12,16,32,20,280,28])) (.b (.i k49 2 43 ⟨[.i 1],[.O 0,.O 1,.O 2,.O 3,.O 4,.O 5,.O 6,.Bi 7 1 0,.H 8 [.g [.p 5,.s (.own 7 1),.p 2]]]⟩ (.b (.t [0,4,8,12,16,20,24,30,32]) (.a [[],[],[],[],[],[],[],[],[],[],[],[],[],[],[],[],[],[],[],[]] (.b (.t [0,4,8,12,16,20,24,30,32]) (.a [[],[],[],[],[],[],[],[]] (.t [0,4,8,12,16,20,24,286,32]))))) (.t [8,12,16,32,20,24,284])) (.b (.i k50 2 47 (EN [10] [1,9,17,25,33,41,49,1795,65]) (.z 2 (.j 1 (EN [9,16,9,120,2,233] [1,9,17,25,33,41,49,57,65,72]) .o (.b .o (.a [[],[],[],[],[],[],[],[],[],[],[],[],[],[],[],[],[],[],[],[]] .o)))) (.t [8,12,16,32,20,24,28])) (.b (.i k51 2 40 ⟨[.i 1],[.O 0,.O 1,.O 2,.O 3,.O 4,.O 5,.Bi 6 1 0,.O 7,.H 8 [.g [.p 4,.s (.own 6 1),.p 3]]]⟩ (.z 2 (.j 1 (EN [16,9,8,33,80,2,201] [1,9,17,25,33,41,49,57,65,72,80,88]) .o (.b (.t [0,4,8,12,16,20,26,28,32]) (.b (.t [0,4,8,12,16,20,26,28,32]) (.i k83 2 21 ⟨[.i 1],[.O 0,.O 1,.O 2,.O 3,.O 4,.O 5,.Bi 6 1 0,.O 7,.H 8 [.g [.p 4,.s (.own 6 1),.p 3]],.O 9,.O 10,.O 11]⟩ (.b (.t [0,4,8,12,16,20,26,28,32,36,40,44]) (.t [0,4,8,12,16,20,282,28,32,36,40,44])) (.t [0,4,8,12,16,20,282,28,32])))))) (.t [8,12,16,32,20,280,28])) (.b (.i k52 2 50 ⟨[.i 1],[.O 0,.O 1,.O 2,.O 3,.O 4,.O 5,.Bi 6 1 0,.O 7,.H 8 [.g [.p 4,.s (.own 6 1),.p 3]]]⟩ (.z 2 (.j 1 (EN [16,9,8,33,80,2,281] [1,9,17,25,33,41,49,57,65,72,80,88]) .o (.b (.t [0,4,8,12,16,20,26,28,32]) (.b (.t [0,4,8,12,16,20,26,28,32]) (.b (.t [0,4,8,12,16,20,26,28,32]) (.i k83 2 21 ⟨[.i 1],[.O 0,.O 1,.O 2,.O 3,.O 4,.O 5,.Bi 6 1 0,.O 7,.H 8 [.g [.p 4,.s (.own 6 1),.p 3]],.O 9,.O 10,.O 11,.O 12]⟩ (.b (.t [0,4,8,12,16,20,26,28,32,36,40,44,48]) (.t [0,4,8,12,16,20,282,28,32,36,40,44,48])) (.t [0,4,8,12,16,20,282,28,32]))))))) (.t [8,12,16,32,20,280,28])) (.t [8,12,16,32,20,24,28]))))))) .o))))))
instance zI12{t0 t1 t2 t3 r}:Con (Qb t0 t1 t2 t3=some r) (Den Tryz.prog 12 [Tk t0,jc t1,we t2,Vm t3] (.tup [we r.1,ca r.2])):=⟨dC⟩
instance zI21{t0 t1 t2 t3 r}:Con (Za t0 t1 t2 t3=some r) (Den Tryz.prog 21 [Tk t0,jc t1,we t2,ca t3] (.tup [we r.1,ca r.2])):=⟨λh=>by
 refine dk 96 k21 ?_
 simp only[k21,Kf.of,zs,ze]
 unfold Za at h
 exact pg (And.intro Oj.eq_1 (And.intro mh.eq_1 (And.intro nh.eq_1 k60.eq_1))) (.z 4 (.j 1 (EN [24,49,168,2,553] [0,8,16,24]) .o (.l 2 1 (EN [24,9,16,33,19,153,112,17,10,425] [16,24,1028]) (EN [24,9,16,33,19,153] [16,24,1028]) [8,12,17] (.z 2 (.j 1 (EN [24,353] [0,8,514]) (.b (.t [0,4,264]) .o) .o)) (.l 2 1 (EN [24,65,416,17,10,273] [0,8,514]) (EN [24,65] [0,8,514]) [] (.z 2 (.j 1 (EN [24,505] [0,8,514]) (.b (.t [0,4,264]) .o) .o)) (.b .o (.i k60 3 17 ⟨[.s (.agg [ca t2.Household.Id,ca t2.Household.Scope,ca t2.Household.Members,.own 3 0,.own 4 0,.own 5 0,ca t2.Date,ca t2.LastMonth])],[.O 0,.O 1,.O 2,.ni 9 0,.ni 4 1,.ni 7 2]⟩ (.t [0,4,8,20,24,28]) .o))))))⟩
instance XK:C3 k24 Wa:=pg (And.intro k24.eq_1 Wa.eq_1) (.z 2 (.j 1 (EN [48,2] []) .o .o))
instance P6:C0 k11 Ik:=pg (And.intro k11.eq_1 Ik.eq_1) (.z 7 (.j 1 (EN [2] []) .o .o))
instance S6:C0 k20 Wb:=pg (And.intro k20.eq_1 Wb.eq_1) (.z 6 (.d [8,16,32,40] [4,8,16,20] (.j 1 (EN [2] []) .o .o)))
instance TO:C4 k31 Ah:=pg (And.intro (And.intro k31.eq_1 Ah.eq_1) Gj.eq_1) (.l 10 9 ⟨[.k 4,.p 5,.k 1,.i 8,.p 4,.k 2,.p 2,.i 9,.p 19],[.o 0,.o 1,.h 2 [.g [.i 0,.i 1,.i 2,.i 3,.i 4,.i 5,.i 6,.i 7]],.o 3]⟩ ⟨[.k 6,.p 3,.k 1,.i 8,.p 4],[.h 2 [.g [.i 0,.i 1,.i 2,.i 3,.i 4,.i 5,.i 6,.i 7]],.o 3]⟩ [] (.b (.j 9 ⟨[.k 4,.p 6,.i 8,.p 9],[.o 0,.o 1,.h 2 [.g [.i 0,.i 1,.i 2,.i 3,.i 4,.i 5,.i 6,.i 7]],.o 3]⟩ .o .o) (.t [8,12])) .o)
instance Jw:C4 k4 Ag:=pg (And.intro (And.intro k4.eq_1 Ag.eq_1) (And.intro Me.eq_1 (And.intro Ke.eq_1 Oe.eq_1))) (.z 3 (.j 1 (EN [32,33,224,2,881] [0,8,16,24]) .o (.l 1 0 (EN [40,17,16,9,8,9,2,185] [8,16,32]) (EN [40,17,16,9,8,9] [8,16,32]) [4,8,16] .o (.z 1 (.j 1 (EN [40,49,648,2,433] [0,8,16]) .o (.l 3 2 (EN [40,9,24,33,2,10,9,18,601] [0,16]) (EN [40,9,56,2,10] [0]) [0,8] (.z 2 (.e 2 (EN [40,65,2,10,673] [0,8]) (.l 1 0 (EN [40,105,2,641] [0,8,16]) (EN [40,97] [0,8]) [] .o .o) .o)) (.j 1 (EN [64,2,33] []) .o .o)))))))
theorem Vv{t0 t1 t2 t3 r} (h:Ag t0 t1 t2 t3=some r):Den Tryz.prog 4 [Tk t0,jc t1,we t2,Vm t3] (sa r):=Jw.h h
instance tv:C4 k5 ef:=pg (And.intro (And.intro k5.eq_1 ef.eq_1) Dd.eq_1) (.b .o (.b (.j 1 (EN [64,2] []) .o .o) (.l 2 1 (EN [24,25,24,9,8,2,9,10] [0,8,24]) (EN [24,25,24,9,8,2] [0,8,24]) [0,4,12] .o (.j 1 (EN [64,2] []) .o .o))))
theorem IH{t0 t1 t2 t3 r} (h:ef t0 t1 t2 t3=some r):Den Tryz.prog 5 [Tk t0,jc t1,we t2,ca t3] (sa r):=tv.h h
instance sv:C4 k6 df:=pg (And.intro k6.eq_1 df.eq_1) (.z 2 (.j 1 (EN [24,41,96,2,153] [0,8,16]) .o (.b .o (.b .o (.j 1 (EN [64,2] []) .o .o)))))
theorem HH{t0 t1 t2 t3 r} (h:df t0 t1 t2 t3=some r):Den Tryz.prog 6 [Tk t0,jc t1,we t2,ca t3] (sa r):=sv.h h
instance Jt:C4 k7 Gd:=pg (And.intro (And.intro k7.eq_1 Gd.eq_1) Bb.eq_1) (.z 3 (.j 1 (EN [16,49,8,105,160,2,993] [0,8,16]) .o (.b .o (.a [[],[],[],[],[],[],[],[],[],[],[]] (.a [[],[],[],[],[],[],[],[],[],[],[]] (.z 1 (.j 1 (EN [32,9,32,17,8,9,584,2,641] [0,16,24,32]) (.t [0,8,12,16]) (.l 1 0 (EN [32,49,40,9,8,9,8,9,2,521] [0,8,32,40]) (EN [32,49,40,9,8,9] [0,8,32,40]) [0,4,16,20] (.z 4 (.j 1 (EN [32,137,1056,2,105] [0,8,16,24]) .o .o)) (.j 1 (EN [64,2] []) .o .o)))))))))
theorem dE{t0 t1 t2 t3 r} (h:Gd t0 t1 t2 t3=some r):Den Tryz.prog 7 [Tk t0,Tn t1,Yt t2,Yt t3] (sa r):=Jt.h h
end Go.Proofs.Dev
