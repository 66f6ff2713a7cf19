/-
  Contracts of the functions: each answers as its plain partial function says.
-/
import Derived.Test.YtjjfnbpfgfopbaaGreatDoorK
import Derived.Test.YtjjfnbpfgfopbaaGreatDoorG
import Derived.Test.YtjjfnbpfgfopbaaGreatDoorPE
import Derived.Test.YtjjfnbpfgfopbaaGreatDoorH1
import Derived.Test.YtjjfnbpfgfopbaaGreatDoorH2
import Derived.Test.YtjjfnbpfgfopbaaGreatDoorL1
import Derived.Test.YtjjfnbpfgfopbaaGreatDoorQ0
import Derived.Test.YtjjfnbpfgfopbaaGreatDoorQ1
import Derived.Test.YtjjfnbpfgfopbaaGreatDoorQ2
import Derived.Test.YtjjfnbpfgfopbaaGreatDoorQ3
open List renaming length_cons->uaa,length_nil->Faa,map_cons->Gaa,map_nil->xab
open Nat renaming reduceAdd->Oaa
set_option linter.all false
set_option maxHeartbeats 1000000
set_option maxRecDepth 10000
namespace Go.Proofs.Dev
open Go Go.Tm
instance zI122{t0 t1 r}:Con (kp t0 t1=some r) (Den Tryz.prog 13 [zb t0,zb t1] (ba r)):=⟨λh=>by
 refine dk 36 k13 ?_
 simp only[k13,Kf.of,zs,ze]
 unfold kp at h
 exact pg trivial (.z 1 (.j 1 (λ(j8:Bool)=>⟨[.k 4,.s (ba j8),.p 33],[]⟩) (.b (.b (.b (.b (.t []) (.t [])) (.t [])) (.t [])) (.t [])) .o))⟩
instance zI123{t0 r}:Con (uf t0=some r) (Den Tryz.prog 98 [xb t0] (ua r)):=⟨λh=>by
 refine dk 56 k98 ?_
 simp only[k98,Kf.of,zs,ze]
 unfold uf at h
 exact pg (And.intro @Nf.eq_1 (And.intro @qd.eq_1 (And.intro @Xi.eq_1 (And.intro @pd.eq_1 (And.intro @Mf.eq_1 (And.intro @od.eq_1 (And.intro @fc.eq_1 (And.intro @qf.eq_1 (And.intro @jc.eq_1 (And.intro @Of.eq_1 (And.intro @k165.eq_1 (And.intro @k139.eq_1 @zZ.eq_1)))))))))))) (.l 2 1 (λ(q:((List GDateRange) × Int))=>⟨[.k 1,.p 1,.k 1,.s (.own 1 0),.p 8,.k 1,.p 2,.s (aa q.2),.p 41],[.o 0,.n 2 ((q.1.map za))]⟩) (λ(b15:(List GDateRange))=>⟨[.k 1,.p 1,.k 1,.s (.own 1 0),.p 8],[.o 0,.n 2 ((b15.map za))]⟩) [ok 0,on 2] (.b (.l 2 1 (λ(q:((List GDateRange) × Int))=>⟨[.k 1,.p 4,.k 8,.p 3,.k 4,.p 2,.s (aa q.2),.p 34],[.o 0,.c 1 ((q.1.map za))]⟩) (λ(b12:(List GDateRange))=>⟨[.k 1,.p 4,.k 8,.p 3],[.o 0,.c 1 ((b12.map za))]⟩) [ok 0,ok 1] (.b (.t [ok 0,ov 1 1]) (.t [ok 0,ok 1])) (.t [ok 0,ok 1])) (.t [ok 0,ok 1])) (.l 2 1 (λ(q:((List GDateRange) × Int))=>⟨[.k 3,.p 30,.k 1,.p 2,.s (aa q.2),.p 20],[.c 1 ((q.1.map za))]⟩) (λ(b30:(List GDateRange))=>⟨[.k 3,.p 30],[.c 1 ((b30.map za))]⟩) [ok 1] (.b (.l 2 1 (λ(q:((List GDateRange) × Int))=>⟨[.k 3,.p 6,.k 25,.p 3,.k 4,.p 2,.s (aa q.2),.p 13],[.c 0 ((q.1.map za))]⟩) (λ(b27:(List GDateRange))=>⟨[.k 3,.p 6,.k 25,.p 3],[.c 0 ((b27.map za))]⟩) [ok 0] (.b (.t [ov 0 1]) (.t [ok 0])) (.t [ok 0])) (.t [ok 0])) (.i zZ 1 25 (λ(i44:(List Int))=>⟨[.s (.own 1 0)],[.O 0,.n 1 ((i44.map aa))]⟩) (.l 2 1 (λ(q:((List Int) × Int))=>⟨[.k 3,.s (.own 1 0),.p 4,.s (aa q.2),.p 17],[.O 0,.n 1 ((q.1.map aa))]⟩) (λ(b41:(List Int))=>⟨[.k 3,.s (.own 1 0),.p 2],[.O 0,.n 1 ((b41.map aa))]⟩) [ok 0,on 1] (.b (.j 1 (λ(j38:(List Int))=>⟨[.k 3,.p 6],[.O 0,.c 1 ((j38.map aa))]⟩) (.b (.t [ok 0,ov 1 1]) (.t [ok 0,ok 1])) (.t [ok 0,ok 1])) (.t [ok 0,ok 1])) (.t [ok 0,ov 1 1])) (.c k139 40 (.i k165 1 17 (λ(i51:Int)=>⟨[.s (aa i51)],[.O 0,.O 1]⟩) (.l 1 0 (λ(s45:Int)=>⟨[.p 4,.k 3,.p 1,.s (aa s45),.p 10],[.O 0,.O 1]⟩) (λ(_:Unit)=>⟨[],[.O 0,.O 1]⟩) [ok 0,ok 1] (.b (.b (.t [ok 0,ok 1]) (.t [ok 0,ok 1])) (.t [ok 0,ok 1])) (.t [ok 0,ok 1])) (.b (.v .o) (.l 3 2 (λ(q:((List Int) × Int × Int))=>⟨[.p 4,.k 1,.s (aa q.2.1),.s (aa q.2.2),.p 1],[.O 0,.C 1 ((q.1.map aa))]⟩) (λ(q:((List Int) × Int))=>⟨[.p 1,.k 4,.s (aa q.2)],[.O 0,.C 1 ((q.1.map aa))]⟩) [ok 0,ok 1] (.b (.j 2 (λ(q:((List Int) × Int))=>⟨[.p 5,.s (aa q.2),.p 10],[.O 0,.C 1 ((q.1.map aa))]⟩) (.b (.t [ok 0,ok 1]) (.t [ok 0,ok 1])) (.t [ok 0,ok 1])) (.t [ok 0,ok 1])) (.v .o))))))))⟩
instance zI124{t0 t1 r}:Con (Va t0 t1=some r) (Den Tryz.prog 105 [ua t0,aa t1] (.tup [aa r.1,ba r.2])):=⟨λh=>by
 refine dk 52 k105 ?_
 simp only[k105,Kf.of,zs,ze]
 unfold Va at h
 exact pg @yb.eq_1 (.l 2 1 (λ(q:(Int × Int))=>⟨[.p 4,.k 2,.p 1,.s (aa q.1),.s (aa q.2),.p 1],[]⟩) (λ(b9:Int)=>⟨[.p 4,.k 2,.p 1,.s (aa b9)],[]⟩) [] (.b (.b (.t []) (.t [])) (.t [])) (.j 1 (λ(j16:Bool)=>⟨[.k 4,.y 7,.s (ba j16)],[]⟩) (.b (.b (.b (.t []) (.t [])) (.t [])) (.t [])) .o))⟩
instance zI125{t0 r}:Con (Yf t0=some r) (Den Tryz.prog 138 [Dj t0] (ua r)):=⟨λh=>by
 refine dk 25 zZ ?_
 simp only[zZ,Kf.of,zs,ze]
 unfold Yf at h
 exact pg @re.eq_1 (.l 2 1 (λ(q:((List Int) × Int))=>⟨[.k 3,.s (.own 0 0),.p 4,.s (aa q.2),.p 17],[.n 1 ((q.1.map aa))]⟩) (λ(b11:(List Int))=>⟨[.k 3,.s (.own 0 0),.p 2],[.n 1 ((b11.map aa))]⟩) [on 1] (.b (.j 1 (λ(j8:(List Int))=>⟨[.k 3,.p 6],[.c 0 ((j8.map aa))]⟩) (.b (.t [ov 0 1]) (.t [ok 0])) (.t [ok 0])) (.t [ok 0])) .o)⟩
instance zI126{t0 c10 r}:Con (Za t0 (λx900=>kf x900 c10)=some r) (Den Tryz.prog 183 [wk t0,.fn 184 [] [oq c10]] (ba r)):=⟨λh=>Pk (q1:=[oq c10]) (DC FA) (λx900 _ hb=>Gs hb) h⟩
theorem IC{t0 t1 r} (h:Jk t0 t1=some r):Den Tryz.prog 154 [wk t0,fj t1] (ba r):=by
 refine dk 6 k154 ?_
 simp only[k154,Kf.of,zs,ze]
 unfold Jk at h
 exact pg trivial .o
instance zI127{t0 t1 r}:Con (Jk t0 t1=some r) (Den Tryz.prog 154 [wk t0,fj t1] (ba r)):=⟨IC⟩
instance zI128{t0 t1 t2 r}:Con (pe t0 t1 t2=some r) (Den Tryz.prog 195 [xb t0,Db t1,Cb t2] (.tup [aa r.1,aa r.2])):=⟨λh=>by
 refine dk 68 k195 ?_
 simp only[k195,Kf.of,zs,ze]
 unfold pe at h
 exact pg @qe.eq_1 (.b .o (.b .o (.l 1 0 (λ(s3:Int)=>⟨[.k 2,.p 4,.k 21,.p 2,.s (aa s3),.p 41],[.o 0]⟩) (λ(_:Unit)=>⟨[],[]⟩) [ok 0] (.b (.z 4 (.j 1 (λ(j8:Bool)=>⟨[.k 2,.p 28,.k 20,.s (ba j8),.p 20],[.o 0,.o 1,.o 2]⟩) (.b (.t [ok 0,ok 1,ok 2]) (.t [ok 0,ok 1,ok 2])) (.b .o (.z 1 (.j 1 (λ(j12:Bool)=>⟨[.k 2,.p 7,.k 18,.p 23,.k 18,.s (ba j12),.p 2],[.o 0]⟩) (.b (.t [ok 0]) (.t [ok 0])) (.b .o (.t [ok 0]))))))) (.t [])) .o)))⟩
theorem Vo{t0 t1 t2 r} (h:Ze t0 t1 t2=some r):Den Tryz.prog 236 [gb t0,Ph t1,Ph t2] (ba r):=by
 refine dk 12 k236 ?_
 simp only[k236,Kf.of,zs,ze]
 unfold Ze at h
 exact pg trivial (.z 1 (.j 1 (λ(j3:Bool)=>⟨[.k 4,.s (ba j3),.p 10],[]⟩) (.b (.t []) (.t [])) .o))
instance zI129{t0 t1 t2 r}:Con (Ze t0 t1 t2=some r) (Den Tryz.prog 236 [gb t0,Ph t1,Ph t2] (ba r)):=⟨Vo⟩
instance zI130{t0 t1 r}:Con (bn t0 t1=some r) (Den Tryz.prog 73 [za t0,ua t1] (Dj r)):=⟨λh=>by
 refine dk 48 k73 ?_
 simp only[k73,Kf.of,zs,ze]
 unfold bn at h
 exact pg @Rn.eq_1 (.l 3 2 (λ(q:(Int × (List GDateRange) × Int))=>⟨[.k 1,.p 3,.k 1,.s (.own 1 0),.s (aa q.2.2)],[.h 0 [.g [.s (aa q.1),.p 1]],.n 2 ((q.2.1.map za))]⟩) (λ(q:(Int × (List GDateRange)))=>⟨[.k 2,.p 2,.k 1,.s (.own 1 0)],[.h 0 [.g [.s (aa q.1),.p 1]],.n 2 ((q.2.map za))]⟩) [ok 0,on 2] (.z 1 (.j 1 (λ(j7:Bool)=>⟨[.k 1,.p 27,.s (ba j7),.p 21],[.o 0,.o 1]⟩) (.b (.t [ok 0,ok 1]) (.t [ok 0,ok 1])) (.b (.t [ok 0,ov 1 1]) (.t [ok 0,ok 1])))) .o)⟩
theorem Bw{t0 t1 r} (h:Fc t0 t1=some r):Den Tryz.prog 97 [Pd t0,aa t1] (ua r):=by
 refine dk 49 k97 ?_
 simp only[k97,Kf.of,zs,ze]
 unfold Fc at h
 exact pg (And.intro @Ae.eq_1 @Be.eq_1) (.l 2 1 (λ(q:((List GDateRange) × Int))=>⟨[.k 1,.p 3,.k 1,.s (.own 0 0),.p 7,.s (aa q.2),.p 37],[.n 2 ((q.1.map za))]⟩) (λ(b13:(List GDateRange))=>⟨[.k 5,.s (.own 0 0),.p 5],[.n 2 ((b13.map za))]⟩) [on 2] (.b (.j 1 (λ(j10:(List GDateRange))=>⟨[.k 1,.p 13],[.c 0 ((j10.map za))]⟩) (.z 1 (.j 1 (λ(j7:Bool)=>⟨[.k 1,.p 13,.k 11,.s (ba j7),.p 25],[.o 0,.o 1]⟩) (.b (.t [ok 0,ok 1]) (.t [ok 0,ok 1])) (.b (.t [ov 0 1]) (.t [ok 0])))) (.t [ok 0])) (.t [ok 0])) (.z 3 (.d [] [] (.l 2 1 (λ(q:((List Int) × Int))=>⟨[.k 8,.s (.own 0 0),.p 23,.k 1,.p 2,.s (aa q.2),.p 15],[.n 1 ((q.1.map aa))]⟩) (λ(b26:(List Int))=>⟨[.k 8,.s (.own 0 0),.p 23],[.n 1 ((b26.map aa))]⟩) [on 1] (.b (.j 1 (λ(j23:(List Int))=>⟨[.k 8,.p 28],[.c 0 ((j23.map aa))]⟩) (.z 1 (.j 1 (λ(j20:Bool)=>⟨[.k 8,.p 28,.k 8,.s (ba j20),.p 6],[.o 0]⟩) (.b (.t [ok 0]) (.t [ok 0])) (.b (.t [ov 0 1]) (.t [ok 0])))) (.t [ok 0])) (.t [ok 0])) .o))))
instance zI131{t0 t1 r}:Con (Fc t0 t1=some r) (Den Tryz.prog 97 [Pd t0,aa t1] (ua r)):=⟨Bw⟩
theorem Zx{t0 t1 r} (h:Fc t0 t1=some r):Xn Tryz.prog 97 [.own 0 0,aa t1] [(9,t0.map sb)] (ua r):=by
 refine Xn.of 49 k97 ?_ (by simp[Fr.l])
 simp only[k97,Kf.of,zs,ze,Lc,Gaa,xab,uaa,Faa,Oaa]
 unfold Fc at h
 exact pg (And.intro @Ae.eq_1 @Be.eq_1) (.l 2 1 (λ(q:((List GDateRange) × Int))=>⟨[.k 1,.p 3,.k 1,.s (.own 1 0),.p 7,.s (aa q.2),.p 37],[.O 0,.n 2 ((q.1.map za))]⟩) (λ(b13:(List GDateRange))=>⟨[.k 5,.s (.own 1 0),.p 5],[.O 0,.n 2 ((b13.map za))]⟩) [ok 0,on 2] (.b (.j 1 (λ(j10:(List GDateRange))=>⟨[.k 1,.p 13],[.O 0,.c 1 ((j10.map za))]⟩) (.z 1 (.j 1 (λ(j7:Bool)=>⟨[.k 1,.p 13,.k 11,.s (ba j7),.p 25],[.O 0,.o 1,.o 2]⟩) (.b (.t [ok 0,ok 1,ok 2]) (.t [ok 0,ok 1,ok 2])) (.b (.t [ok 0,ov 1 1]) (.t [ok 0,ok 1])))) (.t [ok 0,ok 1])) (.t [ok 0,ok 1])) (.z 3 (.d [.O 0] [ok 0] (.l 2 1 (λ(q:((List Int) × Int))=>⟨[.k 8,.s (.own 1 0),.p 23,.k 1,.p 2,.s (aa q.2),.p 15],[.O 0,.n 1 ((q.1.map aa))]⟩) (λ(b26:(List Int))=>⟨[.k 8,.s (.own 1 0),.p 23],[.O 0,.n 1 ((b26.map aa))]⟩) [ok 0,on 1] (.b (.j 1 (λ(j23:(List Int))=>⟨[.k 8,.p 28],[.O 0,.c 1 ((j23.map aa))]⟩) (.z 1 (.j 1 (λ(j20:Bool)=>⟨[.k 8,.p 28,.k 8,.s (ba j20),.p 6],[.O 0,.o 1]⟩) (.b (.t [ok 0,ok 1]) (.t [ok 0,ok 1])) (.b (.t [ok 0,ov 1 1]) (.t [ok 0,ok 1])))) (.t [ok 0,ok 1])) (.t [ok 0,ok 1])) (.t [ok 0])))))
instance zI132{t0 t1 r}:Con2 (Fc t0 t1=some r) (Xn Tryz.prog 97 [.own 0 0,aa t1] [(9,t0.map sb)] (ua r)):=⟨Zx⟩
instance zI133{t0 t1 t2 r}:Con (si t0 t1 t2=some r) (Den Tryz.prog 169 [xb t0,aa t1,Pr t2] (.tup [aa r.1,aa r.2.1,aa r.2.2])):=⟨λh=>by
 refine dk 81 k169 ?_
 simp only[k169,Kf.of,zs,ze]
 unfold si at h
 exact pg @Vf.eq_1 (.z 2 (.j 1 (λ(j2:Bool)=>⟨[.k 1,.p 1,.k 1,.p 3,.k 19,.s (ba j2),.p 58],[.o 0,.o 1]⟩) (.b (.t [ok 0,ok 1]) (.t [ok 0,ok 1])) (.b .o (.z 1 (.j 1 (λ(j5:Bool)=>⟨[.k 1,.p 24,.k 8,.s (ba j5),.p 50],[.o 0,.o 1]⟩) (.b (.t [ok 0,ok 1]) (.t [ok 0,ok 1])) (.b .o (.b .o (.b .o (.l 1 0 (λ(s12:Int)=>⟨[.k 3,.p 2,.k 6,.p 1,.k 52,.p 2,.s (aa s12),.p 17],[.o 0]⟩) (λ(_:Unit)=>⟨[],[]⟩) [ok 0] (.b (.b .o (.t [ok 0])) (.t [])) .o)))))))))⟩
instance zI134{t0 t1 r}:Con (Qn t0 t1=some r) (Den Tryz.prog 218 [Vg t0,aa t1] (ba r)):=⟨λh=>by
 refine dk 21 k218 ?_
 simp only[k218,Kf.of,zs,ze]
 unfold Qn at h
 exact pg trivial .o⟩
instance zI135{t0 c10 c11 r}:Con (af t0 (λx900=>Ze x900 c10 c11)=some r) (Den Tryz.prog 235 [Ye t0,.fn 236 [] [Ph c10,Ph c11]] (.tup [ua r.1,ua r.2])):=⟨λh=>pv (q1:=[Ph c10,Ph c11]) (DC (DC FA)) (λx900 _ hb=>Vo hb) h⟩
theorem Yx{t0 t1 t2 r} (h:kh t0 t1 t2=some r):Den Tryz.prog 224 [Ma t0,aa t1,aa t2] (.tup [ua r.1,ua r.2.1,ua r.2.2]):=by
 refine dk 37 k224 ?_
 simp only[k224,Kf.of,zs,ze]
 unfold kh at h
 exact pg @Jg.eq_1 (.z 2 (.d [.o 0] [ok 0] (.l 2 1 (λ(q:((List Int) × Int))=>⟨[.k 3,.p 1,.k 5,.p 2,.s (.own 1 0),.p 2,.k 7,.p 2,.s (aa q.2),.p 16],[.o 0,.n 1 ((q.1.map aa))]⟩) (λ(b10:(List Int))=>⟨[.k 9,.p 2,.s (.own 0 0),.p 2],[.n 1 ((b10.map aa))]⟩) [ok 0,on 1] (.b (.t [ok 0,ov 1 1]) (.t [ok 1])) .o)))
instance zI136{t0 t1 t2 r}:Con (kh t0 t1 t2=some r) (Den Tryz.prog 224 [Ma t0,aa t1,aa t2] (.tup [ua r.1,ua r.2.1,ua r.2.2])):=⟨Yx⟩
theorem pw{t0 t1 t2 r} (h:Hb t0 t1 t2=some r):Den Tryz.prog 70 [xb t0,ub t1,aa t2] (ua r):=by
 refine dk 17 k70 ?_
 simp only[k70,Kf.of,zs,ze]
 unfold Hb at h
 exact pg (And.intro @Sf.eq_1 (And.intro @Tf.eq_1 (And.intro @Rf.eq_1 (And.intro @Uf.eq_1 (And.intro @yZ.eq_1 @k96.eq_1))))) (.i k96 1 35 (λ(i26:(List Int))=>⟨[.s (.own 3 0)],[.O 0,.O 1,.O 2,.n 1 ((i26.map aa))]⟩) (.l 2 1 (λ(q:(Int × Int))=>⟨[.p 2,.k 1,.s (aa q.1),.p 7,.s (aa q.2),.p 24],[.O 0,.O 1,.O 2]⟩) (λ(b11:Int)=>⟨[.p 2,.k 1,.s (aa b11),.p 5],[.O 0,.O 1,.O 2]⟩) [ok 0,ok 1,ok 2] (.b (.b .o (.t [ok 0,ok 1,ok 2])) (.t [ok 0,ok 1,ok 2])) (.i yZ 1 25 (λ(i17:(List Int))=>⟨[.s (.own 3 0)],[.O 0,.O 1,.O 2,.n 1 ((i17.map aa))]⟩) (.b .o (.j 1 (λ(j16:(List Int))=>⟨[.s (.own 3 0)],[.O 0,.O 1,.O 2,.n 1 ((j16.map aa))]⟩) (.b (.t [ok 0,ok 1,ok 2,ov 3 1]) (.t [ok 0,ok 1,ok 2,on 1])) (.t [ok 0,ok 1,ok 2,ok 3]))) (.l 2 1 (λ(q:((List Int) × Int))=>⟨[.k 6,.p 17,.k 2,.p 2,.s (aa q.2),.p 8],[.O 0,.O 1,.O 2,.c 3 ((q.1.map aa))]⟩) (λ(b25:(List Int))=>⟨[.k 6,.p 17],[.O 0,.O 1,.O 2,.c 3 ((b25.map aa))]⟩) [ok 0,ok 1,ok 2,ok 3] (.b (.t [ok 0,ok 1,ok 2,ov 3 1]) (.t [ok 0,ok 1,ok 2,ok 3])) (.t [ok 0,ok 1,ok 2,ok 3])))) .o)
instance zI137{t0 t1 t2 r}:Con (Hb t0 t1 t2=some r) (Den Tryz.prog 70 [xb t0,ub t1,aa t2] (ua r)):=⟨pw⟩
theorem Qx{t0 t1 t2 r} (h:Hb t0 t1 t2=some r):Xn Tryz.prog 70 [xb t0,.agg [aa t1.Id,aa t1.Scope,aa t1.Members,.own 0 0],aa t2] [(9,t1.Facts.map sb)] (ua r):=by
 refine Xn.of 17 k70 ?_ (by simp[Fr.l])
 simp only[k70,Kf.of,zs,ze,Lc,Gaa,xab,uaa,Faa,Oaa]
 unfold Hb at h
 exact pg (And.intro @Sf.eq_1 (And.intro @Tf.eq_1 (And.intro @Rf.eq_1 (And.intro @Uf.eq_1 (And.intro @yZ.eq_1 @k96.eq_1))))) (.i k96 1 35 (λ(i26:(List Int))=>⟨[.s (.own 4 0)],[.O 0,.O 1,.O 2,.O 3,.n 1 ((i26.map aa))]⟩) (.l 2 1 (λ(q:(Int × Int))=>⟨[.p 2,.k 1,.s (aa q.1),.p 7,.s (aa q.2),.p 24],[.O 0,.O 1,.O 2,.O 3]⟩) (λ(b11:Int)=>⟨[.p 2,.k 1,.s (aa b11),.p 5],[.O 0,.O 1,.O 2,.O 3]⟩) [ok 0,ok 1,ok 2,ok 3] (.b (.b .o (.t [ok 0,ok 1,ok 2,ok 3])) (.t [ok 0,ok 1,ok 2,ok 3])) (.i yZ 1 25 (λ(i17:(List Int))=>⟨[.s (.own 4 0)],[.O 0,.O 1,.O 2,.O 3,.n 1 ((i17.map aa))]⟩) (.b .o (.j 1 (λ(j16:(List Int))=>⟨[.s (.own 4 0)],[.O 0,.O 1,.O 2,.O 3,.n 1 ((j16.map aa))]⟩) (.b (.t [ok 0,ok 1,ok 2,ok 3,ov 4 1]) (.t [ok 0,ok 1,ok 2,ok 3,on 1])) (.t [ok 0,ok 1,ok 2,ok 3,ok 4]))) (.l 2 1 (λ(q:((List Int) × Int))=>⟨[.k 6,.p 17,.k 2,.p 2,.s (aa q.2),.p 8],[.O 0,.O 1,.O 2,.O 3,.c 4 ((q.1.map aa))]⟩) (λ(b25:(List Int))=>⟨[.k 6,.p 17],[.O 0,.O 1,.O 2,.O 3,.c 4 ((b25.map aa))]⟩) [ok 0,ok 1,ok 2,ok 3,ok 4] (.b (.t [ok 0,ok 1,ok 2,ok 3,ov 4 1]) (.t [ok 0,ok 1,ok 2,ok 3,ok 4])) (.t [ok 0,ok 1,ok 2,ok 3,ok 4])))) (.t [ok 0]))
instance zI138{t0 t1 t2 r}:Con2 (Hb t0 t1 t2=some r) (Xn Tryz.prog 70 [xb t0,.agg [aa t1.Id,aa t1.Scope,aa t1.Members,.own 0 0],aa t2] [(9,t1.Facts.map sb)] (ua r)):=⟨Qx⟩
instance zI139{t0 t1 t2 r}:Con (Co t0 t1 t2=some r) (Den Tryz.prog 192 [Vg t0,aa t1,aa t2] (.tup [aa r.1,aa r.2])):=⟨λh=>by
 refine dk 18 k192 ?_
 simp only[k192,Kf.of,zs,ze]
 unfold Co at h
 exact pg @yp.eq_1 (.l 2 0 (λ(q:(Int × Int))=>⟨[.k 1,.s (aa q.1),.s (aa q.2),.p 3],[.o 0]⟩) (λ(_:Unit)=>⟨[],[]⟩) [ok 0] (.b (.e 1 (λ(j7:Int)=>⟨[.k 1,.p 1,.s (aa j7),.p 5],[.o 0]⟩) (.b (.t [ok 0]) (.b .o (.t [ok 0]))) (.t [ok 0])) (.t [])) .o)⟩
end Go.Proofs.Dev
