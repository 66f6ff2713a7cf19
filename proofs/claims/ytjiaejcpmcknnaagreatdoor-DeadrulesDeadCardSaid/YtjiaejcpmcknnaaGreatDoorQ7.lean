/-
  Contracts of the functions: each answers as its plain partial function says.
-/
import Derived.Test.YtjiaejcpmcknnaaGreatDoorK
import Derived.Test.YtjiaejcpmcknnaaGreatDoorG
import Derived.Test.YtjiaejcpmcknnaaGreatDoorPD
import Derived.Test.YtjiaejcpmcknnaaGreatDoorH1
import Derived.Test.YtjiaejcpmcknnaaGreatDoorH2
import Derived.Test.YtjiaejcpmcknnaaGreatDoorQ0
import Derived.Test.YtjiaejcpmcknnaaGreatDoorQ1
import Derived.Test.YtjiaejcpmcknnaaGreatDoorQ2
import Derived.Test.YtjiaejcpmcknnaaGreatDoorQ3
set_option linter.all false
set_option maxHeartbeats 1000000
set_option maxRecDepth 10000
namespace Go.Proofs.Dev
open Go Go.Tm
instance {t0 t1 r}:Con (dh t0 t1=some r) (Den Tryz.prog 58 [Ib t0,aa t1] (ta r)):=⟨λh=>by
 refine dk 53 k58 ?_
 simp only[k58,Kf.of,zs,ze]
 unfold dh at h
 exact pg trivial (.z 2 (.j 1 (λ(j2:Bool)=>⟨[.k 1,.p 14,.s (ba j2),.p 39],[.o 0,.o 1]⟩) (.b (.t [ok 0,ok 1]) (.t [ok 0,ok 1])) (.b .o (.z 2 (.j 2 (λ(q:((List GType) × Bool))=>⟨[.k 4,.p 1,.k 1,.p 9],[.o 1,.h 3 [.g [.p 4,.s (Ci q.1),.s (ba q.2)]]]⟩) (.j 1 (λ(j8:Bool)=>⟨[.k 2,.p 13,.k 28,.s (ba j8),.p 11],[.o 0,.o 1,.o 2,.o 3]⟩) (.b (.t [ok 0,ok 1,ok 2,ok 3]) (.t [ok 0,ok 1,ok 2,ok 3])) (.b (.t [ok 1,ok 3]) (.t [ok 1,ok 3]))) .o)))))⟩
instance {t0 r}:Con (ei t0=some r) (HB Tryz.prog 81 [] [] 1 (t0.map aa) (ea r)):=⟨λh=>by
 refine HB.at 6 k81.ok k81.nm oB oB (Fr.l _) rfl ?_
 simp only[k81,Kf.of,zs,ze]
 unfold ei at h
 exact pg trivial .o⟩
instance {t0 r}:Con (tf t0=some r) (Den Tryz.prog 140 [xa t0] (.tup [ea r.1,aa r.2.1,aa r.2.2])):=⟨λh=>by
 refine dk 69 Y4 ?_
 simp only[Y4,Kf.of,zs,ze]
 unfold tf at h
 exact pg @yg.eq_1 (.b .o (.b .o (.l 3 2 (λ(q:((List Int) × (List Int) × Int))=>⟨[.p 2,.k 3,.s (.own 0 0),.s (.own 1 0),.s (aa q.2.2),.p 2],[.n 1 ((q.1.map aa)),.n 1 ((q.2.1.map aa))]⟩) (λ(q:((List Int) × (List Int)))=>⟨[.p 2,.k 3,.s (.own 0 0),.s (.own 1 0)],[.n 1 ((q.1.map aa)),.n 1 ((q.2.map aa))]⟩) [on 1,on 1] (.b (.b .o (.b .o (.z 1 (.j 2 (λ(q:((List Int) × Int))=>⟨[.p 8,.k 1,.s (aa q.2),.p 6],[.o 0,.c 1 ((q.1.map aa))]⟩) (.b (.t [ok 0,ov 1 1]) (.t [ok 0,ok 1])) (.b .o (.t [ov 0 1,ov 1 1])))))) (.t [ok 0,ok 1])) .o)))⟩
instance {t0 t1 r}:Con (Qc t0 t1=some r) (Den Tryz.prog 168 [Vs t0,df t1] (ba r)):=⟨λh=>by
 refine dk 7 O5 ?_
 simp only[O5,Kf.of,zs,ze]
 unfold Qc at h
 exact pg trivial .o⟩
instance {t0 r}:Con (Pr t0=some r) (Den Tryz.prog 185 [cI t0] (ba r)):=⟨λh=>by
 refine dk 12 i6 ?_
 simp only[i6,Kf.of,zs,ze]
 unfold Pr at h
 exact pg trivial (.z 1 (.j 1 (λ(j5:Bool)=>⟨[.k 2,.s (ba j5),.p 10],[]⟩) (.b (.b (.t []) (.t [])) (.t [])) .o))⟩
theorem YB{t0:GNode}{t1:GType}{t2:GSignature}{r:(GType×Bool)}(h:uj t0 t1 t2=some r):Den Tryz.prog 198 [Ea t0,qa t1,ta t2] (.tup [qa r.1,ba r.2]):=by
 refine dk 79 E6 ?_;simp only[E6,Kf.of,zs,ze];unfold uj at h;refine ss (rg ?_);(try simp only[zz]);refine ss (ss (rg ?_));(try simp only[zz]);refine bk (ss (rg ?_));(try simp only[zz]);refine cd rfl ?_;(try simp only[zz]);refine gi h (λc1 h=>?_) λc1 h=>?_
 .have e1:=eT c1;refine ss (dy gn ?_);obtain⟨x2,a3,h⟩:=bs h;simp only[zz,zy];refine lq (Dq a3) ?_ (by simp only[zg,e1]);(try simp only[zz,zy]);cases h;exact rt ez
 have e2:=eF c1;refine ss (rg ?_);(try simp only[zz]);refine cd rfl ?_;(try simp only[zz]);refine gi h (λc3 h=>?_) λc3 h=>?_
 .have e4:=eT c3;refine ss (ay gn [[],[],[],[],[2]] (by kernel_rfl) ?_);(try simp only[zz,zy]);cases h;exact rt ez
 have e5:=eF c3;refine jm h (λj5=>⟨ds 3 (.ref 0 0 0 0::.ref 1 0 0 0::.ref 2 0 0 0::.ref 3 0 0 0::ds 4 (aa t0.Op::ds 12 (ba j5::ds 57 []))),[.live 2 0 [Ea t0],.live 2 0 [qa t1],.live 6 0 [ta t2],.live 2 0 [.agg [aa 0,aa 0]]]⟩) (λz7 h6=>?_) λj5 h6 h=>?_
 .refine ss (rg ?_);(try simp only[zz]);refine cd rfl ?_;(try simp only[zz]);refine gi h6 (λc4 h6=>?_) λc4 h6=>?_
  .have e8:=eT c4;refine sk ?_;(try simp only[zz,eq_true c4,e8]);cases h6;exact tz [ok 0,ok 1,ok 2,ok 3]
  have e9:=eF c4;refine rg ?_;(try simp only[zz]);cases h6;exact tz [ok 0,ok 1,ok 2,ok 3]
 refine cd rfl ?_;(try simp only[zz]);refine gi h (λc6 h=>?_) λc6 h=>?_
 .refine ss (ay gn [[],[],[],[],[2]] (by kernel_rfl) ?_);obtain⟨x7,a10,h⟩:=bs h;simp only[zz,zy];refine lq (ji a10) ?_ (by simp only[zg,e2,e5,c6]);(try simp only[zz,zy]);cases h;exact rt ez
 refine ss (rg ?_);(try simp only[zz]);refine cd rfl ?_;(try simp only[zz]);refine gi h (λc8 h=>?_) λc8 h=>?_
 .have e11:=eT c8;refine ss (rg ?_);obtain⟨x9,f14,f15,h⟩:=bI h;(try simp only[zz,f14,f15]);refine jm h (λj14=>⟨ds 6 (.ref 0 0 0 0::ba j14::ds 74 []),[.live 2 0 [.agg [aa x9.Value.Kind,aa x9.Value.Enum]]]⟩) (λz17 h16=>?_) λj14 h16 h=>?_
  .refine ay gn [[],[],[],[],[],[],[],[],[],[],[],[],[],[],[],[],[],[],[],[],[15,17]] (by kernel_rfl) ?_;obtain⟨x10,a18,h16⟩:=bs h16;simp only[zz,zy];refine lq (ln a18) ?_ (by simp only[zg,e2,e5,c6,e11]);(try simp only[zz,zy]);refine gi h16 (λc11 h16=>?_) λc11 h16=>?_
   .obtain⟨x12,a19,h16⟩:=bs h16;simp only[zz,c11,zy];refine lq (ln a19) ?_ (by simp only[zg,e2,e5,c6,e11,c11]);(try simp only[zz,c11,zy]);refine gi h16 (λc13 h16=>?_) λc13 h16=>?_
    ·(try simp only[zz,c11,c13,zy]);cases h16;exact tz [ok 3]
    (try simp only[zz,c11,c13,zy]);cases h16;exact tz [ok 3]
   (try simp only[zz,c11,zy]);cases h16;exact tz [ok 3]
  cases h;exact rt ez
 have e12:=eF c8;refine sk ?_;(try simp only[zz,c8,e12]);refine ss (rg ?_);obtain⟨x15,f21,f22,h⟩:=bI h;(try simp only[zz,f21,f22,Int.reduceEq,Int.reduceNeg]);refine jm h (λj20=>⟨ds 6 (.ref 0 0 0 0::ba j20::ds 74 []),[.live 2 0 [qa t1]]⟩) (λz24 h23=>?_) λj20 h23 h=>?_
 .refine ay gn [[],[],[],[],[],[],[],[],[],[],[],[],[],[],[],[],[12]] (by kernel_rfl) ?_;(try simp only[zz,zy]);refine gi h23 (λc16 h23=>?_) λc16 h23=>?_
  .have e25:=eT c16;obtain⟨x17,a27,h23⟩:=bs h23;simp only[zz,eq_true c16,e25,zy];refine lq (ji a27) ?_ (by simp only[zg,e2,e5,c6,e12,e25]);(try simp only[zz,eq_true c16,e25,zy]);refine gi h23 (λc18 h23=>?_) λc18 h23=>?_
   .obtain⟨x19,a28,h23⟩:=bs h23;simp only[zz,eq_true c16,e25,eq_true c18,zy];refine lq (ji a28) ?_ (by simp only[zg,e2,e5,c6,e12,e25]);(try simp only[zz,eq_true c16,e25,eq_true c18,zy]);cases h23;exact tz [ok 3]
   (try simp only[zz,eq_true c16,e25,c18,zy]);cases h23;exact tz [ok 3]
  have e26:=eF c16;(try simp only[zz,c16,e26,zy]);cases h23;exact tz [ok 3]
 cases h;exact rt ez
instance {t0 t1 t2 r}:Con (uj t0 t1 t2=some r) (Den Tryz.prog 198 [Ea t0,qa t1,ta t2] (.tup [qa r.1,ba r.2])):=⟨YB⟩
instance {t0 t1 t2 r}:Con (og t0 t1 t2=some r) (Den Tryz.prog 203 [Ea t0,qa t1,ta t2] (.tup [qa r.1,aa r.2])):=⟨λh=>by
 refine dk 81 J6 ?_
 simp only[J6,Kf.of,zs,ze]
 unfold og at h
 exact pg trivial (.z 2 (.e 1 (λ(j6:Int)=>⟨[.k 3,.p 4,.k 1,.s (aa j6),.p 2],[.o 0,.o 1,.o 2,.o 3]⟩) (.b (.z 1 (.j 1 (λ(j4:Bool)=>⟨[.k 3,.p 4,.k 18,.s (ba j4),.p 58],[.o 0,.o 1,.o 2,.o 3]⟩) (.b (.t [ok 0,ok 1,ok 2,ok 3]) (.t [ok 0,ok 1,ok 2,ok 3])) (.b .o (.t [ok 0,ok 1,ok 2,ok 3])))) (.t [ok 0,ok 1,ok 2,ok 3])) (.z 1 (.j 1 (λ(j8:Bool)=>⟨[.k 3,.p 35,.s (ba j8),.p 45],[.o 0,.o 1,.o 2,.o 3]⟩) (.b (.t [ok 0,ok 1,ok 2,ok 3]) (.t [ok 0,ok 1,ok 2,ok 3])) (.b .o (.z 1 (.f ⟨[.k 3,.p 81],[.o 0,.o 1,.o 2,.o 3,.n 2 [],.n 2 []]⟩ [ok 0,ok 1,ok 2,ok 3,on 2,on 2] (.g [[],[],[],[],[],[],[],[],[],[],[],[],[1,3,5,7,9,11],[1,3,5,7,9,11,12],[7,9,11]] [none,none,none,none,none,none,none,none,none,none,none,none,some 4,some 5,none] (.z 1 (.j 1 (λ(j15:Bool)=>⟨[.k 3,.p 1,.k 2,.p 2,.k 1,.p 29,.k 30,.s (ba j15),.p 15],[.o 0,.o 3,.o 4,.o 5]⟩) (.b (.b (.t [ok 0,ok 3,ov 4 1,ov 5 1]) (.t [ok 0,ok 3,ov 4 1,ov 5 1])) (.t [ok 0,ok 3,ov 4 1,ov 5 1])) (.b .o (.b (.z 1 (.j 1 (λ(j19:Bool)=>⟨[.k 6,.p 4,.k 70,.s (ba j19),.p 3],[.o 1,.o 2]⟩) (.b (.t [ok 1,ok 2]) (.t [ok 1,ok 2])) .o)) .o))))))))))))⟩
instance {t0 t1 r}:Con (Da t0 t1=some r) (Den Tryz.prog 206 [aa t0,Ci t1] (.tup [qa r.1,ba r.2])):=⟨λh=>by
 refine dk 220 M6 ?_
 simp only[M6,Kf.of,zs,ze]
 unfold Da at h
 exact pg trivial (.b .o (.b (.a [[],[],[],[],[],[],[2,4]] .o) (.j 1 (λ(j7:Bool)=>⟨[.p 5,.k 1,.p 1,.k 1,.p 1,.k 18,.s (ba j7),.p 194],[.o 0,.o 1]⟩) (.b (.t [ok 0,ok 1]) (.t [ok 0,ok 1])) (.b (.j 3 (λ(q:(Int × Int × Bool))=>⟨[.k 4,.p 1,.s (ba q.2.2)],[.h 0 [.g [.s (aa q.1),.s (aa q.2.1)]]]⟩) (.a [[],[],[],[],[],[],[],[],[],[],[],[],[],[],[],[],[],[]] (.b (.t [ok 0]) (.t [ok 0]))) .o) (.j 1 (λ(j18:Bool)=>⟨[.p 27,.k 20,.s (ba j18),.p 174],[.o 0,.o 1]⟩) (.b (.t [ok 0,ok 1]) (.b (.t [ok 0,ok 1]) (.t [ok 0,ok 1]))) (.b .o (.b (.j 3 (λ(q:(Int × Int × Bool))=>⟨[.k 4,.p 1,.s (ba q.2.2)],[.h 0 [.g [.s (aa q.1),.s (aa q.2.1)]]]⟩) (.a [[],[],[],[],[],[],[],[],[],[],[],[],[],[],[],[10,12]] (.b (.t [ok 0]) (.t [ok 0]))) .o) (.j 1 (λ(j31:Bool)=>⟨[.k 1,.p 46,.k 33,.s (ba j31),.p 141],[.o 0,.o 1]⟩) (.b (.t [ok 0,ok 1]) (.t [ok 0,ok 1])) (.b (.j 3 (λ(q:(Int × Int × Bool))=>⟨[.k 4,.p 1,.s (ba q.2.2)],[.h 0 [.g [.s (aa q.1),.s (aa q.2.1)]]]⟩) (.a [[],[],[],[],[],[],[],[],[],[],[],[],[],[],[],[],[],[],[],[],[],[],[],[],[18,20]] (.b (.b (.t [ok 0]) (.t [ok 0])) (.t [ok 0]))) .o) (.j 1 (λ(j42:Bool)=>⟨[.k 1,.p 79,.k 27,.s (ba j42),.p 114],[.o 0,.o 1]⟩) (.b (.t [ok 0,ok 1]) (.t [ok 0,ok 1])) (.b (.a [[],[],[],[],[],[],[],[],[2,3,5,6]] .o) (.j 1 (λ(j47:Bool)=>⟨[.k 1,.p 106,.k 11,.s (ba j47),.p 103],[.o 0,.o 1]⟩) (.b (.t [ok 0,ok 1]) (.t [ok 0,ok 1])) (.b (.j 1 (λ(j54:Bool)=>⟨[.k 4,.p 1,.s (ba j54)],[.h 0 [.g [.s (aa 1),.p 1]]]⟩) (.a [[],[],[],[],[],[],[],[],[],[],[],[],[],[],[],[],[],[],[],[],[],[],[16,18]] (.b (.b (.t [ok 0]) (.t [ok 0])) (.t [ok 0]))) .o) (.j 1 (λ(j56:Bool)=>⟨[.k 1,.p 117,.k 25,.s (ba j56),.p 78],[.o 0,.o 1]⟩) (.b (.t [ok 0,ok 1]) (.t [ok 0,ok 1])) (.b (.j 1 (λ(j61:Bool)=>⟨[.k 4,.p 1,.s (ba j61)],[.h 0 [.g [.s (aa 1),.p 1]]]⟩) (.a [[],[],[],[],[],[],[],[],[],[],[],[],[],[8,10]] (.b (.t [ok 0]) (.t [ok 0]))) .o) (.b (.j 3 (λ(q:(Int × Int × Bool))=>⟨[.k 4,.p 1,.s (ba q.2.2)],[.h 0 [.g [.s (aa q.1),.s (aa q.2.1)]]]⟩) (.a [[],[],[],[],[],[],[],[],[],[],[],[],[],[],[],[],[],[10,11,13,14]] (.b (.t [ok 0]) (.t [ok 0]))) .o) (.j 1 (λ(j71:Bool)=>⟨[.k 1,.p 5,.k 2,.p 135,.k 35,.s (ba j71),.p 43],[.o 0]⟩) (.b (.t [ok 0]) (.t [ok 0])) (.b (.j 3 (λ(q:(Int × Int × Bool))=>⟨[.k 4,.p 1,.s (ba q.2.2),.p 2],[.h 0 [.g [.s (aa q.1),.s (aa q.2.1)]]]⟩) (.a [[],[],[],[],[],[],[],[],[],[],[],[],[],[],[],[10,12]] (.b (.t [ok 0]) (.t [ok 0]))) .o) (.j 1 (λ(j80:Bool)=>⟨[.k 1,.p 177,.k 18,.s (ba j80),.p 25],[.o 0]⟩) (.b (.t [ok 0]) (.t [ok 0])) (.b (.j 1 (λ(j85:Bool)=>⟨[.k 4,.p 1,.s (ba j85),.p 2],[.h 0 [.g [.s (aa 2),.p 1]]]⟩) (.a [[],[],[],[],[],[],[],[],[],[],[],[],[],[8,10]] (.b (.t [ok 0]) (.t [ok 0]))) .o) (.j 1 (λ(j87:Bool)=>⟨[.k 1,.p 7,.k 204,.s (ba j87),.p 9],[.o 0]⟩) (.b (.t [ok 0]) (.t [ok 0])) (.b (.a [[],[],[],[],[],[],[2,4]] .o) .o))))))))))))))))))))))⟩
instance {t0 t1 r}:Con (Wm t0 t1=some r) (Den Tryz.prog 247 [ub t0,ub t1] (.tup [ub r.1,ba r.2])):=⟨λh=>by
 refine dk 32 A7 ?_
 simp only[A7,Kf.of,zs,ze]
 unfold Wm at h
 exact pg trivial (.z 2 (.j 1 (λ(j4:Bool)=>⟨[.k 2,.p 3,.k 9,.s (ba j4),.p 19],[.o 0,.o 1,.o 2]⟩) (.b (.t [ok 0,ok 1,ok 2]) (.t [ok 0,ok 1,ok 2])) .o))⟩
instance {t0 r}:Con (Xf t0=some r) (Den Tryz.prog 249 [xa t0] (.tup [ea r.1,ea r.2.1,ea r.2.2])):=⟨λh=>by
 refine dk 54 C7 ?_
 simp only[C7,Kf.of,zs,ze]
 unfold Xf at h
 exact pg @Cf.eq_1 (.l 4 3 (λ(q:((List Int) × (List Int) × (List Int) × Int))=>⟨[.p 2,.k 3,.s (ea q.1),.s (ea q.2.1),.s (ea q.2.2.1),.s (aa q.2.2.2),.p 46],[]⟩) (λ(q:((List Int) × (List Int) × (List Int)))=>⟨[.k 5,.s (ea q.1),.s (ea q.2.1),.s (ea q.2.2)],[]⟩) [] (.b (.j 3 (λ(q:((List Int) × (List Int) × (List Int)))=>⟨[.p 5,.s (ea q.1),.s (ea q.2.1),.s (ea q.2.2),.p 2],[]⟩) (.z 1 (.j 1 (λ(j9:(List Int))=>⟨[.p 5,.s (ea j9),.p 4],[]⟩) (.b (.t []) (.t [])) (.j 1 (λ(j12:(List Int))=>⟨[.p 6,.s (ea j12),.p 48],[]⟩) (.b (.t []) (.t [])) (.j 1 (λ(j14:Bool)=>⟨[.p 9,.k 35,.s (ba j14),.p 10],[]⟩) (.b (.t []) (.t [])) (.b (.t []) (.t [])))))) (.t [])) (.t [])) .o)⟩
instance {t0 t1 r}:Con (so t0 t1=some r) (Den Tryz.prog 273 [Ea t0,aa t1] (ba r)):=⟨λh=>by
 refine dk 49 R7 ?_
 simp only[R7,Kf.of,zs,ze]
 unfold so at h
 exact pg trivial (.z 2 (.j 1 (λ(j5:Bool)=>⟨[.k 2,.p 2,.k 16,.s (ba j5),.p 30],[.o 0]⟩) (.b (.b (.t [ok 0]) (.t [ok 0])) (.t [ok 0])) (.b .o (.z 2 (.j 1 (λ(j9:Bool)=>⟨[.k 2,.p 18,.k 2,.p 1,.s (ba j9),.p 27],[.o 0]⟩) (.b (.t [ok 0]) (.b (.t [ok 0]) (.t [ok 0]))) (.b (.j 1 (λ(j12:Bool)=>⟨[.k 4,.s (ba j12),.p 17],[]⟩) (.b (.t []) (.t [])) .o) (.b (.j 1 (λ(j15:Bool)=>⟨[.k 4,.s (ba j15),.p 17],[]⟩) (.b (.t []) (.t [])) .o) .o)))))))⟩
instance {t0 r}:Con (Yg t0=some r) (Den Tryz.prog 39 [xa t0] (.tup [ea r.1,ea r.2.1,ea r.2.2])):=⟨λh=>by
 refine dk 48 k39 ?_
 simp only[k39,Kf.of,zs,ze]
 unfold Yg at h
 exact pg @ng.eq_1 (.l 4 3 (λ(q:((List Int) × (List Int) × (List Int) × Int))=>⟨[.k 5,.s (.own 0 0),.s (.own 1 0),.s (.own 2 0),.p 4,.s (aa q.2.2.2),.p 36],[.n 1 ((q.1.map aa)),.n 1 ((q.2.1.map aa)),.n 1 ((q.2.2.1.map aa))]⟩) (λ(q:((List Int) × (List Int) × (List Int)))=>⟨[.k 5,.s (.own 0 0),.s (.own 1 0),.s (.own 2 0),.p 2],[.n 1 ((q.1.map aa)),.n 1 ((q.2.1.map aa)),.n 1 ((q.2.2.map aa))]⟩) [on 1,on 1,on 1] (.b (.j 3 (λ(q:((List Int) × (List Int) × (List Int)))=>⟨[.k 5,.p 8],[.c 0 ((q.1.map aa)),.c 1 ((q.2.1.map aa)),.c 2 ((q.2.2.map aa))]⟩) (.b (.t [ov 0 1,ok 1,ok 2]) (.b (.t [ok 0,ov 1 1,ok 2]) (.j 1 (λ(j14:Bool)=>⟨[.k 5,.p 8,.k 19,.s (ba j14),.p 16],[.o 0,.o 1,.o 2,.o 3]⟩) (.b (.t [ok 0,ok 1,ok 2,ok 3]) (.b (.t [ok 0,ok 1,ok 2,ok 3]) (.b (.t [ok 0,ok 1,ok 2,ok 3]) (.t [ok 0,ok 1,ok 2,ok 3])))) (.b (.t [ok 0,ok 1,ov 2 1]) (.t [ok 0,ok 1,ok 2]))))) (.t [ok 0,ok 1,ok 2])) (.t [ok 0,ok 1,ok 2])) .o)⟩
instance {t0 r}:Con (jb t0=some r) (Den Tryz.prog 134 [df t0] (ba r)):=⟨λh=>by
 refine dk 43 S4 ?_
 simp only[S4,Kf.of,zs,ze]
 unfold jb at h
 exact pg (And.intro @fe.eq_1 @ie.eq_1) (.z 2 (.j 1 (λ(j5:Bool)=>⟨[.p 2,.k 17,.s (ba j5),.p 24],[]⟩) (.b (.b (.t []) (.t [])) (.t [])) (.b .o (.l 1 0 (λ(s7:Int)=>⟨[.p 3,.s (aa s7),.p 15],[]⟩) (λ(_:Unit)=>⟨[.p 3],[]⟩) [] (.b (.b .o (.t [])) (.t [])) (.l 1 0 (λ(s14:Int)=>⟨[.p 5,.s (aa s14),.p 25],[]⟩) (λ(_:Unit)=>⟨[],[]⟩) [] (.b (.b .o (.t [])) (.t [])) .o)))))⟩
instance {t0 t1 r}:Con (Qi t0 t1=some r) (Den Tryz.prog 143 [xa t0,aa t1] (ea r)):=⟨λh=>by
 refine dk 54 o5 ?_
 simp only[o5,Kf.of,zs,ze]
 unfold Qi at h
 exact pg @ko.eq_1 (.z 3 (.j 1 (λ(j4:Bool)=>⟨[.p 4,.k 1,.p 1,.k 23,.s (ba j4),.p 26],[]⟩) (.b (.b (.t []) (.t [])) (.t [])) (.b .o (.l 3 1 (λ(q:((List Int) × Int × Int))=>⟨[.k 5,.p 3,.k 1,.p 1,.s (aa q.2.1),.s (aa q.2.2),.p 17],[.c 0 ((q.1.map aa))]⟩) (λ(b19:(List Int))=>⟨[.k 9,.p 1],[.c 0 ((b19.map aa))]⟩) [ok 0] (.b (.t [ok 0]) (.t [ok 0])) .o))))⟩
instance {t0 r}:Con (dr t0=some r) (Den Tryz.prog 164 [xa t0] (.tup [ea r.1,aa r.2])):=⟨λh=>by
 refine dk 14 K5 ?_
 simp only[K5,Kf.of,zs,ze]
 unfold dr at h
 exact pg trivial .o⟩
instance {t0 t1 r}:Con (Al t0 t1=some r) (Den Tryz.prog 188 [jg t0,jg t1] (ba r)):=⟨λh=>by
 refine dk 27 o6 ?_
 simp only[o6,Kf.of,zs,ze]
 unfold Al at h
 exact pg trivial (.z 2 (.j 1 (λ(j3:Bool)=>⟨[.k 4,.s (ba j3)],[]⟩) (.b (.t []) (.t [])) .o))⟩
instance {t0 t1 r}:Con (cm t0 t1=some r) (Den Tryz.prog 192 [Ca t0,aa t1] (ea r)):=⟨λh=>by
 refine dk 91 w6 ?_
 simp only[w6,Kf.of,zs,ze]
 unfold cm at h
 exact pg (And.intro @Vi.eq_1 (And.intro @fm.eq_1 @gm.eq_1)) (.b .o (.l 2 1 (λ(q:((List Int) × Int))=>⟨[.k 1,.p 3,.k 1,.s (ea q.1),.s (aa q.2),.p 8],[.o 0]⟩) (λ(b35:(List Int))=>⟨[.k 5,.s (ea b35)],[]⟩) [ok 0] (.b (.j 1 (λ(j32:(List Int))=>⟨[.k 1,.p 4,.s (ea j32),.p 13],[.o 0]⟩) (.b (.t [ok 0]) (.l 2 1 (λ(q:((List Int) × Int))=>⟨[.k 1,.p 4,.s (ea q.1),.p 1,.k 1,.p 1,.k 2,.p 1,.k 1,.s (aa q.2),.p 5],[.o 0]⟩) (λ(b20:(List Int))=>⟨[.k 1,.p 4,.s (ea b20),.p 1,.k 4,.p 1],[.o 0]⟩) [ok 0] (.b (.j 1 (λ(j17:(List Int))=>⟨[.k 1,.p 4,.s (ea j17),.p 50],[.o 0]⟩) (.b (.t [ok 0]) (.t [ok 0])) (.t [ok 0])) (.t [ok 0])) (.l 2 1 (λ(q:((List Int) × Int))=>⟨[.k 1,.p 4,.s (ea q.1),.p 8,.s (aa q.2),.p 78],[.o 0]⟩) (λ(b31:(List Int))=>⟨[.k 1,.p 4,.s (ea b31),.p 5],[.o 0]⟩) [ok 0] (.b (.j 1 (λ(j28:(List Int))=>⟨[.k 1,.p 4,.s (ea j28),.p 68],[.o 0]⟩) (.b (.t [ok 0]) (.t [ok 0])) (.t [ok 0])) (.t [ok 0])) (.t [ok 0])))) (.t [ok 0])) (.t [])) .o))⟩
end Go.Proofs.Dev
