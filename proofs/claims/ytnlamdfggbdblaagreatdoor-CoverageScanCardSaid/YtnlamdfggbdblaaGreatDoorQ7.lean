/-
  Contracts of the functions: each answers as its plain partial function says.
-/
import Derived.Test.YtnlamdfggbdblaaGreatDoorK
import Derived.Test.YtnlamdfggbdblaaGreatDoorG
import Derived.Test.YtnlamdfggbdblaaGreatDoorPD
import Derived.Test.YtnlamdfggbdblaaGreatDoorH2
import Derived.Test.YtnlamdfggbdblaaGreatDoorQ0
import Derived.Test.YtnlamdfggbdblaaGreatDoorQ1
import Derived.Test.YtnlamdfggbdblaaGreatDoorQ2
import Derived.Test.YtnlamdfggbdblaaGreatDoorQ3
set_option linter.all false
set_option maxHeartbeats 1000000
set_option maxRecDepth 10000
namespace Go.Proofs.Dev
open Go Go.Tm
instance {t0 t1 r}:Con (bd t0 t1=some r) (Den Tryz.prog 32 [va t0,va t1] (ba r)):=⟨λh=>by
 refine dk 29 k32 ?_
 simp only[k32,Kf.of,zs,ze]
 unfold bd at h
 exact pg trivial (.z 1 (.j 1 (λ(j5:Bool)=>⟨[.k 4,.s (ba j5),.p 26],[]⟩) (.b (.b (.b (.t []) (.t [])) (.t [])) (.t [])) .o))⟩
instance {t0 t1 r}:Con (th t0 t1=some r) (Den Tryz.prog 35 [Jb t0,aa t1] (ta r)):=⟨λh=>by
 refine dk 53 k35 ?_
 simp only[k35,Kf.of,zs,ze]
 unfold th at h
 exact pg trivial (.z 2 (.j 1 (λ(j2:Bool)=>⟨[.k 1,.p 14,.s (ba j2),.p 39],[.o 0,.o 1]⟩) (.b (.t [ok 0,ok 1]) (.t [ok 0,ok 1])) (.b .o (.z 2 (.j 2 (λ(q:((List GType) × Bool))=>⟨[.k 4,.p 1,.k 1,.p 9],[.o 1,.h 3 [.g [.p 4,.s (Mi q.1),.s (ba q.2)]]]⟩) (.j 1 (λ(j8:Bool)=>⟨[.k 2,.p 13,.k 28,.s (ba j8),.p 11],[.o 0,.o 1,.o 2,.o 3]⟩) (.b (.t [ok 0,ok 1,ok 2,ok 3]) (.t [ok 0,ok 1,ok 2,ok 3])) (.b (.t [ok 1,ok 3]) (.t [ok 1,ok 3]))) .o)))))⟩
instance {t0 r}:Con (Qf t0=some r) (Den Tryz.prog 108 [ya t0] (.tup [da r.1,aa r.2.1,aa r.2.2])):=⟨λh=>by
 refine dk 69 W2 ?_
 simp only[W2,Kf.of,zs,ze]
 unfold Qf at h
 exact pg @Qg.eq_1 (.b .o (.b .o (.l 3 2 (λ(q:((List Int) × (List Int) × Int))=>⟨[.p 2,.k 3,.s (.own 0 0),.s (.own 1 0),.s (aa q.2.2),.p 2],[.n 1 ((q.1.map aa)),.n 1 ((q.2.1.map aa))]⟩) (λ(q:((List Int) × (List Int)))=>⟨[.p 2,.k 3,.s (.own 0 0),.s (.own 1 0)],[.n 1 ((q.1.map aa)),.n 1 ((q.2.map aa))]⟩) [on 1,on 1] (.b (.b .o (.b .o (.z 1 (.j 2 (λ(q:((List Int) × Int))=>⟨[.p 8,.k 1,.s (aa q.2),.p 6],[.o 0,.c 1 ((q.1.map aa))]⟩) (.b (.t [ok 0,ov 1 1]) (.t [ok 0,ok 1])) (.b .o (.t [ov 0 1,ov 1 1])))))) (.t [ok 0,ok 1])) .o)))⟩
instance {t0 t1 r}:Con (Jd t0 t1=some r) (Den Tryz.prog 131 [oa t0,aa t1] (da r)):=⟨λh=>by
 refine dk 34 O3 ?_
 simp only[O3,Kf.of,zs,ze]
 unfold Jd at h
 exact pg @Gg.eq_1 (.l 3 1 (λ(q:((List Int) × Int × Int))=>⟨[.k 2,.p 2,.k 1,.p 1,.s (aa q.2.1),.s (aa q.2.2)],[.o 0,.c 1 ((q.1.map aa))]⟩) (λ(b14:(List Int))=>⟨[.k 5,.p 1],[.c 1 ((b14.map aa))]⟩) [ok 0,ok 1] (.b (.t [ok 0,ok 1]) (.t [ok 1])) .o)⟩
theorem WB{t0:GNode}{t1:GType}{t2:GSignature}{r:(GType×Bool)}(h:Cj t0 t1 t2=some r):Den Tryz.prog 154 [Ga t0,qa t1,ta t2] (.tup [qa r.1,ba r.2]):=by
 refine dk 79 G4 ?_;simp only[G4,Kf.of,zs,ze];unfold Cj at h;refine ss (rg ?_);(try simp only[zz]);refine ss (ss (rg ?_));(try simp only[zz]);refine bk (ss (rg ?_));(try simp only[zz]);refine cd rfl ?_;(try simp only[zz]);refine gi h (λc1 h=>?_) λc1 h=>?_
 .have e1:=eT c1;refine ss (dy Es ?_);obtain⟨x2,a3,h⟩:=bs h;simp only[zz,zy];refine lq (vq a3) ?_ (by simp only[zg,e1]);(try simp only[zz,zy]);cases h;exact rt ez
 have e2:=eF c1;refine ss (rg ?_);(try simp only[zz]);refine cd rfl ?_;(try simp only[zz]);refine gi h (λc3 h=>?_) λc3 h=>?_
 .have e4:=eT c3;refine ss (ay Es [[],[],[],[],[2]] (by kernel_rfl) ?_);(try simp only[zz,zy]);cases h;exact rt ez
 have e5:=eF c3;refine jm h (λj5=>⟨ds 3 (.ref 0 0 0 0::.ref 1 0 0 0::.ref 2 0 0 0::.ref 3 0 0 0::ds 4 (aa t0.Op::ds 12 (ba j5::ds 57 []))),[.live 2 0 [Ga t0],.live 2 0 [qa t1],.live 6 0 [ta t2],.live 2 0 [.agg [aa 0,aa 0]]]⟩) (λz7 h6=>?_) λj5 h6 h=>?_
 .refine ss (rg ?_);(try simp only[zz]);refine cd rfl ?_;(try simp only[zz]);refine gi h6 (λc4 h6=>?_) λc4 h6=>?_
  .have e8:=eT c4;refine sk ?_;(try simp only[zz,eq_true c4,e8]);cases h6;exact tz [ok 0,ok 1,ok 2,ok 3]
  have e9:=eF c4;refine rg ?_;(try simp only[zz]);cases h6;exact tz [ok 0,ok 1,ok 2,ok 3]
 refine cd rfl ?_;(try simp only[zz]);refine gi h (λc6 h=>?_) λc6 h=>?_
 .refine ss (ay Es [[],[],[],[],[2]] (by kernel_rfl) ?_);obtain⟨x7,a10,h⟩:=bs h;simp only[zz,zy];refine lq (wi a10) ?_ (by simp only[zg,e2,e5,c6]);(try simp only[zz,zy]);cases h;exact rt ez
 refine ss (rg ?_);(try simp only[zz]);refine cd rfl ?_;(try simp only[zz]);refine gi h (λc8 h=>?_) λc8 h=>?_
 .have e11:=eT c8;refine ss (rg ?_);obtain⟨x9,f14,f15,h⟩:=bI h;(try simp only[zz,f14,f15]);refine jm h (λj14=>⟨ds 6 (.ref 0 0 0 0::ba j14::ds 74 []),[.live 2 0 [.agg [aa x9.Value.Kind,aa x9.Value.Enum]]]⟩) (λz17 h16=>?_) λj14 h16 h=>?_
  .refine ay Es [[],[],[],[],[],[],[],[],[],[],[],[],[],[],[],[],[],[],[],[],[15,17]] (by kernel_rfl) ?_;obtain⟨x10,a18,h16⟩:=bs h16;simp only[zz,zy];refine lq (pn a18) ?_ (by simp only[zg,e2,e5,c6,e11]);(try simp only[zz,zy]);refine gi h16 (λc11 h16=>?_) λc11 h16=>?_
   .obtain⟨x12,a19,h16⟩:=bs h16;simp only[zz,c11,zy];refine lq (pn a19) ?_ (by simp only[zg,e2,e5,c6,e11,c11]);(try simp only[zz,c11,zy]);refine gi h16 (λc13 h16=>?_) λc13 h16=>?_
    ·(try simp only[zz,c11,c13,zy]);cases h16;exact tz [ok 3]
    (try simp only[zz,c11,c13,zy]);cases h16;exact tz [ok 3]
   (try simp only[zz,c11,zy]);cases h16;exact tz [ok 3]
  cases h;exact rt ez
 have e12:=eF c8;refine sk ?_;(try simp only[zz,c8,e12]);refine ss (rg ?_);obtain⟨x15,f21,f22,h⟩:=bI h;(try simp only[zz,f21,f22,Int.reduceEq,Int.reduceNeg]);refine jm h (λj20=>⟨ds 6 (.ref 0 0 0 0::ba j20::ds 74 []),[.live 2 0 [qa t1]]⟩) (λz24 h23=>?_) λj20 h23 h=>?_
 .refine ay Es [[],[],[],[],[],[],[],[],[],[],[],[],[],[],[],[],[12]] (by kernel_rfl) ?_;(try simp only[zz,zy]);refine gi h23 (λc16 h23=>?_) λc16 h23=>?_
  .have e25:=eT c16;obtain⟨x17,a27,h23⟩:=bs h23;simp only[zz,eq_true c16,e25,zy];refine lq (wi a27) ?_ (by simp only[zg,e2,e5,c6,e12,e25]);(try simp only[zz,eq_true c16,e25,zy]);refine gi h23 (λc18 h23=>?_) λc18 h23=>?_
   .obtain⟨x19,a28,h23⟩:=bs h23;simp only[zz,eq_true c16,e25,eq_true c18,zy];refine lq (wi a28) ?_ (by simp only[zg,e2,e5,c6,e12,e25]);(try simp only[zz,eq_true c16,e25,eq_true c18,zy]);cases h23;exact tz [ok 3]
   (try simp only[zz,eq_true c16,e25,c18,zy]);cases h23;exact tz [ok 3]
  have e26:=eF c16;(try simp only[zz,c16,e26,zy]);cases h23;exact tz [ok 3]
 cases h;exact rt ez
instance {t0 t1 t2 r}:Con (Cj t0 t1 t2=some r) (Den Tryz.prog 154 [Ga t0,qa t1,ta t2] (.tup [qa r.1,ba r.2])):=⟨WB⟩
theorem Hj{t0}{t1:GScope->Option Bool}{k1:Nat}{q1:List D}(hc1:ia q1=true)(hp1:∀ x0 r,t1 x0=some r->Den Tryz.prog k1 ([Da x0]++q1) (ba r)){r} (h:Wa t0 t1=some r):Den Tryz.prog 167 [gn t0,.fn k1 [] q1] (ba r):=by
 haveI I1:∀ x0 r,Con (t1 x0=some r) (Den Tryz.prog k1 ([Da x0]++q1) (ba r)):=λx0 r=>⟨hp1 x0 r⟩
 have s1:∀ f:D->D->Prop,Zu f q1 q1=True:=λ_=>bg hc1
 have z1:∀ a b n,Ys a b n q1=q1:=λ_ _ _=>Ld _ _ _ _ hc1
 haveI:∀ y0 r,Con (Mb y0 t1=some r) (Den Tryz.prog 219 [gn y0,.fn k1 [] q1] (aa r)):=λy0 r=>⟨Mk hc1 hp1⟩
 refine Den.at 7 pY.ok pY.nm (iB (xK hc1 oz)) rfl ?_
 simp only[pY,Kf.of,zs,ze]
 unfold Wa at h
 exact pg trivial .o
instance {t0 t1 r}:Con (Nd t0 t1=some r) (Den Tryz.prog 171 [da t0,aa t1] (ba r)):=⟨λh=>by
 refine dk 7 U4 ?_
 simp only[U4,Kf.of,zs,ze]
 unfold Nd at h
 exact pg trivial .o⟩
instance {t0 t1 t2 r}:Con (Jg t0 t1 t2=some r) (Den Tryz.prog 176 [Ga t0,qa t1,ta t2] (.tup [qa r.1,aa r.2])):=⟨λh=>by
 refine dk 81 Z4 ?_
 simp only[Z4,Kf.of,zs,ze]
 unfold Jg at h
 exact pg trivial (.z 2 (.e 1 (λ(j6:Int)=>⟨[.k 3,.p 4,.k 1,.s (aa j6),.p 2],[.o 0,.o 1,.o 2,.o 3]⟩) (.b (.z 1 (.j 1 (λ(j4:Bool)=>⟨[.k 3,.p 4,.k 18,.s (ba j4),.p 58],[.o 0,.o 1,.o 2,.o 3]⟩) (.b (.t [ok 0,ok 1,ok 2,ok 3]) (.t [ok 0,ok 1,ok 2,ok 3])) (.b .o (.t [ok 0,ok 1,ok 2,ok 3])))) (.t [ok 0,ok 1,ok 2,ok 3])) (.z 1 (.j 1 (λ(j8:Bool)=>⟨[.k 3,.p 35,.s (ba j8),.p 45],[.o 0,.o 1,.o 2,.o 3]⟩) (.b (.t [ok 0,ok 1,ok 2,ok 3]) (.t [ok 0,ok 1,ok 2,ok 3])) (.b .o (.z 1 (.f ⟨[.k 3,.p 81],[.o 0,.o 1,.o 2,.o 3,.n 2 [],.n 2 []]⟩ [ok 0,ok 1,ok 2,ok 3,on 2,on 2] (.g [[],[],[],[],[],[],[],[],[],[],[],[],[1,3,5,7,9,11],[1,3,5,7,9,11,12],[7,9,11]] [none,none,none,none,none,none,none,none,none,none,none,none,some 4,some 5,none] (.z 1 (.j 1 (λ(j15:Bool)=>⟨[.k 3,.p 1,.k 2,.p 2,.k 1,.p 29,.k 30,.s (ba j15),.p 15],[.o 0,.o 3,.o 4,.o 5]⟩) (.b (.b (.t [ok 0,ok 3,ov 4 1,ov 5 1]) (.t [ok 0,ok 3,ov 4 1,ov 5 1])) (.t [ok 0,ok 3,ov 4 1,ov 5 1])) (.b .o (.b (.z 1 (.j 1 (λ(j19:Bool)=>⟨[.k 6,.p 4,.k 70,.s (ba j19),.p 3],[.o 1,.o 2]⟩) (.b (.t [ok 1,ok 2]) (.t [ok 1,ok 2])) .o)) .o))))))))))))⟩
instance {t0 t1 r}:Con (Fa t0 t1=some r) (Den Tryz.prog 179 [aa t0,Mi t1] (.tup [qa r.1,ba r.2])):=⟨λh=>by
 refine dk 220 q5 ?_
 simp only[q5,Kf.of,zs,ze]
 unfold Fa at h
 exact pg trivial (.b .o (.b (.a [[],[],[],[],[],[],[2,4]] .o) (.j 1 (λ(j7:Bool)=>⟨[.p 5,.k 1,.p 1,.k 1,.p 1,.k 18,.s (ba j7),.p 194],[.o 0,.o 1]⟩) (.b (.t [ok 0,ok 1]) (.t [ok 0,ok 1])) (.b (.j 3 (λ(q:(Int × Int × Bool))=>⟨[.k 4,.p 1,.s (ba q.2.2)],[.h 0 [.g [.s (aa q.1),.s (aa q.2.1)]]]⟩) (.a [[],[],[],[],[],[],[],[],[],[],[],[],[],[],[],[],[],[]] (.b (.t [ok 0]) (.t [ok 0]))) .o) (.j 1 (λ(j18:Bool)=>⟨[.p 27,.k 20,.s (ba j18),.p 174],[.o 0,.o 1]⟩) (.b (.t [ok 0,ok 1]) (.b (.t [ok 0,ok 1]) (.t [ok 0,ok 1]))) (.b .o (.b (.j 3 (λ(q:(Int × Int × Bool))=>⟨[.k 4,.p 1,.s (ba q.2.2)],[.h 0 [.g [.s (aa q.1),.s (aa q.2.1)]]]⟩) (.a [[],[],[],[],[],[],[],[],[],[],[],[],[],[],[],[10,12]] (.b (.t [ok 0]) (.t [ok 0]))) .o) (.j 1 (λ(j31:Bool)=>⟨[.k 1,.p 46,.k 33,.s (ba j31),.p 141],[.o 0,.o 1]⟩) (.b (.t [ok 0,ok 1]) (.t [ok 0,ok 1])) (.b (.j 3 (λ(q:(Int × Int × Bool))=>⟨[.k 4,.p 1,.s (ba q.2.2)],[.h 0 [.g [.s (aa q.1),.s (aa q.2.1)]]]⟩) (.a [[],[],[],[],[],[],[],[],[],[],[],[],[],[],[],[],[],[],[],[],[],[],[],[],[18,20]] (.b (.b (.t [ok 0]) (.t [ok 0])) (.t [ok 0]))) .o) (.j 1 (λ(j42:Bool)=>⟨[.k 1,.p 79,.k 27,.s (ba j42),.p 114],[.o 0,.o 1]⟩) (.b (.t [ok 0,ok 1]) (.t [ok 0,ok 1])) (.b (.a [[],[],[],[],[],[],[],[],[2,3,5,6]] .o) (.j 1 (λ(j47:Bool)=>⟨[.k 1,.p 106,.k 11,.s (ba j47),.p 103],[.o 0,.o 1]⟩) (.b (.t [ok 0,ok 1]) (.t [ok 0,ok 1])) (.b (.j 1 (λ(j54:Bool)=>⟨[.k 4,.p 1,.s (ba j54)],[.h 0 [.g [.s (aa 1),.p 1]]]⟩) (.a [[],[],[],[],[],[],[],[],[],[],[],[],[],[],[],[],[],[],[],[],[],[],[16,18]] (.b (.b (.t [ok 0]) (.t [ok 0])) (.t [ok 0]))) .o) (.j 1 (λ(j56:Bool)=>⟨[.k 1,.p 117,.k 25,.s (ba j56),.p 78],[.o 0,.o 1]⟩) (.b (.t [ok 0,ok 1]) (.t [ok 0,ok 1])) (.b (.j 1 (λ(j61:Bool)=>⟨[.k 4,.p 1,.s (ba j61)],[.h 0 [.g [.s (aa 1),.p 1]]]⟩) (.a [[],[],[],[],[],[],[],[],[],[],[],[],[],[8,10]] (.b (.t [ok 0]) (.t [ok 0]))) .o) (.b (.j 3 (λ(q:(Int × Int × Bool))=>⟨[.k 4,.p 1,.s (ba q.2.2)],[.h 0 [.g [.s (aa q.1),.s (aa q.2.1)]]]⟩) (.a [[],[],[],[],[],[],[],[],[],[],[],[],[],[],[],[],[],[10,11,13,14]] (.b (.t [ok 0]) (.t [ok 0]))) .o) (.j 1 (λ(j71:Bool)=>⟨[.k 1,.p 5,.k 2,.p 135,.k 35,.s (ba j71),.p 43],[.o 0]⟩) (.b (.t [ok 0]) (.t [ok 0])) (.b (.j 3 (λ(q:(Int × Int × Bool))=>⟨[.k 4,.p 1,.s (ba q.2.2),.p 2],[.h 0 [.g [.s (aa q.1),.s (aa q.2.1)]]]⟩) (.a [[],[],[],[],[],[],[],[],[],[],[],[],[],[],[],[10,12]] (.b (.t [ok 0]) (.t [ok 0]))) .o) (.j 1 (λ(j80:Bool)=>⟨[.k 1,.p 177,.k 18,.s (ba j80),.p 25],[.o 0]⟩) (.b (.t [ok 0]) (.t [ok 0])) (.b (.j 1 (λ(j85:Bool)=>⟨[.k 4,.p 1,.s (ba j85),.p 2],[.h 0 [.g [.s (aa 2),.p 1]]]⟩) (.a [[],[],[],[],[],[],[],[],[],[],[],[],[],[8,10]] (.b (.t [ok 0]) (.t [ok 0]))) .o) (.j 1 (λ(j87:Bool)=>⟨[.k 1,.p 7,.k 204,.s (ba j87),.p 9],[.o 0]⟩) (.b (.t [ok 0]) (.t [ok 0])) (.b (.a [[],[],[],[],[],[],[2,4]] .o) .o))))))))))))))))))))))⟩
instance {t0 r}:Con (xg t0=some r) (Den Tryz.prog 209 [ya t0] (.tup [da r.1,da r.2.1,da r.2.2])):=⟨λh=>by
 refine dk 54 N5 ?_
 simp only[N5,Kf.of,zs,ze]
 unfold xg at h
 exact pg @Wf.eq_1 (.l 4 3 (λ(q:((List Int) × (List Int) × (List Int) × Int))=>⟨[.p 2,.k 3,.s (da q.1),.s (da q.2.1),.s (da q.2.2.1),.s (aa q.2.2.2),.p 46],[]⟩) (λ(q:((List Int) × (List Int) × (List Int)))=>⟨[.k 5,.s (da q.1),.s (da q.2.1),.s (da q.2.2)],[]⟩) [] (.b (.j 3 (λ(q:((List Int) × (List Int) × (List Int)))=>⟨[.p 5,.s (da q.1),.s (da q.2.1),.s (da q.2.2),.p 2],[]⟩) (.z 1 (.j 1 (λ(j9:(List Int))=>⟨[.p 5,.s (da j9),.p 4],[]⟩) (.b (.t []) (.t [])) (.j 1 (λ(j12:(List Int))=>⟨[.p 6,.s (da j12),.p 48],[]⟩) (.b (.t []) (.t [])) (.j 1 (λ(j14:Bool)=>⟨[.p 9,.k 35,.s (ba j14),.p 10],[]⟩) (.b (.t []) (.t [])) (.b (.t []) (.t [])))))) (.t [])) (.t [])) .o)⟩
instance {t0 r}:Con (Dh t0=some r) (Den Tryz.prog 263 [Bb t0] (ba r)):=⟨λh=>by
 refine dk 11 L6 ?_
 simp only[L6,Kf.of,zs,ze]
 unfold Dh at h
 exact pg trivial (.z 1 (.j 1 (λ(j3:Bool)=>⟨[.k 2,.s (ba j3),.p 9],[]⟩) (.b (.t []) (.t [])) .o))⟩
theorem Tt{t0 r} (h:Li t0=some r):EB Tryz.prog 268 [] [] 1 (t0.map aa) (da r):=by
 refine EB.at 6 xY.ok xY.nm oz oz (Fr.l _) rfl ?_
 simp only[xY,Kf.of,zs,ze]
 unfold Li at h
 exact pg trivial .o
instance {t0 r}:Con (Li t0=some r) (EB Tryz.prog 268 [] [] 1 (t0.map aa) (da r)):=⟨Tt⟩
instance {t0 r}:Con (ti t0=some r) (EB Tryz.prog 319 [] [] 1 (t0.map aa) (da r)):=⟨λh=>by
 refine EB.at 6 yY.ok yY.nm oz oz (Fr.l _) rfl ?_
 simp only[yY,Kf.of,zs,ze]
 unfold ti at h
 exact pg trivial .o⟩
instance {t0 t1 r}:Con (Jc t0 t1=some r) (Den Tryz.prog 10 [fb t0,fb t1] (ba r)):=⟨λh=>by
 refine dk 31 k10 ?_
 simp only[k10,Kf.of,zs,ze]
 unfold Jc at h
 exact pg @Ge.eq_1 (.b .o (.l 1 0 (λ(s2:Int)=>⟨[.p 4,.k 1,.s (aa s2)],[]⟩) (λ(_:Unit)=>⟨[],[]⟩) [] (.z 1 (.j 1 (λ(j4:Bool)=>⟨[.p 20,.s (ba j4),.p 12],[]⟩) (.b (.t []) (.t [])) (.b (.b .o (.t [])) (.t [])))) .o))⟩
instance {t0 r}:Con (Xq t0=some r) (Den Tryz.prog 96 [ya t0] (.tup [da r.1,aa r.2])):=⟨λh=>by
 refine dk 14 k96 ?_
 simp only[k96,Kf.of,zs,ze]
 unfold Xq at h
 exact pg trivial .o⟩
instance {t0 t1 r}:Con (Zi t0 t1=some r) (Den Tryz.prog 111 [ya t0,aa t1] (da r)):=⟨λh=>by
 refine dk 54 Z2 ?_
 simp only[Z2,Kf.of,zs,ze]
 unfold Zi at h
 exact pg @ko.eq_1 (.z 3 (.j 1 (λ(j4:Bool)=>⟨[.p 4,.k 1,.p 1,.k 23,.s (ba j4),.p 26],[]⟩) (.b (.b (.t []) (.t [])) (.t [])) (.b .o (.l 3 1 (λ(q:((List Int) × Int × Int))=>⟨[.k 5,.p 3,.k 1,.p 1,.s (aa q.2.1),.s (aa q.2.2),.p 17],[.c 0 ((q.1.map aa))]⟩) (λ(b19:(List Int))=>⟨[.k 9,.p 1],[.c 0 ((b19.map aa))]⟩) [ok 0] (.b (.t [ok 0]) (.t [ok 0])) .o))))⟩
instance {t0 t1 r}:Con (gm t0 t1=some r) (Den Tryz.prog 148 [Da t0,aa t1] (da r)):=⟨λh=>by
 refine dk 91 A4 ?_
 simp only[A4,Kf.of,zs,ze]
 unfold gm at h
 exact pg (And.intro @fj.eq_1 (And.intro @im.eq_1 @km.eq_1)) (.b .o (.l 2 1 (λ(q:((List Int) × Int))=>⟨[.k 1,.p 3,.k 1,.s (da q.1),.s (aa q.2),.p 8],[.o 0]⟩) (λ(b35:(List Int))=>⟨[.k 5,.s (da b35)],[]⟩) [ok 0] (.b (.j 1 (λ(j32:(List Int))=>⟨[.k 1,.p 4,.s (da j32),.p 13],[.o 0]⟩) (.b (.t [ok 0]) (.l 2 1 (λ(q:((List Int) × Int))=>⟨[.k 1,.p 4,.s (da q.1),.p 1,.k 1,.p 1,.k 2,.p 1,.k 1,.s (aa q.2),.p 5],[.o 0]⟩) (λ(b20:(List Int))=>⟨[.k 1,.p 4,.s (da b20),.p 1,.k 4,.p 1],[.o 0]⟩) [ok 0] (.b (.j 1 (λ(j17:(List Int))=>⟨[.k 1,.p 4,.s (da j17),.p 50],[.o 0]⟩) (.b (.t [ok 0]) (.t [ok 0])) (.t [ok 0])) (.t [ok 0])) (.l 2 1 (λ(q:((List Int) × Int))=>⟨[.k 1,.p 4,.s (da q.1),.p 8,.s (aa q.2),.p 78],[.o 0]⟩) (λ(b31:(List Int))=>⟨[.k 1,.p 4,.s (da b31),.p 5],[.o 0]⟩) [ok 0] (.b (.j 1 (λ(j28:(List Int))=>⟨[.k 1,.p 4,.s (da j28),.p 68],[.o 0]⟩) (.b (.t [ok 0]) (.t [ok 0])) (.t [ok 0])) (.t [ok 0])) (.t [ok 0])))) (.t [ok 0])) (.t [])) .o))⟩
instance {t0 t1 r}:Con (Fi t0 t1=some r) (Den Tryz.prog 215 [Bb t0,Bb t1] (.tup [Bb r.1,ba r.2])):=⟨λh=>by
 refine dk 32 T5 ?_
 simp only[T5,Kf.of,zs,ze]
 unfold Fi at h
 exact pg trivial (.z 2 (.j 1 (λ(j4:Bool)=>⟨[.k 2,.p 3,.k 9,.s (ba j4),.p 19],[.o 0,.o 1,.o 2]⟩) (.b (.t [ok 0,ok 1,ok 2]) (.t [ok 0,ok 1,ok 2])) .o))⟩
instance {t0 r}:Con (ph t0=some r) (Den Tryz.prog 296 [ya t0] (.tup [da r.1,da r.2.1,da r.2.2])):=⟨λh=>by
 refine dk 48 X6 ?_
 simp only[X6,Kf.of,zs,ze]
 unfold ph at h
 exact pg @Ig.eq_1 (.l 4 3 (λ(q:((List Int) × (List Int) × (List Int) × Int))=>⟨[.k 5,.s (.own 0 0),.s (.own 1 0),.s (.own 2 0),.p 4,.s (aa q.2.2.2),.p 36],[.n 1 ((q.1.map aa)),.n 1 ((q.2.1.map aa)),.n 1 ((q.2.2.1.map aa))]⟩) (λ(q:((List Int) × (List Int) × (List Int)))=>⟨[.k 5,.s (.own 0 0),.s (.own 1 0),.s (.own 2 0),.p 2],[.n 1 ((q.1.map aa)),.n 1 ((q.2.1.map aa)),.n 1 ((q.2.2.map aa))]⟩) [on 1,on 1,on 1] (.b (.j 3 (λ(q:((List Int) × (List Int) × (List Int)))=>⟨[.k 5,.p 8],[.c 0 ((q.1.map aa)),.c 1 ((q.2.1.map aa)),.c 2 ((q.2.2.map aa))]⟩) (.b (.t [ov 0 1,ok 1,ok 2]) (.b (.t [ok 0,ov 1 1,ok 2]) (.j 1 (λ(j14:Bool)=>⟨[.k 5,.p 8,.k 19,.s (ba j14),.p 16],[.o 0,.o 1,.o 2,.o 3]⟩) (.b (.t [ok 0,ok 1,ok 2,ok 3]) (.b (.t [ok 0,ok 1,ok 2,ok 3]) (.b (.t [ok 0,ok 1,ok 2,ok 3]) (.t [ok 0,ok 1,ok 2,ok 3])))) (.b (.t [ok 0,ok 1,ov 2 1]) (.t [ok 0,ok 1,ok 2]))))) (.t [ok 0,ok 1,ok 2])) (.t [ok 0,ok 1,ok 2])) .o)⟩
end Go.Proofs.Dev
