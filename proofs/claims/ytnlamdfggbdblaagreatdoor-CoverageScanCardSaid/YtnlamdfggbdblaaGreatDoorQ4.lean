/-
  Contracts of the functions: each answers as its plain partial function says.
-/
import Derived.Test.YtnlamdfggbdblaaGreatDoorK
import Derived.Test.YtnlamdfggbdblaaGreatDoorG
import Derived.Test.YtnlamdfggbdblaaGreatDoorPD
import Derived.Test.YtnlamdfggbdblaaGreatDoorH2
import Derived.Test.YtnlamdfggbdblaaGreatDoorQ0
import Derived.Test.YtnlamdfggbdblaaGreatDoorQ1
import Derived.Test.YtnlamdfggbdblaaGreatDoorQ2
import Derived.Test.YtnlamdfggbdblaaGreatDoorQ3
set_option linter.all false
set_option maxHeartbeats 1000000
set_option maxRecDepth 10000
namespace Go.Proofs.Dev
open Go Go.Tm
instance {t0 t1 r}:Con (Rm t0 t1=some r) (Den Tryz.prog 18 [vc t0,vc t1] (ba r)):=⟨λh=>by
 refine dk 31 k18 ?_
 simp only[k18,Kf.of,zs,ze]
 unfold Rm at h
 exact pg @oj.eq_1 (.b .o (.l 1 0 (λ(s2:Int)=>⟨[.p 4,.k 1,.s (aa s2)],[]⟩) (λ(_:Unit)=>⟨[],[]⟩) [] (.z 1 (.j 1 (λ(j4:Bool)=>⟨[.p 20,.s (ba j4),.p 12],[]⟩) (.b (.t []) (.t [])) (.b (.b .o (.t [])) (.t [])))) .o))⟩
instance {t0 t1 r}:Con (Je t0 t1=some r) (Den Tryz.prog 52 [Bb t0,aa t1] (ba r)):=⟨λh=>by
 refine dk 17 k52 ?_
 simp only[k52,Kf.of,zs,ze]
 unfold Je at h
 exact pg trivial (.z 1 (.j 1 (λ(j4:Bool)=>⟨[.k 4,.s (ba j4),.p 14],[]⟩) (.b (.b (.t []) (.t [])) (.t [])) .o))⟩
instance {t0 r}:Con (Ir t0=some r) (Den Tryz.prog 140 [HH t0] (ba r)):=⟨λh=>by
 refine dk 12 X3 ?_
 simp only[X3,Kf.of,zs,ze]
 unfold Ir at h
 exact pg trivial (.z 1 (.j 1 (λ(j5:Bool)=>⟨[.k 2,.s (ba j5),.p 10],[]⟩) (.b (.b (.t []) (.t [])) (.t [])) .o))⟩
theorem Ij{t0}{t1:GTable->Option Bool}{k1:Nat}{q1:List D}(hc1:ia q1=true)(hp1:∀ x0 r,t1 x0=some r->Den Tryz.prog k1 ([mb x0]++q1) (ba r)){r} (h:Xa t0 t1=some r):Den Tryz.prog 165 [Fg t0,.fn k1 [] q1] (ba r):=by
 haveI I1:∀ x0 r,Con (t1 x0=some r) (Den Tryz.prog k1 ([mb x0]++q1) (ba r)):=λx0 r=>⟨hp1 x0 r⟩
 have s1:∀ f:D->D->Prop,Zu f q1 q1=True:=λ_=>bg hc1
 have z1:∀ a b n,Ys a b n q1=q1:=λ_ _ _=>Ld _ _ _ _ hc1
 haveI:∀ y0 r,Con (Nb y0 t1=some r) (Den Tryz.prog 218 [Fg y0,.fn k1 [] q1] (aa r)):=λy0 r=>⟨Nk hc1 hp1⟩
 refine Den.at 7 oY.ok oY.nm (iB (xK hc1 oz)) rfl ?_
 simp only[oY,Kf.of,zs,ze]
 unfold Xa at h
 exact pg trivial .o
instance {t0 r}:Con (Pj t0=some r) (Den Tryz.prog 192 [Ga t0] (ba r)):=⟨λh=>by
 refine dk 47 u5 ?_
 simp only[u5,Kf.of,zs,ze]
 unfold Pj at h
 exact pg trivial (.z 2 (.j 1 (λ(j5:Bool)=>⟨[.k 1,.p 1,.k 15,.s (ba j5),.p 30],[.o 0]⟩) (.b (.b (.t [ok 0]) (.t [ok 0])) (.t [ok 0])) (.b .o (.z 2 (.j 1 (λ(j9:Bool)=>⟨[.k 1,.p 16,.k 2,.p 1,.s (ba j9),.p 27],[.o 0]⟩) (.b (.t [ok 0]) (.b (.t [ok 0]) (.t [ok 0]))) (.b (.j 1 (λ(j12:Bool)=>⟨[.k 2,.s (ba j12),.p 16],[]⟩) (.b (.t []) (.t [])) .o) (.b (.j 1 (λ(j15:Bool)=>⟨[.k 2,.s (ba j15),.p 16],[]⟩) (.b (.t []) (.t [])) .o) .o)))))))⟩
instance {t0 r}:Con (Wd t0=some r) (Den Tryz.prog 194 [wb t0] (ba r)):=⟨λh=>by
 refine dk 14 y5 ?_
 simp only[y5,Kf.of,zs,ze]
 unfold Wd at h
 exact pg @Zb.eq_1 (.l 1 0 (λ(s1:Int)=>⟨[.k 5,.p 2,.s (aa s1),.p 7],[]⟩) (λ(_:Unit)=>⟨[],[]⟩) [] (.b (.b .o (.t [])) (.t [])) .o)⟩
instance {t0 r}:Con (Rb t0=some r) (Den Tryz.prog 198 [ka t0] (ba r)):=⟨λh=>by
 refine dk 34 D5 ?_
 simp only[D5,Kf.of,zs,ze]
 unfold Rb at h
 exact pg trivial (.z 3 (.j 1 (λ(j3:Bool)=>⟨[.k 1,.p 1,.k 18,.s (ba j3),.p 14],[.o 0]⟩) (.b (.t [ok 0]) (.t [ok 0])) (.b .o (.b (.j 1 (λ(j7:Bool)=>⟨[.k 2,.s (ba j7),.p 17],[]⟩) (.b (.t []) (.t [])) .o) .o))))⟩
instance {t0 t1 r}:Con (Ym t0 t1=some r) (Den Tryz.prog 207 [Bb t0,Bb t1] (.tup [Bb r.1,ba r.2])):=⟨λh=>by
 refine dk 32 L5 ?_
 simp only[L5,Kf.of,zs,ze]
 unfold Ym at h
 exact pg trivial (.z 2 (.j 1 (λ(j4:Bool)=>⟨[.k 2,.p 3,.k 9,.s (ba j4),.p 19],[.o 0,.o 1,.o 2]⟩) (.b (.t [ok 0,ok 1,ok 2]) (.t [ok 0,ok 1,ok 2])) .o))⟩
theorem kp{t0 r} (h:og t0=some r):Den Tryz.prog 211 [aa t0] (ba r):=by
 refine dk 8 P5 ?_
 simp only[P5,Kf.of,zs,ze]
 unfold og at h
 exact pg trivial (.z 1 (.j 1 (λ(j3:Bool)=>⟨[.k 2,.s (ba j3),.p 6],[]⟩) (.b (.t []) (.t [])) .o))
instance {t0 r}:Con (og t0=some r) (Den Tryz.prog 211 [aa t0] (ba r)):=⟨kp⟩
theorem sv{t0 t1 t2 r} (h:oo t0 t1 t2=some r):Den Tryz.prog 213 [aa t0,aa t1,aa t2] (.tup [qa r.1,ba r.2]):=by
 refine dk 53 R5 ?_
 simp only[R5,Kf.of,zs,ze]
 unfold oo at h
 exact pg trivial (.b (.j 3 (λ(q:(Int × Int × Bool))=>⟨[.k 6,.p 1,.s (ba q.2.2)],[.h 0 [.g [.s (aa q.1),.s (aa q.2.1)]]]⟩) (.b (.b (.t [ok 0]) (.t [ok 0])) (.t [ok 0])) .o) (.b (.j 3 (λ(q:(Int × Int × Bool))=>⟨[.k 6,.p 1,.s (ba q.2.2)],[.h 0 [.g [.s (aa q.1),.s (aa q.2.1)]]]⟩) (.b (.b (.t [ok 0]) (.t [ok 0])) (.t [ok 0])) .o) (.z 1 (.j 1 (λ(j16:Bool)=>⟨[.k 1,.p 6,.k 35,.s (ba j16),.p 13],[.o 0]⟩) (.b (.t [ok 0]) (.t [ok 0])) (.b .o (.j 3 (λ(q:(Int × Int × Bool))=>⟨[.k 6,.p 1,.s (ba q.2.2),.p 34],[.h 0 [.g [.s (aa q.1),.s (aa q.2.1)]]]⟩) (.b (.b (.t [ok 0]) (.t [ok 0])) (.t [ok 0])) .o))))))
instance {t0 t1 t2 r}:Con (oo t0 t1 t2=some r) (Den Tryz.prog 213 [aa t0,aa t1,aa t2] (.tup [qa r.1,ba r.2])):=⟨sv⟩
theorem Vn{t0 t1 t2 r} (h:je t0 t1 t2=some r):Den Tryz.prog 51 [bb t0,mh t1,mh t2] (ba r):=by
 refine dk 12 k51 ?_
 simp only[k51,Kf.of,zs,ze]
 unfold je at h
 exact pg trivial (.z 1 (.j 1 (λ(j3:Bool)=>⟨[.k 4,.s (ba j3),.p 10],[]⟩) (.b (.t []) (.t [])) .o))
instance {t0 t1 t2 r}:Con (je t0 t1 t2=some r) (Den Tryz.prog 51 [bb t0,mh t1,mh t2] (ba r)):=⟨Vn⟩
instance {t0 r}:Con (sb t0=some r) (Den Tryz.prog 101 [Df t0] (ba r)):=⟨λh=>by
 refine dk 43 N2 ?_
 simp only[N2,Kf.of,zs,ze]
 unfold sb at h
 exact pg (And.intro @Ce.eq_1 @De.eq_1) (.z 2 (.j 1 (λ(j5:Bool)=>⟨[.p 2,.k 17,.s (ba j5),.p 24],[]⟩) (.b (.b (.t []) (.t [])) (.t [])) (.b .o (.l 1 0 (λ(s7:Int)=>⟨[.p 3,.s (aa s7),.p 15],[]⟩) (λ(_:Unit)=>⟨[.p 3],[]⟩) [] (.b (.b .o (.t [])) (.t [])) (.l 1 0 (λ(s14:Int)=>⟨[.p 5,.s (aa s14),.p 25],[]⟩) (λ(_:Unit)=>⟨[],[]⟩) [] (.b (.b .o (.t [])) (.t [])) .o)))))⟩
instance {t0 c10 r}:Con (Xa t0 (λx900=>qe x900 c10)=some r) (Den Tryz.prog 165 [Fg t0,.fn 166 [] [Bp c10]] (ba r)):=⟨λh=>Ij (q1:=[Bp c10]) (iB oz) (λx900 _ hb=>Cr hb) h⟩
theorem PB{t0 t1 r} (h:zj t0 t1=some r):Den Tryz.prog 117 [Fg t0,Df t1] (ba r):=by
 refine dk 6 C3 ?_
 simp only[C3,Kf.of,zs,ze]
 unfold zj at h
 exact pg trivial .o
instance {t0 t1 r}:Con (zj t0 t1=some r) (Den Tryz.prog 117 [Fg t0,Df t1] (ba r)):=⟨PB⟩
theorem Bn{t0 t1 t2 r} (h:Hc t0 t1 t2=some r):Den Tryz.prog 119 [bb t0,mh t1,mh t2] (ba r):=by
 refine dk 12 E3 ?_
 simp only[E3,Kf.of,zs,ze]
 unfold Hc at h
 exact pg trivial (.z 1 (.j 1 (λ(j3:Bool)=>⟨[.k 4,.s (ba j3),.p 10],[]⟩) (.b (.t []) (.t [])) .o))
instance {t0 t1 t2 r}:Con (Hc t0 t1 t2=some r) (Den Tryz.prog 119 [bb t0,mh t1,mh t2] (ba r)):=⟨Bn⟩
instance {t0 t1 r}:Con (Bl t0 t1=some r) (Den Tryz.prog 143 [Eg t0,Eg t1] (ba r)):=⟨λh=>by
 refine dk 27 n4 ?_
 simp only[n4,Kf.of,zs,ze]
 unfold Bl at h
 exact pg trivial (.z 2 (.j 1 (λ(j3:Bool)=>⟨[.k 4,.s (ba j3)],[]⟩) (.b (.t []) (.t [])) .o))⟩
instance {t0 t1 r}:Con (xi t0 t1=some r) (Den Tryz.prog 153 [Ga t0,ta t1] (.tup [qa r.1,ba r.2])):=⟨λh=>by
 refine dk 89 F4 ?_
 simp only[F4,Kf.of,zs,ze]
 unfold xi at h
 exact pg trivial (.z 2 (.j 2 (λ(q:(Int × Int))=>⟨[.k 2,.p 3,.k 1,.p 2],[.o 0,.o 1,.o 2,.h 3 [.g [.s (aa q.1),.s (aa q.2)]]]⟩) (.b (.t [ok 0,ok 1,ok 2,ok 3]) (.b (.t [ok 0,ok 1,ok 2,ok 3]) (.b (.t [ok 0,ok 1,ok 2,ok 3]) (.b (.t [ok 0,ok 1,ok 2,ok 3]) (.b (.t [ok 0,ok 1,ok 2,ok 3]) (.j 1 (λ(j13:Bool)=>⟨[.k 2,.p 3,.k 1,.p 2,.k 34,.s (ba j13),.p 48],[.o 0,.o 1,.o 2,.o 3]⟩) (.b (.t [ok 0,ok 1,ok 2,ok 3]) (.b (.t [ok 0,ok 1,ok 2,ok 3]) (.b (.t [ok 0,ok 1,ok 2,ok 3]) (.t [ok 0,ok 1,ok 2,ok 3])))) (.b (.t [ok 0,ok 1,ok 2,ok 3]) (.t [ok 0,ok 1,ok 2,ok 3])))))))) (.z 1 (.j 1 (λ(j30:Bool)=>⟨[.k 4,.p 3,.s (ba j30),.p 45],[.o 2,.o 3]⟩) (.b (.b (.b (.t [ok 2,ok 3]) (.t [ok 2,ok 3])) (.t [ok 2,ok 3])) (.j 1 (λ(j24:Bool)=>⟨[.k 4,.p 49,.k 5,.p 1,.k 13,.s (ba j24),.p 18],[.o 2,.o 3]⟩) (.b (.t [ok 2,ok 3]) (.t [ok 2,ok 3])) (.b (.b (.t [ok 0,ok 1]) (.t [ok 0,ok 1])) (.b (.b (.t [ok 0,ok 1]) (.t [ok 0,ok 1])) (.t [ok 0,ok 1]))))) .o))))⟩
theorem VB{t0:Int}{t1:GType}{t2:GType}{r:(GType×Bool)}(h:Rh t0 t1 t2=some r):Den Tryz.prog 155 [aa t0,qa t1,qa t2] (.tup [qa r.1,ba r.2]):=by
 refine dk 105 H4 ?_;simp only[H4,Kf.of,zs,ze];unfold Rh at h;refine ss (rg ?_);(try simp only[zz]);refine ss (ss (rg ?_));(try simp only[zz]);refine bk ?_;refine jm h (λj2=>⟨aa t0::ds 3 (.ref 0 0 0 0::.ref 1 0 0 0::.ref 2 0 0 0::.dead::aa t0::ba j2::ds 98 []),[.live 2 0 [qa t1],.live 2 0 [qa t2],.live 2 0 [.agg [aa 0,aa 0]]]⟩) (λz2 h1=>?_) λj2 h1 h=>?_
 .refine ss (rg ?_);(try simp only[zz]);refine cd rfl ?_;(try simp only[zz]);refine gi h1 (λc1 h1=>?_) λc1 h1=>?_
  .have e3:=eT c1;refine sk ?_;(try simp only[zz,eq_true c1,e3]);cases h1;exact tz [ok 0,ok 1,ok 2]
  have e4:=eF c1;refine rg ?_;(try simp only[zz]);cases h1;exact tz [ok 0,ok 1,ok 2]
 refine cd rfl ?_;(try simp only[zz]);refine gi h (λc3 h=>?_) λc3 h=>?_
 .refine jm h (λj6=>⟨ds 6 (.ref 0 0 0 0::ba j6::ds 100 []),[.live 2 0 [qa t1]]⟩) (λz6 h5=>?_) λj6 h5 h=>?_
  .refine ay Es [[],[],[],[],[],[],[],[],[],[]] (by kernel_rfl) ?_;(try simp only[zz,zy]);refine gi h5 (λc4 h5=>?_) λc4 h5=>?_
   .obtain⟨x5,a7,h5⟩:=bs h5;simp only[zz,eq_true c4,zy];refine lq (vq a7) ?_ (by simp only[zg,c3]);(try simp only[zz,eq_true c4,zy]);cases h5;exact tz [ok 2]
   (try simp only[zz,c4,zy]);cases h5;exact tz [ok 2]
  cases h;exact rt ez
 refine jm h (λj9=>⟨aa t0::ds 3 (.ref 0 0 0 0::.ref 1 0 0 0::.ref 2 0 0 0::.dead::aa t0::ds 12 (ba j9::ds 86 [])),[.live 2 0 [qa t1],.live 2 0 [qa t2],.live 2 0 [.agg [aa 0,aa 0]]]⟩) (λz9 h8=>?_) λj9 h8 h=>?_
 .refine ss (rg ?_);(try simp only[zz]);refine cd rfl ?_;(try simp only[zz]);refine gi h8 (λc7 h8=>?_) λc7 h8=>?_
  .have e10:=eT c7;refine sk ?_;(try simp only[zz,eq_true c7,e10]);cases h8;exact tz [ok 0,ok 1,ok 2]
  have e11:=eF c7;refine ss (rg ?_);(try simp only[zz]);refine cd rfl ?_;(try simp only[zz]);refine gi h8 (λc8 h8=>?_) λc8 h8=>?_
  .have e12:=eT c8;refine sk ?_;(try simp only[zz,eq_true c8,e12]);cases h8;exact tz [ok 0,ok 1,ok 2]
  have e13:=eF c8;refine rg ?_;(try simp only[zz]);cases h8;exact tz [ok 0,ok 1,ok 2]
 refine cd rfl ?_;(try simp only[zz]);refine gi h (λc10 h=>?_) λc10 h=>?_
 .refine ss (rg ?_);obtain⟨x11,a14,h⟩:=bs h;simp only[zz];refine cq (sv a14) ?_ (by simp only[zg,c3,c10]);(try simp only[zz]);cases h;exact rt ez
 refine ss (rg ?_);(try simp only[zz]);refine cd rfl ?_;(try simp only[zz]);refine gi h (λc12 h=>?_) λc12 h=>?_
 .have e15:=eT c12;refine jm h (λj14=>⟨ds 6 (.ref 0 0 0 0::ba j14::ds 100 []),[.live 2 0 [qa t1]]⟩) (λz18 h17=>?_) λj14 h17 h=>?_
  .refine ay Es [[],[],[],[],[],[],[],[],[],[6]] (by kernel_rfl) ?_;(try simp only[zz,zy]);refine gi h17 (λc13 h17=>?_) λc13 h17=>?_
   .have e19:=eT c13;(try simp only[zz,eq_true c13,e19,zy]);cases h17;exact tz [ok 2]
   have e20:=eF c13;(try simp only[zz,c13,e20,zy]);cases h17;exact tz [ok 2]
  cases h;exact rt ez
 have e16:=eF c12;refine jm h (λj16=>⟨ds 4 (.ref 0 0 0 0::.ref 1 0 0 0::.ref 2 0 0 0::.dead::aa t0::ds 35 (ba j16::ds 63 [])),[.live 2 0 [qa t1],.live 2 0 [qa t2],.live 2 0 [.agg [aa 0,aa 0]]]⟩) (λz22 h21=>?_) λj16 h21 h=>?_
 .refine ss (rg ?_);(try simp only[zz]);refine cd rfl ?_;(try simp only[zz]);refine gi h21 (λc15 h21=>?_) λc15 h21=>?_
  .have e23:=eT c15;refine sk ?_;(try simp only[zz,eq_true c15,e23]);cases h21;exact tz [ok 0,ok 1,ok 2]
  have e24:=eF c15;refine rg ?_;(try simp only[zz]);cases h21;exact tz [ok 0,ok 1,ok 2]
 refine cd rfl ?_;(try simp only[zz]);refine gi h (λc17 h=>?_) λc17 h=>?_
 .refine jm h (λj20=>⟨ds 6 (.ref 0 0 0 0::ba j20::ds 100 []),[.live 2 0 [qa t1]]⟩) (λz26 h25=>?_) λj20 h25 h=>?_
  .refine ay Es [[],[],[],[],[],[],[],[],[],[]] (by kernel_rfl) ?_;(try simp only[zz,zy]);refine gi h25 (λc18 h25=>?_) λc18 h25=>?_
   .obtain⟨x19,a27,h25⟩:=bs h25;simp only[zz,eq_true c18,zy];refine lq (kp a27) ?_ (by simp only[zg,c3,c10,e16,c17]);(try simp only[zz,eq_true c18,zy]);cases h25;exact tz [ok 2]
   (try simp only[zz,c18,zy]);cases h25;exact tz [ok 2]
  cases h;exact rt ez
 refine jm h (λj22=>⟨ds 4 (.ref 0 0 0 0::.ref 1 0 0 0::.ref 2 0 0 0::.dead::aa t0::ds 47 (ba j22::ds 51 [])),[.live 2 0 [qa t1],.live 2 0 [qa t2],.live 2 0 [.agg [aa 0,aa 0]]]⟩) (λz29 h28=>?_) λj22 h28 h=>?_
 .refine ss (rg ?_);(try simp only[zz]);refine cd rfl ?_;(try simp only[zz]);refine gi h28 (λc21 h28=>?_) λc21 h28=>?_
  .have e30:=eT c21;refine sk ?_;(try simp only[zz,eq_true c21,e30]);cases h28;exact tz [ok 0,ok 1,ok 2]
  have e31:=eF c21;refine rg ?_;(try simp only[zz]);cases h28;exact tz [ok 0,ok 1,ok 2]
 refine cd rfl ?_;(try simp only[zz]);refine gi h (λc23 h=>?_) λc23 h=>?_
 .refine ss (ay Es [[],[],[],[],[1,2]] (by kernel_rfl) ?_);obtain⟨x24,a32,h⟩:=bs h;simp only[zz,zy];refine lq (wi a32) ?_ (by simp only[zg,c3,c10,e16,c17,c23]);(try simp only[zz,zy]);cases h;exact rt ez
 refine jm h (λj26=>⟨ds 4 (.ref 0 0 0 0::.ref 1 0 0 0::.ref 2 0 0 0::.dead::aa t0::ds 54 (ba j26::ds 44 [])),[.live 2 0 [qa t1],.live 2 0 [qa t2],.live 2 0 [.agg [aa 0,aa 0]]]⟩) (λz34 h33=>?_) λj26 h33 h=>?_
 .refine ss (rg ?_);(try simp only[zz]);refine cd rfl ?_;(try simp only[zz]);refine gi h33 (λc25 h33=>?_) λc25 h33=>?_
  .have e35:=eT c25;refine sk ?_;(try simp only[zz,eq_true c25,e35]);cases h33;exact tz [ok 0,ok 1,ok 2]
  have e36:=eF c25;refine rg ?_;(try simp only[zz]);cases h33;exact tz [ok 0,ok 1,ok 2]
 refine cd rfl ?_;(try simp only[zz]);refine gi h (λc27 h=>?_) λc27 h=>?_
 .refine jm h (λq=>⟨ds 6 (.ref 0 0 0 0::ba q.2.2::ds 100 []),[.live 2 0 [.agg [aa q.1,aa q.2.1]]]⟩) (λz38 h37=>?_) λz38 h37 h=>?_
  .refine ay Es [[],[],[],[],[],[],[],[],[],[]] (by kernel_rfl) ?_;obtain⟨x28,a39,h37⟩:=bs h37;simp only[zz,zy];refine lq (wi a39) ?_ (by simp only[zg,c3,c10,e16,c17,c23,c27]);(try simp only[zz,zy]);refine gi h37 (λc29 h37=>?_) λc29 h37=>?_
   .obtain⟨x30,a40,h37⟩:=bs h37;simp only[zz,eq_true c29,zy];refine lq (kp a40) ?_ (by simp only[zg,c3,c10,e16,c17,c23,c27]);(try simp only[zz,eq_true c29,zy]);cases h37;exact tz [ok 2]
   (try simp only[zz,c29,zy]);cases h37;exact tz [ok 2]
  obtain⟨j31,j32,j33⟩:=z38;dsimp only at h;cases h;exact rt ez
 refine jm h (λj35=>⟨ds 4 (.ref 0 0 0 0::.ref 1 0 0 0::.ref 2 0 0 0::.dead::aa t0::ds 66 (ba j35::ds 32 [])),[.live 2 0 [qa t1],.live 2 0 [qa t2],.live 2 0 [.agg [aa 0,aa 0]]]⟩) (λz42 h41=>?_) λj35 h41 h=>?_
 .refine ss (rg ?_);(try simp only[zz]);refine cd rfl ?_;(try simp only[zz]);refine gi h41 (λc34 h41=>?_) λc34 h41=>?_
  .have e43:=eT c34;refine sk ?_;(try simp only[zz,eq_true c34,e43]);cases h41;exact tz [ok 0,ok 1,ok 2]
  have e44:=eF c34;refine rg ?_;(try simp only[zz]);cases h41;exact tz [ok 0,ok 1,ok 2]
 refine cd rfl ?_;(try simp only[zz]);refine gi h (λc36 h=>?_) λc36 h=>?_
 .refine jm h (λj38=>⟨ds 6 (.ref 0 0 0 0::ba j38::ds 100 []),[.live 2 0 [qa t1]]⟩) (λz46 h45=>?_) λj38 h45 h=>?_
  .refine ay Es [[],[],[],[],[],[],[],[],[],[6]] (by kernel_rfl) ?_;(try simp only[zz,zy]);refine gi h45 (λc37 h45=>?_) λc37 h45=>?_
   .have e47:=eT c37;(try simp only[zz,eq_true c37,e47,zy]);cases h45;exact tz [ok 2]
   have e48:=eF c37;(try simp only[zz,c37,e48,zy]);cases h45;exact tz [ok 2]
  cases h;exact rt ez
 refine jm h (λj40=>⟨ds 4 (.ref 0 0 0 0::.ref 1 0 0 0::.ref 2 0 0 0::ds 80 (ba j40::ds 20 [])),[.live 2 0 [qa t1],.live 2 0 [qa t2],.live 2 0 [.agg [aa 0,aa 0]]]⟩) (λz50 h49=>?_) λj40 h49 h=>?_
 .refine ss (rg ?_);(try simp only[zz]);refine cd rfl ?_;(try simp only[zz]);refine gi h49 (λc39 h49=>?_) λc39 h49=>?_
  .have e51:=eT c39;refine sk ?_;(try simp only[zz,eq_true c39,e51]);cases h49;exact tz [ok 0,ok 1,ok 2]
  have e52:=eF c39;refine rg ?_;(try simp only[zz]);cases h49;exact tz [ok 0,ok 1,ok 2]
 refine cd rfl ?_;(try simp only[zz]);refine gi h (λc41 h=>?_) λc41 h=>?_
 .refine jm h (λj43=>⟨ds 6 (.ref 0 0 0 0::ba j43::ds 100 []),[.live 2 0 [qa t1]]⟩) (λz54 h53=>?_) λj43 h53 h=>?_
  .refine ay Es [[],[],[],[],[],[],[],[],[],[6]] (by kernel_rfl) ?_;(try simp only[zz,zy]);refine gi h53 (λc42 h53=>?_) λc42 h53=>?_
   .have e55:=eT c42;(try simp only[zz,eq_true c42,e55,zy]);cases h53;exact tz [ok 2]
   have e56:=eF c42;(try simp only[zz,c42,e56,zy]);cases h53;exact tz [ok 2]
  cases h;exact rt ez
 refine sk ?_;(try simp only[zz,c41]);refine jm h (λq=>⟨ds 6 (.ref 0 0 0 0::ba q.2.2::ds 100 []),[.live 2 0 [.agg [aa q.1,aa q.2.1]]]⟩) (λz58 h57=>?_) λz58 h57 h=>?_
 .refine ay Es [[],[],[],[],[],[],[],[],[],[6]] (by kernel_rfl) ?_;obtain⟨x44,a59,h57⟩:=bs h57;simp only[zz,zy];refine lq (wi a59) ?_ (by simp only[zg,c3,c10,e16,c17,c23,c27,c36,c41]);(try simp only[zz,zy]);refine gi h57 (λc45 h57=>?_) λc45 h57=>?_
  .have e60:=eT c45;(try simp only[zz,eq_true c45,e60,zy]);cases h57;exact tz [ok 2]
  have e61:=eF c45;(try simp only[zz,c45,e61,zy]);cases h57;exact tz [ok 2]
 obtain⟨j46,j47,j48⟩:=z58;dsimp only at h;cases h;exact rt ez
instance {t0 t1 t2 r}:Con (Rh t0 t1 t2=some r) (Den Tryz.prog 155 [aa t0,qa t1,qa t2] (.tup [qa r.1,ba r.2])):=⟨VB⟩
instance {t0 t1 r}:Con (Oe t0 t1=some r) (Den Tryz.prog 252 [aa t0,aa t1] (.tup [ka r.1,aa r.2])):=⟨λh=>by
 refine dk 13 D6 ?_
 simp only[D6,Kf.of,zs,ze]
 unfold Oe at h
 exact pg trivial .o⟩
end Go.Proofs.Dev
