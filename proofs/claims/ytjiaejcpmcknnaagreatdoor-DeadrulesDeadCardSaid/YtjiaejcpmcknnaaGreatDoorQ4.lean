/-
  Contracts of the functions: each answers as its plain partial function says.
-/
import Derived.Test.YtjiaejcpmcknnaaGreatDoorK
import Derived.Test.YtjiaejcpmcknnaaGreatDoorG
import Derived.Test.YtjiaejcpmcknnaaGreatDoorPD
import Derived.Test.YtjiaejcpmcknnaaGreatDoorH1
import Derived.Test.YtjiaejcpmcknnaaGreatDoorH2
import Derived.Test.YtjiaejcpmcknnaaGreatDoorQ0
import Derived.Test.YtjiaejcpmcknnaaGreatDoorQ1
import Derived.Test.YtjiaejcpmcknnaaGreatDoorQ2
import Derived.Test.YtjiaejcpmcknnaaGreatDoorQ3
set_option linter.all false
set_option maxHeartbeats 1000000
set_option maxRecDepth 10000
namespace Go.Proofs.Dev
open Go Go.Tm
instance {t0 t1 r}:Con (qe t0 t1=some r) (Den Tryz.prog 54 [ub t0,aa t1] (ba r)):=⟨λh=>by
 refine dk 17 k54 ?_
 simp only[k54,Kf.of,zs,ze]
 unfold qe at h
 exact pg trivial (.z 1 (.j 1 (λ(j4:Bool)=>⟨[.k 4,.s (ba j4),.p 14],[]⟩) (.b (.b (.t []) (.t [])) (.t [])) .o))⟩
instance {t0 t1 r}:Con (Zb t0 t1=some r) (Den Tryz.prog 110 [xa t0,Ea t1] (ba r)):=⟨λh=>by
 refine dk 7 w4 ?_
 simp only[w4,Kf.of,zs,ze]
 unfold Zb at h
 exact pg trivial .o⟩
instance {t0 t1 t2 r}:Con (Bo t0 t1 t2=some r) (Den Tryz.prog 163 [Ca t0,ea t1,aa t2] (aa r)):=⟨λh=>by
 refine dk 32 J5 ?_
 simp only[J5,Kf.of,zs,ze]
 unfold Bo at h
 exact pg @bh.eq_1 (.l 2 0 (λ(q:(Int × Int))=>⟨[.k 1,.p 1,.s (aa q.1),.p 3,.k 1,.s (aa q.2),.p 1],[.o 0]⟩) (λ(_:Unit)=>⟨[],[]⟩) [ok 0] (.z 1 (.j 1 (λ(j5:Bool)=>⟨[.k 1,.p 1,.k 1,.p 18,.s (ba j5),.p 13],[.o 0]⟩) (.b (.t [ok 0]) (.t [ok 0])) (.b (.b .o (.t [ok 0])) (.t [])))) .o)⟩
instance {t0 r}:Con (Ni t0=some r) (Den Tryz.prog 173 [df t0] (aa r)):=⟨λh=>by
 refine dk 28 S5 ?_
 simp only[S5,Kf.of,zs,ze]
 unfold Ni at h
 exact pg @Mc.eq_1 (.l 1 1 (λ(s1:Int)=>⟨[.p 2,.k 1,.s (aa s1),.p 25],[]⟩) (λ(b11:Int)=>⟨[.k 3,.s (aa b11),.p 25],[]⟩) [] (.z 1 (.j 1 (λ(j8:Bool)=>⟨[.p 25,.s (ba j8),.p 3],[]⟩) (.b (.b (.b (.t []) (.t [])) (.t [])) (.t [])) (.b (.t []) (.t [])))) .o)⟩
theorem Bj{t0}{t1:GTable->Option Bool}{k1:Nat}{q1:List D}(hc1:la q1=true)(hp1:∀ x0 r,t1 x0=some r->Den Tryz.prog k1 ([eb x0]++q1) (ba r)){r} (h:Ua t0 t1=some r):Den Tryz.prog 177 [kg t0,.fn k1 [] q1] (ba r):=by
 haveI I1:∀ x0 r,Con (t1 x0=some r) (Den Tryz.prog k1 ([eb x0]++q1) (ba r)):=λx0 r=>⟨hp1 x0 r⟩
 have s1:∀ f:D->D->Prop,Dv f q1 q1=True:=λ_=>Zh hc1
 have z1:∀ a b n,Nt a b n q1=q1:=λ_ _ _=>me _ _ _ _ hc1
 haveI:∀ y0 r,Con (Cb y0 t1=some r) (Den Tryz.prog 236 [kg y0,.fn k1 [] q1] (aa r)):=λy0 r=>⟨Kk hc1 hp1⟩
 refine Den.at 7 RY.ok RY.nm (kD (HN hc1 oB)) rfl ?_
 simp only[RY,Kf.of,zs,ze]
 unfold Ua at h
 exact pg trivial .o
theorem wk{t0}{t1:GRule->Option Bool}{k1:Nat}{q1:List D}(hc1:la q1=true)(hp1:∀ x0 r,t1 x0=some r->Den Tryz.prog k1 ([Xa x0]++q1) (ba r)){r} (h:zb t0 t1=some r):Den Tryz.prog 240 [cf t0,.fn k1 [] q1] (ba r):=by
 haveI I1:∀ x0 r,Con (t1 x0=some r) (Den Tryz.prog k1 ([Xa x0]++q1) (ba r)):=λx0 r=>⟨hp1 x0 r⟩
 have s1:∀ f:D->D->Prop,Dv f q1 q1=True:=λ_=>Zh hc1
 have z1:∀ a b n,Nt a b n q1=q1:=λ_ _ _=>me _ _ _ _ hc1
 haveI:∀ y0 r,Con (Vb y0 t1=some r) (Den Tryz.prog 282 [cf y0,.fn k1 [] q1] (aa r)):=λy0 r=>⟨rm hc1 hp1⟩
 refine Den.at 7 XY.ok XY.nm (kD (HN hc1 oB)) rfl ?_
 simp only[XY,Kf.of,zs,ze]
 unfold zb at h
 exact pg trivial .o
theorem Kr{t0 r} (h:ah t0=some r):Den Tryz.prog 242 [df t0] (ba r):=by
 refine dk 26 q7 ?_
 simp only[q7,Kf.of,zs,ze]
 unfold ah at h
 exact pg @xg.eq_1 (.z 2 (.j 1 (λ(j3:Bool)=>⟨[.p 2,.k 8,.s (ba j3),.p 16],[]⟩) (.b (.t []) (.t [])) (.b .o (.l 1 0 (λ(s5:Int)=>⟨[.p 10,.k 2,.p 1,.s (aa s5),.p 13],[]⟩) (λ(_:Unit)=>⟨[],[]⟩) [] (.b (.z 2 (.j 1 (λ(j9:Bool)=>⟨[.p 3,.k 9,.p 2,.k 11,.s (ba j9),.p 1],[]⟩) (.b (.t []) (.t [])) (.b .o (.t [])))) (.t [])) .o))))
instance {t0 r}:Con (ah t0=some r) (Den Tryz.prog 242 [df t0] (ba r)):=⟨Kr⟩
theorem kp{t0 r} (h:Qf t0=some r):Den Tryz.prog 251 [aa t0] (ba r):=by
 refine dk 8 E7 ?_
 simp only[E7,Kf.of,zs,ze]
 unfold Qf at h
 exact pg trivial (.z 1 (.j 1 (λ(j3:Bool)=>⟨[.k 2,.s (ba j3),.p 6],[]⟩) (.b (.t []) (.t [])) .o))
instance {t0 r}:Con (Qf t0=some r) (Den Tryz.prog 251 [aa t0] (ba r)):=⟨kp⟩
theorem wv{t0 t1 t2 r} (h:oo t0 t1 t2=some r):Den Tryz.prog 253 [aa t0,aa t1,aa t2] (.tup [qa r.1,ba r.2]):=by
 refine dk 53 G7 ?_
 simp only[G7,Kf.of,zs,ze]
 unfold oo at h
 exact pg trivial (.b (.j 3 (λ(q:(Int × Int × Bool))=>⟨[.k 6,.p 1,.s (ba q.2.2)],[.h 0 [.g [.s (aa q.1),.s (aa q.2.1)]]]⟩) (.b (.b (.t [ok 0]) (.t [ok 0])) (.t [ok 0])) .o) (.b (.j 3 (λ(q:(Int × Int × Bool))=>⟨[.k 6,.p 1,.s (ba q.2.2)],[.h 0 [.g [.s (aa q.1),.s (aa q.2.1)]]]⟩) (.b (.b (.t [ok 0]) (.t [ok 0])) (.t [ok 0])) .o) (.z 1 (.j 1 (λ(j16:Bool)=>⟨[.k 1,.p 6,.k 35,.s (ba j16),.p 13],[.o 0]⟩) (.b (.t [ok 0]) (.t [ok 0])) (.b .o (.j 3 (λ(q:(Int × Int × Bool))=>⟨[.k 6,.p 1,.s (ba q.2.2),.p 34],[.h 0 [.g [.s (aa q.1),.s (aa q.2.1)]]]⟩) (.b (.b (.t [ok 0]) (.t [ok 0])) (.t [ok 0])) .o))))))
instance {t0 t1 t2 r}:Con (oo t0 t1 t2=some r) (Den Tryz.prog 253 [aa t0,aa t1,aa t2] (.tup [qa r.1,ba r.2])):=⟨wv⟩
theorem tn{t0 t1 t2 r} (h:Ac t0 t1 t2=some r):Den Tryz.prog 53 [Xa t0,Sg t1,Sg t2] (ba r):=by
 refine dk 12 k53 ?_
 simp only[k53,Kf.of,zs,ze]
 unfold Ac at h
 exact pg trivial (.z 1 (.j 1 (λ(j3:Bool)=>⟨[.k 4,.s (ba j3),.p 10],[]⟩) (.b (.t []) (.t [])) .o))
instance {t0 t1 t2 r}:Con (Ac t0 t1 t2=some r) (Den Tryz.prog 53 [Xa t0,Sg t1,Sg t2] (ba r)):=⟨tn⟩
instance {t0 t1 r}:Con (ph t0 t1=some r) (Den Tryz.prog 68 [rh t0,aa t1] (ba r)):=⟨λh=>by
 refine dk 16 k68 ?_
 simp only[k68,Kf.of,zs,ze]
 unfold ph at h
 exact pg @Je.eq_1 (.l 1 0 (λ(s1:Int)=>⟨[.k 1,.p 3,.k 3,.p 2,.s (aa s1),.p 8],[]⟩) (λ(_:Unit)=>⟨[],[]⟩) [] (.b (.b .o (.t [])) (.t [])) .o)⟩
theorem Qn{t0 t1 t2 r} (h:Pd t0 t1 t2=some r):Den Tryz.prog 73 [Xa t0,Sg t1,Sg t2] (ba r):=by
 refine dk 12 k73 ?_
 simp only[k73,Kf.of,zs,ze]
 unfold Pd at h
 exact pg trivial (.z 1 (.j 1 (λ(j3:Bool)=>⟨[.k 4,.s (ba j3),.p 10],[]⟩) (.b (.t []) (.t [])) .o))
instance {t0 t1 t2 r}:Con (Pd t0 t1 t2=some r) (Den Tryz.prog 73 [Xa t0,Sg t1,Sg t2] (ba r)):=⟨Qn⟩
theorem Oo{t0 r} (h:ib t0=some r):Den Tryz.prog 130 [df t0] (ba r):=by
 refine dk 26 O4 ?_
 simp only[O4,Kf.of,zs,ze]
 unfold ib at h
 exact pg trivial (.z 1 (.j 1 (λ(j9:Bool)=>⟨[.k 2,.s (ba j9),.p 24],[]⟩) (.b (.b (.b (.b (.t []) (.t [])) (.t [])) (.t [])) (.t [])) .o))
instance {t0 r}:Con (ib t0=some r) (Den Tryz.prog 130 [df t0] (ba r)):=⟨Oo⟩
instance {t0 c10 r}:Con (Ua t0 (λx900=>Ud x900 c10)=some r) (Den Tryz.prog 177 [kg t0,.fn 178 [] [Dp c10]] (ba r)):=⟨λh=>Bj (q1:=[Dp c10]) (kD oB) (λx900 _ hb=>Jr hb) h⟩
theorem TB{t0 t1 r} (h:qj t0 t1=some r):Den Tryz.prog 132 [kg t0,df t1] (ba r):=by
 refine dk 6 Q4 ?_
 simp only[Q4,Kf.of,zs,ze]
 unfold qj at h
 exact pg trivial .o
instance {t0 t1 r}:Con (qj t0 t1=some r) (Den Tryz.prog 132 [kg t0,df t1] (ba r)):=⟨TB⟩
instance {t0 t1 r}:Con (ki t0 t1=some r) (Den Tryz.prog 197 [Ea t0,ta t1] (.tup [qa r.1,ba r.2])):=⟨λh=>by
 refine dk 89 D6 ?_
 simp only[D6,Kf.of,zs,ze]
 unfold ki at h
 exact pg trivial (.z 2 (.j 2 (λ(q:(Int × Int))=>⟨[.k 2,.p 3,.k 1,.p 2],[.o 0,.o 1,.o 2,.h 3 [.g [.s (aa q.1),.s (aa q.2)]]]⟩) (.b (.t [ok 0,ok 1,ok 2,ok 3]) (.b (.t [ok 0,ok 1,ok 2,ok 3]) (.b (.t [ok 0,ok 1,ok 2,ok 3]) (.b (.t [ok 0,ok 1,ok 2,ok 3]) (.b (.t [ok 0,ok 1,ok 2,ok 3]) (.j 1 (λ(j13:Bool)=>⟨[.k 2,.p 3,.k 1,.p 2,.k 34,.s (ba j13),.p 48],[.o 0,.o 1,.o 2,.o 3]⟩) (.b (.t [ok 0,ok 1,ok 2,ok 3]) (.b (.t [ok 0,ok 1,ok 2,ok 3]) (.b (.t [ok 0,ok 1,ok 2,ok 3]) (.t [ok 0,ok 1,ok 2,ok 3])))) (.b (.t [ok 0,ok 1,ok 2,ok 3]) (.t [ok 0,ok 1,ok 2,ok 3])))))))) (.z 1 (.j 1 (λ(j30:Bool)=>⟨[.k 4,.p 3,.s (ba j30),.p 45],[.o 2,.o 3]⟩) (.b (.b (.b (.t [ok 2,ok 3]) (.t [ok 2,ok 3])) (.t [ok 2,ok 3])) (.j 1 (λ(j24:Bool)=>⟨[.k 4,.p 49,.k 5,.p 1,.k 13,.s (ba j24),.p 18],[.o 2,.o 3]⟩) (.b (.t [ok 2,ok 3]) (.t [ok 2,ok 3])) (.b (.b (.t [ok 0,ok 1]) (.t [ok 0,ok 1])) (.b (.b (.t [ok 0,ok 1]) (.t [ok 0,ok 1])) (.t [ok 0,ok 1]))))) .o))))⟩
theorem XB{t0:Int}{t1:GType}{t2:GType}{r:(GType×Bool)}(h:Dh t0 t1 t2=some r):Den Tryz.prog 199 [aa t0,qa t1,qa t2] (.tup [qa r.1,ba r.2]):=by
 refine dk 105 F6 ?_;simp only[F6,Kf.of,zs,ze];unfold Dh at h;refine ss (rg ?_);(try simp only[zz]);refine ss (ss (rg ?_));(try simp only[zz]);refine bk ?_;refine jm h (λj2=>⟨aa t0::ds 3 (.ref 0 0 0 0::.ref 1 0 0 0::.ref 2 0 0 0::.dead::aa t0::ba j2::ds 98 []),[.live 2 0 [qa t1],.live 2 0 [qa t2],.live 2 0 [.agg [aa 0,aa 0]]]⟩) (λz2 h1=>?_) λj2 h1 h=>?_
 .refine ss (rg ?_);(try simp only[zz]);refine cd rfl ?_;(try simp only[zz]);refine gi h1 (λc1 h1=>?_) λc1 h1=>?_
  .have e3:=eT c1;refine sk ?_;(try simp only[zz,eq_true c1,e3]);cases h1;exact tz [ok 0,ok 1,ok 2]
  have e4:=eF c1;refine rg ?_;(try simp only[zz]);cases h1;exact tz [ok 0,ok 1,ok 2]
 refine cd rfl ?_;(try simp only[zz]);refine gi h (λc3 h=>?_) λc3 h=>?_
 .refine jm h (λj6=>⟨ds 6 (.ref 0 0 0 0::ba j6::ds 100 []),[.live 2 0 [qa t1]]⟩) (λz6 h5=>?_) λj6 h5 h=>?_
  .refine ay gn [[],[],[],[],[],[],[],[],[],[]] (by kernel_rfl) ?_;(try simp only[zz,zy]);refine gi h5 (λc4 h5=>?_) λc4 h5=>?_
   .obtain⟨x5,a7,h5⟩:=bs h5;simp only[zz,eq_true c4,zy];refine lq (Dq a7) ?_ (by simp only[zg,c3]);(try simp only[zz,eq_true c4,zy]);cases h5;exact tz [ok 2]
   (try simp only[zz,c4,zy]);cases h5;exact tz [ok 2]
  cases h;exact rt ez
 refine jm h (λj9=>⟨aa t0::ds 3 (.ref 0 0 0 0::.ref 1 0 0 0::.ref 2 0 0 0::.dead::aa t0::ds 12 (ba j9::ds 86 [])),[.live 2 0 [qa t1],.live 2 0 [qa t2],.live 2 0 [.agg [aa 0,aa 0]]]⟩) (λz9 h8=>?_) λj9 h8 h=>?_
 .refine ss (rg ?_);(try simp only[zz]);refine cd rfl ?_;(try simp only[zz]);refine gi h8 (λc7 h8=>?_) λc7 h8=>?_
  .have e10:=eT c7;refine sk ?_;(try simp only[zz,eq_true c7,e10]);cases h8;exact tz [ok 0,ok 1,ok 2]
  have e11:=eF c7;refine ss (rg ?_);(try simp only[zz]);refine cd rfl ?_;(try simp only[zz]);refine gi h8 (λc8 h8=>?_) λc8 h8=>?_
  .have e12:=eT c8;refine sk ?_;(try simp only[zz,eq_true c8,e12]);cases h8;exact tz [ok 0,ok 1,ok 2]
  have e13:=eF c8;refine rg ?_;(try simp only[zz]);cases h8;exact tz [ok 0,ok 1,ok 2]
 refine cd rfl ?_;(try simp only[zz]);refine gi h (λc10 h=>?_) λc10 h=>?_
 .refine ss (rg ?_);obtain⟨x11,a14,h⟩:=bs h;simp only[zz];refine cq (wv a14) ?_ (by simp only[zg,c3,c10]);(try simp only[zz]);cases h;exact rt ez
 refine ss (rg ?_);(try simp only[zz]);refine cd rfl ?_;(try simp only[zz]);refine gi h (λc12 h=>?_) λc12 h=>?_
 .have e15:=eT c12;refine jm h (λj14=>⟨ds 6 (.ref 0 0 0 0::ba j14::ds 100 []),[.live 2 0 [qa t1]]⟩) (λz18 h17=>?_) λj14 h17 h=>?_
  .refine ay gn [[],[],[],[],[],[],[],[],[],[6]] (by kernel_rfl) ?_;(try simp only[zz,zy]);refine gi h17 (λc13 h17=>?_) λc13 h17=>?_
   .have e19:=eT c13;(try simp only[zz,eq_true c13,e19,zy]);cases h17;exact tz [ok 2]
   have e20:=eF c13;(try simp only[zz,c13,e20,zy]);cases h17;exact tz [ok 2]
  cases h;exact rt ez
 have e16:=eF c12;refine jm h (λj16=>⟨ds 4 (.ref 0 0 0 0::.ref 1 0 0 0::.ref 2 0 0 0::.dead::aa t0::ds 35 (ba j16::ds 63 [])),[.live 2 0 [qa t1],.live 2 0 [qa t2],.live 2 0 [.agg [aa 0,aa 0]]]⟩) (λz22 h21=>?_) λj16 h21 h=>?_
 .refine ss (rg ?_);(try simp only[zz]);refine cd rfl ?_;(try simp only[zz]);refine gi h21 (λc15 h21=>?_) λc15 h21=>?_
  .have e23:=eT c15;refine sk ?_;(try simp only[zz,eq_true c15,e23]);cases h21;exact tz [ok 0,ok 1,ok 2]
  have e24:=eF c15;refine rg ?_;(try simp only[zz]);cases h21;exact tz [ok 0,ok 1,ok 2]
 refine cd rfl ?_;(try simp only[zz]);refine gi h (λc17 h=>?_) λc17 h=>?_
 .refine jm h (λj20=>⟨ds 6 (.ref 0 0 0 0::ba j20::ds 100 []),[.live 2 0 [qa t1]]⟩) (λz26 h25=>?_) λj20 h25 h=>?_
  .refine ay gn [[],[],[],[],[],[],[],[],[],[]] (by kernel_rfl) ?_;(try simp only[zz,zy]);refine gi h25 (λc18 h25=>?_) λc18 h25=>?_
   .obtain⟨x19,a27,h25⟩:=bs h25;simp only[zz,eq_true c18,zy];refine lq (kp a27) ?_ (by simp only[zg,c3,c10,e16,c17]);(try simp only[zz,eq_true c18,zy]);cases h25;exact tz [ok 2]
   (try simp only[zz,c18,zy]);cases h25;exact tz [ok 2]
  cases h;exact rt ez
 refine jm h (λj22=>⟨ds 4 (.ref 0 0 0 0::.ref 1 0 0 0::.ref 2 0 0 0::.dead::aa t0::ds 47 (ba j22::ds 51 [])),[.live 2 0 [qa t1],.live 2 0 [qa t2],.live 2 0 [.agg [aa 0,aa 0]]]⟩) (λz29 h28=>?_) λj22 h28 h=>?_
 .refine ss (rg ?_);(try simp only[zz]);refine cd rfl ?_;(try simp only[zz]);refine gi h28 (λc21 h28=>?_) λc21 h28=>?_
  .have e30:=eT c21;refine sk ?_;(try simp only[zz,eq_true c21,e30]);cases h28;exact tz [ok 0,ok 1,ok 2]
  have e31:=eF c21;refine rg ?_;(try simp only[zz]);cases h28;exact tz [ok 0,ok 1,ok 2]
 refine cd rfl ?_;(try simp only[zz]);refine gi h (λc23 h=>?_) λc23 h=>?_
 .refine ss (ay gn [[],[],[],[],[1,2]] (by kernel_rfl) ?_);obtain⟨x24,a32,h⟩:=bs h;simp only[zz,zy];refine lq (ji a32) ?_ (by simp only[zg,c3,c10,e16,c17,c23]);(try simp only[zz,zy]);cases h;exact rt ez
 refine jm h (λj26=>⟨ds 4 (.ref 0 0 0 0::.ref 1 0 0 0::.ref 2 0 0 0::.dead::aa t0::ds 54 (ba j26::ds 44 [])),[.live 2 0 [qa t1],.live 2 0 [qa t2],.live 2 0 [.agg [aa 0,aa 0]]]⟩) (λz34 h33=>?_) λj26 h33 h=>?_
 .refine ss (rg ?_);(try simp only[zz]);refine cd rfl ?_;(try simp only[zz]);refine gi h33 (λc25 h33=>?_) λc25 h33=>?_
  .have e35:=eT c25;refine sk ?_;(try simp only[zz,eq_true c25,e35]);cases h33;exact tz [ok 0,ok 1,ok 2]
  have e36:=eF c25;refine rg ?_;(try simp only[zz]);cases h33;exact tz [ok 0,ok 1,ok 2]
 refine cd rfl ?_;(try simp only[zz]);refine gi h (λc27 h=>?_) λc27 h=>?_
 .refine jm h (λq=>⟨ds 6 (.ref 0 0 0 0::ba q.2.2::ds 100 []),[.live 2 0 [.agg [aa q.1,aa q.2.1]]]⟩) (λz38 h37=>?_) λz38 h37 h=>?_
  .refine ay gn [[],[],[],[],[],[],[],[],[],[]] (by kernel_rfl) ?_;obtain⟨x28,a39,h37⟩:=bs h37;simp only[zz,zy];refine lq (ji a39) ?_ (by simp only[zg,c3,c10,e16,c17,c23,c27]);(try simp only[zz,zy]);refine gi h37 (λc29 h37=>?_) λc29 h37=>?_
   .obtain⟨x30,a40,h37⟩:=bs h37;simp only[zz,eq_true c29,zy];refine lq (kp a40) ?_ (by simp only[zg,c3,c10,e16,c17,c23,c27]);(try simp only[zz,eq_true c29,zy]);cases h37;exact tz [ok 2]
   (try simp only[zz,c29,zy]);cases h37;exact tz [ok 2]
  obtain⟨j31,j32,j33⟩:=z38;dsimp only at h;cases h;exact rt ez
 refine jm h (λj35=>⟨ds 4 (.ref 0 0 0 0::.ref 1 0 0 0::.ref 2 0 0 0::.dead::aa t0::ds 66 (ba j35::ds 32 [])),[.live 2 0 [qa t1],.live 2 0 [qa t2],.live 2 0 [.agg [aa 0,aa 0]]]⟩) (λz42 h41=>?_) λj35 h41 h=>?_
 .refine ss (rg ?_);(try simp only[zz]);refine cd rfl ?_;(try simp only[zz]);refine gi h41 (λc34 h41=>?_) λc34 h41=>?_
  .have e43:=eT c34;refine sk ?_;(try simp only[zz,eq_true c34,e43]);cases h41;exact tz [ok 0,ok 1,ok 2]
  have e44:=eF c34;refine rg ?_;(try simp only[zz]);cases h41;exact tz [ok 0,ok 1,ok 2]
 refine cd rfl ?_;(try simp only[zz]);refine gi h (λc36 h=>?_) λc36 h=>?_
 .refine jm h (λj38=>⟨ds 6 (.ref 0 0 0 0::ba j38::ds 100 []),[.live 2 0 [qa t1]]⟩) (λz46 h45=>?_) λj38 h45 h=>?_
  .refine ay gn [[],[],[],[],[],[],[],[],[],[6]] (by kernel_rfl) ?_;(try simp only[zz,zy]);refine gi h45 (λc37 h45=>?_) λc37 h45=>?_
   .have e47:=eT c37;(try simp only[zz,eq_true c37,e47,zy]);cases h45;exact tz [ok 2]
   have e48:=eF c37;(try simp only[zz,c37,e48,zy]);cases h45;exact tz [ok 2]
  cases h;exact rt ez
 refine jm h (λj40=>⟨ds 4 (.ref 0 0 0 0::.ref 1 0 0 0::.ref 2 0 0 0::ds 80 (ba j40::ds 20 [])),[.live 2 0 [qa t1],.live 2 0 [qa t2],.live 2 0 [.agg [aa 0,aa 0]]]⟩) (λz50 h49=>?_) λj40 h49 h=>?_
 .refine ss (rg ?_);(try simp only[zz]);refine cd rfl ?_;(try simp only[zz]);refine gi h49 (λc39 h49=>?_) λc39 h49=>?_
  .have e51:=eT c39;refine sk ?_;(try simp only[zz,eq_true c39,e51]);cases h49;exact tz [ok 0,ok 1,ok 2]
  have e52:=eF c39;refine rg ?_;(try simp only[zz]);cases h49;exact tz [ok 0,ok 1,ok 2]
 refine cd rfl ?_;(try simp only[zz]);refine gi h (λc41 h=>?_) λc41 h=>?_
 .refine jm h (λj43=>⟨ds 6 (.ref 0 0 0 0::ba j43::ds 100 []),[.live 2 0 [qa t1]]⟩) (λz54 h53=>?_) λj43 h53 h=>?_
  .refine ay gn [[],[],[],[],[],[],[],[],[],[6]] (by kernel_rfl) ?_;(try simp only[zz,zy]);refine gi h53 (λc42 h53=>?_) λc42 h53=>?_
   .have e55:=eT c42;(try simp only[zz,eq_true c42,e55,zy]);cases h53;exact tz [ok 2]
   have e56:=eF c42;(try simp only[zz,c42,e56,zy]);cases h53;exact tz [ok 2]
  cases h;exact rt ez
 refine sk ?_;(try simp only[zz,c41]);refine jm h (λq=>⟨ds 6 (.ref 0 0 0 0::ba q.2.2::ds 100 []),[.live 2 0 [.agg [aa q.1,aa q.2.1]]]⟩) (λz58 h57=>?_) λz58 h57 h=>?_
 .refine ay gn [[],[],[],[],[],[],[],[],[],[6]] (by kernel_rfl) ?_;obtain⟨x44,a59,h57⟩:=bs h57;simp only[zz,zy];refine lq (ji a59) ?_ (by simp only[zg,c3,c10,e16,c17,c23,c27,c36,c41]);(try simp only[zz,zy]);refine gi h57 (λc45 h57=>?_) λc45 h57=>?_
  .have e60:=eT c45;(try simp only[zz,eq_true c45,e60,zy]);cases h57;exact tz [ok 2]
  have e61:=eF c45;(try simp only[zz,c45,e61,zy]);cases h57;exact tz [ok 2]
 obtain⟨j46,j47,j48⟩:=z58;dsimp only at h;cases h;exact rt ez
instance {t0 t1 t2 r}:Con (Dh t0 t1 t2=some r) (Den Tryz.prog 199 [aa t0,qa t1,qa t2] (.tup [qa r.1,ba r.2])):=⟨XB⟩
end Go.Proofs.Dev
