/-
  Contracts of the functions: each answers as its plain partial function says.
-/
import Derived.Test.YtjiaejcpmcknnaaGreatDoorK
import Derived.Test.YtjiaejcpmcknnaaGreatDoorG
import Derived.Test.YtjiaejcpmcknnaaGreatDoorPD
import Derived.Test.YtjiaejcpmcknnaaGreatDoorH1
import Derived.Test.YtjiaejcpmcknnaaGreatDoorH2
import Derived.Test.YtjiaejcpmcknnaaGreatDoorQ0
import Derived.Test.YtjiaejcpmcknnaaGreatDoorQ1
import Derived.Test.YtjiaejcpmcknnaaGreatDoorQ2
import Derived.Test.YtjiaejcpmcknnaaGreatDoorQ3
set_option linter.all false
set_option maxHeartbeats 1000000
set_option maxRecDepth 10000
namespace Go.Proofs.Dev
open Go Go.Tm
instance {t0 t1 r}:Con (xj t0 t1=some r) (Den Tryz.prog 78 [Tf t0,aa t1] (ea r)):=⟨λh=>by
 refine dk 65 k78 ?_
 simp only[k78,Kf.of,zs,ze]
 unfold xj at h
 exact pg @Tg.eq_1 (.l 2 1 (λ(q:((List Int) × Int))=>⟨[.k 2,.p 2,.k 1,.s (.own 1 0),.p 2,.k 3,.p 2,.s (aa q.2),.p 53],[.o 0,.n 1 ((q.1.map aa))]⟩) (λ(b26:(List Int))=>⟨[.k 5,.s (.own 0 0),.p 2],[.n 1 ((b26.map aa))]⟩) [ok 0,on 1] (.b (.j 1 (λ(j23:(List Int))=>⟨[.k 2,.p 12],[.o 0,.c 1 ((j23.map aa))]⟩) (.b (.t [ok 0,ok 1]) (.j 1 (λ(j15:(List Int))=>⟨[.k 2,.p 12],[.o 0,.c 1 ((j15.map aa))]⟩) (.j 1 (λ(j12:Bool)=>⟨[.k 2,.p 12,.k 26,.s (ba j12),.p 26],[.o 0,.o 1]⟩) (.b (.t [ok 0,ok 1]) (.t [ok 0,ok 1])) (.b (.t [ok 0,ov 1 1]) (.t [ok 0,ok 1]))) (.j 1 (λ(j20:Bool)=>⟨[.k 2,.p 58,.s (ba j20),.p 6],[.o 0,.o 1]⟩) (.b (.t [ok 0,ok 1]) (.t [ok 0,ok 1])) (.b (.t [ok 0,ov 1 1]) (.t [ok 0,ok 1]))))) (.t [ok 0,ok 1])) (.t [ok 1])) .o)⟩
instance {t0 t1 r}:Con (Oi t0 t1=some r) (Den Tryz.prog 85 [ub t0,aa t1] (ba r)):=⟨λh=>by
 refine dk 17 k85 ?_
 simp only[k85,Kf.of,zs,ze]
 unfold Oi at h
 exact pg trivial (.z 1 (.j 1 (λ(j4:Bool)=>⟨[.k 4,.s (ba j4),.p 14],[]⟩) (.b (.b (.t []) (.t [])) (.t [])) .o))⟩
instance {t0 t1 r}:Con (kd t0 t1=some r) (Den Tryz.prog 112 [qa t0,Jb t1] (.tup [aa r.1,aa r.2])):=⟨λh=>by
 refine dk 28 A4 ?_
 simp only[A4,Kf.of,zs,ze]
 unfold kd at h
 exact pg trivial .o⟩
instance {t0 r}:Con (Ei t0=some r) (Den Tryz.prog 148 [xa t0] (.tup [ea r.1,aa r.2.1,aa r.2.2])):=⟨λh=>by
 refine dk 75 y5 ?_
 simp only[y5,Kf.of,zs,ze]
 unfold Ei at h
 exact pg @th.eq_1 (.b .o (.b .o (.l 3 2 (λ(q:((List Int) × (List Int) × Int))=>⟨[.p 2,.k 3,.p 1,.s (.own 1 0),.p 3,.k 9,.p 2,.s (aa q.2.2),.p 54],[.c 0 ((q.1.map aa)),.n 1 ((q.2.1.map aa))]⟩) (λ(q:((List Int) × (List Int)))=>⟨[.p 2,.k 3,.p 1,.s (.own 1 0),.p 3],[.c 0 ((q.1.map aa)),.n 1 ((q.2.map aa))]⟩) [ok 0,on 1] (.b (.b .o (.b .o (.z 1 (.j 1 (λ(j18:(List Int))=>⟨[.p 8,.k 1,.p 13],[.c 0 ((j18.map aa)),.o 1]⟩) (.b (.t [ok 0,ok 1]) (.t [ok 0,ok 1])) (.a [[],[],[],[],[],[],[],[],[5],[5],[]] (.b .o (.t [ok 0,ov 1 2]))))))) (.t [ok 0,ok 1])) .o)))⟩
instance {t0 t1 r}:Con (sd t0 t1=some r) (Den Tryz.prog 156 [oa t0,aa t1] (ea r)):=⟨λh=>by
 refine dk 34 F5 ?_
 simp only[F5,Kf.of,zs,ze]
 unfold sd at h
 exact pg @lg.eq_1 (.l 3 1 (λ(q:((List Int) × Int × Int))=>⟨[.k 2,.p 2,.k 1,.p 1,.s (aa q.2.1),.s (aa q.2.2)],[.o 0,.c 1 ((q.1.map aa))]⟩) (λ(b14:(List Int))=>⟨[.k 5,.p 1],[.c 1 ((b14.map aa))]⟩) [ok 0,ok 1] (.b (.t [ok 0,ok 1]) (.t [ok 1])) .o)⟩
theorem uk{t0}{t1:GEnum->Option Bool}{k1:Nat}{q1:List D}(hc1:la q1=true)(hp1:∀ x0 r,t1 x0=some r->Den Tryz.prog k1 ([bf x0]++q1) (ba r)){r} (h:ab t0 t1=some r):Den Tryz.prog 175 [Jb t0,.fn k1 [] q1] (ba r):=by
 haveI I1:∀ x0 r,Con (t1 x0=some r) (Den Tryz.prog k1 ([bf x0]++q1) (ba r)):=λx0 r=>⟨hp1 x0 r⟩
 have s1:∀ f:D->D->Prop,Dv f q1 q1=True:=λ_=>Zh hc1
 have z1:∀ a b n,Nt a b n q1=q1:=λ_ _ _=>me _ _ _ _ hc1
 haveI:∀ y0 r,Con (Ub y0 t1=some r) (Den Tryz.prog 235 [Jb y0,.fn k1 [] q1] (aa r)):=λy0 r=>⟨qm hc1 hp1⟩
 refine Den.at 7 QY.ok QY.nm (kD (HN hc1 oB)) rfl ?_
 simp only[QY,Kf.of,zs,ze]
 unfold ab at h
 exact pg trivial .o
theorem Aj{t0}{t1:GScope->Option Bool}{k1:Nat}{q1:List D}(hc1:la q1=true)(hp1:∀ x0 r,t1 x0=some r->Den Tryz.prog k1 ([Ca x0]++q1) (ba r)){r} (h:Ta t0 t1=some r):Den Tryz.prog 179 [Zm t0,.fn k1 [] q1] (ba r):=by
 haveI I1:∀ x0 r,Con (t1 x0=some r) (Den Tryz.prog k1 ([Ca x0]++q1) (ba r)):=λx0 r=>⟨hp1 x0 r⟩
 have s1:∀ f:D->D->Prop,Dv f q1 q1=True:=λ_=>Zh hc1
 have z1:∀ a b n,Nt a b n q1=q1:=λ_ _ _=>me _ _ _ _ hc1
 haveI:∀ y0 r,Con (Bb y0 t1=some r) (Den Tryz.prog 237 [Zm y0,.fn k1 [] q1] (aa r)):=λy0 r=>⟨Jk hc1 hp1⟩
 refine Den.at 7 SY.ok SY.nm (kD (HN hc1 oB)) rfl ?_
 simp only[SY,Kf.of,zs,ze]
 unfold Ta at h
 exact pg trivial .o
instance {t0 r}:Con (Jd t0=some r) (Den Tryz.prog 221 [ob t0] (ba r)):=⟨λh=>by
 refine dk 14 Q6 ?_
 simp only[Q6,Kf.of,zs,ze]
 unfold Jd at h
 exact pg @Qb.eq_1 (.l 1 0 (λ(s1:Int)=>⟨[.k 5,.p 2,.s (aa s1),.p 7],[]⟩) (λ(_:Unit)=>⟨[],[]⟩) [] (.b (.b .o (.t [])) (.t [])) .o)⟩
instance {t0 t1 r}:Con (Qu t0 t1=some r) (Den Tryz.prog 262 [ka t0,qa t1] (ba r)):=⟨λh=>by
 refine dk 19 J7 ?_
 simp only[J7,Kf.of,zs,ze]
 unfold Qu at h
 exact pg trivial (.z 1 (.j 1 (λ(j4:Bool)=>⟨[.k 4,.s (ba j4),.p 16],[]⟩) (.b (.b (.t []) (.t [])) (.t [])) .o))⟩
instance {t0 t1 r}:Con (cn t0 t1=some r) (Den Tryz.prog 263 [aa t0,qa t1] (ba r)):=⟨λh=>by
 refine dk 30 K7 ?_
 simp only[K7,Kf.of,zs,ze]
 unfold cn at h
 exact pg trivial (.b .o (.b (.j 1 (λ(j4:Bool)=>⟨[.k 4,.s (ba j4)],[]⟩) (.b (.t []) (.t [])) .o) (.b (.j 1 (λ(j8:Bool)=>⟨[.k 4,.s (ba j8)],[]⟩) (.b (.t []) (.t [])) .o) .o)))⟩
instance {t0 t1 r}:Con (mc t0 t1=some r) (Den Tryz.prog 264 [aa t0,aa t1] (ba r)):=⟨λh=>by
 refine dk 14 L7 ?_
 simp only[L7,Kf.of,zs,ze]
 unfold mc at h
 exact pg trivial .o⟩
instance {t0 t1 t2 r}:Con (Sb t0 t1 t2=some r) (Den Tryz.prog 265 [aa t0,ka t1,ka t2] (ba r)):=⟨λh=>by
 refine dk 131 M7 ?_
 simp only[M7,Kf.of,zs,ze]
 unfold Sb at h
 exact pg trivial (.z 3 (.j 1 (λ(j2:Bool)=>⟨[.k 4,.p 2,.k 1,.p 1,.s (ba j2),.p 125],[.o 0,.o 1]⟩) (.b (.t [ok 0,ok 1]) (.t [ok 0,ok 1])) (.b (.j 1 (λ(j7:Bool)=>⟨[.k 6,.s (ba j7)],[]⟩) (.b (.t []) (.t [])) .o) (.b (.j 1 (λ(j11:Bool)=>⟨[.k 6,.s (ba j11)],[]⟩) (.b (.b (.t []) (.t [])) (.t [])) .o) (.b (.j 1 (λ(j15:Bool)=>⟨[.k 6,.s (ba j15)],[]⟩) (.b (.b (.t []) (.t [])) (.t [])) .o) (.b (.b (.j 1 (λ(j19:Bool)=>⟨[.k 6,.s (ba j19)],[]⟩) (.b (.t []) (.t [])) .o) (.j 1 (λ(j21:Bool)=>⟨[.k 6,.s (ba j21)],[]⟩) (.b (.t []) (.t [])) .o)) (.b (.j 1 (λ(j24:Bool)=>⟨[.k 6,.s (ba j24)],[]⟩) (.b (.t []) (.t [])) .o) (.j 1 (λ(j28:Bool)=>⟨[.k 4,.p 4,.k 72,.s (ba j28),.p 53],[.o 0,.o 1]⟩) (.b (.t [ok 0,ok 1]) (.b (.t [ok 0,ok 1]) (.b (.t [ok 0,ok 1]) (.t [ok 0,ok 1])))) (.b (.j 1 (λ(j34:Bool)=>⟨[.k 6,.s (ba j34)],[]⟩) (.b (.b (.t []) (.t [])) (.t [])) .o) (.j 1 (λ(j36:Bool)=>⟨[.k 4,.p 76,.k 18,.s (ba j36),.p 35],[.o 0,.o 1]⟩) (.b (.t [ok 0,ok 1]) (.t [ok 0,ok 1])) (.b .o (.j 1 (λ(j40:Bool)=>⟨[.k 4,.p 94,.k 6,.s (ba j40),.p 29],[.o 0,.o 1]⟩) (.b (.t [ok 0,ok 1]) (.t [ok 0,ok 1])) (.b (.j 1 (λ(j43:Bool)=>⟨[.k 6,.s (ba j43)],[]⟩) (.b (.t []) (.t [])) .o) (.j 1 (λ(j45:Bool)=>⟨[.k 4,.p 3,.k 108,.s (ba j45),.p 18],[.o 0,.o 1]⟩) (.b (.t [ok 0,ok 1]) (.t [ok 0,ok 1])) (.b (.j 1 (λ(j48:Bool)=>⟨[.k 6,.s (ba j48),.p 108],[]⟩) (.b (.t []) (.t [])) .o) (.j 1 (λ(j50:Bool)=>⟨[.k 6,.s (ba j50),.p 108],[]⟩) (.b (.t []) (.t [])) .o))))))))))))))))⟩
instance {t0 t1 r}:Con (Yo t0 t1=some r) (Den Tryz.prog 270 [aa t0,ka t1] (ka r)):=⟨λh=>by
 refine dk 34 O7 ?_
 simp only[O7,Kf.of,zs,ze]
 unfold Yo at h
 exact pg trivial .o⟩
instance {t0 t1 t2 r}:Con (qd t0 t1 t2=some r) (Den Tryz.prog 271 [Ea t0,ka t1,ka t2] (.tup [ka r.1,aa r.2])):=⟨λh=>by
 refine dk 136 P7 ?_
 simp only[P7,Kf.of,zs,ze]
 unfold qd at h
 exact pg trivial (.z 3 (.j 1 (λ(j2:Bool)=>⟨[.k 3,.p 4,.k 4,.p 1,.s (ba j2),.p 126],[.o 0,.o 1,.o 2,.o 3]⟩) (.b (.t [ok 0,ok 1,ok 2,ok 3]) (.t [ok 0,ok 1,ok 2,ok 3])) (.b .o (.b .o (.j 1 (λ(j8:Bool)=>⟨[.k 3,.p 9,.k 21,.s (ba j8),.p 105],[.o 0,.o 1,.o 2,.o 3]⟩) (.b (.t [ok 0,ok 1,ok 2,ok 3]) (.b (.t [ok 0,ok 1,ok 2,ok 3]) (.b (.t [ok 0,ok 1,ok 2,ok 3]) (.t [ok 0,ok 1,ok 2,ok 3])))) (.b .o (.j 1 (λ(j12:Bool)=>⟨[.k 3,.p 30,.k 11,.s (ba j12),.p 94],[.o 0,.o 1,.o 2,.o 3]⟩) (.b (.t [ok 0,ok 1,ok 2,ok 3]) (.t [ok 0,ok 1,ok 2,ok 3])) (.b .o (.b .o (.b .o (.b .o (.b .o (.b (.j 3 (λ(q:(Int × Int × Int))=>⟨[.k 6,.p 1,.s (aa 0),.p 3],[.h 3 [.g [.s (aa q.1),.s (aa q.2.1),.s (aa q.2.2)]]]⟩) (.b (.t [ok 3]) (.t [ok 3])) .o) (.b (.j 3 (λ(q:(Int × Int × Int))=>⟨[.k 6,.p 1,.s (aa 0),.p 3],[.h 3 [.g [.s (aa q.1),.s (aa q.2.1),.s (aa q.2.2)]]]⟩) (.b (.t [ok 3]) (.t [ok 3])) .o) .o))))))))))))))⟩
instance {t0 r}:Con (Gb t0=some r) (Den Tryz.prog 272 [ka t0] (ba r)):=⟨λh=>by
 refine dk 34 Q7 ?_
 simp only[Q7,Kf.of,zs,ze]
 unfold Gb at h
 exact pg trivial (.z 3 (.j 1 (λ(j3:Bool)=>⟨[.k 1,.p 1,.k 18,.s (ba j3),.p 14],[.o 0]⟩) (.b (.t [ok 0]) (.t [ok 0])) (.b .o (.b (.j 1 (λ(j7:Bool)=>⟨[.k 2,.s (ba j7),.p 17],[]⟩) (.b (.t []) (.t [])) .o) .o))))⟩
instance {t0 t1 t2 r}:Con (Kt t0 t1 t2=some r) (Den Tryz.prog 330 [aa t0,aa t1,aa t2] (aa r)):=⟨λh=>by
 refine dk 32 I8 ?_
 simp only[I8,Kf.of,zs,ze]
 unfold Kt at h
 exact pg (And.intro @ru.eq_1 @su.eq_1) (.l 2 2 (λ(q:(Int × Int))=>⟨[.s (aa q.1),.s (aa q.2),.p 4],[]⟩) (λ(q:(Int × Int))=>⟨[.s (aa q.1),.s (aa q.2),.p 4],[]⟩) [] (.b (.t []) (.t [])) (.l 2 2 (λ(q:(Int × Int))=>⟨[.s (aa q.1),.s (aa q.2),.p 33],[]⟩) (λ(q:(Int × Int))=>⟨[.s (aa q.1),.s (aa q.2),.p 33],[]⟩) [] (.b (.t []) (.t [])) .o))⟩
instance {t0 t1 t2 r}:Con (oi t0 t1 t2=some r) (Den Tryz.prog 50 [Ca t0,aa t1,aa t2] (ea r)):=⟨λh=>by
 refine dk 36 k50 ?_
 simp only[k50,Kf.of,zs,ze]
 unfold oi at h
 exact pg @Ui.eq_1 (.l 2 1 (λ(q:((List Int) × Int))=>⟨[.k 1,.p 5,.k 1,.s (.own 1 0),.s (aa q.2),.p 30],[.o 0,.n 1 ((q.1.map aa))]⟩) (λ(b13:(List Int))=>⟨[.k 7,.s (.own 0 0)],[.n 1 ((b13.map aa))]⟩) [ok 0,on 1] (.b (.j 1 (λ(j10:(List Int))=>⟨[.k 1,.p 8],[.o 0,.c 1 ((j10.map aa))]⟩) (.j 1 (λ(j7:Bool)=>⟨[.k 1,.p 8,.k 24,.s (ba j7),.p 5],[.o 0,.o 1]⟩) (.b (.t [ok 0,ok 1]) (.t [ok 0,ok 1])) (.b (.t [ok 0,ov 1 1]) (.t [ok 0,ok 1]))) (.t [ok 0,ok 1])) (.t [ok 1])) .o)⟩
instance {t0 t1 t2 r}:Con (Yd t0 t1 t2=some r) (Den Tryz.prog 69 [qa t0,Jb t1,ea t2] (ea r)):=⟨λh=>by
 refine dk 66 k69 ?_
 simp only[k69,Kf.of,zs,ze]
 unfold Yd at h
 exact pg (And.intro @Wc.eq_1 @Vc.eq_1) (.b .o (.z 3 (.j 1 (λ(j5:Bool)=>⟨[.k 2,.p 1,.k 4,.p 6,.k 17,.s (ba j5),.p 38],[]⟩) (.b (.t []) (.t [])) (.b (.l 2 1 (λ(q:((List Int) × Int))=>⟨[.k 8,.p 1,.s (.own 0 0),.s (aa q.2),.p 19],[.n 1 ((q.1.map aa))]⟩) (λ(b13:(List Int))=>⟨[.k 9,.s (.own 0 0)],[.n 1 ((b13.map aa))]⟩) [on 1] (.b (.t [ov 0 1]) (.t [ok 0])) .o) (.l 2 1 (λ(q:((List Int) × Int))=>⟨[.k 7,.p 23,.k 16,.p 2,.s (aa q.2),.p 20],[.c 1 ((q.1.map aa))]⟩) (λ(b25:(List Int))=>⟨[.k 9,.p 21],[.c 1 ((b25.map aa))]⟩) [ok 1] (.b (.j 1 (λ(j22:(List Int))=>⟨[.k 7,.p 42],[.c 0 ((j22.map aa))]⟩) (.z 1 (.j 1 (λ(j19:Bool)=>⟨[.k 7,.p 42,.k 10,.s (ba j19),.p 9],[.o 0]⟩) (.b (.t [ok 0]) (.t [ok 0])) (.b (.t [ov 0 1]) (.t [ok 0])))) (.t [ok 0])) (.t [ok 0])) .o)))))⟩
instance {t0 t1 r}:Con (yb t0 t1=some r) (Den Tryz.prog 77 [Tf t0,aa t1] (aa r)):=⟨λh=>by
 refine dk 20 k77 ?_
 simp only[k77,Kf.of,zs,ze]
 unfold yb at h
 exact pg trivial .o⟩
instance {t0 r}:Con (sh t0=some r) (Den Tryz.prog 115 [xa t0] (.tup [ea r.1,aa r.2])):=⟨λh=>by
 refine dk 14 D4 ?_
 simp only[D4,Kf.of,zs,ze]
 unfold sh at h
 exact pg trivial .o⟩
instance {t0 c10 r}:Con (ab t0 (λx900=>Oe x900 c10)=some r) (Den Tryz.prog 175 [Jb t0,.fn 176 [] [Dp c10]] (ba r)):=⟨λh=>uk (q1:=[Dp c10]) (kD oB) (λx900 _ hb=>Zs hb) h⟩
theorem zD{t0 t1 r} (h:jj t0 t1=some r):Den Tryz.prog 131 [Jb t0,df t1] (ba r):=by
 refine dk 6 P4 ?_
 simp only[P4,Kf.of,zs,ze]
 unfold jj at h
 exact pg trivial .o
instance {t0 t1 r}:Con (jj t0 t1=some r) (Den Tryz.prog 131 [Jb t0,df t1] (ba r)):=⟨zD⟩
instance {t0 t1 t2 r}:Con (Ec t0 t1 t2=some r) (Den Tryz.prog 200 [aa t0,aa t1,ta t2] (.tup [qa r.1,aa r.2])):=⟨λh=>by
 refine dk 27 G6 ?_
 simp only[G6,Kf.of,zs,ze]
 unfold Ec at h
 exact pg trivial (.z 4 (.j 1 (λ(j3:Bool)=>⟨[.k 6,.p 1,.k 1,.p 1,.k 18,.s (ba j3),.p 2],[.o 1,.o 2]⟩) (.b (.t [ok 1,ok 2]) (.t [ok 1,ok 2])) .o))⟩
instance {t0 t1 t2 r}:Con (sa t0 t1 t2=some r) (Den Tryz.prog 222 [Ea t0,ob t1,Kc t2] (ba r)):=⟨λh=>by
 refine dk 130 R6 ?_
 simp only[R6,Kf.of,zs,ze]
 unfold sa at h
 exact pg trivial (.b .o (.b .o (.b (.z 1 (.j 1 (λ(j13:Bool)=>⟨[.k 6,.s (ba j13)],[]⟩) (.b (.b (.t []) (.t [])) (.t [])) .o)) (.b (.z 1 (.j 1 (λ(j19:Bool)=>⟨[.k 6,.s (ba j19),.p 1],[]⟩) (.b (.b (.t []) (.t [])) (.t [])) .o)) (.j 1 (λ(j23:Bool)=>⟨[.k 1,.p 1,.k 1,.p 3,.k 75,.s (ba j23),.p 51],[.o 0,.o 1]⟩) (.b (.t [ok 0,ok 1]) (.b (.t [ok 0,ok 1]) (.b (.t [ok 0,ok 1]) (.t [ok 0,ok 1])))) (.b .o (.b .o (.b .o (.b (.j 1 (λ(j40:Bool)=>⟨[.k 6,.s (ba j40),.p 74],[]⟩) (.b (.t []) (.t [])) .o) .o)))))))))⟩
instance {t0 t1 t2 r}:Con (Ga t0 t1 t2=some r) (Den Tryz.prog 223 [Ea t0,ob t1,Kc t2] (.tup [ka r.1,aa r.2])):=⟨λh=>by
 refine dk 162 S6 ?_
 simp only[S6,Kf.of,zs,ze]
 unfold Ga at h
 exact pg trivial (.z 3 (.j 1 (λ(j5:Bool)=>⟨[.k 1,.p 1,.k 1,.p 4,.k 7,.p 1,.s (ba j5),.p 149],[.o 0,.o 1,.o 2]⟩) (.b (.t [ok 0,ok 1,ok 2]) (.b (.t [ok 0,ok 1,ok 2]) (.b (.t [ok 0,ok 1,ok 2]) (.b (.t [ok 0,ok 1,ok 2]) (.t [ok 0,ok 1,ok 2]))))) (.b .o (.b .o (.b .o (.b .o (.b .o (.b .o (.j 1 (λ(j17:Bool)=>⟨[.k 1,.p 14,.k 47,.s (ba j17),.p 102],[.o 0,.o 1,.o 2]⟩) (.b (.t [ok 0,ok 1,ok 2]) (.b (.t [ok 0,ok 1,ok 2]) (.b (.t [ok 0,ok 1,ok 2]) (.t [ok 0,ok 1,ok 2])))) .o)))))))))⟩
instance {t0 t1 r}:Con (we t0 t1=some r) (Den Tryz.prog 300 [aa t0,aa t1] (.tup [ka r.1,aa r.2])):=⟨λh=>by
 refine dk 13 p8 ?_
 simp only[p8,Kf.of,zs,ze]
 unfold we at h
 exact pg trivial .o⟩
instance {t0 t1 t2 t3 r}:Con (Tr t0 t1 t2 t3=some r) (Den Tryz.prog 305 [eb t0,aa t1,aa t2,aa t3] (.tup [aa r.1,aa r.2])):=⟨λh=>by
 refine dk 95 w8 ?_
 simp only[w8,Kf.of,zs,ze]
 unfold Tr at h
 exact pg @ft.eq_1 (.b .o (.z 1 (.j 1 (λ(j4:Bool)=>⟨[.k 1,.p 7,.k 23,.s (ba j4),.p 67],[.o 0]⟩) (.b (.t [ok 0]) (.t [ok 0])) (.b .o (.b .o (.l 3 2 (λ(q:(Int × Int × Int))=>⟨[.k 1,.p 9,.s (aa q.1),.s (aa q.2.1),.s (aa q.2.2),.p 18],[.o 0]⟩) (λ(q:(Int × Int))=>⟨[.k 3,.p 1,.k 6,.s (aa q.1),.s (aa q.2)],[]⟩) [ok 0] (.b (.e 2 (λ(q:(Int × Int))=>⟨[.k 1,.p 9,.s (aa q.1),.s (aa q.2),.p 22],[.o 0]⟩) (.z 2 (.j 1 (λ(j15:Bool)=>⟨[.k 1,.p 33,.k 35,.s (ba j15),.p 29],[.o 0]⟩) (.b (.t [ok 0]) (.t [ok 0])) (.b (.t [ok 0]) (.b .o (.t [ok 0]))))) (.t [ok 0])) (.t [])) .o))))))⟩
end Go.Proofs.Dev
