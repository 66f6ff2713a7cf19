/-
  Contracts of the functions: each answers as its plain partial function says.
-/
import Derived.Test.YtnlamdfggbdblaaGreatDoorK
import Derived.Test.YtnlamdfggbdblaaGreatDoorG
import Derived.Test.YtnlamdfggbdblaaGreatDoorPD
import Derived.Test.YtnlamdfggbdblaaGreatDoorH2
import Derived.Test.YtnlamdfggbdblaaGreatDoorQ0
import Derived.Test.YtnlamdfggbdblaaGreatDoorQ1
import Derived.Test.YtnlamdfggbdblaaGreatDoorQ2
import Derived.Test.YtnlamdfggbdblaaGreatDoorQ3
set_option linter.all false
set_option maxHeartbeats 1000000
set_option maxRecDepth 10000
namespace Go.Proofs.Dev
open Go Go.Tm
theorem vf{t0}{t1:GCoverageHole->Option Bool}{k1:Nat}{q1:List D}(hc1:ia q1=true)(hp1:∀ x0 r,t1 x0=some r->Den Tryz.prog k1 ([va x0]++q1) (ba r)){r} (h:wa t0 t1=some r):Den Tryz.prog 25 [fb t0,.fn k1 [] q1] (ba r):=by
 haveI I1:∀ x0 r,Con (t1 x0=some r) (Den Tryz.prog k1 ([va x0]++q1) (ba r)):=λx0 r=>⟨hp1 x0 r⟩
 have s1:∀ f:D->D->Prop,Zu f q1 q1=True:=λ_=>bg hc1
 have z1:∀ a b n,Ys a b n q1=q1:=λ_ _ _=>Ld _ _ _ _ hc1
 haveI:∀ y0 r,Con (Qa y0 t1=some r) (Den Tryz.prog 58 [fb y0,.fn k1 [] q1] (aa r)):=λy0 r=>⟨ag hc1 hp1⟩
 refine Den.at 7 k25.ok k25.nm (iB (xK hc1 oz)) rfl ?_
 simp only[k25,Kf.of,zs,ze]
 unfold wa at h
 exact pg trivial .o
instance {t0 t1 r}:Con (Ic t0 t1=some r) (Den Tryz.prog 57 [tg t0,aa t1] (da r)):=⟨λh=>by
 refine dk 65 k57 ?_
 simp only[k57,Kf.of,zs,ze]
 unfold Ic at h
 exact pg @nd.eq_1 (.l 2 1 (λ(q:((List Int) × Int))=>⟨[.k 2,.p 2,.k 1,.s (.own 1 0),.p 2,.k 3,.p 2,.s (aa q.2),.p 53],[.o 0,.n 1 ((q.1.map aa))]⟩) (λ(b26:(List Int))=>⟨[.k 5,.s (.own 0 0),.p 2],[.n 1 ((b26.map aa))]⟩) [ok 0,on 1] (.b (.j 1 (λ(j23:(List Int))=>⟨[.k 2,.p 12],[.o 0,.c 1 ((j23.map aa))]⟩) (.b (.t [ok 0,ok 1]) (.j 1 (λ(j15:(List Int))=>⟨[.k 2,.p 12],[.o 0,.c 1 ((j15.map aa))]⟩) (.j 1 (λ(j12:Bool)=>⟨[.k 2,.p 12,.k 26,.s (ba j12),.p 26],[.o 0,.o 1]⟩) (.b (.t [ok 0,ok 1]) (.t [ok 0,ok 1])) (.b (.t [ok 0,ov 1 1]) (.t [ok 0,ok 1]))) (.j 1 (λ(j20:Bool)=>⟨[.k 2,.p 58,.s (ba j20),.p 6],[.o 0,.o 1]⟩) (.b (.t [ok 0,ok 1]) (.t [ok 0,ok 1])) (.b (.t [ok 0,ov 1 1]) (.t [ok 0,ok 1]))))) (.t [ok 0,ok 1])) (.t [ok 1])) .o)⟩
instance {t0 t1 r}:Con (vd t0 t1=some r) (Den Tryz.prog 88 [qa t0,Tb t1] (.tup [aa r.1,aa r.2])):=⟨λh=>by
 refine dk 28 k88 ?_
 simp only[k88,Kf.of,zs,ze]
 unfold vd at h
 exact pg trivial .o⟩
instance {t0 t1 r}:Con (Xi t0 t1=some r) (Den Tryz.prog 107 [Bb t0,aa t1] (ba r)):=⟨λh=>by
 refine dk 17 V2 ?_
 simp only[V2,Kf.of,zs,ze]
 unfold Xi at h
 exact pg trivial (.z 1 (.j 1 (λ(j4:Bool)=>⟨[.k 4,.s (ba j4),.p 14],[]⟩) (.b (.b (.t []) (.t [])) (.t [])) .o))⟩
instance {t0 r}:Con (Oi t0=some r) (Den Tryz.prog 123 [ya t0] (.tup [da r.1,aa r.2.1,aa r.2.2])):=⟨λh=>by
 refine dk 75 I3 ?_
 simp only[I3,Kf.of,zs,ze]
 unfold Oi at h
 exact pg @Hh.eq_1 (.b .o (.b .o (.l 3 2 (λ(q:((List Int) × (List Int) × Int))=>⟨[.p 2,.k 3,.p 1,.s (.own 1 0),.p 3,.k 9,.p 2,.s (aa q.2.2),.p 54],[.c 0 ((q.1.map aa)),.n 1 ((q.2.1.map aa))]⟩) (λ(q:((List Int) × (List Int)))=>⟨[.p 2,.k 3,.p 1,.s (.own 1 0),.p 3],[.c 0 ((q.1.map aa)),.n 1 ((q.2.map aa))]⟩) [ok 0,on 1] (.b (.b .o (.b .o (.z 1 (.j 1 (λ(j18:(List Int))=>⟨[.p 8,.k 1,.p 13],[.c 0 ((j18.map aa)),.o 1]⟩) (.b (.t [ok 0,ok 1]) (.t [ok 0,ok 1])) (.a [[],[],[],[],[],[],[],[],[5],[5],[]] (.b .o (.t [ok 0,ov 1 2]))))))) (.t [ok 0,ok 1])) .o)))⟩
instance {t0 t1 r}:Con (jd t0 t1=some r) (Den Tryz.prog 156 [Ms t0,Df t1] (ba r)):=⟨λh=>by
 refine dk 7 I4 ?_
 simp only[I4,Kf.of,zs,ze]
 unfold jd at h
 exact pg trivial .o⟩
theorem Dk{t0}{t1:GEnum->Option Bool}{k1:Nat}{q1:List D}(hc1:ia q1=true)(hp1:∀ x0 r,t1 x0=some r->Den Tryz.prog k1 ([Af x0]++q1) (ba r)){r} (h:ib t0 t1=some r):Den Tryz.prog 163 [Tb t0,.fn k1 [] q1] (ba r):=by
 haveI I1:∀ x0 r,Con (t1 x0=some r) (Den Tryz.prog k1 ([Af x0]++q1) (ba r)):=λx0 r=>⟨hp1 x0 r⟩
 have s1:∀ f:D->D->Prop,Zu f q1 q1=True:=λ_=>bg hc1
 have z1:∀ a b n,Ys a b n q1=q1:=λ_ _ _=>Ld _ _ _ _ hc1
 haveI:∀ y0 r,Con (mc y0 t1=some r) (Den Tryz.prog 217 [Tb y0,.fn k1 [] q1] (aa r)):=λy0 r=>⟨vm hc1 hp1⟩
 refine Den.at 7 nY.ok nY.nm (iB (xK hc1 oz)) rfl ?_
 simp only[nY,Kf.of,zs,ze]
 unfold ib at h
 exact pg trivial .o
instance {t0 t1 r}:Con (so t0 t1=some r) (Den Tryz.prog 199 [Ga t0,aa t1] (ba r)):=⟨λh=>by
 refine dk 49 E5 ?_
 simp only[E5,Kf.of,zs,ze]
 unfold so at h
 exact pg trivial (.z 2 (.j 1 (λ(j5:Bool)=>⟨[.k 2,.p 2,.k 16,.s (ba j5),.p 30],[.o 0]⟩) (.b (.b (.t [ok 0]) (.t [ok 0])) (.t [ok 0])) (.b .o (.z 2 (.j 1 (λ(j9:Bool)=>⟨[.k 2,.p 18,.k 2,.p 1,.s (ba j9),.p 27],[.o 0]⟩) (.b (.t [ok 0]) (.b (.t [ok 0]) (.t [ok 0]))) (.b (.j 1 (λ(j12:Bool)=>⟨[.k 4,.s (ba j12),.p 17],[]⟩) (.b (.t []) (.t [])) .o) (.b (.j 1 (λ(j15:Bool)=>⟨[.k 4,.s (ba j15),.p 17],[]⟩) (.b (.t []) (.t [])) .o) .o)))))))⟩
theorem Gj{t0}{t1:GField->Option Bool}{k1:Nat}{q1:List D}(hc1:ia q1=true)(hp1:∀ x0 r,t1 x0=some r->Den Tryz.prog k1 ([eb x0]++q1) (ba r)){r} (h:La t0 t1=some r):Den Tryz.prog 221 [Ud t0,.fn k1 [] q1] (ba r):=by
 haveI I1:∀ x0 r,Con (t1 x0=some r) (Den Tryz.prog k1 ([eb x0]++q1) (ba r)):=λx0 r=>⟨hp1 x0 r⟩
 have s1:∀ f:D->D->Prop,Zu f q1 q1=True:=λ_=>bg hc1
 have z1:∀ a b n,Ys a b n q1=q1:=λ_ _ _=>Ld _ _ _ _ hc1
 haveI:∀ y0 r,Con (Lb y0 t1=some r) (Den Tryz.prog 264 [Ud y0,.fn k1 [] q1] (aa r)):=λy0 r=>⟨Kk hc1 hp1⟩
 refine Den.at 7 tY.ok tY.nm (iB (xK hc1 oz)) rfl ?_
 simp only[tY,Kf.of,zs,ze]
 unfold La at h
 exact pg trivial .o
theorem Dr{t0 r} (h:rh t0=some r):Den Tryz.prog 224 [Df t0] (ba r):=by
 refine dk 26 X5 ?_
 simp only[X5,Kf.of,zs,ze]
 unfold rh at h
 exact pg @Pg.eq_1 (.z 2 (.j 1 (λ(j3:Bool)=>⟨[.p 2,.k 8,.s (ba j3),.p 16],[]⟩) (.b (.t []) (.t [])) (.b .o (.l 1 0 (λ(s5:Int)=>⟨[.p 10,.k 2,.p 1,.s (aa s5),.p 13],[]⟩) (λ(_:Unit)=>⟨[],[]⟩) [] (.b (.z 2 (.j 1 (λ(j9:Bool)=>⟨[.p 3,.k 9,.p 2,.k 11,.s (ba j9),.p 1],[]⟩) (.b (.t []) (.t [])) (.b .o (.t [])))) (.t [])) .o))))
instance {t0 r}:Con (rh t0=some r) (Den Tryz.prog 224 [Df t0] (ba r)):=⟨Dr⟩
instance {t0 t1 r}:Con (Ku t0 t1=some r) (Den Tryz.prog 237 [ka t0,qa t1] (ba r)):=⟨λh=>by
 refine dk 19 o6 ?_
 simp only[o6,Kf.of,zs,ze]
 unfold Ku at h
 exact pg trivial (.z 1 (.j 1 (λ(j4:Bool)=>⟨[.k 4,.s (ba j4),.p 16],[]⟩) (.b (.b (.t []) (.t [])) (.t [])) .o))⟩
instance {t0 t1 r}:Con (ln t0 t1=some r) (Den Tryz.prog 238 [aa t0,qa t1] (ba r)):=⟨λh=>by
 refine dk 30 q6 ?_
 simp only[q6,Kf.of,zs,ze]
 unfold ln at h
 exact pg trivial (.b .o (.b (.j 1 (λ(j4:Bool)=>⟨[.k 4,.s (ba j4)],[]⟩) (.b (.t []) (.t [])) .o) (.b (.j 1 (λ(j8:Bool)=>⟨[.k 4,.s (ba j8)],[]⟩) (.b (.t []) (.t [])) .o) .o)))⟩
instance {t0 t1 r}:Con (Ac t0 t1=some r) (Den Tryz.prog 239 [aa t0,aa t1] (ba r)):=⟨λh=>by
 refine dk 14 r6 ?_
 simp only[r6,Kf.of,zs,ze]
 unfold Ac at h
 exact pg trivial .o⟩
instance {t0 t1 t2 r}:Con (ic t0 t1 t2=some r) (Den Tryz.prog 240 [aa t0,ka t1,ka t2] (ba r)):=⟨λh=>by
 refine dk 131 u6 ?_
 simp only[u6,Kf.of,zs,ze]
 unfold ic at h
 exact pg trivial (.z 3 (.j 1 (λ(j2:Bool)=>⟨[.k 4,.p 2,.k 1,.p 1,.s (ba j2),.p 125],[.o 0,.o 1]⟩) (.b (.t [ok 0,ok 1]) (.t [ok 0,ok 1])) (.b (.j 1 (λ(j7:Bool)=>⟨[.k 6,.s (ba j7)],[]⟩) (.b (.t []) (.t [])) .o) (.b (.j 1 (λ(j11:Bool)=>⟨[.k 6,.s (ba j11)],[]⟩) (.b (.b (.t []) (.t [])) (.t [])) .o) (.b (.j 1 (λ(j15:Bool)=>⟨[.k 6,.s (ba j15)],[]⟩) (.b (.b (.t []) (.t [])) (.t [])) .o) (.b (.b (.j 1 (λ(j19:Bool)=>⟨[.k 6,.s (ba j19)],[]⟩) (.b (.t []) (.t [])) .o) (.j 1 (λ(j21:Bool)=>⟨[.k 6,.s (ba j21)],[]⟩) (.b (.t []) (.t [])) .o)) (.b (.j 1 (λ(j24:Bool)=>⟨[.k 6,.s (ba j24)],[]⟩) (.b (.t []) (.t [])) .o) (.j 1 (λ(j28:Bool)=>⟨[.k 4,.p 4,.k 72,.s (ba j28),.p 53],[.o 0,.o 1]⟩) (.b (.t [ok 0,ok 1]) (.b (.t [ok 0,ok 1]) (.b (.t [ok 0,ok 1]) (.t [ok 0,ok 1])))) (.b (.j 1 (λ(j34:Bool)=>⟨[.k 6,.s (ba j34)],[]⟩) (.b (.b (.t []) (.t [])) (.t [])) .o) (.j 1 (λ(j36:Bool)=>⟨[.k 4,.p 76,.k 18,.s (ba j36),.p 35],[.o 0,.o 1]⟩) (.b (.t [ok 0,ok 1]) (.t [ok 0,ok 1])) (.b .o (.j 1 (λ(j40:Bool)=>⟨[.k 4,.p 94,.k 6,.s (ba j40),.p 29],[.o 0,.o 1]⟩) (.b (.t [ok 0,ok 1]) (.t [ok 0,ok 1])) (.b (.j 1 (λ(j43:Bool)=>⟨[.k 6,.s (ba j43)],[]⟩) (.b (.t []) (.t [])) .o) (.j 1 (λ(j45:Bool)=>⟨[.k 4,.p 3,.k 108,.s (ba j45),.p 18],[.o 0,.o 1]⟩) (.b (.t [ok 0,ok 1]) (.t [ok 0,ok 1])) (.b (.j 1 (λ(j48:Bool)=>⟨[.k 6,.s (ba j48),.p 108],[]⟩) (.b (.t []) (.t [])) .o) (.j 1 (λ(j50:Bool)=>⟨[.k 6,.s (ba j50),.p 108],[]⟩) (.b (.t []) (.t [])) .o))))))))))))))))⟩
instance {t0 t1 r}:Con (Xo t0 t1=some r) (Den Tryz.prog 245 [aa t0,ka t1] (ka r)):=⟨λh=>by
 refine dk 34 y6 ?_
 simp only[y6,Kf.of,zs,ze]
 unfold Xo at h
 exact pg trivial .o⟩
instance {t0 t1 t2 r}:Con (Hd t0 t1 t2=some r) (Den Tryz.prog 246 [Ga t0,ka t1,ka t2] (.tup [ka r.1,aa r.2])):=⟨λh=>by
 refine dk 136 A6 ?_
 simp only[A6,Kf.of,zs,ze]
 unfold Hd at h
 exact pg trivial (.z 3 (.j 1 (λ(j2:Bool)=>⟨[.k 3,.p 4,.k 4,.p 1,.s (ba j2),.p 126],[.o 0,.o 1,.o 2,.o 3]⟩) (.b (.t [ok 0,ok 1,ok 2,ok 3]) (.t [ok 0,ok 1,ok 2,ok 3])) (.b .o (.b .o (.j 1 (λ(j8:Bool)=>⟨[.k 3,.p 9,.k 21,.s (ba j8),.p 105],[.o 0,.o 1,.o 2,.o 3]⟩) (.b (.t [ok 0,ok 1,ok 2,ok 3]) (.b (.t [ok 0,ok 1,ok 2,ok 3]) (.b (.t [ok 0,ok 1,ok 2,ok 3]) (.t [ok 0,ok 1,ok 2,ok 3])))) (.b .o (.j 1 (λ(j12:Bool)=>⟨[.k 3,.p 30,.k 11,.s (ba j12),.p 94],[.o 0,.o 1,.o 2,.o 3]⟩) (.b (.t [ok 0,ok 1,ok 2,ok 3]) (.t [ok 0,ok 1,ok 2,ok 3])) (.b .o (.b .o (.b .o (.b .o (.b .o (.b (.j 3 (λ(q:(Int × Int × Int))=>⟨[.k 6,.p 1,.s (aa 0),.p 3],[.h 3 [.g [.s (aa q.1),.s (aa q.2.1),.s (aa q.2.2)]]]⟩) (.b (.t [ok 3]) (.t [ok 3])) .o) (.b (.j 3 (λ(q:(Int × Int × Int))=>⟨[.k 6,.p 1,.s (aa 0),.p 3],[.h 3 [.g [.s (aa q.1),.s (aa q.2.1),.s (aa q.2.2)]]]⟩) (.b (.t [ok 3]) (.t [ok 3])) .o) .o))))))))))))))⟩
instance {t0 t1 t2 r}:Con (Ft t0 t1 t2=some r) (Den Tryz.prog 286 [aa t0,aa t1,aa t2] (aa r)):=⟨λh=>by
 refine dk 32 W6 ?_
 simp only[W6,Kf.of,zs,ze]
 unfold Ft at h
 exact pg (And.intro @nu.eq_1 @ou.eq_1) (.l 2 2 (λ(q:(Int × Int))=>⟨[.s (aa q.1),.s (aa q.2),.p 4],[]⟩) (λ(q:(Int × Int))=>⟨[.s (aa q.1),.s (aa q.2),.p 4],[]⟩) [] (.b (.t []) (.t [])) (.l 2 2 (λ(q:(Int × Int))=>⟨[.s (aa q.1),.s (aa q.2),.p 33],[]⟩) (λ(q:(Int × Int))=>⟨[.s (aa q.1),.s (aa q.2),.p 33],[]⟩) [] (.b (.t []) (.t [])) .o))⟩
instance {t0 t1 t2 r}:Con (we t0 t1 t2=some r) (Den Tryz.prog 47 [qa t0,Tb t1,da t2] (da r)):=⟨λh=>by
 refine dk 66 k47 ?_
 simp only[k47,Kf.of,zs,ze]
 unfold we at h
 exact pg (And.intro @pd.eq_1 @od.eq_1) (.b .o (.z 3 (.j 1 (λ(j5:Bool)=>⟨[.k 2,.p 1,.k 4,.p 6,.k 17,.s (ba j5),.p 38],[]⟩) (.b (.t []) (.t [])) (.b (.l 2 1 (λ(q:((List Int) × Int))=>⟨[.k 8,.p 1,.s (.own 0 0),.s (aa q.2),.p 19],[.n 1 ((q.1.map aa))]⟩) (λ(b13:(List Int))=>⟨[.k 9,.s (.own 0 0)],[.n 1 ((b13.map aa))]⟩) [on 1] (.b (.t [ov 0 1]) (.t [ok 0])) .o) (.l 2 1 (λ(q:((List Int) × Int))=>⟨[.k 7,.p 23,.k 16,.p 2,.s (aa q.2),.p 20],[.c 1 ((q.1.map aa))]⟩) (λ(b25:(List Int))=>⟨[.k 9,.p 21],[.c 1 ((b25.map aa))]⟩) [ok 1] (.b (.j 1 (λ(j22:(List Int))=>⟨[.k 7,.p 42],[.c 0 ((j22.map aa))]⟩) (.z 1 (.j 1 (λ(j19:Bool)=>⟨[.k 7,.p 42,.k 10,.s (ba j19),.p 9],[.o 0]⟩) (.b (.t [ok 0]) (.t [ok 0])) (.b (.t [ov 0 1]) (.t [ok 0])))) (.t [ok 0])) (.t [ok 0])) .o)))))⟩
instance {t0 t1 r}:Con (Fb t0 t1=some r) (Den Tryz.prog 56 [tg t0,aa t1] (aa r)):=⟨λh=>by
 refine dk 20 k56 ?_
 simp only[k56,Kf.of,zs,ze]
 unfold Fb at h
 exact pg trivial .o⟩
instance {t0 t1 t2 r}:Con (wk t0 t1 t2=some r) (Den Tryz.prog 67 [Da t0,aa t1,aa t2] (da r)):=⟨λh=>by
 refine dk 36 k67 ?_
 simp only[k67,Kf.of,zs,ze]
 unfold wk at h
 exact pg @dj.eq_1 (.l 2 1 (λ(q:((List Int) × Int))=>⟨[.k 1,.p 5,.k 1,.s (.own 1 0),.s (aa q.2),.p 30],[.o 0,.n 1 ((q.1.map aa))]⟩) (λ(b13:(List Int))=>⟨[.k 7,.s (.own 0 0)],[.n 1 ((b13.map aa))]⟩) [ok 0,on 1] (.b (.j 1 (λ(j10:(List Int))=>⟨[.k 1,.p 8],[.o 0,.c 1 ((j10.map aa))]⟩) (.j 1 (λ(j7:Bool)=>⟨[.k 1,.p 8,.k 24,.s (ba j7),.p 5],[.o 0,.o 1]⟩) (.b (.t [ok 0,ok 1]) (.t [ok 0,ok 1])) (.b (.t [ok 0,ov 1 1]) (.t [ok 0,ok 1]))) (.t [ok 0,ok 1])) (.t [ok 1])) .o)⟩
instance {t0 r}:Con (Fh t0=some r) (Den Tryz.prog 91 [ya t0] (.tup [da r.1,aa r.2])):=⟨λh=>by
 refine dk 14 k91 ?_
 simp only[k91,Kf.of,zs,ze]
 unfold Fh at h
 exact pg trivial .o⟩
instance {t0 c10 r}:Con (ib t0 (λx900=>ef x900 c10)=some r) (Den Tryz.prog 163 [Tb t0,.fn 164 [] [Bp c10]] (ba r)):=⟨λh=>Dk (q1:=[Bp c10]) (iB oz) (λx900 _ hb=>Ss hb) h⟩
theorem tD{t0 t1 r} (h:rj t0 t1=some r):Den Tryz.prog 116 [Tb t0,Df t1] (ba r):=by
 refine dk 6 B3 ?_
 simp only[B3,Kf.of,zs,ze]
 unfold rj at h
 exact pg trivial .o
instance {t0 t1 r}:Con (rj t0 t1=some r) (Den Tryz.prog 116 [Tb t0,Df t1] (ba r)):=⟨tD⟩
instance {t0 t1 t2 r}:Con (Mc t0 t1 t2=some r) (Den Tryz.prog 173 [aa t0,aa t1,ta t2] (.tup [qa r.1,aa r.2])):=⟨λh=>by
 refine dk 27 W4 ?_
 simp only[W4,Kf.of,zs,ze]
 unfold Mc at h
 exact pg trivial (.z 4 (.j 1 (λ(j3:Bool)=>⟨[.k 6,.p 1,.k 1,.p 1,.k 18,.s (ba j3),.p 2],[.o 1,.o 2]⟩) (.b (.t [ok 1,ok 2]) (.t [ok 1,ok 2])) .o))⟩
instance {t0 t1 t2 r}:Con (sa t0 t1 t2=some r) (Den Tryz.prog 195 [Ga t0,wb t1,Uc t2] (ba r)):=⟨λh=>by
 refine dk 130 A5 ?_
 simp only[A5,Kf.of,zs,ze]
 unfold sa at h
 exact pg trivial (.b .o (.b .o (.b (.z 1 (.j 1 (λ(j13:Bool)=>⟨[.k 6,.s (ba j13)],[]⟩) (.b (.b (.t []) (.t [])) (.t [])) .o)) (.b (.z 1 (.j 1 (λ(j19:Bool)=>⟨[.k 6,.s (ba j19),.p 1],[]⟩) (.b (.b (.t []) (.t [])) (.t [])) .o)) (.j 1 (λ(j23:Bool)=>⟨[.k 1,.p 1,.k 1,.p 3,.k 75,.s (ba j23),.p 51],[.o 0,.o 1]⟩) (.b (.t [ok 0,ok 1]) (.b (.t [ok 0,ok 1]) (.b (.t [ok 0,ok 1]) (.t [ok 0,ok 1])))) (.b .o (.b .o (.b .o (.b (.j 1 (λ(j40:Bool)=>⟨[.k 6,.s (ba j40),.p 74],[]⟩) (.b (.t []) (.t [])) .o) .o)))))))))⟩
instance {t0 t1 t2 r}:Con (Ia t0 t1 t2=some r) (Den Tryz.prog 196 [Ga t0,wb t1,Uc t2] (.tup [ka r.1,aa r.2])):=⟨λh=>by
 refine dk 162 B5 ?_
 simp only[B5,Kf.of,zs,ze]
 unfold Ia at h
 exact pg trivial (.z 3 (.j 1 (λ(j5:Bool)=>⟨[.k 1,.p 1,.k 1,.p 4,.k 7,.p 1,.s (ba j5),.p 149],[.o 0,.o 1,.o 2]⟩) (.b (.t [ok 0,ok 1,ok 2]) (.b (.t [ok 0,ok 1,ok 2]) (.b (.t [ok 0,ok 1,ok 2]) (.b (.t [ok 0,ok 1,ok 2]) (.t [ok 0,ok 1,ok 2]))))) (.b .o (.b .o (.b .o (.b .o (.b .o (.b .o (.j 1 (λ(j17:Bool)=>⟨[.k 1,.p 14,.k 47,.s (ba j17),.p 102],[.o 0,.o 1,.o 2]⟩) (.b (.t [ok 0,ok 1,ok 2]) (.b (.t [ok 0,ok 1,ok 2]) (.b (.t [ok 0,ok 1,ok 2]) (.t [ok 0,ok 1,ok 2])))) .o)))))))))⟩
instance {t0 t1 t2 t3 r}:Con (Mr t0 t1 t2 t3=some r) (Den Tryz.prog 257 [mb t0,aa t1,aa t2,aa t3] (.tup [aa r.1,aa r.2])):=⟨λh=>by
 refine dk 95 H6 ?_
 simp only[H6,Kf.of,zs,ze]
 unfold Mr at h
 exact pg @Us.eq_1 (.b .o (.z 1 (.j 1 (λ(j4:Bool)=>⟨[.k 1,.p 7,.k 23,.s (ba j4),.p 67],[.o 0]⟩) (.b (.t [ok 0]) (.t [ok 0])) (.b .o (.b .o (.l 3 2 (λ(q:(Int × Int × Int))=>⟨[.k 1,.p 9,.s (aa q.1),.s (aa q.2.1),.s (aa q.2.2),.p 18],[.o 0]⟩) (λ(q:(Int × Int))=>⟨[.k 3,.p 1,.k 6,.s (aa q.1),.s (aa q.2)],[]⟩) [ok 0] (.b (.e 2 (λ(q:(Int × Int))=>⟨[.k 1,.p 9,.s (aa q.1),.s (aa q.2),.p 22],[.o 0]⟩) (.z 2 (.j 1 (λ(j15:Bool)=>⟨[.k 1,.p 33,.k 35,.s (ba j15),.p 29],[.o 0]⟩) (.b (.t [ok 0]) (.t [ok 0])) (.b (.t [ok 0]) (.b .o (.t [ok 0]))))) (.t [ok 0])) (.t [])) .o))))))⟩
end Go.Proofs.Dev
