/-
  Contracts of the functions: each answers as its plain partial function says.
-/
import Derived.Test.YtkmalfincghanaaGreatDoorK
import Derived.Test.YtkmalfincghanaaGreatDoorG
import Derived.Test.YtkmalfincghanaaGreatDoorPD
import Derived.Test.YtkmalfincghanaaGreatDoorH1
import Derived.Test.YtkmalfincghanaaGreatDoorH2
set_option linter.all false
set_option maxHeartbeats 1000000
set_option maxRecDepth 10000
namespace Go.Proofs.Dev
open Go Go.Tm
instance {t0 r}:Con (Kh t0=some r) (Den Tryz.prog 14 [Sa t0] (ba r)):=⟨fun h=>by
 refine dk 6 k14 ?_
 simp only[k14,Kf.of,zs,ze]
 unfold Kh at h
 exact pg trivial .o⟩
instance {t0 r}:Con (tf t0=some r) (Den Tryz.prog 33 [Ea t0] (ba r)):=⟨fun h=>by
 refine dk 92 k33 ?_
 simp only[k33,Kf.of,zs,ze]
 unfold tf at h
 exact pg (And.intro @cg.eq_1 (And.intro @mg.eq_1 @sg.eq_1)) (.z 2 (.j 1 (fun(j4:Bool)=>⟨[.k 1,.p 1,.k 26,.s (ba j4),.p 64],[.o 0]⟩) (.b (.b (.b (.t [ok 0]) (.t [ok 0])) (.t [ok 0])) (.t [ok 0])) (.b .o (.l 1 0 (fun(s6:Int)=>⟨[.k 1,.p 2,.s (aa s6),.p 24],[.o 0]⟩) (fun(_:Unit)=>⟨[.k 1,.p 2],[.o 0]⟩) [ok 0] (.b (.b .o (.t [ok 0])) (.t [ok 0])) (.l 1 0 (fun(s11:Int)=>⟨[.k 1,.p 3,.s (aa s11),.p 88],[.o 0]⟩) (fun(_:Unit)=>⟨[.k 1,.p 3],[.o 0]⟩) [ok 0] (.b (.b .o (.t [ok 0])) (.t [ok 0])) (.l 1 0 (fun(s16:Int)=>⟨[.k 1,.p 4,.s (aa s16),.p 87],[.o 0]⟩) (fun(_:Unit)=>⟨[],[]⟩) [ok 0] (.b (.z 2 (.j 1 (fun(j22:Bool)=>⟨[.k 1,.p 5,.k 86,.s (ba j22)],[.o 0]⟩) (.b (.b (.b (.t [ok 0]) (.t [ok 0])) (.t [ok 0])) (.t [ok 0])) (.b .o (.t [ok 0])))) (.t [])) .o))))))⟩
instance {t0 r}:Con (Nl t0=some r) (Den Tryz.prog 37 [aa t0] (ba r)):=⟨fun h=>by
 refine dk 8 k37 ?_
 simp only[k37,Kf.of,zs,ze]
 unfold Nl at h
 exact pg trivial (.z 1 (.j 1 (fun(j2:Bool)=>⟨[.k 2,.s (ba j2),.p 6],[]⟩) (.b (.t []) (.t [])) .o))⟩
instance {t0 t1 r}:Con (xc t0 t1=some r) (Den Tryz.prog 68 [Zb t0,aa t1] (.tup [Va r.1,ba r.2])):=⟨fun h=>by
 refine dk 26 k68 ?_
 simp only[k68,Kf.of,zs,ze]
 unfold xc at h
 exact pg trivial (.z 3 (.j 1 (fun(j3:Bool)=>⟨[.k 2,.p 2,.k 2,.p 1,.k 14,.s (ba j3),.p 6],[.o 0]⟩) (.b (.t [ok 0]) (.t [ok 0])) .o))⟩
instance {t0 r}:Con (uj t0=some r) (Den Tryz.prog 125 [aa t0] (ba r)):=⟨fun h=>by
 refine dk 8 I4 ?_
 simp only[I4,Kf.of,zs,ze]
 unfold uj at h
 exact pg trivial (.z 1 (.j 1 (fun(j2:Bool)=>⟨[.k 2,.s (ba j2),.p 6],[]⟩) (.b (.t []) (.t [])) .o))⟩
theorem mo{t0 t1 r} (h:Ee t0 t1=some r):Den Tryz.prog 237 [Qa t0,xq t1] (ba r):=by
 refine dk 7 r5 ?_
 simp only[r5,Kf.of,zs,ze]
 unfold Ee at h
 exact pg trivial .o
instance {t0 t1 r}:Con (Ee t0 t1=some r) (Den Tryz.prog 237 [Qa t0,xq t1] (ba r)):=⟨mo⟩
instance {t0 t1 r}:Con (nk t0 t1=some r) (Den Tryz.prog 240 [sa t0,aa t1] (aa r)):=⟨fun h=>by
 refine dk 17 C7 ?_
 simp only[C7,Kf.of,zs,ze]
 unfold nk at h
 exact pg @lf.eq_1 (.l 1 0 (fun(s1:Int)=>⟨[.p 4,.k 3,.p 1,.s (aa s1),.p 10],[]⟩) (fun(_:Unit)=>⟨[],[]⟩) [] (.b (.b .o (.t [])) (.t [])) .o)⟩
theorem yr{t0}{t1:GRule→Option Bool}{k1:Nat}{q1:List D}(hc1:fa q1=true)(hp1:∀ x0 r,t1 x0=some r→Den Tryz.prog k1 ([Qa x0]++q1) (ba r)){r} (h:Sd t0 t1=some r):Den Tryz.prog 243 [Ud t0,.fn k1 [] q1] (.tup [sa r.1,sa r.2]):=by
 haveI I1:∀ x0 r,Con (t1 x0=some r) (Den Tryz.prog k1 ([Qa x0]++q1) (ba r)):=fun x0 r=>⟨hp1 x0 r⟩
 have s1:∀ f:D→D→Prop,Es f q1 q1=True:=fun _=>Df hc1
 have z1:∀ a b n,aq a b n q1=q1:=fun _ _ _=>we _ _ _ _ hc1
 refine Den.at 57 QW.ok QW.nm (Vz (fL hc1 Rx)) rfl ?_
 simp only[QW,Kf.of,zs,ze]
 unfold Sd at h
 exact pg @Nd.eq_1 (.l 4 2 (fun(q:((List Int) × (List Int) × (List Int) × Int))=>⟨[.k 1,.p 3,.k 2,.s (.own 0 0),.s (.own 1 0),.p 4,.k 3,.p 2,.s (aa q.2.2.2),.p 41],[.n 1 ((q.1.map aa)),.n 1 ((q.2.1.map aa)),.c 0 ((q.2.2.1.map aa))]⟩) (fun(q:((List Int) × (List Int)))=>⟨[.k 6,.s (.own 0 0),.s (.own 1 0)],[.n 1 ((q.1.map aa)),.n 1 ((q.2.map aa))]⟩) [on 1,on 1,ok 0] (.b (.j 3 (fun(q:((List Int) × (List Int) × (List Int)))=>⟨[.k 1,.p 17],[.c 0 ((q.1.map aa)),.c 1 ((q.2.1.map aa)),.c 2 ((q.2.2.map aa))]⟩) (.z 2 (.j 1 (fun(j12:Int)=>⟨[.k 1,.p 10,.s (aa j12),.p 6],[.o 0,.o 1,.o 2,.o 3]⟩) (.j 1 (fun(j9:Bool)=>⟨[.k 1,.p 17,.k 12,.s (ba j9),.p 28],[.o 0,.o 1,.o 2,.o 3]⟩) (.b (.t [ok 0,ok 1,ok 2,ok 3]) (.t [ok 0,ok 1,ok 2,ok 3])) (.b (.t [ok 0,ok 1,ok 2,ok 3]) (.t [ok 0,ok 1,ok 2,ok 3]))) (.b (.t [ov 0 1,ov 1 1,ok 2]) (.t [ok 0,ok 1,ok 2])))) (.t [ok 0,ok 1,ok 2])) (.t [ok 0,ok 1])) .o)
instance {t0 t1 r}:Con (qh t0 t1=some r) (Den Tryz.prog 245 [sa t0,sa t1] (aa r)):=⟨fun h=>by
 refine dk 40 V6 ?_
 simp only[V6,Kf.of,zs,ze]
 unfold qh at h
 exact pg @Pe.eq_1 (.b .o (.b .o (.l 1 0 (fun(s3:Int)=>⟨[.k 1,.p 3,.k 11,.p 2,.s (aa s3),.p 24],[]⟩) (fun(_:Unit)=>⟨[],[]⟩) [] (.b (.z 3 (.j 1 (fun(j7:Bool)=>⟨[.k 1,.p 5,.k 9,.p 3,.k 10,.s (ba j7),.p 13],[]⟩) (.b (.t []) (.t [])) (.b .o (.j 1 (fun(j11:Bool)=>⟨[.k 1,.p 4,.k 10,.p 13,.k 12,.s (ba j11),.p 1],[]⟩) (.b (.t []) (.t [])) (.b .o (.t [])))))) (.t [])) .o)))⟩
theorem Dj{t0}{t1:GField→Option Bool}{k1:Nat}{q1:List D}(hc1:fa q1=true)(hp1:∀ x0 r,t1 x0=some r→Den Tryz.prog k1 ([Ua x0]++q1) (ba r)){r} (h:jb t0 t1=some r):Den Tryz.prog 269 [Va t0,.fn k1 [] q1] (aa r):=by
 haveI I1:∀ x0 r,Con (t1 x0=some r) (Den Tryz.prog k1 ([Ua x0]++q1) (ba r)):=fun x0 r=>⟨hp1 x0 r⟩
 have s1:∀ f:D→D→Prop,Es f q1 q1=True:=fun _=>Df hc1
 have z1:∀ a b n,aq a b n q1=q1:=fun _ _ _=>we _ _ _ _ hc1
 refine Den.at 17 cX.ok cX.nm (Vz (fL hc1 Rx)) rfl ?_
 simp only[cX,Kf.of,zs,ze]
 unfold jb at h
 exact pg @bc.eq_1 (.l 1 0 (fun(s1:Int)=>⟨[.p 4,.k 3,.p 1,.s (aa s1),.p 10],[]⟩) (fun(_:Unit)=>⟨[],[]⟩) [] (.b (.b .o (.t [])) (.t [])) .o)
instance {t0 r}:Con (qf t0=some r) (Den Tryz.prog 340 [ba t0] (pa r)):=⟨fun h=>by
 refine dk 5 r7 ?_
 simp only[r7,Kf.of,zs,ze]
 unfold qf at h
 exact pg trivial .o⟩
instance {t0 r}:Con (He t0=some r) (Den Tryz.prog 366 [aa t0] (ba r)):=⟨fun h=>by
 refine dk 12 L2 ?_
 simp only[L2,Kf.of,zs,ze]
 unfold He at h
 exact pg trivial (.z 1 (.j 1 (fun(j3:Bool)=>⟨[.k 2,.s (ba j3),.p 10],[]⟩) (.b (.b (.t []) (.t [])) (.t [])) .o))⟩
theorem Yt{t0:Int}{t1:Int}{t2:Int}{r:(GType×Bool)}(h:Zh t0 t1 t2=some r):Den Tryz.prog 367 [aa t0,aa t1,aa t2] (.tup [Oa r.1,ba r.2]):=by
 refine dk 44 I7 ?_;simp only[I7,Kf.of,zs,ze];unfold Zh at h;refine ss (rg ?_);(try simp only[zz]);refine ss (bk (ss (rg ?_)));(try simp only[zz]);refine cd rfl ?_;(try simp only[zz]);refine gi h (fun c1 h=>?_) fun c1 h=>?_
 ·have e1:=eT c1;refine jm h (fun j4=>⟨ds 6 (.ref 0 0 0 0::ba j4::ds 39 []),[.live 2 0 [.agg [aa t1,aa 0]]]⟩) (fun z4 h3=>?_) fun j4 h3 h=>?_
  ·refine rg ?_;(try simp only[zz]);refine gi h3 (fun c2 h3=>?_) fun c2 h3=>?_
   ·have e5:=eT c2;(try simp only[zz,eq_true c2,e5]);refine gi h3 (fun c3 h3=>?_) fun c3 h3=>?_
    ·have e7:=eF c3;(try simp only[zz,eq_true c2,e5,c3,e7]);cases h3;exact tz [ok 0]
    have e8:=eD c3;(try simp only[zz,eq_true c2,e5,c3,e8]);cases h3;exact tz [ok 0]
   have e6:=eF c2;(try simp only[zz,c2,e6]);cases h3;exact tz [ok 0]
  cases h;exact rt ez
 have e2:=eF c1;refine ss (rg ?_);(try simp only[zz]);refine cd rfl ?_;(try simp only[zz]);refine gi h (fun c5 h=>?_) fun c5 h=>?_
 ·have e9:=eT c5;refine jm h (fun j7=>⟨ds 6 (.ref 0 0 0 0::ba j7::ds 39 []),[.live 2 0 [.agg [aa t1,aa 0]]]⟩) (fun z12 h11=>?_) fun j7 h11 h=>?_
  ·refine rg ?_;(try simp only[zz]);refine gi h11 (fun c6 h11=>?_) fun c6 h11=>?_
   ·have e13:=eF c6;(try simp only[zz,c6,e13]);cases h11;exact tz [ok 0]
   have e14:=eD c6;(try simp only[zz,c6,e14]);cases h11;exact tz [ok 0]
  cases h;exact rt ez
 have e10:=eF c5;refine jm h (fun j10=>⟨ds 6 (.ref 0 0 0 0::ds 27 (ba j10::ds 12 [])),[.live 2 0 [.agg [aa 0,aa 0]]]⟩) (fun z16 h15=>?_) fun j10 h15 h=>?_
 ·refine rg ?_;(try simp only[zz]);refine gi h15 (fun c8 h15=>?_) fun c8 h15=>?_
  ·have e17:=eT c8;(try simp only[zz,eq_true c8,e17]);refine gi h15 (fun c9 h15=>?_) fun c9 h15=>?_
   ·have e19:=eT c9;(try simp only[zz,eq_true c8,e17,eq_true c9,e19]);cases h15;exact tz [ok 0]
   have e20:=eF c9;(try simp only[zz,eq_true c8,e17,c9,e20]);cases h15;exact tz [ok 0]
  have e18:=eF c8;(try simp only[zz,c8,e18]);cases h15;exact tz [ok 0]
 refine cd rfl ?_;(try simp only[zz]);refine gi h (fun c11 h=>?_) fun c11 h=>?_
 ·refine ss (rg ?_);(try simp only[zz]);cases h;exact rt ez
 refine sk ?_;(try simp only[zz,c11]);refine ss (rg ?_);(try simp only[zz]);cases h;exact rt ez
instance {t0 t1 t2 r}:Con (Zh t0 t1 t2=some r) (Den Tryz.prog 367 [aa t0,aa t1,aa t2] (.tup [Oa r.1,ba r.2])):=⟨Yt⟩
instance {t0 r}:Con (Wk t0=some r) (Den Tryz.prog 13 [Zb t0] (ba r)):=⟨fun h=>by
 refine dk 126 k13 ?_
 simp only[k13,Kf.of,zs,ze]
 unfold Wk at h
 exact pg (And.intro @Ug.eq_1 (And.intro @Sg.eq_1 (And.intro @bh.eq_1 @Vf.eq_1))) (.z 2 (.j 1 (fun(j3:Bool)=>⟨[.k 1,.p 1,.k 22,.s (ba j3),.p 102],[.o 0]⟩) (.b (.b (.t [ok 0]) (.t [ok 0])) (.t [ok 0])) (.b .o (.l 1 0 (fun(s5:Int)=>⟨[.k 1,.p 4,.s (aa s5),.p 18],[.o 0]⟩) (fun(_:Unit)=>⟨[.k 1,.p 4],[.o 0]⟩) [ok 0] (.b (.z 2 (.j 1 (fun(j9:Bool)=>⟨[.k 1,.p 24,.k 24,.s (ba j9),.p 77],[.o 0]⟩) (.b (.t [ok 0]) (.t [ok 0])) (.b .o (.l 1 0 (fun(s11:Int)=>⟨[.k 1,.p 5,.s (aa s11),.p 42],[.o 0]⟩) (fun(_:Unit)=>⟨[.k 1,.p 5],[.o 0]⟩) [ok 0] (.b (.b .o (.t [ok 0])) (.t [ok 0])) (.t [ok 0]))))) (.t [ok 0])) (.l 2 0 (fun(q:(Int × Int))=>⟨[.k 1,.p 2,.s (aa q.1),.p 3,.s (aa q.2),.p 119],[.o 0]⟩) (fun(_:Unit)=>⟨[.k 1,.p 2,.k 1,.p 3],[.o 0]⟩) [ok 0] (.b (.z 2 (.j 1 (fun(j23:Bool)=>⟨[.k 1,.p 71,.k 27,.s (ba j23),.p 27],[.o 0]⟩) (.b (.t [ok 0]) (.t [ok 0])) (.b .o (.t [ok 0])))) (.t [ok 0])) (.l 2 0 (fun(q:(Int × Int))=>⟨[.k 1,.p 3,.s (aa q.1),.p 3,.s (aa q.2),.p 118],[.o 0]⟩) (fun(_:Unit)=>⟨[],[]⟩) [ok 0] (.b (.z 2 (.j 1 (fun(j33:Bool)=>⟨[.k 1,.p 99,.k 26,.s (ba j33)],[.o 0]⟩) (.b (.t [ok 0]) (.t [ok 0])) (.b .o (.t [ok 0])))) (.t [])) .o))))))⟩
instance {t0 r}:Con (Of t0=some r) (Den Tryz.prog 74 [Dn t0] (ba r)):=⟨fun h=>by
 refine dk 44 k74 ?_
 simp only[k74,Kf.of,zs,ze]
 unfold Of at h
 exact pg @Dc.eq_1 (.z 2 (.j 1 (fun(j3:Bool)=>⟨[.k 1,.p 1,.k 16,.s (ba j3),.p 26],[.o 0]⟩) (.b (.b (.t [ok 0]) (.t [ok 0])) (.t [ok 0])) (.b .o (.l 1 0 (fun(s5:Int)=>⟨[.k 1,.p 17,.k 2,.p 2,.s (aa s5),.p 22],[.o 0]⟩) (fun(_:Unit)=>⟨[],[]⟩) [ok 0] (.b (.z 2 (.j 1 (fun(j12:Bool)=>⟨[.k 1,.p 2,.k 17,.p 3,.k 20,.s (ba j12),.p 1],[.o 0]⟩) (.b (.b (.t [ok 0]) (.t [ok 0])) (.t [ok 0])) (.b .o (.t [ok 0])))) (.t [])) .o))))⟩
instance {t0 t1 r}:Con (vd t0 t1=some r) (Den Tryz.prog 205 [sa t0,aa t1] (ba r)):=⟨fun h=>by
 refine dk 7 k205 ?_
 simp only[k205,Kf.of,zs,ze]
 unfold vd at h
 exact pg trivial .o⟩
theorem Ei{t0}{t1:GField→Option Bool}{k1:Nat}{q1:List D}(hc1:fa q1=true)(hp1:∀ x0 r,t1 x0=some r→Den Tryz.prog k1 ([Ua x0]++q1) (ba r)){r} (h:Ba t0 t1=some r):Den Tryz.prog 234 [Va t0,.fn k1 [] q1] (ba r):=by
 haveI I1:∀ x0 r,Con (t1 x0=some r) (Den Tryz.prog k1 ([Ua x0]++q1) (ba r)):=fun x0 r=>⟨hp1 x0 r⟩
 have s1:∀ f:D→D→Prop,Es f q1 q1=True:=fun _=>Df hc1
 have z1:∀ a b n,aq a b n q1=q1:=fun _ _ _=>we _ _ _ _ hc1
 haveI:∀ y0 r,Con (jb y0 t1=some r) (Den Tryz.prog 269 [Va y0,.fn k1 [] q1] (aa r)):=fun y0 r=>⟨Dj hc1 hp1⟩
 refine Den.at 7 tV.ok tV.nm (Vz (fL hc1 Rx)) rfl ?_
 simp only[tV,Kf.of,zs,ze]
 unfold Ba at h
 exact pg trivial .o
instance {t0 t1 r}:Con (Ya t0 t1=some r) (Den Tryz.prog 335 [aa t0,Rl t1] (.tup [Oa r.1,ba r.2])):=⟨fun h=>by
 refine dk 220 P4 ?_
 simp only[P4,Kf.of,zs,ze]
 unfold Ya at h
 exact pg trivial (.b .o (.b (.a [[],[],[],[],[],[],[2,4]] .o) (.j 1 (fun(j7:Bool)=>⟨[.p 5,.k 1,.p 1,.k 1,.p 1,.k 18,.s (ba j7),.p 194],[.o 0,.o 1]⟩) (.b (.t [ok 0,ok 1]) (.t [ok 0,ok 1])) (.b (.j 3 (fun(q:(Int × Int × Bool))=>⟨[.k 4,.p 1,.s (ba q.2.2)],[.h 0 [.g [.s (aa q.1),.s (aa q.2.1)]]]⟩) (.a [[],[],[],[],[],[],[],[],[],[],[],[],[],[],[],[],[],[]] (.b (.t [ok 0]) (.t [ok 0]))) .o) (.j 1 (fun(j18:Bool)=>⟨[.p 27,.k 20,.s (ba j18),.p 174],[.o 0,.o 1]⟩) (.b (.t [ok 0,ok 1]) (.b (.t [ok 0,ok 1]) (.t [ok 0,ok 1]))) (.b .o (.b (.j 3 (fun(q:(Int × Int × Bool))=>⟨[.k 4,.p 1,.s (ba q.2.2)],[.h 0 [.g [.s (aa q.1),.s (aa q.2.1)]]]⟩) (.a [[],[],[],[],[],[],[],[],[],[],[],[],[],[],[],[10,12]] (.b (.t [ok 0]) (.t [ok 0]))) .o) (.j 1 (fun(j31:Bool)=>⟨[.k 1,.p 46,.k 33,.s (ba j31),.p 141],[.o 0,.o 1]⟩) (.b (.t [ok 0,ok 1]) (.t [ok 0,ok 1])) (.b (.j 3 (fun(q:(Int × Int × Bool))=>⟨[.k 4,.p 1,.s (ba q.2.2)],[.h 0 [.g [.s (aa q.1),.s (aa q.2.1)]]]⟩) (.a [[],[],[],[],[],[],[],[],[],[],[],[],[],[],[],[],[],[],[],[],[],[],[],[],[18,20]] (.b (.b (.t [ok 0]) (.t [ok 0])) (.t [ok 0]))) .o) (.j 1 (fun(j42:Bool)=>⟨[.k 1,.p 79,.k 27,.s (ba j42),.p 114],[.o 0,.o 1]⟩) (.b (.t [ok 0,ok 1]) (.t [ok 0,ok 1])) (.b (.a [[],[],[],[],[],[],[],[],[2,3,5,6]] .o) (.j 1 (fun(j47:Bool)=>⟨[.k 1,.p 106,.k 11,.s (ba j47),.p 103],[.o 0,.o 1]⟩) (.b (.t [ok 0,ok 1]) (.t [ok 0,ok 1])) (.b (.j 1 (fun(j54:Bool)=>⟨[.k 4,.p 1,.s (ba j54)],[.h 0 [.g [.s (aa 1),.p 1]]]⟩) (.a [[],[],[],[],[],[],[],[],[],[],[],[],[],[],[],[],[],[],[],[],[],[],[16,18]] (.b (.b (.t [ok 0]) (.t [ok 0])) (.t [ok 0]))) .o) (.j 1 (fun(j56:Bool)=>⟨[.k 1,.p 117,.k 25,.s (ba j56),.p 78],[.o 0,.o 1]⟩) (.b (.t [ok 0,ok 1]) (.t [ok 0,ok 1])) (.b (.j 1 (fun(j61:Bool)=>⟨[.k 4,.p 1,.s (ba j61)],[.h 0 [.g [.s (aa 1),.p 1]]]⟩) (.a [[],[],[],[],[],[],[],[],[],[],[],[],[],[8,10]] (.b (.t [ok 0]) (.t [ok 0]))) .o) (.b (.j 3 (fun(q:(Int × Int × Bool))=>⟨[.k 4,.p 1,.s (ba q.2.2)],[.h 0 [.g [.s (aa q.1),.s (aa q.2.1)]]]⟩) (.a [[],[],[],[],[],[],[],[],[],[],[],[],[],[],[],[],[],[10,11,13,14]] (.b (.t [ok 0]) (.t [ok 0]))) .o) (.j 1 (fun(j71:Bool)=>⟨[.k 1,.p 5,.k 2,.p 135,.k 35,.s (ba j71),.p 43],[.o 0]⟩) (.b (.t [ok 0]) (.t [ok 0])) (.b (.j 3 (fun(q:(Int × Int × Bool))=>⟨[.k 4,.p 1,.s (ba q.2.2),.p 2],[.h 0 [.g [.s (aa q.1),.s (aa q.2.1)]]]⟩) (.a [[],[],[],[],[],[],[],[],[],[],[],[],[],[],[],[10,12]] (.b (.t [ok 0]) (.t [ok 0]))) .o) (.j 1 (fun(j80:Bool)=>⟨[.k 1,.p 177,.k 18,.s (ba j80),.p 25],[.o 0]⟩) (.b (.t [ok 0]) (.t [ok 0])) (.b (.j 1 (fun(j85:Bool)=>⟨[.k 4,.p 1,.s (ba j85),.p 2],[.h 0 [.g [.s (aa 2),.p 1]]]⟩) (.a [[],[],[],[],[],[],[],[],[],[],[],[],[],[8,10]] (.b (.t [ok 0]) (.t [ok 0]))) .o) (.j 1 (fun(j87:Bool)=>⟨[.k 1,.p 7,.k 204,.s (ba j87),.p 9],[.o 0]⟩) (.b (.t [ok 0]) (.t [ok 0])) (.b (.a [[],[],[],[],[],[],[2,4]] .o) .o))))))))))))))))))))))⟩
end Go.Proofs.Dev
