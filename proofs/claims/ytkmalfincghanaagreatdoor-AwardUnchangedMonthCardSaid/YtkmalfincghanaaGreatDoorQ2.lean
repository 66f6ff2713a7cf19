/-
  Contracts of the functions: each answers as its plain partial function says.
-/
import Derived.Test.YtkmalfincghanaaGreatDoorK
import Derived.Test.YtkmalfincghanaaGreatDoorG
import Derived.Test.YtkmalfincghanaaGreatDoorPD
import Derived.Test.YtkmalfincghanaaGreatDoorH1
import Derived.Test.YtkmalfincghanaaGreatDoorH2
set_option linter.all false
set_option maxHeartbeats 1000000
set_option maxRecDepth 10000
namespace Go.Proofs.Dev
open Go Go.Tm
instance {t0 r}:Con (Baf t0=some r) (Den Tryz.prog 36 [lj t0] (ba r)):=⟨fun h=>by
 refine dk 15 k36 ?_
 simp only[k36,Kf.of,zs,ze]
 unfold Baf at h
 exact pg @Aaf.eq_1 (.l 1 0 (fun(s1:Int)=>⟨[.p 2,.k 1,.s (aa s1),.p 12],[]⟩) (fun(_:Unit)=>⟨[],[]⟩) [] (.b (.b .o (.t [])) (.t [])) .o)⟩


instance {t0 r}:Con (Ob t0=some r) (Den Tryz.prog 88 [aa t0] (ba r)):=⟨fun h=>by
 refine dk 8 k88 ?_
 simp only[k88,Kf.of,zs,ze]
 unfold Ob at h
 exact pg trivial (.z 1 (.j 1 (fun(j2:Bool)=>⟨[.k 2,.s (ba j2),.p 6],[]⟩) (.b (.t []) (.t [])) .o))⟩
instance {t0 r}:Con (Tn t0=some r) (Den Tryz.prog 114 [aa t0] (ba r)):=⟨fun h=>by
 refine dk 15 K5 ?_
 simp only[K5,Kf.of,zs,ze]
 unfold Tn at h
 exact pg trivial (.z 1 (.j 1 (fun(j3:Bool)=>⟨[.k 2,.s (ba j3),.p 13],[]⟩) (.b (.b (.t []) (.t [])) (.t [])) .o))⟩
instance {t0 r}:Con (qk t0=some r) (Den Tryz.prog 115 [aa t0] (aa r)):=⟨fun h=>by
 refine dk 10 VZ ?_
 simp only[VZ,Kf.of,zs,ze]
 unfold qk at h
 exact pg trivial .o⟩
instance {t0 t1 r}:Con (Kb t0 t1=some r) (Den Tryz.prog 127 [Oa t0,Uf t1] (ba r)):=⟨fun h=>by
 refine dk 26 V1 ?_
 simp only[V1,Kf.of,zs,ze]
 unfold Kb at h
 exact pg trivial (.z 3 (.j 1 (fun(j5:Bool)=>⟨[.k 1,.p 3,.k 2,.p 1,.s (ba j5),.p 20],[.o 0]⟩) (.b (.t [ok 0]) (.b (.t [ok 0]) (.b (.t [ok 0]) (.b (.t [ok 0]) (.t [ok 0]))))) (.b .o (.b (.j 1 (fun(j9:Bool)=>⟨[.k 4,.s (ba j9),.p 1],[]⟩) (.b (.t []) (.t [])) .o) .o))))⟩
instance {t0 t1 r}:Con (Po t0 t1=some r) (Den Tryz.prog 161 [Al t0,Al t1] (ba r)):=⟨fun h=>by
 refine dk 18 O0 ?_
 simp only[O0,Kf.of,zs,ze]
 unfold Po at h
 exact pg trivial .o⟩
theorem Cw{t0:(List (List Int))}{t1:Int}{r:List Int}(h:ln t0 t1=some r):Den Tryz.prog 164 [Pb t0,aa t1] (sa r):=by
 refine dk 60 Z2 ?_;simp only[Z2,Kf.of,zs,ze];unfold ln at h;refine ss (rg ?_);(try simp only[zz]);refine ss (rg ?_);obtain⟨x1,a1,h⟩:=bs h;obtain⟨f2,f3,f4,f5,f6⟩:=WD (e:=ba) a1;(try simp only[zz]at f5 f6);(try simp only[zz,f2,f3,f4,f5,f6]);refine ss (rg ?_);(try simp only[zz]);refine ss ?_;obtain⟨y7,h8,h⟩:=bs h;refine lm h8 (fun q=>⟨Pb t0::ds 4 (.own 0 0::.own 1 0::ds 55 []),[.live 1 0 (q.1.map ba),.live 1 0 (q.2.map aa)]⟩) (fun b26=>⟨ds 5 (.own 0 0::ds 56 []),[.live 1 0 (b26.map ba)]⟩) (tz [ok 0,ok 1]) ?_ ?_
 ·rintro⟨s2,s3⟩ z9 h10 h11;simp only[Be]at h10;refine ss (ss (rg ?_));(try simp only[zz]);refine cd rfl ?_;(try simp only[zz]);refine gi h10 (fun c4 h10=>?_) fun c4 h10=>?_
  ·refine sk ?_;(try simp only[zz,c4]);refine bk (ss (rg ?_));obtain⟨x5,f13,f14,f15,h10⟩:=bO h10;(try simp only[zz,f13,f14,f15]);refine ss (rg ?_);obtain⟨x6,a16,h10⟩:=bs h10;obtain⟨f17,f18,f19⟩:=MI (e:=aa) a16;(try simp only[zz]at f19);(try simp only[zz,f17,f18,f19]);refine ss (rg ?_);obtain⟨x7,f21,f22,h10⟩:=bI h10;(try simp only[zz,f21,f22]);obtain⟨y23,h24,h10⟩:=bs h10;refine lm h24 (fun q=>⟨Pb t0::ds 4 (.own 0 0::.own 1 0::ds 22 (sa x7::aa (x7.length:Int)::aa q.2.2::ds 30 [])),[.live 1 0 (q.1.map ba),.live 1 0 (q.2.1.map aa)]⟩) (fun q=>⟨Pb t0::ds 4 (.own 0 0::.own 1 0::ds 55 []),[.live 1 0 (q.1.map ba),.live 1 0 (q.2.map aa)]⟩) (tz [ok 0,ov 1 1]) ?_ ?_
   ·rintro⟨s8,s9,s10⟩ z25 h26 h27;simp only[Sf]at h26;refine ss (rg ?_);(try simp only[zz]);refine ss (cd rfl ?_);(try simp only[zz]);refine gi h26 (fun c11 h26=>?_) fun c11 h26=>?_
    ·refine sk ?_;(try simp only[zz,c11]);refine jm h26 (fun q=>⟨Pb t0::ds 4 (.own 0 0::.own 1 0::ds 22 (sa x7::aa (x7.length:Int)::aa s10::ds 30 [])),[.live 1 0 (q.1.map ba),.live 1 0 (q.2.map aa)]⟩) (fun z29 h28=>?_) fun z29 h28 h26=>?_
     ·refine bk (ss (rg ?_));obtain⟨x12,f31,f32,h28⟩:=bI h28;(try simp only[zz,f31,f32]);refine ss (rg ?_);obtain⟨x13,f34,f35,f36,h28⟩:=bO h28;(try simp only[zz,f34,f35,f36]);refine cd rfl ?_;(try simp only[zz,f34,f35,f36]);refine gi h28 (fun c14 h28=>?_) fun c14 h28=>?_
      ·refine ss (rg ?_);obtain⟨x15,a37,h28⟩:=bs h28;obtain⟨f38,f39⟩:=NO (e:=ba) a37;(try simp only[zz]at f39);(try simp only[zz,f34,f35,f36,f38,f39]);refine rg ?_;obtain⟨x16,a40,h28⟩:=bs h28;obtain⟨f41,f42⟩:=CI (e:=aa) a40;(try simp only[zz]at f41 f42);(try simp only[zz,f41,f42]);cases h28;exact tz [ok 0,ov 1 1]
      refine sk ?_;(try simp only[zz,f34,f35,f36,c14]);cases h28;exact tz [ok 0,ok 1]
     obtain⟨j17,j18⟩:=z29;dsimp only at h26;refine rg ?_;(try simp only[zz]);cases h26;exact tz [ok 0,ok 1]
    refine xt ?_;(try simp only[zz,c11]);cases h26;exact tz [ok 0,ok 1]
   rintro⟨b22,b23⟩ rfl;dsimp only at h10;(try simp only[zz]);cases h10;exact tz [ok 0,ok 1]
  refine xt ?_;(try simp only[zz,c4]);cases h10;exact tz [ok 0]
 rintro b26 rfl;dsimp only at h;(try simp only[zz]);refine ss (rg ?_);(try simp only[zz]);refine ss (ss (rg ?_));(try simp only[zz]);obtain⟨y43,h44,h⟩:=bs h;refine lm h44 (fun q=>⟨ds 10 (.own 0 0::ds 37 (.own 1 0::aa (b26.length:Int)::aa q.2::ds 11 [])),[.live 1 0 (q.1.map aa),.live 1 0 (b26.map ba)]⟩) (fun b36=>⟨ds 10 (.own 0 0::ds 51 []),[.live 1 0 (b36.map aa)]⟩) (tz [on 1,ok 0]) ?_ ?_
 ·rintro⟨s27,s28⟩ z45 h46 h47;simp only[Xf]at h46;refine ss (rg ?_);(try simp only[zz]);refine ss (cd rfl ?_);(try simp only[zz]);refine gi h46 (fun c29 h46=>?_) fun c29 h46=>?_
  ·refine sk ?_;(try simp only[zz,c29]);refine jm h46 (fun j33=>⟨ds 10 (.own 0 0::ds 37 (.own 1 0::aa (b26.length:Int)::aa s28::ds 11 [])),[.live 1 0 (j33.map aa),.live 1 0 (b26.map ba)]⟩) (fun z49 h48=>?_) fun j33 h48 h46=>?_
   ·refine bk (ss (rg ?_));obtain⟨x30,f51,f52,f53,h48⟩:=bO h48;(try simp only[zz,f51,f52,f53]);refine ss (rg ?_);(try simp only[zz]);refine cd rfl ?_;(try simp only[zz]);refine gi h48 (fun c31 h48=>?_) fun c31 h48=>?_
    ·refine rg ?_;obtain⟨x32,a54,h48⟩:=bs h48;obtain⟨f55,f56⟩:=CI (e:=aa) a54;(try simp only[zz]at f55 f56);(try simp only[zz,f55,f56]);cases h48;exact tz [ov 0 1,ok 1]
    refine sk ?_;(try simp only[zz,c31]);cases h48;exact tz [ok 0,ok 1]
   refine rg ?_;(try simp only[zz]);cases h46;exact tz [ok 0,ok 1]
  refine xt ?_;(try simp only[zz,c29]);cases h46;exact tz [ok 0]
 rintro b36 rfl;dsimp only at h;(try simp only[zz]);refine ss (rg ?_);(try simp only[zz]);cases h;exact rt ez
theorem Xx{t0:(List (List Int))}{t1:Int}{r:List Int}(h:kh t0 t1=some r):Den Tryz.prog 164 [Pb t0,aa t1] (sa r):=Cw (AJ h)
instance {t0 t1 r}:Con (kh t0 t1=some r) (Den Tryz.prog 164 [Pb t0,aa t1] (sa r)):=⟨Xx⟩
theorem bp{t0 t1 r} (h:Xd t0 t1=some r):Den Tryz.prog 199 [yb t0,nn t1] (ba r):=by
 refine dk 6 L0 ?_
 simp only[L0,Kf.of,zs,ze]
 unfold Xd at h
 exact pg trivial .o
instance {t0 t1 r}:Con (Xd t0 t1=some r) (Den Tryz.prog 199 [yb t0,nn t1] (ba r)):=⟨bp⟩
theorem Kn{t0 t1 r} (h:Oc t0 t1=some r):Den Tryz.prog 201 [Ea t0,Pm t1] (ba r):=by
 refine dk 7 z7 ?_
 simp only[z7,Kf.of,zs,ze]
 unfold Oc at h
 exact pg trivial .o
instance {t0 t1 r}:Con (Oc t0 t1=some r) (Den Tryz.prog 201 [Ea t0,Pm t1] (ba r)):=⟨Kn⟩
theorem Bj{t0}{t1:GScope→Option Bool}{k1:Nat}{q1:List D}(hc1:fa q1=true)(hp1:∀ x0 r,t1 x0=some r→Den Tryz.prog k1 ([Ea x0]++q1) (ba r)){r} (h:ib t0 t1=some r):Den Tryz.prog 232 [Dl t0,.fn k1 [] q1] (aa r):=by
 haveI I1:∀ x0 r,Con (t1 x0=some r) (Den Tryz.prog k1 ([Ea x0]++q1) (ba r)):=fun x0 r=>⟨hp1 x0 r⟩
 have s1:∀ f:D→D→Prop,Es f q1 q1=True:=fun _=>Df hc1
 have z1:∀ a b n,aq a b n q1=q1:=fun _ _ _=>we _ _ _ _ hc1
 refine Den.at 17 zX.ok zX.nm (Vz (fL hc1 Rx)) rfl ?_
 simp only[zX,Kf.of,zs,ze]
 unfold ib at h
 exact pg @Yb.eq_1 (.l 1 0 (fun(s1:Int)=>⟨[.p 4,.k 3,.p 1,.s (aa s1),.p 10],[]⟩) (fun(_:Unit)=>⟨[],[]⟩) [] (.b (.b .o (.t [])) (.t [])) .o)
theorem Fk{t0}{t1:GRule→Option Bool}{k1:Nat}{q1:List D}(hc1:fa q1=true)(hp1:∀ x0 r,t1 x0=some r→Den Tryz.prog k1 ([Qa x0]++q1) (ba r)){r} (h:Fb t0 t1=some r):Den Tryz.prog 270 [Ud t0,.fn k1 [] q1] (aa r):=by
 haveI I1:∀ x0 r,Con (t1 x0=some r) (Den Tryz.prog k1 ([Qa x0]++q1) (ba r)):=fun x0 r=>⟨hp1 x0 r⟩
 have s1:∀ f:D→D→Prop,Es f q1 q1=True:=fun _=>Df hc1
 have z1:∀ a b n,aq a b n q1=q1:=fun _ _ _=>we _ _ _ _ hc1
 refine Den.at 17 dZ.ok dZ.nm (Vz (fL hc1 Rx)) rfl ?_
 simp only[dZ,Kf.of,zs,ze]
 unfold Fb at h
 exact pg @Ac.eq_1 (.l 1 0 (fun(s1:Int)=>⟨[.p 4,.k 3,.p 1,.s (aa s1),.p 10],[]⟩) (fun(_:Unit)=>⟨[],[]⟩) [] (.b (.b .o (.t [])) (.t [])) .o)
instance {t0 r}:Con (qi t0=some r) (Den Tryz.prog 334 [aa t0] (ba r)):=⟨fun h=>by
 refine dk 8 P6 ?_
 simp only[P6,Kf.of,zs,ze]
 unfold qi at h
 exact pg trivial (.z 1 (.j 1 (fun(j2:Bool)=>⟨[.k 2,.s (ba j2),.p 6],[]⟩) (.b (.t []) (.t [])) .o))⟩
instance {t0 r}:Con (Caf t0=some r) (Den Tryz.prog 18 [Zb t0] (ba r)):=⟨fun h=>by
 refine dk 40 k18 ?_
 simp only[k18,Kf.of,zs,ze]
 unfold Caf at h
 exact pg (And.intro @Lac.eq_1 @Oaa.eq_1) (.l 1 0 (fun(s1:Int)=>⟨[.k 1,.p 1,.k 1,.s (aa s1),.p 37],[.o 0]⟩) (fun(_:Unit)=>⟨[],[]⟩) [ok 0] (.b (.l 1 0 (fun(s3:Int)=>⟨[.k 1,.p 3,.s (aa s3),.p 1],[.o 0]⟩) (fun(_:Unit)=>⟨[.k 1,.p 3],[.o 0]⟩) [ok 0] (.b (.z 2 (.j 1 (fun(j10:Bool)=>⟨[.k 1,.p 4,.k 35,.s (ba j10)],[.o 0]⟩) (.b (.t [ok 0]) (.t [ok 0])) (.b .o (.t [ok 0])))) (.t [ok 0])) (.t [ok 0])) (.t [])) .o)⟩
instance {t0 t1 r}:Con (zc t0 t1=some r) (Den Tryz.prog 64 [aa t0,aa t1] (aa r)):=⟨fun h=>by
 refine dk 19 k64 ?_
 simp only[k64,Kf.of,zs,ze]
 unfold zc at h
 exact pg trivial (.z 2 (.j 1 (fun(j2:Bool)=>⟨[.p 4,.k 6,.s (ba j2),.p 10],[]⟩) (.b (.t []) (.t [])) (.b .o (.z 1 (.j 1 (fun(j6:Bool)=>⟨[.k 1,.p 9,.k 6,.s (ba j6),.p 4],[]⟩) (.b (.t []) (.t [])) .o)))))⟩
instance {t0 r}:Con (Ag t0=some r) (Den Tryz.prog 65 [aa t0] (aa r)):=⟨fun h=>by
 refine dk 11 k65 ?_
 simp only[k65,Kf.of,zs,ze]
 unfold Ag at h
 exact pg trivial .o⟩
instance {t0 t1 r}:Con (wc t0 t1=some r) (Den Tryz.prog 76 [Oa t0,Uf t1] (.tup [aa r.1,aa r.2])):=⟨fun h=>by
 refine dk 28 k76 ?_
 simp only[k76,Kf.of,zs,ze]
 unfold wc at h
 exact pg trivial .o⟩
theorem Cq{t0 r} (h:ag t0=some r):uA Tryz.prog 167 [] [] 1 (t0.map aa) (sa r):=by
 refine uA.at 6 OX.ok OX.nm Rx Rx (Fr.l _) rfl ?_
 simp only[OX,Kf.of,zs,ze]
 unfold ag at h
 exact pg trivial .o
instance {t0 r}:Con (ag t0=some r) (uA Tryz.prog 167 [] [] 1 (t0.map aa) (sa r)):=⟨Cq⟩
theorem Ji{t0}{t1:GScope→Option Bool}{k1:Nat}{q1:List D}(hc1:fa q1=true)(hp1:∀ x0 r,t1 x0=some r→Den Tryz.prog k1 ([Ea x0]++q1) (ba r)){r} (h:Ia t0 t1=some r):Den Tryz.prog 200 [Dl t0,.fn k1 [] q1] (ba r):=by
 haveI I1:∀ x0 r,Con (t1 x0=some r) (Den Tryz.prog k1 ([Ea x0]++q1) (ba r)):=fun x0 r=>⟨hp1 x0 r⟩
 have s1:∀ f:D→D→Prop,Es f q1 q1=True:=fun _=>Df hc1
 have z1:∀ a b n,aq a b n q1=q1:=fun _ _ _=>we _ _ _ _ hc1
 haveI:∀ y0 r,Con (ib y0 t1=some r) (Den Tryz.prog 232 [Dl y0,.fn k1 [] q1] (aa r)):=fun y0 r=>⟨Bj hc1 hp1⟩
 refine Den.at 7 bW.ok bW.nm (Vz (fL hc1 Rx)) rfl ?_
 simp only[bW,Kf.of,zs,ze]
 unfold Ia at h
 exact pg trivial .o
instance {t0 r}:Con (Ah t0=some r) (uA Tryz.prog 207 [] [] 1 (t0.map aa) (sa r)):=⟨fun h=>by
 refine uA.at 6 jY.ok jY.nm Rx Rx (Fr.l _) rfl ?_
 simp only[jY,Kf.of,zs,ze]
 unfold Ah at h
 exact pg trivial .o⟩
theorem qj{t0}{t1:GRule→Option Bool}{k1:Nat}{q1:List D}(hc1:fa q1=true)(hp1:∀ x0 r,t1 x0=some r→Den Tryz.prog k1 ([Qa x0]++q1) (ba r)){r} (h:gb t0 t1=some r):Den Tryz.prog 236 [Ud t0,.fn k1 [] q1] (ba r):=by
 haveI I1:∀ x0 r,Con (t1 x0=some r) (Den Tryz.prog k1 ([Qa x0]++q1) (ba r)):=fun x0 r=>⟨hp1 x0 r⟩
 have s1:∀ f:D→D→Prop,Es f q1 q1=True:=fun _=>Df hc1
 have z1:∀ a b n,aq a b n q1=q1:=fun _ _ _=>we _ _ _ _ hc1
 haveI:∀ y0 r,Con (Fb y0 t1=some r) (Den Tryz.prog 270 [Ud y0,.fn k1 [] q1] (aa r)):=fun y0 r=>⟨Fk hc1 hp1⟩
 refine Den.at 7 AW.ok AW.nm (Vz (fL hc1 Rx)) rfl ?_
 simp only[AW,Kf.of,zs,ze]
 unfold gb at h
 exact pg trivial .o
instance {t0 t1 t2 r}:Con (Wc t0 t1 t2=some r) (Den Tryz.prog 331 [aa t0,Rl t1,Fa t2] (.tup [Oa r.1,aa r.2])):=⟨fun h=>by
 refine dk 27 B0 ?_
 simp only[B0,Kf.of,zs,ze]
 unfold Wc at h
 exact pg trivial (.z 2 (.j 1 (fun(j2:Bool)=>⟨[.p 2,.k 3,.p 2,.k 8,.s (ba j2),.p 14],[.o 0,.o 1]⟩) (.b (.t [ok 0,ok 1]) (.t [ok 0,ok 1])) .o))⟩
instance {t0 t1 t2 r}:Con (Zj t0 t1 t2=some r) (Den Tryz.prog 332 [ob t0,Oa t1,Fa t2] (.tup [Oa r.1,aa r.2])):=⟨fun h=>by
 refine dk 81 O2 ?_
 simp only[O2,Kf.of,zs,ze]
 unfold Zj at h
 exact pg trivial (.z 2 (.e 1 (fun(j6:Int)=>⟨[.k 3,.p 4,.k 1,.s (aa j6),.p 2],[.o 0,.o 1,.o 2,.o 3]⟩) (.b (.z 1 (.j 1 (fun(j4:Bool)=>⟨[.k 3,.p 4,.k 18,.s (ba j4),.p 58],[.o 0,.o 1,.o 2,.o 3]⟩) (.b (.t [ok 0,ok 1,ok 2,ok 3]) (.t [ok 0,ok 1,ok 2,ok 3])) (.b .o (.t [ok 0,ok 1,ok 2,ok 3])))) (.t [ok 0,ok 1,ok 2,ok 3])) (.z 1 (.j 1 (fun(j8:Bool)=>⟨[.k 3,.p 35,.s (ba j8),.p 45],[.o 0,.o 1,.o 2,.o 3]⟩) (.b (.t [ok 0,ok 1,ok 2,ok 3]) (.t [ok 0,ok 1,ok 2,ok 3])) (.b .o (.z 1 (.f ⟨[.k 3,.p 81],[.o 0,.o 1,.o 2,.o 3,.n 2 [],.n 2 []]⟩ [ok 0,ok 1,ok 2,ok 3,on 2,on 2] (.g [[],[],[],[],[],[],[],[],[],[],[],[],[1,3,5,7,9,11],[1,3,5,7,9,11,12],[7,9,11]] [none,none,none,none,none,none,none,none,none,none,none,none,some 4,some 5,none] (.z 1 (.j 1 (fun(j15:Bool)=>⟨[.k 3,.p 1,.k 2,.p 2,.k 1,.p 29,.k 30,.s (ba j15),.p 15],[.o 0,.o 3,.o 4,.o 5]⟩) (.b (.b (.t [ok 0,ok 3,ov 4 1,ov 5 1]) (.t [ok 0,ok 3,ov 4 1,ov 5 1])) (.t [ok 0,ok 3,ov 4 1,ov 5 1])) (.b .o (.b (.z 1 (.j 1 (fun(j19:Bool)=>⟨[.k 6,.p 4,.k 70,.s (ba j19),.p 3],[.o 1,.o 2]⟩) (.b (.t [ok 1,ok 2]) (.t [ok 1,ok 2])) .o)) .o))))))))))))⟩
end Go.Proofs.Dev
