/-
  Contracts of the functions: each answers as its plain partial function says.
-/
import Derived.Test.YtkmalfincghanaaGreatDoorK
import Derived.Test.YtkmalfincghanaaGreatDoorG
import Derived.Test.YtkmalfincghanaaGreatDoorPD
import Derived.Test.YtkmalfincghanaaGreatDoorH1
import Derived.Test.YtkmalfincghanaaGreatDoorH2
import Derived.Test.YtkmalfincghanaaGreatDoorQ4
import Derived.Test.YtkmalfincghanaaGreatDoorQ5
import Derived.Test.YtkmalfincghanaaGreatDoorQ6
import Derived.Test.YtkmalfincghanaaGreatDoorQ7
set_option linter.all false
set_option maxHeartbeats 1000000
set_option maxRecDepth 10000
namespace Go.Proofs.Dev
open Go Go.Tm
instance {t0 t1 r}:Con (pc t0 t1=some r) (Den Tryz.prog 121 [Ea t0,aa t1] (sa r)):=⟨fun h=>by
 refine dk 16 u5 ?_
 simp only[u5,Kf.of,zs,ze]
 unfold pc at h
 exact pg trivial (.z 2 (.j 1 (fun(j2:Bool)=>⟨[.k 1,.p 3,.k 9,.s (ba j2),.p 4],[.o 0]⟩) (.b (.t [ok 0]) (.t [ok 0])) .o))⟩
instance {t0 c10 r}:Con (qb t0 (fun x900=>Pc x900 c10)=some r) (Den Tryz.prog 190 [sq t0,.fn 191 [] [Aq c10]] (.tup [aa r.1,ba r.2])):=⟨fun h=>vm (q1:=[Aq c10]) (Vz Rx) (fun x900 _ hb=>Nn hb) h⟩
theorem Rv{t0 t1 r} (h:si t0 t1=some r):Den Tryz.prog 155 [yb t0,Uf t1] (.tup [aa r.1,aa r.2]):=by
 refine dk 119 RZ ?_
 simp only[RZ,Kf.of,zs,ze]
 unfold si at h
 exact pg @Og.eq_1 (.b .o (.z 1 (.j 1 (fun(j5:Bool)=>⟨[.k 1,.p 3,.k 25,.s (ba j5),.p 91],[.o 0]⟩) (.b (.t [ok 0]) (.t [ok 0])) (.b .o (.l 1 0 (fun(s9:Int)=>⟨[.k 2,.p 27,.k 16,.p 2,.s (aa s9),.p 73],[.o 0]⟩) (fun(_:Unit)=>⟨[],[]⟩) [ok 0] (.b (.z 3 (.j 1 (fun(j15:Bool)=>⟨[.k 2,.p 46,.k 23,.s (ba j15),.p 49],[.o 0,.o 1]⟩) (.b (.b (.t [ok 0,ok 1]) (.t [ok 0,ok 1])) (.t [ok 0,ok 1])) (.b .o (.z 1 (.j 1 (fun(j20:Bool)=>⟨[.k 2,.p 69,.k 25,.s (ba j20),.p 24],[.o 0,.o 1]⟩) (.b (.b (.b (.t [ok 0,ok 1]) (.t [ok 0,ok 1])) (.t [ok 0,ok 1])) (.t [ok 0,ok 1])) (.b .o (.z 1 (.j 1 (fun(j23:Bool)=>⟨[.k 2,.p 94,.k 11,.s (ba j23),.p 13],[.o 0,.o 1]⟩) (.b (.t [ok 0,ok 1]) (.t [ok 0,ok 1])) (.b .o (.b .o (.t [ok 0]))))))))))) (.t [])) .o)))))
instance {t0 t1 r}:Con (si t0 t1=some r) (Den Tryz.prog 155 [yb t0,Uf t1] (.tup [aa r.1,aa r.2])):=⟨Rv⟩
theorem Lm{t0 t1 t2 r} (h:zh t0 t1 t2=some r):Den Tryz.prog 239 [lj t0,Fa t1,Oa t2] (aa r):=by
 refine dk 20 N4 ?_
 simp only[N4,Kf.of,zs,ze]
 unfold zh at h
 exact pg trivial .o
instance {t0 t1 t2 r}:Con (zh t0 t1 t2=some r) (Den Tryz.prog 239 [lj t0,Fa t1,Oa t2] (aa r)):=⟨Lm⟩
instance {t0 r}:Con (zl t0=some r) (Den Tryz.prog 117 [Zb t0] (vi r)):=⟨fun h=>by
 refine dk 67 S6 ?_
 simp only[S6,Kf.of,zs,ze]
 unfold zl at h
 exact pg @wg.eq_1 (.b .o (.l 1 0 (fun(s2:Int)=>⟨[.k 1,.p 7,.k 6,.p 2,.s (aa s2),.p 51],[.o 0,.o 1]⟩) (fun(_:Unit)=>⟨[.k 2,.p 6],[.o 1]⟩) [ok 0,ok 1] (.b (.z 4 (.j 2 (fun(q:(Int × Int))=>⟨[.k 1,.p 2,.k 2,.p 1,.k 8,.p 3],[.o 0,.o 1,.h 3 [.g [.s (aa q.1),.p 2,.s (aa q.2)]]]⟩) (.b (.t [ok 0,ok 1,ok 3]) (.j 1 (fun(j12:Bool)=>⟨[.k 1,.p 2,.k 2,.p 12,.k 19,.s (ba j12),.p 31],[.o 0,.o 1,.o 3]⟩) (.b (.t [ok 0,ok 1,ok 3]) (.t [ok 0,ok 1,ok 3])) (.b (.t [ok 0,ok 1,ok 2]) (.b (.b (.t [ok 0,ok 1,ok 2]) (.t [ok 0,ok 1,ok 2])) (.t [ok 0,ok 1,ok 2]))))) (.b .o (.t [ok 0,ok 1])))) (.t [ok 1])) .o))⟩
theorem pw{t0:GScope}{t1:Int}{t2:GSignature}{r:Int}(h:mj t0 t1 t2=some r):Den Tryz.prog 204 [Ea t0,aa t1,Fa t2] (aa r):=by
 refine dk 142 v7 ?_;simp only[v7,Kf.of,zs,ze];unfold mj at h;refine ss (rg ?_);(try simp only[zz]);refine ss (rg ?_);obtain⟨x1,f2,f3,h⟩:=bI h;(try simp only[zz,f2,f3]);refine ss (rg ?_);(try simp only[zz]);refine ss (ss (rg ?_));obtain⟨x2,a4,h⟩:=bs h;obtain⟨f5,f6,f7⟩:=VC (e:=Qa) a4;(try simp only[zz]at f7);(try simp only[zz,f5,f6,f7]);obtain⟨y8,h9,h⟩:=bs h;refine lm h9 (fun q=>⟨.dead::aa t1::.dead::.ref 0 0 0 0::.dead::.ref 1 0 0 0::.dead::.ref 2 0 0 0::aa q.1::ds 11 (Ud x2::aa (x2.length:Int)::aa q.2::ds 122 []),[.live 5 0 [Ea t0],.live 6 0 [Fa t2],.live 9 0 [Qa x1]]⟩) (fun b11=>⟨.dead::aa t1::.dead::.ref 0 0 0 0::.dead::.ref 1 0 0 0::.dead::.ref 2 0 0 0::aa b11::ds 136 [],[.live 5 0 [Ea t0],.live 6 0 [Fa t2],.live 9 0 [Qa x1]]⟩) (tz [ok 0,ok 1,ok 2]) ?_ ?_
 ·rintro⟨s3,s4⟩ z10 h11 h12;simp only[ji]at h11;refine ss (rg ?_);(try simp only[zz]);refine ss (cd rfl ?_);(try simp only[zz]);refine gi h11 (fun c5 h11=>?_) fun c5 h11=>?_
  ·refine sk ?_;(try simp only[zz,c5]);refine jm h11 (fun j8=>⟨.dead::aa t1::.dead::.ref 0 0 0 0::.dead::.ref 1 0 0 0::.dead::.ref 2 0 0 0::aa j8::ds 11 (Ud x2::aa (x2.length:Int)::aa s4::ds 122 []),[.live 5 0 [Ea t0],.live 6 0 [Fa t2],.live 9 0 [Qa x1]]⟩) (fun z14 h13=>?_) fun j8 h13 h11=>?_
   ·refine bk (ss (rg ?_));obtain⟨x6,f16,f17,h13⟩:=bI h13;(try simp only[zz,f16,f17]);refine ss (rg ?_);(try simp only[zz]);refine cd rfl ?_;(try simp only[zz]);refine gi h13 (fun c7 h13=>?_) fun c7 h13=>?_
    ·have e18:=eT c7;refine rg ?_;(try simp only[zz]);cases h13;exact tz [ok 0,ok 1,ok 2]
    have e19:=eF c7;refine sk ?_;(try simp only[zz,c7,e19]);cases h13;exact tz [ok 0,ok 1,ok 2]
   refine rg ?_;(try simp only[zz]);cases h11;exact tz [ok 0,ok 1,ok 2]
  refine xt ?_;(try simp only[zz,c5]);cases h11;exact tz [ok 0,ok 1,ok 2]
 rintro b11 rfl;dsimp only at h;(try simp only[zz]);refine ss (bk (ss (rg ?_)));obtain⟨x12,a20,h⟩:=bs h;simp only[zz];refine cq (Hm a20) ?_ (by simp only[zg]);(try simp only[zz]);refine cd rfl ?_;(try simp only[zz]);refine gi h (fun c13 h=>?_) fun c13 h=>?_
 ·refine ss (rg ?_);(try simp only[zz]);cases h;exact rt ez
 refine ss (rg ?_);obtain⟨x14,a21,h⟩:=bs h;obtain⟨f22,f23,f24⟩:=VC (e:=Qa) a21;(try simp only[zz]at f24);obtain⟨x15,a25,h⟩:=bs h;simp only[zz,f22,f23,f24];refine cv (qj (q1:=[xq x1]) (Vz Rx) (fun x900 _ hb=>mo hb) a25) ?_ rfl (by simp only[zg,c13,f22,f23,f24]);(try simp only[zz,f22,f23,f24]);refine cd rfl ?_;(try simp only[zz,f22,f23,f24]);refine gi h (fun c16 h=>?_) fun c16 h=>?_
 ·refine ss (rg ?_);(try simp only[zz]);cases h;exact rt ez
 refine jm h (fun j18=>⟨.dead::aa t1::.dead::.ref 0 0 0 0::.dead::.ref 1 0 0 0::.dead::.ref 2 0 0 0::aa b11::ds 37 (ba j18::ds 98 []),[.live 5 0 [Ea t0],.live 6 0 [Fa t2],.live 9 0 [Qa x1]]⟩) (fun z27 h26=>?_) fun j18 h26 h=>?_
 ·refine rg ?_;(try simp only[zz]);refine gi h26 (fun c17 h26=>?_) fun c17 h26=>?_
  ·(try simp only[zz,c17]);cases h26;exact tz [ok 0,ok 1,ok 2]
  (try simp only[zz,c17]);cases h26;exact tz [ok 0,ok 1,ok 2]
 refine cd rfl ?_;(try simp only[zz]);refine gi h (fun c19 h=>?_) fun c19 h=>?_
 ·refine ss (rg ?_);(try simp only[zz]);cases h;exact rt ez
 refine jm h (fun j24=>⟨ds 3 (.ref 0 0 0 0::.dead::.ref 1 0 0 0::.dead::.ref 2 0 0 0::aa b11::ds 49 (ba j24::ds 86 [])),[.live 5 0 [Ea t0],.live 6 0 [Fa t2],.live 9 0 [Qa x1]]⟩) (fun z29 h28=>?_) fun j24 h28 h=>?_
 ·refine dy tr ?_;(try simp only[zz,zy]);refine gi h28 (fun c20 h28=>?_) fun c20 h28=>?_
  ·have e30:=nT c20;(try simp only[zz,c20,e30,zy]);refine gi h28 (fun c21 h28=>?_) fun c21 h28=>?_
   ·(try simp only[zz,c20,e30,c21,zy]);refine gi h28 (fun c22 h28=>?_) fun c22 h28=>?_
    ·obtain⟨x23,f33,f34,h28⟩:=bI h28;(try simp only[zz,c20,e30,c21,c22,f33,f34,zy]);cases h28;exact tz [ok 0,ok 1,ok 2]
    (try simp only[zz,c20,e30,c21,c22,zy]);cases h28;exact tz [ok 0,ok 1,ok 2]
   (try simp only[zz,c20,e30,c21,zy]);cases h28;exact tz [ok 0,ok 1,ok 2]
  have e31:=nD c20;(try simp only[zz,c20,e31,zy]);cases h28;exact tz [ok 0,ok 1,ok 2]
 refine cd rfl ?_;(try simp only[zz]);refine gi h (fun c25 h=>?_) fun c25 h=>?_
 ·refine ss (rg ?_);(try simp only[zz]);cases h;exact rt ez
 refine jm h (fun j27=>⟨ds 3 (.ref 0 0 0 0::.dead::.ref 1 0 0 0::.dead::.ref 2 0 0 0::aa b11::ds 76 (ba j27::ds 59 [])),[.live 5 0 [Ea t0],.live 6 0 [Fa t2],.live 9 0 [Qa x1]]⟩) (fun z36 h35=>?_) fun j27 h35 h=>?_
 ·refine rg ?_;(try simp only[zz]);refine gi h35 (fun c26 h35=>?_) fun c26 h35=>?_
  ·(try simp only[zz,c26]);cases h35;exact tz [ok 0,ok 1,ok 2]
  (try simp only[zz,c26]);cases h35;exact tz [ok 0,ok 1,ok 2]
 refine cd rfl ?_;(try simp only[zz]);refine gi h (fun c28 h=>?_) fun c28 h=>?_
 ·refine ss (rg ?_);(try simp only[zz]);cases h;exact rt ez
 refine jm h (fun j31=>⟨ds 3 (.ref 0 0 0 0::.dead::.ref 1 0 0 0::.dead::.ref 2 0 0 0::aa b11::ds 85 (ba j31::ds 50 [])),[.live 5 0 [Ea t0],.live 6 0 [Fa t2],.live 9 0 [Qa x1]]⟩) (fun z38 h37=>?_) fun j31 h37 h=>?_
 ·refine rg ?_;(try simp only[zz]);refine gi h37 (fun c29 h37=>?_) fun c29 h37=>?_
  ·(try simp only[zz,c29]);refine gi h37 (fun c30 h37=>?_) fun c30 h37=>?_
   ·(try simp only[zz,c29,c30]);cases h37;exact tz [ok 0,ok 1,ok 2]
   (try simp only[zz,c29,c30]);cases h37;exact tz [ok 0,ok 1,ok 2]
  (try simp only[zz,c29]);cases h37;exact tz [ok 0,ok 1,ok 2]
 refine cd rfl ?_;(try simp only[zz]);refine gi h (fun c32 h=>?_) fun c32 h=>?_
 ·refine ss (rg ?_);(try simp only[zz]);cases h;exact rt ez
 refine ss (rg ?_);(try simp only[zz]);refine cd rfl ?_;(try simp only[zz]);refine gi h (fun c33 h=>?_) fun c33 h=>?_
 ·refine ss (rg ?_);(try simp only[zz]);cases h;exact rt ez
 refine ss (rg ?_);obtain⟨x34,a39,h⟩:=bs h;simp only[zz];refine cq (cp a39) ?_ (by simp only[zg,c13,c16,c19,c25,c28,c32]);(try simp only[zz]);refine cd rfl ?_;(try simp only[zz]);refine gi h (fun c35 h=>?_) fun c35 h=>?_
 ·refine ss (rg ?_);(try simp only[zz]);cases h;exact rt ez
 refine sk ?_;(try simp only[zz,c35]);obtain⟨z41,h40,h⟩:=bs h;refine tj (fun(q:Unit)=>⟨ds 3 (.ref 0 0 0 0::.dead::.ref 1 0 0 0::.dead::.ref 2 0 0 0::ds 137 []),[.live 5 0 [Ea t0],.live 6 0 [Fa t2],.live 9 0 [Qa x1]]⟩) z41 ?_ ?_
 ·refine ss (rg ?_);(try simp only[zz]);refine cd rfl ?_;(try simp only[zz]);refine gi h40 (fun c36 h40=>?_) fun c36 h40=>?_
  ·refine ss (rg ?_);obtain⟨x37,a42,h40⟩:=bs h40;simp only[zz];refine cq (Lm a42) ?_ (by simp only[zg,c13,c16,c19,c25,c28,c32,c35]);(try simp only[zz]);refine ss (rg ?_);(try simp only[zz]);refine cd rfl ?_;(try simp only[zz]);refine gi h40 (fun c38 h40=>?_) fun c38 h40=>?_
   ·have e43:=nT c38;refine ss (rg ?_);(try simp only[zz]);cases h40;cases h;exact rt ez
   have e44:=nD c38;refine sk ?_;(try simp only[zz,c38,e44]);cases h40;exact tz [ok 0,ok 1,ok 2]
  refine sk ?_;(try simp only[zz,c36]);cases h40;exact tz [ok 0,ok 1,ok 2]
 rintro⟨⟩ rfl;dsimp only at h;refine ss (dy tr ?_);obtain⟨x39,f46,f47,h⟩:=bI h;obtain⟨x40,a48,h⟩:=bs h;simp only[zz,f46,f47,zy];refine cq (Lm a48) ?_ (by simp only[zg,c13,c16,c19,c25,c28,c32,c35]);(try simp only[zz,f46,f47,zy]);cases h;exact rt ez
instance {t0 t1 t2 r}:Con (mj t0 t1 t2=some r) (Den Tryz.prog 204 [Ea t0,aa t1,Fa t2] (aa r)):=⟨pw⟩
instance {t0 c10 r}:Con (Ia t0 (fun x900=>Oc x900 c10)=some r) (Den Tryz.prog 200 [Dl t0,.fn 201 [] [Pm c10]] (ba r)):=⟨fun h=>Ji (q1:=[Pm c10]) (Vz Rx) (fun x900 _ hb=>Kn hb) h⟩
theorem dv{t0 t1 r} (h:fi t0 t1=some r):Den Tryz.prog 159 [Zb t0,aa t1] (.tup [aa r.1,aa r.2]):=by
 refine dk 161 S3 ?_
 simp only[S3,Kf.of,zs,ze]
 unfold fi at h
 exact pg (And.intro @Tg.eq_1 (And.intro @Wg.eq_1 (And.intro @Zg.eq_1 @fh.eq_1))) (.z 3 (.j 1 (fun(j8:Bool)=>⟨[.k 1,.p 3,.k 2,.p 2,.s (ba j8),.p 10],[.o 0,.o 1]⟩) (.b (.b (.t [ok 0,ok 1]) (.t [ok 0,ok 1])) (.t [ok 0,ok 1])) (.b .o (.b .o (.j 1 (fun(j16:Bool)=>⟨[.k 1,.p 6,.k 45,.s (ba j16),.p 110],[.o 0,.o 1]⟩) (.b (.b (.b (.t [ok 0,ok 1]) (.t [ok 0,ok 1])) (.t [ok 0,ok 1])) (.t [ok 0,ok 1])) (.b .o (.b .o (.b .o (.l 1 0 (fun(s20:Int)=>⟨[.k 1,.p 51,.k 35,.p 2,.s (aa s20),.p 73],[.o 0,.o 1]⟩) (fun(_:Unit)=>⟨[.k 1,.p 51],[.o 0,.o 1]⟩) [ok 0,ok 1] (.b (.b .o (.t [ok 0,ok 1])) (.t [ok 0,ok 1])) (.l 1 0 (fun(s27:Int)=>⟨[.k 1,.p 106,.k 1,.p 2,.s (aa s27),.p 52],[.o 0,.o 1]⟩) (fun(_:Unit)=>⟨[.k 1,.p 106],[.o 0,.o 1]⟩) [ok 0,ok 1] (.b (.b .o (.t [ok 0,ok 1])) (.t [ok 0,ok 1])) (.l 1 0 (fun(s35:Int)=>⟨[.k 6,.p 124,.k 5,.p 1,.s (aa s35),.p 26],[.o 1,.o 2]⟩) (fun(_:Unit)=>⟨[.k 6,.p 9],[.o 1]⟩) [ok 1,ok 2] (.b (.b .o (.t [ok 0,ok 1])) (.t [ok 0])) (.l 1 0 (fun(s40:Int)=>⟨[.k 6,.p 143,.k 2,.p 1,.s (aa s40),.p 10],[.o 0]⟩) (fun(_:Unit)=>⟨[],[]⟩) [ok 0] (.b (.b .o (.t [ok 0])) (.t [])) .o))))))))))))
instance {t0 t1 r}:Con (fi t0 t1=some r) (Den Tryz.prog 159 [Zb t0,aa t1] (.tup [aa r.1,aa r.2])):=⟨dv⟩
instance {t0 r}:Con (ql t0=some r) (Den Tryz.prog 118 [Zb t0] (vi r)):=⟨fun h=>by
 refine dk 30 G0 ?_
 simp only[G0,Kf.of,zs,ze]
 unfold ql at h
 exact pg @vg.eq_1 (.b .o (.l 1 0 (fun(s2:Int)=>⟨[.k 1,.p 5,.k 7,.p 1,.s (aa s2),.p 16],[.o 0,.o 1]⟩) (fun(_:Unit)=>⟨[.k 2,.p 4],[.o 1]⟩) [ok 0,ok 1] (.b (.b .o (.t [ok 0,ok 1])) (.t [ok 1])) .o))⟩
instance {t0 r}:Con (Gi t0=some r) (Den Tryz.prog 66 [Zb t0] (vi r)):=⟨fun h=>by
 refine dk 18 k66 ?_
 simp only[k66,Kf.of,zs,ze]
 unfold Gi at h
 exact pg trivial .o⟩
instance {t0 t1 t2 t3 r}:Con (Yf t0 t1 t2 t3=some r) (Den Tryz.prog 40 [Zb t0,Sa t1,aa t2,aa t3] (.tup [yo r.1,aa r.2])):=⟨fun h=>by
 refine dk 99 k40 ?_
 simp only[k40,Kf.of,zs,ze]
 unfold Yf at h
 exact pg @Hh.eq_1 (.b .o (.b .o (.z 1 (.j 1 (fun(j6:Bool)=>⟨[.k 2,.p 7,.k 31,.s (ba j6),.p 62],[.o 0,.o 1,.o 2]⟩) (.b (.t [ok 0,ok 1,ok 2]) (.t [ok 0,ok 1,ok 2])) (.b .o (.b .o (.l 2 1 (fun(q:((List (List GValue)) × Int))=>⟨[.k 2,.p 2,.k 1,.p 8,.k 2,.p 1,.k 59,.p 2,.s (aa q.2),.p 25],[.o 1,.o 2,.h 3 [.g [.p 2,.s (.own 3 0)]],.n 1 ((q.1.map Wa))]⟩) (fun(b22:(List (List GValue)))=>⟨[.k 8,.p 5],[.o 2,.h 3 [.g [.p 2,.s (.own 2 0)]],.n 1 ((b22.map Wa))]⟩) [ok 1,ok 2,ok 3,on 1] (.b (.b .o (.t [ok 0,ok 1,ok 2,ov 3 1])) (.t [ok 1,ok 2,ok 3])) .o)))))))⟩
instance {t0 t1 t2 r}:Con (db t0 t1 t2=some r) (Den Tryz.prog 42 [Zb t0,aa t1,Qd t2] (aa r)):=⟨fun h=>by
 refine dk 102 k42 ?_
 simp only[k42,Kf.of,zs,ze]
 unfold db at h
 exact pg trivial (.b .o (.z 1 (.j 1 (fun(j7:Bool)=>⟨[.k 1,.p 1,.k 1,.p 3,.k 30,.s (ba j7),.p 68],[.o 0,.o 1]⟩) (.b (.b (.b (.t [ok 0,ok 1]) (.t [ok 0,ok 1])) (.t [ok 0,ok 1])) (.t [ok 0,ok 1])) (.b .o (.b .o (.z 1 (.j 1 (fun(j15:Bool)=>⟨[.k 5,.p 31,.k 27,.s (ba j15),.p 41],[.o 1]⟩) (.b (.b (.t [ok 1]) (.t [ok 1])) (.t [ok 1])) (.b .o (.z 1 (.j 1 (fun(j30:Bool)=>⟨[.k 64,.s (ba j30),.p 40],[]⟩) (.j 1 (fun(j18:Bool)=>⟨[.k 5,.p 58,.k 1,.s (ba j18),.p 40],[.o 0]⟩) (.b (.t [ok 0]) (.t [ok 0])) (.b (.t []) (.j 1 (fun(j21:Bool)=>⟨[.k 5,.p 59,.s (ba j21),.p 40],[.o 0]⟩) (.b (.t [ok 0]) (.t [ok 0])) (.b (.t []) (.j 1 (fun(j24:Bool)=>⟨[.k 5,.p 59,.s (ba j24),.p 40],[.o 0]⟩) (.b (.t [ok 0]) (.t [ok 0])) (.b (.t []) (.j 1 (fun(j27:Bool)=>⟨[.k 5,.p 59,.s (ba j27),.p 40],[.o 0]⟩) (.b (.t [ok 0]) (.t [ok 0])) (.b (.t []) (.b (.t []) (.t [])))))))))) .o))))))))))⟩
instance {t0 t1 t2 t3 t4 r}:Con (Tb t0 t1 t2 t3 t4=some r) (Den Tryz.prog 70 [Zb t0,aa t1,yo t2,ba t3,aa t4] (Lf r)):=⟨fun h=>by
 refine dk 58 k70 ?_
 simp only[k70,Kf.of,zs,ze]
 unfold Tb at h
 exact pg trivial (.b .o (.z 1 (.j 1 (fun(j8:Bool)=>⟨[.k 1,.p 1,.k 3,.p 6,.k 36,.s (ba j8),.p 15],[.o 0,.o 1,.o 2]⟩) (.b (.b (.b (.b (.t [ok 0,ok 1,ok 2]) (.t [ok 0,ok 1,ok 2])) (.t [ok 0,ok 1,ok 2])) (.t [ok 0,ok 1,ok 2])) (.t [ok 0,ok 1,ok 2])) .o)))⟩
end Go.Proofs.Dev
