/-
  Contracts of the functions: each answers as its plain partial function says.
-/
import Derived.Test.YtjiaejcpmcknnaaGreatDoorK
import Derived.Test.YtjiaejcpmcknnaaGreatDoorG
import Derived.Test.YtjiaejcpmcknnaaGreatDoorPD
import Derived.Test.YtjiaejcpmcknnaaGreatDoorH1
import Derived.Test.YtjiaejcpmcknnaaGreatDoorH2
import Derived.Test.YtjiaejcpmcknnaaGreatDoorQ8
import Derived.Test.YtjiaejcpmcknnaaGreatDoorQ9
import Derived.Test.YtjiaejcpmcknnaaGreatDoorQ10
import Derived.Test.YtjiaejcpmcknnaaGreatDoorQ11
set_option linter.all false
set_option maxHeartbeats 1000000
set_option maxRecDepth 10000
namespace Go.Proofs.Dev
open Go Go.Tm
instance {t0 t1 r}:Con (wc t0 t1=some r) (Den Tryz.prog 48 [vi t0,ob t1] (aa r)):=⟨λh=>by
 refine dk 78 k48 ?_
 simp only[k48,Kf.of,zs,ze]
 unfold wc at h
 exact pg @zc.eq_1 (.l 2 1 (λ(q:((List Bool) × Int))=>⟨[.p 1,.k 4,.p 7,.k 19,.p 2,.s (aa q.2),.p 46],[.c 0 ((q.1.map ba)),.o 1]⟩) (λ(b19:(List Bool))=>⟨[.p 1,.k 4,.p 1],[.c 0 ((b19.map ba))]⟩) [ok 0,ok 1] (.b (.j 1 (λ(j16:(List Bool))=>⟨[.p 34],[.c 0 ((j16.map ba)),.o 1]⟩) (.b (.t [ok 0,ok 1]) (.b (.t [ok 0,ok 1]) (.t [ok 0,ok 1]))) (.t [ok 0,ok 1])) (.t [ok 0])) .o)⟩
instance {t0 r}:Con (Vm t0=some r) (Den Tryz.prog 91 [Ib t0] (pd r)):=⟨λh=>by
 refine dk 67 k91 ?_
 simp only[k91,Kf.of,zs,ze]
 unfold Vm at h
 exact pg @ug.eq_1 (.b .o (.l 1 0 (λ(s2:Int)=>⟨[.k 1,.p 7,.k 6,.p 2,.s (aa s2),.p 51],[.o 0,.o 1]⟩) (λ(_:Unit)=>⟨[.k 2,.p 6],[.o 1]⟩) [ok 0,ok 1] (.b (.z 4 (.j 2 (λ(q:(Int × Int))=>⟨[.k 1,.p 2,.k 2,.p 1,.k 8,.p 3],[.o 0,.o 1,.h 3 [.g [.s (aa q.1),.p 2,.s (aa q.2)]]]⟩) (.b (.t [ok 0,ok 1,ok 3]) (.j 1 (λ(j12:Bool)=>⟨[.k 1,.p 2,.k 2,.p 12,.k 19,.s (ba j12),.p 31],[.o 0,.o 1,.o 3]⟩) (.b (.t [ok 0,ok 1,ok 3]) (.t [ok 0,ok 1,ok 3])) (.b (.t [ok 0,ok 1,ok 2]) (.b (.b (.t [ok 0,ok 1,ok 2]) (.t [ok 0,ok 1,ok 2])) (.t [ok 0,ok 1,ok 2]))))) (.b .o (.t [ok 0,ok 1])))) (.t [ok 1])) .o))⟩
instance {t0 t1 t2 r}:Con (Tj t0 t1 t2=some r) (Den Tryz.prog 138 [Ib t0,aa t1,aa t2] (aa r)):=⟨λh=>by
 refine dk 141 W4 ?_
 simp only[W4,Kf.of,zs,ze]
 unfold Tj at h
 exact pg @Gg.eq_1 (.b .o (.l 2 1 (λ(q:(Int × Int))=>⟨[.k 1,.p 5,.k 1,.p 2,.s (aa q.1),.s (aa q.2),.p 2],[.o 0,.o 1,.o 2]⟩) (λ(b14:Int)=>⟨[.k 1,.p 5,.k 1,.p 2,.s (aa b14)],[.o 0,.o 1,.o 2]⟩) [ok 0,ok 1,ok 2] (.b (.e 1 (λ(j11:Int)=>⟨[.k 1,.p 8,.s (aa j11),.p 17],[.o 0,.o 1,.o 2]⟩) (.b .o (.b (.t [ok 0,ok 1,ok 2]) (.t [ok 0,ok 1,ok 2]))) (.t [ok 0,ok 1,ok 2])) (.t [ok 0,ok 1,ok 2])) (.z 1 (.j 1 (λ(j16:Bool)=>⟨[.k 1,.p 61,.s (ba j16),.p 81],[.o 0,.o 1,.o 2]⟩) (.b (.t [ok 0,ok 1,ok 2]) (.t [ok 0,ok 1,ok 2])) (.b .o (.z 1 (.j 1 (λ(j22:Bool)=>⟨[.k 1,.p 1,.k 1,.p 59,.k 26,.s (ba j22),.p 55],[.o 0,.o 1,.o 2]⟩) (.b (.b (.b (.t [ok 0,ok 1,ok 2]) (.t [ok 0,ok 1,ok 2])) (.t [ok 0,ok 1,ok 2])) (.t [ok 0,ok 1,ok 2])) (.b .o (.z 1 (.j 1 (λ(j28:Bool)=>⟨[.k 1,.p 87,.k 23,.s (ba j28),.p 32],[.o 0,.o 1,.o 2]⟩) (.b (.b (.b (.t [ok 0,ok 1,ok 2]) (.t [ok 0,ok 1,ok 2])) (.t [ok 0,ok 1,ok 2])) (.t [ok 0,ok 1,ok 2])) (.b .o (.b .o (.b .o (.z 1 (.e 0 (λ(_:Unit)=>⟨[.k 7,.p 2,.k 2,.p 100],[.o 1,.o 2,.o 3]⟩) (.b (.b .o (.t [ok 1,ok 2,ok 3])) (.t [ok 1,ok 2,ok 3])) .o)))))))))))))))⟩
theorem LA{R165:((List GNode) -> Int -> GEnv -> Option (GValue × Int))} {R228:((List GNode) -> Int -> (List Int) -> GEnv -> Option (GValue × Int))} {t0 t1 t2 r} [∀ t0 t1 t2 r,Con (R165 t0 t1 t2=some r) (Den Tryz.prog 165 [xa t0,aa t1,Kc t2] (.tup [ka r.1,aa r.2]))] [∀ t0 t1 t2 t3 r,Con (R228 t0 t1 t2 t3=some r) (Den Tryz.prog 228 [xa t0,aa t1,ea t2,Kc t3] (.tup [ka r.1,aa r.2]))] (h:ni R165 R228 t0 t1 t2=some r):Den Tryz.prog 165 [xa t0,aa t1,Kc t2] (.tup [ka r.1,aa r.2]):=by
 refine dk 69 L5 ?_
 simp only[L5,Kf.of,zs,ze]
 unfold ni at h
 exact pg @Si.eq_1 (.z 4 (.j 1 (λ(j5:Bool)=>⟨[.p 2,.k 3,.p 2,.k 1,.p 1,.k 22,.s (ba j5),.p 40],[.o 0,.o 1]⟩) (.b (.b (.t [ok 0,ok 1]) (.t [ok 0,ok 1])) (.t [ok 0,ok 1])) (.b .o (.l 2 1 (λ(q:((List GValue) × Int))=>⟨[.p 10,.s (.own 2 0),.s (aa q.2),.p 19],[.o 0,.o 1,.n 3 ((q.1.map ka))]⟩) (λ(b17:(List GValue))=>⟨[.p 8,.k 2,.s (.own 2 0)],[.o 0,.o 1,.n 3 ((b17.map ka))]⟩) [ok 0,ok 1,on 3] (.b (.a [[],[],[],[],[],[],[],[],[],[],[],[]] (.b .o (.t [ok 0,ok 1,ov 2 1]))) (.t [ok 0,ok 1,ok 2])) .o))))
theorem ZB{R165:((List GNode) -> Int -> GEnv -> Option (GValue × Int))} {R228:((List GNode) -> Int -> (List Int) -> GEnv -> Option (GValue × Int))} {t0 t1 t2 t3 r} [∀ t0 t1 t2 r,Con (R165 t0 t1 t2=some r) (Den Tryz.prog 165 [xa t0,aa t1,Kc t2] (.tup [ka r.1,aa r.2]))] [∀ t0 t1 t2 t3 r,Con (R228 t0 t1 t2 t3=some r) (Den Tryz.prog 228 [xa t0,aa t1,ea t2,Kc t3] (.tup [ka r.1,aa r.2]))] (h:uo R165 R228 t0 t1 t2 t3=some r):Den Tryz.prog 228 [xa t0,aa t1,ea t2,Kc t3] (.tup [ka r.1,aa r.2]):=by
 refine dk 98 V6 ?_
 simp only[V6,Kf.of,zs,ze]
 unfold uo at h
 exact pg trivial (.b .o (.a [[],[],[],[],[],[],[],[],[],[],[]] (.b .o (.z 1 (.j 1 (λ(j8:Bool)=>⟨[.p 3,.k 4,.p 2,.k 1,.p 1,.k 30,.s (ba j8),.p 60],[.o 0,.o 1,.o 2]⟩) (.b (.t [ok 0,ok 1,ok 2]) (.t [ok 0,ok 1,ok 2])) (.b .o (.b .o (.b .o (.a [[],[],[],[],[],[],[],[],[],[],[]] (.b .o (.z 1 (.j 1 (λ(j22:Bool)=>⟨[.k 8,.p 2,.k 2,.p 1,.k 86,.s (ba j22),.p 2],[.o 1,.o 3]⟩) (.b (.t [ok 1,ok 3]) (.t [ok 1,ok 3])) .o))))))))))))
theorem Qo:∀n,(∀ t0 t1 t2 r,(Ba n).1 t0 t1 t2=some r->Den Tryz.prog 165 [xa t0,aa t1,Kc t2] (.tup [ka r.1,aa r.2]))/\(∀ t0 t1 t2 t3 r,(Ba n).2 t0 t1 t2 t3=some r->Den Tryz.prog 228 [xa t0,aa t1,ea t2,Kc t3] (.tup [ka r.1,aa r.2]))
|0=>⟨λ_ _ _ _ h=>(nomatch h),λ_ _ _ _ _ h=>(nomatch h)⟩
|n+1=>by
 obtain⟨H0,H1⟩:=Qo n
 haveI I0:∀ t0 t1 t2 r,Con ((Ba n).1 t0 t1 t2=some r) (Den Tryz.prog 165 [xa t0,aa t1,Kc t2] (.tup [ka r.1,aa r.2])):=λt0 t1 t2 r=>⟨H0 t0 t1 t2 r⟩
 haveI I1:∀ t0 t1 t2 t3 r,Con ((Ba n).2 t0 t1 t2 t3=some r) (Den Tryz.prog 228 [xa t0,aa t1,ea t2,Kc t3] (.tup [ka r.1,aa r.2])):=λt0 t1 t2 t3 r=>⟨H1 t0 t1 t2 t3 r⟩
 exact⟨λt0 t1 t2 r h=>LA (R165:=(Ba n).1) (R228:=(Ba n).2) h,λt0 t1 t2 t3 r h=>ZB (R165:=(Ba n).1) (R228:=(Ba n).2) h⟩
theorem TD{t0 t1 t2 r} (h:jt t0 t1 t2=some r):Den Tryz.prog 165 [xa t0,aa t1,Kc t2] (.tup [ka r.1,aa r.2]):=(Qo vd).1 _ _ _ _ h
instance {t0 t1 t2 r}:Con (jt t0 t1 t2=some r) (Den Tryz.prog 165 [xa t0,aa t1,Kc t2] (.tup [ka r.1,aa r.2])):=⟨TD⟩
theorem ZE{t0 t1 t2 t3 r} (h:SD t0 t1 t2 t3=some r):Den Tryz.prog 228 [xa t0,aa t1,ea t2,Kc t3] (.tup [ka r.1,aa r.2]):=(Qo vd).2 _ _ _ _ _ h
instance {t0 t1 t2 t3 r}:Con (SD t0 t1 t2 t3=some r) (Den Tryz.prog 228 [xa t0,aa t1,ea t2,Kc t3] (.tup [ka r.1,aa r.2])):=⟨ZE⟩
theorem CA{t0:GScope}{t1:Int}{t2:GSignature}{r:Int}(h:ik t0 t1 t2=some r):Den Tryz.prog 182 [Ca t0,aa t1,ta t2] (aa r):=by
 refine dk 142 Y5 ?_;simp only[Y5,Kf.of,zs,ze];unfold ik at h;refine ss (rg ?_);(try simp only[zz]);refine ss (rg ?_);obtain⟨x1,f2,f3,h⟩:=bI h;(try simp only[zz,f2,f3]);refine ss (rg ?_);(try simp only[zz]);refine ss (ss (rg ?_));obtain⟨x2,a4,h⟩:=bs h;obtain⟨f5,f6,f7⟩:=GK (e:=Xa) a4;(try simp only[zz]at f7);(try simp only[zz,f5,f6,f7]);obtain⟨y8,h9,h⟩:=bs h;refine lm h9 (λq=>⟨.dead::aa t1::.dead::.ref 0 0 0 0::.dead::.ref 1 0 0 0::.dead::.ref 2 0 0 0::aa q.1::ds 11 (cf x2::aa (x2.length:Int)::aa q.2::ds 122 []),[.live 5 0 [Ca t0],.live 6 0 [ta t2],.live 9 0 [Xa x1]]⟩) (λb11=>⟨.dead::aa t1::.dead::.ref 0 0 0 0::.dead::.ref 1 0 0 0::.dead::.ref 2 0 0 0::aa b11::ds 136 [],[.live 5 0 [Ca t0],.live 6 0 [ta t2],.live 9 0 [Xa x1]]⟩) (tz [ok 0,ok 1,ok 2]) ?_ ?_
 .rintro⟨s3,s4⟩ z10 h11 h12;simp only[Li]at h11;refine ss (rg ?_);(try simp only[zz]);refine ss (cd rfl ?_);(try simp only[zz]);refine gi h11 (λc5 h11=>?_) λc5 h11=>?_
  .refine sk ?_;(try simp only[zz,c5]);refine jm h11 (λj8=>⟨.dead::aa t1::.dead::.ref 0 0 0 0::.dead::.ref 1 0 0 0::.dead::.ref 2 0 0 0::aa j8::ds 11 (cf x2::aa (x2.length:Int)::aa s4::ds 122 []),[.live 5 0 [Ca t0],.live 6 0 [ta t2],.live 9 0 [Xa x1]]⟩) (λz14 h13=>?_) λj8 h13 h11=>?_
   .refine bk (ss (rg ?_));obtain⟨x6,f16,f17,h13⟩:=bI h13;(try simp only[zz,f16,f17]);refine ss (rg ?_);(try simp only[zz]);refine cd rfl ?_;(try simp only[zz]);refine gi h13 (λc7 h13=>?_) λc7 h13=>?_
    .have e18:=eT c7;refine rg ?_;(try simp only[zz]);cases h13;exact tz [ok 0,ok 1,ok 2]
    have e19:=eF c7;refine sk ?_;(try simp only[zz,c7,e19]);cases h13;exact tz [ok 0,ok 1,ok 2]
   refine rg ?_;(try simp only[zz]);cases h11;exact tz [ok 0,ok 1,ok 2]
  refine xt ?_;(try simp only[zz,c5]);cases h11;exact tz [ok 0,ok 1,ok 2]
 rintro b11 rfl;dsimp only at h;(try simp only[zz]);refine ss (bk (ss (rg ?_)));obtain⟨x12,a20,h⟩:=bs h;simp only[zz];refine cq (Oo a20) ?_ (by simp only[zg]);(try simp only[zz]);refine cd rfl ?_;(try simp only[zz]);refine gi h (λc13 h=>?_) λc13 h=>?_
 .refine ss (rg ?_);(try simp only[zz]);cases h;exact rt ez
 refine ss (rg ?_);obtain⟨x14,a21,h⟩:=bs h;obtain⟨f22,f23,f24⟩:=GK (e:=Xa) a21;(try simp only[zz]at f24);obtain⟨x15,a25,h⟩:=bs h;simp only[zz,f22,f23,f24];refine cv (wk (q1:=[cu x1]) (kD oB) (λx900 _ hb=>Pq hb) a25) ?_ rfl (by simp only[zg,c13,f22,f23,f24]);(try simp only[zz,f22,f23,f24]);refine cd rfl ?_;(try simp only[zz,f22,f23,f24]);refine gi h (λc16 h=>?_) λc16 h=>?_
 .refine ss (rg ?_);(try simp only[zz]);cases h;exact rt ez
 refine jm h (λj18=>⟨.dead::aa t1::.dead::.ref 0 0 0 0::.dead::.ref 1 0 0 0::.dead::.ref 2 0 0 0::aa b11::ds 37 (ba j18::ds 98 []),[.live 5 0 [Ca t0],.live 6 0 [ta t2],.live 9 0 [Xa x1]]⟩) (λz27 h26=>?_) λj18 h26 h=>?_
 .refine rg ?_;(try simp only[zz]);refine gi h26 (λc17 h26=>?_) λc17 h26=>?_
  ·(try simp only[zz,c17]);cases h26;exact tz [ok 0,ok 1,ok 2]
  (try simp only[zz,c17]);cases h26;exact tz [ok 0,ok 1,ok 2]
 refine cd rfl ?_;(try simp only[zz]);refine gi h (λc19 h=>?_) λc19 h=>?_
 .refine ss (rg ?_);(try simp only[zz]);cases h;exact rt ez
 refine jm h (λj24=>⟨ds 3 (.ref 0 0 0 0::.dead::.ref 1 0 0 0::.dead::.ref 2 0 0 0::aa b11::ds 49 (ba j24::ds 86 [])),[.live 5 0 [Ca t0],.live 6 0 [ta t2],.live 9 0 [Xa x1]]⟩) (λz29 h28=>?_) λj24 h28 h=>?_
 .refine dy gn ?_;(try simp only[zz,zy]);refine gi h28 (λc20 h28=>?_) λc20 h28=>?_
  .have e30:=nT c20;(try simp only[zz,c20,e30,zy]);refine gi h28 (λc21 h28=>?_) λc21 h28=>?_
   ·(try simp only[zz,c20,e30,c21,zy]);refine gi h28 (λc22 h28=>?_) λc22 h28=>?_
    .obtain⟨x23,f33,f34,h28⟩:=bI h28;(try simp only[zz,c20,e30,c21,c22,f33,f34,zy]);cases h28;exact tz [ok 0,ok 1,ok 2]
    (try simp only[zz,c20,e30,c21,c22,zy]);cases h28;exact tz [ok 0,ok 1,ok 2]
   (try simp only[zz,c20,e30,c21,zy]);cases h28;exact tz [ok 0,ok 1,ok 2]
  have e31:=nD c20;(try simp only[zz,c20,e31,zy]);cases h28;exact tz [ok 0,ok 1,ok 2]
 refine cd rfl ?_;(try simp only[zz]);refine gi h (λc25 h=>?_) λc25 h=>?_
 .refine ss (rg ?_);(try simp only[zz]);cases h;exact rt ez
 refine jm h (λj27=>⟨ds 3 (.ref 0 0 0 0::.dead::.ref 1 0 0 0::.dead::.ref 2 0 0 0::aa b11::ds 76 (ba j27::ds 59 [])),[.live 5 0 [Ca t0],.live 6 0 [ta t2],.live 9 0 [Xa x1]]⟩) (λz36 h35=>?_) λj27 h35 h=>?_
 .refine rg ?_;(try simp only[zz]);refine gi h35 (λc26 h35=>?_) λc26 h35=>?_
  ·(try simp only[zz,c26]);cases h35;exact tz [ok 0,ok 1,ok 2]
  (try simp only[zz,c26]);cases h35;exact tz [ok 0,ok 1,ok 2]
 refine cd rfl ?_;(try simp only[zz]);refine gi h (λc28 h=>?_) λc28 h=>?_
 .refine ss (rg ?_);(try simp only[zz]);cases h;exact rt ez
 refine jm h (λj31=>⟨ds 3 (.ref 0 0 0 0::.dead::.ref 1 0 0 0::.dead::.ref 2 0 0 0::aa b11::ds 85 (ba j31::ds 50 [])),[.live 5 0 [Ca t0],.live 6 0 [ta t2],.live 9 0 [Xa x1]]⟩) (λz38 h37=>?_) λj31 h37 h=>?_
 .refine rg ?_;(try simp only[zz]);refine gi h37 (λc29 h37=>?_) λc29 h37=>?_
  ·(try simp only[zz,c29]);refine gi h37 (λc30 h37=>?_) λc30 h37=>?_
   ·(try simp only[zz,c29,c30]);cases h37;exact tz [ok 0,ok 1,ok 2]
   (try simp only[zz,c29,c30]);cases h37;exact tz [ok 0,ok 1,ok 2]
  (try simp only[zz,c29]);cases h37;exact tz [ok 0,ok 1,ok 2]
 refine cd rfl ?_;(try simp only[zz]);refine gi h (λc32 h=>?_) λc32 h=>?_
 .refine ss (rg ?_);(try simp only[zz]);cases h;exact rt ez
 refine ss (rg ?_);(try simp only[zz]);refine cd rfl ?_;(try simp only[zz]);refine gi h (λc33 h=>?_) λc33 h=>?_
 .refine ss (rg ?_);(try simp only[zz]);cases h;exact rt ez
 refine ss (rg ?_);obtain⟨x34,a39,h⟩:=bs h;simp only[zz];refine cq (Kr a39) ?_ (by simp only[zg,c13,c16,c19,c25,c28,c32]);(try simp only[zz]);refine cd rfl ?_;(try simp only[zz]);refine gi h (λc35 h=>?_) λc35 h=>?_
 .refine ss (rg ?_);(try simp only[zz]);cases h;exact rt ez
 refine sk ?_;(try simp only[zz,c35]);obtain⟨z41,h40,h⟩:=bs h;refine tj (λ(q:Unit)=>⟨ds 3 (.ref 0 0 0 0::.dead::.ref 1 0 0 0::.dead::.ref 2 0 0 0::ds 137 []),[.live 5 0 [Ca t0],.live 6 0 [ta t2],.live 9 0 [Xa x1]]⟩) z41 ?_ ?_
 .refine ss (rg ?_);(try simp only[zz]);refine cd rfl ?_;(try simp only[zz]);refine gi h40 (λc36 h40=>?_) λc36 h40=>?_
  .refine ss (rg ?_);obtain⟨x37,a42,h40⟩:=bs h40;simp only[zz];refine cq (bp a42) ?_ (by simp only[zg,c13,c16,c19,c25,c28,c32,c35]);(try simp only[zz]);refine ss (rg ?_);(try simp only[zz]);refine cd rfl ?_;(try simp only[zz]);refine gi h40 (λc38 h40=>?_) λc38 h40=>?_
   .have e43:=nT c38;refine ss (rg ?_);(try simp only[zz]);cases h40;cases h;exact rt ez
   have e44:=nD c38;refine sk ?_;(try simp only[zz,c38,e44]);cases h40;exact tz [ok 0,ok 1,ok 2]
  refine sk ?_;(try simp only[zz,c36]);cases h40;exact tz [ok 0,ok 1,ok 2]
 rintro⟨⟩ rfl;dsimp only at h;refine ss (dy gn ?_);obtain⟨x39,f46,f47,h⟩:=bI h;obtain⟨x40,a48,h⟩:=bs h;simp only[zz,f46,f47,zy];refine cq (bp a48) ?_ (by simp only[zg,c13,c16,c19,c25,c28,c32,c35]);(try simp only[zz,f46,f47,zy]);cases h;exact rt ez
instance {t0 t1 t2 r}:Con (ik t0 t1 t2=some r) (Den Tryz.prog 182 [Ca t0,aa t1,ta t2] (aa r)):=⟨CA⟩
instance {t0 t1 r}:Con (aj t0 t1=some r) (Den Tryz.prog 95 [Ib t0,aa t1] (pd r)):=⟨λh=>by
 refine dk 123 k95 ?_
 simp only[k95,Kf.of,zs,ze]
 unfold aj at h
 exact pg (And.intro @Ue.eq_1 (And.intro @Ff.eq_1 @Ve.eq_1)) (.b .o (.b .o (.z 1 (.j 1 (λ(j10:Bool)=>⟨[.k 1,.p 12,.k 43,.s (ba j10),.p 68],[.o 0,.o 1,.o 2,.o 3]⟩) (.b (.b (.b (.t [ok 0,ok 1,ok 2,ok 3]) (.t [ok 0,ok 1,ok 2,ok 3])) (.t [ok 0,ok 1,ok 2,ok 3])) (.t [ok 0,ok 1,ok 2,ok 3])) (.b .o (.b .o (.b .o (.b .o (.l 1 0 (λ(s16:Int)=>⟨[.k 1,.p 5,.k 2,.s (aa s16),.p 47],[.o 0,.o 1,.o 2]⟩) (λ(_:Unit)=>⟨[.k 1,.p 1,.k 2,.p 2],[.o 1,.o 2]⟩) [ok 0,ok 1,ok 2] (.b (.b .o (.t [ok 0,ok 1,ok 2])) (.t [ok 1,ok 2])) (.l 1 0 (λ(s21:Int)=>⟨[.k 1,.p 9,.s (aa s21),.p 114],[.o 0,.o 1]⟩) (λ(_:Unit)=>⟨[.k 4,.p 1],[.o 0]⟩) [ok 0,ok 1] (.b (.l 1 0 (λ(s24:Int)=>⟨[.k 1,.p 11,.s (aa s24),.p 85],[.o 0,.o 1]⟩) (λ(_:Unit)=>⟨[.k 1,.p 10],[.o 0,.o 1]⟩) [ok 0,ok 1] (.b (.b .o (.t [ok 0,ok 1])) (.t [ok 0,ok 1])) (.t [ok 0,ok 1])) (.t [ok 0])) .o))))))))))⟩
instance {t0 t1 r}:Con (lp t0 t1=some r) (Den Tryz.prog 126 [xa t0,Kc t1] (.tup [ka r.1,aa r.2])):=⟨λh=>by
 refine dk 23 K4 ?_
 simp only[K4,Kf.of,zs,ze]
 unfold lp at h
 exact pg trivial .o⟩
instance {t0 c10 r}:Con (Ta t0 (λx900=>Oc x900 c10)=some r) (Den Tryz.prog 179 [Zm t0,.fn 180 [] [Vo c10]] (ba r)):=⟨λh=>Aj (q1:=[Vo c10]) (kD oB) (λx900 _ hb=>aq hb) h⟩
theorem xz{t0 t1 r} (h:Mi t0 t1=some r):Den Tryz.prog 133 [Ib t0,aa t1] (.tup [aa r.1,aa r.2]):=by
 refine dk 161 R4 ?_
 simp only[R4,Kf.of,zs,ze]
 unfold Mi at h
 exact pg (And.intro @vh.eq_1 (And.intro @wh.eq_1 (And.intro @xh.eq_1 @zh.eq_1))) (.z 3 (.j 1 (λ(j8:Bool)=>⟨[.k 1,.p 3,.k 2,.p 2,.s (ba j8),.p 10],[.o 0,.o 1]⟩) (.b (.b (.t [ok 0,ok 1]) (.t [ok 0,ok 1])) (.t [ok 0,ok 1])) (.b .o (.b .o (.j 1 (λ(j16:Bool)=>⟨[.k 1,.p 6,.k 45,.s (ba j16),.p 110],[.o 0,.o 1]⟩) (.b (.b (.b (.t [ok 0,ok 1]) (.t [ok 0,ok 1])) (.t [ok 0,ok 1])) (.t [ok 0,ok 1])) (.b .o (.b .o (.b .o (.l 1 0 (λ(s20:Int)=>⟨[.k 1,.p 51,.k 35,.p 2,.s (aa s20),.p 73],[.o 0,.o 1]⟩) (λ(_:Unit)=>⟨[.k 1,.p 51],[.o 0,.o 1]⟩) [ok 0,ok 1] (.b (.b .o (.t [ok 0,ok 1])) (.t [ok 0,ok 1])) (.l 1 0 (λ(s27:Int)=>⟨[.k 1,.p 106,.k 1,.p 2,.s (aa s27),.p 52],[.o 0,.o 1]⟩) (λ(_:Unit)=>⟨[.k 1,.p 106],[.o 0,.o 1]⟩) [ok 0,ok 1] (.b (.b .o (.t [ok 0,ok 1])) (.t [ok 0,ok 1])) (.l 1 0 (λ(s35:Int)=>⟨[.k 6,.p 124,.k 5,.p 1,.s (aa s35),.p 26],[.o 1,.o 2]⟩) (λ(_:Unit)=>⟨[.k 6,.p 9],[.o 1]⟩) [ok 1,ok 2] (.b (.b .o (.t [ok 0,ok 1])) (.t [ok 0])) (.l 1 0 (λ(s40:Int)=>⟨[.k 6,.p 143,.k 2,.p 1,.s (aa s40),.p 10],[.o 0]⟩) (λ(_:Unit)=>⟨[],[]⟩) [ok 0] (.b (.b .o (.t [ok 0])) (.t [])) .o))))))))))))
instance {t0 t1 r}:Con (Mi t0 t1=some r) (Den Tryz.prog 133 [Ib t0,aa t1] (.tup [aa r.1,aa r.2])):=⟨xz⟩
instance {t0 r}:Con (Fl t0=some r) (Den Tryz.prog 56 [Ib t0] (pd r)):=⟨λh=>by
 refine dk 66 k56 ?_
 simp only[k56,Kf.of,zs,ze]
 unfold Fl at h
 exact pg (And.intro @Mh.eq_1 (And.intro @Nh.eq_1 @Oh.eq_1)) (.b .o (.l 1 0 (λ(s2:Int)=>⟨[.k 1,.p 2,.s (aa s2),.p 5],[.o 0,.o 1]⟩) (λ(_:Unit)=>⟨[.k 1,.p 2],[.o 0,.o 1]⟩) [ok 0,ok 1] (.b (.b .o (.t [ok 0,ok 1])) (.t [ok 0,ok 1])) (.b .o (.l 1 0 (λ(s8:Int)=>⟨[.k 1,.p 4,.s (aa s8),.p 22],[.o 0,.o 1]⟩) (λ(_:Unit)=>⟨[.k 1,.p 4],[.o 0,.o 1]⟩) [ok 0,ok 1] (.b (.b .o (.t [ok 0,ok 1])) (.t [ok 0,ok 1])) (.b .o (.l 1 0 (λ(s14:Int)=>⟨[.k 1,.p 6,.s (aa s14),.p 39],[.o 0,.o 1]⟩) (λ(_:Unit)=>⟨[.k 2,.p 5],[.o 1]⟩) [ok 0,ok 1] (.b (.b .o (.t [ok 0,ok 1])) (.t [ok 1])) .o))))))⟩
instance {t0 t1 t2 t3 r}:Con (Hl t0 t1 t2 t3=some r) (Den Tryz.prog 88 [Ca t0,aa t1,aa t2,ob t3] (aa r)):=⟨λh=>by
 refine dk 71 k88 ?_
 simp only[k88,Kf.of,zs,ze]
 unfold Hl at h
 exact pg @Qh.eq_1 (.l 2 1 (λ(q:((List Bool) × Int))=>⟨[.k 2,.p 6,.k 1,.p 4,.s (aa q.2),.p 4],[.o 0,.c 1 ((q.1.map ba))]⟩) (λ(b19:(List Bool))=>⟨[.k 9,.p 4],[.c 1 ((b19.map ba))]⟩) [ok 0,ok 1] (.b (.j 1 (λ(j16:(List Bool))=>⟨[.k 2,.p 25],[.o 0,.c 1 ((j16.map ba))]⟩) (.z 2 (.j 4 (λ(q:(Int × Int × Int × Int))=>⟨[.k 2,.p 12,.k 1,.p 1,.s (aa q.2.2.2),.p 10],[.o 0,.o 1,.h 2 [.g [.s (aa q.1),.s (aa q.2.1),.s (aa q.2.2.1)]]]⟩) (.b (.t [ok 0,ok 1,ok 2]) (.t [ok 0,ok 1,ok 2])) (.b (.t [ok 0,ov 1 1]) (.t [ok 0,ov 1 1])))) (.t [ok 0,ok 1])) (.t [ok 1])) .o)⟩
instance {t0 r}:Con (Um t0=some r) (Den Tryz.prog 92 [Ib t0] (pd r)):=⟨λh=>by
 refine dk 30 k92 ?_
 simp only[k92,Kf.of,zs,ze]
 unfold Um at h
 exact pg @tg.eq_1 (.b .o (.l 1 0 (λ(s2:Int)=>⟨[.k 1,.p 5,.k 7,.p 1,.s (aa s2),.p 16],[.o 0,.o 1]⟩) (λ(_:Unit)=>⟨[.k 2,.p 4],[.o 1]⟩) [ok 0,ok 1] (.b (.b .o (.t [ok 0,ok 1])) (.t [ok 1])) .o))⟩
instance {t0 t1 t2 t3 r}:Con (qp t0 t1 t2 t3=some r) (Den Tryz.prog 23 [Ib t0,aa t1,aa t2,aa t3] (.tup [Uc r.1,aa r.2])):=⟨λh=>by
 refine dk 104 k23 ?_
 simp only[k23,Kf.of,zs,ze]
 unfold qp at h
 exact pg (And.intro @Jm.eq_1 @Km.eq_1) (.b .o (.z 1 (.j 1 (λ(j7:Bool)=>⟨[.k 1,.p 7,.k 35,.s (ba j7),.p 64],[.o 0]⟩) (.b (.b (.b (.t [ok 0]) (.t [ok 0])) (.t [ok 0])) (.t [ok 0])) (.b .o (.z 1 (.j 1 (λ(j10:Bool)=>⟨[.k 1,.p 42,.k 6,.s (ba j10),.p 58],[.o 0]⟩) (.b (.t [ok 0]) (.t [ok 0])) (.b .o (.l 1 0 (λ(s15:Int)=>⟨[.k 4,.p 9,.s (aa s15),.p 35],[.o 0,.o 1,.o 2]⟩) (λ(_:Unit)=>⟨[.k 4,.p 8],[.o 0,.o 1]⟩) [ok 0,ok 1,ok 2] (.b (.b .o (.t [ok 0,ok 1,ok 2])) (.t [ok 0,ok 1])) (.l 2 1 (λ(q:((List (List Int)) × Int))=>⟨[.k 4,.p 10,.s (.own 2 0),.s (aa q.2),.p 92],[.o 0,.o 1,.n 1 ((q.1.map ea))]⟩) (λ(b34:(List (List Int)))=>⟨[.k 14,.s (.own 0 0)],[.n 1 ((b34.map ea))]⟩) [ok 0,ok 1,on 1] (.b (.j 1 (λ(j31:(List (List Int)))=>⟨[.k 4,.p 71],[.o 0,.o 1,.c 2 ((j31.map ea))]⟩) (.b (.t [ok 0,ok 1,ov 2 1]) (.t [ok 0,ok 1,ov 2 1])) (.t [ok 0,ok 1,ok 2])) (.t [ok 2])) .o)))))))))⟩
instance {t0 t1 t2 t3 r}:Con (Mm t0 t1 t2 t3=some r) (Den Tryz.prog 51 [Ca t0,Uc t1,aa t2,aa t3] (.tup [ob r.1,ba r.2])):=⟨λh=>by
 refine dk 33 k51 ?_
 simp only[k51,Kf.of,zs,ze]
 unfold Mm at h
 exact pg (And.intro @lf.eq_1 (And.intro @Ek.eq_1 (And.intro @Gk.eq_1 (And.intro @Dk.eq_1 (And.intro @Fk.eq_1 (And.intro @k87.eq_1 @k86.eq_1)))))) (.l 2 0 (λ(q:((List Int) × Bool))=>⟨[.k 1,.p 7,.k 2,.p 1,.s (ba q.2),.p 1],[.o 0,.c 1 ((q.1.map aa))]⟩) (λ(_:Unit)=>⟨[],[]⟩) [ok 0,ok 1] (.b (.i k87 1 39 (λ(i16:(List GValue))=>⟨[.s (.own 2 0)],[.O 0,.O 1,.n 3 ((i16.map ka))]⟩) (.l 2 1 (λ(q:((List GValue) × Int))=>⟨[.k 1,.p 5,.k 1,.p 1,.s (aa q.2),.p 1],[.O 0,.O 1,.o 2,.c 3 ((q.1.map ka))]⟩) (λ(b15:(List GValue))=>⟨[.k 7,.p 1],[.O 0,.O 1,.c 3 ((b15.map ka))]⟩) [ok 0,ok 1,ok 2,ok 3] (.b (.t [ok 0,ok 1,ok 2,ov 3 1]) (.t [ok 0,ok 1,ok 3])) (.t [ok 0,ok 1,ok 2])) (.b .o (.i k86 2 30 (λ(q:((List Int) × Bool))=>⟨[.s (ba q.2)],[.O 0,.C 1 ((q.1.map aa)),.O 2]⟩) (.l 2 1 (λ(q:((List Int) × Int))=>⟨[.p 4,.k 1,.s (aa q.2)],[.O 0,.C 1 ((q.1.map aa)),.O 2]⟩) (λ(b31:(List Int))=>⟨[],[.O 0,.C 1 ((b31.map aa)),.O 2]⟩) [ok 0,ok 1,ok 2] (.b (.b (.t [ok 0,ok 1,ok 2]) (.t [ok 0,ok 1,ok 2])) (.t [ok 0,ok 1,ok 2])) (.t [ok 0,ok 1,ok 2])) (.t [ok 0,ok 1])))) (.t [])) .o)⟩
instance {t0 r}:Con (Xl t0=some r) (Den Tryz.prog 55 [Ib t0] (pd r)):=⟨λh=>by
 refine dk 18 k55 ?_
 simp only[k55,Kf.of,zs,ze]
 unfold Xl at h
 exact pg trivial .o⟩
instance {t0 t1 t2 t3 r}:Con (Yp t0 t1 t2 t3=some r) (Den Tryz.prog 14 [Ib t0,aa t1,aa t2,aa t3] (ba r)):=⟨λh=>by
 refine dk 39 k14 ?_
 simp only[k14,Kf.of,zs,ze]
 unfold Yp at h
 exact pg @Xn.eq_1 (.b .o (.l 2 1 (λ(q:(Int × Int))=>⟨[.k 9,.p 1,.k 1,.s (aa q.1),.s (aa q.2)],[]⟩) (λ(b12:Int)=>⟨[.k 11,.s (aa b12)],[]⟩) [] (.z 1 (.j 1 (λ(j7:Bool)=>⟨[.k 9,.p 22,.s (ba j7),.p 11],[]⟩) (.b (.t []) (.t [])) (.b (.t []) (.t [])))) .o))⟩
instance {t0 t1 t2 t3 r}:Con (nn t0 t1 t2 t3=some r) (Den Tryz.prog 17 [Ib t0,aa t1,aa t2,aa t3] (.tup [ea r.1,aa r.2])):=⟨λh=>by
 refine dk 64 k17 ?_
 simp only[k17,Kf.of,zs,ze]
 unfold nn at h
 exact pg @Lm.eq_1 (.b .o (.l 2 1 (λ(q:((List Int) × Int))=>⟨[.k 1,.p 1,.k 1,.p 5,.k 2,.p 1,.k 1,.p 2,.s (aa q.2),.p 2],[.o 0,.c 1 ((q.1.map aa))]⟩) (λ(b15:(List Int))=>⟨[.k 12,.p 1],[.c 1 ((b15.map aa))]⟩) [ok 0,ok 1] (.b (.j 1 (λ(j12:(List Int))=>⟨[.k 1,.p 36],[.o 0,.c 1 ((j12.map aa))]⟩) (.b (.t [ok 0,ov 1 1]) (.t [ok 0,ok 1])) (.t [ok 0,ok 1])) (.t [ok 1])) .o))⟩
instance {t0 t1 t2 t3 r}:Con (fk t0 t1 t2 t3=some r) (Den Tryz.prog 25 [Ib t0,aa t1,aa t2,aa t3] (.tup [Uc r.1,aa r.2])):=⟨λh=>by
 refine dk 103 k25 ?_
 simp only[k25,Kf.of,zs,ze]
 unfold fk at h
 exact pg (And.intro @xi.eq_1 @zi.eq_1) (.b .o (.z 1 (.j 1 (λ(j7:Bool)=>⟨[.k 1,.p 7,.k 40,.s (ba j7),.p 58],[.o 0]⟩) (.b (.b (.b (.t [ok 0]) (.t [ok 0])) (.t [ok 0])) (.t [ok 0])) (.b .o (.z 1 (.j 1 (λ(j10:Bool)=>⟨[.k 1,.p 47,.k 6,.s (ba j10),.p 52],[.o 0]⟩) (.b (.t [ok 0]) (.t [ok 0])) (.b .o (.l 1 0 (λ(s15:Int)=>⟨[.k 4,.p 50,.k 13,.p 2,.s (aa s15),.p 37],[.o 0,.o 1,.o 2]⟩) (λ(_:Unit)=>⟨[.k 4,.p 9],[.o 0,.o 1]⟩) [ok 0,ok 1,ok 2] (.b (.b .o (.t [ok 0,ok 1,ok 2])) (.t [ok 0,ok 1])) (.l 2 1 (λ(q:((List (List Int)) × Int))=>⟨[.k 4,.p 7,.k 1,.p 4,.s (.own 1 0),.p 61,.k 1,.p 2,.s (aa q.2),.p 25],[.o 0,.n 1 ((q.1.map ea))]⟩) (λ(b33:(List (List Int)))=>⟨[.k 16,.s (.own 0 0),.p 61],[.n 1 ((b33.map ea))]⟩) [ok 0,on 1] (.b (.z 3 (.j 1 (λ(j29:(List Int))=>⟨[.k 4,.p 13,.k 2,.s (ea j29),.p 62],[.o 0,.o 1]⟩) (.b (.t [ok 0,ok 1]) (.t [ok 0,ok 1])) (.t [ok 0,ov 1 1]))) (.t [ok 1])) .o)))))))))⟩
instance {t0 t1 t2 t3 r}:Con (Cd t0 t1 t2 t3=some r) (Den Tryz.prog 16 [Ib t0,aa t1,aa t2,aa t3] (.tup [ea r.1,aa r.2])):=⟨λh=>by
 refine dk 80 k16 ?_
 simp only[k16,Kf.of,zs,ze]
 unfold Cd at h
 exact pg (And.intro @fg.eq_1 (And.intro @ig.eq_1 (And.intro @nj.eq_1 (And.intro @Ym.eq_1 (And.intro @mj.eq_1 (And.intro @oj.eq_1 (And.intro @k49.eq_1 @k47.eq_1))))))) (.b .o (.l 3 1 (λ(q:((List Bool) × (List Int) × Bool))=>⟨[.k 10,.p 1,.k 1,.p 3,.s (ba q.2.2),.p 4],[.c 1 ((q.1.map ba)),.c 2 ((q.2.1.map aa))]⟩) (λ(b44:(List Bool))=>⟨[.k 12,.p 2],[.c 1 ((b44.map ba))]⟩) [ok 1,ok 2] (.b (.j 1 (λ(j26:(List Bool))=>⟨[.k 10,.p 5],[.c 0 ((j26.map ba)),.o 1]⟩) (.i k49 1 37 (λ(i21:(List GValue))=>⟨[.s (.own 2 0)],[.O 0,.O 1,.n 3 ((i21.map ka))]⟩) (.l 2 1 (λ(q:((List GValue) × Int))=>⟨[.k 1,.p 2,.k 4,.s (.own 2 0),.p 2,.k 1,.p 2,.s (aa q.2),.p 26],[.O 0,.O 1,.n 3 ((q.1.map ka))]⟩) (λ(b20:(List GValue))=>⟨[.k 7,.s (.own 2 0),.p 2],[.O 0,.O 1,.n 3 ((b20.map ka))]⟩) [ok 0,ok 1,on 3] (.b (.t [ok 0,ok 1,ov 2 1]) (.t [ok 0,ok 1,ok 2])) (.t [ok 0,ok 1,ok 2])) (.b (.t [ok 0,ok 1]) (.t [ok 0,ok 1]))) (.i k47 2 30 (λ(q:((List Int) × Bool))=>⟨[.s (ba q.2)],[.O 0,.C 1 ((q.1.map aa))]⟩) (.l 2 1 (λ(q:((List Int) × Int))=>⟨[.p 4,.k 1,.s (aa q.2)],[.O 0,.C 1 ((q.1.map aa))]⟩) (λ(b38:(List Int))=>⟨[],[.O 0,.C 1 ((b38.map aa))]⟩) [ok 0,ok 1] (.b (.b (.t [ok 0,ok 1]) (.t [ok 0,ok 1])) (.t [ok 0,ok 1])) (.t [ok 0,ok 1])) (.t [ok 0,ok 1]))) (.t [ok 0])) (.l 2 1 (λ(q:((List Int) × Int))=>⟨[.k 13,.p 4,.s (.own 1 0),.p 45,.k 3,.p 2,.s (aa q.2),.p 15],[.o 0,.n 1 ((q.1.map aa))]⟩) (λ(b55:(List Int))=>⟨[.k 17,.s (.own 0 0),.p 45],[.n 1 ((b55.map aa))]⟩) [ok 0,on 1] (.b (.j 1 (λ(j52:(List Int))=>⟨[.k 13,.p 56],[.o 0,.c 1 ((j52.map aa))]⟩) (.b (.t [ok 0,ov 1 1]) (.t [ok 0,ok 1])) (.t [ok 0,ok 1])) (.t [ok 1])) .o)))⟩
instance {t0 t1 t2 t3 r}:Con (kc t0 t1 t2 t3=some r) (Den Tryz.prog 21 [Ib t0,aa t1,aa t2,aa t3] (.tup [ob r.1,ba r.2.1,aa r.2.2])):=⟨λh=>by
 refine dk 102 k21 ?_
 simp only[k21,Kf.of,zs,ze]
 unfold kc at h
 exact pg (And.intro @Tc.eq_1 (And.intro @Pg.eq_1 (And.intro @nk.eq_1 (And.intro @Og.eq_1 (And.intro @Qg.eq_1 (And.intro @k49.eq_1 @k47.eq_1)))))) (.b .o (.z 1 (.j 1 (λ(j7:Bool)=>⟨[.k 1,.p 7,.k 40,.s (ba j7),.p 57],[.o 0]⟩) (.b (.b (.b (.t [ok 0]) (.t [ok 0])) (.t [ok 0])) (.t [ok 0])) (.b .o (.b .o (.l 2 0 (λ(q:((List Int) × Bool))=>⟨[.k 2,.p 1,.k 10,.p 1,.k 1,.p 2,.s (ba q.2),.p 30],[.c 1 ((q.1.map aa))]⟩) (λ(_:Unit)=>⟨[],[]⟩) [ok 1] (.b (.i k49 1 37 (λ(i29:(List GValue))=>⟨[.s (.own 1 0)],[.O 0,.n 3 ((i29.map ka))]⟩) (.l 2 1 (λ(q:((List GValue) × Int))=>⟨[.k 1,.p 2,.k 4,.s (.own 1 0),.p 2,.k 1,.p 2,.s (aa q.2),.p 26],[.O 0,.n 3 ((q.1.map ka))]⟩) (λ(b28:(List GValue))=>⟨[.k 7,.s (.own 1 0),.p 2],[.O 0,.n 3 ((b28.map ka))]⟩) [ok 0,on 3] (.b (.t [ok 0,ov 1 1]) (.t [ok 0,ok 1])) (.t [ok 0,ok 1])) (.z 1 (.j 1 (λ(j33:Bool)=>⟨[.k 2,.p 15,.k 1,.p 1,.k 85,.s (ba j33),.p 1],[.o 0]⟩) (.b (.t [ok 0]) (.t [ok 0])) (.b .o (.i k47 2 30 (λ(q:((List Int) × Bool))=>⟨[.s (ba q.2)],[.C 0 ((q.1.map aa))]⟩) (.l 2 1 (λ(q:((List Int) × Int))=>⟨[.p 4,.k 1,.s (aa q.2)],[.C 0 ((q.1.map aa))]⟩) (λ(b46:(List Int))=>⟨[],[.C 0 ((b46.map aa))]⟩) [ok 0] (.b (.b (.t [ok 0]) (.t [ok 0])) (.t [ok 0])) (.t [ok 0])) (.t [ok 0])))))) (.t [])) .o))))))⟩
instance {r}:Con (bl=some r) (Den Tryz.prog 15 [] (ba r)):=⟨λh=>by
 refine dk 54 k15 ?_
 simp only[k15,Kf.of,zs,ze]
 unfold bl at h
 exact pg trivial (.z 4 (.j 1 (λ(j15:Bool)=>⟨[.s (ba j15)],[]⟩) (.b (.b (.b (.b (.b (.b (.t []) (.t [])) (.t [])) (.t [])) (.t [])) (.t [])) (.t [])) .o))⟩
theorem Wn{t0 t1 r} (h:Bf t0 t1=some r):Den Tryz.prog 5 [Ib t0,PC t1] (ba r):=by
 refine dk 50 k5 ?_
 simp only[k5,Kf.of,zs,ze]
 unfold Bf at h
 exact pg trivial (.b .o (.z 2 (.j 1 (λ(j10:Bool)=>⟨[.k 4,.s (ba j10)],[]⟩) (.b (.b (.t []) (.t [])) (.t [])) .o)))
instance {t0 t1 r}:Con (Bf t0 t1=some r) (Den Tryz.prog 5 [Ib t0,PC t1] (ba r)):=⟨Wn⟩
end Go.Proofs.Dev
