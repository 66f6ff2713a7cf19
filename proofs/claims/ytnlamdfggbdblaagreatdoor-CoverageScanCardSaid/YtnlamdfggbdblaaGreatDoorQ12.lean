/-
  Contracts of the functions: each answers as its plain partial function says.
-/
import Derived.Test.YtnlamdfggbdblaaGreatDoorK
import Derived.Test.YtnlamdfggbdblaaGreatDoorG
import Derived.Test.YtnlamdfggbdblaaGreatDoorPD
import Derived.Test.YtnlamdfggbdblaaGreatDoorH2
import Derived.Test.YtnlamdfggbdblaaGreatDoorQ8
import Derived.Test.YtnlamdfggbdblaaGreatDoorQ9
import Derived.Test.YtnlamdfggbdblaaGreatDoorQ10
import Derived.Test.YtnlamdfggbdblaaGreatDoorQ11
set_option linter.all false
set_option maxHeartbeats 1000000
set_option maxRecDepth 10000
namespace Go.Proofs.Dev
open Go Go.Tm
instance {t0 t1 t2 t3 t4 r}:Con (Sf t0 t1 t2 t3 t4=some r) (Den Tryz.prog 22 [Jb t0,Da t1,da t2,aa t3,wb t4] (nb r)):=⟨λh=>by
 refine dk 61 k22 ?_
 simp only[k22,Kf.of,zs,ze]
 unfold Sf at h
 exact pg @Sd.eq_1 (.l 2 1 (λ(q:((List Bool) × Int))=>⟨[.k 6,.p 4,.k 1,.p 6,.k 8,.p 2,.s (aa q.2),.p 38],[.o 1,.c 2 ((q.1.map ba)),.o 3]⟩) (λ(b19:(List Bool))=>⟨[.k 11,.p 1],[.c 2 ((b19.map ba))]⟩) [ok 1,ok 2,ok 3] (.b (.j 1 (λ(j16:(List Bool))=>⟨[.k 6,.p 22],[.o 0,.c 1 ((j16.map ba)),.o 2]⟩) (.b (.t [ok 0,ok 1,ok 2]) (.a [[],[],[],[],[],[],[],[],[],[],[],[],[]] (.b (.t [ok 0,ok 1,ok 2]) (.t [ok 0,ok 1,ok 2])))) (.t [ok 0,ok 1,ok 2])) (.t [ok 1])) .o)⟩
instance {t0 r}:Con (Xm t0=some r) (Den Tryz.prog 76 [Jb t0] (Gd r)):=⟨λh=>by
 refine dk 67 k76 ?_
 simp only[k76,Kf.of,zs,ze]
 unfold Xm at h
 exact pg @Mg.eq_1 (.b .o (.l 1 0 (λ(s2:Int)=>⟨[.k 1,.p 7,.k 6,.p 2,.s (aa s2),.p 51],[.o 0,.o 1]⟩) (λ(_:Unit)=>⟨[.k 2,.p 6],[.o 1]⟩) [ok 0,ok 1] (.b (.z 4 (.j 2 (λ(q:(Int × Int))=>⟨[.k 1,.p 2,.k 2,.p 1,.k 8,.p 3],[.o 0,.o 1,.h 3 [.g [.s (aa q.1),.p 2,.s (aa q.2)]]]⟩) (.b (.t [ok 0,ok 1,ok 3]) (.j 1 (λ(j12:Bool)=>⟨[.k 1,.p 2,.k 2,.p 12,.k 19,.s (ba j12),.p 31],[.o 0,.o 1,.o 3]⟩) (.b (.t [ok 0,ok 1,ok 3]) (.t [ok 0,ok 1,ok 3])) (.b (.t [ok 0,ok 1,ok 2]) (.b (.b (.t [ok 0,ok 1,ok 2]) (.t [ok 0,ok 1,ok 2])) (.t [ok 0,ok 1,ok 2]))))) (.b .o (.t [ok 0,ok 1])))) (.t [ok 1])) .o))⟩
theorem GA{R97:((List GNode) -> Int -> GEnv -> Option (GValue × Int))} {R135:((List GNode) -> Int -> (List Int) -> GEnv -> Option (GValue × Int))} {t0 t1 t2 r} [∀ t0 t1 t2 r,Con (R97 t0 t1 t2=some r) (Den Tryz.prog 97 [ya t0,aa t1,Uc t2] (.tup [ka r.1,aa r.2]))] [∀ t0 t1 t2 t3 r,Con (R135 t0 t1 t2 t3=some r) (Den Tryz.prog 135 [ya t0,aa t1,da t2,Uc t3] (.tup [ka r.1,aa r.2]))] (h:Ai R97 R135 t0 t1 t2=some r):Den Tryz.prog 97 [ya t0,aa t1,Uc t2] (.tup [ka r.1,aa r.2]):=by
 refine dk 69 k97 ?_
 simp only[k97,Kf.of,zs,ze]
 unfold Ai at h
 exact pg @bj.eq_1 (.z 4 (.j 1 (λ(j5:Bool)=>⟨[.p 2,.k 3,.p 2,.k 1,.p 1,.k 22,.s (ba j5),.p 40],[.o 0,.o 1]⟩) (.b (.b (.t [ok 0,ok 1]) (.t [ok 0,ok 1])) (.t [ok 0,ok 1])) (.b .o (.l 2 1 (λ(q:((List GValue) × Int))=>⟨[.p 10,.s (.own 2 0),.s (aa q.2),.p 19],[.o 0,.o 1,.n 3 ((q.1.map ka))]⟩) (λ(b17:(List GValue))=>⟨[.p 8,.k 2,.s (.own 2 0)],[.o 0,.o 1,.n 3 ((b17.map ka))]⟩) [ok 0,ok 1,on 3] (.b (.a [[],[],[],[],[],[],[],[],[],[],[],[]] (.b .o (.t [ok 0,ok 1,ov 2 1]))) (.t [ok 0,ok 1,ok 2])) .o))))
theorem XB{R97:((List GNode) -> Int -> GEnv -> Option (GValue × Int))} {R135:((List GNode) -> Int -> (List Int) -> GEnv -> Option (GValue × Int))} {t0 t1 t2 t3 r} [∀ t0 t1 t2 r,Con (R97 t0 t1 t2=some r) (Den Tryz.prog 97 [ya t0,aa t1,Uc t2] (.tup [ka r.1,aa r.2]))] [∀ t0 t1 t2 t3 r,Con (R135 t0 t1 t2 t3=some r) (Den Tryz.prog 135 [ya t0,aa t1,da t2,Uc t3] (.tup [ka r.1,aa r.2]))] (h:uo R97 R135 t0 t1 t2 t3=some r):Den Tryz.prog 135 [ya t0,aa t1,da t2,Uc t3] (.tup [ka r.1,aa r.2]):=by
 refine dk 98 S3 ?_
 simp only[S3,Kf.of,zs,ze]
 unfold uo at h
 exact pg trivial (.b .o (.a [[],[],[],[],[],[],[],[],[],[],[]] (.b .o (.z 1 (.j 1 (λ(j8:Bool)=>⟨[.p 3,.k 4,.p 2,.k 1,.p 1,.k 30,.s (ba j8),.p 60],[.o 0,.o 1,.o 2]⟩) (.b (.t [ok 0,ok 1,ok 2]) (.t [ok 0,ok 1,ok 2])) (.b .o (.b .o (.b .o (.a [[],[],[],[],[],[],[],[],[],[],[]] (.b .o (.z 1 (.j 1 (λ(j22:Bool)=>⟨[.k 8,.p 2,.k 2,.p 1,.k 86,.s (ba j22),.p 2],[.o 1,.o 3]⟩) (.b (.t [ok 1,ok 3]) (.t [ok 1,ok 3])) .o))))))))))))
theorem Qo:∀n,(∀ t0 t1 t2 r,(Ea n).1 t0 t1 t2=some r->Den Tryz.prog 97 [ya t0,aa t1,Uc t2] (.tup [ka r.1,aa r.2]))/\(∀ t0 t1 t2 t3 r,(Ea n).2 t0 t1 t2 t3=some r->Den Tryz.prog 135 [ya t0,aa t1,da t2,Uc t3] (.tup [ka r.1,aa r.2]))
|0=>⟨λ_ _ _ _ h=>(nomatch h),λ_ _ _ _ _ h=>(nomatch h)⟩
|n+1=>by
 obtain⟨H0,H1⟩:=Qo n
 haveI I0:∀ t0 t1 t2 r,Con ((Ea n).1 t0 t1 t2=some r) (Den Tryz.prog 97 [ya t0,aa t1,Uc t2] (.tup [ka r.1,aa r.2])):=λt0 t1 t2 r=>⟨H0 t0 t1 t2 r⟩
 haveI I1:∀ t0 t1 t2 t3 r,Con ((Ea n).2 t0 t1 t2 t3=some r) (Den Tryz.prog 135 [ya t0,aa t1,da t2,Uc t3] (.tup [ka r.1,aa r.2])):=λt0 t1 t2 t3 r=>⟨H1 t0 t1 t2 t3 r⟩
 exact⟨λt0 t1 t2 r h=>GA (R97:=(Ea n).1) (R135:=(Ea n).2) h,λt0 t1 t2 t3 r h=>XB (R97:=(Ea n).1) (R135:=(Ea n).2) h⟩
theorem JD{t0 t1 t2 r} (h:Vs t0 t1 t2=some r):Den Tryz.prog 97 [ya t0,aa t1,Uc t2] (.tup [ka r.1,aa r.2]):=(Qo Gc).1 _ _ _ _ h
instance {t0 t1 t2 r}:Con (Vs t0 t1 t2=some r) (Den Tryz.prog 97 [ya t0,aa t1,Uc t2] (.tup [ka r.1,aa r.2])):=⟨JD⟩
theorem QE{t0 t1 t2 t3 r} (h:ID t0 t1 t2 t3=some r):Den Tryz.prog 135 [ya t0,aa t1,da t2,Uc t3] (.tup [ka r.1,aa r.2]):=(Qo Gc).2 _ _ _ _ _ h
instance {t0 t1 t2 t3 r}:Con (ID t0 t1 t2 t3=some r) (Den Tryz.prog 135 [ya t0,aa t1,da t2,Uc t3] (.tup [ka r.1,aa r.2])):=⟨QE⟩
instance {t0 t1 t2 r}:Con (ck t0 t1 t2=some r) (Den Tryz.prog 105 [Jb t0,aa t1,aa t2] (aa r)):=⟨λh=>by
 refine dk 141 T2 ?_
 simp only[T2,Kf.of,zs,ze]
 unfold ck at h
 exact pg @Xg.eq_1 (.b .o (.l 2 1 (λ(q:(Int × Int))=>⟨[.k 1,.p 5,.k 1,.p 2,.s (aa q.1),.s (aa q.2),.p 2],[.o 0,.o 1,.o 2]⟩) (λ(b14:Int)=>⟨[.k 1,.p 5,.k 1,.p 2,.s (aa b14)],[.o 0,.o 1,.o 2]⟩) [ok 0,ok 1,ok 2] (.b (.e 1 (λ(j11:Int)=>⟨[.k 1,.p 8,.s (aa j11),.p 17],[.o 0,.o 1,.o 2]⟩) (.b .o (.b (.t [ok 0,ok 1,ok 2]) (.t [ok 0,ok 1,ok 2]))) (.t [ok 0,ok 1,ok 2])) (.t [ok 0,ok 1,ok 2])) (.z 1 (.j 1 (λ(j16:Bool)=>⟨[.k 1,.p 61,.s (ba j16),.p 81],[.o 0,.o 1,.o 2]⟩) (.b (.t [ok 0,ok 1,ok 2]) (.t [ok 0,ok 1,ok 2])) (.b .o (.z 1 (.j 1 (λ(j22:Bool)=>⟨[.k 1,.p 1,.k 1,.p 59,.k 26,.s (ba j22),.p 55],[.o 0,.o 1,.o 2]⟩) (.b (.b (.b (.t [ok 0,ok 1,ok 2]) (.t [ok 0,ok 1,ok 2])) (.t [ok 0,ok 1,ok 2])) (.t [ok 0,ok 1,ok 2])) (.b .o (.z 1 (.j 1 (λ(j28:Bool)=>⟨[.k 1,.p 87,.k 23,.s (ba j28),.p 32],[.o 0,.o 1,.o 2]⟩) (.b (.b (.b (.t [ok 0,ok 1,ok 2]) (.t [ok 0,ok 1,ok 2])) (.t [ok 0,ok 1,ok 2])) (.t [ok 0,ok 1,ok 2])) (.b .o (.b .o (.b .o (.z 1 (.e 0 (λ(_:Unit)=>⟨[.k 7,.p 2,.k 2,.p 100],[.o 1,.o 2,.o 3]⟩) (.b (.b .o (.t [ok 1,ok 2,ok 3])) (.t [ok 1,ok 2,ok 3])) .o)))))))))))))))⟩
theorem AA{t0:GScope}{t1:Int}{t2:GSignature}{r:Int}(h:qk t0 t1 t2=some r):Den Tryz.prog 170 [Da t0,aa t1,ta t2] (aa r):=by
 refine dk 142 T4 ?_;simp only[T4,Kf.of,zs,ze];unfold qk at h;refine ss (rg ?_);(try simp only[zz]);refine ss (rg ?_);obtain⟨x1,f2,f3,h⟩:=bI h;(try simp only[zz,f2,f3]);refine ss (rg ?_);(try simp only[zz]);refine ss (ss (rg ?_));obtain⟨x2,a4,h⟩:=bs h;obtain⟨f5,f6,f7⟩:=jK (e:=bb) a4;(try simp only[zz]at f7);(try simp only[zz,f5,f6,f7]);obtain⟨y8,h9,h⟩:=bs h;refine lm h9 (λq=>⟨.dead::aa t1::.dead::.ref 0 0 0 0::.dead::.ref 1 0 0 0::.dead::.ref 2 0 0 0::aa q.1::ds 11 (Cf x2::aa (x2.length:Int)::aa q.2::ds 122 []),[.live 5 0 [Da t0],.live 6 0 [ta t2],.live 9 0 [bb x1]]⟩) (λb11=>⟨.dead::aa t1::.dead::.ref 0 0 0 0::.dead::.ref 1 0 0 0::.dead::.ref 2 0 0 0::aa b11::ds 136 [],[.live 5 0 [Da t0],.live 6 0 [ta t2],.live 9 0 [bb x1]]⟩) (tz [ok 0,ok 1,ok 2]) ?_ ?_
 .rintro⟨s3,s4⟩ z10 h11 h12;simp only[Ui]at h11;refine ss (rg ?_);(try simp only[zz]);refine ss (cd rfl ?_);(try simp only[zz]);refine gi h11 (λc5 h11=>?_) λc5 h11=>?_
  .refine sk ?_;(try simp only[zz,c5]);refine jm h11 (λj8=>⟨.dead::aa t1::.dead::.ref 0 0 0 0::.dead::.ref 1 0 0 0::.dead::.ref 2 0 0 0::aa j8::ds 11 (Cf x2::aa (x2.length:Int)::aa s4::ds 122 []),[.live 5 0 [Da t0],.live 6 0 [ta t2],.live 9 0 [bb x1]]⟩) (λz14 h13=>?_) λj8 h13 h11=>?_
   .refine bk (ss (rg ?_));obtain⟨x6,f16,f17,h13⟩:=bI h13;(try simp only[zz,f16,f17]);refine ss (rg ?_);(try simp only[zz]);refine cd rfl ?_;(try simp only[zz]);refine gi h13 (λc7 h13=>?_) λc7 h13=>?_
    .have e18:=eT c7;refine rg ?_;(try simp only[zz]);cases h13;exact tz [ok 0,ok 1,ok 2]
    have e19:=eF c7;refine sk ?_;(try simp only[zz,c7,e19]);cases h13;exact tz [ok 0,ok 1,ok 2]
   refine rg ?_;(try simp only[zz]);cases h11;exact tz [ok 0,ok 1,ok 2]
  refine xt ?_;(try simp only[zz,c5]);cases h11;exact tz [ok 0,ok 1,ok 2]
 rintro b11 rfl;dsimp only at h;(try simp only[zz]);refine ss (bk (ss (rg ?_)));obtain⟨x12,a20,h⟩:=bs h;simp only[zz];refine cq (Oo a20) ?_ (by simp only[zg]);(try simp only[zz]);refine cd rfl ?_;(try simp only[zz]);refine gi h (λc13 h=>?_) λc13 h=>?_
 .refine ss (rg ?_);(try simp only[zz]);cases h;exact rt ez
 refine ss (rg ?_);obtain⟨x14,a21,h⟩:=bs h;obtain⟨f22,f23,f24⟩:=jK (e:=bb) a21;(try simp only[zz]at f24);obtain⟨x15,a25,h⟩:=bs h;simp only[zz,f22,f23,f24];refine cv (Ek (q1:=[Xt x1]) (iB oz) (λx900 _ hb=>Hq hb) a25) ?_ rfl (by simp only[zg,c13,f22,f23,f24]);(try simp only[zz,f22,f23,f24]);refine cd rfl ?_;(try simp only[zz,f22,f23,f24]);refine gi h (λc16 h=>?_) λc16 h=>?_
 .refine ss (rg ?_);(try simp only[zz]);cases h;exact rt ez
 refine jm h (λj18=>⟨.dead::aa t1::.dead::.ref 0 0 0 0::.dead::.ref 1 0 0 0::.dead::.ref 2 0 0 0::aa b11::ds 37 (ba j18::ds 98 []),[.live 5 0 [Da t0],.live 6 0 [ta t2],.live 9 0 [bb x1]]⟩) (λz27 h26=>?_) λj18 h26 h=>?_
 .refine rg ?_;(try simp only[zz]);refine gi h26 (λc17 h26=>?_) λc17 h26=>?_
  ·(try simp only[zz,c17]);cases h26;exact tz [ok 0,ok 1,ok 2]
  (try simp only[zz,c17]);cases h26;exact tz [ok 0,ok 1,ok 2]
 refine cd rfl ?_;(try simp only[zz]);refine gi h (λc19 h=>?_) λc19 h=>?_
 .refine ss (rg ?_);(try simp only[zz]);cases h;exact rt ez
 refine jm h (λj24=>⟨ds 3 (.ref 0 0 0 0::.dead::.ref 1 0 0 0::.dead::.ref 2 0 0 0::aa b11::ds 49 (ba j24::ds 86 [])),[.live 5 0 [Da t0],.live 6 0 [ta t2],.live 9 0 [bb x1]]⟩) (λz29 h28=>?_) λj24 h28 h=>?_
 .refine dy Es ?_;(try simp only[zz,zy]);refine gi h28 (λc20 h28=>?_) λc20 h28=>?_
  .have e30:=nT c20;(try simp only[zz,c20,e30,zy]);refine gi h28 (λc21 h28=>?_) λc21 h28=>?_
   ·(try simp only[zz,c20,e30,c21,zy]);refine gi h28 (λc22 h28=>?_) λc22 h28=>?_
    .obtain⟨x23,f33,f34,h28⟩:=bI h28;(try simp only[zz,c20,e30,c21,c22,f33,f34,zy]);cases h28;exact tz [ok 0,ok 1,ok 2]
    (try simp only[zz,c20,e30,c21,c22,zy]);cases h28;exact tz [ok 0,ok 1,ok 2]
   (try simp only[zz,c20,e30,c21,zy]);cases h28;exact tz [ok 0,ok 1,ok 2]
  have e31:=nD c20;(try simp only[zz,c20,e31,zy]);cases h28;exact tz [ok 0,ok 1,ok 2]
 refine cd rfl ?_;(try simp only[zz]);refine gi h (λc25 h=>?_) λc25 h=>?_
 .refine ss (rg ?_);(try simp only[zz]);cases h;exact rt ez
 refine jm h (λj27=>⟨ds 3 (.ref 0 0 0 0::.dead::.ref 1 0 0 0::.dead::.ref 2 0 0 0::aa b11::ds 76 (ba j27::ds 59 [])),[.live 5 0 [Da t0],.live 6 0 [ta t2],.live 9 0 [bb x1]]⟩) (λz36 h35=>?_) λj27 h35 h=>?_
 .refine rg ?_;(try simp only[zz]);refine gi h35 (λc26 h35=>?_) λc26 h35=>?_
  ·(try simp only[zz,c26]);cases h35;exact tz [ok 0,ok 1,ok 2]
  (try simp only[zz,c26]);cases h35;exact tz [ok 0,ok 1,ok 2]
 refine cd rfl ?_;(try simp only[zz]);refine gi h (λc28 h=>?_) λc28 h=>?_
 .refine ss (rg ?_);(try simp only[zz]);cases h;exact rt ez
 refine jm h (λj31=>⟨ds 3 (.ref 0 0 0 0::.dead::.ref 1 0 0 0::.dead::.ref 2 0 0 0::aa b11::ds 85 (ba j31::ds 50 [])),[.live 5 0 [Da t0],.live 6 0 [ta t2],.live 9 0 [bb x1]]⟩) (λz38 h37=>?_) λj31 h37 h=>?_
 .refine rg ?_;(try simp only[zz]);refine gi h37 (λc29 h37=>?_) λc29 h37=>?_
  ·(try simp only[zz,c29]);refine gi h37 (λc30 h37=>?_) λc30 h37=>?_
   ·(try simp only[zz,c29,c30]);cases h37;exact tz [ok 0,ok 1,ok 2]
   (try simp only[zz,c29,c30]);cases h37;exact tz [ok 0,ok 1,ok 2]
  (try simp only[zz,c29]);cases h37;exact tz [ok 0,ok 1,ok 2]
 refine cd rfl ?_;(try simp only[zz]);refine gi h (λc32 h=>?_) λc32 h=>?_
 .refine ss (rg ?_);(try simp only[zz]);cases h;exact rt ez
 refine ss (rg ?_);(try simp only[zz]);refine cd rfl ?_;(try simp only[zz]);refine gi h (λc33 h=>?_) λc33 h=>?_
 .refine ss (rg ?_);(try simp only[zz]);cases h;exact rt ez
 refine ss (rg ?_);obtain⟨x34,a39,h⟩:=bs h;simp only[zz];refine cq (Dr a39) ?_ (by simp only[zg,c13,c16,c19,c25,c28,c32]);(try simp only[zz]);refine cd rfl ?_;(try simp only[zz]);refine gi h (λc35 h=>?_) λc35 h=>?_
 .refine ss (rg ?_);(try simp only[zz]);cases h;exact rt ez
 refine sk ?_;(try simp only[zz,c35]);obtain⟨z41,h40,h⟩:=bs h;refine tj (λ(q:Unit)=>⟨ds 3 (.ref 0 0 0 0::.dead::.ref 1 0 0 0::.dead::.ref 2 0 0 0::ds 137 []),[.live 5 0 [Da t0],.live 6 0 [ta t2],.live 9 0 [bb x1]]⟩) z41 ?_ ?_
 .refine ss (rg ?_);(try simp only[zz]);refine cd rfl ?_;(try simp only[zz]);refine gi h40 (λc36 h40=>?_) λc36 h40=>?_
  .refine ss (rg ?_);obtain⟨x37,a42,h40⟩:=bs h40;simp only[zz];refine cq (bp a42) ?_ (by simp only[zg,c13,c16,c19,c25,c28,c32,c35]);(try simp only[zz]);refine ss (rg ?_);(try simp only[zz]);refine cd rfl ?_;(try simp only[zz]);refine gi h40 (λc38 h40=>?_) λc38 h40=>?_
   .have e43:=nT c38;refine ss (rg ?_);(try simp only[zz]);cases h40;cases h;exact rt ez
   have e44:=nD c38;refine sk ?_;(try simp only[zz,c38,e44]);cases h40;exact tz [ok 0,ok 1,ok 2]
  refine sk ?_;(try simp only[zz,c36]);cases h40;exact tz [ok 0,ok 1,ok 2]
 rintro⟨⟩ rfl;dsimp only at h;refine ss (dy Es ?_);obtain⟨x39,f46,f47,h⟩:=bI h;obtain⟨x40,a48,h⟩:=bs h;simp only[zz,f46,f47,zy];refine cq (bp a48) ?_ (by simp only[zg,c13,c16,c19,c25,c28,c32,c35]);(try simp only[zz,f46,f47,zy]);cases h;exact rt ez
instance {t0 t1 t2 r}:Con (qk t0 t1 t2=some r) (Den Tryz.prog 170 [Da t0,aa t1,ta t2] (aa r)):=⟨AA⟩
instance {t0 t1 r}:Con (lp t0 t1=some r) (Den Tryz.prog 60 [ya t0,Uc t1] (.tup [ka r.1,aa r.2])):=⟨λh=>by
 refine dk 23 k60 ?_
 simp only[k60,Kf.of,zs,ze]
 unfold lp at h
 exact pg trivial .o⟩
instance {t0 t1 r}:Con (lj t0 t1=some r) (Den Tryz.prog 66 [Jb t0,aa t1] (Gd r)):=⟨λh=>by
 refine dk 123 k66 ?_
 simp only[k66,Kf.of,zs,ze]
 unfold lj at h
 exact pg (And.intro @qf.eq_1 (And.intro @Zf.eq_1 @rf.eq_1)) (.b .o (.b .o (.z 1 (.j 1 (λ(j10:Bool)=>⟨[.k 1,.p 12,.k 43,.s (ba j10),.p 68],[.o 0,.o 1,.o 2,.o 3]⟩) (.b (.b (.b (.t [ok 0,ok 1,ok 2,ok 3]) (.t [ok 0,ok 1,ok 2,ok 3])) (.t [ok 0,ok 1,ok 2,ok 3])) (.t [ok 0,ok 1,ok 2,ok 3])) (.b .o (.b .o (.b .o (.b .o (.l 1 0 (λ(s16:Int)=>⟨[.k 1,.p 5,.k 2,.s (aa s16),.p 47],[.o 0,.o 1,.o 2]⟩) (λ(_:Unit)=>⟨[.k 1,.p 1,.k 2,.p 2],[.o 1,.o 2]⟩) [ok 0,ok 1,ok 2] (.b (.b .o (.t [ok 0,ok 1,ok 2])) (.t [ok 1,ok 2])) (.l 1 0 (λ(s21:Int)=>⟨[.k 1,.p 9,.s (aa s21),.p 114],[.o 0,.o 1]⟩) (λ(_:Unit)=>⟨[.k 4,.p 1],[.o 0]⟩) [ok 0,ok 1] (.b (.l 1 0 (λ(s24:Int)=>⟨[.k 1,.p 11,.s (aa s24),.p 85],[.o 0,.o 1]⟩) (λ(_:Unit)=>⟨[.k 1,.p 10],[.o 0,.o 1]⟩) [ok 0,ok 1] (.b (.b .o (.t [ok 0,ok 1])) (.t [ok 0,ok 1])) (.t [ok 0,ok 1])) (.t [ok 0])) .o))))))))))⟩
instance {t0 c10 r}:Con (Wa t0 (λx900=>Yc x900 c10)=some r) (Den Tryz.prog 167 [gn t0,.fn 168 [] [Vo c10]] (ba r)):=⟨λh=>Hj (q1:=[Vo c10]) (iB oz) (λx900 _ hb=>Up hb) h⟩
theorem Az{t0 t1 r} (h:Vi t0 t1=some r):Den Tryz.prog 118 [Jb t0,aa t1] (.tup [aa r.1,aa r.2]):=by
 refine dk 161 D3 ?_
 simp only[D3,Kf.of,zs,ze]
 unfold Vi at h
 exact pg (And.intro @Jh.eq_1 (And.intro @Kh.eq_1 (And.intro @Mh.eq_1 @Nh.eq_1))) (.z 3 (.j 1 (λ(j8:Bool)=>⟨[.k 1,.p 3,.k 2,.p 2,.s (ba j8),.p 10],[.o 0,.o 1]⟩) (.b (.b (.t [ok 0,ok 1]) (.t [ok 0,ok 1])) (.t [ok 0,ok 1])) (.b .o (.b .o (.j 1 (λ(j16:Bool)=>⟨[.k 1,.p 6,.k 45,.s (ba j16),.p 110],[.o 0,.o 1]⟩) (.b (.b (.b (.t [ok 0,ok 1]) (.t [ok 0,ok 1])) (.t [ok 0,ok 1])) (.t [ok 0,ok 1])) (.b .o (.b .o (.b .o (.l 1 0 (λ(s20:Int)=>⟨[.k 1,.p 51,.k 35,.p 2,.s (aa s20),.p 73],[.o 0,.o 1]⟩) (λ(_:Unit)=>⟨[.k 1,.p 51],[.o 0,.o 1]⟩) [ok 0,ok 1] (.b (.b .o (.t [ok 0,ok 1])) (.t [ok 0,ok 1])) (.l 1 0 (λ(s27:Int)=>⟨[.k 1,.p 106,.k 1,.p 2,.s (aa s27),.p 52],[.o 0,.o 1]⟩) (λ(_:Unit)=>⟨[.k 1,.p 106],[.o 0,.o 1]⟩) [ok 0,ok 1] (.b (.b .o (.t [ok 0,ok 1])) (.t [ok 0,ok 1])) (.l 1 0 (λ(s35:Int)=>⟨[.k 6,.p 124,.k 5,.p 1,.s (aa s35),.p 26],[.o 1,.o 2]⟩) (λ(_:Unit)=>⟨[.k 6,.p 9],[.o 1]⟩) [ok 1,ok 2] (.b (.b .o (.t [ok 0,ok 1])) (.t [ok 0])) (.l 1 0 (λ(s40:Int)=>⟨[.k 6,.p 143,.k 2,.p 1,.s (aa s40),.p 10],[.o 0]⟩) (λ(_:Unit)=>⟨[],[]⟩) [ok 0] (.b (.b .o (.t [ok 0])) (.t [])) .o))))))))))))
instance {t0 t1 r}:Con (Vi t0 t1=some r) (Den Tryz.prog 118 [Jb t0,aa t1] (.tup [aa r.1,aa r.2])):=⟨Az⟩
instance {t0 t1 t2 t3 r}:Con (rn t0 t1 t2 t3=some r) (Den Tryz.prog 28 [Da t0,aa t1,aa t2,wb t3] (.tup [va r.1,ba r.2])):=⟨λh=>by
 refine dk 95 k28 ?_
 simp only[k28,Kf.of,zs,ze]
 unfold rn at h
 exact pg @Qm.eq_1 (.l 2 1 (λ(q:((List Bool) × Int))=>⟨[.k 2,.p 7,.k 1,.p 3,.s (.own 2 0),.s (aa q.2),.p 8],[.o 0,.o 1,.n 1 ((q.1.map ba))]⟩) (λ(b14:(List Bool))=>⟨[.k 3,.p 1,.k 4,.p 1,.k 1,.p 3,.s (.own 1 0)],[.o 1,.n 1 ((b14.map ba))]⟩) [ok 0,ok 1,on 1] (.b (.z 3 (.j 1 (λ(j10:Bool)=>⟨[.k 2,.p 13,.k 1,.s (ba j10),.p 14],[.o 0,.o 1,.o 2]⟩) (.b (.b (.t [ok 0,ok 1,ok 2]) (.t [ok 0,ok 1,ok 2])) (.t [ok 0,ok 1,ok 2])) (.t [ok 0,ok 1,ov 2 1]))) (.t [ok 1,ok 2])) .o)⟩
instance {t0 r}:Con (Gl t0=some r) (Den Tryz.prog 33 [Jb t0] (Gd r)):=⟨λh=>by
 refine dk 66 k33 ?_
 simp only[k33,Kf.of,zs,ze]
 unfold Gl at h
 exact pg (And.intro @ai.eq_1 (And.intro @di.eq_1 @ei.eq_1)) (.b .o (.l 1 0 (λ(s2:Int)=>⟨[.k 1,.p 2,.s (aa s2),.p 5],[.o 0,.o 1]⟩) (λ(_:Unit)=>⟨[.k 1,.p 2],[.o 0,.o 1]⟩) [ok 0,ok 1] (.b (.b .o (.t [ok 0,ok 1])) (.t [ok 0,ok 1])) (.b .o (.l 1 0 (λ(s8:Int)=>⟨[.k 1,.p 4,.s (aa s8),.p 22],[.o 0,.o 1]⟩) (λ(_:Unit)=>⟨[.k 1,.p 4],[.o 0,.o 1]⟩) [ok 0,ok 1] (.b (.b .o (.t [ok 0,ok 1])) (.t [ok 0,ok 1])) (.b .o (.l 1 0 (λ(s14:Int)=>⟨[.k 1,.p 6,.s (aa s14),.p 39],[.o 0,.o 1]⟩) (λ(_:Unit)=>⟨[.k 2,.p 5],[.o 1]⟩) [ok 0,ok 1] (.b (.b .o (.t [ok 0,ok 1])) (.t [ok 1])) .o))))))⟩
instance {t0 r}:Con (Wm t0=some r) (Den Tryz.prog 77 [Jb t0] (Gd r)):=⟨λh=>by
 refine dk 30 k77 ?_
 simp only[k77,Kf.of,zs,ze]
 unfold Wm at h
 exact pg @Lg.eq_1 (.b .o (.l 1 0 (λ(s2:Int)=>⟨[.k 1,.p 5,.k 7,.p 1,.s (aa s2),.p 16],[.o 0,.o 1]⟩) (λ(_:Unit)=>⟨[.k 2,.p 4],[.o 1]⟩) [ok 0,ok 1] (.b (.b .o (.t [ok 0,ok 1])) (.t [ok 1])) .o))⟩
instance {t0 t1 t2 t3 r}:Con (qp t0 t1 t2 t3=some r) (Den Tryz.prog 15 [Jb t0,aa t1,aa t2,aa t3] (.tup [vc r.1,aa r.2])):=⟨λh=>by
 refine dk 104 k15 ?_
 simp only[k15,Kf.of,zs,ze]
 unfold qp at h
 exact pg (And.intro @Mm.eq_1 @Om.eq_1) (.b .o (.z 1 (.j 1 (λ(j7:Bool)=>⟨[.k 1,.p 7,.k 35,.s (ba j7),.p 64],[.o 0]⟩) (.b (.b (.b (.t [ok 0]) (.t [ok 0])) (.t [ok 0])) (.t [ok 0])) (.b .o (.z 1 (.j 1 (λ(j10:Bool)=>⟨[.k 1,.p 42,.k 6,.s (ba j10),.p 58],[.o 0]⟩) (.b (.t [ok 0]) (.t [ok 0])) (.b .o (.l 1 0 (λ(s15:Int)=>⟨[.k 4,.p 9,.s (aa s15),.p 35],[.o 0,.o 1,.o 2]⟩) (λ(_:Unit)=>⟨[.k 4,.p 8],[.o 0,.o 1]⟩) [ok 0,ok 1,ok 2] (.b (.b .o (.t [ok 0,ok 1,ok 2])) (.t [ok 0,ok 1])) (.l 2 1 (λ(q:((List (List Int)) × Int))=>⟨[.k 4,.p 10,.s (.own 2 0),.s (aa q.2),.p 92],[.o 0,.o 1,.n 1 ((q.1.map da))]⟩) (λ(b34:(List (List Int)))=>⟨[.k 14,.s (.own 0 0)],[.n 1 ((b34.map da))]⟩) [ok 0,ok 1,on 1] (.b (.j 1 (λ(j31:(List (List Int)))=>⟨[.k 4,.p 71],[.o 0,.o 1,.c 2 ((j31.map da))]⟩) (.b (.t [ok 0,ok 1,ov 2 1]) (.t [ok 0,ok 1,ov 2 1])) (.t [ok 0,ok 1,ok 2])) (.t [ok 2])) .o)))))))))⟩
instance {t0 r}:Con (fo t0=some r) (Den Tryz.prog 42 [Jb t0] (Gd r)):=⟨λh=>by
 refine dk 18 k42 ?_
 simp only[k42,Kf.of,zs,ze]
 unfold fo at h
 exact pg trivial .o⟩
instance {t0 t1 t2 t3 r}:Con (br t0 t1 t2 t3=some r) (Den Tryz.prog 6 [Jb t0,aa t1,aa t2,aa t3] (ba r)):=⟨λh=>by
 refine dk 32 k6 ?_
 simp only[k6,Kf.of,zs,ze]
 unfold br at h
 exact pg @Tq.eq_1 (.l 2 1 (λ(q:(Int × Int))=>⟨[.k 9,.p 1,.k 1,.s (aa q.1),.s (aa q.2)],[]⟩) (λ(b8:Int)=>⟨[.k 11,.s (aa b8)],[]⟩) [] (.b (.t []) (.t [])) .o)⟩
instance {t0 t1 t2 t3 r}:Con (re t0 t1 t2 t3=some r) (Den Tryz.prog 9 [Jb t0,aa t1,aa t2,aa t3] (.tup [fb r.1,aa r.2])):=⟨λh=>by
 refine dk 60 k9 ?_
 simp only[k9,Kf.of,zs,ze]
 unfold re at h
 exact pg (And.intro @Dd.eq_1 (And.intro @Fj.eq_1 (And.intro @bh.eq_1 @k31.eq_1))) (.b .o (.l 3 1 (λ(q:((List Int) × (List GCoverageHole) × Bool))=>⟨[.k 2,.p 2,.k 6,.p 1,.k 1,.p 2,.s (.own 2 0),.s (ba q.2.2),.p 2],[.o 1,.c 2 ((q.1.map aa)),.n 4 ((q.2.1.map va))]⟩) (λ(b33:(List GCoverageHole))=>⟨[.k 14,.s (.own 0 0)],[.n 4 ((b33.map va))]⟩) [ok 1,ok 2,on 4] (.b (.a [[],[],[],[],[],[],[],[],[],[],[],[],[]] (.j 1 (λ(j16:(List GCoverageHole))=>⟨[.k 2,.p 13],[.o 0,.o 1,.c 2 ((j16.map va))]⟩) (.j 1 (λ(j13:Bool)=>⟨[.k 2,.p 13,.k 1,.p 1,.k 38,.s (ba j13),.p 8],[.o 0,.o 1,.o 2,.o 3]⟩) (.b (.t [ok 0,ok 1,ok 2,ok 3]) (.t [ok 0,ok 1,ok 2,ok 3])) (.b (.t [ok 0,ok 1,ov 2 1]) (.t [ok 0,ok 1,ok 2]))) (.i k31 2 33 (λ(q:((List Int) × Bool))=>⟨[.s (ba q.2)],[.O 0,.C 1 ((q.1.map aa)),.O 2]⟩) (.l 2 1 (λ(q:((List Int) × Int))=>⟨[.p 4,.k 1,.s (aa q.2)],[.O 0,.C 1 ((q.1.map aa)),.O 2]⟩) (λ(b27:(List Int))=>⟨[],[.O 0,.C 1 ((b27.map aa)),.O 2]⟩) [ok 0,ok 1,ok 2] (.b (.b (.t [ok 0,ok 1,ok 2]) (.t [ok 0,ok 1,ok 2])) (.t [ok 0,ok 1,ok 2])) (.t [ok 0,ok 1,ok 2])) (.t [ok 0,ok 1,ok 2])))) (.t [ok 2])) .o))⟩
instance {t0 t1 t2 t3 r}:Con (pk t0 t1 t2 t3=some r) (Den Tryz.prog 17 [Jb t0,aa t1,aa t2,aa t3] (.tup [vc r.1,aa r.2])):=⟨λh=>by
 refine dk 103 k17 ?_
 simp only[k17,Kf.of,zs,ze]
 unfold pk at h
 exact pg (And.intro @Gi.eq_1 @Ii.eq_1) (.b .o (.z 1 (.j 1 (λ(j7:Bool)=>⟨[.k 1,.p 7,.k 40,.s (ba j7),.p 58],[.o 0]⟩) (.b (.b (.b (.t [ok 0]) (.t [ok 0])) (.t [ok 0])) (.t [ok 0])) (.b .o (.z 1 (.j 1 (λ(j10:Bool)=>⟨[.k 1,.p 47,.k 6,.s (ba j10),.p 52],[.o 0]⟩) (.b (.t [ok 0]) (.t [ok 0])) (.b .o (.l 1 0 (λ(s15:Int)=>⟨[.k 4,.p 50,.k 13,.p 2,.s (aa s15),.p 37],[.o 0,.o 1,.o 2]⟩) (λ(_:Unit)=>⟨[.k 4,.p 9],[.o 0,.o 1]⟩) [ok 0,ok 1,ok 2] (.b (.b .o (.t [ok 0,ok 1,ok 2])) (.t [ok 0,ok 1])) (.l 2 1 (λ(q:((List (List Int)) × Int))=>⟨[.k 4,.p 7,.k 1,.p 4,.s (.own 1 0),.p 61,.k 1,.p 2,.s (aa q.2),.p 25],[.o 0,.n 1 ((q.1.map da))]⟩) (λ(b33:(List (List Int)))=>⟨[.k 16,.s (.own 0 0),.p 61],[.n 1 ((b33.map da))]⟩) [ok 0,on 1] (.b (.z 3 (.j 1 (λ(j29:(List Int))=>⟨[.k 4,.p 13,.k 2,.s (da j29),.p 62],[.o 0,.o 1]⟩) (.b (.t [ok 0,ok 1]) (.t [ok 0,ok 1])) (.t [ok 0,ov 1 1]))) (.t [ok 1])) .o)))))))))⟩
instance {t0 c10 r}:Con (wa t0 (λx900=>jb x900 c10)=some r) (Den Tryz.prog 25 [fb t0,.fn 26 [] [Bf c10]] (ba r)):=⟨λh=>vf (q1:=[Bf c10]) (iB oz) (λx900 _ hb=>Dm hb) h⟩
theorem zv{t0 t1 t2 t3 r} (h:Ca t0 t1 t2 t3=some r):Den Tryz.prog 8 [Jb t0,aa t1,aa t2,aa t3] (.tup [fb r.1,aa r.2]):=by
 refine dk 103 k8 ?_
 simp only[k8,Kf.of,zs,ze]
 unfold Ca at h
 exact pg (And.intro @Ka.eq_1 (And.intro @zb.eq_1 (And.intro @fc.eq_1 (And.intro @yb.eq_1 (And.intro @Ab.eq_1 (And.intro @k21.eq_1 @k20.eq_1)))))) (.b .o (.l 3 1 (λ(q:((List GCoverageHole) × (List Int) × Bool))=>⟨[.k 3,.p 5,.k 2,.p 1,.k 1,.p 4,.s (.own 2 0),.p 1,.s (ba q.2.2),.p 6],[.o 0,.o 1,.n 4 ((q.1.map va)),.c 2 ((q.2.1.map aa))]⟩) (λ(b52:(List GCoverageHole))=>⟨[.k 16,.s (.own 0 0)],[.n 4 ((b52.map va))]⟩) [ok 0,ok 1,on 4,ok 2] (.b (.j 1 (λ(j34:(List GCoverageHole))=>⟨[.k 3,.p 15],[.o 0,.o 1,.c 2 ((j34.map va)),.o 3]⟩) (.i k21 1 37 (λ(i21:(List GValue))=>⟨[.s (.own 4 0)],[.O 0,.O 1,.O 2,.O 3,.n 3 ((i21.map ka))]⟩) (.l 2 1 (λ(q:((List GValue) × Int))=>⟨[.k 1,.p 2,.k 4,.s (.own 4 0),.p 2,.k 1,.p 2,.s (aa q.2),.p 26],[.O 0,.O 1,.O 2,.O 3,.n 3 ((q.1.map ka))]⟩) (λ(b20:(List GValue))=>⟨[.k 7,.s (.own 4 0),.p 2],[.O 0,.O 1,.O 2,.O 3,.n 3 ((b20.map ka))]⟩) [ok 0,ok 1,ok 2,ok 3,on 3] (.b (.t [ok 0,ok 1,ok 2,ok 3,ov 4 1]) (.t [ok 0,ok 1,ok 2,ok 3,ok 4])) (.t [ok 0,ok 1,ok 2,ok 3,ok 4])) (.z 1 (.d [.o 0,.o 1,.o 2,.o 3] [ok 0,ok 1,ok 2,ok 3] (.b (.t [ok 0,ok 1,ok 2,ok 3]) (.j 2 (λ(q:(Int × Int))=>⟨[.k 3,.p 15,.k 1,.p 1,.k 1,.p 31],[.o 0,.o 1,.o 2,.o 3,.h 4 [.g [.p 1,.s (aa q.1),.s (aa q.2),.p 1]]]⟩) (.b (.a [[],[],[],[],[],[],[],[],[],[6,7]] (.t [ok 0,ok 1,ok 2,ok 3,ok 4])) (.t [ok 0,ok 1,ok 2,ok 3,ok 4])) (.b (.t [ok 0,ok 1,ov 2 1,ok 3]) (.t [ok 0,ok 1,ok 2,ok 3]))))))) (.i k20 2 30 (λ(q:((List Int) × Bool))=>⟨[.s (ba q.2)],[.O 0,.O 1,.O 2,.C 3 ((q.1.map aa))]⟩) (.l 2 1 (λ(q:((List Int) × Int))=>⟨[.p 4,.k 1,.s (aa q.2)],[.O 0,.O 1,.O 2,.C 3 ((q.1.map aa))]⟩) (λ(b46:(List Int))=>⟨[],[.O 0,.O 1,.O 2,.C 3 ((b46.map aa))]⟩) [ok 0,ok 1,ok 2,ok 3] (.b (.b (.t [ok 0,ok 1,ok 2,ok 3]) (.t [ok 0,ok 1,ok 2,ok 3])) (.t [ok 0,ok 1,ok 2,ok 3])) (.t [ok 0,ok 1,ok 2,ok 3])) (.t [ok 0,ok 1,ok 2,ok 3]))) (.t [ok 2])) .o))
instance {t0 t1 t2 t3 r}:Con (Ca t0 t1 t2 t3=some r) (Den Tryz.prog 8 [Jb t0,aa t1,aa t2,aa t3] (.tup [fb r.1,aa r.2])):=⟨zv⟩
instance {t0 t1 t2 r}:Con (Rr t0 t1 t2=some r) (Den Tryz.prog 12 [Jb t0,aa t1,aa t2] (.tup [da r.1,da r.2])):=⟨λh=>by
 refine dk 53 k12 ?_
 simp only[k12,Kf.of,zs,ze]
 unfold Rr at h
 exact pg @Pm.eq_1 (.z 3 (.j 1 (λ(j2:Bool)=>⟨[.k 1,.p 5,.k 2,.p 13,.s (ba j2),.p 34],[.o 0]⟩) (.b (.t [ok 0]) (.t [ok 0])) (.b .o (.l 3 2 (λ(q:((List Int) × (List Int) × Int))=>⟨[.k 1,.p 7,.s (.own 1 0),.s (.own 2 0),.s (aa q.2.2),.p 10],[.o 0,.n 1 ((q.1.map aa)),.n 1 ((q.2.1.map aa))]⟩) (λ(q:((List Int) × (List Int)))=>⟨[.k 8,.s (.own 0 0),.s (.own 1 0)],[.n 1 ((q.1.map aa)),.n 1 ((q.2.map aa))]⟩) [ok 0,on 1,on 1] (.b (.j 2 (λ(q:((List Int) × (List Int)))=>⟨[.k 1,.p 21],[.o 0,.c 1 ((q.1.map aa)),.c 2 ((q.2.map aa))]⟩) (.b (.t [ok 0,ok 1,ov 2 1]) (.b (.t [ok 0,ov 1 1,ok 2]) (.t [ok 0,ok 1,ok 2]))) (.t [ok 0,ok 1,ok 2])) (.t [ok 1,ok 2])) .o))))⟩
instance {r}:Con (df=some r) (Den Tryz.prog 7 [] (ba r)):=⟨λh=>by
 refine dk 56 k7 ?_
 simp only[k7,Kf.of,zs,ze]
 unfold df at h
 exact pg trivial (.z 6 (.j 1 (λ(j11:Bool)=>⟨[.k 4,.p 1,.k 44,.s (ba j11),.p 6],[]⟩) (.b (.b (.b (.b (.t []) (.t [])) (.t [])) (.t [])) (.t [])) .o))⟩
instance {t0 t1 t2 r}:Con (Em t0 t1 t2=some r) (Den Tryz.prog 11 [Jb t0,aa t1,aa t2] (.tup [da r.1,da r.2])):=⟨λh=>by
 refine dk 53 k11 ?_
 simp only[k11,Kf.of,zs,ze]
 unfold Em at h
 exact pg @Ji.eq_1 (.z 2 (.j 1 (λ(j2:Bool)=>⟨[.k 1,.p 5,.k 15,.s (ba j2),.p 34],[.o 0]⟩) (.b (.t [ok 0]) (.t [ok 0])) (.b .o (.l 3 2 (λ(q:((List Int) × (List Int) × Int))=>⟨[.k 1,.p 7,.s (.own 1 0),.s (.own 2 0),.p 11,.k 7,.p 1,.s (aa q.2.2),.p 26],[.o 0,.n 1 ((q.1.map aa)),.n 1 ((q.2.1.map aa))]⟩) (λ(q:((List Int) × (List Int)))=>⟨[.k 8,.s (.own 0 0),.s (.own 1 0),.p 11],[.n 1 ((q.1.map aa)),.n 1 ((q.2.map aa))]⟩) [ok 0,on 1,on 1] (.b (.j 2 (λ(q:((List Int) × (List Int)))=>⟨[.k 1,.p 29],[.o 0,.c 1 ((q.1.map aa)),.c 2 ((q.2.map aa))]⟩) (.b (.t [ok 0,ok 1,ov 2 1]) (.b (.t [ok 0,ov 1 1,ok 2]) (.t [ok 0,ok 1,ok 2]))) (.t [ok 0,ok 1,ok 2])) (.t [ok 1,ok 2])) .o))))⟩
instance {t0 t1 t2 t3 r}:Con (Vf t0 t1 t2 t3=some r) (Den Tryz.prog 3 [Jb t0,aa t1,aa t2,aa t3] (ba r)):=⟨λh=>by
 refine dk 48 k3 ?_
 simp only[k3,Kf.of,zs,ze]
 unfold Vf at h
 exact pg trivial (.z 2 (.j 1 (λ(j4:Bool)=>⟨[.k 1,.p 7,.k 15,.s (ba j4),.p 28],[.o 0]⟩) (.b (.t [ok 0]) (.t [ok 0])) (.b .o (.z 2 (.j 1 (λ(j13:Bool)=>⟨[.k 8,.s (ba j13)],[]⟩) (.b (.b (.t []) (.t [])) (.t [])) .o)))))⟩
theorem Cad{t0 t1 t2 r} (h:wj t0 t1 t2=some r):Den Tryz.prog 4 [Jb t0,aa t1,aa t2] (ba r):=by
 refine dk 65 k4 ?_
 simp only[k4,Kf.of,zs,ze]
 unfold wj at h
 exact pg @Be.eq_1 (.b .o (.e 0 (λ(_:Unit)=>⟨[.k 1,.p 5],[.o 0]⟩) (.j 1 (λ(j5:Bool)=>⟨[.k 1,.p 5,.k 18,.s (ba j5),.p 43],[.o 0]⟩) (.b (.t [ok 0]) (.t [ok 0])) (.b (.l 1 0 (λ(s7:Int)=>⟨[.k 1,.p 6,.s (aa s7),.p 16],[.o 0]⟩) (λ(_:Unit)=>⟨[.k 1,.p 6],[.o 0]⟩) [ok 0] (.b (.b .o (.t [ok 0])) (.t [ok 0])) (.t [ok 0])) (.t [ok 0]))) (.z 2 (.j 1 (λ(j21:Bool)=>⟨[.k 6,.s (ba j21),.p 1],[]⟩) (.b (.b (.t []) (.t [])) (.t [])) .o))))
instance {t0 t1 t2 r}:Con (wj t0 t1 t2=some r) (Den Tryz.prog 4 [Jb t0,aa t1,aa t2] (ba r)):=⟨Cad⟩
end Go.Proofs.Dev
