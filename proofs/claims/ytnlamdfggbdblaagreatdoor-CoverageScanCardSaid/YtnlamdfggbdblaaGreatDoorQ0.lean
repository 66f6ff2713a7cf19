/-
  Contracts of the functions: each answers as its plain partial function says.
-/
import Derived.Test.YtnlamdfggbdblaaGreatDoorK
import Derived.Test.YtnlamdfggbdblaaGreatDoorG
import Derived.Test.YtnlamdfggbdblaaGreatDoorPD
import Derived.Test.YtnlamdfggbdblaaGreatDoorH2
set_option linter.all false
set_option maxHeartbeats 1000000
set_option maxRecDepth 10000
namespace Go.Proofs.Dev
open Go Go.Tm
instance {t0 r}:Con (bq t0=some r) (Den Tryz.prog 40 [vc t0] (aa r)):=⟨λh=>by
 refine dk 36 k40 ?_
 simp only[k40,Kf.of,zs,ze]
 unfold bq at h
 exact pg (And.intro @Yg.eq_1 @Hl.eq_1) (.l 1 0 (λ(s1:Int)=>⟨[.p 2,.k 1,.p 1,.s (aa s1),.p 32],[]⟩) (λ(_:Unit)=>⟨[.p 2,.k 1,.p 1],[]⟩) [] (.b (.b .o (.t [])) (.t [])) (.l 2 1 (λ(q:(Int × Int))=>⟨[.p 3,.s (aa q.1),.p 1,.s (aa q.2),.p 31],[]⟩) (λ(b14:Int)=>⟨[.k 3,.s (aa b14),.p 1],[]⟩) [] (.z 1 (.j 1 (λ(j9:Bool)=>⟨[.p 25,.s (ba j9),.p 11],[]⟩) (.b (.t []) (.t [])) (.b (.t []) (.t [])))) .o))⟩
instance {t0 r}:Con (Jp t0=some r) (Den Tryz.prog 49 [vc t0] (aa r)):=⟨λh=>by
 refine dk 23 k49 ?_
 simp only[k49,Kf.of,zs,ze]
 unfold Jp at h
 exact pg @Sk.eq_1 (.l 2 1 (λ(q:(Int × Int))=>⟨[.k 3,.s (aa q.1),.p 4,.s (aa q.2),.p 15],[]⟩) (λ(b10:Int)=>⟨[.k 3,.s (aa b10),.p 2],[]⟩) [] (.b (.e 1 (λ(j7:Int)=>⟨[.k 3,.s (aa j7),.p 5],[]⟩) (.b .o (.b (.t []) (.t []))) (.t [])) (.t [])) .o)⟩
instance {t0 r}:Con (kj t0=some r) (Den Tryz.prog 68 [Ud t0] (Mi r)):=⟨λh=>by
 refine dk 19 k68 ?_
 simp only[k68,Kf.of,zs,ze]
 unfold kj at h
 exact pg @Iq.eq_1 (.l 2 1 (λ(q:((List GType) × Int))=>⟨[.p 2,.k 1,.s (.own 0 0),.s (aa q.2),.p 15],[.n 2 ((q.1.map qa))]⟩) (λ(b8:(List GType))=>⟨[.k 3,.s (.own 0 0)],[.n 2 ((b8.map qa))]⟩) [on 2] (.b (.t [ov 0 1]) (.t [ok 0])) .o)⟩
instance {t0 r}:Con (Ci t0=some r) (Den Tryz.prog 72 [aa t0] (ba r)):=⟨λh=>by
 refine dk 8 k72 ?_
 simp only[k72,Kf.of,zs,ze]
 unfold Ci at h
 exact pg trivial (.z 1 (.j 1 (λ(j2:Bool)=>⟨[.k 2,.s (ba j2),.p 6],[]⟩) (.b (.t []) (.t [])) .o))⟩
instance {t0 r}:Con (Ie t0=some r) (Den Tryz.prog 84 [Ga t0] (ba r)):=⟨λh=>by
 refine dk 9 k84 ?_
 simp only[k84,Kf.of,zs,ze]
 unfold Ie at h
 exact pg trivial (.z 3 (.j 1 (λ(j4:Bool)=>⟨[.k 5,.s (ba j4),.p 4],[]⟩) (.b (.t []) (.b (.t []) (.b (.t []) (.t [])))) .o))⟩
instance {t0 r}:Con (sj t0=some r) (Den Tryz.prog 109 [aa t0] (aa r)):=⟨λh=>by
 refine dk 32 X2 ?_
 simp only[X2,Kf.of,zs,ze]
 unfold sj at h
 exact pg trivial (.z 2 (.j 1 (λ(j5:Bool)=>⟨[.p 2,.k 14,.s (ba j5),.p 16],[]⟩) (.b (.b (.b (.t []) (.t [])) (.t [])) (.b (.t []) (.t []))) (.b .o (.z 2 (.j 1 (λ(j12:Bool)=>⟨[.p 16,.k 1,.p 1,.s (ba j12),.p 14],[]⟩) (.b (.t []) (.b (.t []) (.b (.t []) (.b (.t []) (.b (.t []) (.t [])))))) (.b .o (.b .o (.z 1 (.j 1 (λ(j16:Bool)=>⟨[.k 32,.s (ba j16)],[]⟩) (.b (.t []) (.t [])) .o)))))))))⟩
instance {r}:Con (kf=some r) (Den Tryz.prog 141 [] (Ms r)):=⟨λh=>by
 refine dk 2 Y3 ?_
 simp only[Y3,Kf.of,zs,ze]
 unfold kf at h
 exact pg trivial .o⟩
instance {t0 t1 r}:Con (bc t0 t1=some r) (Den Tryz.prog 152 [Ga t0,ta t1] (ba r)):=⟨λh=>by
 refine dk 101 E4 ?_
 simp only[E4,Kf.of,zs,ze]
 unfold bc at h
 exact pg trivial (.b (.j 1 (λ(j4:Bool)=>⟨[.k 4,.s (ba j4)],[]⟩) (.b (.t []) (.t [])) .o) (.b (.j 1 (λ(j7:Bool)=>⟨[.k 4,.s (ba j7)],[]⟩) (.b (.t []) (.t [])) .o) (.b (.j 1 (λ(j10:Bool)=>⟨[.k 4,.s (ba j10)],[]⟩) (.b (.t []) (.t [])) .o) (.b (.j 1 (λ(j13:Bool)=>⟨[.k 4,.s (ba j13)],[]⟩) (.b (.t []) (.t [])) .o) (.b .o (.b .o (.j 1 (λ(j19:Bool)=>⟨[.k 2,.p 2,.k 79,.s (ba j19),.p 19],[.o 0,.o 1]⟩) (.b (.t [ok 0,ok 1]) (.b (.t [ok 0,ok 1]) (.b (.t [ok 0,ok 1]) (.t [ok 0,ok 1])))) (.b (.j 1 (λ(j23:Bool)=>⟨[.k 4,.s (ba j23),.p 78],[]⟩) (.b (.b (.t []) (.t [])) (.t [])) .o) .o))))))))⟩
instance {t0 t1 r}:Con (Gm t0 t1=some r) (Den Tryz.prog 174 [aa t0,ta t1] (.tup [qa r.1,aa r.2])):=⟨λh=>by
 refine dk 32 X4 ?_
 simp only[X4,Kf.of,zs,ze]
 unfold Gm at h
 exact pg trivial (.b .o (.z 2 (.j 1 (λ(j4:Bool)=>⟨[.k 4,.p 1,.k 1,.p 1,.k 23,.s (ba j4),.p 3],[.o 1]⟩) (.b (.t [ok 1]) (.t [ok 1])) .o)))⟩
instance {t0 t1 r}:Con (aq t0 t1=some r) (Den Tryz.prog 200 [Ga t0,Uc t1] (ba r)):=⟨λh=>by
 refine dk 79 F5 ?_
 simp only[F5,Kf.of,zs,ze]
 unfold aq at h
 exact pg trivial (.b (.j 1 (λ(j3:Bool)=>⟨[.k 4,.s (ba j3)],[]⟩) (.b (.t []) (.t [])) .o) (.b (.j 1 (λ(j8:Bool)=>⟨[.k 4,.s (ba j8)],[]⟩) (.b (.b (.t []) (.t [])) (.t [])) .o) (.b (.j 1 (λ(j11:Bool)=>⟨[.k 4,.s (ba j11)],[]⟩) (.b (.t []) (.t [])) .o) (.b .o (.j 1 (λ(j16:Bool)=>⟨[.k 2,.p 2,.k 61,.s (ba j16),.p 15],[.o 0,.o 1]⟩) (.b (.t [ok 0,ok 1]) (.b (.t [ok 0,ok 1]) (.b (.t [ok 0,ok 1]) (.t [ok 0,ok 1])))) (.b (.j 1 (λ(j19:Bool)=>⟨[.k 4,.s (ba j19),.p 60],[]⟩) (.b (.t []) (.t [])) .o) .o))))))⟩
instance {t0 r}:Con (Ts t0=some r) (Den Tryz.prog 205 [HH t0] (ba r)):=⟨λh=>by
 refine dk 8 J5 ?_
 simp only[J5,Kf.of,zs,ze]
 unfold Ts at h
 exact pg trivial (.z 1 (.j 1 (λ(j2:Bool)=>⟨[.k 2,.s (ba j2),.p 6],[]⟩) (.b (.t []) (.t [])) .o))⟩
instance {t0 t1 r}:Con (Pr t0 t1=some r) (Den Tryz.prog 208 [Da t0,aa t1] (ba r)):=⟨λh=>by
 refine dk 12 M5 ?_
 simp only[M5,Kf.of,zs,ze]
 unfold Pr at h
 exact pg trivial (.z 1 (.j 1 (λ(j2:Bool)=>⟨[.k 4,.s (ba j2),.p 9],[]⟩) (.b (.t []) (.t [])) .o))⟩
theorem Hq{t0 t1 r} (h:Me t0 t1=some r):Den Tryz.prog 223 [bb t0,Xt t1] (ba r):=by
 refine dk 7 W5 ?_
 simp only[W5,Kf.of,zs,ze]
 unfold Me at h
 exact pg trivial .o
instance {t0 t1 r}:Con (Me t0 t1=some r) (Den Tryz.prog 223 [bb t0,Xt t1] (ba r)):=⟨Hq⟩
theorem nA{t0:(List (List Int))}{t1:Int}{r:List Int}(h:zp t0 t1=some r):Den Tryz.prog 227 [vc t0,aa t1] (da r):=by
 refine dk 60 a6 ?_;simp only[a6,Kf.of,zs,ze];unfold zp at h;refine ss (rg ?_);(try simp only[zz]);refine ss (rg ?_);obtain⟨x1,a1,h⟩:=bs h;obtain⟨f2,f3,f4,f5,f6⟩:=yP (e:=ba) a1;(try simp only[zz]at f5 f6);(try simp only[zz,f2,f3,f4,f5,f6]);refine ss (rg ?_);(try simp only[zz]);refine ss ?_;obtain⟨y7,h8,h⟩:=bs h;refine lm h8 (λq=>⟨vc t0::ds 4 (.own 0 0::.own 1 0::ds 55 []),[.live 1 0 (q.1.map ba),.live 1 0 (q.2.map aa)]⟩) (λb26=>⟨ds 5 (.own 0 0::ds 56 []),[.live 1 0 (b26.map ba)]⟩) (tz [ok 0,ok 1]) ?_ ?_
 .rintro⟨s2,s3⟩ z9 h10 h11;simp only[Ke]at h10;refine ss (ss (rg ?_));(try simp only[zz]);refine cd rfl ?_;(try simp only[zz]);refine gi h10 (λc4 h10=>?_) λc4 h10=>?_
  .refine sk ?_;(try simp only[zz,c4]);refine bk (ss (rg ?_));obtain⟨x5,f13,f14,f15,h10⟩:=bO h10;(try simp only[zz,f13,f14,f15]);refine ss (rg ?_);obtain⟨x6,a16,h10⟩:=bs h10;obtain⟨f17,f18,f19⟩:=yK (e:=aa) a16;(try simp only[zz]at f19);(try simp only[zz,f17,f18,f19]);refine ss (rg ?_);obtain⟨x7,f21,f22,h10⟩:=bI h10;(try simp only[zz,f21,f22]);obtain⟨y23,h24,h10⟩:=bs h10;refine lm h24 (λq=>⟨vc t0::ds 4 (.own 0 0::.own 1 0::ds 22 (da x7::aa (x7.length:Int)::aa q.2.2::ds 30 [])),[.live 1 0 (q.1.map ba),.live 1 0 (q.2.1.map aa)]⟩) (λq=>⟨vc t0::ds 4 (.own 0 0::.own 1 0::ds 55 []),[.live 1 0 (q.1.map ba),.live 1 0 (q.2.map aa)]⟩) (tz [ok 0,ov 1 1]) ?_ ?_
   .rintro⟨s8,s9,s10⟩ z25 h26 h27;simp only[qg]at h26;refine ss (rg ?_);(try simp only[zz]);refine ss (cd rfl ?_);(try simp only[zz]);refine gi h26 (λc11 h26=>?_) λc11 h26=>?_
    .refine sk ?_;(try simp only[zz,c11]);refine jm h26 (λq=>⟨vc t0::ds 4 (.own 0 0::.own 1 0::ds 22 (da x7::aa (x7.length:Int)::aa s10::ds 30 [])),[.live 1 0 (q.1.map ba),.live 1 0 (q.2.map aa)]⟩) (λz29 h28=>?_) λz29 h28 h26=>?_
     .refine bk (ss (rg ?_));obtain⟨x12,f31,f32,h28⟩:=bI h28;(try simp only[zz,f31,f32]);refine ss (rg ?_);obtain⟨x13,f34,f35,f36,h28⟩:=bO h28;(try simp only[zz,f34,f35,f36]);refine cd rfl ?_;(try simp only[zz,f34,f35,f36]);refine gi h28 (λc14 h28=>?_) λc14 h28=>?_
      .refine ss (rg ?_);obtain⟨x15,a37,h28⟩:=bs h28;obtain⟨f38,f39⟩:=UP (e:=ba) a37;(try simp only[zz]at f39);(try simp only[zz,f34,f35,f36,f38,f39]);refine rg ?_;obtain⟨x16,a40,h28⟩:=bs h28;obtain⟨f41,f42⟩:=gF (e:=aa) a40;(try simp only[zz]at f41 f42);(try simp only[zz,f41,f42]);cases h28;exact tz [ok 0,ov 1 1]
      refine sk ?_;(try simp only[zz,f34,f35,f36,c14]);cases h28;exact tz [ok 0,ok 1]
     obtain⟨j17,j18⟩:=z29;dsimp only at h26;refine rg ?_;(try simp only[zz]);cases h26;exact tz [ok 0,ok 1]
    refine xt ?_;(try simp only[zz,c11]);cases h26;exact tz [ok 0,ok 1]
   rintro⟨b22,b23⟩ rfl;dsimp only at h10;(try simp only[zz]);cases h10;exact tz [ok 0,ok 1]
  refine xt ?_;(try simp only[zz,c4]);cases h10;exact tz [ok 0]
 rintro b26 rfl;dsimp only at h;(try simp only[zz]);refine ss (rg ?_);(try simp only[zz]);refine ss (ss (rg ?_));(try simp only[zz]);obtain⟨y43,h44,h⟩:=bs h;refine lm h44 (λq=>⟨ds 10 (.own 0 0::ds 37 (.own 1 0::aa (b26.length:Int)::aa q.2::ds 11 [])),[.live 1 0 (q.1.map aa),.live 1 0 (b26.map ba)]⟩) (λb36=>⟨ds 10 (.own 0 0::ds 51 []),[.live 1 0 (b36.map aa)]⟩) (tz [on 1,ok 0]) ?_ ?_
 .rintro⟨s27,s28⟩ z45 h46 h47;simp only[sg]at h46;refine ss (rg ?_);(try simp only[zz]);refine ss (cd rfl ?_);(try simp only[zz]);refine gi h46 (λc29 h46=>?_) λc29 h46=>?_
  .refine sk ?_;(try simp only[zz,c29]);refine jm h46 (λj33=>⟨ds 10 (.own 0 0::ds 37 (.own 1 0::aa (b26.length:Int)::aa s28::ds 11 [])),[.live 1 0 (j33.map aa),.live 1 0 (b26.map ba)]⟩) (λz49 h48=>?_) λj33 h48 h46=>?_
   .refine bk (ss (rg ?_));obtain⟨x30,f51,f52,f53,h48⟩:=bO h48;(try simp only[zz,f51,f52,f53]);refine ss (rg ?_);(try simp only[zz]);refine cd rfl ?_;(try simp only[zz]);refine gi h48 (λc31 h48=>?_) λc31 h48=>?_
    .refine rg ?_;obtain⟨x32,a54,h48⟩:=bs h48;obtain⟨f55,f56⟩:=gF (e:=aa) a54;(try simp only[zz]at f55 f56);(try simp only[zz,f55,f56]);cases h48;exact tz [ov 0 1,ok 1]
    refine sk ?_;(try simp only[zz,c31]);cases h48;exact tz [ok 0,ok 1]
   refine rg ?_;(try simp only[zz]);cases h46;exact tz [ok 0,ok 1]
  refine xt ?_;(try simp only[zz,c29]);cases h46;exact tz [ok 0]
 rintro b36 rfl;dsimp only at h;(try simp only[zz]);refine ss (rg ?_);(try simp only[zz]);cases h;exact rt ez
theorem IB{t0:(List (List Int))}{t1:Int}{r:List Int}(h:Wl t0 t1=some r):Den Tryz.prog 227 [vc t0,aa t1] (da r):=nA (TM h)
instance {t0 t1 r}:Con (Wl t0 t1=some r) (Den Tryz.prog 227 [vc t0,aa t1] (da r)):=⟨IB⟩
instance {t0 t1 r}:Con (Wo t0 t1=some r) (Den Tryz.prog 242 [Ga t0,Uc t1] (.tup [ka r.1,aa r.2])):=⟨λh=>by
  unfold Wo at h
  cases h⟩
instance {t0 r}:Con (Km t0=some r) (Den Tryz.prog 248 [aa t0] (ba r)):=⟨λh=>by
 refine dk 34 C6 ?_
 simp only[C6,Kf.of,zs,ze]
 unfold Km at h
 exact pg trivial (.z 2 (.j 1 (λ(j5:Bool)=>⟨[.p 2,.k 14,.s (ba j5),.p 18],[]⟩) (.b (.b (.b (.t []) (.t [])) (.t [])) (.b (.t []) (.t []))) (.b .o (.j 1 (λ(j11:Bool)=>⟨[.k 2,.s (ba j11),.p 13],[]⟩) (.b (.b (.b (.b (.t []) (.t [])) (.t [])) (.t [])) (.t [])) .o))))⟩
theorem Kk{t0}{t1:GField->Option Bool}{k1:Nat}{q1:List D}(hc1:ia q1=true)(hp1:∀ x0 r,t1 x0=some r->Den Tryz.prog k1 ([eb x0]++q1) (ba r)){r} (h:Lb t0 t1=some r):Den Tryz.prog 264 [Ud t0,.fn k1 [] q1] (aa r):=by
 haveI I1:∀ x0 r,Con (t1 x0=some r) (Den Tryz.prog k1 ([eb x0]++q1) (ba r)):=λx0 r=>⟨hp1 x0 r⟩
 have s1:∀ f:D->D->Prop,Zu f q1 q1=True:=λ_=>bg hc1
 have z1:∀ a b n,Ys a b n q1=q1:=λ_ _ _=>Ld _ _ _ _ hc1
 refine Den.at 17 vY.ok vY.nm (iB (xK hc1 oz)) rfl ?_
 simp only[vY,Kf.of,zs,ze]
 unfold Lb at h
 exact pg @Dc.eq_1 (.l 1 0 (λ(s1:Int)=>⟨[.p 4,.k 3,.p 1,.s (aa s1),.p 10],[]⟩) (λ(_:Unit)=>⟨[],[]⟩) [] (.b (.b .o (.t [])) (.t [])) .o)
instance {t0 r}:Con (Of t0=some r) (Den Tryz.prog 274 [ba t0] (ka r)):=⟨λh=>by
 refine dk 5 P6 ?_
 simp only[P6,Kf.of,zs,ze]
 unfold Of at h
 exact pg trivial .o⟩
instance {t0 t1 t2 r}:Con (Tv t0 t1 t2=some r) (Den Tryz.prog 276 [Ga t0,ka t1,ka t2] (.tup [ka r.1,aa r.2])):=⟨λh=>by
  unfold Tv at h
  cases h⟩
instance {t0 t1 r}:Con (Vq t0 t1=some r) (Den Tryz.prog 284 [aa t0,aa t1] (ba r)):=⟨λh=>by
 refine dk 12 U6 ?_
 simp only[U6,Kf.of,zs,ze]
 unfold Vq at h
 exact pg trivial (.z 1 (.j 1 (λ(j2:Bool)=>⟨[.k 4,.s (ba j2),.p 9],[]⟩) (.b (.t []) (.t [])) .o))⟩
instance {t0 t1 r}:Con (qn t0 t1=some r) (Den Tryz.prog 285 [aa t0,aa t1] (.tup [aa r.1,aa r.2.1,ba r.2.2])):=⟨λh=>by
 refine dk 60 V6 ?_
 simp only[V6,Kf.of,zs,ze]
 unfold qn at h
 exact pg trivial (.z 2 (.j 1 (λ(j2:Int)=>⟨[.p 4,.k 3,.s (.v (.int .u64 j2)),.p 4],[]⟩) (.b (.t []) (.t [])) (.z 2 (.j 1 (λ(j5:Bool)=>⟨[.p 7,.k 1,.p 13,.k 13,.s (ba j5),.p 27],[]⟩) (.b (.t []) (.t [])) .o))))⟩
instance {t0 r}:Con (Wq t0=some r) (Den Tryz.prog 309 [aa t0] (ba r)):=⟨λh=>by
 refine dk 15 Y6 ?_
 simp only[Y6,Kf.of,zs,ze]
 unfold Wq at h
 exact pg trivial (.z 1 (.j 1 (λ(j3:Bool)=>⟨[.k 2,.s (ba j3),.p 13],[]⟩) (.b (.b (.t []) (.t [])) (.t [])) .o))⟩
end Go.Proofs.Dev
