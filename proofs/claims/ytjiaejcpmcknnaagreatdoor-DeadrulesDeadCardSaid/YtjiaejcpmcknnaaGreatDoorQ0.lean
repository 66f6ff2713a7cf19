/-
  Contracts of the functions: each answers as its plain partial function says.
-/
import Derived.Test.YtjiaejcpmcknnaaGreatDoorK
import Derived.Test.YtjiaejcpmcknnaaGreatDoorG
import Derived.Test.YtjiaejcpmcknnaaGreatDoorPD
import Derived.Test.YtjiaejcpmcknnaaGreatDoorH1
import Derived.Test.YtjiaejcpmcknnaaGreatDoorH2
set_option linter.all false
set_option maxHeartbeats 1000000
set_option maxRecDepth 10000
namespace Go.Proofs.Dev
open Go Go.Tm
instance {t0 r}:Con (Rp t0=some r) (Den Tryz.prog 71 [Uc t0] (aa r)):=⟨λh=>by
 refine dk 23 k71 ?_
 simp only[k71,Kf.of,zs,ze]
 unfold Rp at h
 exact pg @Tk.eq_1 (.l 2 1 (λ(q:(Int × Int))=>⟨[.k 3,.s (aa q.1),.p 4,.s (aa q.2),.p 15],[]⟩) (λ(b10:Int)=>⟨[.k 3,.s (aa b10),.p 2],[]⟩) [] (.b (.e 1 (λ(j7:Int)=>⟨[.k 3,.s (aa j7),.p 5],[]⟩) (.b .o (.b (.t []) (.t []))) (.t [])) (.t [])) .o)⟩
instance {t0 r}:Con (Yf t0=some r) (Den Tryz.prog 98 [aa t0] (ba r)):=⟨λh=>by
 refine dk 8 k98 ?_
 simp only[k98,Kf.of,zs,ze]
 unfold Yf at h
 exact pg trivial (.z 1 (.j 1 (λ(j2:Bool)=>⟨[.k 2,.s (ba j2),.p 6],[]⟩) (.b (.t []) (.t [])) .o))⟩
instance {t0 t1 r}:Con (Rh t0 t1=some r) (Den Tryz.prog 117 [ea t0,aa t1] (ea r)):=⟨λh=>by
 refine dk 22 F4 ?_
 simp only[F4,Kf.of,zs,ze]
 unfold Rh at h
 exact pg @We.eq_1 (.l 2 1 (λ(q:((List Int) × Int))=>⟨[.k 1,.p 3,.k 1,.s (.own 0 0),.p 4,.s (aa q.2),.p 13],[.n 1 ((q.1.map aa))]⟩) (λ(b10:(List Int))=>⟨[.k 5,.s (.own 0 0),.p 2],[.n 1 ((b10.map aa))]⟩) [on 1] (.b (.j 1 (λ(j7:(List Int))=>⟨[.k 1,.p 10],[.c 0 ((j7.map aa))]⟩) (.b (.t [ov 0 1]) (.t [ok 0])) (.t [ok 0])) (.t [ok 0])) .o)⟩
theorem pA{t0:(List (List Int))}{t1:Int}{r:List Int}(h:Bp t0 t1=some r):Den Tryz.prog 120 [Uc t0,aa t1] (ea r):=by
 refine dk 60 G4 ?_;simp only[G4,Kf.of,zs,ze];unfold Bp at h;refine ss (rg ?_);(try simp only[zz]);refine ss (rg ?_);obtain⟨x1,a1,h⟩:=bs h;obtain⟨f2,f3,f4,f5,f6⟩:=QP (e:=ba) a1;(try simp only[zz]at f5 f6);(try simp only[zz,f2,f3,f4,f5,f6]);refine ss (rg ?_);(try simp only[zz]);refine ss ?_;obtain⟨y7,h8,h⟩:=bs h;refine lm h8 (λq=>⟨Uc t0::ds 4 (.own 0 0::.own 1 0::ds 55 []),[.live 1 0 (q.1.map ba),.live 1 0 (q.2.map aa)]⟩) (λb26=>⟨ds 5 (.own 0 0::ds 56 []),[.live 1 0 (b26.map ba)]⟩) (tz [ok 0,ok 1]) ?_ ?_
 .rintro⟨s2,s3⟩ z9 h10 h11;simp only[re]at h10;refine ss (ss (rg ?_));(try simp only[zz]);refine cd rfl ?_;(try simp only[zz]);refine gi h10 (λc4 h10=>?_) λc4 h10=>?_
  .refine sk ?_;(try simp only[zz,c4]);refine bk (ss (rg ?_));obtain⟨x5,f13,f14,f15,h10⟩:=bO h10;(try simp only[zz,f13,f14,f15]);refine ss (rg ?_);obtain⟨x6,a16,h10⟩:=bs h10;obtain⟨f17,f18,f19⟩:=VK (e:=aa) a16;(try simp only[zz]at f19);(try simp only[zz,f17,f18,f19]);refine ss (rg ?_);obtain⟨x7,f21,f22,h10⟩:=bI h10;(try simp only[zz,f21,f22]);obtain⟨y23,h24,h10⟩:=bs h10;refine lm h24 (λq=>⟨Uc t0::ds 4 (.own 0 0::.own 1 0::ds 22 (ea x7::aa (x7.length:Int)::aa q.2.2::ds 30 [])),[.live 1 0 (q.1.map ba),.live 1 0 (q.2.1.map aa)]⟩) (λq=>⟨Uc t0::ds 4 (.own 0 0::.own 1 0::ds 55 []),[.live 1 0 (q.1.map ba),.live 1 0 (q.2.map aa)]⟩) (tz [ok 0,ov 1 1]) ?_ ?_
   .rintro⟨s8,s9,s10⟩ z25 h26 h27;simp only[Rf]at h26;refine ss (rg ?_);(try simp only[zz]);refine ss (cd rfl ?_);(try simp only[zz]);refine gi h26 (λc11 h26=>?_) λc11 h26=>?_
    .refine sk ?_;(try simp only[zz,c11]);refine jm h26 (λq=>⟨Uc t0::ds 4 (.own 0 0::.own 1 0::ds 22 (ea x7::aa (x7.length:Int)::aa s10::ds 30 [])),[.live 1 0 (q.1.map ba),.live 1 0 (q.2.map aa)]⟩) (λz29 h28=>?_) λz29 h28 h26=>?_
     .refine bk (ss (rg ?_));obtain⟨x12,f31,f32,h28⟩:=bI h28;(try simp only[zz,f31,f32]);refine ss (rg ?_);obtain⟨x13,f34,f35,f36,h28⟩:=bO h28;(try simp only[zz,f34,f35,f36]);refine cd rfl ?_;(try simp only[zz,f34,f35,f36]);refine gi h28 (λc14 h28=>?_) λc14 h28=>?_
      .refine ss (rg ?_);obtain⟨x15,a37,h28⟩:=bs h28;obtain⟨f38,f39⟩:=pQ (e:=ba) a37;(try simp only[zz]at f39);(try simp only[zz,f34,f35,f36,f38,f39]);refine rg ?_;obtain⟨x16,a40,h28⟩:=bs h28;obtain⟨f41,f42⟩:=tF (e:=aa) a40;(try simp only[zz]at f41 f42);(try simp only[zz,f41,f42]);cases h28;exact tz [ok 0,ov 1 1]
      refine sk ?_;(try simp only[zz,f34,f35,f36,c14]);cases h28;exact tz [ok 0,ok 1]
     obtain⟨j17,j18⟩:=z29;dsimp only at h26;refine rg ?_;(try simp only[zz]);cases h26;exact tz [ok 0,ok 1]
    refine xt ?_;(try simp only[zz,c11]);cases h26;exact tz [ok 0,ok 1]
   rintro⟨b22,b23⟩ rfl;dsimp only at h10;(try simp only[zz]);cases h10;exact tz [ok 0,ok 1]
  refine xt ?_;(try simp only[zz,c4]);cases h10;exact tz [ok 0]
 rintro b26 rfl;dsimp only at h;(try simp only[zz]);refine ss (rg ?_);(try simp only[zz]);refine ss (ss (rg ?_));(try simp only[zz]);obtain⟨y43,h44,h⟩:=bs h;refine lm h44 (λq=>⟨ds 10 (.own 0 0::ds 37 (.own 1 0::aa (b26.length:Int)::aa q.2::ds 11 [])),[.live 1 0 (q.1.map aa),.live 1 0 (b26.map ba)]⟩) (λb36=>⟨ds 10 (.own 0 0::ds 51 []),[.live 1 0 (b36.map aa)]⟩) (tz [on 1,ok 0]) ?_ ?_
 .rintro⟨s27,s28⟩ z45 h46 h47;simp only[Sf]at h46;refine ss (rg ?_);(try simp only[zz]);refine ss (cd rfl ?_);(try simp only[zz]);refine gi h46 (λc29 h46=>?_) λc29 h46=>?_
  .refine sk ?_;(try simp only[zz,c29]);refine jm h46 (λj33=>⟨ds 10 (.own 0 0::ds 37 (.own 1 0::aa (b26.length:Int)::aa s28::ds 11 [])),[.live 1 0 (j33.map aa),.live 1 0 (b26.map ba)]⟩) (λz49 h48=>?_) λj33 h48 h46=>?_
   .refine bk (ss (rg ?_));obtain⟨x30,f51,f52,f53,h48⟩:=bO h48;(try simp only[zz,f51,f52,f53]);refine ss (rg ?_);(try simp only[zz]);refine cd rfl ?_;(try simp only[zz]);refine gi h48 (λc31 h48=>?_) λc31 h48=>?_
    .refine rg ?_;obtain⟨x32,a54,h48⟩:=bs h48;obtain⟨f55,f56⟩:=tF (e:=aa) a54;(try simp only[zz]at f55 f56);(try simp only[zz,f55,f56]);cases h48;exact tz [ov 0 1,ok 1]
    refine sk ?_;(try simp only[zz,c31]);cases h48;exact tz [ok 0,ok 1]
   refine rg ?_;(try simp only[zz]);cases h46;exact tz [ok 0,ok 1]
  refine xt ?_;(try simp only[zz,c29]);cases h46;exact tz [ok 0]
 rintro b36 rfl;dsimp only at h;(try simp only[zz]);refine ss (rg ?_);(try simp only[zz]);cases h;exact rt ez
theorem MB{t0:(List (List Int))}{t1:Int}{r:List Int}(h:Vl t0 t1=some r):Den Tryz.prog 120 [Uc t0,aa t1] (ea r):=pA (rN h)
instance {t0 t1 r}:Con (Vl t0 t1=some r) (Den Tryz.prog 120 [Uc t0,aa t1] (ea r)):=⟨MB⟩
instance {t0 r}:Con (Ch t0=some r) (Den Tryz.prog 124 [ub t0] (ba r)):=⟨λh=>by
 refine dk 17 I4 ?_
 simp only[I4,Kf.of,zs,ze]
 unfold Ch at h
 exact pg trivial (.z 1 (.j 1 (λ(j3:Bool)=>⟨[.k 2,.s (ba j3),.p 15],[]⟩) (.b (.b (.t []) (.t [])) (.t [])) .o))⟩
theorem dv{t0}{t1:GRow->Option Bool}{k1:Nat}{q1:List D}(hc1:la q1=true)(hp1:∀ x0 r,t1 x0=some r->Den Tryz.prog k1 ([jg x0]++q1) (ba r)){r} (h:Qd t0 t1=some r):Den Tryz.prog 169 [Dr t0,.fn k1 [] q1] (.tup [aa r.1,ba r.2]):=by
 haveI I1:∀ x0 r,Con (t1 x0=some r) (Den Tryz.prog k1 ([jg x0]++q1) (ba r)):=λx0 r=>⟨hp1 x0 r⟩
 have s1:∀ f:D->D->Prop,Dv f q1 q1=True:=λ_=>Zh hc1
 have z1:∀ a b n,Nt a b n q1=q1:=λ_ _ _=>me _ _ _ _ hc1
 refine Den.at 18 PY.ok PY.nm (kD (HN hc1 oB)) rfl ?_
 simp only[PY,Kf.of,zs,ze]
 unfold Qd at h
 exact pg @Nd.eq_1 (.l 1 0 (λ(s1:Int)=>⟨[.k 1,.p 3,.k 4,.p 2,.s (aa s1),.p 9],[]⟩) (λ(_:Unit)=>⟨[],[]⟩) [] (.b (.b .o (.t [])) (.t [])) .o)
instance {r}:Con (Pe=some r) (Den Tryz.prog 186 [] (Vs r)):=⟨λh=>by
 refine dk 2 l6 ?_
 simp only[l6,Kf.of,zs,ze]
 unfold Pe at h
 exact pg trivial .o⟩
instance {t0 t1 t2 r}:Con (Eg t0 t1 t2=some r) (Den Tryz.prog 189 [Gd t0,aa t1,df t2] (ba r)):=⟨λh=>by
 refine dk 23 q6 ?_
 simp only[q6,Kf.of,zs,ze]
 unfold Eg at h
 exact pg @Ph.eq_1 (.l 1 0 (λ(s1:Int)=>⟨[.p 6,.k 1,.s (aa s1),.p 18],[]⟩) (λ(_:Unit)=>⟨[],[]⟩) [] (.z 1 (.j 1 (λ(j3:Bool)=>⟨[.p 16,.s (ba j3),.p 9],[]⟩) (.b (.t []) (.t [])) (.b (.b .o (.t [])) (.t [])))) .o)⟩
instance {t0 t1 r}:Con (Rb t0 t1=some r) (Den Tryz.prog 196 [Ea t0,ta t1] (ba r)):=⟨λh=>by
 refine dk 101 C6 ?_
 simp only[C6,Kf.of,zs,ze]
 unfold Rb at h
 exact pg trivial (.b (.j 1 (λ(j4:Bool)=>⟨[.k 4,.s (ba j4)],[]⟩) (.b (.t []) (.t [])) .o) (.b (.j 1 (λ(j7:Bool)=>⟨[.k 4,.s (ba j7)],[]⟩) (.b (.t []) (.t [])) .o) (.b (.j 1 (λ(j10:Bool)=>⟨[.k 4,.s (ba j10)],[]⟩) (.b (.t []) (.t [])) .o) (.b (.j 1 (λ(j13:Bool)=>⟨[.k 4,.s (ba j13)],[]⟩) (.b (.t []) (.t [])) .o) (.b .o (.b .o (.j 1 (λ(j19:Bool)=>⟨[.k 2,.p 2,.k 79,.s (ba j19),.p 19],[.o 0,.o 1]⟩) (.b (.t [ok 0,ok 1]) (.b (.t [ok 0,ok 1]) (.b (.t [ok 0,ok 1]) (.t [ok 0,ok 1])))) (.b (.j 1 (λ(j23:Bool)=>⟨[.k 4,.s (ba j23),.p 78],[]⟩) (.b (.b (.t []) (.t [])) (.t [])) .o) .o))))))))⟩
instance {t0 t1 r}:Con (Dm t0 t1=some r) (Den Tryz.prog 201 [aa t0,ta t1] (.tup [qa r.1,aa r.2])):=⟨λh=>by
 refine dk 32 H6 ?_
 simp only[H6,Kf.of,zs,ze]
 unfold Dm at h
 exact pg trivial (.b .o (.z 2 (.j 1 (λ(j4:Bool)=>⟨[.k 4,.p 1,.k 1,.p 1,.k 23,.s (ba j4),.p 3],[.o 1]⟩) (.b (.t [ok 1]) (.t [ok 1])) .o)))⟩
instance {t0 r}:Con (Me t0=some r) (Den Tryz.prog 205 [aa t0] (ba r)):=⟨λh=>by
 refine dk 8 L6 ?_
 simp only[L6,Kf.of,zs,ze]
 unfold Me at h
 exact pg trivial (.z 1 (.j 1 (λ(j2:Bool)=>⟨[.k 2,.s (ba j2),.p 6],[]⟩) (.b (.t []) (.t [])) .o))⟩
instance {t0 r}:Con (Fp t0=some r) (Den Tryz.prog 234 [cI t0] (ba r)):=⟨λh=>by
 refine dk 8 k7 ?_
 simp only[k7,Kf.of,zs,ze]
 unfold Fp at h
 exact pg trivial (.z 1 (.j 1 (λ(j2:Bool)=>⟨[.k 2,.s (ba j2),.p 6],[]⟩) (.b (.t []) (.t [])) .o))⟩
theorem qm{t0}{t1:GEnum->Option Bool}{k1:Nat}{q1:List D}(hc1:la q1=true)(hp1:∀ x0 r,t1 x0=some r->Den Tryz.prog k1 ([bf x0]++q1) (ba r)){r} (h:Ub t0 t1=some r):Den Tryz.prog 235 [Jb t0,.fn k1 [] q1] (aa r):=by
 haveI I1:∀ x0 r,Con (t1 x0=some r) (Den Tryz.prog k1 ([bf x0]++q1) (ba r)):=λx0 r=>⟨hp1 x0 r⟩
 have s1:∀ f:D->D->Prop,Dv f q1 q1=True:=λ_=>Zh hc1
 have z1:∀ a b n,Nt a b n q1=q1:=λ_ _ _=>me _ _ _ _ hc1
 refine Den.at 17 TY.ok TY.nm (kD (HN hc1 oB)) rfl ?_
 simp only[TY,Kf.of,zs,ze]
 unfold Ub at h
 exact pg @Gc.eq_1 (.l 1 0 (λ(s1:Int)=>⟨[.p 4,.k 3,.p 1,.s (aa s1),.p 10],[]⟩) (λ(_:Unit)=>⟨[],[]⟩) [] (.b (.b .o (.t [])) (.t [])) .o)
theorem Pq{t0 t1 r} (h:ue t0 t1=some r):Den Tryz.prog 241 [Xa t0,cu t1] (ba r):=by
 refine dk 7 o7 ?_
 simp only[o7,Kf.of,zs,ze]
 unfold ue at h
 exact pg trivial .o
instance {t0 t1 r}:Con (ue t0 t1=some r) (Den Tryz.prog 241 [Xa t0,cu t1] (ba r)):=⟨Pq⟩
instance {t0 t1 r}:Con (Xo t0 t1=some r) (Den Tryz.prog 267 [Ea t0,Kc t1] (.tup [ka r.1,aa r.2])):=⟨λh=>by
  unfold Xo at h
  cases h⟩
instance {t0 t1 r}:Con (Cl t0 t1=some r) (Den Tryz.prog 279 [ea t0,aa t1] (ea r)):=⟨λh=>by
 refine dk 23 W7 ?_
 simp only[W7,Kf.of,zs,ze]
 unfold Cl at h
 exact pg @Jh.eq_1 (.l 2 1 (λ(q:((List Int) × Int))=>⟨[.p 4,.k 1,.p 1,.s (aa q.2)],[.c 0 ((q.1.map aa))]⟩) (λ(b10:(List Int))=>⟨[.k 5,.p 1],[.c 0 ((b10.map aa))]⟩) [ok 0] (.b (.j 1 (λ(j7:(List Int))=>⟨[.p 8],[.c 0 ((j7.map aa))]⟩) (.b (.t [ov 0 1]) (.t [ok 0])) (.t [ok 0])) (.t [ok 0])) .o)⟩
instance {t0 r}:Con (Sx t0=some r) (Den Tryz.prog 291 [aa t0] (.tup [aa r.1,aa r.2.1,aa r.2.2])):=⟨λh=>by
  unfold Sx at h
  cases h⟩
instance {t0 r}:Con (Hm t0=some r) (Den Tryz.prog 296 [aa t0] (ba r)):=⟨λh=>by
 refine dk 34 o8 ?_
 simp only[o8,Kf.of,zs,ze]
 unfold Hm at h
 exact pg trivial (.z 2 (.j 1 (λ(j5:Bool)=>⟨[.p 2,.k 14,.s (ba j5),.p 18],[]⟩) (.b (.b (.b (.t []) (.t [])) (.t [])) (.b (.t []) (.t []))) (.b .o (.j 1 (λ(j11:Bool)=>⟨[.k 2,.s (ba j11),.p 13],[]⟩) (.b (.b (.b (.b (.t []) (.t [])) (.t [])) (.t [])) (.t [])) .o))))⟩
instance {t0 r}:Con (Qe t0=some r) (Den Tryz.prog 302 [ba t0] (.tup [ka r.1,aa r.2])):=⟨λh=>by
 refine dk 7 r8 ?_
 simp only[r8,Kf.of,zs,ze]
 unfold Qe at h
 exact pg trivial (.z 2 (.j 1 (λ(j2:Int)=>⟨[.k 2,.p 1,.k 1,.s (aa j2),.p 3],[.o 0]⟩) (.b (.t [ok 0]) (.t [ok 0])) .o))⟩
instance {t0 t1 t2 r}:Con (ow t0 t1 t2=some r) (Den Tryz.prog 308 [aa t0,ka t1,ka t2] (.tup [ka r.1,aa r.2])):=⟨λh=>by
  unfold ow at h
  cases h⟩
instance {t0 r}:Con (uy t0=some r) (Den Tryz.prog 327 [aa t0] (ba r)):=⟨λh=>by
 refine dk 8 F8 ?_
 simp only[F8,Kf.of,zs,ze]
 unfold uy at h
 exact pg trivial (.z 1 (.j 1 (λ(j2:Bool)=>⟨[.k 2,.s (ba j2),.p 6],[]⟩) (.b (.t []) (.t [])) .o))⟩
end Go.Proofs.Dev
