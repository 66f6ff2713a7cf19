/-
  Contracts of the functions: each answers as its plain partial function says.
-/
import Derived.Test.YtjiaejcpmcknnaaGreatDoorK
import Derived.Test.YtjiaejcpmcknnaaGreatDoorG
import Derived.Test.YtjiaejcpmcknnaaGreatDoorPD
import Derived.Test.YtjiaejcpmcknnaaGreatDoorH1
import Derived.Test.YtjiaejcpmcknnaaGreatDoorH2
open Option.some renaming inj->nad
set_option linter.all false
set_option maxHeartbeats 1000000
set_option maxRecDepth 10000
namespace Go.Proofs.Dev
open Go Go.Tm
instance {t0 t1 r}:Con (Ji t0 t1=some r) (Den Tryz.prog 36 [Da t0,Da t1] (ba r)):=⟨λh=>by
 refine dk 22 k36 ?_
 simp only[k36,Kf.of,zs,ze]
 unfold Ji at h
 exact pg trivial (.z 1 (.j 1 (λ(j3:Bool)=>⟨[.k 4,.s (ba j3),.p 19],[]⟩) (.b (.b (.t []) (.t [])) (.t [])) .o))⟩
instance {t0 r}:Con (tr t0=some r) (Den Tryz.prog 71 [qb t0] (aa r)):=⟨λh=>by
 refine dk 23 k71 ?_
 simp only[k71,Kf.of,zs,ze]
 unfold tr at h
 exact pg @Dm.eq_1 (.l 2 1 (λ(q:(Int × Int))=>⟨[.k 3,.s (aa q.1),.p 4,.s (aa q.2),.p 15],[]⟩) (λ(b10:Int)=>⟨[.k 3,.s (aa b10),.p 2],[]⟩) [] (.b (.e 1 (λ(j7:Int)=>⟨[.k 3,.s (aa j7),.p 5],[]⟩) (.b .o (.b (.t []) (.t []))) (.t [])) (.t [])) .o)⟩
instance {t0 t1 r}:Con (sj t0 t1=some r) (Den Tryz.prog 75 [ka t0,ka t1] (aa r)):=⟨λh=>by
 refine dk 40 k75 ?_
 simp only[k75,Kf.of,zs,ze]
 unfold sj at h
 exact pg @Yf.eq_1 (.b .o (.b .o (.l 1 0 (λ(s3:Int)=>⟨[.k 1,.p 3,.k 11,.p 2,.s (aa s3),.p 24],[]⟩) (λ(_:Unit)=>⟨[],[]⟩) [] (.b (.z 3 (.j 1 (λ(j7:Bool)=>⟨[.k 1,.p 5,.k 9,.p 3,.k 10,.s (ba j7),.p 13],[]⟩) (.b (.t []) (.t [])) (.b .o (.j 1 (λ(j11:Bool)=>⟨[.k 1,.p 4,.k 10,.p 13,.k 12,.s (ba j11),.p 1],[]⟩) (.b (.t []) (.t [])) (.b .o (.t [])))))) (.t [])) .o)))⟩
instance {t0 r}:Con (Hj t0=some r) (Den Tryz.prog 100 [aa t0] (ba r)):=⟨λh=>by
 refine dk 8 Maa ?_
 simp only[Maa,Kf.of,zs,ze]
 unfold Hj at h
 exact pg trivial (.z 1 (.j 1 (λ(j2:Bool)=>⟨[.k 2,.s (ba j2),.p 6],[]⟩) (.b (.t []) (.t [])) .o))⟩
instance {t0 t1 r}:Con (bl t0 t1=some r) (Den Tryz.prog 102 [ka t0,aa t1] (ka r)):=⟨λh=>by
 refine dk 49 Oaa ?_
 simp only[Oaa,Kf.of,zs,ze]
 unfold bl at h
 exact pg (And.intro @Il.eq_1 @Jl.eq_1) (.l 2 1 (λ(q:((List Int) × Int))=>⟨[.p 4,.k 1,.s (.own 0 0),.s (aa q.2),.p 44],[.n 1 ((q.1.map aa))]⟩) (λ(b10:(List Int))=>⟨[.p 4,.k 1,.s (.own 0 0)],[.n 1 ((b10.map aa))]⟩) [on 1] (.b (.j 1 (λ(j7:(List Int))=>⟨[.p 8],[.c 0 ((j7.map aa))]⟩) (.b (.t [ov 0 1]) (.t [ok 0])) (.t [ok 0])) (.t [ok 0])) (.l 2 1 (λ(q:((List Int) × Int))=>⟨[.p 7,.s (aa q.2),.p 19],[.c 0 ((q.1.map aa))]⟩) (λ(b21:(List Int))=>⟨[.k 5,.p 2],[.c 0 ((b21.map aa))]⟩) [ov 0 1] (.b (.j 1 (λ(j18:(List Int))=>⟨[.p 31],[.c 0 ((j18.map aa))]⟩) (.b (.t [ov 0 1]) (.t [ok 0])) (.t [ok 0])) (.t [ok 0])) .o))⟩
instance {t0 r}:Con (rf t0=some r) (Den Tryz.prog 108 [La t0] (ba r)):=⟨λh=>by
 refine dk 9 Uaa ?_
 simp only[Uaa,Kf.of,zs,ze]
 unfold rf at h
 exact pg trivial (.z 3 (.j 1 (λ(j4:Bool)=>⟨[.k 5,.s (ba j4),.p 4],[]⟩) (.b (.t []) (.b (.t []) (.b (.t []) (.t [])))) .o))⟩
instance {t0 t1 r}:Con (Tb t0 t1=some r) (Den Tryz.prog 111 [ra t0,Vb t1] (ba r)):=⟨λh=>by
 refine dk 26 Xaa ?_
 simp only[Xaa,Kf.of,zs,ze]
 unfold Tb at h
 exact pg trivial (.z 3 (.j 1 (λ(j5:Bool)=>⟨[.k 1,.p 3,.k 2,.p 1,.s (ba j5),.p 20],[.o 0]⟩) (.b (.t [ok 0]) (.b (.t [ok 0]) (.b (.t [ok 0]) (.b (.t [ok 0]) (.t [ok 0]))))) (.b .o (.b (.j 1 (λ(j9:Bool)=>⟨[.k 4,.s (ba j9),.p 1],[]⟩) (.b (.t []) (.t [])) .o) .o))))⟩
instance {t0 t1 r}:Con (qj t0 t1=some r) (Den Tryz.prog 117 [ka t0,aa t1] (ka r)):=⟨λh=>by
 refine dk 22 dab ?_
 simp only[dab,Kf.of,zs,ze]
 unfold qj at h
 exact pg @Xf.eq_1 (.l 2 1 (λ(q:((List Int) × Int))=>⟨[.k 1,.p 3,.k 1,.s (.own 0 0),.p 4,.s (aa q.2),.p 13],[.n 1 ((q.1.map aa))]⟩) (λ(b10:(List Int))=>⟨[.k 5,.s (.own 0 0),.p 2],[.n 1 ((b10.map aa))]⟩) [on 1] (.b (.j 1 (λ(j7:(List Int))=>⟨[.k 1,.p 10],[.c 0 ((j7.map aa))]⟩) (.b (.t [ov 0 1]) (.t [ok 0])) (.t [ok 0])) (.t [ok 0])) .o)⟩
theorem UB{t0:(List (List Int))}{t1:Int}{r:List Int}(h:Vq t0 t1=some r):Den Tryz.prog 120 [qb t0,aa t1] (ka r):=by
 refine dk 60 gab ?_;simp only[gab,Kf.of,zs,ze];unfold Vq at h;refine ss (rg ?_);(try simp only[zz]);refine ss (rg ?_);obtain⟨x1,a1,h⟩:=bs h;obtain⟨f2,f3,f4,f5,f6⟩:=HL (e:=ba) a1;(try simp only[zz]at f5 f6);(try simp only[zz,f2,f3,f4,f5,f6]);refine ss (rg ?_);(try simp only[zz]);refine ss ?_;obtain⟨y7,h8,h⟩:=bs h;refine lm h8 (λq=>⟨qb t0::ds 4 (.own 0 0::.own 1 0::ds 55 []),[.live 1 0 (q.1.map ba),.live 1 0 (q.2.map aa)]⟩) (λb26=>⟨ds 5 (.own 0 0::ds 56 []),[.live 1 0 (b26.map ba)]⟩) (tz [ok 0,ok 1]) ?_ ?_
 .rintro⟨s2,s3⟩ z9 h10 h11;simp only[sf]at h10;refine ss (ss (rg ?_));(try simp only[zz]);refine cd rfl ?_;(try simp only[zz]);refine gi h10 (λc4 h10=>?_) λc4 h10=>?_
  .refine sk ?_;(try simp only[zz,c4]);refine bk (ss (rg ?_));obtain⟨x5,f13,f14,f15,h10⟩:=bO h10;(try simp only[zz,f13,f14,f15]);refine ss (rg ?_);obtain⟨x6,a16,h10⟩:=bs h10;obtain⟨f17,f18,f19⟩:=AO (e:=aa) a16;(try simp only[zz]at f19);(try simp only[zz,f17,f18,f19]);refine ss (rg ?_);obtain⟨x7,f21,f22,h10⟩:=bI h10;(try simp only[zz,f21,f22]);obtain⟨y23,h24,h10⟩:=bs h10;refine lm h24 (λq=>⟨qb t0::ds 4 (.own 0 0::.own 1 0::ds 22 (ka x7::aa (x7.length:Int)::aa q.2.2::ds 30 [])),[.live 1 0 (q.1.map ba),.live 1 0 (q.2.1.map aa)]⟩) (λq=>⟨qb t0::ds 4 (.own 0 0::.own 1 0::ds 55 []),[.live 1 0 (q.1.map ba),.live 1 0 (q.2.map aa)]⟩) (tz [ok 0,ov 1 1]) ?_ ?_
   .rintro⟨s8,s9,s10⟩ z25 h26 h27;simp only[ah]at h26;refine ss (rg ?_);(try simp only[zz]);refine ss (cd rfl ?_);(try simp only[zz]);refine gi h26 (λc11 h26=>?_) λc11 h26=>?_
    .refine sk ?_;(try simp only[zz,c11]);refine jm h26 (λq=>⟨qb t0::ds 4 (.own 0 0::.own 1 0::ds 22 (ka x7::aa (x7.length:Int)::aa s10::ds 30 [])),[.live 1 0 (q.1.map ba),.live 1 0 (q.2.map aa)]⟩) (λz29 h28=>?_) λz29 h28 h26=>?_
     .refine bk (ss (rg ?_));obtain⟨x12,f31,f32,h28⟩:=bI h28;(try simp only[zz,f31,f32]);refine ss (rg ?_);obtain⟨x13,f34,f35,f36,h28⟩:=bO h28;(try simp only[zz,f34,f35,f36]);refine cd rfl ?_;(try simp only[zz,f34,f35,f36]);refine gi h28 (λc14 h28=>?_) λc14 h28=>?_
      .refine ss (rg ?_);obtain⟨x15,a37,h28⟩:=bs h28;obtain⟨f38,f39⟩:=DU (e:=ba) a37;(try simp only[zz]at f39);(try simp only[zz,f34,f35,f36,f38,f39]);refine rg ?_;obtain⟨x16,a40,h28⟩:=bs h28;obtain⟨f41,f42⟩:=cI (e:=aa) a40;(try simp only[zz]at f41 f42);(try simp only[zz,f41,f42]);cases h28;exact tz [ok 0,ov 1 1]
      refine sk ?_;(try simp only[zz,f34,f35,f36,c14]);cases h28;exact tz [ok 0,ok 1]
     obtain⟨j17,j18⟩:=z29;dsimp only at h26;refine rg ?_;(try simp only[zz]);cases h26;exact tz [ok 0,ok 1]
    refine xt ?_;(try simp only[zz,c11]);cases h26;exact tz [ok 0,ok 1]
   rintro⟨b22,b23⟩ rfl;dsimp only at h10;(try simp only[zz]);cases h10;exact tz [ok 0,ok 1]
  refine xt ?_;(try simp only[zz,c4]);cases h10;exact tz [ok 0]
 rintro b26 rfl;dsimp only at h;(try simp only[zz]);refine ss (rg ?_);(try simp only[zz]);refine ss (ss (rg ?_));(try simp only[zz]);obtain⟨y43,h44,h⟩:=bs h;refine lm h44 (λq=>⟨ds 10 (.own 0 0::ds 37 (.own 1 0::aa (b26.length:Int)::aa q.2::ds 11 [])),[.live 1 0 (q.1.map aa),.live 1 0 (b26.map ba)]⟩) (λb36=>⟨ds 10 (.own 0 0::ds 51 []),[.live 1 0 (b36.map aa)]⟩) (tz [on 1,ok 0]) ?_ ?_
 .rintro⟨s27,s28⟩ z45 h46 h47;simp only[bh]at h46;refine ss (rg ?_);(try simp only[zz]);refine ss (cd rfl ?_);(try simp only[zz]);refine gi h46 (λc29 h46=>?_) λc29 h46=>?_
  .refine sk ?_;(try simp only[zz,c29]);refine jm h46 (λj33=>⟨ds 10 (.own 0 0::ds 37 (.own 1 0::aa (b26.length:Int)::aa s28::ds 11 [])),[.live 1 0 (j33.map aa),.live 1 0 (b26.map ba)]⟩) (λz49 h48=>?_) λj33 h48 h46=>?_
   .refine bk (ss (rg ?_));obtain⟨x30,f51,f52,f53,h48⟩:=bO h48;(try simp only[zz,f51,f52,f53]);refine ss (rg ?_);(try simp only[zz]);refine cd rfl ?_;(try simp only[zz]);refine gi h48 (λc31 h48=>?_) λc31 h48=>?_
    .refine rg ?_;obtain⟨x32,a54,h48⟩:=bs h48;obtain⟨f55,f56⟩:=cI (e:=aa) a54;(try simp only[zz]at f55 f56);(try simp only[zz,f55,f56]);cases h48;exact tz [ov 0 1,ok 1]
    refine sk ?_;(try simp only[zz,c31]);cases h48;exact tz [ok 0,ok 1]
   refine rg ?_;(try simp only[zz]);cases h46;exact tz [ok 0,ok 1]
  refine xt ?_;(try simp only[zz,c29]);cases h46;exact tz [ok 0]
 rintro b36 rfl;dsimp only at h;(try simp only[zz]);refine ss (rg ?_);(try simp only[zz]);cases h;exact rt ez
theorem KD{t0:(List (List Int))}{t1:Int}{r:List Int}(h:Pk t0 t1=some r):Den Tryz.prog 120 [qb t0,aa t1] (ka r):=UB (fR h)
instance {t0 t1 r}:Con (Pk t0 t1=some r) (Den Tryz.prog 120 [qb t0,aa t1] (ka r)):=⟨KD⟩
instance {t0 r}:Con (dj t0=some r) (Den Tryz.prog 124 [Fb t0] (ba r)):=⟨λh=>by
 refine dk 17 kab ?_
 simp only[kab,Kf.of,zs,ze]
 unfold dj at h
 exact pg trivial (.z 1 (.j 1 (λ(j3:Bool)=>⟨[.k 2,.s (ba j3),.p 15],[]⟩) (.b (.b (.t []) (.t [])) (.t [])) .o))⟩
instance {t0 t1 t2 t3 r}:Con (tc t0 t1 t2 t3=some r) (Den Tryz.prog 135 [ab t0,aa t1,aa t2,ng t3] (ba r)):=⟨λh=>by
 refine dk 84 sab ?_
 simp only[sab,Kf.of,zs,ze]
 unfold tc at h
 exact pg (And.intro @yb.eq_1 (And.intro @ib.eq_1 @kc.eq_1)) (.l 1 0 (λ(s1:Int)=>⟨[.k 1,.p 7,.k 1,.s (aa s1),.p 78],[.o 0]⟩) (λ(_:Unit)=>⟨[.k 1,.p 7],[.o 0]⟩) [ok 0] (.b (.z 1 (.j 1 (λ(j7:Bool)=>⟨[.k 1,.p 11,.k 23,.s (ba j7),.p 52],[.o 0]⟩) (.b (.b (.t [ok 0]) (.t [ok 0])) (.t [ok 0])) (.b .o (.t [ok 0])))) (.t [ok 0])) (.l 1 0 (λ(s10:Int)=>⟨[.k 1,.p 9,.s (aa s10),.p 77],[.o 0]⟩) (λ(_:Unit)=>⟨[.k 1,.p 9],[.o 0]⟩) [ok 0] (.b (.z 1 (.j 1 (λ(j17:Bool)=>⟨[.k 1,.p 35,.k 27,.s (ba j17),.p 24],[.o 0]⟩) (.b (.b (.b (.t [ok 0]) (.t [ok 0])) (.t [ok 0])) (.t [ok 0])) (.b .o (.t [ok 0])))) (.t [ok 0])) (.l 1 0 (λ(s20:Int)=>⟨[.k 1,.p 10,.s (aa s20),.p 76],[.o 0]⟩) (λ(_:Unit)=>⟨[],[]⟩) [ok 0] (.b (.z 1 (.j 1 (λ(j25:Bool)=>⟨[.k 1,.p 63,.k 23,.s (ba j25)],[.o 0]⟩) (.b (.b (.t [ok 0]) (.t [ok 0])) (.t [ok 0])) (.b .o (.t [ok 0])))) (.t [])) .o)))⟩
instance {t0 r : List ByteArray}:Con (Me t0=some r) (Den Tryz.prog 146 [Du t0] (Du r)):=⟨λh=>by
  unfold Me at h
  split at h
  · rename_i hl
    obtain rfl := nad h
    refine dk 7 Dab ?_
    simp only[Dab,Kf.of,zs,ze]
    refine T.Yy ?_
    refine T.rg ?_
    simp only[zx, ze]
    refine T.Yy ?_
    refine T.Yy ?_
    refine T.Ot (i := 0) (S := 1) (l := t0.map ng) rfl (Fr.l _) (by simp) (by decide) (by decide) (by decide) ?_
    intro b hb
    have happ : app 16 ([] : List ByteArray) t0 = some t0 := by unfold app; rw[if_pos (by simp; omega)]; simp
    cases b with
    | true =>
      have hz : t0 = [] := by
        cases t0 with
        | nil => rfl
        | cons x l => exact absurd (hb (by simp)) (by simp)
      subst hz
      simp only[zx, ze]
      refine T.cd rfl ?_
      refine gP.mk (λ_ => ?_) (λh => absurd rfl h)
      refine T.Yy ?_
      refine T.rg ?_
      simp only[zx, ze]
      exact T.ret <| nn (by simp only[zx, ze, Ul, Zt, au, Nq]; exact rI (by simp only[zq, ze]))
    | false =>
      simp only[zx, ze]
      refine T.cd rfl ?_
      refine gP.mk (λh => by cases h) (λ_ => ?_)
      refine T.skip ?_
      simp only[zx, ze]
      refine T.Yy ?_
      refine T.rg ?_
      obtain⟨f1, f2⟩ := cI (e := ng) happ
      try simp only[zx, ze] at f1 f2
      simp only[zx, ze, f1, f2]
      exact T.ret <| nn (by simp only[zx, ze, Ul, Zt, au, Nq]; exact rI (by simp only[zq, ze]))
  · cases h⟩
instance {t0 r}:Con (Ke t0=some r) (Den Tryz.prog 174 [ng t0] (ba r)):=⟨λh=>by
 refine dk 59 Uab ?_
 simp only[Uab,Kf.of,zs,ze]
 unfold Ke at h
 exact pg trivial (.z 3 (.j 1 (λ(j55:Bool)=>⟨[.k 4,.s (ba j55),.p 55],[]⟩) (.b (.t []) (.b (.t []) (.b (.t []) (.b (.t []) (.b (.t []) (.b (.t []) (.b (.t []) (.b (.t []) (.b (.t []) (.b (.t []) (.b (.t []) (.b (.t []) (.b (.t []) (.b (.t []) (.b (.t []) (.b (.t []) (.b (.t []) (.b (.t []) (.b (.t []) (.b (.t []) (.b (.t []) (.b (.t []) (.b (.t []) (.b (.t []) (.b (.t []) (.b (.t []) (.b (.t []) (.b (.t []) (.b (.t []) (.b (.t []) (.b (.t []) (.b (.t []) (.b (.t []) (.b (.t []) (.b (.t []) (.b (.t []) (.b (.t []) (.b (.t []) (.b (.t []) (.b (.t []) (.b (.t []) (.b (.t []) (.b (.t []) (.b (.t []) (.b (.t []) (.b (.t []) (.b (.t []) (.b (.t []) (.b (.t []) (.b (.t []) (.b (.t []) (.b (.t []) (.b (.t []) (.b (.t []) (.t []))))))))))))))))))))))))))))))))))))))))))))))))))))))) .o))⟩
instance {t0 t1 t2 r}:Con (Rh t0 t1 t2=some r) (Den Tryz.prog 189 [Bb t0,aa t1,ng t2] (ba r)):=⟨λh=>by
 refine dk 23 gac ?_
 simp only[gac,Kf.of,zs,ze]
 unfold Rh at h
 exact pg @oj.eq_1 (.l 1 0 (λ(s1:Int)=>⟨[.p 6,.k 1,.s (aa s1),.p 18],[]⟩) (λ(_:Unit)=>⟨[],[]⟩) [] (.z 1 (.j 1 (λ(j3:Bool)=>⟨[.p 16,.s (ba j3),.p 9],[]⟩) (.b (.t []) (.t [])) (.b (.b .o (.t [])) (.t [])))) .o)⟩
instance {t0 r}:Con (Pf t0=some r) (Den Tryz.prog 205 [aa t0] (ba r)):=⟨λh=>by
 refine dk 8 wac ?_
 simp only[wac,Kf.of,zs,ze]
 unfold Pf at h
 exact pg trivial (.z 1 (.j 1 (λ(j2:Bool)=>⟨[.k 2,.s (ba j2),.p 6],[]⟩) (.b (.t []) (.t [])) .o))⟩
theorem Gn{t0}{t1:GEnum->Option Bool}{k1:Nat}{q1:List D}(hc1:ja q1=true)(hp1:∀ x0 r,t1 x0=some r->Den Tryz.prog k1 ([lg x0]++q1) (ba r)){r} (h:nc t0 t1=some r):Den Tryz.prog 235 [Vb t0,.fn k1 [] q1] (aa r):=by
 haveI I1:∀ x0 r,Con (t1 x0=some r) (Den Tryz.prog k1 ([lg x0]++q1) (ba r)):=λx0 r=>⟨hp1 x0 r⟩
 have s1:∀ f:D->D->Prop,yw f q1 q1=True:=λ_=>pf hc1
 have z1:∀ a b n,Ru a b n q1=q1:=λ_ _ _=>we _ _ _ _ hc1
 refine Den.at 17 Q6.ok Q6.nm (iD (zO hc1 AA)) rfl ?_
 simp only[Q6,Kf.of,zs,ze]
 unfold nc at h
 exact pg @Zc.eq_1 (.l 1 0 (λ(s1:Int)=>⟨[.p 4,.k 3,.p 1,.s (aa s1),.p 10],[]⟩) (λ(_:Unit)=>⟨[],[]⟩) [] (.b (.b .o (.t [])) (.t [])) .o)
theorem Js{t0 t1 r} (h:uf t0 t1=some r):Den Tryz.prog 241 [Za t0,Av t1] (ba r):=by
 refine dk 7 k241 ?_
 simp only[k241,Kf.of,zs,ze]
 unfold uf at h
 exact pg trivial .o
instance {t0 t1 r}:Con (uf t0 t1=some r) (Den Tryz.prog 241 [Za t0,Av t1] (ba r)):=⟨Js⟩
instance {t0 t1 r}:Con (Cq t0 t1=some r) (Den Tryz.prog 267 [La t0,Em t1] (.tup [ma r.1,aa r.2])):=⟨λh=>by
  unfold Cq at h
  cases h⟩
theorem Vn{t0 t1 r} (h:fb t0 t1=some r):Den Tryz.prog 35 [Da t0,mg t1] (ba r):=by
 refine dk 5 k35 ?_
 simp only[k35,Kf.of,zs,ze]
 unfold fb at h
 exact pg trivial .o
instance {t0 t1 r}:Con (fb t0 t1=some r) (Den Tryz.prog 35 [Da t0,mg t1] (ba r)):=⟨Vn⟩
instance {t0 t1 r}:Con (Rc t0 t1=some r) (Den Tryz.prog 78 [fh t0,aa t1] (ka r)):=⟨λh=>by
 refine dk 65 k78 ?_
 simp only[k78,Kf.of,zs,ze]
 unfold Rc at h
 exact pg @Kd.eq_1 (.l 2 1 (λ(q:((List Int) × Int))=>⟨[.k 2,.p 2,.k 1,.s (.own 1 0),.p 2,.k 3,.p 2,.s (aa q.2),.p 53],[.o 0,.n 1 ((q.1.map aa))]⟩) (λ(b26:(List Int))=>⟨[.k 5,.s (.own 0 0),.p 2],[.n 1 ((b26.map aa))]⟩) [ok 0,on 1] (.b (.j 1 (λ(j23:(List Int))=>⟨[.k 2,.p 12],[.o 0,.c 1 ((j23.map aa))]⟩) (.b (.t [ok 0,ok 1]) (.j 1 (λ(j15:(List Int))=>⟨[.k 2,.p 12],[.o 0,.c 1 ((j15.map aa))]⟩) (.j 1 (λ(j12:Bool)=>⟨[.k 2,.p 12,.k 26,.s (ba j12),.p 26],[.o 0,.o 1]⟩) (.b (.t [ok 0,ok 1]) (.t [ok 0,ok 1])) (.b (.t [ok 0,ov 1 1]) (.t [ok 0,ok 1]))) (.j 1 (λ(j20:Bool)=>⟨[.k 2,.p 58,.s (ba j20),.p 6],[.o 0,.o 1]⟩) (.b (.t [ok 0,ok 1]) (.t [ok 0,ok 1])) (.b (.t [ok 0,ov 1 1]) (.t [ok 0,ok 1]))))) (.t [ok 0,ok 1])) (.t [ok 1])) .o)⟩
instance {t0 t1 r}:Con (Nh t0 t1=some r) (Den Tryz.prog 85 [Fb t0,aa t1] (ba r)):=⟨λh=>by
 refine dk 17 k85 ?_
 simp only[k85,Kf.of,zs,ze]
 unfold Nh at h
 exact pg trivial (.z 1 (.j 1 (λ(j4:Bool)=>⟨[.k 4,.s (ba j4),.p 14],[]⟩) (.b (.b (.t []) (.t [])) (.t [])) .o))⟩
instance {t0 r}:Con (Mm t0=some r) (Den Tryz.prog 104 [Vb t0] (Vb r)):=⟨λh=>by
 refine dk 22 Qaa ?_
 simp only[Qaa,Kf.of,zs,ze]
 unfold Mm at h
 exact pg @aj.eq_1 (.l 2 1 (λ(q:((List GEnum) × Int))=>⟨[.k 3,.s (.own 0 0),.p 4,.s (aa q.2),.p 14],[.n 2 ((q.1.map lg))]⟩) (λ(b9:(List GEnum))=>⟨[.k 3,.s (.own 0 0),.p 2],[.n 2 ((b9.map lg))]⟩) [on 2] (.b (.t [ov 0 1]) (.t [ok 0])) .o)⟩
instance {t0 t1 r}:Con (jd t0 t1=some r) (Den Tryz.prog 112 [ra t0,Vb t1] (.tup [aa r.1,aa r.2])):=⟨λh=>by
 refine dk 28 Yaa ?_
 simp only[Yaa,Kf.of,zs,ze]
 unfold jd at h
 exact pg trivial .o⟩
theorem cm{t0}{t1:GEnum->Option Bool}{k1:Nat}{q1:List D}(hc1:ja q1=true)(hp1:∀ x0 r,t1 x0=some r->Den Tryz.prog k1 ([lg x0]++q1) (ba r)){r} (h:eb t0 t1=some r):Den Tryz.prog 175 [Vb t0,.fn k1 [] q1] (ba r):=by
 haveI I1:∀ x0 r,Con (t1 x0=some r) (Den Tryz.prog k1 ([lg x0]++q1) (ba r)):=λx0 r=>⟨hp1 x0 r⟩
 have s1:∀ f:D->D->Prop,yw f q1 q1=True:=λ_=>pf hc1
 have z1:∀ a b n,Ru a b n q1=q1:=λ_ _ _=>we _ _ _ _ hc1
 haveI:∀ y0 r,Con (nc y0 t1=some r) (Den Tryz.prog 235 [Vb y0,.fn k1 [] q1] (aa r)):=λy0 r=>⟨Gn hc1 hp1⟩
 refine Den.at 7 L6.ok L6.nm (iD (zO hc1 AA)) rfl ?_
 simp only[L6,Kf.of,zs,ze]
 unfold eb at h
 exact pg trivial .o
instance {t0 t1 t2 r}:Con (Qb t0 t1 t2=some r) (Den Tryz.prog 202 [aa t0,Rj t1,ta t2] (.tup [ra r.1,aa r.2])):=⟨λh=>by
 refine dk 27 tac ?_
 simp only[tac,Kf.of,zs,ze]
 unfold Qb at h
 exact pg trivial (.z 2 (.j 1 (λ(j2:Bool)=>⟨[.p 2,.k 3,.p 2,.k 8,.s (ba j2),.p 14],[.o 0,.o 1]⟩) (.b (.t [ok 0,ok 1]) (.t [ok 0,ok 1])) .o))⟩
instance {t0 t1 t2 r}:Con (Ah t0 t1 t2=some r) (Den Tryz.prog 203 [La t0,ra t1,ta t2] (.tup [ra r.1,aa r.2])):=⟨λh=>by
 refine dk 81 uac ?_
 simp only[uac,Kf.of,zs,ze]
 unfold Ah at h
 exact pg trivial (.z 2 (.e 1 (λ(j6:Int)=>⟨[.k 3,.p 4,.k 1,.s (aa j6),.p 2],[.o 0,.o 1,.o 2,.o 3]⟩) (.b (.z 1 (.j 1 (λ(j4:Bool)=>⟨[.k 3,.p 4,.k 18,.s (ba j4),.p 58],[.o 0,.o 1,.o 2,.o 3]⟩) (.b (.t [ok 0,ok 1,ok 2,ok 3]) (.t [ok 0,ok 1,ok 2,ok 3])) (.b .o (.t [ok 0,ok 1,ok 2,ok 3])))) (.t [ok 0,ok 1,ok 2,ok 3])) (.z 1 (.j 1 (λ(j8:Bool)=>⟨[.k 3,.p 35,.s (ba j8),.p 45],[.o 0,.o 1,.o 2,.o 3]⟩) (.b (.t [ok 0,ok 1,ok 2,ok 3]) (.t [ok 0,ok 1,ok 2,ok 3])) (.b .o (.z 1 (.f ⟨[.k 3,.p 81],[.o 0,.o 1,.o 2,.o 3,.n 2 [],.n 2 []]⟩ [ok 0,ok 1,ok 2,ok 3,on 2,on 2] (.g [[],[],[],[],[],[],[],[],[],[],[],[],[1,3,5,7,9,11],[1,3,5,7,9,11,12],[7,9,11]] [none,none,none,none,none,none,none,none,none,none,none,none,some 4,some 5,none] (.z 1 (.j 1 (λ(j15:Bool)=>⟨[.k 3,.p 1,.k 2,.p 2,.k 1,.p 29,.k 30,.s (ba j15),.p 15],[.o 0,.o 3,.o 4,.o 5]⟩) (.b (.b (.t [ok 0,ok 3,ov 4 1,ov 5 1]) (.t [ok 0,ok 3,ov 4 1,ov 5 1])) (.t [ok 0,ok 3,ov 4 1,ov 5 1])) (.b .o (.b (.z 1 (.j 1 (λ(j19:Bool)=>⟨[.k 6,.p 4,.k 70,.s (ba j19),.p 3],[.o 1,.o 2]⟩) (.b (.t [ok 1,ok 2]) (.t [ok 1,ok 2])) .o)) .o))))))))))))⟩
instance {t0 t1 r}:Con (Eo t0 t1=some r) (Den Tryz.prog 247 [Fb t0,Fb t1] (.tup [Fb r.1,ba r.2])):=⟨λh=>by
 refine dk 32 k247 ?_
 simp only[k247,Kf.of,zs,ze]
 unfold Eo at h
 exact pg trivial (.z 2 (.j 1 (λ(j4:Bool)=>⟨[.k 2,.p 3,.k 9,.s (ba j4),.p 19],[.o 0,.o 1,.o 2]⟩) (.b (.t [ok 0,ok 1,ok 2]) (.t [ok 0,ok 1,ok 2])) .o))⟩
end Go.Proofs.Dev
