/-
  Contracts of the functions: each answers as its plain partial function says.
-/
import Derived.Test.YtjiaejcpmcknnaaGreatDoorK
import Derived.Test.YtjiaejcpmcknnaaGreatDoorG
import Derived.Test.YtjiaejcpmcknnaaGreatDoorPD
import Derived.Test.YtjiaejcpmcknnaaGreatDoorH1
import Derived.Test.YtjiaejcpmcknnaaGreatDoorH2
open Option.some renaming inj->oab
set_option linter.all false
set_option maxHeartbeats 1000000
set_option maxRecDepth 10000
namespace Go.Proofs.Dev
open Go Go.Tm
instance {t0 r}:Con (Kn t0=some r) (Den Tryz.prog 9 [kp t0] (ba r)):=⟨λh=>by
 refine dk 27 k9 ?_
 simp only[k9,Kf.of,zs,ze]
 unfold Kn at h
 exact pg @Fj.eq_1 (.z 2 (.j 1 (λ(j2:Bool)=>⟨[.k 1,.p 1,.k 11,.s (ba j2),.p 14],[.o 0]⟩) (.b (.t [ok 0]) (.t [ok 0])) (.b .o (.l 1 0 (λ(s4:Int)=>⟨[.k 1,.p 2,.s (aa s4),.p 9],[.o 0]⟩) (λ(_:Unit)=>⟨[],[]⟩) [ok 0] (.b (.b .o (.t [ok 0])) (.t [])) .o))))⟩
instance {t0 t1 r}:Con (Yv t0 t1=some r) (Den Tryz.prog 19 [la t0,aa t1] (ba r)):=⟨λh=>by
 refine dk 16 k19 ?_
 simp only[k19,Kf.of,zs,ze]
 unfold Yv at h
 exact pg @wq.eq_1 (.l 1 0 (λ(s1:Int)=>⟨[.p 4,.k 1,.s (aa s1),.p 12],[]⟩) (λ(_:Unit)=>⟨[],[]⟩) [] (.b (.b .o (.t [])) (.t [])) .o)⟩
instance {t0 t1 r}:Con (Kq t0 t1=some r) (Den Tryz.prog 60 [Vi t0,aa t1] (ba r)):=⟨λh=>by
 refine dk 41 k60 ?_
 simp only[k60,Kf.of,zs,ze]
 unfold Kq at h
 exact pg (And.intro @km.eq_1 @im.eq_1) (.l 1 0 (λ(s1:Int)=>⟨[.p 4,.k 1,.s (aa s1),.p 37],[]⟩) (λ(_:Unit)=>⟨[],[]⟩) [] (.b (.l 1 0 (λ(s3:Int)=>⟨[.p 6,.s (aa s3)],[]⟩) (λ(_:Unit)=>⟨[.p 6],[]⟩) [] (.b (.z 1 (.j 1 (λ(j8:Bool)=>⟨[.p 13,.k 29,.s (ba j8)],[]⟩) (.b (.t []) (.t [])) (.b .o (.t [])))) (.t [])) (.t [])) (.t [])) .o)⟩
instance {t0 r}:Con (Rr t0=some r) (Den Tryz.prog 71 [Eb t0] (aa r)):=⟨λh=>by
 refine dk 23 k71 ?_
 simp only[k71,Kf.of,zs,ze]
 unfold Rr at h
 exact pg @Xm.eq_1 (.l 2 1 (λ(q:(Int × Int))=>⟨[.k 3,.s (aa q.1),.p 4,.s (aa q.2),.p 15],[]⟩) (λ(b10:Int)=>⟨[.k 3,.s (aa b10),.p 2],[]⟩) [] (.b (.e 1 (λ(j7:Int)=>⟨[.k 3,.s (aa j7),.p 5],[]⟩) (.b .o (.b (.t []) (.t []))) (.t [])) (.t [])) .o)⟩
instance zzi4 {t0 r}:Con (Sj t0=some r) (Den Tryz.prog 100 [aa t0] (ba r)):=⟨λh=>by
 refine dk 8 k100 ?_
 simp only[k100,Kf.of,zs,ze]
 unfold Sj at h
 exact pg trivial (.z 1 (.j 1 (λ(j2:Bool)=>⟨[.k 2,.s (ba j2),.p 6],[]⟩) (.b (.t []) (.t [])) .o))⟩
instance {t0 t1 r}:Con (Cj t0 t1=some r) (Den Tryz.prog 117 [la t0,aa t1] (la r)):=⟨λh=>by
 refine dk 22 k117 ?_
 simp only[k117,Kf.of,zs,ze]
 unfold Cj at h
 exact pg @kg.eq_1 (.l 2 1 (λ(q:((List Int) × Int))=>⟨[.k 1,.p 3,.k 1,.s (.own 0 0),.p 4,.s (aa q.2),.p 13],[.n 1 ((q.1.map aa))]⟩) (λ(b10:(List Int))=>⟨[.k 5,.s (.own 0 0),.p 2],[.n 1 ((b10.map aa))]⟩) [on 1] (.b (.j 1 (λ(j7:(List Int))=>⟨[.k 1,.p 10],[.c 0 ((j7.map aa))]⟩) (.b (.t [ov 0 1]) (.t [ok 0])) (.t [ok 0])) (.t [ok 0])) .o)⟩
theorem zC{t0:(List (List Int))}{t1:Int}{r:List Int}(h:Er t0 t1=some r):Den Tryz.prog 120 [Eb t0,aa t1] (la r):=by
 refine dk 60 k120 ?_;simp only[k120,Kf.of,zs,ze];unfold Er at h;refine ss (rg ?_);(try simp only[zz]);refine ss (rg ?_);obtain⟨x1,a1,h⟩:=bs h;obtain⟨f2,f3,f4,f5,f6⟩:=iN (e:=ba) a1;(try simp only[zz]at f5 f6);(try simp only[zz,f2,f3,f4,f5,f6]);refine ss (rg ?_);(try simp only[zz]);refine ss ?_;obtain⟨y7,h8,h⟩:=bs h;refine lm h8 (λq=>⟨Eb t0::ds 4 (.own 0 0::.own 1 0::ds 55 []),[.live 1 0 (q.1.map ba),.live 1 0 (q.2.map aa)]⟩) (λb26=>⟨ds 5 (.own 0 0::ds 56 []),[.live 1 0 (b26.map ba)]⟩) (tz [ok 0,ok 1]) ?_ ?_
 .rintro⟨s2,s3⟩ z9 h10 h11;simp only[Af]at h10;refine ss (ss (rg ?_));(try simp only[zz]);refine cd rfl ?_;(try simp only[zz]);refine gi h10 (λc4 h10=>?_) λc4 h10=>?_
  .refine sk ?_;(try simp only[zz,c4]);refine bk (ss (rg ?_));obtain⟨x5,f13,f14,f15,h10⟩:=bO h10;(try simp only[zz,f13,f14,f15]);refine ss (rg ?_);obtain⟨x6,a16,h10⟩:=bs h10;obtain⟨f17,f18,f19⟩:=aQ (e:=aa) a16;(try simp only[zz]at f19);(try simp only[zz,f17,f18,f19]);refine ss (rg ?_);obtain⟨x7,f21,f22,h10⟩:=bI h10;(try simp only[zz,f21,f22]);obtain⟨y23,h24,h10⟩:=bs h10;refine lm h24 (λq=>⟨Eb t0::ds 4 (.own 0 0::.own 1 0::ds 22 (la x7::aa (x7.length:Int)::aa q.2.2::ds 30 [])),[.live 1 0 (q.1.map ba),.live 1 0 (q.2.1.map aa)]⟩) (λq=>⟨Eb t0::ds 4 (.own 0 0::.own 1 0::ds 55 []),[.live 1 0 (q.1.map ba),.live 1 0 (q.2.map aa)]⟩) (tz [ok 0,ov 1 1]) ?_ ?_
   .rintro⟨s8,s9,s10⟩ z25 h26 h27;simp only[lh]at h26;refine ss (rg ?_);(try simp only[zz]);refine ss (cd rfl ?_);(try simp only[zz]);refine gi h26 (λc11 h26=>?_) λc11 h26=>?_
    .refine sk ?_;(try simp only[zz,c11]);refine jm h26 (λq=>⟨Eb t0::ds 4 (.own 0 0::.own 1 0::ds 22 (la x7::aa (x7.length:Int)::aa s10::ds 30 [])),[.live 1 0 (q.1.map ba),.live 1 0 (q.2.map aa)]⟩) (λz29 h28=>?_) λz29 h28 h26=>?_
     .refine bk (ss (rg ?_));obtain⟨x12,f31,f32,h28⟩:=bI h28;(try simp only[zz,f31,f32]);refine ss (rg ?_);obtain⟨x13,f34,f35,f36,h28⟩:=bO h28;(try simp only[zz,f34,f35,f36]);refine cd rfl ?_;(try simp only[zz,f34,f35,f36]);refine gi h28 (λc14 h28=>?_) λc14 h28=>?_
      .refine ss (rg ?_);obtain⟨x15,a37,h28⟩:=bs h28;obtain⟨f38,f39⟩:=kW (e:=ba) a37;(try simp only[zz]at f39);(try simp only[zz,f34,f35,f36,f38,f39]);refine rg ?_;obtain⟨x16,a40,h28⟩:=bs h28;obtain⟨f41,f42⟩:=eJ (e:=aa) a40;(try simp only[zz]at f41 f42);(try simp only[zz,f41,f42]);cases h28;exact tz [ok 0,ov 1 1]
      refine sk ?_;(try simp only[zz,f34,f35,f36,c14]);cases h28;exact tz [ok 0,ok 1]
     obtain⟨j17,j18⟩:=z29;dsimp only at h26;refine rg ?_;(try simp only[zz]);cases h26;exact tz [ok 0,ok 1]
    refine xt ?_;(try simp only[zz,c11]);cases h26;exact tz [ok 0,ok 1]
   rintro⟨b22,b23⟩ rfl;dsimp only at h10;(try simp only[zz]);cases h10;exact tz [ok 0,ok 1]
  refine xt ?_;(try simp only[zz,c4]);cases h10;exact tz [ok 0]
 rintro b26 rfl;dsimp only at h;(try simp only[zz]);refine ss (rg ?_);(try simp only[zz]);refine ss (ss (rg ?_));(try simp only[zz]);obtain⟨y43,h44,h⟩:=bs h;refine lm h44 (λq=>⟨ds 10 (.own 0 0::ds 37 (.own 1 0::aa (b26.length:Int)::aa q.2::ds 11 [])),[.live 1 0 (q.1.map aa),.live 1 0 (b26.map ba)]⟩) (λb36=>⟨ds 10 (.own 0 0::ds 51 []),[.live 1 0 (b36.map aa)]⟩) (tz [on 1,ok 0]) ?_ ?_
 .rintro⟨s27,s28⟩ z45 h46 h47;simp only[mh]at h46;refine ss (rg ?_);(try simp only[zz]);refine ss (cd rfl ?_);(try simp only[zz]);refine gi h46 (λc29 h46=>?_) λc29 h46=>?_
  .refine sk ?_;(try simp only[zz,c29]);refine jm h46 (λj33=>⟨ds 10 (.own 0 0::ds 37 (.own 1 0::aa (b26.length:Int)::aa s28::ds 11 [])),[.live 1 0 (j33.map aa),.live 1 0 (b26.map ba)]⟩) (λz49 h48=>?_) λj33 h48 h46=>?_
   .refine bk (ss (rg ?_));obtain⟨x30,f51,f52,f53,h48⟩:=bO h48;(try simp only[zz,f51,f52,f53]);refine ss (rg ?_);(try simp only[zz]);refine cd rfl ?_;(try simp only[zz]);refine gi h48 (λc31 h48=>?_) λc31 h48=>?_
    .refine rg ?_;obtain⟨x32,a54,h48⟩:=bs h48;obtain⟨f55,f56⟩:=eJ (e:=aa) a54;(try simp only[zz]at f55 f56);(try simp only[zz,f55,f56]);cases h48;exact tz [ov 0 1,ok 1]
    refine sk ?_;(try simp only[zz,c31]);cases h48;exact tz [ok 0,ok 1]
   refine rg ?_;(try simp only[zz]);cases h46;exact tz [ok 0,ok 1]
  refine xt ?_;(try simp only[zz,c29]);cases h46;exact tz [ok 0]
 rintro b36 rfl;dsimp only at h;(try simp only[zz]);refine ss (rg ?_);(try simp only[zz]);cases h;exact rt ez
theorem qE{t0:(List (List Int))}{t1:Int}{r:List Int}(h:Ui t0 t1=some r):Den Tryz.prog 120 [Eb t0,aa t1] (la r):=zC (NS h)
instance {t0 t1 r}:Con (Ui t0 t1=some r) (Den Tryz.prog 120 [Eb t0,aa t1] (la r)):=⟨qE⟩
instance {t0 r}:Con (qj t0=some r) (Den Tryz.prog 124 [Gb t0] (ba r)):=⟨λh=>by
 refine dk 17 k124 ?_
 simp only[k124,Kf.of,zs,ze]
 unfold qj at h
 exact pg trivial (.z 1 (.j 1 (λ(j3:Bool)=>⟨[.k 2,.s (ba j3),.p 15],[]⟩) (.b (.b (.t []) (.t [])) (.t [])) .o))⟩
instance {t0 t1 t2 t3 r}:Con (xc t0 t1 t2 t3=some r) (Den Tryz.prog 135 [Bb t0,aa t1,aa t2,vg t3] (ba r)):=⟨λh=>by
 refine dk 84 k135 ?_
 simp only[k135,Kf.of,zs,ze]
 unfold xc at h
 exact pg (And.intro @yb.eq_1 (And.intro @eb.eq_1 @mc.eq_1)) (.l 1 0 (λ(s1:Int)=>⟨[.k 1,.p 7,.k 1,.s (aa s1),.p 78],[.o 0]⟩) (λ(_:Unit)=>⟨[.k 1,.p 7],[.o 0]⟩) [ok 0] (.b (.z 1 (.j 1 (λ(j7:Bool)=>⟨[.k 1,.p 11,.k 23,.s (ba j7),.p 52],[.o 0]⟩) (.b (.b (.t [ok 0]) (.t [ok 0])) (.t [ok 0])) (.b .o (.t [ok 0])))) (.t [ok 0])) (.l 1 0 (λ(s10:Int)=>⟨[.k 1,.p 9,.s (aa s10),.p 77],[.o 0]⟩) (λ(_:Unit)=>⟨[.k 1,.p 9],[.o 0]⟩) [ok 0] (.b (.z 1 (.j 1 (λ(j17:Bool)=>⟨[.k 1,.p 35,.k 27,.s (ba j17),.p 24],[.o 0]⟩) (.b (.b (.b (.t [ok 0]) (.t [ok 0])) (.t [ok 0])) (.t [ok 0])) (.b .o (.t [ok 0])))) (.t [ok 0])) (.l 1 0 (λ(s20:Int)=>⟨[.k 1,.p 10,.s (aa s20),.p 76],[.o 0]⟩) (λ(_:Unit)=>⟨[],[]⟩) [ok 0] (.b (.z 1 (.j 1 (λ(j25:Bool)=>⟨[.k 1,.p 63,.k 23,.s (ba j25)],[.o 0]⟩) (.b (.b (.t [ok 0]) (.t [ok 0])) (.t [ok 0])) (.b .o (.t [ok 0])))) (.t [])) .o)))⟩
instance {t0 r : List GRow}:Con (Wd t0=some r) (Den Tryz.prog 147 [Wr t0] (Wr r)):=⟨λh=>by
  unfold Wd at h
  split at h
  · rename_i hl
    obtain rfl := oab h
    refine dk 7 k147 ?_
    simp only[k147,Kf.of,zs,ze]
    refine T.Ez ?_
    refine T.rg ?_
    simp only[zx, ze]
    refine T.Ez ?_
    refine T.Ez ?_
    refine T.Zt (i := 0) (S := 5) (l := t0.map Fg) rfl (Fr.l _) (by simp) (by decide) (by decide) (by decide) ?_
    intro b hb
    have happ : app 40 ([] : List GRow) t0 = some t0 := by unfold app; rw[if_pos (by simp; omega)]; simp
    cases b with
    | true =>
      have hz : t0 = [] := by
        cases t0 with
        | nil => rfl
        | cons x l => exact absurd (hb (by simp)) (by simp)
      subst hz
      simp only[zx, ze]
      refine T.cd rfl ?_
      refine gP.mk (λ_ => ?_) (λh => absurd rfl h)
      refine T.Ez ?_
      refine T.rg ?_
      simp only[zx, ze]
      exact T.ret <| Rn (by simp only[zx, ze, um, lu, nu, yr]; exact sJ (by simp only[zq, ze]))
    | false =>
      simp only[zx, ze]
      refine T.cd rfl ?_
      refine gP.mk (λh => by cases h) (λ_ => ?_)
      refine T.skip ?_
      simp only[zx, ze]
      refine T.Ez ?_
      refine T.rg ?_
      obtain⟨f1, f2⟩ := eJ (e := Fg) happ
      try simp only[zx, ze] at f1 f2
      simp only[zx, ze, f1, f2]
      exact T.ret <| Rn (by simp only[zx, ze, um, lu, nu, yr]; exact sJ (by simp only[zq, ze]))
  · cases h⟩
instance {t0 r}:Con (nn t0=some r) (Den Tryz.prog 149 [aa t0] (ba r)):=⟨λh=>by
 refine dk 21 k149 ?_
 simp only[k149,Kf.of,zs,ze]
 unfold nn at h
 exact pg trivial (.z 3 (.j 1 (λ(j17:Bool)=>⟨[.k 4,.s (ba j17),.p 17],[]⟩) (.b (.t []) (.b (.t []) (.b (.t []) (.b (.t []) (.b (.t []) (.b (.t []) (.b (.t []) (.b (.t []) (.b (.t []) (.b (.t []) (.b (.t []) (.b (.t []) (.b (.t []) (.b (.t []) (.b (.t []) (.b (.t []) (.t []))))))))))))))))) .o))⟩
instance zzi19 {t0 r}:Con (Fh t0=some r) (Den Tryz.prog 150 [aa t0] (aa r)):=⟨λh=>by
 refine dk 46 k150 ?_
 simp only[k150,Kf.of,zs,ze]
 unfold Fh at h
 exact pg trivial (.z 3 (.j 1 (λ(j14:Bool)=>⟨[.k 3,.p 1,.s (ba j14),.p 42],[]⟩) (.b (.t []) (.b (.t []) (.b (.t []) (.b (.t []) (.b (.t []) (.b (.t []) (.b (.t []) (.b (.t []) (.b (.t []) (.b (.t []) (.b (.t []) (.b (.t []) (.b (.t []) (.t [])))))))))))))) (.b .o (.j 1 (λ(j21:Bool)=>⟨[.k 3,.p 1,.k 15,.s (ba j21),.p 27],[]⟩) (.b (.t []) (.b (.t []) (.b (.t []) (.b (.t []) (.b (.t []) (.t [])))))) (.b .o (.j 1 (λ(j40:Bool)=>⟨[.k 3,.p 16,.k 7,.s (ba j40),.p 20],[]⟩) (.b (.t []) (.b (.t []) (.b (.t []) (.b (.t []) (.b (.t []) (.b (.t []) (.b (.t []) (.b (.t []) (.b (.t []) (.b (.t []) (.b (.t []) (.b (.t []) (.b (.t []) (.b (.t []) (.b (.t []) (.b (.t []) (.b (.t []) (.t [])))))))))))))))))) .o))))))⟩
theorem Oq{t0}{t1:GRow->Option Bool}{k1:Nat}{q1:List D}(hc1:ia q1=true)(hp1:∀ x0 r,t1 x0=some r->Den Tryz.prog k1 ([Fg x0]++q1) (ba r)){r} (h:Rb t0 t1=some r):Den Tryz.prog 169 [Wr t0,.fn k1 [] q1] (.tup [aa r.1,ba r.2]):=by
 haveI I1:∀ x0 r,Con (t1 x0=some r) (Den Tryz.prog k1 ([Fg x0]++q1) (ba r)):=λx0 r=>⟨hp1 x0 r⟩
 have s1:∀ f:D->D->Prop,Ax f q1 q1=True:=λ_=>Tg hc1
 have z1:∀ a b n,Cv a b n q1=q1:=λ_ _ _=>uf _ _ _ _ hc1
 refine Den.at 18 A9.ok A9.nm (tE (lT hc1 JC)) rfl ?_
 simp only[A9,Kf.of,zs,ze]
 unfold Rb at h
 exact pg @Ib.eq_1 (.l 1 0 (λ(s1:Int)=>⟨[.k 1,.p 3,.k 4,.p 2,.s (aa s1),.p 9],[]⟩) (λ(_:Unit)=>⟨[],[]⟩) [] (.b (.b .o (.t [])) (.t [])) .o)
theorem Wu{t0 t1 r} (h:Yf t0 t1=some r):Den Tryz.prog 176 [ug t0,Hr t1] (ba r):=by
 refine dk 6 k176 ?_
 simp only[k176,Kf.of,zs,ze]
 unfold Yf at h
 exact pg trivial .o
instance {t0 t1 r}:Con (Yf t0 t1=some r) (Den Tryz.prog 176 [ug t0,Hr t1] (ba r)):=⟨Wu⟩
instance {t0 t1 r}:Con (Il t0 t1=some r) (Den Tryz.prog 193 [la t0,aa t1] (la r)):=⟨λh=>by
 refine dk 46 k193 ?_
 simp only[k193,Kf.of,zs,ze]
 unfold Il at h
 exact pg @qx.eq_1 (.l 3 2 (λ(q:((List Int) × Bool × Int))=>⟨[.p 4,.k 1,.s (.own 0 0),.s (ba q.2.1),.s (aa q.2.2),.p 40],[.n 1 ((q.1.map aa))]⟩) (λ(q:((List Int) × Bool))=>⟨[.k 1,.p 3,.k 1,.s (.own 0 0),.s (ba q.2)],[.n 1 ((q.1.map aa))]⟩) [on 1] (.b (.z 1 (.j 2 (λ(q:((List Int) × Bool))=>⟨[.p 6,.s (ba q.2),.p 1],[.c 0 ((q.1.map aa))]⟩) (.j 1 (λ(j7:Bool)=>⟨[.p 8,.k 15,.s (ba j7),.p 24],[.o 0]⟩) (.b (.t [ok 0]) (.t [ok 0])) (.b (.j 1 (λ(j12:(List Int))=>⟨[.p 6,.k 1,.p 16],[.c 0 ((j12.map aa))]⟩) (.b (.t [ov 0 1]) (.t [ok 0])) (.t [ok 0])) (.t [ok 0]))) (.t [ov 0 1]))) (.t [ok 0])) (.j 1 (λ(j24:(List Int))=>⟨[.k 5,.p 1],[.c 0 ((j24.map aa))]⟩) (.b (.t [ov 0 1]) (.t [ok 0])) .o))⟩
instance zzi12 {t0 t1 r}:Con (kc t0 t1=some r) (Den Tryz.prog 196 [Na t0,wa t1] (ba r)):=⟨λh=>by
 refine dk 101 k196 ?_
 simp only[k196,Kf.of,zs,ze]
 unfold kc at h
 exact pg trivial (.b (.j 1 (λ(j4:Bool)=>⟨[.k 4,.s (ba j4)],[]⟩) (.b (.t []) (.t [])) .o) (.b (.j 1 (λ(j7:Bool)=>⟨[.k 4,.s (ba j7)],[]⟩) (.b (.t []) (.t [])) .o) (.b (.j 1 (λ(j10:Bool)=>⟨[.k 4,.s (ba j10)],[]⟩) (.b (.t []) (.t [])) .o) (.b (.j 1 (λ(j13:Bool)=>⟨[.k 4,.s (ba j13)],[]⟩) (.b (.t []) (.t [])) .o) (.b .o (.b .o (.j 1 (λ(j19:Bool)=>⟨[.k 2,.p 2,.k 79,.s (ba j19),.p 19],[.o 0,.o 1]⟩) (.b (.t [ok 0,ok 1]) (.b (.t [ok 0,ok 1]) (.b (.t [ok 0,ok 1]) (.t [ok 0,ok 1])))) (.b (.j 1 (λ(j23:Bool)=>⟨[.k 4,.s (ba j23),.p 78],[]⟩) (.b (.b (.t []) (.t [])) (.t [])) .o) .o))))))))⟩
theorem wo{t0}{t1:GEnum->Option Bool}{k1:Nat}{q1:List D}(hc1:ia q1=true)(hp1:∀ x0 r,t1 x0=some r->Den Tryz.prog k1 ([ug x0]++q1) (ba r)){r} (h:nc t0 t1=some r):Den Tryz.prog 235 [Wb t0,.fn k1 [] q1] (aa r):=by
 haveI I1:∀ x0 r,Con (t1 x0=some r) (Den Tryz.prog k1 ([ug x0]++q1) (ba r)):=λx0 r=>⟨hp1 x0 r⟩
 have s1:∀ f:D->D->Prop,Ax f q1 q1=True:=λ_=>Tg hc1
 have z1:∀ a b n,Cv a b n q1=q1:=λ_ _ _=>uf _ _ _ _ hc1
 refine Den.at 17 G9.ok G9.nm (tE (lT hc1 JC)) rfl ?_
 simp only[G9,Kf.of,zs,ze]
 unfold nc at h
 exact pg @qd.eq_1 (.l 1 0 (λ(s1:Int)=>⟨[.p 4,.k 3,.p 1,.s (aa s1),.p 10],[]⟩) (λ(_:Unit)=>⟨[],[]⟩) [] (.b (.b .o (.t [])) (.t [])) .o)
instance {t0 r}:Con (Hg t0=some r) (Den Tryz.prog 290 [ba t0] (ra r)):=⟨λh=>by
 refine dk 5 k290 ?_
 simp only[k290,Kf.of,zs,ze]
 unfold Hg at h
 exact pg trivial .o⟩
instance {t0 t1 r}:Con (Jl t0 t1=some r) (Den Tryz.prog 78 [nh t0,aa t1] (la r)):=⟨λh=>by
 refine dk 65 k78 ?_
 simp only[k78,Kf.of,zs,ze]
 unfold Jl at h
 exact pg @vi.eq_1 (.l 2 1 (λ(q:((List Int) × Int))=>⟨[.k 2,.p 2,.k 1,.s (.own 1 0),.p 2,.k 3,.p 2,.s (aa q.2),.p 53],[.o 0,.n 1 ((q.1.map aa))]⟩) (λ(b26:(List Int))=>⟨[.k 5,.s (.own 0 0),.p 2],[.n 1 ((b26.map aa))]⟩) [ok 0,on 1] (.b (.j 1 (λ(j23:(List Int))=>⟨[.k 2,.p 12],[.o 0,.c 1 ((j23.map aa))]⟩) (.b (.t [ok 0,ok 1]) (.j 1 (λ(j15:(List Int))=>⟨[.k 2,.p 12],[.o 0,.c 1 ((j15.map aa))]⟩) (.j 1 (λ(j12:Bool)=>⟨[.k 2,.p 12,.k 26,.s (ba j12),.p 26],[.o 0,.o 1]⟩) (.b (.t [ok 0,ok 1]) (.t [ok 0,ok 1])) (.b (.t [ok 0,ov 1 1]) (.t [ok 0,ok 1]))) (.j 1 (λ(j20:Bool)=>⟨[.k 2,.p 58,.s (ba j20),.p 6],[.o 0,.o 1]⟩) (.b (.t [ok 0,ok 1]) (.t [ok 0,ok 1])) (.b (.t [ok 0,ov 1 1]) (.t [ok 0,ok 1]))))) (.t [ok 0,ok 1])) (.t [ok 1])) .o)⟩
instance zzi6 {t0 t1 r}:Con (Rh t0 t1=some r) (Den Tryz.prog 85 [Gb t0,aa t1] (ba r)):=⟨λh=>by
 refine dk 17 k85 ?_
 simp only[k85,Kf.of,zs,ze]
 unfold Rh at h
 exact pg trivial (.z 1 (.j 1 (λ(j4:Bool)=>⟨[.k 4,.s (ba j4),.p 14],[]⟩) (.b (.b (.t []) (.t [])) (.t [])) .o))⟩
instance {t0 r}:Con (Tl t0=some r) (Den Tryz.prog 105 [Dh t0] (Dh r)):=⟨λh=>by
 refine dk 21 k105 ?_
 simp only[k105,Kf.of,zs,ze]
 unfold Tl at h
 exact pg @Nh.eq_1 (.l 2 1 (λ(q:((List GTable) × Int))=>⟨[.k 3,.s (.own 0 0),.p 4,.s (aa q.2),.p 13],[.n 6 ((q.1.map ob))]⟩) (λ(b9:(List GTable))=>⟨[.k 3,.s (.own 0 0),.p 2],[.n 6 ((b9.map ob))]⟩) [on 6] (.b (.t [ov 0 1]) (.t [ok 0])) .o)⟩
instance {t0 r}:Con (qk t0=some r) (Den Tryz.prog 148 [Wa t0] (.tup [la r.1,aa r.2.1,aa r.2.2])):=⟨λh=>by
 refine dk 75 k148 ?_
 simp only[k148,Kf.of,zs,ze]
 unfold qk at h
 exact pg @bj.eq_1 (.b .o (.b .o (.l 3 2 (λ(q:((List Int) × (List Int) × Int))=>⟨[.p 2,.k 3,.p 1,.s (.own 1 0),.p 3,.k 9,.p 2,.s (aa q.2.2),.p 54],[.c 0 ((q.1.map aa)),.n 1 ((q.2.1.map aa))]⟩) (λ(q:((List Int) × (List Int)))=>⟨[.p 2,.k 3,.p 1,.s (.own 1 0),.p 3],[.c 0 ((q.1.map aa)),.n 1 ((q.2.map aa))]⟩) [ok 0,on 1] (.b (.b .o (.b .o (.z 1 (.j 1 (λ(j18:(List Int))=>⟨[.p 8,.k 1,.p 13],[.c 0 ((j18.map aa)),.o 1]⟩) (.b (.t [ok 0,ok 1]) (.t [ok 0,ok 1])) (.a [[],[],[],[],[],[],[],[],[5],[5],[]] (.b .o (.t [ok 0,ov 1 2]))))))) (.t [ok 0,ok 1])) .o)))⟩
instance zzi15 {t0 t1 r}:Con (we t0 t1=some r) (Den Tryz.prog 156 [ta t0,aa t1] (la r)):=⟨λh=>by
 refine dk 34 k156 ?_
 simp only[k156,Kf.of,zs,ze]
 unfold we at h
 exact pg @Eh.eq_1 (.l 3 1 (λ(q:((List Int) × Int × Int))=>⟨[.k 2,.p 2,.k 1,.p 1,.s (aa q.2.1),.s (aa q.2.2)],[.o 0,.c 1 ((q.1.map aa))]⟩) (λ(b14:(List Int))=>⟨[.k 5,.p 1],[.c 1 ((b14.map aa))]⟩) [ok 0,ok 1] (.b (.t [ok 0,ok 1]) (.t [ok 1])) .o)⟩
theorem Bm{t0}{t1:GEnum->Option Bool}{k1:Nat}{q1:List D}(hc1:ia q1=true)(hp1:∀ x0 r,t1 x0=some r->Den Tryz.prog k1 ([ug x0]++q1) (ba r)){r} (h:db t0 t1=some r):Den Tryz.prog 175 [Wb t0,.fn k1 [] q1] (ba r):=by
 haveI I1:∀ x0 r,Con (t1 x0=some r) (Den Tryz.prog k1 ([ug x0]++q1) (ba r)):=λx0 r=>⟨hp1 x0 r⟩
 have s1:∀ f:D->D->Prop,Ax f q1 q1=True:=λ_=>Tg hc1
 have z1:∀ a b n,Cv a b n q1=q1:=λ_ _ _=>uf _ _ _ _ hc1
 haveI:∀ y0 r,Con (nc y0 t1=some r) (Den Tryz.prog 235 [Wb y0,.fn k1 [] q1] (aa r)):=λy0 r=>⟨wo hc1 hp1⟩
 refine Den.at 7 B9.ok B9.nm (tE (lT hc1 JC)) rfl ?_
 simp only[B9,Kf.of,zs,ze]
 unfold db at h
 exact pg trivial .o
instance {t0 r}:Con (Sl t0=some r) (Den Tryz.prog 219 [Na t0] (ba r)):=⟨λh=>by
 refine dk 47 k219 ?_
 simp only[k219,Kf.of,zs,ze]
 unfold Sl at h
 exact pg trivial (.z 2 (.j 1 (λ(j5:Bool)=>⟨[.k 1,.p 1,.k 15,.s (ba j5),.p 30],[.o 0]⟩) (.b (.b (.t [ok 0]) (.t [ok 0])) (.t [ok 0])) (.b .o (.z 2 (.j 1 (λ(j9:Bool)=>⟨[.k 1,.p 16,.k 2,.p 1,.s (ba j9),.p 27],[.o 0]⟩) (.b (.t [ok 0]) (.b (.t [ok 0]) (.t [ok 0]))) (.b (.j 1 (λ(j12:Bool)=>⟨[.k 2,.s (ba j12),.p 16],[]⟩) (.b (.t []) (.t [])) .o) (.b (.j 1 (λ(j15:Bool)=>⟨[.k 2,.s (ba j15),.p 16],[]⟩) (.b (.t []) (.t [])) .o) .o)))))))⟩
instance {t0 t1 r}:Con (qp t0 t1=some r) (Den Tryz.prog 247 [Gb t0,Gb t1] (.tup [Gb r.1,ba r.2])):=⟨λh=>by
 refine dk 32 k247 ?_
 simp only[k247,Kf.of,zs,ze]
 unfold qp at h
 exact pg trivial (.z 2 (.j 1 (λ(j4:Bool)=>⟨[.k 2,.p 3,.k 9,.s (ba j4),.p 19],[.o 0,.o 1,.o 2]⟩) (.b (.t [ok 0,ok 1,ok 2]) (.t [ok 0,ok 1,ok 2])) .o))⟩
end Go.Proofs.Dev
