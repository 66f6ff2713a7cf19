/-
  Contracts of the functions: each answers as its plain partial function says.
-/
import Derived.Test.YtjjfnbpfgfopbaaGreatDoorK
import Derived.Test.YtjjfnbpfgfopbaaGreatDoorG
import Derived.Test.YtjjfnbpfgfopbaaGreatDoorPE
import Derived.Test.YtjjfnbpfgfopbaaGreatDoorH1
import Derived.Test.YtjjfnbpfgfopbaaGreatDoorH2
import Derived.Test.YtjjfnbpfgfopbaaGreatDoorL1
open Option.some renaming inj->Raa
set_option linter.all false
set_option maxHeartbeats 1000000
set_option maxRecDepth 10000
namespace Go.Proofs.Dev
open Go Go.Tm
instance zI89{t0 t1 r}:Con (fk t0 t1=some r) (Den Tryz.prog 10 [Da t0,aa t1] (ba r)):=⟨λh=>by
 refine dk 18 k10 ?_
 simp only[k10,Kf.of,zs,ze]
 unfold fk at h
 exact pg trivial (.z 1 (.j 1 (λ(j3:Bool)=>⟨[.k 4,.s (ba j3),.p 15],[]⟩) (.b (.b (.t []) (.t [])) (.t [])) .o))⟩
instance zI90{t0 r}:Con (Sk t0=some r) (Den Tryz.prog 15 [Ia t0] (aa r)):=⟨λh=>by
 refine dk 8 k15 ?_
 simp only[k15,Kf.of,zs,ze]
 unfold Sk at h
 exact pg trivial .o⟩
theorem Av{t0 r} (h:ib t0=some r):Den Tryz.prog 17 [Gd t0] (ua r):=by
 refine dk 64 k17 ?_
 simp only[k17,Kf.of,zs,ze]
 unfold ib at h
 exact pg (And.intro @Ve.eq_1 @We.eq_1) (.l 2 1 (λ(q:((List Int) × Int))=>⟨[.k 3,.p 8,.k 1,.p 2,.s (aa q.2),.p 50],[.c 0 ((q.1.map aa))]⟩) (λ(b17:(List Int))=>⟨[.k 3,.p 8],[.c 0 ((b17.map aa))]⟩) [ok 0] (.b (.j 1 (λ(j14:(List Int))=>⟨[.k 3,.p 12],[.c 0 ((j14.map aa))]⟩) (.z 2 (.j 1 (λ(j7:Bool)=>⟨[.k 3,.p 12,.k 10,.s (ba j7),.p 39],[.o 0,.o 1]⟩) (.b (.t [ok 0,ok 1]) (.t [ok 0,ok 1])) (.b (.t [ok 0]) (.b (.t [ok 0]) (.t [ok 0]))))) (.t [ok 0])) (.t [ok 0])) (.l 3 1 (λ(q:((List Int) × Int × Int))=>⟨[.k 3,.p 5,.s (.own 1 0),.s (aa q.2.1),.p 38,.s (aa q.2.2),.p 16],[.o 0,.n 1 ((q.1.map aa))]⟩) (λ(b30:(List Int))=>⟨[.k 8,.s (.own 0 0)],[.n 1 ((b30.map aa))]⟩) [ok 0,on 1] (.b (.j 2 (λ(q:((List Int) × Int))=>⟨[.k 3,.p 6,.s (aa q.2),.p 39],[.o 0,.c 1 ((q.1.map aa))]⟩) (.b (.t [ok 0,ov 1 1]) (.t [ok 0,ok 1])) (.t [ok 0,ok 1])) (.t [ok 1])) .o))
instance zI91{t0 r}:Con (ib t0=some r) (Den Tryz.prog 17 [Gd t0] (ua r)):=⟨Av⟩
theorem Yv{t0 r} (h:ib t0=some r):Xn Tryz.prog 17 [.own 0 0] [(7,t0.map bb)] (ua r):=by
 refine Xn.of 64 k17 ?_ (by simp[Fr.l])
 simp only[k17,Kf.of,zs,ze,Lc,List.map_cons,List.map_nil,List.length_cons,List.length_nil,Nat.reduceAdd]
 unfold ib at h
 exact pg (And.intro @Ve.eq_1 @We.eq_1) (.l 2 1 (λ(q:((List Int) × Int))=>⟨[.k 3,.p 8,.k 1,.p 2,.s (aa q.2),.p 50],[.O 0,.c 1 ((q.1.map aa))]⟩) (λ(b17:(List Int))=>⟨[.k 3,.p 8],[.O 0,.c 1 ((b17.map aa))]⟩) [ok 0,ok 1] (.b (.j 1 (λ(j14:(List Int))=>⟨[.k 3,.p 12],[.O 0,.c 1 ((j14.map aa))]⟩) (.z 2 (.j 1 (λ(j7:Bool)=>⟨[.k 3,.p 12,.k 10,.s (ba j7),.p 39],[.O 0,.o 1,.o 2]⟩) (.b (.t [ok 0,ok 1,ok 2]) (.t [ok 0,ok 1,ok 2])) (.b (.t [ok 0,ok 1]) (.b (.t [ok 0,ok 1]) (.t [ok 0,ok 1]))))) (.t [ok 0,ok 1])) (.t [ok 0,ok 1])) (.l 3 1 (λ(q:((List Int) × Int × Int))=>⟨[.k 3,.p 5,.s (.own 2 0),.s (aa q.2.1),.p 38,.s (aa q.2.2),.p 16],[.O 0,.o 1,.n 1 ((q.1.map aa))]⟩) (λ(b30:(List Int))=>⟨[.k 8,.s (.own 1 0)],[.O 0,.n 1 ((b30.map aa))]⟩) [ok 0,ok 1,on 1] (.b (.j 2 (λ(q:((List Int) × Int))=>⟨[.k 3,.p 6,.s (aa q.2),.p 39],[.O 0,.o 1,.c 2 ((q.1.map aa))]⟩) (.b (.t [ok 0,ok 1,ov 2 1]) (.t [ok 0,ok 1,ok 2])) (.t [ok 0,ok 1,ok 2])) (.t [ok 0,ok 2])) (.t [ok 0])))
instance zI92{t0 r}:Con2 (ib t0=some r) (Xn Tryz.prog 17 [.own 0 0] [(7,t0.map bb)] (ua r)):=⟨Yv⟩
instance zI93{t0 r}:Con (Cd t0=some r) (Den Tryz.prog 59 [Ia t0] (aa r)):=⟨λh=>by
 refine dk 11 k59 ?_
 simp only[k59,Kf.of,zs,ze]
 unfold Cd at h
 exact pg trivial .o⟩
instance zI94{t0 r}:Con (Kn t0=some r) (Den Tryz.prog 64 [ta t0] (aa r)):=⟨λh=>by
 refine dk 14 k64 ?_
 simp only[k64,Kf.of,zs,ze]
 unfold Kn at h
 exact pg trivial (.b .o (.j 1 (λ(j3:Bool)=>⟨[.k 1,.p 1,.k 7,.s (ba j3),.p 5],[.o 0]⟩) (.b (.t [ok 0]) (.t [ok 0])) .o))⟩
instance zI95{t0 t1 r}:Con (fe t0 t1=some r) (Den Tryz.prog 79 [aa t0,aa t1] (ba r)):=⟨λh=>by
 refine dk 20 k79 ?_
 simp only[k79,Kf.of,zs,ze]
 unfold fe at h
 exact pg trivial (.z 1 (.j 1 (λ(j4:Bool)=>⟨[.k 4,.s (ba j4),.p 17],[]⟩) (.b (.b (.b (.t []) (.t [])) (.t [])) (.t [])) .o))⟩
theorem fw{t0 r : List GPosting} (h : Sa t0 = some r) : Den Tryz.prog 80 [Ca t0] (Ca r) := by
  unfold Sa at h
  split at h
  · rename_i hl
    obtain rfl := Raa h
    refine dk 7 k80 ?_
    simp only[k80,Kf.of,zs,ze]
    refine T.Tj ?_
    refine T.rg ?_
    simp only[zx, ze]
    refine T.Tj ?_
    refine T.Tj ?_
    refine T.Bo (i := 0) (S := 4) (l := t0.map ta) rfl (Fr.l _) (by simp) (by decide) (by decide) (by decide) ?_
    intro b hb
    have happ : app 32 ([] : List GPosting) t0 = some t0 := by unfold app; rw[if_pos (by simp; omega)]; simp
    cases b with
    | true =>
      have hz : t0 = [] := by
        cases t0 with
        | nil => rfl
        | cons x l => exact absurd (hb (by simp)) (by simp)
      subst hz
      simp only[zx, ze]
      refine T.cd rfl ?_
      refine gP.mk (λ_ => ?_) (λh => absurd rfl h)
      refine T.Tj ?_
      refine T.rg ?_
      simp only[zx, ze]
      exact T.ret <| qo (by simp only[zx, ze, gn, Af, Bf, Sd]; exact WB (by simp only[zq, ze]))
    | false =>
      simp only[zx, ze]
      refine T.cd rfl ?_
      refine gP.mk (λh => by cases h) (λ_ => ?_)
      refine T.skip ?_
      simp only[zx, ze]
      refine T.Tj ?_
      refine T.rg ?_
      obtain⟨f1, f2⟩ := Gv (e := ta) happ
      try simp only[zx, ze] at f1 f2
      simp only[zx, ze, f1, f2]
      exact T.ret <| qo (by simp only[zx, ze, gn, Af, Bf, Sd]; exact WB (by simp only[zq, ze]))
  · cases h
instance zIc80{t0 r}:Con (Sa t0=some r) (Den Tryz.prog 80 [Ca t0] (Ca r)):=⟨fw⟩
theorem Hm{t0 r} (h:ab t0=some r):Ox Tryz.prog 80 [Ca t0] 4 (r.map ta):= by
  unfold ab Sa at h
  split at h
  · rename_i hl
    obtain rfl := Raa h
    refine Ox.at 7 k80.ok k80.nm FrL.h (Fr.l _) rfl ?_
    simp only[k80,Kf.of,zs,ze]
    refine T.Tj ?_
    refine T.rg ?_
    simp only[zx, ze]
    refine T.Tj ?_
    refine T.Tj ?_
    refine T.Bo (i := 0) (S := 4) (l := t0.map ta) rfl (Fr.l _) (by simp) (by decide) (by decide) (by decide) ?_
    intro b hb
    have happ : app 32 ([] : List GPosting) t0 = some t0 := by unfold app; rw[if_pos (by simp; omega)]; simp
    cases b with
    | true =>
      have hz : t0 = [] := by
        cases t0 with
        | nil => rfl
        | cons x l => exact absurd (hb (by simp)) (by simp)
      subst hz
      simp only[zx, ze]
      refine T.cd rfl ?_
      refine gP.mk (λ_ => ?_) (λh => absurd rfl h)
      refine T.Tj ?_
      refine T.rg ?_
      simp only[zx, ze]
      exact T.ret <| Wr (by simp only[zx, ze, Yr, Af, Bf, Sd]; exact Tells.q [(none, 4, 0)] rfl (by decide) (by simp only[zq, ze]))
    | false =>
      simp only[zx, ze]
      refine T.cd rfl ?_
      refine gP.mk (λh => by cases h) (λ_ => ?_)
      refine T.skip ?_
      simp only[zx, ze]
      refine T.Tj ?_
      refine T.rg ?_
      obtain⟨f1, f2⟩ := Gv (e := ta) happ
      try simp only[zx, ze] at f1 f2
      simp only[zx, ze, f1, f2]
      exact T.ret <| Wr (by simp only[zx, ze, Yr, Af, Bf, Sd]; exact Tells.q [(some 0, 1, 0)] rfl (by decide) (by simp only[zq, ze]))
  · cases h
instance zI96{t0 r}:Con2 (ab t0=some r) (Ox Tryz.prog 80 [Ca t0] 4 (r.map ta)):=⟨Hm⟩
theorem Ng{t0}{t1:GMonthBalance->Option Bool}{k1:Nat}{q1:List D}(hc1:fa q1=true)(hp1:∀ x0 r,t1 x0=some r->Den Tryz.prog k1 ([Ia x0]++q1) (ba r)){r} (h:xa t0 t1=some r):Den Tryz.prog 87 [Aa t0,.fn k1 [] q1] (aa r):=by
 haveI I1:∀ x0 r,Con (t1 x0=some r) (Den Tryz.prog k1 ([Ia x0]++q1) (ba r)):=λx0 r=>⟨hp1 x0 r⟩
 have s1:∀ f:D->D->Prop,Rv f q1 q1=True:=λ_=>Og hc1
 have z1:∀ a b n,du a b n q1=q1:=λ_ _ _=>Ue _ _ _ _ hc1
 refine Den.at 17 k87.ok k87.nm (DC (QQ hc1 FA)) rfl ?_
 simp only[k87,Kf.of,zs,ze]
 unfold xa at h
 exact pg @ob.eq_1 (.l 1 0 (λ(s1:Int)=>⟨[.p 4,.k 3,.p 1,.s (aa s1),.p 10],[]⟩) (λ(_:Unit)=>⟨[],[]⟩) [] (.b (.b .o (.t [])) (.t [])) .o)
instance zI97{t0 t1 r}:Con (Qs t0 t1=some r) (Den Tryz.prog 89 [Pd t0,Pd t1] (ba r)):=⟨λh=>by
 refine dk 30 k89 ?_
 simp only[k89,Kf.of,zs,ze]
 unfold Qs at h
 exact pg @ql.eq_1 (.b .o (.l 1 0 (λ(s2:Int)=>⟨[.p 4,.k 1,.s (aa s2)],[]⟩) (λ(_:Unit)=>⟨[],[]⟩) [] (.z 1 (.j 1 (λ(j4:Bool)=>⟨[.p 20,.s (ba j4),.p 11],[]⟩) (.b (.t []) (.t [])) (.b (.b .o (.t [])) (.t [])))) .o))⟩
instance zI98{t0 t1 r}:Con (zj t0 t1=some r) (Den Tryz.prog 115 [aa t0,aa t1] (ba r)):=⟨λh=>by
 refine dk 28 k115 ?_
 simp only[k115,Kf.of,zs,ze]
 unfold zj at h
 exact pg trivial (.b (.j 1 (λ(j4:Bool)=>⟨[.k 4,.s (ba j4)],[]⟩) (.b (.b (.t []) (.t [])) (.t [])) .o) (.b (.j 1 (λ(j8:Bool)=>⟨[.k 4,.s (ba j8)],[]⟩) (.b (.b (.t []) (.t [])) (.t [])) .o) .o))⟩
instance zI99{t0 r}:Con (Sc t0=some r) (Den Tryz.prog 135 [za t0] (ba r)):=⟨λh=>by
 refine dk 17 k135 ?_
 simp only[k135,Kf.of,zs,ze]
 unfold Sc at h
 exact pg trivial (.z 1 (.j 1 (λ(j3:Bool)=>⟨[.k 2,.s (ba j3),.p 15],[]⟩) (.b (.b (.t []) (.t [])) (.t [])) .o))⟩
instance zI100{t0 r}:Con (rm t0=some r) (Den Tryz.prog 167 [aa t0] (aa r)):=⟨λh=>by
 refine dk 10 k167 ?_
 simp only[k167,Kf.of,zs,ze]
 unfold rm at h
 exact pg trivial .o⟩
theorem Gt{t0 t1 r} (h:cg t0 t1=some r):Den Tryz.prog 182 [Nh t0,oq t1] (ba r):=by
 refine dk 6 k182 ?_
 simp only[k182,Kf.of,zs,ze]
 unfold cg at h
 exact pg trivial .o
instance zI101{t0 t1 r}:Con (cg t0 t1=some r) (Den Tryz.prog 182 [Nh t0,oq t1] (ba r)):=⟨Gt⟩
instance zI102{t0 t1 r}:Con (rf t0 t1=some r) (Den Tryz.prog 196 [xb t0,aa t1] (.tup [Cb r.1,aa r.2])):=⟨λh=>by
 refine dk 26 k196 ?_
 simp only[k196,Kf.of,zs,ze]
 unfold rf at h
 exact pg trivial (.z 3 (.j 1 (λ(j3:Bool)=>⟨[.k 2,.p 2,.k 2,.p 1,.k 14,.s (ba j3),.p 6],[.o 0]⟩) (.b (.t [ok 0]) (.t [ok 0])) .o))⟩
theorem SA{t0:(List (List Int))}{t1:Int}{r:List Int}(h:nq t0 t1=some r):Den Tryz.prog 197 [xc t0,aa t1] (ua r):=by
 refine dk 60 k197 ?_;simp only[k197,Kf.of,zs,ze];unfold nq at h;refine ss (rg ?_);(try simp only[zz]);refine ss (rg ?_);obtain⟨x1,a1,h⟩:=bs h;obtain⟨f2,f3,f4,f5,f6⟩:=CK (e:=ba) a1;(try simp only[zz]at f5 f6);(try simp only[zz,f2,f3,f4,f5,f6]);refine ss (rg ?_);(try simp only[zz]);refine ss ?_;obtain⟨y7,h8,h⟩:=bs h;refine lm h8 (λq=>⟨xc t0::ds 4 (.own 0 0::.own 1 0::ds 55 []),[.live 1 0 (q.1.map ba),.live 1 0 (q.2.map aa)]⟩) (λb26=>⟨ds 5 (.own 0 0::ds 56 []),[.live 1 0 (b26.map ba)]⟩) (tz [ok 0,ok 1]) ?_ ?_
 .rintro⟨s2,s3⟩ z9 h10 h11;simp only[Ef]at h10;refine ss (ss (rg ?_));(try simp only[zz]);refine cd rfl ?_;(try simp only[zz]);refine gi h10 (λc4 h10=>?_) λc4 h10=>?_
  .refine sk ?_;(try simp only[zz,c4]);refine bk (ss (rg ?_));obtain⟨x5,f13,f14,f15,h10⟩:=bO h10;(try simp only[zz,f13,f14,f15]);refine ss (rg ?_);obtain⟨x6,a16,h10⟩:=bs h10;obtain⟨f17,f18,f19⟩:=yO (e:=aa) a16;(try simp only[zz]at f19);(try simp only[zz,f17,f18,f19]);refine ss (rg ?_);obtain⟨x7,f21,f22,h10⟩:=bI h10;(try simp only[zz,f21,f22]);obtain⟨y23,h24,h10⟩:=bs h10;refine lm h24 (λq=>⟨xc t0::ds 4 (.own 0 0::.own 1 0::ds 22 (ua x7::aa (x7.length:Int)::aa q.2.2::ds 30 [])),[.live 1 0 (q.1.map ba),.live 1 0 (q.2.1.map aa)]⟩) (λq=>⟨xc t0::ds 4 (.own 0 0::.own 1 0::ds 55 []),[.live 1 0 (q.1.map ba),.live 1 0 (q.2.map aa)]⟩) (tz [ok 0,ov 1 1]) ?_ ?_
   .rintro⟨s8,s9,s10⟩ z25 h26 h27;simp only[ah]at h26;refine ss (rg ?_);(try simp only[zz]);refine ss (cd rfl ?_);(try simp only[zz]);refine gi h26 (λc11 h26=>?_) λc11 h26=>?_
    .refine sk ?_;(try simp only[zz,c11]);refine jm h26 (λq=>⟨xc t0::ds 4 (.own 0 0::.own 1 0::ds 22 (ua x7::aa (x7.length:Int)::aa s10::ds 30 [])),[.live 1 0 (q.1.map ba),.live 1 0 (q.2.map aa)]⟩) (λz29 h28=>?_) λz29 h28 h26=>?_
     .refine bk (ss (rg ?_));obtain⟨x12,f31,f32,h28⟩:=bI h28;(try simp only[zz,f31,f32]);refine ss (rg ?_);obtain⟨x13,f34,f35,f36,h28⟩:=bO h28;(try simp only[zz,f34,f35,f36]);refine cd rfl ?_;(try simp only[zz,f34,f35,f36]);refine gi h28 (λc14 h28=>?_) λc14 h28=>?_
      .refine ss (rg ?_);obtain⟨x15,a37,h28⟩:=bs h28;obtain⟨f38,f39⟩:=IV (e:=ba) a37;(try simp only[zz]at f39);(try simp only[zz,f34,f35,f36,f38,f39]);refine rg ?_;obtain⟨x16,a40,h28⟩:=bs h28;obtain⟨f41,f42⟩:=Gv (e:=aa) a40;(try simp only[zz]at f41 f42);(try simp only[zz,f41,f42]);cases h28;exact tz [ok 0,ov 1 1]
      refine sk ?_;(try simp only[zz,f34,f35,f36,c14]);cases h28;exact tz [ok 0,ok 1]
     obtain⟨j17,j18⟩:=z29;dsimp only at h26;refine rg ?_;(try simp only[zz]);cases h26;exact tz [ok 0,ok 1]
    refine xt ?_;(try simp only[zz,c11]);cases h26;exact tz [ok 0,ok 1]
   rintro⟨b22,b23⟩ rfl;dsimp only at h10;(try simp only[zz]);cases h10;exact tz [ok 0,ok 1]
  refine xt ?_;(try simp only[zz,c4]);cases h10;exact tz [ok 0]
 rintro b26 rfl;dsimp only at h;(try simp only[zz]);refine ss (rg ?_);(try simp only[zz]);refine ss (ss (rg ?_));(try simp only[zz]);obtain⟨y43,h44,h⟩:=bs h;refine lm h44 (λq=>⟨ds 10 (.own 0 0::ds 37 (.own 1 0::aa (b26.length:Int)::aa q.2::ds 11 [])),[.live 1 0 (q.1.map aa),.live 1 0 (b26.map ba)]⟩) (λb36=>⟨ds 10 (.own 0 0::ds 51 []),[.live 1 0 (b36.map aa)]⟩) (tz [on 1,ok 0]) ?_ ?_
 .rintro⟨s27,s28⟩ z45 h46 h47;simp only[bh]at h46;refine ss (rg ?_);(try simp only[zz]);refine ss (cd rfl ?_);(try simp only[zz]);refine gi h46 (λc29 h46=>?_) λc29 h46=>?_
  .refine sk ?_;(try simp only[zz,c29]);refine jm h46 (λj33=>⟨ds 10 (.own 0 0::ds 37 (.own 1 0::aa (b26.length:Int)::aa s28::ds 11 [])),[.live 1 0 (j33.map aa),.live 1 0 (b26.map ba)]⟩) (λz49 h48=>?_) λj33 h48 h46=>?_
   .refine bk (ss (rg ?_));obtain⟨x30,f51,f52,f53,h48⟩:=bO h48;(try simp only[zz,f51,f52,f53]);refine ss (rg ?_);(try simp only[zz]);refine cd rfl ?_;(try simp only[zz]);refine gi h48 (λc31 h48=>?_) λc31 h48=>?_
    .refine rg ?_;obtain⟨x32,a54,h48⟩:=bs h48;obtain⟨f55,f56⟩:=Gv (e:=aa) a54;(try simp only[zz]at f55 f56);(try simp only[zz,f55,f56]);cases h48;exact tz [ov 0 1,ok 1]
    refine sk ?_;(try simp only[zz,c31]);cases h48;exact tz [ok 0,ok 1]
   refine rg ?_;(try simp only[zz]);cases h46;exact tz [ok 0,ok 1]
  refine xt ?_;(try simp only[zz,c29]);cases h46;exact tz [ok 0]
 rintro b36 rfl;dsimp only at h;(try simp only[zz]);refine ss (rg ?_);(try simp only[zz]);cases h;exact rt ez
theorem zC{t0:(List (List Int))}{t1:Int}{r:List Int}(h:wi t0 t1=some r):Den Tryz.prog 197 [xc t0,aa t1] (ua r):=SA (FR h)
instance zI103{t0 t1 r}:Con (wi t0 t1=some r) (Den Tryz.prog 197 [xc t0,aa t1] (ua r)):=⟨zC⟩
theorem Xl{t0}{t1:GTable->Option Bool}{k1:Nat}{q1:List D}(hc1:fa q1=true)(hp1:∀ x0 r,t1 x0=some r->Den Tryz.prog k1 ([Qb x0]++q1) (ba r)){r} (h:Vb t0 t1=some r):Den Tryz.prog 208 [wk t0,.fn k1 [] q1] (aa r):=by
 haveI I1:∀ x0 r,Con (t1 x0=some r) (Den Tryz.prog k1 ([Qb x0]++q1) (ba r)):=λx0 r=>⟨hp1 x0 r⟩
 have s1:∀ f:D->D->Prop,Rv f q1 q1=True:=λ_=>Og hc1
 have z1:∀ a b n,du a b n q1=q1:=λ_ _ _=>Ue _ _ _ _ hc1
 refine Den.at 17 W9.ok W9.nm (DC (QQ hc1 FA)) rfl ?_
 simp only[W9,Kf.of,zs,ze]
 unfold Vb at h
 exact pg @Jc.eq_1 (.l 1 0 (λ(s1:Int)=>⟨[.p 4,.k 3,.p 1,.s (aa s1),.p 10],[]⟩) (λ(_:Unit)=>⟨[],[]⟩) [] (.b (.b .o (.t [])) (.t [])) .o)
theorem Pq{t0 t1 r} (h:Gc t0 t1=some r):Den Tryz.prog 210 [db t0,Rp t1] (ba r):=by
 refine dk 7 k210 ?_
 simp only[k210,Kf.of,zs,ze]
 unfold Gc at h
 exact pg trivial .o
instance zI104{t0 t1 r}:Con (Gc t0 t1=some r) (Den Tryz.prog 210 [db t0,Rp t1] (ba r)):=⟨Pq⟩
instance zI105{t0 t1 r}:Con (Ni t0 t1=some r) (Den Tryz.prog 237 [ua t0,ua t1] (aa r)):=⟨λh=>by
 refine dk 40 k237 ?_
 simp only[k237,Kf.of,zs,ze]
 unfold Ni at h
 exact pg @jg.eq_1 (.b .o (.b .o (.l 1 0 (λ(s3:Int)=>⟨[.k 1,.p 3,.k 11,.p 2,.s (aa s3),.p 24],[]⟩) (λ(_:Unit)=>⟨[],[]⟩) [] (.b (.z 3 (.j 1 (λ(j7:Bool)=>⟨[.k 1,.p 5,.k 9,.p 3,.k 10,.s (ba j7),.p 13],[]⟩) (.b (.t []) (.t [])) (.b .o (.j 1 (λ(j11:Bool)=>⟨[.k 1,.p 4,.k 10,.p 13,.k 12,.s (ba j11),.p 1],[]⟩) (.b (.t []) (.t [])) (.b .o (.t [])))))) (.t [])) .o)))⟩
instance zI106{t0 t1 r}:Con (Jq t0 t1=some r) (Den Tryz.prog 252 [Sb t0,tm t1] (ba r)):=⟨λh=>by
 refine dk 79 k252 ?_
 simp only[k252,Kf.of,zs,ze]
 unfold Jq at h
 exact pg trivial (.b (.j 1 (λ(j3:Bool)=>⟨[.k 4,.s (ba j3)],[]⟩) (.b (.t []) (.t [])) .o) (.b (.j 1 (λ(j8:Bool)=>⟨[.k 4,.s (ba j8)],[]⟩) (.b (.b (.t []) (.t [])) (.t [])) .o) (.b (.j 1 (λ(j11:Bool)=>⟨[.k 4,.s (ba j11)],[]⟩) (.b (.t []) (.t [])) .o) (.b .o (.j 1 (λ(j16:Bool)=>⟨[.k 2,.p 2,.k 61,.s (ba j16),.p 15],[.o 0,.o 1]⟩) (.b (.t [ok 0,ok 1]) (.b (.t [ok 0,ok 1]) (.b (.t [ok 0,ok 1]) (.t [ok 0,ok 1])))) (.b (.j 1 (λ(j19:Bool)=>⟨[.k 4,.s (ba j19),.p 60],[]⟩) (.b (.t []) (.t [])) .o) .o))))))⟩
instance zI107{t0 r}:Con (Pf t0=some r) (Den Tryz.prog 280 [aa t0] (ba r)):=⟨λh=>by
 refine dk 12 k280 ?_
 simp only[k280,Kf.of,zs,ze]
 unfold Pf at h
 exact pg trivial (.z 1 (.j 1 (λ(j3:Bool)=>⟨[.k 2,.s (ba j3),.p 10],[]⟩) (.b (.b (.t []) (.t [])) (.t [])) .o))⟩
instance zI108{t0 t1 t2 r}:Con (nn t0 t1 t2=some r) (Den Tryz.prog 281 [aa t0,aa t1,aa t2] (.tup [vb r.1,ba r.2])):=⟨λh=>by
 refine dk 44 k281 ?_
 simp only[k281,Kf.of,zs,ze]
 unfold nn at h
 exact pg trivial (.b (.j 1 (λ(j4:Bool)=>⟨[.k 6,.p 1,.s (ba j4)],[.h 0 [.g [.s (aa t1),.p 1]]]⟩) (.b (.b (.t [ok 0]) (.t [ok 0])) (.t [ok 0])) .o) (.b (.j 1 (λ(j7:Bool)=>⟨[.k 6,.p 1,.s (ba j7)],[.h 0 [.g [.s (aa t1),.p 1]]]⟩) (.b (.t [ok 0]) (.t [ok 0])) .o) (.j 1 (λ(j10:Bool)=>⟨[.k 6,.p 1,.k 27,.s (ba j10),.p 12],[.o 0]⟩) (.b (.b (.t [ok 0]) (.t [ok 0])) (.t [ok 0])) .o)))⟩
instance zI109{t0 r}:Con (Vk t0=some r) (Den Tryz.prog 41 [Ca t0] (.tup [aa r.1,aa r.2])):=⟨λh=>by
 refine dk 82 k41 ?_
 simp only[k41,Kf.of,zs,ze]
 unfold Vk at h
 have q1:∀ (m:List Ent) (o:Option Int),Yz false (.v (.int .i64 0)) m (o.map aa)=some (.v (.int .i64 (o.getD 0)),m):=λ_ o=>by cases o <;> rfl
 have q2:∀ (k:Int) (x:Int) l,Xq (.int .i64 k) (.v (.int .i64 x)) (em aa l)=em aa (CG k x l):=λ_ _ _=>SI (e:=aa)
 have q3:=λl=>AI (e:=aa) (l:=l)
 exact pg @Bh.eq_1 (.b .o (.l 2 0 (λ(q:((List (Int × Int)) × Int))=>⟨[.p 2,.k 2,.p 3,.k 4,.p 2,.s (aa q.2),.p 69],[.m 0 (em aa q.1)]⟩) (λ(_:Unit)=>⟨[],[]⟩) [ok 0] (.b (.z 3 (.j 1 (λ(j13:Bool)=>⟨[.p 14,.k 4,.s (ba j13),.p 64],[.o 0,.o 1]⟩) (.j 1 (λ(j7:Bool)=>⟨[.p 14,.k 4,.s (ba j7),.p 64],[.o 0,.o 1]⟩) (.b (.t [ok 0,ok 1]) (.t [ok 0,ok 1])) (.b (.t [ok 0,ok 1]) (.j 1 (λ(j10:Bool)=>⟨[.p 18,.s (ba j10),.p 64],[.o 0,.o 1]⟩) (.b (.t [ok 0,ok 1]) (.t [ok 0,ok 1])) (.b (.t [ok 0,ok 1]) (.b (.t [ok 0,ok 1]) (.t [ok 0,ok 1])))))) (.b .o (.j 1 (λ(j16:Bool)=>⟨[.p 18,.k 26,.s (ba j16),.p 38],[.o 0,.o 1]⟩) (.b (.t [ok 0,ok 1]) (.t [ok 0,ok 1])) (.b .o (.j 1 (λ(j20:Bool)=>⟨[.p 44,.k 10,.s (ba j20),.p 28],[.o 0,.o 1]⟩) (.b (.t [ok 0,ok 1]) (.t [ok 0,ok 1])) (.b .o (.b .o (.t [ok 0]))))))))) (.t [])) .o))⟩
instance zI110{t0 r}:Con (No t0=some r) (Den Tryz.prog 43 [bb t0] (ba r)):=⟨λh=>by
 refine dk 54 k43 ?_
 simp only[k43,Kf.of,zs,ze]
 unfold No at h
 exact pg trivial (.z 2 (.j 1 (λ(j3:Bool)=>⟨[.k 1,.p 1,.k 11,.s (ba j3),.p 41],[.o 0]⟩) (.b (.t [ok 0]) (.t [ok 0])) (.b .o (.z 1 (.j 1 (λ(j7:Bool)=>⟨[.k 1,.p 12,.k 15,.s (ba j7),.p 26],[.o 0]⟩) (.b (.b (.t [ok 0]) (.t [ok 0])) (.t [ok 0])) (.b .o (.z 1 (.j 1 (λ(j10:Bool)=>⟨[.k 1,.p 27,.k 8,.s (ba j10),.p 18],[.o 0]⟩) (.b (.t [ok 0]) (.t [ok 0])) (.b .o (.j 1 (λ(j15:Bool)=>⟨[.k 2,.s (ba j15),.p 33],[]⟩) (.b (.b (.b (.t []) (.t [])) (.t [])) (.t [])) .o))))))))))⟩
instance zI111{t0 t1 r}:Con (np t0 t1=some r) (Den Tryz.prog 53 [ub t0,ub t1] (ba r)):=⟨λh=>by
 refine dk 29 k53 ?_
 simp only[k53,Kf.of,zs,ze]
 unfold np at h
 exact pg trivial (.z 1 (.j 1 (λ(j5:Bool)=>⟨[.k 4,.s (ba j5),.p 26],[]⟩) (.b (.b (.b (.t []) (.t [])) (.t [])) (.t [])) .o))⟩
instance zI112{t0 t1 t2 t3 r}:Con (oi t0 t1 t2 t3=some r) (Den Tryz.prog 85 [bb t0,aa t1,aa t2,aa t3] (.tup [bb r.1,aa r.2])):=⟨λh=>by
 refine dk 54 k85 ?_
 simp only[k85,Kf.of,zs,ze]
 unfold oi at h
 exact pg trivial (.b .o (.b .o (.j 1 (λ(j6:Bool)=>⟨[.k 1,.p 2,.k 1,.p 5,.k 14,.s (ba j6),.p 34],[.o 0,.o 1]⟩) (.b (.b (.t [ok 0,ok 1]) (.t [ok 0,ok 1])) (.t [ok 0,ok 1])) (.b .o (.j 1 (λ(j11:Bool)=>⟨[.k 1,.p 22,.k 14,.s (ba j11),.p 20],[.o 0,.o 1]⟩) (.b (.b (.b (.t [ok 0,ok 1]) (.t [ok 0,ok 1])) (.t [ok 0,ok 1])) (.t [ok 0,ok 1])) .o)))))⟩
instance zI113{t0 t1 t2 r}:Con (Fm t0 t1 t2=some r) (Den Tryz.prog 86 [Aa t0,aa t1,aa t2] (.tup [Ca r.1,aa r.2])):=⟨λh=>by
 refine dk 13 k86 ?_
 simp only[k86,Kf.of,zs,ze]
 unfold Fm at h
 exact pg (And.intro @gp.eq_1 (And.intro @Te.eq_1 @wZ.eq_1)) (.b .o (.i wZ 2 61 (λ(q:((List GPosting) × Int))=>⟨[.s (.tup [.own 0 0, aa q.2])],[.n 4 ((q.1.map ta))]⟩) (.l 3 2 (λ(q:(Int × (List GPosting) × (List GMonthBalance)))=>⟨[.k 1,.s (aa q.1),.p 8,.k 2,.s (.own 0 0),.s (Aa q.2.2),.p 3],[.n 4 ((q.2.1.map ta))]⟩) (λ(q:(Int × (List GPosting)))=>⟨[.k 1,.s (aa q.1),.k 10,.s (.own 0 0)],[.n 4 ((q.2.map ta))]⟩) [on 4] (.z 1 (.j 1 (λ(j6:Bool)=>⟨[.k 1,.p 28,.s (ba j6),.p 36],[.o 0]⟩) (.b (.t [ok 0]) (.t [ok 0])) (.b (.j 2 (λ(q:(Int × (List GPosting)))=>⟨[.k 1,.s (aa q.1),.p 27],[.c 0 ((q.2.map ta))]⟩) (.z 3 (.j 1 (λ(j11:Bool)=>⟨[.k 1,.p 28,.k 19,.s (ba j11),.p 17],[.o 0,.o 1]⟩) (.b (.t [ok 0,ok 1]) (.t [ok 0,ok 1])) (.b (.t [ok 0]) (.t [ov 0 1])))) (.t [ok 0])) (.t [ok 0])))) (.t [ok 0])) .o))⟩
instance zI114{t0 t1 r}:Con (mc t0 t1=some r) (Den Tryz.prog 95 [za t0,aa t1] (ba r)):=⟨λh=>by
 refine dk 17 k95 ?_
 simp only[k95,Kf.of,zs,ze]
 unfold mc at h
 exact pg trivial (.z 1 (.j 1 (λ(j4:Bool)=>⟨[.k 4,.s (ba j4),.p 14],[]⟩) (.b (.b (.t []) (.t [])) (.t [])) .o))⟩
instance zI115{t0 r}:Con (Hj t0=some r) (Den Tryz.prog 137 [za t0] (ba r)):=⟨λh=>by
 refine dk 11 k137 ?_
 simp only[k137,Kf.of,zs,ze]
 unfold Hj at h
 exact pg trivial (.z 1 (.j 1 (λ(j3:Bool)=>⟨[.k 2,.s (ba j3),.p 9],[]⟩) (.b (.t []) (.t [])) .o))⟩
instance zI116{t0 r}:Con (ph t0=some r) (Den Tryz.prog 142 [aa t0] (aa r)):=⟨λh=>by
 refine dk 11 k142 ?_
 simp only[k142,Kf.of,zs,ze]
 unfold ph at h
 exact pg trivial .o⟩
instance zI117{t0 r}:Con (Ec t0=some r) (Den Tryz.prog 164 [za t0] (ba r)):=⟨λh=>by
 refine dk 11 k164 ?_
 simp only[k164,Kf.of,zs,ze]
 unfold Ec at h
 exact pg trivial (.z 1 (.j 1 (λ(j3:Bool)=>⟨[.k 2,.s (ba j3),.p 9],[]⟩) (.b (.t []) (.t [])) .o))⟩
theorem Pk{t0}{t1:GTable->Option Bool}{k1:Nat}{q1:List D}(hc1:fa q1=true)(hp1:∀ x0 r,t1 x0=some r->Den Tryz.prog k1 ([Qb x0]++q1) (ba r)){r} (h:Za t0 t1=some r):Den Tryz.prog 183 [wk t0,.fn k1 [] q1] (ba r):=by
 haveI I1:∀ x0 r,Con (t1 x0=some r) (Den Tryz.prog k1 ([Qb x0]++q1) (ba r)):=λx0 r=>⟨hp1 x0 r⟩
 have s1:∀ f:D->D->Prop,Rv f q1 q1=True:=λ_=>Og hc1
 have z1:∀ a b n,du a b n q1=q1:=λ_ _ _=>Ue _ _ _ _ hc1
 haveI:∀ y0 r,Con (Vb y0 t1=some r) (Den Tryz.prog 208 [wk y0,.fn k1 [] q1] (aa r)):=λy0 r=>⟨Xl hc1 hp1⟩
 refine Den.at 7 S9.ok S9.nm (DC (QQ hc1 FA)) rfl ?_
 simp only[S9,Kf.of,zs,ze]
 unfold Za at h
 exact pg trivial .o
instance zI118{t0 t1 r}:Con (Fb t0 t1=some r) (Den Tryz.prog 264 [aa t0,uo t1] (.tup [vb r.1,ba r.2])):=⟨λh=>by
 refine dk 220 k264 ?_
 simp only[k264,Kf.of,zs,ze]
 unfold Fb at h
 exact pg trivial (.b .o (.b (.a [[],[],[],[],[],[],[2,4]] .o) (.j 1 (λ(j7:Bool)=>⟨[.p 5,.k 1,.p 1,.k 1,.p 1,.k 18,.s (ba j7),.p 194],[.o 0,.o 1]⟩) (.b (.t [ok 0,ok 1]) (.t [ok 0,ok 1])) (.b (.j 3 (λ(q:(Int × Int × Bool))=>⟨[.k 4,.p 1,.s (ba q.2.2)],[.h 0 [.g [.s (aa q.1),.s (aa q.2.1)]]]⟩) (.a [[],[],[],[],[],[],[],[],[],[],[],[],[],[],[],[],[],[]] (.b (.t [ok 0]) (.t [ok 0]))) .o) (.j 1 (λ(j18:Bool)=>⟨[.p 27,.k 20,.s (ba j18),.p 174],[.o 0,.o 1]⟩) (.b (.t [ok 0,ok 1]) (.b (.t [ok 0,ok 1]) (.t [ok 0,ok 1]))) (.b .o (.b (.j 3 (λ(q:(Int × Int × Bool))=>⟨[.k 4,.p 1,.s (ba q.2.2)],[.h 0 [.g [.s (aa q.1),.s (aa q.2.1)]]]⟩) (.a [[],[],[],[],[],[],[],[],[],[],[],[],[],[],[],[10,12]] (.b (.t [ok 0]) (.t [ok 0]))) .o) (.j 1 (λ(j31:Bool)=>⟨[.k 1,.p 46,.k 33,.s (ba j31),.p 141],[.o 0,.o 1]⟩) (.b (.t [ok 0,ok 1]) (.t [ok 0,ok 1])) (.b (.j 3 (λ(q:(Int × Int × Bool))=>⟨[.k 4,.p 1,.s (ba q.2.2)],[.h 0 [.g [.s (aa q.1),.s (aa q.2.1)]]]⟩) (.a [[],[],[],[],[],[],[],[],[],[],[],[],[],[],[],[],[],[],[],[],[],[],[],[],[18,20]] (.b (.b (.t [ok 0]) (.t [ok 0])) (.t [ok 0]))) .o) (.j 1 (λ(j42:Bool)=>⟨[.k 1,.p 79,.k 27,.s (ba j42),.p 114],[.o 0,.o 1]⟩) (.b (.t [ok 0,ok 1]) (.t [ok 0,ok 1])) (.b (.a [[],[],[],[],[],[],[],[],[2,3,5,6]] .o) (.j 1 (λ(j47:Bool)=>⟨[.k 1,.p 106,.k 11,.s (ba j47),.p 103],[.o 0,.o 1]⟩) (.b (.t [ok 0,ok 1]) (.t [ok 0,ok 1])) (.b (.j 1 (λ(j54:Bool)=>⟨[.k 4,.p 1,.s (ba j54)],[.h 0 [.g [.s (aa 1),.p 1]]]⟩) (.a [[],[],[],[],[],[],[],[],[],[],[],[],[],[],[],[],[],[],[],[],[],[],[16,18]] (.b (.b (.t [ok 0]) (.t [ok 0])) (.t [ok 0]))) .o) (.j 1 (λ(j56:Bool)=>⟨[.k 1,.p 117,.k 25,.s (ba j56),.p 78],[.o 0,.o 1]⟩) (.b (.t [ok 0,ok 1]) (.t [ok 0,ok 1])) (.b (.j 1 (λ(j61:Bool)=>⟨[.k 4,.p 1,.s (ba j61)],[.h 0 [.g [.s (aa 1),.p 1]]]⟩) (.a [[],[],[],[],[],[],[],[],[],[],[],[],[],[8,10]] (.b (.t [ok 0]) (.t [ok 0]))) .o) (.b (.j 3 (λ(q:(Int × Int × Bool))=>⟨[.k 4,.p 1,.s (ba q.2.2)],[.h 0 [.g [.s (aa q.1),.s (aa q.2.1)]]]⟩) (.a [[],[],[],[],[],[],[],[],[],[],[],[],[],[],[],[],[],[10,11,13,14]] (.b (.t [ok 0]) (.t [ok 0]))) .o) (.j 1 (λ(j71:Bool)=>⟨[.k 1,.p 5,.k 2,.p 135,.k 35,.s (ba j71),.p 43],[.o 0]⟩) (.b (.t [ok 0]) (.t [ok 0])) (.b (.j 3 (λ(q:(Int × Int × Bool))=>⟨[.k 4,.p 1,.s (ba q.2.2),.p 2],[.h 0 [.g [.s (aa q.1),.s (aa q.2.1)]]]⟩) (.a [[],[],[],[],[],[],[],[],[],[],[],[],[],[],[],[10,12]] (.b (.t [ok 0]) (.t [ok 0]))) .o) (.j 1 (λ(j80:Bool)=>⟨[.k 1,.p 177,.k 18,.s (ba j80),.p 25],[.o 0]⟩) (.b (.t [ok 0]) (.t [ok 0])) (.b (.j 1 (λ(j85:Bool)=>⟨[.k 4,.p 1,.s (ba j85),.p 2],[.h 0 [.g [.s (aa 2),.p 1]]]⟩) (.a [[],[],[],[],[],[],[],[],[],[],[],[],[],[8,10]] (.b (.t [ok 0]) (.t [ok 0]))) .o) (.j 1 (λ(j87:Bool)=>⟨[.k 1,.p 7,.k 204,.s (ba j87),.p 9],[.o 0]⟩) (.b (.t [ok 0]) (.t [ok 0])) (.b (.a [[],[],[],[],[],[],[2,4]] .o) .o))))))))))))))))))))))⟩
end Go.Proofs.Dev
