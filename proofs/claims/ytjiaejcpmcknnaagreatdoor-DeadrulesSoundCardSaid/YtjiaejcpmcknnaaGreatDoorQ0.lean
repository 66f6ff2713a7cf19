/-
  Contracts of the functions: each answers as its plain partial function says.
-/
import Derived.Test.YtjiaejcpmcknnaaGreatDoorK
import Derived.Test.YtjiaejcpmcknnaaGreatDoorG
import Derived.Test.YtjiaejcpmcknnaaGreatDoorPD
import Derived.Test.YtjiaejcpmcknnaaGreatDoorH1
import Derived.Test.YtjiaejcpmcknnaaGreatDoorH2
open Option.some renaming inj->oab
set_option linter.all false
set_option maxHeartbeats 1000000
set_option maxRecDepth 10000
namespace Go.Proofs.Dev
open Go Go.Tm
instance {t0 r}:Con (Lg t0=some r) (Den Tryz.prog 22 [Ea t0] (ba r)):=⟨λh=>by
 refine dk 92 k22 ?_
 simp only[k22,Kf.of,zs,ze]
 unfold Lg at h
 exact pg (And.intro @fi.eq_1 (And.intro @ji.eq_1 @ki.eq_1)) (.z 2 (.j 1 (λ(j4:Bool)=>⟨[.k 1,.p 1,.k 26,.s (ba j4),.p 64],[.o 0]⟩) (.b (.b (.b (.t [ok 0]) (.t [ok 0])) (.t [ok 0])) (.t [ok 0])) (.b .o (.l 1 0 (λ(s6:Int)=>⟨[.k 1,.p 2,.s (aa s6),.p 24],[.o 0]⟩) (λ(_:Unit)=>⟨[.k 1,.p 2],[.o 0]⟩) [ok 0] (.b (.b .o (.t [ok 0])) (.t [ok 0])) (.l 1 0 (λ(s11:Int)=>⟨[.k 1,.p 3,.s (aa s11),.p 88],[.o 0]⟩) (λ(_:Unit)=>⟨[.k 1,.p 3],[.o 0]⟩) [ok 0] (.b (.b .o (.t [ok 0])) (.t [ok 0])) (.l 1 0 (λ(s16:Int)=>⟨[.k 1,.p 4,.s (aa s16),.p 87],[.o 0]⟩) (λ(_:Unit)=>⟨[],[]⟩) [ok 0] (.b (.z 2 (.j 1 (λ(j22:Bool)=>⟨[.k 1,.p 5,.k 86,.s (ba j22)],[.o 0]⟩) (.b (.b (.b (.t [ok 0]) (.t [ok 0])) (.t [ok 0])) (.t [ok 0])) (.b .o (.t [ok 0])))) (.t [])) .o))))))⟩
theorem qq{t0}{t1:GRule->Option Bool}{k1:Nat}{q1:List D}(hc1:ia q1=true)(hp1:∀ x0 r,t1 x0=some r->Den Tryz.prog k1 ([Za x0]++q1) (ba r)){r} (h:Ec t0 t1=some r):Den Tryz.prog 52 [ue t0,.fn k1 [] q1] (.tup [la r.1,la r.2]):=by
 haveI I1:∀ x0 r,Con (t1 x0=some r) (Den Tryz.prog k1 ([Za x0]++q1) (ba r)):=λx0 r=>⟨hp1 x0 r⟩
 have s1:∀ f:D->D->Prop,Ax f q1 q1=True:=λ_=>Tg hc1
 have z1:∀ a b n,Cv a b n q1=q1:=λ_ _ _=>uf _ _ _ _ hc1
 refine Den.at 57 k52.ok k52.nm (tE (lT hc1 JC)) rfl ?_
 simp only[k52,Kf.of,zs,ze]
 unfold Ec at h
 exact pg @Ge.eq_1 (.l 4 2 (λ(q:((List Int) × (List Int) × (List Int) × Int))=>⟨[.k 1,.p 3,.k 2,.s (.own 0 0),.s (.own 1 0),.p 4,.k 3,.p 2,.s (aa q.2.2.2),.p 41],[.n 1 ((q.1.map aa)),.n 1 ((q.2.1.map aa)),.c 0 ((q.2.2.1.map aa))]⟩) (λ(q:((List Int) × (List Int)))=>⟨[.k 6,.s (.own 0 0),.s (.own 1 0)],[.n 1 ((q.1.map aa)),.n 1 ((q.2.map aa))]⟩) [on 1,on 1,ok 0] (.b (.j 3 (λ(q:((List Int) × (List Int) × (List Int)))=>⟨[.k 1,.p 17],[.c 0 ((q.1.map aa)),.c 1 ((q.2.1.map aa)),.c 2 ((q.2.2.map aa))]⟩) (.z 2 (.j 1 (λ(j12:Int)=>⟨[.k 1,.p 10,.s (aa j12),.p 6],[.o 0,.o 1,.o 2,.o 3]⟩) (.j 1 (λ(j9:Bool)=>⟨[.k 1,.p 17,.k 12,.s (ba j9),.p 28],[.o 0,.o 1,.o 2,.o 3]⟩) (.b (.t [ok 0,ok 1,ok 2,ok 3]) (.t [ok 0,ok 1,ok 2,ok 3])) (.b (.t [ok 0,ok 1,ok 2,ok 3]) (.t [ok 0,ok 1,ok 2,ok 3]))) (.b (.t [ov 0 1,ov 1 1,ok 2]) (.t [ok 0,ok 1,ok 2])))) (.t [ok 0,ok 1,ok 2])) (.t [ok 0,ok 1])) .o)
instance {t0 r}:Con (Dg t0=some r) (Den Tryz.prog 89 [Gb t0] (ba r)):=⟨λh=>by
 refine dk 17 k89 ?_
 simp only[k89,Kf.of,zs,ze]
 unfold Dg at h
 exact pg trivial (.z 1 (.j 1 (λ(j3:Bool)=>⟨[.k 2,.s (ba j3),.p 15],[]⟩) (.b (.b (.t []) (.t [])) (.t [])) .o))⟩
instance {t0 r}:Con (Cg t0=some r) (Den Tryz.prog 107 [Na t0] (ba r)):=⟨λh=>by
 refine dk 10 k107 ?_
 simp only[k107,Kf.of,zs,ze]
 unfold Cg at h
 exact pg trivial (.z 3 (.j 1 (λ(j5:Bool)=>⟨[.k 5,.s (ba j5),.p 5],[]⟩) (.b (.t []) (.b (.t []) (.b (.t []) (.b (.t []) (.t []))))) .o))⟩
instance {t0 t1 r}:Con (kf t0 t1=some r) (Den Tryz.prog 119 [Bb t0,aa t1] (.tup [Cb r.1,aa r.2])):=⟨λh=>by
 refine dk 26 k119 ?_
 simp only[k119,Kf.of,zs,ze]
 unfold kf at h
 exact pg trivial (.z 3 (.j 1 (λ(j3:Bool)=>⟨[.k 2,.p 2,.k 2,.p 1,.k 14,.s (ba j3),.p 6],[.o 0]⟩) (.b (.t [ok 0]) (.t [ok 0])) .o))⟩
theorem Dp{t0 t1 r} (h:Sb t0 t1=some r):Den Tryz.prog 144 [ua t0,Wb t1] (ba r):=by
 refine dk 29 k144 ?_
 simp only[k144,Kf.of,zs,ze]
 unfold Sb at h
 exact pg trivial (.b (.j 1 (λ(j3:Bool)=>⟨[.k 4,.s (ba j3)],[]⟩) (.b (.t []) (.t [])) .o) (.j 1 (λ(j6:Bool)=>⟨[.k 4,.s (ba j6)],[]⟩) (.b (.b (.t []) (.t [])) (.t [])) .o))
instance {t0 t1 r}:Con (Sb t0 t1=some r) (Den Tryz.prog 144 [ua t0,Wb t1] (ba r)):=⟨Dp⟩
instance {t0 r : List ByteArray}:Con (Re t0=some r) (Den Tryz.prog 146 [Su t0] (Su r)):=⟨λh=>by
  unfold Re at h
  split at h
  · rename_i hl
    obtain rfl := oab h
    refine dk 7 k146 ?_
    simp only[k146,Kf.of,zs,ze]
    refine T.Ez ?_
    refine T.rg ?_
    simp only[zx, ze]
    refine T.Ez ?_
    refine T.Ez ?_
    refine T.Zt (i := 0) (S := 1) (l := t0.map vg) rfl (Fr.l _) (by simp) (by decide) (by decide) (by decide) ?_
    intro b hb
    have happ : app 16 ([] : List ByteArray) t0 = some t0 := by unfold app; rw[if_pos (by simp; omega)]; simp
    cases b with
    | true =>
      have hz : t0 = [] := by
        cases t0 with
        | nil => rfl
        | cons x l => exact absurd (hb (by simp)) (by simp)
      subst hz
      simp only[zx, ze]
      refine T.cd rfl ?_
      refine gP.mk (λ_ => ?_) (λh => absurd rfl h)
      refine T.Ez ?_
      refine T.rg ?_
      simp only[zx, ze]
      exact T.ret <| Rn (by simp only[zx, ze, um, lu, nu, yr]; exact sJ (by simp only[zq, ze]))
    | false =>
      simp only[zx, ze]
      refine T.cd rfl ?_
      refine gP.mk (λh => by cases h) (λ_ => ?_)
      refine T.skip ?_
      simp only[zx, ze]
      refine T.Ez ?_
      refine T.rg ?_
      obtain⟨f1, f2⟩ := eJ (e := vg) happ
      try simp only[zx, ze] at f1 f2
      simp only[zx, ze, f1, f2]
      exact T.ret <| Rn (by simp only[zx, ze, um, lu, nu, yr]; exact sJ (by simp only[zq, ze]))
  · cases h⟩
instance {t0 t1 r}:Con (Gf t0 t1=some r) (Den Tryz.prog 153 [Wa t0,Na t1] (aa r)):=⟨λh=>by
 refine dk 17 k153 ?_
 simp only[k153,Kf.of,zs,ze]
 unfold Gf at h
 exact pg @Bc.eq_1 (.l 1 0 (λ(s1:Int)=>⟨[.p 1,.k 2,.p 1,.k 3,.p 1,.s (aa s1),.p 10],[.o 0]⟩) (λ(_:Unit)=>⟨[],[]⟩) [ok 0] (.b (.b .o (.t [ok 0])) (.t [])) .o)⟩
instance {t0 r}:Con (Oe t0=some r) (Den Tryz.prog 174 [vg t0] (ba r)):=⟨λh=>by
 refine dk 59 k174 ?_
 simp only[k174,Kf.of,zs,ze]
 unfold Oe at h
 exact pg trivial (.z 3 (.j 1 (λ(j55:Bool)=>⟨[.k 4,.s (ba j55),.p 55],[]⟩) (.b (.t []) (.b (.t []) (.b (.t []) (.b (.t []) (.b (.t []) (.b (.t []) (.b (.t []) (.b (.t []) (.b (.t []) (.b (.t []) (.b (.t []) (.b (.t []) (.b (.t []) (.b (.t []) (.b (.t []) (.b (.t []) (.b (.t []) (.b (.t []) (.b (.t []) (.b (.t []) (.b (.t []) (.b (.t []) (.b (.t []) (.b (.t []) (.b (.t []) (.b (.t []) (.b (.t []) (.b (.t []) (.b (.t []) (.b (.t []) (.b (.t []) (.b (.t []) (.b (.t []) (.b (.t []) (.b (.t []) (.b (.t []) (.b (.t []) (.b (.t []) (.b (.t []) (.b (.t []) (.b (.t []) (.b (.t []) (.b (.t []) (.b (.t []) (.b (.t []) (.b (.t []) (.b (.t []) (.b (.t []) (.b (.t []) (.b (.t []) (.b (.t []) (.b (.t []) (.b (.t []) (.b (.t []) (.t []))))))))))))))))))))))))))))))))))))))))))))))))))))))) .o))⟩
theorem Wt{t0 t1 r} (h:Ye t0 t1=some r):Den Tryz.prog 178 [ob t0,Hr t1] (ba r):=by
 refine dk 6 k178 ?_
 simp only[k178,Kf.of,zs,ze]
 unfold Ye at h
 exact pg trivial .o
instance {t0 t1 r}:Con (Ye t0 t1=some r) (Den Tryz.prog 178 [ob t0,Hr t1] (ba r)):=⟨Wt⟩
theorem Bs{t0 t1 r} (h:Dd t0 t1=some r):Den Tryz.prog 180 [Ea t0,dr t1] (ba r):=by
 refine dk 7 k180 ?_
 simp only[k180,Kf.of,zs,ze]
 unfold Dd at h
 exact pg trivial .o
instance {t0 t1 r}:Con (Dd t0 t1=some r) (Den Tryz.prog 180 [Ea t0,dr t1] (ba r)):=⟨Bs⟩
instance {r}:Con (ag=some r) (Den Tryz.prog 186 [] (Su r)):=⟨λh=>by
 refine dk 2 k186 ?_
 simp only[k186,Kf.of,zs,ze]
 unfold ag at h
 exact pg trivial .o⟩
instance {t0 r}:Con (xm t0=some r) (Den Tryz.prog 194 [aa t0] (ba r)):=⟨λh=>by
 refine dk 34 k194 ?_
 simp only[k194,Kf.of,zs,ze]
 unfold xm at h
 exact pg trivial (.z 2 (.j 1 (λ(j5:Bool)=>⟨[.p 2,.k 14,.s (ba j5),.p 18],[]⟩) (.b (.b (.b (.t []) (.t [])) (.t [])) (.b (.t []) (.t []))) (.b .o (.j 1 (λ(j11:Bool)=>⟨[.k 2,.s (ba j11),.p 13],[]⟩) (.b (.b (.b (.b (.t []) (.t [])) (.t [])) (.t [])) (.t [])) .o))))⟩
instance {t0 t1 r}:Con (Xr t0 t1=some r) (Den Tryz.prog 220 [Na t0,dn t1] (ba r)):=⟨λh=>by
 refine dk 79 k220 ?_
 simp only[k220,Kf.of,zs,ze]
 unfold Xr at h
 exact pg trivial (.b (.j 1 (λ(j3:Bool)=>⟨[.k 4,.s (ba j3)],[]⟩) (.b (.t []) (.t [])) .o) (.b (.j 1 (λ(j8:Bool)=>⟨[.k 4,.s (ba j8)],[]⟩) (.b (.b (.t []) (.t [])) (.t [])) .o) (.b (.j 1 (λ(j11:Bool)=>⟨[.k 4,.s (ba j11)],[]⟩) (.b (.t []) (.t [])) .o) (.b .o (.j 1 (λ(j16:Bool)=>⟨[.k 2,.p 2,.k 61,.s (ba j16),.p 15],[.o 0,.o 1]⟩) (.b (.t [ok 0,ok 1]) (.b (.t [ok 0,ok 1]) (.b (.t [ok 0,ok 1]) (.t [ok 0,ok 1])))) (.b (.j 1 (λ(j19:Bool)=>⟨[.k 4,.s (ba j19),.p 60],[]⟩) (.b (.t []) (.t [])) .o) .o))))))⟩
theorem Oj{t0 r} (h:xb t0=some r):Den Tryz.prog 250 [aa t0] (ua r):=by
 refine dk 4 k250 ?_
 simp only[k250,Kf.of,zs,ze]
 unfold xb at h
 exact pg trivial .o
instance {t0 r}:Con (xb t0=some r) (Den Tryz.prog 250 [aa t0] (ua r)):=⟨Oj⟩
theorem Vs{t0 r} (h:sj t0=some r):Den Tryz.prog 252 [aa t0] (ba r):=by
 refine dk 12 k252 ?_
 simp only[k252,Kf.of,zs,ze]
 unfold sj at h
 exact pg trivial (.z 1 (.j 1 (λ(j3:Bool)=>⟨[.k 2,.s (ba j3),.p 10],[]⟩) (.b (.b (.t []) (.t [])) (.t [])) .o))
instance {t0 r}:Con (sj t0=some r) (Den Tryz.prog 252 [aa t0] (ba r)):=⟨Vs⟩
theorem Lm{t0}{t1:GField->Option Bool}{k1:Nat}{q1:List D}(hc1:ia q1=true)(hp1:∀ x0 r,t1 x0=some r->Den Tryz.prog k1 ([ab x0]++q1) (ba r)){r} (h:Ob t0 t1=some r):Den Tryz.prog 281 [Cb t0,.fn k1 [] q1] (aa r):=by
 haveI I1:∀ x0 r,Con (t1 x0=some r) (Den Tryz.prog k1 ([ab x0]++q1) (ba r)):=λx0 r=>⟨hp1 x0 r⟩
 have s1:∀ f:D->D->Prop,Ax f q1 q1=True:=λ_=>Tg hc1
 have z1:∀ a b n,Cv a b n q1=q1:=λ_ _ _=>uf _ _ _ _ hc1
 refine Den.at 17 L9.ok L9.nm (tE (lT hc1 JC)) rfl ?_
 simp only[L9,Kf.of,zs,ze]
 unfold Ob at h
 exact pg @Lc.eq_1 (.l 1 0 (λ(s1:Int)=>⟨[.p 4,.k 3,.p 1,.s (aa s1),.p 10],[]⟩) (λ(_:Unit)=>⟨[],[]⟩) [] (.b (.b .o (.t [])) (.t [])) .o)
instance {t0 r}:Con (cp t0=some r) (Den Tryz.prog 8 [Bb t0] (ba r)):=⟨λh=>by
 refine dk 126 k8 ?_
 simp only[k8,Kf.of,zs,ze]
 unfold cp at h
 exact pg (And.intro @Gj.eq_1 (And.intro @Hj.eq_1 (And.intro @Ij.eq_1 @sh.eq_1))) (.z 2 (.j 1 (λ(j3:Bool)=>⟨[.k 1,.p 1,.k 22,.s (ba j3),.p 102],[.o 0]⟩) (.b (.b (.t [ok 0]) (.t [ok 0])) (.t [ok 0])) (.b .o (.l 1 0 (λ(s5:Int)=>⟨[.k 1,.p 4,.s (aa s5),.p 18],[.o 0]⟩) (λ(_:Unit)=>⟨[.k 1,.p 4],[.o 0]⟩) [ok 0] (.b (.z 2 (.j 1 (λ(j9:Bool)=>⟨[.k 1,.p 24,.k 24,.s (ba j9),.p 77],[.o 0]⟩) (.b (.t [ok 0]) (.t [ok 0])) (.b .o (.l 1 0 (λ(s11:Int)=>⟨[.k 1,.p 5,.s (aa s11),.p 42],[.o 0]⟩) (λ(_:Unit)=>⟨[.k 1,.p 5],[.o 0]⟩) [ok 0] (.b (.b .o (.t [ok 0])) (.t [ok 0])) (.t [ok 0]))))) (.t [ok 0])) (.l 2 0 (λ(q:(Int × Int))=>⟨[.k 1,.p 2,.s (aa q.1),.p 3,.s (aa q.2),.p 119],[.o 0]⟩) (λ(_:Unit)=>⟨[.k 1,.p 2,.k 1,.p 3],[.o 0]⟩) [ok 0] (.b (.z 2 (.j 1 (λ(j23:Bool)=>⟨[.k 1,.p 71,.k 27,.s (ba j23),.p 27],[.o 0]⟩) (.b (.t [ok 0]) (.t [ok 0])) (.b .o (.t [ok 0])))) (.t [ok 0])) (.l 2 0 (λ(q:(Int × Int))=>⟨[.k 1,.p 3,.s (aa q.1),.p 3,.s (aa q.2),.p 118],[.o 0]⟩) (λ(_:Unit)=>⟨[],[]⟩) [ok 0] (.b (.z 2 (.j 1 (λ(j33:Bool)=>⟨[.k 1,.p 99,.k 26,.s (ba j33)],[.o 0]⟩) (.b (.t [ok 0]) (.t [ok 0])) (.b .o (.t [ok 0])))) (.t [])) .o))))))⟩
instance {t0 t1 r}:Con (Uc t0 t1=some r) (Den Tryz.prog 54 [Gb t0,aa t1] (ba r)):=⟨λh=>by
 refine dk 17 k54 ?_
 simp only[k54,Kf.of,zs,ze]
 unfold Uc at h
 exact pg trivial (.z 1 (.j 1 (λ(j4:Bool)=>⟨[.k 4,.s (ba j4),.p 14],[]⟩) (.b (.b (.t []) (.t [])) (.t [])) .o))⟩
instance {t0 r}:Con (Mj t0=some r) (mE Tryz.prog 81 [] [] 1 (t0.map aa) (la r)):=⟨λh=>by
 refine mE.at 6 k81.ok k81.nm JC JC (Fr.l _) rfl ?_
 simp only[k81,Kf.of,zs,ze]
 unfold Mj at h
 exact pg trivial .o⟩
instance {t0 t1 r}:Con (Mf t0 t1=some r) (Den Tryz.prog 101 [ua t0,Wb t1] (.tup [aa r.1,aa r.2])):=⟨λh=>by
 refine dk 28 k101 ?_
 simp only[k101,Kf.of,zs,ze]
 unfold Mf at h
 exact pg trivial .o⟩
instance {t0 r}:Con (vn t0=some r) (Den Tryz.prog 104 [Wb t0] (Wb r)):=⟨λh=>by
 refine dk 22 k104 ?_
 simp only[k104,Kf.of,zs,ze]
 unfold vn at h
 exact pg @mj.eq_1 (.l 2 1 (λ(q:((List GEnum) × Int))=>⟨[.k 3,.s (.own 0 0),.p 4,.s (aa q.2),.p 14],[.n 2 ((q.1.map ug))]⟩) (λ(b9:(List GEnum))=>⟨[.k 3,.s (.own 0 0),.p 2],[.n 2 ((b9.map ug))]⟩) [on 2] (.b (.t [ov 0 1]) (.t [ok 0])) .o)⟩
instance {t0 t1 r}:Con (Ac t0 t1=some r) (Den Tryz.prog 110 [Wa t0,Na t1] (ba r)):=⟨λh=>by
 refine dk 7 k110 ?_
 simp only[k110,Kf.of,zs,ze]
 unfold Ac at h
 exact pg trivial .o⟩
theorem Pv{t0 r} (h:Ch t0=some r):mE Tryz.prog 122 [] [] 1 (t0.map aa) (la r):=by
 refine mE.at 6 r9.ok r9.nm JC JC (Fr.l _) rfl ?_
 simp only[r9,Kf.of,zs,ze]
 unfold Ch at h
 exact pg trivial .o
instance {t0 r}:Con (Ch t0=some r) (mE Tryz.prog 122 [] [] 1 (t0.map aa) (la r)):=⟨Pv⟩
theorem HE{t0:GNode}{t1:GType}{t2:GSignature}{r:(GType×Bool)}(h:Hl t0 t1 t2=some r):Den Tryz.prog 198 [Na t0,ua t1,wa t2] (.tup [ua r.1,ba r.2]):=by
 refine dk 79 k198 ?_;simp only[k198,Kf.of,zs,ze];unfold Hl at h;refine ss (rg ?_);(try simp only[zz]);refine ss (ss (rg ?_));(try simp only[zz]);refine bk (ss (rg ?_));(try simp only[zz]);refine cd rfl ?_;(try simp only[zz]);refine gi h (λc1 h=>?_) λc1 h=>?_
 .have e1:=eT c1;refine ss (dy Ho ?_);obtain⟨x2,a3,h⟩:=bs h;simp only[zz,zy];refine lq (Vs a3) ?_ (by simp only[zg,e1]);(try simp only[zz,zy]);cases h;exact rt ez
 have e2:=eF c1;refine ss (rg ?_);(try simp only[zz]);refine cd rfl ?_;(try simp only[zz]);refine gi h (λc3 h=>?_) λc3 h=>?_
 .have e4:=eT c3;refine ss (ay Ho [[],[],[],[],[2]] (by kernel_rfl) ?_);(try simp only[zz,zy]);cases h;exact rt ez
 have e5:=eF c3;refine jm h (λj5=>⟨ds 3 (.ref 0 0 0 0::.ref 1 0 0 0::.ref 2 0 0 0::.ref 3 0 0 0::ds 4 (aa t0.Op::ds 12 (ba j5::ds 57 []))),[.live 2 0 [Na t0],.live 2 0 [ua t1],.live 6 0 [wa t2],.live 2 0 [.agg [aa 0,aa 0]]]⟩) (λz7 h6=>?_) λj5 h6 h=>?_
 .refine ss (rg ?_);(try simp only[zz]);refine cd rfl ?_;(try simp only[zz]);refine gi h6 (λc4 h6=>?_) λc4 h6=>?_
  .have e8:=eT c4;refine sk ?_;(try simp only[zz,eq_true c4,e8]);cases h6;exact tz [ok 0,ok 1,ok 2,ok 3]
  have e9:=eF c4;refine rg ?_;(try simp only[zz]);cases h6;exact tz [ok 0,ok 1,ok 2,ok 3]
 refine cd rfl ?_;(try simp only[zz]);refine gi h (λc6 h=>?_) λc6 h=>?_
 .refine ss (ay Ho [[],[],[],[],[2]] (by kernel_rfl) ?_);obtain⟨x7,a10,h⟩:=bs h;simp only[zz,zy];refine lq (Oj a10) ?_ (by simp only[zg,e2,e5,c6]);(try simp only[zz,zy]);cases h;exact rt ez
 refine ss (rg ?_);(try simp only[zz]);refine cd rfl ?_;(try simp only[zz]);refine gi h (λc8 h=>?_) λc8 h=>?_
 .have e11:=eT c8;refine ss (rg ?_);obtain⟨x9,f14,f15,h⟩:=bI h;(try simp only[zz,f14,f15]);refine jm h (λj14=>⟨ds 6 (.ref 0 0 0 0::ba j14::ds 74 []),[.live 2 0 [.agg [aa x9.Value.Kind,aa x9.Value.Enum]]]⟩) (λz17 h16=>?_) λj14 h16 h=>?_
  .refine ay Ho [[],[],[],[],[],[],[],[],[],[],[],[],[],[],[],[],[],[],[],[],[15,17]] (by kernel_rfl) ?_;obtain⟨x10,a18,h16⟩:=bs h16;simp only[zz,zy];refine lq (Dp a18) ?_ (by simp only[zg,e2,e5,c6,e11]);(try simp only[zz,zy]);refine gi h16 (λc11 h16=>?_) λc11 h16=>?_
   .obtain⟨x12,a19,h16⟩:=bs h16;simp only[zz,c11,zy];refine lq (Dp a19) ?_ (by simp only[zg,e2,e5,c6,e11,c11]);(try simp only[zz,c11,zy]);refine gi h16 (λc13 h16=>?_) λc13 h16=>?_
    ·(try simp only[zz,c11,c13,zy]);cases h16;exact tz [ok 3]
    (try simp only[zz,c11,c13,zy]);cases h16;exact tz [ok 3]
   (try simp only[zz,c11,zy]);cases h16;exact tz [ok 3]
  cases h;exact rt ez
 have e12:=eF c8;refine sk ?_;(try simp only[zz,c8,e12]);refine ss (rg ?_);obtain⟨x15,f21,f22,h⟩:=bI h;(try simp only[zz,f21,f22,Int.reduceEq,Int.reduceNeg]);refine jm h (λj20=>⟨ds 6 (.ref 0 0 0 0::ba j20::ds 74 []),[.live 2 0 [ua t1]]⟩) (λz24 h23=>?_) λj20 h23 h=>?_
 .refine ay Ho [[],[],[],[],[],[],[],[],[],[],[],[],[],[],[],[],[12]] (by kernel_rfl) ?_;(try simp only[zz,zy]);refine gi h23 (λc16 h23=>?_) λc16 h23=>?_
  .have e25:=eT c16;obtain⟨x17,a27,h23⟩:=bs h23;simp only[zz,eq_true c16,e25,zy];refine lq (Oj a27) ?_ (by simp only[zg,e2,e5,c6,e12,e25]);(try simp only[zz,eq_true c16,e25,zy]);refine gi h23 (λc18 h23=>?_) λc18 h23=>?_
   .obtain⟨x19,a28,h23⟩:=bs h23;simp only[zz,eq_true c16,e25,eq_true c18,zy];refine lq (Oj a28) ?_ (by simp only[zg,e2,e5,c6,e12,e25]);(try simp only[zz,eq_true c16,e25,eq_true c18,zy]);cases h23;exact tz [ok 3]
   (try simp only[zz,eq_true c16,e25,c18,zy]);cases h23;exact tz [ok 3]
  have e26:=eF c16;(try simp only[zz,c16,e26,zy]);cases h23;exact tz [ok 3]
 cases h;exact rt ez
instance {t0 t1 t2 r}:Con (Hl t0 t1 t2=some r) (Den Tryz.prog 198 [Na t0,ua t1,wa t2] (.tup [ua r.1,ba r.2])):=⟨HE⟩
theorem Kl{t0}{t1:GField->Option Bool}{k1:Nat}{q1:List D}(hc1:ia q1=true)(hp1:∀ x0 r,t1 x0=some r->Den Tryz.prog k1 ([ab x0]++q1) (ba r)){r} (h:Ka t0 t1=some r):Den Tryz.prog 239 [Cb t0,.fn k1 [] q1] (ba r):=by
 haveI I1:∀ x0 r,Con (t1 x0=some r) (Den Tryz.prog k1 ([ab x0]++q1) (ba r)):=λx0 r=>⟨hp1 x0 r⟩
 have s1:∀ f:D->D->Prop,Ax f q1 q1=True:=λ_=>Tg hc1
 have z1:∀ a b n,Cv a b n q1=q1:=λ_ _ _=>uf _ _ _ _ hc1
 haveI:∀ y0 r,Con (Ob y0 t1=some r) (Den Tryz.prog 281 [Cb y0,.fn k1 [] q1] (aa r)):=λy0 r=>⟨Lm hc1 hp1⟩
 refine Den.at 7 J9.ok J9.nm (tE (lT hc1 JC)) rfl ?_
 simp only[J9,Kf.of,zs,ze]
 unfold Ka at h
 exact pg trivial .o
theorem Xt{t0 r} (h:Fi t0=some r):Den Tryz.prog 242 [vg t0] (ba r):=by
 refine dk 26 k242 ?_
 simp only[k242,Kf.of,zs,ze]
 unfold Fi at h
 exact pg @Ph.eq_1 (.z 2 (.j 1 (λ(j3:Bool)=>⟨[.p 2,.k 8,.s (ba j3),.p 16],[]⟩) (.b (.t []) (.t [])) (.b .o (.l 1 0 (λ(s5:Int)=>⟨[.p 10,.k 2,.p 1,.s (aa s5),.p 13],[]⟩) (λ(_:Unit)=>⟨[],[]⟩) [] (.b (.z 2 (.j 1 (λ(j9:Bool)=>⟨[.p 3,.k 9,.p 2,.k 11,.s (ba j9),.p 1],[]⟩) (.b (.t []) (.t [])) (.b .o (.t [])))) (.t [])) .o))))
instance {t0 r}:Con (Fi t0=some r) (Den Tryz.prog 242 [vg t0] (ba r)):=⟨Xt⟩
theorem ur{t0 r} (h:gh t0=some r):Den Tryz.prog 251 [aa t0] (ba r):=by
 refine dk 8 k251 ?_
 simp only[k251,Kf.of,zs,ze]
 unfold gh at h
 exact pg trivial (.z 1 (.j 1 (λ(j3:Bool)=>⟨[.k 2,.s (ba j3),.p 6],[]⟩) (.b (.t []) (.t [])) .o))
instance {t0 r}:Con (gh t0=some r) (Den Tryz.prog 251 [aa t0] (ba r)):=⟨ur⟩
theorem ox{t0 t1 t2 r} (h:Iq t0 t1 t2=some r):Den Tryz.prog 253 [aa t0,aa t1,aa t2] (.tup [ua r.1,ba r.2]):=by
 refine dk 53 k253 ?_
 simp only[k253,Kf.of,zs,ze]
 unfold Iq at h
 exact pg trivial (.b (.j 3 (λ(q:(Int × Int × Bool))=>⟨[.k 6,.p 1,.s (ba q.2.2)],[.h 0 [.g [.s (aa q.1),.s (aa q.2.1)]]]⟩) (.b (.b (.t [ok 0]) (.t [ok 0])) (.t [ok 0])) .o) (.b (.j 3 (λ(q:(Int × Int × Bool))=>⟨[.k 6,.p 1,.s (ba q.2.2)],[.h 0 [.g [.s (aa q.1),.s (aa q.2.1)]]]⟩) (.b (.b (.t [ok 0]) (.t [ok 0])) (.t [ok 0])) .o) (.z 1 (.j 1 (λ(j16:Bool)=>⟨[.k 1,.p 6,.k 35,.s (ba j16),.p 13],[.o 0]⟩) (.b (.t [ok 0]) (.t [ok 0])) (.b .o (.j 3 (λ(q:(Int × Int × Bool))=>⟨[.k 6,.p 1,.s (ba q.2.2),.p 34],[.h 0 [.g [.s (aa q.1),.s (aa q.2.1)]]]⟩) (.b (.b (.t [ok 0]) (.t [ok 0])) (.t [ok 0])) .o))))))
instance {t0 t1 t2 r}:Con (Iq t0 t1 t2=some r) (Den Tryz.prog 253 [aa t0,aa t1,aa t2] (.tup [ua r.1,ba r.2])):=⟨ox⟩
instance {t0 r}:Con (Ti t0=some r) (Den Tryz.prog 280 [Gb t0] (ba r)):=⟨λh=>by
 refine dk 11 k280 ?_
 simp only[k280,Kf.of,zs,ze]
 unfold Ti at h
 exact pg trivial (.z 1 (.j 1 (λ(j3:Bool)=>⟨[.k 2,.s (ba j3),.p 9],[]⟩) (.b (.t []) (.t [])) .o))⟩
end Go.Proofs.Dev
