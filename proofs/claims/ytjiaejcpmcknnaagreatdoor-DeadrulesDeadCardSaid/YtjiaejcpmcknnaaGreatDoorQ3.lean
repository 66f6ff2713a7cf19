/-
  Contracts of the functions: each answers as its plain partial function says.
-/
import Derived.Test.YtjiaejcpmcknnaaGreatDoorK
import Derived.Test.YtjiaejcpmcknnaaGreatDoorG
import Derived.Test.YtjiaejcpmcknnaaGreatDoorPD
import Derived.Test.YtjiaejcpmcknnaaGreatDoorH1
import Derived.Test.YtjiaejcpmcknnaaGreatDoorH2
open Option.some renaming inj->Iaa
set_option linter.all false
set_option maxHeartbeats 1000000
set_option maxRecDepth 10000
namespace Go.Proofs.Dev
open Go Go.Tm
instance {t0 t1 r}:Con (mr t0 t1=some r) (Den Tryz.prog 18 [ea t0,ea t1] (ba r)):=⟨λh=>by
 refine dk 30 k18 ?_
 simp only[k18,Kf.of,zs,ze]
 unfold mr at h
 exact pg @Fo.eq_1 (.b .o (.l 1 0 (λ(s2:Int)=>⟨[.p 4,.k 1,.s (aa s2)],[]⟩) (λ(_:Unit)=>⟨[],[]⟩) [] (.z 1 (.j 1 (λ(j4:Bool)=>⟨[.p 20,.s (ba j4),.p 11],[]⟩) (.b (.t []) (.t [])) (.b (.b .o (.t [])) (.t [])))) .o))⟩
instance {t0 t1 r}:Con (tt t0 t1=some r) (Den Tryz.prog 45 [ob t0,ob t1] (ba r)):=⟨λh=>by
 refine dk 30 k45 ?_
 simp only[k45,Kf.of,zs,ze]
 unfold tt at h
 exact pg @Bw.eq_1 (.b .o (.l 1 0 (λ(s2:Int)=>⟨[.p 4,.k 1,.s (aa s2)],[]⟩) (λ(_:Unit)=>⟨[],[]⟩) [] (.z 1 (.j 1 (λ(j4:Bool)=>⟨[.p 20,.s (ba j4),.p 11],[]⟩) (.b (.t []) (.t [])) (.b (.b .o (.t [])) (.t [])))) .o))⟩
theorem Rn{t0}{t1:GRule->Option Bool}{k1:Nat}{q1:List D}(hc1:la q1=true)(hp1:∀ x0 r,t1 x0=some r->Den Tryz.prog k1 ([Xa x0]++q1) (ba r)){r} (h:ic t0 t1=some r):Den Tryz.prog 52 [cf t0,.fn k1 [] q1] (.tup [ea r.1,ea r.2]):=by
 haveI I1:∀ x0 r,Con (t1 x0=some r) (Den Tryz.prog k1 ([Xa x0]++q1) (ba r)):=λx0 r=>⟨hp1 x0 r⟩
 have s1:∀ f:D->D->Prop,Dv f q1 q1=True:=λ_=>Zh hc1
 have z1:∀ a b n,Nt a b n q1=q1:=λ_ _ _=>me _ _ _ _ hc1
 refine Den.at 57 k52.ok k52.nm (kD (HN hc1 oB)) rfl ?_
 simp only[k52,Kf.of,zs,ze]
 unfold ic at h
 exact pg @Hd.eq_1 (.l 4 2 (λ(q:((List Int) × (List Int) × (List Int) × Int))=>⟨[.k 1,.p 3,.k 2,.s (.own 0 0),.s (.own 1 0),.p 4,.k 3,.p 2,.s (aa q.2.2.2),.p 41],[.n 1 ((q.1.map aa)),.n 1 ((q.2.1.map aa)),.c 0 ((q.2.2.1.map aa))]⟩) (λ(q:((List Int) × (List Int)))=>⟨[.k 6,.s (.own 0 0),.s (.own 1 0)],[.n 1 ((q.1.map aa)),.n 1 ((q.2.map aa))]⟩) [on 1,on 1,ok 0] (.b (.j 3 (λ(q:((List Int) × (List Int) × (List Int)))=>⟨[.k 1,.p 17],[.c 0 ((q.1.map aa)),.c 1 ((q.2.1.map aa)),.c 2 ((q.2.2.map aa))]⟩) (.z 2 (.j 1 (λ(j12:Int)=>⟨[.k 1,.p 10,.s (aa j12),.p 6],[.o 0,.o 1,.o 2,.o 3]⟩) (.j 1 (λ(j9:Bool)=>⟨[.k 1,.p 17,.k 12,.s (ba j9),.p 28],[.o 0,.o 1,.o 2,.o 3]⟩) (.b (.t [ok 0,ok 1,ok 2,ok 3]) (.t [ok 0,ok 1,ok 2,ok 3])) (.b (.t [ok 0,ok 1,ok 2,ok 3]) (.t [ok 0,ok 1,ok 2,ok 3]))) (.b (.t [ov 0 1,ov 1 1,ok 2]) (.t [ok 0,ok 1,ok 2])))) (.t [ok 0,ok 1,ok 2])) (.t [ok 0,ok 1])) .o)
instance {t0 r}:Con (kq t0=some r) (Den Tryz.prog 63 [Uc t0] (aa r)):=⟨λh=>by
 refine dk 36 k63 ?_
 simp only[k63,Kf.of,zs,ze]
 unfold kq at h
 exact pg (And.intro @Hg.eq_1 @Gl.eq_1) (.l 1 0 (λ(s1:Int)=>⟨[.p 2,.k 1,.p 1,.s (aa s1),.p 32],[]⟩) (λ(_:Unit)=>⟨[.p 2,.k 1,.p 1],[]⟩) [] (.b (.b .o (.t [])) (.t [])) (.l 2 1 (λ(q:(Int × Int))=>⟨[.p 3,.s (aa q.1),.p 1,.s (aa q.2),.p 31],[]⟩) (λ(b14:Int)=>⟨[.k 3,.s (aa b14),.p 1],[]⟩) [] (.z 1 (.j 1 (λ(j9:Bool)=>⟨[.p 25,.s (ba j9),.p 11],[]⟩) (.b (.t []) (.t [])) (.b (.t []) (.t [])))) .o))⟩
instance {t0 r}:Con (si t0=some r) (Den Tryz.prog 100 [aa t0] (ba r)):=⟨λh=>by
 refine dk 8 U3 ?_
 simp only[U3,Kf.of,zs,ze]
 unfold si at h
 exact pg trivial (.z 1 (.j 1 (λ(j2:Bool)=>⟨[.k 2,.s (ba j2),.p 6],[]⟩) (.b (.t []) (.t [])) .o))⟩
instance {t0 t1 r}:Con (Hb t0 t1=some r) (Den Tryz.prog 111 [qa t0,Jb t1] (ba r)):=⟨λh=>by
 refine dk 26 y4 ?_
 simp only[y4,Kf.of,zs,ze]
 unfold Hb at h
 exact pg trivial (.z 3 (.j 1 (λ(j5:Bool)=>⟨[.k 1,.p 3,.k 2,.p 1,.s (ba j5),.p 20],[.o 0]⟩) (.b (.t [ok 0]) (.b (.t [ok 0]) (.b (.t [ok 0]) (.b (.t [ok 0]) (.t [ok 0]))))) (.b .o (.b (.j 1 (λ(j9:Bool)=>⟨[.k 4,.s (ba j9),.p 1],[]⟩) (.b (.t []) (.t [])) .o) .o))))⟩
instance {t0 r}:Con (kj t0=some r) (Den Tryz.prog 141 [aa t0] (aa r)):=⟨λh=>by
 refine dk 32 Z4 ?_
 simp only[Z4,Kf.of,zs,ze]
 unfold kj at h
 exact pg trivial (.z 2 (.j 1 (λ(j5:Bool)=>⟨[.p 2,.k 14,.s (ba j5),.p 16],[]⟩) (.b (.b (.b (.t []) (.t [])) (.t [])) (.b (.t []) (.t []))) (.b .o (.z 2 (.j 1 (λ(j12:Bool)=>⟨[.p 16,.k 1,.p 1,.s (ba j12),.p 14],[]⟩) (.b (.t []) (.b (.t []) (.b (.t []) (.b (.t []) (.b (.t []) (.t [])))))) (.b .o (.b .o (.z 1 (.j 1 (λ(j16:Bool)=>⟨[.k 32,.s (ba j16)],[]⟩) (.b (.t []) (.t [])) .o)))))))))⟩
instance {t0 r}:Con (wg t0=some r) (Den Tryz.prog 145 [Gd t0] (Ci r)):=⟨λh=>by
 refine dk 18 r5 ?_
 simp only[r5,Kf.of,zs,ze]
 unfold wg at h
 exact pg @Bh.eq_1 (.l 2 1 (λ(q:((List GType) × Int))=>⟨[.k 3,.s (.own 0 0),.p 4,.s (aa q.2),.p 10],[.n 2 ((q.1.map qa))]⟩) (λ(b8:(List GType))=>⟨[.k 3,.s (.own 0 0),.p 2],[.n 2 ((b8.map qa))]⟩) [on 2] (.b (.t [ov 0 1]) (.t [ok 0])) .o)⟩
instance {t0 r : List ByteArray}:Con (Md t0=some r) (Den Tryz.prog 146 [Vs t0] (Vs r)):=⟨λh=>by
  unfold Md at h
  split at h
  · rename_i hl
    obtain rfl := Iaa h
    refine dk 7 u5 ?_
    simp only[u5,Kf.of,zs,ze]
    refine T.qx ?_
    refine T.rg ?_
    simp only[zx, ze]
    refine T.qx ?_
    refine T.qx ?_
    refine T.Mr (i := 0) (S := 1) (l := t0.map df) rfl (Fr.l _) (by simp) (by decide) (by decide) (by decide) ?_
    intro b hb
    have happ : app 16 ([] : List ByteArray) t0 = some t0 := by unfold app; rw[if_pos (by simp; omega)]; simp
    cases b with
    | true =>
      have hz : t0 = [] := by
        cases t0 with
        | nil => rfl
        | cons x l => exact absurd (hb (by simp)) (by simp)
      subst hz
      simp only[zx, ze]
      refine T.cd rfl ?_
      refine gP.mk (λ_ => ?_) (λh => absurd rfl h)
      refine T.qx ?_
      refine T.rg ?_
      simp only[zx, ze]
      exact T.ret <| Rl (by simp only[zx, ze, gk, Xr, Yr, rp]; exact JF (by simp only[zq, ze]))
    | false =>
      simp only[zx, ze]
      refine T.cd rfl ?_
      refine gP.mk (λh => by cases h) (λ_ => ?_)
      refine T.skip ?_
      simp only[zx, ze]
      refine T.qx ?_
      refine T.rg ?_
      obtain⟨f1, f2⟩ := tF (e := df) happ
      try simp only[zx, ze] at f1 f2
      simp only[zx, ze, f1, f2]
      exact T.ret <| Rl (by simp only[zx, ze, gk, Xr, Yr, rp]; exact JF (by simp only[zq, ze]))
  · cases h⟩
instance {t0 r}:Con (mg t0=some r) (Den Tryz.prog 150 [aa t0] (aa r)):=⟨λh=>by
 refine dk 46 B5 ?_
 simp only[B5,Kf.of,zs,ze]
 unfold mg at h
 exact pg trivial (.z 3 (.j 1 (λ(j14:Bool)=>⟨[.k 3,.p 1,.s (ba j14),.p 42],[]⟩) (.b (.t []) (.b (.t []) (.b (.t []) (.b (.t []) (.b (.t []) (.b (.t []) (.b (.t []) (.b (.t []) (.b (.t []) (.b (.t []) (.b (.t []) (.b (.t []) (.b (.t []) (.t [])))))))))))))) (.b .o (.j 1 (λ(j21:Bool)=>⟨[.k 3,.p 1,.k 15,.s (ba j21),.p 27],[]⟩) (.b (.t []) (.b (.t []) (.b (.t []) (.b (.t []) (.b (.t []) (.t [])))))) (.b .o (.j 1 (λ(j40:Bool)=>⟨[.k 3,.p 16,.k 7,.s (ba j40),.p 20],[]⟩) (.b (.t []) (.b (.t []) (.b (.t []) (.b (.t []) (.b (.t []) (.b (.t []) (.b (.t []) (.b (.t []) (.b (.t []) (.b (.t []) (.b (.t []) (.b (.t []) (.b (.t []) (.b (.t []) (.b (.t []) (.b (.t []) (.b (.t []) (.t [])))))))))))))))))) .o))))))⟩
theorem Zs{t0 t1 r} (h:Oe t0 t1=some r):Den Tryz.prog 176 [bf t0,Dp t1] (ba r):=by
 refine dk 6 U5 ?_
 simp only[U5,Kf.of,zs,ze]
 unfold Oe at h
 exact pg trivial .o
instance {t0 t1 r}:Con (Oe t0 t1=some r) (Den Tryz.prog 176 [bf t0,Dp t1] (ba r)):=⟨Zs⟩
theorem Jr{t0 t1 r} (h:Ud t0 t1=some r):Den Tryz.prog 178 [eb t0,Dp t1] (ba r):=by
 refine dk 6 V5 ?_
 simp only[V5,Kf.of,zs,ze]
 unfold Ud at h
 exact pg trivial .o
instance {t0 t1 r}:Con (Ud t0 t1=some r) (Den Tryz.prog 178 [eb t0,Dp t1] (ba r)):=⟨Jr⟩
theorem aq{t0 t1 r} (h:Oc t0 t1=some r):Den Tryz.prog 180 [Ca t0,Vo t1] (ba r):=by
 refine dk 7 W5 ?_
 simp only[W5,Kf.of,zs,ze]
 unfold Oc at h
 exact pg trivial .o
instance {t0 t1 r}:Con (Oc t0 t1=some r) (Den Tryz.prog 180 [Ca t0,Vo t1] (ba r)):=⟨aq⟩
instance {t0 t1 r}:Con (wj t0 t1=some r) (Den Tryz.prog 193 [ea t0,aa t1] (ea r)):=⟨λh=>by
 refine dk 46 y6 ?_
 simp only[y6,Kf.of,zs,ze]
 unfold wj at h
 exact pg @xv.eq_1 (.l 3 2 (λ(q:((List Int) × Bool × Int))=>⟨[.p 4,.k 1,.s (.own 0 0),.s (ba q.2.1),.s (aa q.2.2),.p 40],[.n 1 ((q.1.map aa))]⟩) (λ(q:((List Int) × Bool))=>⟨[.k 1,.p 3,.k 1,.s (.own 0 0),.s (ba q.2)],[.n 1 ((q.1.map aa))]⟩) [on 1] (.b (.z 1 (.j 2 (λ(q:((List Int) × Bool))=>⟨[.p 6,.s (ba q.2),.p 1],[.c 0 ((q.1.map aa))]⟩) (.j 1 (λ(j7:Bool)=>⟨[.p 8,.k 15,.s (ba j7),.p 24],[.o 0]⟩) (.b (.t [ok 0]) (.t [ok 0])) (.b (.j 1 (λ(j12:(List Int))=>⟨[.p 6,.k 1,.p 16],[.c 0 ((j12.map aa))]⟩) (.b (.t [ov 0 1]) (.t [ok 0])) (.t [ok 0])) (.t [ok 0]))) (.t [ov 0 1]))) (.t [ok 0])) (.j 1 (λ(j24:(List Int))=>⟨[.k 5,.p 1],[.c 0 ((j24.map aa))]⟩) (.b (.t [ov 0 1]) (.t [ok 0])) .o))⟩
instance {t0 t1 r}:Con (Wp t0 t1=some r) (Den Tryz.prog 220 [Ea t0,Kc t1] (ba r)):=⟨λh=>by
 refine dk 79 P6 ?_
 simp only[P6,Kf.of,zs,ze]
 unfold Wp at h
 exact pg trivial (.b (.j 1 (λ(j3:Bool)=>⟨[.k 4,.s (ba j3)],[]⟩) (.b (.t []) (.t [])) .o) (.b (.j 1 (λ(j8:Bool)=>⟨[.k 4,.s (ba j8)],[]⟩) (.b (.b (.t []) (.t [])) (.t [])) .o) (.b (.j 1 (λ(j11:Bool)=>⟨[.k 4,.s (ba j11)],[]⟩) (.b (.t []) (.t [])) .o) (.b .o (.j 1 (λ(j16:Bool)=>⟨[.k 2,.p 2,.k 61,.s (ba j16),.p 15],[.o 0,.o 1]⟩) (.b (.t [ok 0,ok 1]) (.b (.t [ok 0,ok 1]) (.b (.t [ok 0,ok 1]) (.t [ok 0,ok 1])))) (.b (.j 1 (λ(j19:Bool)=>⟨[.k 4,.s (ba j19),.p 60],[]⟩) (.b (.t []) (.t [])) .o) .o))))))⟩
instance {t0 t1 r}:Con (Dn t0 t1=some r) (Den Tryz.prog 227 [ea t0,aa t1] (aa r)):=⟨λh=>by
 refine dk 17 U6 ?_
 simp only[U6,Kf.of,zs,ze]
 unfold Dn at h
 exact pg @El.eq_1 (.l 1 0 (λ(s1:Int)=>⟨[.p 4,.k 1,.s (aa s1),.p 13],[]⟩) (λ(_:Unit)=>⟨[],[]⟩) [] (.b (.b .o (.t [])) (.t [])) .o)⟩
theorem Jk{t0}{t1:GScope->Option Bool}{k1:Nat}{q1:List D}(hc1:la q1=true)(hp1:∀ x0 r,t1 x0=some r->Den Tryz.prog k1 ([Ca x0]++q1) (ba r)){r} (h:Bb t0 t1=some r):Den Tryz.prog 237 [Zm t0,.fn k1 [] q1] (aa r):=by
 haveI I1:∀ x0 r,Con (t1 x0=some r) (Den Tryz.prog k1 ([Ca x0]++q1) (ba r)):=λx0 r=>⟨hp1 x0 r⟩
 have s1:∀ f:D->D->Prop,Dv f q1 q1=True:=λ_=>Zh hc1
 have z1:∀ a b n,Nt a b n q1=q1:=λ_ _ _=>me _ _ _ _ hc1
 refine Den.at 17 VY.ok VY.nm (kD (HN hc1 oB)) rfl ?_
 simp only[VY,Kf.of,zs,ze]
 unfold Bb at h
 exact pg @tc.eq_1 (.l 1 0 (λ(s1:Int)=>⟨[.p 4,.k 3,.p 1,.s (aa s1),.p 10],[]⟩) (λ(_:Unit)=>⟨[],[]⟩) [] (.b (.b .o (.t [])) (.t [])) .o)
theorem Dq{t0 r} (h:Eh t0=some r):Den Tryz.prog 252 [aa t0] (ba r):=by
 refine dk 12 F7 ?_
 simp only[F7,Kf.of,zs,ze]
 unfold Eh at h
 exact pg trivial (.z 1 (.j 1 (λ(j3:Bool)=>⟨[.k 2,.s (ba j3),.p 10],[]⟩) (.b (.b (.t []) (.t [])) (.t [])) .o))
instance {t0 r}:Con (Eh t0=some r) (Den Tryz.prog 252 [aa t0] (ba r)):=⟨Dq⟩
instance {t0 r}:Con (Ee t0=some r) (Den Tryz.prog 254 [aa t0] (ba r)):=⟨λh=>by
 refine dk 12 H7 ?_
 simp only[H7,Kf.of,zs,ze]
 unfold Ee at h
 exact pg trivial (.z 1 (.j 1 (λ(j3:Bool)=>⟨[.k 2,.s (ba j3),.p 10],[]⟩) (.b (.b (.t []) (.t [])) (.t [])) .o))⟩
instance {t0 t1 r}:Con (Pf t0 t1=some r) (Den Tryz.prog 266 [ka t0,ka t1] (ba r)):=⟨λh=>by
 refine dk 15 N7 ?_
 simp only[N7,Kf.of,zs,ze]
 unfold Pf at h
 exact pg trivial (.z 1 (.j 1 (λ(j2:Bool)=>⟨[.k 4,.s (ba j2),.p 12],[]⟩) (.b (.t []) (.t [])) .o))⟩
instance {t0 t1 r}:Con (Jp t0 t1=some r) (Den Tryz.prog 275 [Ea t0,Kc t1] (.tup [ka r.1,aa r.2])):=⟨λh=>by
  unfold Jp at h
  cases h⟩
instance {t0 t1 r}:Con (Mn t0 t1=some r) (Den Tryz.prog 294 [aa t0,aa t1] (aa r)):=⟨λh=>by
  unfold Mn at h
  cases h⟩
instance {t0 r}:Con (mw t0=some r) (Den Tryz.prog 323 [aa t0] (ba r)):=⟨λh=>by
 refine dk 8 C8 ?_
 simp only[C8,Kf.of,zs,ze]
 unfold mw at h
 exact pg trivial (.z 1 (.j 1 (λ(j2:Bool)=>⟨[.k 2,.s (ba j2),.p 6],[]⟩) (.b (.t []) (.t [])) .o))⟩
end Go.Proofs.Dev
