/-
  Contracts of the functions: each answers as its plain partial function says.
-/
import Derived.Test.YtjiaejcpmcknnaaGreatDoorK
import Derived.Test.YtjiaejcpmcknnaaGreatDoorG
import Derived.Test.YtjiaejcpmcknnaaGreatDoorPD
import Derived.Test.YtjiaejcpmcknnaaGreatDoorH1
import Derived.Test.YtjiaejcpmcknnaaGreatDoorH2
open Option.some renaming inj->Iaa
set_option linter.all false
set_option maxHeartbeats 1000000
set_option maxRecDepth 10000
namespace Go.Proofs.Dev
open Go Go.Tm
instance {t0 t1 r}:Con (Eo t0 t1=some r) (Den Tryz.prog 60 [rh t0,aa t1] (ba r)):=⟨λh=>by
 refine dk 41 k60 ?_
 simp only[k60,Kf.of,zs,ze]
 unfold Eo at h
 exact pg (And.intro @Xj.eq_1 @Wj.eq_1) (.l 1 0 (λ(s1:Int)=>⟨[.p 4,.k 1,.s (aa s1),.p 37],[]⟩) (λ(_:Unit)=>⟨[],[]⟩) [] (.b (.l 1 0 (λ(s3:Int)=>⟨[.p 6,.s (aa s3)],[]⟩) (λ(_:Unit)=>⟨[.p 6],[]⟩) [] (.b (.z 1 (.j 1 (λ(j8:Bool)=>⟨[.p 13,.k 29,.s (ba j8)],[]⟩) (.b (.t []) (.t [])) (.b .o (.t [])))) (.t [])) (.t [])) (.t [])) .o)⟩
instance {t0 t1 r}:Con (Th t0 t1=some r) (Den Tryz.prog 75 [ea t0,ea t1] (aa r)):=⟨λh=>by
 refine dk 40 k75 ?_
 simp only[k75,Kf.of,zs,ze]
 unfold Th at h
 exact pg @Xe.eq_1 (.b .o (.b .o (.l 1 0 (λ(s3:Int)=>⟨[.k 1,.p 3,.k 11,.p 2,.s (aa s3),.p 24],[]⟩) (λ(_:Unit)=>⟨[],[]⟩) [] (.b (.z 3 (.j 1 (λ(j7:Bool)=>⟨[.k 1,.p 5,.k 9,.p 3,.k 10,.s (ba j7),.p 13],[]⟩) (.b (.t []) (.t [])) (.b .o (.j 1 (λ(j11:Bool)=>⟨[.k 1,.p 4,.k 10,.p 13,.k 12,.s (ba j11),.p 1],[]⟩) (.b (.t []) (.t [])) (.b .o (.t [])))))) (.t [])) .o)))⟩
instance {t0 r}:Con (Zi t0=some r) (Den Tryz.prog 96 [Gd t0] (Ci r)):=⟨λh=>by
 refine dk 19 k96 ?_
 simp only[k96,Kf.of,zs,ze]
 unfold Zi at h
 exact pg @Qq.eq_1 (.l 2 1 (λ(q:((List GType) × Int))=>⟨[.p 2,.k 1,.s (.own 0 0),.s (aa q.2),.p 15],[.n 2 ((q.1.map qa))]⟩) (λ(b8:(List GType))=>⟨[.k 3,.s (.own 0 0)],[.n 2 ((b8.map qa))]⟩) [on 2] (.b (.t [ov 0 1]) (.t [ok 0])) .o)⟩
instance {t0 t1 r}:Con (rj t0 t1=some r) (Den Tryz.prog 102 [ea t0,aa t1] (ea r)):=⟨λh=>by
 refine dk 49 W3 ?_
 simp only[W3,Kf.of,zs,ze]
 unfold rj at h
 exact pg (And.intro @Lj.eq_1 @Mj.eq_1) (.l 2 1 (λ(q:((List Int) × Int))=>⟨[.p 4,.k 1,.s (.own 0 0),.s (aa q.2),.p 44],[.n 1 ((q.1.map aa))]⟩) (λ(b10:(List Int))=>⟨[.p 4,.k 1,.s (.own 0 0)],[.n 1 ((b10.map aa))]⟩) [on 1] (.b (.j 1 (λ(j7:(List Int))=>⟨[.p 8],[.c 0 ((j7.map aa))]⟩) (.b (.t [ov 0 1]) (.t [ok 0])) (.t [ok 0])) (.t [ok 0])) (.l 2 1 (λ(q:((List Int) × Int))=>⟨[.p 7,.s (aa q.2),.p 19],[.c 0 ((q.1.map aa))]⟩) (λ(b21:(List Int))=>⟨[.k 5,.p 2],[.c 0 ((b21.map aa))]⟩) [ov 0 1] (.b (.j 1 (λ(j18:(List Int))=>⟨[.p 31],[.c 0 ((j18.map aa))]⟩) (.b (.t [ov 0 1]) (.t [ok 0])) (.t [ok 0])) (.t [ok 0])) .o))⟩
instance {t0 r}:Con (nf t0=some r) (Den Tryz.prog 107 [Ea t0] (ba r)):=⟨λh=>by
 refine dk 10 o4 ?_
 simp only[o4,Kf.of,zs,ze]
 unfold nf at h
 exact pg trivial (.z 3 (.j 1 (λ(j5:Bool)=>⟨[.k 5,.s (ba j5),.p 5],[]⟩) (.b (.t []) (.b (.t []) (.b (.t []) (.b (.t []) (.t []))))) .o))⟩
instance {t0 t1 t2 t3 r}:Con (Xb t0 t1 t2 t3=some r) (Den Tryz.prog 135 [Ib t0,aa t1,aa t2,df t3] (ba r)):=⟨λh=>by
 refine dk 84 T4 ?_
 simp only[T4,Kf.of,zs,ze]
 unfold Xb at h
 exact pg (And.intro @lb.eq_1 (And.intro @bb.eq_1 @Tb.eq_1)) (.l 1 0 (λ(s1:Int)=>⟨[.k 1,.p 7,.k 1,.s (aa s1),.p 78],[.o 0]⟩) (λ(_:Unit)=>⟨[.k 1,.p 7],[.o 0]⟩) [ok 0] (.b (.z 1 (.j 1 (λ(j7:Bool)=>⟨[.k 1,.p 11,.k 23,.s (ba j7),.p 52],[.o 0]⟩) (.b (.b (.t [ok 0]) (.t [ok 0])) (.t [ok 0])) (.b .o (.t [ok 0])))) (.t [ok 0])) (.l 1 0 (λ(s10:Int)=>⟨[.k 1,.p 9,.s (aa s10),.p 77],[.o 0]⟩) (λ(_:Unit)=>⟨[.k 1,.p 9],[.o 0]⟩) [ok 0] (.b (.z 1 (.j 1 (λ(j17:Bool)=>⟨[.k 1,.p 35,.k 27,.s (ba j17),.p 24],[.o 0]⟩) (.b (.b (.b (.t [ok 0]) (.t [ok 0])) (.t [ok 0])) (.t [ok 0])) (.b .o (.t [ok 0])))) (.t [ok 0])) (.l 1 0 (λ(s20:Int)=>⟨[.k 1,.p 10,.s (aa s20),.p 76],[.o 0]⟩) (λ(_:Unit)=>⟨[],[]⟩) [ok 0] (.b (.z 1 (.j 1 (λ(j25:Bool)=>⟨[.k 1,.p 63,.k 23,.s (ba j25)],[.o 0]⟩) (.b (.b (.t [ok 0]) (.t [ok 0])) (.t [ok 0])) (.b .o (.t [ok 0])))) (.t [])) .o)))⟩
instance {t0 r : List GRow}:Con (jd t0=some r) (Den Tryz.prog 147 [Dr t0] (Dr r)):=⟨λh=>by
  unfold jd at h
  split at h
  · rename_i hl
    obtain rfl := Iaa h
    refine dk 7 w5 ?_
    simp only[w5,Kf.of,zs,ze]
    refine T.qx ?_
    refine T.rg ?_
    simp only[zx, ze]
    refine T.qx ?_
    refine T.qx ?_
    refine T.Mr (i := 0) (S := 5) (l := t0.map jg) rfl (Fr.l _) (by simp) (by decide) (by decide) (by decide) ?_
    intro b hb
    have happ : app 40 ([] : List GRow) t0 = some t0 := by unfold app; rw[if_pos (by simp; omega)]; simp
    cases b with
    | true =>
      have hz : t0 = [] := by
        cases t0 with
        | nil => rfl
        | cons x l => exact absurd (hb (by simp)) (by simp)
      subst hz
      simp only[zx, ze]
      refine T.cd rfl ?_
      refine gP.mk (λ_ => ?_) (λh => absurd rfl h)
      refine T.qx ?_
      refine T.rg ?_
      simp only[zx, ze]
      exact T.ret <| Rl (by simp only[zx, ze, gk, Xr, Yr, rp]; exact JF (by simp only[zq, ze]))
    | false =>
      simp only[zx, ze]
      refine T.cd rfl ?_
      refine gP.mk (λh => by cases h) (λ_ => ?_)
      refine T.skip ?_
      simp only[zx, ze]
      refine T.qx ?_
      refine T.rg ?_
      obtain⟨f1, f2⟩ := tF (e := jg) happ
      try simp only[zx, ze] at f1 f2
      simp only[zx, ze, f1, f2]
      exact T.ret <| Rl (by simp only[zx, ze, gk, Xr, Yr, rp]; exact JF (by simp only[zq, ze]))
  · cases h⟩
instance {t0 r}:Con (Kd t0=some r) (Den Tryz.prog 174 [df t0] (ba r)):=⟨λh=>by
 refine dk 59 T5 ?_
 simp only[T5,Kf.of,zs,ze]
 unfold Kd at h
 exact pg trivial (.z 3 (.j 1 (λ(j55:Bool)=>⟨[.k 4,.s (ba j55),.p 55],[]⟩) (.b (.t []) (.b (.t []) (.b (.t []) (.b (.t []) (.b (.t []) (.b (.t []) (.b (.t []) (.b (.t []) (.b (.t []) (.b (.t []) (.b (.t []) (.b (.t []) (.b (.t []) (.b (.t []) (.b (.t []) (.b (.t []) (.b (.t []) (.b (.t []) (.b (.t []) (.b (.t []) (.b (.t []) (.b (.t []) (.b (.t []) (.b (.t []) (.b (.t []) (.b (.t []) (.b (.t []) (.b (.t []) (.b (.t []) (.b (.t []) (.b (.t []) (.b (.t []) (.b (.t []) (.b (.t []) (.b (.t []) (.b (.t []) (.b (.t []) (.b (.t []) (.b (.t []) (.b (.t []) (.b (.t []) (.b (.t []) (.b (.t []) (.b (.t []) (.b (.t []) (.b (.t []) (.b (.t []) (.b (.t []) (.b (.t []) (.b (.t []) (.b (.t []) (.b (.t []) (.b (.t []) (.b (.t []) (.t []))))))))))))))))))))))))))))))))))))))))))))))))))))))) .o))⟩
instance {t0 r}:Con (lk t0=some r) (Den Tryz.prog 194 [aa t0] (ba r)):=⟨λh=>by
 refine dk 34 A6 ?_
 simp only[A6,Kf.of,zs,ze]
 unfold lk at h
 exact pg trivial (.z 2 (.j 1 (λ(j5:Bool)=>⟨[.p 2,.k 14,.s (ba j5),.p 18],[]⟩) (.b (.b (.b (.t []) (.t [])) (.t [])) (.b (.t []) (.t []))) (.b .o (.j 1 (λ(j11:Bool)=>⟨[.k 2,.s (ba j11),.p 13],[]⟩) (.b (.b (.b (.b (.t []) (.t [])) (.t [])) (.t [])) (.t [])) .o))))⟩
instance {t0 t1 r}:Con (Ng t0 t1=some r) (Den Tryz.prog 232 [Vs t0,df t1] (aa r)):=⟨λh=>by
 refine dk 17 Z6 ?_
 simp only[Z6,Kf.of,zs,ze]
 unfold Ng at h
 exact pg @Rc.eq_1 (.l 1 0 (λ(s1:Int)=>⟨[.p 4,.k 3,.p 1,.s (aa s1),.p 10],[]⟩) (λ(_:Unit)=>⟨[],[]⟩) [] (.b (.b .o (.t [])) (.t [])) .o)⟩
theorem Kk{t0}{t1:GTable->Option Bool}{k1:Nat}{q1:List D}(hc1:la q1=true)(hp1:∀ x0 r,t1 x0=some r->Den Tryz.prog k1 ([eb x0]++q1) (ba r)){r} (h:Cb t0 t1=some r):Den Tryz.prog 236 [kg t0,.fn k1 [] q1] (aa r):=by
 haveI I1:∀ x0 r,Con (t1 x0=some r) (Den Tryz.prog k1 ([eb x0]++q1) (ba r)):=λx0 r=>⟨hp1 x0 r⟩
 have s1:∀ f:D->D->Prop,Dv f q1 q1=True:=λ_=>Zh hc1
 have z1:∀ a b n,Nt a b n q1=q1:=λ_ _ _=>me _ _ _ _ hc1
 refine Den.at 17 UY.ok UY.nm (kD (HN hc1 oB)) rfl ?_
 simp only[UY,Kf.of,zs,ze]
 unfold Cb at h
 exact pg @vc.eq_1 (.l 1 0 (λ(s1:Int)=>⟨[.p 4,.k 3,.p 1,.s (aa s1),.p 10],[]⟩) (λ(_:Unit)=>⟨[],[]⟩) [] (.b (.b .o (.t [])) (.t [])) .o)
instance {t0 t1 r}:Con (Kl t0 t1=some r) (Den Tryz.prog 244 [ea t0,aa t1] (aa r)):=⟨λh=>by
 refine dk 17 u7 ?_
 simp only[u7,Kf.of,zs,ze]
 unfold Kl at h
 exact pg @mf.eq_1 (.l 1 0 (λ(s1:Int)=>⟨[.p 4,.k 3,.p 1,.s (aa s1),.p 10],[]⟩) (λ(_:Unit)=>⟨[],[]⟩) [] (.b (.b .o (.t [])) (.t [])) .o)⟩
instance {t0 r}:Con (ct t0=some r) (Den Tryz.prog 245 [cI t0] (ba r)):=⟨λh=>by
 refine dk 8 v7 ?_
 simp only[v7,Kf.of,zs,ze]
 unfold ct at h
 exact pg trivial (.z 1 (.j 1 (λ(j2:Bool)=>⟨[.k 2,.s (ba j2),.p 6],[]⟩) (.b (.t []) (.t [])) .o))⟩
instance {t0 t1 r}:Con (Ur t0 t1=some r) (Den Tryz.prog 248 [Ca t0,aa t1] (ba r)):=⟨λh=>by
 refine dk 12 B7 ?_
 simp only[B7,Kf.of,zs,ze]
 unfold Ur at h
 exact pg trivial (.z 1 (.j 1 (λ(j2:Bool)=>⟨[.k 4,.s (ba j2),.p 9],[]⟩) (.b (.t []) (.t [])) .o))⟩
instance {t0 t1 t2 t3 r}:Con (Gs t0 t1 t2 t3=some r) (Den Tryz.prog 269 [eb t0,aa t1,aa t2,aa t3] (.tup [aa r.1,aa r.2])):=⟨λh=>by
  unfold Gs at h
  cases h⟩
theorem rm{t0}{t1:GRule->Option Bool}{k1:Nat}{q1:List D}(hc1:la q1=true)(hp1:∀ x0 r,t1 x0=some r->Den Tryz.prog k1 ([Xa x0]++q1) (ba r)){r} (h:Vb t0 t1=some r):Den Tryz.prog 282 [cf t0,.fn k1 [] q1] (aa r):=by
 haveI I1:∀ x0 r,Con (t1 x0=some r) (Den Tryz.prog k1 ([Xa x0]++q1) (ba r)):=λx0 r=>⟨hp1 x0 r⟩
 have s1:∀ f:D->D->Prop,Dv f q1 q1=True:=λ_=>Zh hc1
 have z1:∀ a b n,Nt a b n q1=q1:=λ_ _ _=>me _ _ _ _ hc1
 refine Den.at 17 ZY.ok ZY.nm (kD (HN hc1 oB)) rfl ?_
 simp only[ZY,Kf.of,zs,ze]
 unfold Vb at h
 exact pg @Hc.eq_1 (.l 1 0 (λ(s1:Int)=>⟨[.p 4,.k 3,.p 1,.s (aa s1),.p 10],[]⟩) (λ(_:Unit)=>⟨[],[]⟩) [] (.b (.b .o (.t [])) (.t [])) .o)
instance {t0 r}:Con (rf t0=some r) (Den Tryz.prog 290 [ba t0] (ka r)):=⟨λh=>by
 refine dk 5 l8 ?_
 simp only[l8,Kf.of,zs,ze]
 unfold rf at h
 exact pg trivial .o⟩
instance {t0 t1 t2 r}:Con (Sv t0 t1 t2=some r) (Den Tryz.prog 292 [Ea t0,ka t1,ka t2] (.tup [ka r.1,aa r.2])):=⟨λh=>by
  unfold Sv at h
  cases h⟩
instance {t0 r}:Con (ir t0=some r) (Den Tryz.prog 295 [aa t0] (.tup [aa r.1,aa r.2])):=⟨λh=>by
 refine dk 16 n8 ?_
 simp only[n8,Kf.of,zs,ze]
 unfold ir at h
 exact pg trivial .o⟩
instance {t0 t1 t2 r}:Con (Vu t0 t1 t2=some r) (Den Tryz.prog 307 [Ea t0,ka t1,ka t2] (.tup [ka r.1,aa r.2])):=⟨λh=>by
  unfold Vu at h
  cases h⟩
instance {t0 t1 r}:Con (br t0 t1=some r) (Den Tryz.prog 328 [aa t0,aa t1] (ba r)):=⟨λh=>by
 refine dk 12 G8 ?_
 simp only[G8,Kf.of,zs,ze]
 unfold br at h
 exact pg trivial (.z 1 (.j 1 (λ(j2:Bool)=>⟨[.k 4,.s (ba j2),.p 9],[]⟩) (.b (.t []) (.t [])) .o))⟩
instance {t0 t1 r}:Con (mn t0 t1=some r) (Den Tryz.prog 329 [aa t0,aa t1] (.tup [aa r.1,aa r.2.1,ba r.2.2])):=⟨λh=>by
 refine dk 60 H8 ?_
 simp only[H8,Kf.of,zs,ze]
 unfold mn at h
 exact pg trivial (.z 2 (.j 1 (λ(j2:Int)=>⟨[.p 4,.k 3,.s (.v (.int .u64 j2)),.p 4],[]⟩) (.b (.t []) (.t [])) (.z 2 (.j 1 (λ(j5:Bool)=>⟨[.p 7,.k 1,.p 13,.k 13,.s (ba j5),.p 27],[]⟩) (.b (.t []) (.t [])) .o))))⟩
instance {t0 r}:Con (cr t0=some r) (Den Tryz.prog 352 [aa t0] (ba r)):=⟨λh=>by
 refine dk 15 K8 ?_
 simp only[K8,Kf.of,zs,ze]
 unfold cr at h
 exact pg trivial (.z 1 (.j 1 (λ(j3:Bool)=>⟨[.k 2,.s (ba j3),.p 13],[]⟩) (.b (.b (.t []) (.t [])) (.t [])) .o))⟩
end Go.Proofs.Dev
