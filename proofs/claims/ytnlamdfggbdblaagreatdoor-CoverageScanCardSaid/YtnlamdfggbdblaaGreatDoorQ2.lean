/-
  Contracts of the functions: each answers as its plain partial function says.
-/
import Derived.Test.YtnlamdfggbdblaaGreatDoorK
import Derived.Test.YtnlamdfggbdblaaGreatDoorG
import Derived.Test.YtnlamdfggbdblaaGreatDoorPD
import Derived.Test.YtnlamdfggbdblaaGreatDoorH2
open Option.some renaming inj->Faa
set_option linter.all false
set_option maxHeartbeats 1000000
set_option maxRecDepth 10000
namespace Go.Proofs.Dev
open Go Go.Tm
instance {t0 t1 r}:Con (um t0 t1=some r) (Den Tryz.prog 13 [da t0,da t1] (ba r)):=⟨λh=>by
 refine dk 30 k13 ?_
 simp only[k13,Kf.of,zs,ze]
 unfold um at h
 exact pg @Ho.eq_1 (.b .o (.l 1 0 (λ(s2:Int)=>⟨[.p 4,.k 1,.s (aa s2)],[]⟩) (λ(_:Unit)=>⟨[],[]⟩) [] (.z 1 (.j 1 (λ(j4:Bool)=>⟨[.p 20,.s (ba j4),.p 11],[]⟩) (.b (.t []) (.t [])) (.b (.b .o (.t [])) (.t [])))) .o))⟩
instance {t0 t1 r}:Con (Ch t0 t1=some r) (Den Tryz.prog 27 [va t0,va t1] (ba r)):=⟨λh=>by
 refine dk 22 k27 ?_
 simp only[k27,Kf.of,zs,ze]
 unfold Ch at h
 exact pg trivial (.z 1 (.j 1 (λ(j3:Bool)=>⟨[.k 4,.s (ba j3),.p 19],[]⟩) (.b (.b (.t []) (.t [])) (.t [])) .o))⟩
theorem ag{t0}{t1:GCoverageHole->Option Bool}{k1:Nat}{q1:List D}(hc1:ia q1=true)(hp1:∀ x0 r,t1 x0=some r->Den Tryz.prog k1 ([va x0]++q1) (ba r)){r} (h:Qa t0 t1=some r):Den Tryz.prog 58 [fb t0,.fn k1 [] q1] (aa r):=by
 haveI I1:∀ x0 r,Con (t1 x0=some r) (Den Tryz.prog k1 ([va x0]++q1) (ba r)):=λx0 r=>⟨hp1 x0 r⟩
 have s1:∀ f:D->D->Prop,Zu f q1 q1=True:=λ_=>bg hc1
 have z1:∀ a b n,Ys a b n q1=q1:=λ_ _ _=>Ld _ _ _ _ hc1
 refine Den.at 17 k58.ok k58.nm (iB (xK hc1 oz)) rfl ?_
 simp only[k58,Kf.of,zs,ze]
 unfold Qa at h
 exact pg @Ma.eq_1 (.l 1 0 (λ(s1:Int)=>⟨[.p 4,.k 3,.p 1,.s (aa s1),.p 10],[]⟩) (λ(_:Unit)=>⟨[],[]⟩) [] (.b (.b .o (.t [])) (.t [])) .o)
instance {t0 t1 r}:Con (Jl t0 t1=some r) (Den Tryz.prog 63 [wb t0,wb t1] (ba r)):=⟨λh=>by
 refine dk 30 k63 ?_
 simp only[k63,Kf.of,zs,ze]
 unfold Jl at h
 exact pg @Kl.eq_1 (.b .o (.l 1 0 (λ(s2:Int)=>⟨[.p 4,.k 1,.s (aa s2)],[]⟩) (λ(_:Unit)=>⟨[],[]⟩) [] (.z 1 (.j 1 (λ(j4:Bool)=>⟨[.p 20,.s (ba j4),.p 11],[]⟩) (.b (.t []) (.t [])) (.b (.b .o (.t [])) (.t [])))) .o))⟩
instance {t0 r}:Con (yg t0=some r) (Den Tryz.prog 70 [aa t0] (ba r)):=⟨λh=>by
 refine dk 8 k70 ?_
 simp only[k70,Kf.of,zs,ze]
 unfold yg at h
 exact pg trivial (.z 1 (.j 1 (λ(j2:Bool)=>⟨[.k 2,.s (ba j2),.p 6],[]⟩) (.b (.t []) (.t [])) .o))⟩
instance {t0 r}:Con (Lf t0=some r) (Den Tryz.prog 83 [Ga t0] (ba r)):=⟨λh=>by
 refine dk 10 k83 ?_
 simp only[k83,Kf.of,zs,ze]
 unfold Lf at h
 exact pg trivial (.z 3 (.j 1 (λ(j5:Bool)=>⟨[.k 5,.s (ba j5),.p 5],[]⟩) (.b (.t []) (.b (.t []) (.b (.t []) (.b (.t []) (.t []))))) .o))⟩
instance {t0 t1 r}:Con (Sb t0 t1=some r) (Den Tryz.prog 87 [qa t0,Tb t1] (ba r)):=⟨λh=>by
 refine dk 26 k87 ?_
 simp only[k87,Kf.of,zs,ze]
 unfold Sb at h
 exact pg trivial (.z 3 (.j 1 (λ(j5:Bool)=>⟨[.k 1,.p 3,.k 2,.p 1,.s (ba j5),.p 20],[.o 0]⟩) (.b (.t [ok 0]) (.b (.t [ok 0]) (.b (.t [ok 0]) (.b (.t [ok 0]) (.t [ok 0]))))) (.b .o (.b (.j 1 (λ(j9:Bool)=>⟨[.k 4,.s (ba j9),.p 1],[]⟩) (.b (.t []) (.t [])) .o) .o))))⟩
instance {t0 t1 r}:Con (El t0 t1=some r) (Den Tryz.prog 98 [da t0,da t1] (aa r)):=⟨λh=>by
 refine dk 43 k98 ?_
 simp only[k98,Kf.of,zs,ze]
 unfold El at h
 exact pg @Zh.eq_1 (.b .o (.b .o (.l 1 0 (λ(s3:Int)=>⟨[.p 4,.k 1,.s (aa s3)],[]⟩) (λ(_:Unit)=>⟨[],[]⟩) [] (.b (.z 2 (.j 1 (λ(j7:Bool)=>⟨[.p 14,.k 18,.s (ba j7),.p 12],[]⟩) (.b (.t []) (.t [])) (.b .o (.j 1 (λ(j11:Bool)=>⟨[.p 32,.k 12,.s (ba j11)],[]⟩) (.b (.t []) (.t [])) (.b .o (.t [])))))) (.t [])) .o)))⟩
instance {t0 t1 t2 t3 r}:Con (pc t0 t1 t2 t3=some r) (Den Tryz.prog 102 [Jb t0,aa t1,aa t2,Df t3] (ba r)):=⟨λh=>by
 refine dk 84 O2 ?_
 simp only[O2,Kf.of,zs,ze]
 unfold pc at h
 exact pg (And.intro @vb.eq_1 (And.intro @lb.eq_1 @jc.eq_1)) (.l 1 0 (λ(s1:Int)=>⟨[.k 1,.p 7,.k 1,.s (aa s1),.p 78],[.o 0]⟩) (λ(_:Unit)=>⟨[.k 1,.p 7],[.o 0]⟩) [ok 0] (.b (.z 1 (.j 1 (λ(j7:Bool)=>⟨[.k 1,.p 11,.k 23,.s (ba j7),.p 52],[.o 0]⟩) (.b (.b (.t [ok 0]) (.t [ok 0])) (.t [ok 0])) (.b .o (.t [ok 0])))) (.t [ok 0])) (.l 1 0 (λ(s10:Int)=>⟨[.k 1,.p 9,.s (aa s10),.p 77],[.o 0]⟩) (λ(_:Unit)=>⟨[.k 1,.p 9],[.o 0]⟩) [ok 0] (.b (.z 1 (.j 1 (λ(j17:Bool)=>⟨[.k 1,.p 35,.k 27,.s (ba j17),.p 24],[.o 0]⟩) (.b (.b (.b (.t [ok 0]) (.t [ok 0])) (.t [ok 0])) (.t [ok 0])) (.b .o (.t [ok 0])))) (.t [ok 0])) (.l 1 0 (λ(s20:Int)=>⟨[.k 1,.p 10,.s (aa s20),.p 76],[.o 0]⟩) (λ(_:Unit)=>⟨[],[]⟩) [ok 0] (.b (.z 1 (.j 1 (λ(j25:Bool)=>⟨[.k 1,.p 63,.k 23,.s (ba j25)],[.o 0]⟩) (.b (.b (.t [ok 0]) (.t [ok 0])) (.t [ok 0])) (.b .o (.t [ok 0])))) (.t [])) .o)))⟩
instance {t0 r}:Con (Og t0=some r) (Den Tryz.prog 120 [Ud t0] (Mi r)):=⟨λh=>by
 refine dk 18 F3 ?_
 simp only[F3,Kf.of,zs,ze]
 unfold Og at h
 exact pg @Ph.eq_1 (.l 2 1 (λ(q:((List GType) × Int))=>⟨[.k 3,.s (.own 0 0),.p 4,.s (aa q.2),.p 10],[.n 2 ((q.1.map qa))]⟩) (λ(b8:(List GType))=>⟨[.k 3,.s (.own 0 0),.p 2],[.n 2 ((b8.map qa))]⟩) [on 2] (.b (.t [ov 0 1]) (.t [ok 0])) .o)⟩
instance {t0 r : List GRow}:Con (ud t0=some r) (Den Tryz.prog 122 [vr t0] (vr r)):=⟨λh=>by
  unfold ud at h
  split at h
  · rename_i hl
    obtain rfl := Faa h
    refine dk 7 H3 ?_
    simp only[H3,Kf.of,zs,ze]
    refine T.Dy ?_
    refine T.rg ?_
    simp only[zx, ze]
    refine T.Dy ?_
    refine T.Dy ?_
    refine T.Gr (i := 0) (S := 5) (l := t0.map Eg) rfl (Fr.l _) (by simp) (by decide) (by decide) (by decide) ?_
    intro b hb
    have happ : app 40 ([] : List GRow) t0 = some t0 := by unfold app; rw[if_pos (by simp; omega)]; simp
    cases b with
    | true =>
      have hz : t0 = [] := by
        cases t0 with
        | nil => rfl
        | cons x l => exact absurd (hb (by simp)) (by simp)
      subst hz
      simp only[zx, ze]
      refine T.cd rfl ?_
      refine gP.mk (λ_ => ?_) (λh => absurd rfl h)
      refine T.Dy ?_
      refine T.rg ?_
      simp only[zx, ze]
      exact T.ret <| vn (by simp only[zx, ze, Yl, Sr, Tr, rp]; exact wF (by simp only[zq, ze]))
    | false =>
      simp only[zx, ze]
      refine T.cd rfl ?_
      refine gP.mk (λh => by cases h) (λ_ => ?_)
      refine T.skip ?_
      simp only[zx, ze]
      refine T.Dy ?_
      refine T.rg ?_
      obtain⟨f1, f2⟩ := gF (e := Eg) happ
      try simp only[zx, ze] at f1 f2
      simp only[zx, ze, f1, f2]
      exact T.ret <| vn (by simp only[zx, ze, Yl, Sr, Tr, rp]; exact wF (by simp only[zq, ze]))
  · cases h⟩
instance {t0 r}:Con (Hg t0=some r) (Den Tryz.prog 125 [aa t0] (aa r)):=⟨λh=>by
 refine dk 46 K3 ?_
 simp only[K3,Kf.of,zs,ze]
 unfold Hg at h
 exact pg trivial (.z 3 (.j 1 (λ(j14:Bool)=>⟨[.k 3,.p 1,.s (ba j14),.p 42],[]⟩) (.b (.t []) (.b (.t []) (.b (.t []) (.b (.t []) (.b (.t []) (.b (.t []) (.b (.t []) (.b (.t []) (.b (.t []) (.b (.t []) (.b (.t []) (.b (.t []) (.b (.t []) (.t [])))))))))))))) (.b .o (.j 1 (λ(j21:Bool)=>⟨[.k 3,.p 1,.k 15,.s (ba j21),.p 27],[]⟩) (.b (.t []) (.b (.t []) (.b (.t []) (.b (.t []) (.b (.t []) (.t [])))))) (.b .o (.j 1 (λ(j40:Bool)=>⟨[.k 3,.p 16,.k 7,.s (ba j40),.p 20],[]⟩) (.b (.t []) (.b (.t []) (.b (.t []) (.b (.t []) (.b (.t []) (.b (.t []) (.b (.t []) (.b (.t []) (.b (.t []) (.b (.t []) (.b (.t []) (.b (.t []) (.b (.t []) (.b (.t []) (.b (.t []) (.b (.t []) (.b (.t []) (.t [])))))))))))))))))) .o))))))⟩
instance {t0 r}:Con (Qh t0=some r) (Den Tryz.prog 145 [Bb t0] (ba r)):=⟨λh=>by
 refine dk 17 r4 ?_
 simp only[r4,Kf.of,zs,ze]
 unfold Qh at h
 exact pg trivial (.z 1 (.j 1 (λ(j3:Bool)=>⟨[.k 2,.s (ba j3),.p 15],[]⟩) (.b (.b (.t []) (.t [])) (.t [])) .o))⟩
theorem Wu{t0}{t1:GRow->Option Bool}{k1:Nat}{q1:List D}(hc1:ia q1=true)(hp1:∀ x0 r,t1 x0=some r->Den Tryz.prog k1 ([Eg x0]++q1) (ba r)){r} (h:me t0 t1=some r):Den Tryz.prog 157 [vr t0,.fn k1 [] q1] (.tup [aa r.1,ba r.2]):=by
 haveI I1:∀ x0 r,Con (t1 x0=some r) (Den Tryz.prog k1 ([Eg x0]++q1) (ba r)):=λx0 r=>⟨hp1 x0 r⟩
 have s1:∀ f:D->D->Prop,Zu f q1 q1=True:=λ_=>bg hc1
 have z1:∀ a b n,Ys a b n q1=q1:=λ_ _ _=>Ld _ _ _ _ hc1
 refine Den.at 18 mY.ok mY.nm (iB (xK hc1 oz)) rfl ?_
 simp only[mY,Kf.of,zs,ze]
 unfold me at h
 exact pg @fe.eq_1 (.l 1 0 (λ(s1:Int)=>⟨[.k 1,.p 3,.k 4,.p 2,.s (aa s1),.p 9],[]⟩) (λ(_:Unit)=>⟨[],[]⟩) [] (.b (.b .o (.t [])) (.t [])) .o)
instance {t0 r}:Con (Xd t0=some r) (Den Tryz.prog 162 [Df t0] (ba r)):=⟨λh=>by
 refine dk 59 O4 ?_
 simp only[O4,Kf.of,zs,ze]
 unfold Xd at h
 exact pg trivial (.z 3 (.j 1 (λ(j55:Bool)=>⟨[.k 4,.s (ba j55),.p 55],[]⟩) (.b (.t []) (.b (.t []) (.b (.t []) (.b (.t []) (.b (.t []) (.b (.t []) (.b (.t []) (.b (.t []) (.b (.t []) (.b (.t []) (.b (.t []) (.b (.t []) (.b (.t []) (.b (.t []) (.b (.t []) (.b (.t []) (.b (.t []) (.b (.t []) (.b (.t []) (.b (.t []) (.b (.t []) (.b (.t []) (.b (.t []) (.b (.t []) (.b (.t []) (.b (.t []) (.b (.t []) (.b (.t []) (.b (.t []) (.b (.t []) (.b (.t []) (.b (.t []) (.b (.t []) (.b (.t []) (.b (.t []) (.b (.t []) (.b (.t []) (.b (.t []) (.b (.t []) (.b (.t []) (.b (.t []) (.b (.t []) (.b (.t []) (.b (.t []) (.b (.t []) (.b (.t []) (.b (.t []) (.b (.t []) (.b (.t []) (.b (.t []) (.b (.t []) (.b (.t []) (.b (.t []) (.b (.t []) (.t []))))))))))))))))))))))))))))))))))))))))))))))))))))))) .o))⟩
theorem Ss{t0 t1 r} (h:ef t0 t1=some r):Den Tryz.prog 164 [Af t0,Bp t1] (ba r):=by
 refine dk 6 P4 ?_
 simp only[P4,Kf.of,zs,ze]
 unfold ef at h
 exact pg trivial .o
instance {t0 t1 r}:Con (ef t0 t1=some r) (Den Tryz.prog 164 [Af t0,Bp t1] (ba r)):=⟨Ss⟩
theorem Up{t0 t1 r} (h:Yc t0 t1=some r):Den Tryz.prog 168 [Da t0,Vo t1] (ba r):=by
 refine dk 7 R4 ?_
 simp only[R4,Kf.of,zs,ze]
 unfold Yc at h
 exact pg trivial .o
instance {t0 t1 r}:Con (Yc t0 t1=some r) (Den Tryz.prog 168 [Da t0,Vo t1] (ba r)):=⟨Up⟩
instance {t0 r}:Con (cf t0=some r) (Den Tryz.prog 178 [aa t0] (ba r)):=⟨λh=>by
 refine dk 8 o5 ?_
 simp only[o5,Kf.of,zs,ze]
 unfold cf at h
 exact pg trivial (.z 1 (.j 1 (λ(j2:Bool)=>⟨[.k 2,.s (ba j2),.p 6],[]⟩) (.b (.t []) (.t [])) .o))⟩
theorem vm{t0}{t1:GEnum->Option Bool}{k1:Nat}{q1:List D}(hc1:ia q1=true)(hp1:∀ x0 r,t1 x0=some r->Den Tryz.prog k1 ([Af x0]++q1) (ba r)){r} (h:mc t0 t1=some r):Den Tryz.prog 217 [Tb t0,.fn k1 [] q1] (aa r):=by
 haveI I1:∀ x0 r,Con (t1 x0=some r) (Den Tryz.prog k1 ([Af x0]++q1) (ba r)):=λx0 r=>⟨hp1 x0 r⟩
 have s1:∀ f:D->D->Prop,Zu f q1 q1=True:=λ_=>bg hc1
 have z1:∀ a b n,Ys a b n q1=q1:=λ_ _ _=>Ld _ _ _ _ hc1
 refine Den.at 17 qY.ok qY.nm (iB (xK hc1 oz)) rfl ?_
 simp only[qY,Kf.of,zs,ze]
 unfold mc at h
 exact pg @Oc.eq_1 (.l 1 0 (λ(s1:Int)=>⟨[.p 4,.k 3,.p 1,.s (aa s1),.p 10],[]⟩) (λ(_:Unit)=>⟨[],[]⟩) [] (.b (.b .o (.t [])) (.t [])) .o)
instance {t0 t1 t2 t3 r}:Con (As t0 t1 t2 t3=some r) (Den Tryz.prog 244 [mb t0,aa t1,aa t2,aa t3] (.tup [aa r.1,aa r.2])):=⟨λh=>by
  unfold As at h
  cases h⟩
instance {t0 r}:Con (Yq t0=some r) (Den Tryz.prog 247 [aa t0] (.tup [aa r.1,aa r.2])):=⟨λh=>by
 refine dk 16 B6 ?_
 simp only[B6,Kf.of,zs,ze]
 unfold Yq at h
 exact pg trivial .o⟩
instance {t0 t1 t2 r}:Con (Pu t0 t1 t2=some r) (Den Tryz.prog 259 [Ga t0,ka t1,ka t2] (.tup [ka r.1,aa r.2])):=⟨λh=>by
  unfold Pu at h
  cases h⟩
instance {t0 t1 r}:Con (Rn t0 t1=some r) (Den Tryz.prog 278 [aa t0,aa t1] (aa r)):=⟨λh=>by
  unfold Rn at h
  cases h⟩
instance {t0 t1 t2 t3 t4 r}:Con (Ep t0 t1 t2 t3 t4=some r) (Den Tryz.prog 311 [aa t0,aa t1,aa t2,ba t3,aa t4] (aa r)):=⟨λh=>by
 refine dk 60 Z6 ?_
 simp only[Z6,Kf.of,zs,ze]
 unfold Ep at h
 exact pg trivial (.z 2 (.j 2 (λ(q:(Bool × Bool))=>⟨[.p 1,.k 2,.s (ba q.1),.k 7,.s (ba q.2),.p 53],[]⟩) (.b (.b (.t []) (.t [])) (.b (.b (.t []) (.t [])) (.b (.t []) (.b (.t []) (.b (.b (.b (.t []) (.t [])) (.t [])) (.t [])))))) (.j 1 (λ(j13:Int)=>⟨[.s (aa j13),.p 10],[]⟩) (.b (.t []) (.t [])) .o)))⟩
end Go.Proofs.Dev
