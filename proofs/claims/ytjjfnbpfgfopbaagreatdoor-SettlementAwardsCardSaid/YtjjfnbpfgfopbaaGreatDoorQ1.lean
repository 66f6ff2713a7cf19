/-
  Contracts of the functions: each answers as its plain partial function says.
-/
import Derived.Test.YtjjfnbpfgfopbaaGreatDoorK
import Derived.Test.YtjjfnbpfgfopbaaGreatDoorG
import Derived.Test.YtjjfnbpfgfopbaaGreatDoorPE
import Derived.Test.YtjjfnbpfgfopbaaGreatDoorH1
import Derived.Test.YtjjfnbpfgfopbaaGreatDoorH2
import Derived.Test.YtjjfnbpfgfopbaaGreatDoorL1
open List renaming length_cons->qaa,length_nil->Aaa,map_cons->vaa,map_nil->gab
open Nat renaming reduceAdd->Caa
open Option.some renaming inj->Iaa
set_option linter.all false
set_option maxHeartbeats 1000000
set_option maxRecDepth 10000
namespace Go.Proofs.Dev
open Go Go.Tm
instance T6:C1 k26 dn:=pg (And.intro (And.intro k26.eq_1 dn.eq_1) gn.eq_1) (.l 1 0 (EN [8,9,8,2,145] [0]) (EN [8,9] [0]) [] .o .o)
instance JQ:C1 k35 Hh:=pg (And.intro k35.eq_1 Hh.eq_1) .o
instance YT:C1 k39 Rj:=pg (And.intro k39.eq_1 Rj.eq_1) (.z 1 (.j 1 (EN [16,2,49] []) .o .o))
instance mR:C2 k40 xi:=pg (And.intro k40.eq_1 xi.eq_1) (.z 1 (.j 1 (EN [32,2,105] []) .o .o))
instance U6:C2 k58 Jk:=pg (And.intro k58.eq_1 Jk.eq_1) (.z 1 (.j 1 (EN [32,2,129] []) .o .o))
instance oX:C1 k64 Io:=pg (And.intro k64.eq_1 Io.eq_1) (.b .o (.j 1 (EN [8,9,56,2,41] [0]) .o .o))
theorem Kp{t0 r : List GFact} (h : ra t0 = some r) : Den Tryz.prog 68 [Dh t0] (Dh r) := by
  unfold ra at h
  split at h
  · rename_i hl
    obtain rfl := Iaa h
    refine dk 7 k68 ?_
    simp only[k68,Kf.of,zs,ze]
    refine T.Dk ?_
    refine T.rg ?_
    simp only[zx, ze]
    refine T.Dk ?_
    refine T.Dk ?_
    refine T.Gp (i := 0) (S := 9) (l := t0.map Hc) rfl (Fr.l _) (by simp) (by decide) (by decide) (by decide) ?_
    intro b hb
    have happ : app 72 ([] : List GFact) t0 = some t0 := by unfold app; rw[if_pos (by simp; omega)]; simp
    cases b with
    | true =>
      have hz : t0 = [] := by
        cases t0 with
        | nil => rfl
        | cons x l => exact absurd (hb (by simp)) (by simp)
      subst hz
      simp only[zx, ze]
      refine T.cd rfl ?_
      refine gP.mk (λ_ => ?_) (λh => absurd rfl h)
      refine T.Dk ?_
      refine T.rg ?_
      simp only[zx, ze]
      exact T.ret <| yp (by simp only[zx, ze, Un, Sf, Tf, Yd]; exact AD (by simp only[zq, ze]))
    | false =>
      simp only[zx, ze]
      refine T.cd rfl ?_
      refine gP.mk (λh => by cases h) (λ_ => ?_)
      refine T.skip ?_
      simp only[zx, ze]
      refine T.Dk ?_
      refine T.rg ?_
      obtain⟨f1, f2⟩ := Rw (e := Hc) happ
      try simp only[zx, ze] at f1 f2
      simp only[zx, ze, f1, f2]
      exact T.ret <| yp (by simp only[zx, ze, Un, Sf, Tf, Yd]; exact AD (by simp only[zq, ze]))
  · cases h
theorem wq{t0 r} (h:ab t0=some r):dz Tryz.prog 68 [Dh t0] 9 (r.map Hc):= by
  unfold ab ra at h
  split at h
  · rename_i hl
    obtain rfl := Iaa h
    refine dz.at 7 k68.ok k68.nm FrL.h (Fr.l _) rfl ?_
    simp only[k68,Kf.of,zs,ze]
    refine T.Dk ?_
    refine T.rg ?_
    simp only[zx, ze]
    refine T.Dk ?_
    refine T.Dk ?_
    refine T.Gp (i := 0) (S := 9) (l := t0.map Hc) rfl (Fr.l _) (by simp) (by decide) (by decide) (by decide) ?_
    intro b hb
    have happ : app 72 ([] : List GFact) t0 = some t0 := by unfold app; rw[if_pos (by simp; omega)]; simp
    cases b with
    | true =>
      have hz : t0 = [] := by
        cases t0 with
        | nil => rfl
        | cons x l => exact absurd (hb (by simp)) (by simp)
      subst hz
      simp only[zx, ze]
      refine T.cd rfl ?_
      refine gP.mk (λ_ => ?_) (λh => absurd rfl h)
      refine T.Dk ?_
      refine T.rg ?_
      simp only[zx, ze]
      exact T.ret <| Nt (by simp only[zx, ze, Rt, Sf, Tf, Yd]; exact Tells.q [(none, 9, 0)] rfl (by decide) (by simp only[zq, ze]))
    | false =>
      simp only[zx, ze]
      refine T.cd rfl ?_
      refine gP.mk (λh => by cases h) (λ_ => ?_)
      refine T.skip ?_
      simp only[zx, ze]
      refine T.Dk ?_
      refine T.rg ?_
      obtain⟨f1, f2⟩ := Rw (e := Hc) happ
      try simp only[zx, ze] at f1 f2
      simp only[zx, ze, f1, f2]
      exact T.ret <| Nt (by simp only[zx, ze, Rt, Sf, Tf, Yd]; exact Tells.q [(some 0, 1, 0)] rfl (by decide) (by simp only[zq, ze]))
  · cases h
instance zI68{t0 r}:Con2 (ab t0=some r) (dz Tryz.prog 68 [Dh t0] 9 (r.map Hc)):=⟨wq⟩
theorem vq{t0 r} (h:ra t0=some r):Zo Tryz.prog 68 [.own 0 0] [(9,t0.map Hc)] (Dh r):= by
  unfold ra at h
  split at h
  · rename_i hl
    obtain rfl := Iaa h
    refine Zo.of 7 k68 ?_ (by simp[Fr.l])
    simp only[k68,Kf.of,zs,ze,Ss,vaa,gab,qaa,Aaa,Caa]
    have happ : app 72 ([] : List GFact) t0 = some t0 := by unfold app; rw[if_pos (by simp; omega)]; simp
    refine T.Dk ?_
    refine T.rg ?_
    simp only[zx, ze]
    refine T.Dk ?_
    refine T.Dk ?_
    cases t0 with
    | nil =>
      refine T.nilown (i := 0) rfl rfl ?_
      simp only[zx, ze]
      refine T.Gp (i := 0) (S := 9) (l := []) rfl rfl (by simp) (by decide) (by decide) (by decide) ?_
      intro b hb
      cases b with
      | true =>
        simp only[zx, ze]
        refine T.cd rfl ?_
        refine gP.mk (λ_ => ?_) (λh => absurd rfl h)
        refine T.Dk ?_
        refine T.rg ?_
        simp only[zx, ze]
        exact T.ret <| XE (by simp only[zx, ze, Sf, Tf, Yd]; rw[Qt]; exact Tells.q [(some 0, 0, 0)] rfl (by decide) (by simp only[zx, zq, ze]))
      | false =>
        simp only[zx, ze]
        refine T.cd rfl ?_
        refine gP.mk (λh => by cases h) (λ_ => ?_)
        refine T.skip ?_
        simp only[zx, ze]
        refine T.Dk ?_
        refine T.rg ?_
        obtain⟨f1, f2⟩ := Rw (e := Hc) happ
        try simp only[zx, ze] at f1 f2
        simp only[zx, ze, f1, f2]
        exact T.ret <| XE (by simp only[zx, ze, Sf, Tf, Yd]; rw[Qt]; exact Tells.q [(some 0, 0, 0)] rfl (by decide) (by simp only[zx, zq, ze]))
    | cons x l =>
      refine T.rg ?_
      simp only[zx, ze]
      refine T.cd rfl ?_
      refine gP.mk (λh => by cases h) (λ_ => ?_)
      refine T.skip ?_
      simp only[zx, ze]
      refine T.Dk ?_
      refine T.rg ?_
      obtain⟨f1, f2⟩ := Rw (e := Hc) happ
      try simp only[zx, ze] at f1 f2
      simp only[zx, ze, f1, f2]
      exact T.ret <| XE (by simp only[zx, ze, Sf, Tf, Yd]; rw[Qt]; exact Tells.q [(some 0, 0, 0)] rfl (by decide) (by simp only[zx, zq, ze]; exact⟨.inl (Fr.l (e := Hc) (x :: l)), .inl (Fr.l (e := Hc) (x :: l))⟩))
  · cases h
instance zI68b{t0 r}:Con2 (ra t0=some r) (Zo Tryz.prog 68 [.own 0 0] [(9,t0.map Hc)] (Dh r)):=⟨vq⟩
instance zI68c{t0 r}:Con (ra t0=some r) (Den Tryz.prog 68 [Dh t0] (Dh r)):=⟨Kp⟩
instance YH:C2 k76 kd:=pg (And.intro k76.eq_1 kd.eq_1) (.z 3 (.j 1 (EN [16,17,16,9,112,2,49] [0]) .o .o))
theorem Dm{t0 r : List GPosting} (h : za t0 = some r) : Den Tryz.prog 80 [Aa t0] (Aa r) := by
  unfold za at h
  split at h
  · rename_i hl
    obtain rfl := Iaa h
    refine dk 7 k80 ?_
    simp only[k80,Kf.of,zs,ze]
    refine T.Dk ?_
    refine T.rg ?_
    simp only[zx, ze]
    refine T.Dk ?_
    refine T.Dk ?_
    refine T.Gp (i := 0) (S := 4) (l := t0.map Ha) rfl (Fr.l _) (by simp) (by decide) (by decide) (by decide) ?_
    intro b hb
    have happ : app 32 ([] : List GPosting) t0 = some t0 := by unfold app; rw[if_pos (by simp; omega)]; simp
    cases b with
    | true =>
      have hz : t0 = [] := by
        cases t0 with
        | nil => rfl
        | cons x l => exact absurd (hb (by simp)) (by simp)
      subst hz
      simp only[zx, ze]
      refine T.cd rfl ?_
      refine gP.mk (λ_ => ?_) (λh => absurd rfl h)
      refine T.Dk ?_
      refine T.rg ?_
      simp only[zx, ze]
      exact T.ret <| yp (by simp only[zx, ze, Un, Sf, Tf, Yd]; exact AD (by simp only[zq, ze]))
    | false =>
      simp only[zx, ze]
      refine T.cd rfl ?_
      refine gP.mk (λh => by cases h) (λ_ => ?_)
      refine T.skip ?_
      simp only[zx, ze]
      refine T.Dk ?_
      refine T.rg ?_
      obtain⟨f1, f2⟩ := Rw (e := Ha) happ
      try simp only[zx, ze] at f1 f2
      simp only[zx, ze, f1, f2]
      exact T.ret <| yp (by simp only[zx, ze, Un, Sf, Tf, Yd]; exact AD (by simp only[zq, ze]))
  · cases h
theorem rn{t0 r} (h:La t0=some r):dz Tryz.prog 80 [Aa t0] 4 (r.map Ha):= by
  unfold La za at h
  split at h
  · rename_i hl
    obtain rfl := Iaa h
    refine dz.at 7 k80.ok k80.nm FrL.h (Fr.l _) rfl ?_
    simp only[k80,Kf.of,zs,ze]
    refine T.Dk ?_
    refine T.rg ?_
    simp only[zx, ze]
    refine T.Dk ?_
    refine T.Dk ?_
    refine T.Gp (i := 0) (S := 4) (l := t0.map Ha) rfl (Fr.l _) (by simp) (by decide) (by decide) (by decide) ?_
    intro b hb
    have happ : app 32 ([] : List GPosting) t0 = some t0 := by unfold app; rw[if_pos (by simp; omega)]; simp
    cases b with
    | true =>
      have hz : t0 = [] := by
        cases t0 with
        | nil => rfl
        | cons x l => exact absurd (hb (by simp)) (by simp)
      subst hz
      simp only[zx, ze]
      refine T.cd rfl ?_
      refine gP.mk (λ_ => ?_) (λh => absurd rfl h)
      refine T.Dk ?_
      refine T.rg ?_
      simp only[zx, ze]
      exact T.ret <| Nt (by simp only[zx, ze, Rt, Sf, Tf, Yd]; exact Tells.q [(none, 4, 0)] rfl (by decide) (by simp only[zq, ze]))
    | false =>
      simp only[zx, ze]
      refine T.cd rfl ?_
      refine gP.mk (λh => by cases h) (λ_ => ?_)
      refine T.skip ?_
      simp only[zx, ze]
      refine T.Dk ?_
      refine T.rg ?_
      obtain⟨f1, f2⟩ := Rw (e := Ha) happ
      try simp only[zx, ze] at f1 f2
      simp only[zx, ze, f1, f2]
      exact T.ret <| Nt (by simp only[zx, ze, Rt, Sf, Tf, Yd]; exact Tells.q [(some 0, 1, 0)] rfl (by decide) (by simp only[zq, ze]))
  · cases h
instance zI80{t0 r}:Con2 (La t0=some r) (dz Tryz.prog 80 [Aa t0] 4 (r.map Ha)):=⟨rn⟩
instance zI80b{t0 r}:Con (za t0=some r) (Den Tryz.prog 80 [Aa t0] (Aa r)):=⟨Dm⟩
theorem ko{t0 r : List GAppeal} (h : Da t0 = some r) : Den Tryz.prog 81 [Fk t0] (Fk r) := by
  unfold Da at h
  split at h
  · rename_i hl
    obtain rfl := Iaa h
    refine dk 7 k81 ?_
    simp only[k81,Kf.of,zs,ze]
    refine T.Dk ?_
    refine T.rg ?_
    simp only[zx, ze]
    refine T.Dk ?_
    refine T.Dk ?_
    refine T.Gp (i := 0) (S := 7) (l := t0.map Wd) rfl (Fr.l _) (by simp) (by decide) (by decide) (by decide) ?_
    intro b hb
    have happ : app 56 ([] : List GAppeal) t0 = some t0 := by unfold app; rw[if_pos (by simp; omega)]; simp
    cases b with
    | true =>
      have hz : t0 = [] := by
        cases t0 with
        | nil => rfl
        | cons x l => exact absurd (hb (by simp)) (by simp)
      subst hz
      simp only[zx, ze]
      refine T.cd rfl ?_
      refine gP.mk (λ_ => ?_) (λh => absurd rfl h)
      refine T.Dk ?_
      refine T.rg ?_
      simp only[zx, ze]
      exact T.ret <| yp (by simp only[zx, ze, Un, Sf, Tf, Yd]; exact AD (by simp only[zq, ze]))
    | false =>
      simp only[zx, ze]
      refine T.cd rfl ?_
      refine gP.mk (λh => by cases h) (λ_ => ?_)
      refine T.skip ?_
      simp only[zx, ze]
      refine T.Dk ?_
      refine T.rg ?_
      obtain⟨f1, f2⟩ := Rw (e := Wd) happ
      try simp only[zx, ze] at f1 f2
      simp only[zx, ze, f1, f2]
      exact T.ret <| yp (by simp only[zx, ze, Un, Sf, Tf, Yd]; exact AD (by simp only[zq, ze]))
  · cases h
theorem xo{t0 r} (h:Pa t0=some r):dz Tryz.prog 81 [Fk t0] 7 (r.map Wd):= by
  unfold Pa Da at h
  split at h
  · rename_i hl
    obtain rfl := Iaa h
    refine dz.at 7 k81.ok k81.nm FrL.h (Fr.l _) rfl ?_
    simp only[k81,Kf.of,zs,ze]
    refine T.Dk ?_
    refine T.rg ?_
    simp only[zx, ze]
    refine T.Dk ?_
    refine T.Dk ?_
    refine T.Gp (i := 0) (S := 7) (l := t0.map Wd) rfl (Fr.l _) (by simp) (by decide) (by decide) (by decide) ?_
    intro b hb
    have happ : app 56 ([] : List GAppeal) t0 = some t0 := by unfold app; rw[if_pos (by simp; omega)]; simp
    cases b with
    | true =>
      have hz : t0 = [] := by
        cases t0 with
        | nil => rfl
        | cons x l => exact absurd (hb (by simp)) (by simp)
      subst hz
      simp only[zx, ze]
      refine T.cd rfl ?_
      refine gP.mk (λ_ => ?_) (λh => absurd rfl h)
      refine T.Dk ?_
      refine T.rg ?_
      simp only[zx, ze]
      exact T.ret <| Nt (by simp only[zx, ze, Rt, Sf, Tf, Yd]; exact Tells.q [(none, 7, 0)] rfl (by decide) (by simp only[zq, ze]))
    | false =>
      simp only[zx, ze]
      refine T.cd rfl ?_
      refine gP.mk (λh => by cases h) (λ_ => ?_)
      refine T.skip ?_
      simp only[zx, ze]
      refine T.Dk ?_
      refine T.rg ?_
      obtain⟨f1, f2⟩ := Rw (e := Wd) happ
      try simp only[zx, ze] at f1 f2
      simp only[zx, ze, f1, f2]
      exact T.ret <| Nt (by simp only[zx, ze, Rt, Sf, Tf, Yd]; exact Tells.q [(some 0, 1, 0)] rfl (by decide) (by simp only[zq, ze]))
  · cases h
instance zI81{t0 r}:Con2 (Pa t0=some r) (dz Tryz.prog 81 [Fk t0] 7 (r.map Wd)):=⟨xo⟩
instance zI81b{t0 r}:Con (Da t0=some r) (Den Tryz.prog 81 [Fk t0] (Fk r)):=⟨ko⟩
theorem Bo{t0 t1 r} (h:Ib t0 t1=some r):Den Tryz.prog 88 [eb t0,Tq t1] (sa r):=by
 refine dk 7 k88 ?_
 simp only[k88,Kf.of,zs,ze]
 unfold Ib at h
 exact pg trivial .o
instance zI88{t0 t1 r}:Con (Ib t0 t1=some r) (Den Tryz.prog 88 [eb t0,Tq t1] (sa r)):=⟨Bo⟩
instance same_Facts_C:C2 k89 ru:=pg (And.intro (And.intro k89.eq_1 ru.eq_1) Sl.eq_1) (.l 1 0 (EN [33,8,2] []) (EN [] []) [] (.z 1 (.j 1 (EN [161,2,89] []) .o .o)) .o)
instance H6:C1 k166 Sr:=pg (And.intro k166.eq_1 Sr.eq_1) (.z 1 (.j 1 (EN [16,2,105] []) .o .o))
theorem Su{t0 t1 r} (h:Bg t0 t1=some r):Den Tryz.prog 182 [Rn t0,Br t1] (sa r):=by
 refine dk 6 k182 ?_
 simp only[k182,Kf.of,zs,ze]
 unfold Bg at h
 exact pg trivial .o
instance zI182{t0 t1 r}:Con (Bg t0 t1=some r) (Den Tryz.prog 182 [Rn t0,Br t1] (sa r)):=⟨Su⟩
instance rE:C2 k204 qi:=pg (And.intro (And.intro k204.eq_1 qi.eq_1) Sd.eq_1) (.l 1 0 (EN [33,24,9,2,81] []) (EN [] []) [] .o .o)
theorem Et{t0 t1 r} (h:Pe t0 t1=some r):Den Tryz.prog 214 [Jf t0,Ot t1] (sa r):=by
 refine dk 7 k214 ?_
 simp only[k214,Kf.of,zs,ze]
 unfold Pe at h
 exact pg trivial .o
instance zI214{t0 t1 r}:Con (Pe t0 t1=some r) (Den Tryz.prog 214 [Jf t0,Ot t1] (sa r)):=⟨Et⟩
instance JO:C2 k237 nj:=pg (And.intro (And.intro k237.eq_1 nj.eq_1) Eg.eq_1) (.l 1 0 (EN [8,25,88,17,2,193] []) (EN [] []) [] (.z 5 (.j 1 (EN [8,41,72,25,80,2,105] []) .o (.b .o (.j 1 (EN [8,33,80,105,96,2,9] []) .o .o)))) .o)
instance L6:C2 k252 Wr:=pg (And.intro k252.eq_1 Wr.eq_1) (.b (.j 1 (EN [32,2] []) .o .o) (.b (.j 1 (EN [32,2] []) .o .o) (.b (.j 1 (EN [32,2] []) .o .o) (.b .o (.j 1 (EN [16,17,488,2,121] [0,8]) .o (.b (.j 1 (EN [32,2,481] []) .o .o) .o))))))
instance HO:C2 k265 mj:=pg (And.intro (And.intro k265.eq_1 mj.eq_1) Dg.eq_1) (.l 2 1 (EN [8,25,8,3,33,10,105] [260]) (EN [40,3,17] [260]) [5] (.z 2 (.j 1 (EN [8,81] [2]) (.b (.t [256]) .o) .o)) .o)
instance l9:C1 k286 Rg:=pg (And.intro k286.eq_1 Rg.eq_1) .o
instance nX:C1 k22 wh:=pg (And.intro (And.intro k22.eq_1 wh.eq_1) Qe.eq_1) (.l 2 1 (EN [24,3,33,10,105] [260]) (EN [24,3,17] [260]) [5] (.b (.t [256]) .o) .o)
instance law44_few_C:C2 k30 Tt:=pg (And.intro (And.intro k30.eq_1 Tt.eq_1) dq.eq_1) (.l 1 0 (EN [8,25,8,2,337] [0]) (EN [8,25] [0]) [] (.z 1 (.j 1 (EN [8,97,2,273] [0]) .o (.z 1 (.j 1 (EN [8,97,208,2,65] [0]) .o .o)))) (.j 1 (EN [32,2,345] []) .o .o))
instance E6:C1 k32 Cf:=pg (And.intro (And.intro k32.eq_1 Cf.eq_1) Om.eq_1) (.l 2 1 ⟨[.k 2,.p 4,.k 7,.p 2,.i 1,.p 11],[.o 1,.h 2 [.g [.p 6,.i 0,.p 1]]]⟩ ⟨[.k 2,.p 4],[.o 1,.h 2 [.g [.p 6,.i 0,.p 1]]]⟩ [4,8] .o .o)
theorem NH{t0 r} (h:Cf t0=some r):Zo Tryz.prog 32 [.agg [ca t0.Id,ca t0.Scope,ca t0.Members,.own 0 0]] [(9,t0.Facts.map Hc)] (we r):=by
 refine Zo.of 26 k32 ?_ (by simp[Fr.l])
 simp only[k32,Kf.of,zs,ze,Ss,vaa,gab,qaa,Aaa,Caa]
 unfold Cf at h
 exact pg Om.eq_1 (.l 2 1 ⟨[.k 2,.p 4,.k 7,.p 2,.i 1,.p 11],[.O 0,.o 2,.h 3 [.g [.p 6,.i 0,.p 1]]]⟩ ⟨[.k 2,.p 4],[.O 0,.o 2,.h 3 [.g [.p 6,.i 0,.p 1]]]⟩ [0,8,12] .o .o)
instance zI32{t0 r}:Con2 (Cf t0=some r) (Zo Tryz.prog 32 [.agg [ca t0.Id,ca t0.Scope,ca t0.Members,.own 0 0]] [(9,t0.Facts.map Hc)] (we r)):=⟨NH⟩
instance zI41{t0 r}:Con (Kl t0=some r) (Den Tryz.prog 41 [Aa t0] (.tup [ca r.1,ca r.2])):=⟨λh=>by
 refine dk 82 k41 ?_
 simp only[k41,Kf.of,zs,ze]
 unfold Kl at h
 have q1:∀ (m:List Ent) (o:Option Int),mB false (.v (.int .i64 0)) m (o.map ca)=some (.v (.int .i64 (o.getD 0)),m):=λ_ o=>by cases o <;> rfl
 have q2:∀ (k:Int) (x:Int) l,Is (.int .i64 k) (.v (.int .i64 x)) (em ca l)=em ca (jI k x l):=λ_ _ _=>NK (e:=ca)
 have q3:=λl=>xK (e:=ca) (l:=l)
 exact pg ai.eq_1 (.l 2 0 (EN [17,16,25,32,17,10,553] [5]) (EN [] []) [] (.z 5 (.j 1 (EN [113,32,2,513] [0,8]) (.j 1 (EN [113,32,2,513] [0,8]) .o (.j 1 (EN [145,2,513] [0,8]) .o .o)) (.b .o (.j 1 (EN [145,208,2,305] [0,8]) .o (.b .o (.j 1 (EN [353,80,2,225] [0,8]) .o .o)))))) .o)⟩
instance ZW:C1 k46 vr:=pg (And.intro k46.eq_1 vr.eq_1) .o
instance vW:C2 k53 sq:=pg (And.intro k53.eq_1 sq.eq_1) (.z 1 (.j 1 (EN [32,2,209] []) .o .o))
instance rP:C2 k141 Zc:=pg (And.intro k141.eq_1 Zc.eq_1) (.z 2 (.j 1 (EN [33,48,2,81] []) .o (.z 1 (.j 1 (EN [8,73,48,2,33] []) .o .o))))
instance aC:C2 k174 Qd:=pg (And.intro k174.eq_1 Qd.eq_1) .o
theorem Lv{t0 r} (h:Qh t0=some r):WE Tryz.prog 200 [] [] 1 (t0.map ca) (Xa r):=by
 refine WE.at 6 k200.ok k200.nm YB YB (Fr.l _) rfl ?_
 simp only[k200,Kf.of,zs,ze]
 unfold Qh at h
 exact pg trivial .o
instance zI200{t0 r}:Con (Qh t0=some r) (WE Tryz.prog 200 [] [] 1 (t0.map ca) (Xa r)):=⟨Lv⟩
instance zI220{t0 r}:Con (Bj t0=some r) (WE Tryz.prog 220 [] [] 1 (t0.map ca) (Xa r)):=⟨λh=>by
 refine WE.at 6 k220.ok k220.nm YB YB (Fr.l _) rfl ?_
 simp only[k220,Kf.of,zs,ze]
 unfold Bj at h
 exact pg trivial .o⟩
instance KN:C2 k249 xl:=pg (And.intro (And.intro k249.eq_1 xl.eq_1) ui.eq_1) (.l 2 1 (EN [16,17,8,11,17,24,17,10,425] [0,260]) (EN [40,3,17] [260]) [0,5] (.b (.j 1 (EN [16,97] [0,258]) (.z 3 (.j 1 (EN [16,97] [0,258]) (.j 1 (EN [16,97,208,2,209] [0,8]) .o (.b (.t [0,260]) .o)) (.j 1 (EN [16,465,2,49] [0,8]) .o (.b (.t [0,260]) .o)))) .o) (.t [4])) .o)
end Go.Proofs.Dev
