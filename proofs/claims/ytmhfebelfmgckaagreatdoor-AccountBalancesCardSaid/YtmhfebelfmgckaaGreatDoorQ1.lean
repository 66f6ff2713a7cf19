/-
  Contracts of the functions: each answers as its plain partial function says.
-/
import Derived.Test.YtmhfebelfmgckaaGreatDoorG
import Derived.Test.YtmhfebelfmgckaaGreatDoorH1
import Derived.Test.YtmhfebelfmgckaaGreatDoorH2
import Derived.Test.YtmhfebelfmgckaaGreatDoorL1
open Option renaming some->M,none->s5
open And renaming intro->ak
open Go.Proofs.Tryz renaming prog->al
open List renaming length_cons->G!,length_nil->M!,map_cons->D?,map_nil->R?
open Nat renaming reduceAdd->M?
open Option.some renaming inj->J'
set_option linter.all false
set_option maxHeartbeats 1000000
set_option maxRecDepth 10000
namespace Go.Proofs.Dev
open Go Go.Tm
variable {t1:kv->Option Bool}{k1:Nat}{q1:List D}
theorem Gv{t0 r : List ka} (h : Ba t0 = M r) : e? al 69 [Zj t0] (Zj r) := by
  unfold Ba at h
  split at h
  · rename_i hl
    obtain rfl := J' h
    refine dk 7 k69 ?_
    simp only[k69,Kf.of,zs,ze]
    refine T.Vo ?_
    refine T.rg ?_
    simp only[zx, ze]
    refine T.Vo ?_
    refine T.Vo ?_
    refine T.xv (i := 0) (S := 9) (l := t0.map Kd) rfl (Fr.l _) o0 p5 p5 p5 ?_
    intro b hb
    have happ : app 72 ([] : List ka) t0 = M t0 := by unfold app; rw[J a09]; simp
    cases b with
    | true =>
      have hz : t0 = [] := by
        cases t0 with
        | nil => rfl
        | cons x l => exact absurd (hb o0) o0
      subst hz
      simp only[zx, ze]
      refine T.cd rfl ?_
      refine gP.mk (λ_ => ?_) (λh => absurd rfl h)
      refine T.Vo ?_
      refine T.rg ?_
      simp only[zx, ze]
      exact T.ret <| iv aaF
    | false =>
      simp only[zx, ze]
      refine T.cd rfl ?_
      refine gP.mk (λh => by cases h) (λ_ => ?_)
      refine T.skip ?_
      simp only[zx, ze]
      refine T.Vo ?_
      refine T.rg ?_
      obtain⟨f1, f2⟩ := MD (e := Kd) happ
      try simp only[zx, ze] at f1 f2
      simp only[zx, ze, f1, f2]
      exact T.ret <| iv aaF
  · cases h
theorem Iw{t0 r} (h:Yb t0=M r):qG al 69 [Zj t0] 9 (r.map Kd):= by
  unfold Yb Ba at h
  split at h
  · rename_i hl
    obtain rfl := J' h
    refine qG.at 7 k69.ok k69.nm U!.h (Fr.l _) rfl ?_
    simp only[k69,Kf.of,zs,ze]
    refine T.Vo ?_
    refine T.rg ?_
    simp only[zx, ze]
    refine T.Vo ?_
    refine T.Vo ?_
    refine T.xv (i := 0) (S := 9) (l := t0.map Kd) rfl (Fr.l _) o0 p5 p5 p5 ?_
    intro b hb
    have happ : app 72 ([] : List ka) t0 = M t0 := by unfold app; rw[J a09]; simp
    cases b with
    | true =>
      have hz : t0 = [] := by
        cases t0 with
        | nil => rfl
        | cons x l => exact absurd (hb o0) o0
      subst hz
      simp only[zx, ze]
      refine T.cd rfl ?_
      refine gP.mk (λ_ => ?_) (λh => absurd rfl h)
      refine T.Vo ?_
      refine T.rg ?_
      simp only[zx, ze]
      exact T.ret <| Tz (by simp only[zx, ze, Wz, sh, th, pf]; exact f'.q [(s5, 9, 0)] rfl p5 (by simp only[zq, ze]))
    | false =>
      simp only[zx, ze]
      refine T.cd rfl ?_
      refine gP.mk (λh => by cases h) (λ_ => ?_)
      refine T.skip ?_
      simp only[zx, ze]
      refine T.Vo ?_
      refine T.rg ?_
      obtain⟨f1, f2⟩ := MD (e := Kd) happ
      try simp only[zx, ze] at f1 f2
      simp only[zx, ze, f1, f2]
      exact T.ret <| Tz aaH
  · cases h
instance aav{t0 r}:Q! (Yb t0=M r) (qG al 69 [Zj t0] 9 (r.map Kd)):=⟨Iw⟩
theorem Hw{t0 r} (h:Ba t0=M r):Ou al 69 [.own 0 0] [(9,t0.map Kd)] (Zj r):= by
  unfold Ba at h
  split at h
  · rename_i hl
    obtain rfl := J' h
    refine Ou.of 7 k69 ?_ aaI
    simp only[k69,Kf.of,zs,ze,cz,D?,R?,G!,M!,M?]
    have happ : app 72 ([] : List ka) t0 = M t0 := by unfold app; rw[J a09]; simp
    refine T.Vo ?_
    refine T.rg ?_
    simp only[zx, ze]
    refine T.Vo ?_
    refine T.Vo ?_
    cases t0 with
    | nil =>
      refine T.nilown (i := 0) rfl rfl ?_
      simp only[zx, ze]
      refine T.xv (i := 0) (S := 9) (l := []) rfl rfl o0 p5 p5 p5 ?_
      intro b hb
      cases b with
      | true =>
        simp only[zx, ze]
        refine T.cd rfl ?_
        refine gP.mk (λ_ => ?_) (λh => absurd rfl h)
        refine T.Vo ?_
        refine T.rg ?_
        simp only[zx, ze]
        exact T.ret <| kN aaJ
      | false =>
        simp only[zx, ze]
        refine T.cd rfl ?_
        refine gP.mk (λh => by cases h) (λ_ => ?_)
        refine T.skip ?_
        simp only[zx, ze]
        refine T.Vo ?_
        refine T.rg ?_
        obtain⟨f1, f2⟩ := MD (e := Kd) happ
        try simp only[zx, ze] at f1 f2
        simp only[zx, ze, f1, f2]
        exact T.ret <| kN aaJ
    | cons x l =>
      refine T.rg ?_
      simp only[zx, ze]
      refine T.cd rfl ?_
      refine gP.mk (λh => by cases h) (λ_ => ?_)
      refine T.skip ?_
      simp only[zx, ze]
      refine T.Vo ?_
      refine T.rg ?_
      obtain⟨f1, f2⟩ := MD (e := Kd) happ
      try simp only[zx, ze] at f1 f2
      simp only[zx, ze, f1, f2]
      exact T.ret <| kN (by simp only[zx, ze, sh, th, pf]; rw[Vz]; exact f'.q [(M 0, 0, 0)] rfl p5 (by simp only[zx, zq, ze]; exact⟨.inl (Fr.l (e := Kd) (x :: l)), .inl (Fr.l (e := Kd) (x :: l))⟩))
  · cases h
instance aaw{t0 r}:Q! (Ba t0=M r) (Ou al 69 [.own 0 0] [(9,t0.map Kd)] (Zj r)):=⟨Hw⟩
instance aax{t0 r}:o! (Ba t0=M r) (e? al 69 [Zj t0] (Zj r)):=⟨Gv⟩
instance Q5:C1 k76 sj:=pg (ak (ak k76.eq_1 sj.eq_1) (ak Zk.eq_1 (ak bl.eq_1 il.eq_1))) (.z 2 (.j (EN [8,9,208,2,513] [0]) .o (.l (EN [8,17,2,193] [0]) (EN [8,17] [0]) [] .o (.l (EN [8,25,2,705] [0]) (EN [8,25] [0]) [] .o (.l (EN [8,33,2,697] [0]) (EN [] []) [] (.z 4 (.j (EN [8,41,688,2] [0]) .o .o)) .o)))))
instance aay:C1 k77 wv:=pg (ak k77.eq_1 wv.eq_1) (.z 1 (.j (EN [16,2,49] []) .o .o))
instance aaz:C2 ch9 Pm:=pg (ak (ak ch9.eq_1 Pm.eq_1) Cq.eq_1) (.l (EN [33,8,9,10,18] [2]) (EN [8,25,8,9,10] [2]) [] (.z 3 (.j (EN [49,10,17] [2]) (.j (EN [73,120,2,193] [0]) .o (.b (.b (.t [256]) .o) .o)) (.t [256]))) (.j (EN [40,9] [2]) (.b (.t [256]) .o) .o))
instance laa:C2 ch6 Ti:=pg (ak (ak ch6.eq_1 Ti.eq_1) Xe.eq_1) (.l (EN [33,16,2,9] []) (EN [] []) [] (.z 4 (.j (EN [89,176,2,17] [0]) .o .o)) .o)
instance L1:C2 ch1 Ol:=pg (ak ch1.eq_1 Ol.eq_1) (.z 1 (.j (EN [32,2,105] []) .o .o))
instance M6:C1 cg7 Hr:=pg (ak (ak cg7.eq_1 Hr.eq_1) (ak Zq.eq_1 (ak br.eq_1 cr.eq_1))) (.l (EN [8,9,72,17,2,281] [0]) (EN [8,9] [0]) [] .o (.l (EN [8,177,8,17,2,177] [0]) (EN [8,177] [0]) [] .o (.l (EN [8,281,8,17,2,73] [0]) (EN [] []) [] .o .o)))
theorem tr{t0 r : List hO} (h : Oa t0 = M r) : e? al 115 [Ga t0] (Ga r) := by
  unfold Oa at h
  split at h
  · rename_i hl
    obtain rfl := J' h
    refine dk 7 an6 ?_
    simp only[an6,Kf.of,zs,ze]
    refine T.Vo ?_
    refine T.rg ?_
    simp only[zx, ze]
    refine T.Vo ?_
    refine T.Vo ?_
    refine T.xv (i := 0) (S := 4) (l := t0.map fb) rfl (Fr.l _) o0 p5 p5 p5 ?_
    intro b hb
    have happ : app 32 ([] : List hO) t0 = M t0 := by unfold app; rw[J a09]; simp
    cases b with
    | true =>
      have hz : t0 = [] := by
        cases t0 with
        | nil => rfl
        | cons x l => exact absurd (hb o0) o0
      subst hz
      simp only[zx, ze]
      refine T.cd rfl ?_
      refine gP.mk (λ_ => ?_) (λh => absurd rfl h)
      refine T.Vo ?_
      refine T.rg ?_
      simp only[zx, ze]
      exact T.ret <| iv aaF
    | false =>
      simp only[zx, ze]
      refine T.cd rfl ?_
      refine gP.mk (λh => by cases h) (λ_ => ?_)
      refine T.skip ?_
      simp only[zx, ze]
      refine T.Vo ?_
      refine T.rg ?_
      obtain⟨f1, f2⟩ := MD (e := fb) happ
      try simp only[zx, ze] at f1 f2
      simp only[zx, ze, f1, f2]
      exact T.ret <| iv aaF
  · cases h
theorem Ps{t0 r} (h:sb t0=M r):qG al 115 [Ga t0] 4 (r.map fb):= by
  unfold sb Oa at h
  split at h
  · rename_i hl
    obtain rfl := J' h
    refine qG.at 7 an6.ok an6.nm U!.h (Fr.l _) rfl ?_
    simp only[an6,Kf.of,zs,ze]
    refine T.Vo ?_
    refine T.rg ?_
    simp only[zx, ze]
    refine T.Vo ?_
    refine T.Vo ?_
    refine T.xv (i := 0) (S := 4) (l := t0.map fb) rfl (Fr.l _) o0 p5 p5 p5 ?_
    intro b hb
    have happ : app 32 ([] : List hO) t0 = M t0 := by unfold app; rw[J a09]; simp
    cases b with
    | true =>
      have hz : t0 = [] := by
        cases t0 with
        | nil => rfl
        | cons x l => exact absurd (hb o0) o0
      subst hz
      simp only[zx, ze]
      refine T.cd rfl ?_
      refine gP.mk (λ_ => ?_) (λh => absurd rfl h)
      refine T.Vo ?_
      refine T.rg ?_
      simp only[zx, ze]
      exact T.ret <| Tz (by simp only[zx, ze, Wz, sh, th, pf]; exact f'.q [(s5, 4, 0)] rfl p5 (by simp only[zq, ze]))
    | false =>
      simp only[zx, ze]
      refine T.cd rfl ?_
      refine gP.mk (λh => by cases h) (λ_ => ?_)
      refine T.skip ?_
      simp only[zx, ze]
      refine T.Vo ?_
      refine T.rg ?_
      obtain⟨f1, f2⟩ := MD (e := fb) happ
      try simp only[zx, ze] at f1 f2
      simp only[zx, ze, f1, f2]
      exact T.ret <| Tz aaH
  · cases h
instance aba{t0 r}:Q! (sb t0=M r) (qG al 115 [Ga t0] 4 (r.map fb)):=⟨Ps⟩
instance abb{t0 r}:o! (Oa t0=M r) (e? al 115 [Ga t0] (Ga r)):=⟨tr⟩
theorem Ij{t0}{t1:ot->Option Bool}(hc1:oa q1=true)(hp1:∀ x0 r,t1 x0=M r->e? al k1 ([Bb x0]++q1) (za r)){r} (h:Ya t0 t1=M r):e? al 123 [vb t0,.fn k1 [] q1] (da r):=by
 haveI I1:∀ x0 r,o! (t1 x0=M r) (e? al k1 ([Bb x0]++q1) (za r)):=λx0 r=>⟨hp1 x0 r⟩
 have s1:∀ f:D->D->Prop,eE f q1 q1=True:=λ_=>Jj hc1
 have z1:∀ a b n,XB a b n q1=q1:=λ_ _ _=>Dg _ _ _ _ hc1
 refine e?.at 17 bk8.ok bk8.nm (jM (D8 hc1 PJ)) rfl ?_
 simp only[bk8,Kf.of,zs,ze]
 unfold Ya at h
 exact pg Cd.eq_1 (.l (EN [33,24,9,2,81] []) (EN [] []) [] .o .o)
instance dO:C1 cd4 qd:=pg (ak cd4.eq_1 qd.eq_1) (.z 1 (.j (EN [16,2,49] []) .o .o))
instance abc:C1 cb7 Xr:=pg (ak cb7.eq_1 Xr.eq_1) (.z 1 (.j (EN [16,2,49] []) .o .o))
instance abd:C2 cb6 Md:=pg (ak cb6.eq_1 Md.eq_1) (.z 1 (.j (EN [32,2,73] []) .o .o))
instance abe:C1 cb5 Nq:=pg (ak cb5.eq_1 Nq.eq_1) .o
instance abf:C5 cb4 di:=pg (ak cb4.eq_1 di.eq_1) (.z 2 (.j (EN [9,16,2,56,10,425] []) .o (.j (EN [2,81] []) .o .o)))
instance UU:C2 ca8 wh:=pg (ak ca8.eq_1 wh.eq_1) (.z 1 (.j (EN [32,2,137] []) .o .o))
instance abg:C1 ca6 Qx:=pg (ak ca6.eq_1 Qx.eq_1) (.z 1 (.j (EN [16,2,49] []) .o .o))
instance N2:C1 ca3 pe:=pg (ak ca3.eq_1 pe.eq_1) (.z 1 (.j (EN [16,2,121] []) .o .o))
instance abh:C1 bY4 rA:=pg (ak bY4.eq_1 rA.eq_1) .o
instance abi:C1 bY1 HK:=pg (ak bY1.eq_1 HK.eq_1) (.z 1 (.j (EN [16,2,49] []) .o .o))
instance G5:C3 bX6 Lu:=pg (ak bX6.eq_1 Lu.eq_1) .o
theorem Lw{t0}{t1:te->Option Bool}(hc1:oa q1=true)(hp1:∀ x0 r,t1 x0=M r->e? al k1 ([Qv x0]++q1) (za r)){r} (h:Bc t0 t1=M r):e? al 303 [SE t0,.fn k1 [] q1] (.tup [da r.1,za r.2]):=by
 haveI I1:∀ x0 r,o! (t1 x0=M r) (e? al k1 ([Qv x0]++q1) (za r)):=λx0 r=>⟨hp1 x0 r⟩
 have s1:∀ f:D->D->Prop,eE f q1 q1=True:=λ_=>Jj hc1
 have z1:∀ a b n,XB a b n q1=q1:=λ_ _ _=>Dg _ _ _ _ hc1
 refine e?.at 18 bk5.ok bk5.nm (jM (D8 hc1 PJ)) rfl ?_
 simp only[bk5,Kf.of,zs,ze]
 unfold Bc at h
 exact pg Zb.eq_1 (.l (EN [8,25,32,17,2,73] []) (EN [] []) [] .o .o)
instance abj{t0 r}:o! (nu t0=M r) (e? al 306 [EV t0] (za r)):=⟨λh=>by
 refine dk 8 bT6 ?_
 simp only[bT6,Kf.of,zs,ze]
 unfold nu at h
 exact pg trivial (.z 1 (.j (EN [16,2,49] []) .o .o))⟩
theorem pB{t0 t1 r} (h:zi t0 t1=M r):e? al 310 [ft t0,Tx t1] (za r):=by
 refine dk 6 bT3 ?_
 simp only[bT3,Kf.of,zs,ze]
 unfold zi at h
 exact pg trivial .o
instance abk{t0 t1 r}:o! (zi t0 t1=M r) (e? al 310 [ft t0,Tx t1] (za r)):=⟨pB⟩
theorem Cy{t0 t1 r} (h:Te t0 t1=M r):e? al 314 [sf t0,px t1] (za r):=by
 refine dk 7 bT1 ?_
 simp only[bT1,Kf.of,zs,ze]
 unfold Te at h
 exact pg trivial .o
instance abl{t0 t1 r}:o! (Te t0 t1=M r) (e? al 314 [sf t0,px t1] (za r)):=⟨Cy⟩
instance abm{t0 r}:o! (Vx t0=M r) (e? al 347 [EV t0] (za r)):=⟨λh=>by
 refine dk 8 bQ1 ?_
 simp only[bQ1,Kf.of,zs,ze]
 unfold Vx at h
 exact pg trivial (.z 1 (.j (EN [16,2,49] []) .o .o))⟩
theorem vr{t0}{t1:ek->Option Bool}(hc1:oa q1=true)(hp1:∀ x0 r,t1 x0=M r->e? al k1 ([sf x0]++q1) (za r)){r} (h:zc t0 t1=M r):e? al 350 [tx t0,.fn k1 [] q1] (da r):=by
 haveI I1:∀ x0 r,o! (t1 x0=M r) (e? al k1 ([sf x0]++q1) (za r)):=λx0 r=>⟨hp1 x0 r⟩
 have s1:∀ f:D->D->Prop,eE f q1 q1=True:=λ_=>Jj hc1
 have z1:∀ a b n,XB a b n q1=q1:=λ_ _ _=>Dg _ _ _ _ hc1
 refine e?.at 17 bj5.ok bj5.nm (jM (D8 hc1 PJ)) rfl ?_
 simp only[bj5,Kf.of,zs,ze]
 unfold zc at h
 exact pg Sd.eq_1 (.l (EN [33,24,9,2,81] []) (EN [] []) [] .o .o)
theorem Az{t0 t1 r} (h:Uf t0 t1=M r):e? al 355 [Yg t0,Uz t1] (za r):=by
 refine dk 7 bP8 ?_
 simp only[bP8,Kf.of,zs,ze]
 unfold Uf at h
 exact pg trivial .o
instance abn{t0 t1 r}:o! (Uf t0 t1=M r) (e? al 355 [Yg t0,Uz t1] (za r)):=⟨Az⟩
instance oU:C2 bP5 Qs:=pg (ak (ak bP5.eq_1 Qs.eq_1) dj.eq_1) (.l (EN [33,24,9,2,81] []) (EN [] []) [] .o .o)
theorem xD{t0}(hc1:oa q1=true)(hp1:∀ x0 r,t1 x0=M r->e? al k1 ([Yg x0]++q1) (za r)){r} (h:Jg t0 t1=M r):e? al 361 [Vn t0,.fn k1 [] q1] (.tup [qa r.1,qa r.2]):=by
 haveI I1:∀ x0 r,o! (t1 x0=M r) (e? al k1 ([Yg x0]++q1) (za r)):=λx0 r=>⟨hp1 x0 r⟩
 have s1:∀ f:D->D->Prop,eE f q1 q1=True:=λ_=>Jj hc1
 have z1:∀ a b n,XB a b n q1=q1:=λ_ _ _=>Dg _ _ _ _ hc1
 refine e?.at 57 bj0.ok bj0.nm (jM (D8 hc1 PJ)) rfl ?_
 simp only[bj0,Kf.of,zs,ze]
 unfold Jg at h
 exact pg mg.eq_1 (.l (EN [8,25,16,3,11,33,24,17,26,329] [260,268,18]) (EN [48,3,11] [260,268]) [5,5,0] (.z 2 (.j (EN [8,137] [2,266,530]) (.z 2 (.j (EN [8,81,2,49] [0,8,16,24]) (.j (EN [8,137,96,2,225] [0,8,16,24]) .o .o) (.b (.t [256,260,8]) .o))) .o)) .o)
instance kY:C2 bP3 Xm:=pg (ak (ak bP3.eq_1 Xm.eq_1) Ri.eq_1) (.l (EN [8,25,88,17,2,193] []) (EN [] []) [] (.z 5 (.j (EN [8,41,72,25,80,2,105] []) .o (.b .o (.j (EN [8,33,80,105,96,2,9] []) .o .o)))) .o)
theorem Tt{t0}(hc1:oa q1=true)(hp1:∀ x0 r,t1 x0=M r->e? al k1 ([Yg x0]++q1) (za r)){r} (h:Wc t0 t1=M r):e? al 392 [Vn t0,.fn k1 [] q1] (da r):=by
 haveI I1:∀ x0 r,o! (t1 x0=M r) (e? al k1 ([Yg x0]++q1) (za r)):=λx0 r=>⟨hp1 x0 r⟩
 have s1:∀ f:D->D->Prop,eE f q1 q1=True:=λ_=>Jj hc1
 have z1:∀ a b n,XB a b n q1=q1:=λ_ _ _=>Dg _ _ _ _ hc1
 refine e?.at 17 bi8.ok bi8.nm (jM (D8 hc1 PJ)) rfl ?_
 simp only[bi8,Kf.of,zs,ze]
 unfold Wc at h
 exact pg Fe.eq_1 (.l (EN [33,24,9,2,81] []) (EN [] []) [] .o .o)
instance abo:C2 bI8 qe:=pg (ak bI8.eq_1 qe.eq_1) (.z 1 (.j (EN [32,2,97] []) .o .o))
instance abp:C2 bG4 fu:=pg (ak bG4.eq_1 fu.eq_1) (.z 5 (.j (EN [32,9,8,9,184,2,25] [8]) (.t [4]) .o))
instance abq:C1 bF8 Tj:=pg (ak bF8.eq_1 Tj.eq_1) (.z 1 (.j (EN [16,2,81] []) .o .o))
instance abr:C1 bF4 mj:=pg (ak bF4.eq_1 mj.eq_1) .o
instance abt:C1 k21 Zo:=pg (ak (ak k21.eq_1 Zo.eq_1) aA.eq_1) (.l ⟨[.k 2,.p 4,.k 7,.p 2,.i 1,.p 11],[.o 1,.h 2 [.g [.p 6,.i 0,.p 1]]]⟩ ⟨[.k 2,.p 4],[.o 1,.h 2 [.g [.p 6,.i 0,.p 1]]]⟩ [4,8] .o .o)
theorem pQ{t0 r} (h:Zo t0=M r):Ou al 21 [.agg [da t0.Id,da t0.ai,da t0.s,.own 0 0]] [(9,t0.aa.map Kd)] (nk r):=by
 refine Ou.of 26 k21 ?_ aaI
 simp only[k21,Kf.of,zs,ze,cz,D?,R?,G!,M!,M?]
 unfold Zo at h
 exact pg aA.eq_1 (.l ⟨[.k 2,.p 4,.k 7,.p 2,.i 1,.p 11],[.O 0,.o 2,.h 3 [.g [.p 6,.i 0,.p 1]]]⟩ ⟨[.k 2,.p 4],[.O 0,.o 2,.h 3 [.g [.p 6,.i 0,.p 1]]]⟩ [0,8,12] .o .o)
instance abu{t0 r}:Q! (Zo t0=M r) (Ou al 21 [.agg [da t0.Id,da t0.ai,da t0.s,.own 0 0]] [(9,t0.aa.map Kd)] (nk r)):=⟨pQ⟩
instance abv:C1 k35 Eu:=pg (ak (ak k35.eq_1 Eu.eq_1) (ak Zm.eq_1 (ak bn.eq_1 (ak cn.eq_1 fk.eq_1)))) (.z 2 (.j (EN [8,9,176,2,817] [0]) .o (.l (EN [8,33,2,145] [0]) (EN [8,33] [0]) [] (.z 4 (.j (EN [8,193,192,2,617] [0]) .o (.l (EN [8,41,2,337] [0]) (EN [8,41] [0]) [] .o .o))) (.l (EN [8,17,2,25,10,953] [0]) (EN [8,17,8,25] [0]) [] (.z 4 (.j (EN [8,569,216,2,217] [0]) .o .o)) (.l (EN [8,25,2,25,10,945] [0]) (EN [] []) [] (.z 4 (.j (EN [8,793,208,2] [0]) .o .o)) .o)))))
instance abw:C2 k52 Sj:=pg (ak (ak k52.eq_1 Sj.eq_1) Vg.eq_1) (.l (EN [8,25,8,3,49,10,169] [772]) (EN [40,3,33] [772]) [13] (.z 4 (.j ⟨[.k 1,.p 12],[.o 0,.h 1 [.g [.p 1,.i 0,.i 1]]]⟩ .o (.t [256]))) .o)
theorem CP{t0 t1 r} (h:Sj t0 t1=M r):Ou al 52 [Dd t0,.own 0 0] [(7,t1.map ef)] (Dd r):=by
 refine Ou.of 32 k52 ?_ aaI
 simp only[k52,Kf.of,zs,ze,cz,D?,R?,G!,M!,M?]
 unfold Sj at h
 exact pg Vg.eq_1 (.l (EN [8,25,8,11,49,10,169] [1,772]) (EN [40,11,33] [1,772]) [0,13] (.z 4 (.j ⟨[.k 1,.p 12],[.O 0,.o 1,.h 2 [.g [.p 1,.i 0,.i 1]]]⟩ .o (.t [0,260]))) .o)
instance abx{t0 t1 r}:Q! (Sj t0 t1=M r) (Ou al 52 [Dd t0,.own 0 0] [(7,t1.map ef)] (Dd r)):=⟨CP⟩
instance O9:C3 k97 Hk:=pg (ak k97.eq_1 Hk.eq_1) (.z 6 (.j (EN [49,112,2,145] []) .o .o))
instance aby:C1 cg8 Mv:=pg (ak cg8.eq_1 Mv.eq_1) (.z 2 (.j (EN [8,9,88,2,329] [0]) .o (.z 1 (.j (EN [8,97,120,2,209] [0]) .o (.z 1 (.j (EN [8,217,64,2,145] [0]) .o (.b .o (.j (EN [16,2,265] []) .o .o))))))))
instance rV:C2 cf9 fc:=pg (ak cf9.eq_1 fc.eq_1) (.z 1 (.j (EN [32,2,113] []) .o .o))
instance B8:C1 cd6 eo:=pg (ak cd6.eq_1 eo.eq_1) (.z 1 (.j (EN [16,2,73] []) .o .o))
instance abz:C1 cc8 Av:=pg (ak (ak cc8.eq_1 Av.eq_1) dw.eq_1) (.z 2 (.j (EN [8,9,120,2,257] [0]) .o (.l (EN [8,17,2,105] [0]) (EN [] []) [] (.z 3 (.j (EN [8,137,248,2] [0]) .o .o)) .o)))
instance XX:C1 bY7 Jd:=pg (ak bY7.eq_1 Jd.eq_1) (.z 1 (.j (EN [16,2,73] []) .o .o))
instance uZ:C1 bT5 qo:=pg (ak (ak bT5.eq_1 qo.eq_1) Qe.eq_1) (.l (EN [17,8,2,201] []) (EN [24,2,201] []) [] (.z 1 (.j (EN [201,2,25] []) .o .o)) .o)
theorem Tp{t0}{t1:ek->Option Bool}(hc1:oa q1=true)(hp1:∀ x0 r,t1 x0=M r->e? al k1 ([sf x0]++q1) (za r)){r} (h:ob t0 t1=M r):e? al 313 [tx t0,.fn k1 [] q1] (za r):=by
 haveI I1:∀ x0 r,o! (t1 x0=M r) (e? al k1 ([sf x0]++q1) (za r)):=λx0 r=>⟨hp1 x0 r⟩
 have s1:∀ f:D->D->Prop,eE f q1 q1=True:=λ_=>Jj hc1
 have z1:∀ a b n,XB a b n q1=q1:=λ_ _ _=>Dg _ _ _ _ hc1
 haveI:∀ y0 r,o! (zc y0 t1=M r) (e? al 350 [tx y0,.fn k1 [] q1] (da r)):=λy0 r=>⟨vr hc1 hp1⟩
 refine e?.at 7 bk2.ok bk2.nm (jM (D8 hc1 PJ)) rfl ?_
 simp only[bk2,Kf.of,zs,ze]
 unfold ob at h
 exact pg trivial .o
instance jQ:C2 bS7 cg:=pg (ak bS7.eq_1 cg.eq_1) .o
theorem Xq{t0}(hc1:oa q1=true)(hp1:∀ x0 r,t1 x0=M r->e? al k1 ([Yg x0]++q1) (za r)){r} (h:Ab t0 t1=M r):e? al 354 [Vn t0,.fn k1 [] q1] (za r):=by
 haveI I1:∀ x0 r,o! (t1 x0=M r) (e? al k1 ([Yg x0]++q1) (za r)):=λx0 r=>⟨hp1 x0 r⟩
 have s1:∀ f:D->D->Prop,eE f q1 q1=True:=λ_=>Jj hc1
 have z1:∀ a b n,XB a b n q1=q1:=λ_ _ _=>Dg _ _ _ _ hc1
 haveI:∀ y0 r,o! (Wc y0 t1=M r) (e? al 392 [Vn y0,.fn k1 [] q1] (da r)):=λy0 r=>⟨Tt hc1 hp1⟩
 refine e?.at 7 bj3.ok bj3.nm (jM (D8 hc1 PJ)) rfl ?_
 simp only[bj3,Kf.of,zs,ze]
 unfold Ab at h
 exact pg trivial .o
instance V3:C1 bP7 iq:=pg (ak (ak bP7.eq_1 iq.eq_1) Dk.eq_1) (.z 2 (.j (EN [17,64,2,129] []) .o (.l (EN [81,16,9,2,105] []) (EN [] []) [] (.z 4 (.j (EN [25,72,17,88,2,9] []) .o .o)) .o)))
instance aca:C4 bM7 bw:=pg (ak bM7.eq_1 bw.eq_1) (.z 6 (.j (EN [65,176,2,385] []) .o (.z 2 (.j (EN [241,128,2,257] []) .o .o))))
instance MV:C2 bJ1 Sc:=pg (ak bJ1.eq_1 Sc.eq_1) (.b .o (.b (.j (EN [32,2] []) .o .o) (.b (.j (EN [32,2] []) .o .o) .o)))
instance ZX:C2 bJ0 Pa:=pg (ak bJ0.eq_1 Pa.eq_1) .o
instance LV:C3 bI9 Aa:=pg (ak bI9.eq_1 Aa.eq_1) (.z 3 (.j (EN [32,17,8,9,2,1001] [0,8]) .o (.b (.j (EN [48,2] []) .o .o) (.b (.j (EN [48,2] []) .o .o) (.b (.j (EN [48,2] []) .o .o) (.b (.z 2 (.j (EN [48,2] []) .o .o)) (.b (.j (EN [48,2] []) .o .o) (.j (EN [32,33,576,2,425] [0,8]) .o (.b (.j (EN [48,2] []) .o .o) (.j (EN [32,609,144,2,281] [0,8]) .o (.b .o (.j (EN [32,753,48,2,233] [0,8]) .o (.b (.j (EN [48,2] []) .o .o) (.j (EN [32,25,864,2,145] [0,8]) .o (.j (EN [48,2,865] []) .o .o)))))))))))))))
instance acb:C3 bE0 vu:=pg (ak (ak bE0.eq_1 vu.eq_1) (ak Ao.eq_1 Bo.eq_1)) (.l (EN [2,10,33] []) (EN [2,10,33] []) [] .o (.l (EN [2,10,265] []) (EN [2,10,265] []) [] .o .o))
instance acd:C3 bD6 su:=pg (ak bD6.eq_1 su.eq_1) (.z 6 (.j (EN [49,112,2,145] []) .o .o))
end Go.Proofs.Dev
