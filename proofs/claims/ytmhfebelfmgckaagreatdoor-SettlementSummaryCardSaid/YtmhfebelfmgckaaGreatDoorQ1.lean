/-
  Contracts of the functions: each answers as its plain partial function says.
-/
import Derived.Test.YtmhfebelfmgckaaGreatDoorG
import Derived.Test.YtmhfebelfmgckaaGreatDoorH1
import Derived.Test.YtmhfebelfmgckaaGreatDoorH2
import Derived.Test.YtmhfebelfmgckaaGreatDoorL1
open Option renaming some->M,none->q6
open And renaming intro->ak
open Go.Proofs.Tryz renaming prog->al
open Option.some renaming inj->J!
set_option linter.all false
set_option maxHeartbeats 1000000
set_option maxRecDepth 10000
namespace Go.Proofs.Dev
open Go Go.Tm
variable {t1:ml->Option Bool}{k1:Nat}{q1:List D}
instance ZT:C1 k22 Jn:=pg (ak k22.eq_1 Jn.eq_1) .o
instance aav:C1 k29 Sv:=pg (ak (ak k29.eq_1 Sv.eq_1) Tp.eq_1) (.l (EN [17,8,2,161] []) (EN [] []) [] (.z 3 (.j (EN [33,152,2] []) .o .o)) .o)
instance HZ:C1 k36 Jt:=pg (ak k36.eq_1 Jt.eq_1) .o
instance aaw{t0 r}:o! (Ez t0=M r) (AM al 37 [] [] 2 (t0.map Oi) (Kv r)):=⟨λh=>by
 refine AM.at 21 k37.ok k37.nm QK QK (Fr.l _) rfl ?_
 simp only[k37,Kf.of,zs,ze]
 unfold Ez at h
 exact pg trivial .o⟩
theorem Bv{t0 r : List kv} (h : Sa t0 = M r) : e? al 69 [Uj t0] (Uj r) := by
  unfold Sa at h
  split at h
  · rename_i hl
    obtain rfl := J! h
    refine dk 7 k69 ?_
    simp only[k69,Kf.of,zs,ze]
    refine T.No ?_
    refine T.rg ?_
    simp only[zx, ze]
    refine T.No ?_
    refine T.No ?_
    refine T.rv (i := 0) (S := 9) (l := t0.map ue) rfl (Fr.l _) l5 o4 o4 o4 ?_
    intro b hb
    have happ : app 72 ([] : List kv) t0 = M t0 := by unfold app; rw[J a08]; simp
    cases b with
    | true =>
      have hz : t0 = [] := by
        cases t0 with
        | nil => rfl
        | cons x l => exact absurd (hb l5) l5
      subst hz
      simp only[zx, ze]
      refine T.cd rfl ?_
      refine gP.mk (λ_ => ?_) (λh => absurd rfl h)
      refine T.No ?_
      refine T.rg ?_
      simp only[zx, ze]
      exact T.ret <| Vu aaE
    | false =>
      simp only[zx, ze]
      refine T.cd rfl ?_
      refine gP.mk (λh => by cases h) (λ_ => ?_)
      refine T.skip ?_
      simp only[zx, ze]
      refine T.No ?_
      refine T.rg ?_
      obtain⟨f1, f2⟩ := tD (e := ue) happ
      try simp only[zx, ze] at f1 f2
      simp only[zx, ze, f1, f2]
      exact T.ret <| Vu aaE
  · cases h
theorem Ew{t0 r} (h:Ld t0=M r):PF al 69 [Uj t0] 9 (r.map ue):= by
  unfold Ld Sa at h
  split at h
  · rename_i hl
    obtain rfl := J! h
    refine PF.at 7 k69.ok k69.nm V?.h (Fr.l _) rfl ?_
    simp only[k69,Kf.of,zs,ze]
    refine T.No ?_
    refine T.rg ?_
    simp only[zx, ze]
    refine T.No ?_
    refine T.No ?_
    refine T.rv (i := 0) (S := 9) (l := t0.map ue) rfl (Fr.l _) l5 o4 o4 o4 ?_
    intro b hb
    have happ : app 72 ([] : List kv) t0 = M t0 := by unfold app; rw[J a08]; simp
    cases b with
    | true =>
      have hz : t0 = [] := by
        cases t0 with
        | nil => rfl
        | cons x l => exact absurd (hb l5) l5
      subst hz
      simp only[zx, ze]
      refine T.cd rfl ?_
      refine gP.mk (λ_ => ?_) (λh => absurd rfl h)
      refine T.No ?_
      refine T.rg ?_
      simp only[zx, ze]
      exact T.ret <| Hz (by simp only[zx, ze, Kz, kh, lh, lf]; exact f'.q [(q6, 9, 0)] rfl o4 (by simp only[zq, ze]))
    | false =>
      simp only[zx, ze]
      refine T.cd rfl ?_
      refine gP.mk (λh => by cases h) (λ_ => ?_)
      refine T.skip ?_
      simp only[zx, ze]
      refine T.No ?_
      refine T.rg ?_
      obtain⟨f1, f2⟩ := tD (e := ue) happ
      try simp only[zx, ze] at f1 f2
      simp only[zx, ze, f1, f2]
      exact T.ret <| Hz aaG
  · cases h
instance aax{t0 r}:T? (Ld t0=M r) (PF al 69 [Uj t0] 9 (r.map ue)):=⟨Ew⟩
theorem Dw{t0 r} (h:Sa t0=M r):Ly al 69 [.own 0 0] [(9,t0.map ue)] (Uj r):= by
  unfold Sa at h
  split at h
  · rename_i hl
    obtain rfl := J! h
    refine Ly.of 7 k69 ?_ (by simp[Fr.l])
    simp only[k69,Kf.of,zs,ze,Sz,List.map_cons,List.map_nil,List.length_cons,List.length_nil,Nat.reduceAdd]
    have happ : app 72 ([] : List kv) t0 = M t0 := by unfold app; rw[J a08]; simp
    refine T.No ?_
    refine T.rg ?_
    simp only[zx, ze]
    refine T.No ?_
    refine T.No ?_
    cases t0 with
    | nil =>
      refine T.nilown (i := 0) rfl rfl ?_
      simp only[zx, ze]
      refine T.rv (i := 0) (S := 9) (l := []) rfl rfl l5 o4 o4 o4 ?_
      intro b hb
      cases b with
      | true =>
        simp only[zx, ze]
        refine T.cd rfl ?_
        refine gP.mk (λ_ => ?_) (λh => absurd rfl h)
        refine T.No ?_
        refine T.rg ?_
        simp only[zx, ze]
        exact T.ret <| BM aaI
      | false =>
        simp only[zx, ze]
        refine T.cd rfl ?_
        refine gP.mk (λh => by cases h) (λ_ => ?_)
        refine T.skip ?_
        simp only[zx, ze]
        refine T.No ?_
        refine T.rg ?_
        obtain⟨f1, f2⟩ := tD (e := ue) happ
        try simp only[zx, ze] at f1 f2
        simp only[zx, ze, f1, f2]
        exact T.ret <| BM aaI
    | cons x l =>
      refine T.rg ?_
      simp only[zx, ze]
      refine T.cd rfl ?_
      refine gP.mk (λh => by cases h) (λ_ => ?_)
      refine T.skip ?_
      simp only[zx, ze]
      refine T.No ?_
      refine T.rg ?_
      obtain⟨f1, f2⟩ := tD (e := ue) happ
      try simp only[zx, ze] at f1 f2
      simp only[zx, ze, f1, f2]
      exact T.ret <| BM (by simp only[zx, ze, kh, lh, lf]; rw[Jz]; exact f'.q [(M 0, 0, 0)] rfl o4 (by simp only[zx, zq, ze]; exact⟨.inl (Fr.l (e := ue) (x :: l)), .inl (Fr.l (e := ue) (x :: l))⟩))
  · cases h
instance aay{t0 r}:T? (Sa t0=M r) (Ly al 69 [.own 0 0] [(9,t0.map ue)] (Uj r)):=⟨Dw⟩
instance aaz{t0 r}:o! (Sa t0=M r) (e? al 69 [Uj t0] (Uj r)):=⟨Bv⟩
instance aba:C2 k70 Pj:=pg (ak k70.eq_1 Pj.eq_1) (.z 1 (.j (EN [32,2,129] []) .o .o))
instance abb:C1 k77 qv:=pg (ak k77.eq_1 qv.eq_1) (.z 1 (.j (EN [16,2,49] []) .o .o))
theorem ir{t0 r : List ic} (h : yb t0 = M r) : e? al 115 [Ha t0] (Ha r) := by
  unfold yb at h
  split at h
  · rename_i hl
    obtain rfl := J! h
    refine dk 7 an4 ?_
    simp only[an4,Kf.of,zs,ze]
    refine T.No ?_
    refine T.rg ?_
    simp only[zx, ze]
    refine T.No ?_
    refine T.No ?_
    refine T.rv (i := 0) (S := 4) (l := t0.map ab) rfl (Fr.l _) l5 o4 o4 o4 ?_
    intro b hb
    have happ : app 32 ([] : List ic) t0 = M t0 := by unfold app; rw[J a08]; simp
    cases b with
    | true =>
      have hz : t0 = [] := by
        cases t0 with
        | nil => rfl
        | cons x l => exact absurd (hb l5) l5
      subst hz
      simp only[zx, ze]
      refine T.cd rfl ?_
      refine gP.mk (λ_ => ?_) (λh => absurd rfl h)
      refine T.No ?_
      refine T.rg ?_
      simp only[zx, ze]
      exact T.ret <| Vu aaE
    | false =>
      simp only[zx, ze]
      refine T.cd rfl ?_
      refine gP.mk (λh => by cases h) (λ_ => ?_)
      refine T.skip ?_
      simp only[zx, ze]
      refine T.No ?_
      refine T.rg ?_
      obtain⟨f1, f2⟩ := tD (e := ab) happ
      try simp only[zx, ze] at f1 f2
      simp only[zx, ze, f1, f2]
      exact T.ret <| Vu aaE
  · cases h
theorem Is{t0 r} (h:Wb t0=M r):PF al 115 [Ha t0] 4 (r.map ab):= by
  unfold Wb yb at h
  split at h
  · rename_i hl
    obtain rfl := J! h
    refine PF.at 7 an4.ok an4.nm V?.h (Fr.l _) rfl ?_
    simp only[an4,Kf.of,zs,ze]
    refine T.No ?_
    refine T.rg ?_
    simp only[zx, ze]
    refine T.No ?_
    refine T.No ?_
    refine T.rv (i := 0) (S := 4) (l := t0.map ab) rfl (Fr.l _) l5 o4 o4 o4 ?_
    intro b hb
    have happ : app 32 ([] : List ic) t0 = M t0 := by unfold app; rw[J a08]; simp
    cases b with
    | true =>
      have hz : t0 = [] := by
        cases t0 with
        | nil => rfl
        | cons x l => exact absurd (hb l5) l5
      subst hz
      simp only[zx, ze]
      refine T.cd rfl ?_
      refine gP.mk (λ_ => ?_) (λh => absurd rfl h)
      refine T.No ?_
      refine T.rg ?_
      simp only[zx, ze]
      exact T.ret <| Hz (by simp only[zx, ze, Kz, kh, lh, lf]; exact f'.q [(q6, 4, 0)] rfl o4 (by simp only[zq, ze]))
    | false =>
      simp only[zx, ze]
      refine T.cd rfl ?_
      refine gP.mk (λh => by cases h) (λ_ => ?_)
      refine T.skip ?_
      simp only[zx, ze]
      refine T.No ?_
      refine T.rg ?_
      obtain⟨f1, f2⟩ := tD (e := ab) happ
      try simp only[zx, ze] at f1 f2
      simp only[zx, ze, f1, f2]
      exact T.ret <| Hz aaG
  · cases h
instance abc{t0 r}:T? (Wb t0=M r) (PF al 115 [Ha t0] 4 (r.map ab)):=⟨Is⟩
instance abd{t0 r}:o! (yb t0=M r) (e? al 115 [Ha t0] (Ha r)):=⟨ir⟩
theorem Kt{t0 r : List po} (h : Mb t0 = M r) : e? al 116 [Ro t0] (Ro r) := by
  unfold Mb at h
  split at h
  · rename_i hl
    obtain rfl := J! h
    refine dk 7 an3 ?_
    simp only[an3,Kf.of,zs,ze]
    refine T.No ?_
    refine T.rg ?_
    simp only[zx, ze]
    refine T.No ?_
    refine T.No ?_
    refine T.rv (i := 0) (S := 7) (l := t0.map Eg) rfl (Fr.l _) l5 o4 o4 o4 ?_
    intro b hb
    have happ : app 56 ([] : List po) t0 = M t0 := by unfold app; rw[J a08]; simp
    cases b with
    | true =>
      have hz : t0 = [] := by
        cases t0 with
        | nil => rfl
        | cons x l => exact absurd (hb l5) l5
      subst hz
      simp only[zx, ze]
      refine T.cd rfl ?_
      refine gP.mk (λ_ => ?_) (λh => absurd rfl h)
      refine T.No ?_
      refine T.rg ?_
      simp only[zx, ze]
      exact T.ret <| Vu aaE
    | false =>
      simp only[zx, ze]
      refine T.cd rfl ?_
      refine gP.mk (λh => by cases h) (λ_ => ?_)
      refine T.skip ?_
      simp only[zx, ze]
      refine T.No ?_
      refine T.rg ?_
      obtain⟨f1, f2⟩ := tD (e := Eg) happ
      try simp only[zx, ze] at f1 f2
      simp only[zx, ze, f1, f2]
      exact T.ret <| Vu aaE
  · cases h
theorem Ut{t0 r} (h:nc t0=M r):PF al 116 [Ro t0] 7 (r.map Eg):= by
  unfold nc Mb at h
  split at h
  · rename_i hl
    obtain rfl := J! h
    refine PF.at 7 an3.ok an3.nm V?.h (Fr.l _) rfl ?_
    simp only[an3,Kf.of,zs,ze]
    refine T.No ?_
    refine T.rg ?_
    simp only[zx, ze]
    refine T.No ?_
    refine T.No ?_
    refine T.rv (i := 0) (S := 7) (l := t0.map Eg) rfl (Fr.l _) l5 o4 o4 o4 ?_
    intro b hb
    have happ : app 56 ([] : List po) t0 = M t0 := by unfold app; rw[J a08]; simp
    cases b with
    | true =>
      have hz : t0 = [] := by
        cases t0 with
        | nil => rfl
        | cons x l => exact absurd (hb l5) l5
      subst hz
      simp only[zx, ze]
      refine T.cd rfl ?_
      refine gP.mk (λ_ => ?_) (λh => absurd rfl h)
      refine T.No ?_
      refine T.rg ?_
      simp only[zx, ze]
      exact T.ret <| Hz (by simp only[zx, ze, Kz, kh, lh, lf]; exact f'.q [(q6, 7, 0)] rfl o4 (by simp only[zq, ze]))
    | false =>
      simp only[zx, ze]
      refine T.cd rfl ?_
      refine gP.mk (λh => by cases h) (λ_ => ?_)
      refine T.skip ?_
      simp only[zx, ze]
      refine T.No ?_
      refine T.rg ?_
      obtain⟨f1, f2⟩ := tD (e := Eg) happ
      try simp only[zx, ze] at f1 f2
      simp only[zx, ze, f1, f2]
      exact T.ret <| Hz aaG
  · cases h
instance abe{t0 r}:T? (nc t0=M r) (PF al 116 [Ro t0] 7 (r.map Eg)):=⟨Ut⟩
instance abf{t0 r}:o! (Mb t0=M r) (e? al 116 [Ro t0] (Ro r)):=⟨Kt⟩
instance QT:C1 cf2 Me:=pg (ak cf2.eq_1 Me.eq_1) .o
instance K0:C1 cf1 Xi:=pg (ak cf1.eq_1 Xi.eq_1) .o
instance abg:C3 cb7 jg:=pg (ak cb7.eq_1 jg.eq_1) (.z 1 (.j (EN [48,2,65] []) .o .o))
instance Q9:C2 cb3 Jo:=pg (ak (ak cb3.eq_1 Jo.eq_1) Mm.eq_1) (.l (EN [33,8,2,97] []) (EN [] []) [] .o .o)
instance abh:C1 ca0 Wf:=pg (ak ca0.eq_1 Wf.eq_1) (.z 1 (.j (EN [16,2,121] []) .o .o))
instance abi:C2 bZ7 Cz:=pg (ak bZ7.eq_1 Cz.eq_1) (.z 1 (.j (EN [32,2,81] []) .o .o))
instance qU:C2 bZ6 Xj:=pg (ak bZ6.eq_1 Xj.eq_1) (.z 1 (.j (EN [32,2,137] []) .o .o))
instance Y0:C1 bZ5 ie:=pg (ak bZ5.eq_1 ie.eq_1) (.z 1 (.j (EN [16,2,121] []) .o .o))
instance abj:C1 bY0 A?:=pg (ak bY0.eq_1 A?.eq_1) .o
instance abk{t0 r}:o! (eu t0=M r) (e? al 306 [ZU t0] (za r)):=⟨λh=>by
 refine dk 8 bT1 ?_
 simp only[bT1,Kf.of,zs,ze]
 unfold eu at h
 exact pg trivial (.z 1 (.j (EN [16,2,49] []) .o .o))⟩
theorem YA{t0 t1 r} (h:ki t0 t1=M r):e? al 310 [Vs t0,Hx t1] (za r):=by
 refine dk 6 bS8 ?_
 simp only[bS8,Kf.of,zs,ze]
 unfold ki at h
 exact pg trivial .o
instance abl{t0 t1 r}:o! (ki t0 t1=M r) (e? al 310 [Vs t0,Hx t1] (za r)):=⟨YA⟩
instance abm:C2 bQ5 zp:=pg (ak (ak bQ5.eq_1 zp.eq_1) dq.eq_1) (.l (EN [33,8,3,10,18,321] [260]) (EN [8,25,8,3,10] [260]) [5] (.z 3 (.j (EN [49,10,9] [2]) (.j (EN [65,120,2,193] [0]) .o (.j (EN [49,8,129] [2]) (.b (.t [256]) .o) .o)) (.t [256]))) (.j (EN [40,9] [2]) (.b (.t [256]) .o) .o))
instance abn{t0 r}:o! (Lx t0=M r) (e? al 347 [ZU t0] (za r)):=⟨λh=>by
 refine dk 8 bP6 ?_
 simp only[bP6,Kf.of,zs,ze]
 unfold Lx at h
 exact pg trivial (.z 1 (.j (EN [16,2,49] []) .o .o))⟩
theorem my{t0 t1 r} (h:Gd t0 t1=M r):e? al 351 [nf t0,Xw t1] (za r):=by
 refine dk 7 bP5 ?_
 simp only[bP5,Kf.of,zs,ze]
 unfold Gd at h
 exact pg trivial .o
instance abo{t0 t1 r}:o! (Gd t0 t1=M r) (e? al 351 [nf t0,Xw t1] (za r)):=⟨my⟩
instance E8:C1 bP4 rk:=pg (ak (ak bP4.eq_1 rk.eq_1) rm.eq_1) (.l (EN [24,3,33,10,81] [516]) (EN [24,3,17] [516]) [9] (.b (.t [256]) .o) .o)
instance HX:C2 bO8 Qm:=pg (ak (ak bO8.eq_1 Qm.eq_1) Gi.eq_1) (.l (EN [8,25,88,17,2,193] []) (EN [] []) [] (.z 5 (.j (EN [8,41,72,25,80,2,105] []) .o (.b .o (.j (EN [8,33,80,105,96,2,9] []) .o .o)))) .o)
instance B9:C0 bN9 oi:=pg (ak bN9.eq_1 oi.eq_1) .o
instance J9:C2 bN0 ts:=pg (ak (ak bN0.eq_1 ts.eq_1) zm.eq_1) (.l (EN [33,8,2] []) (EN [] []) [] (.z 4 (.j (EN [113,144,2,97] []) .o (.b .o (.j (EN [257,96,2] []) .o .o)))) .o)
theorem jr{t0}(hc1:oa q1=true)(hp1:∀ x0 r,t1 x0=M r->e? al k1 ([nf x0]++q1) (za r)){r} (h:pc t0 t1=M r):e? al 391 [ax t0,.fn k1 [] q1] (da r):=by
 haveI I1:∀ x0 r,o! (t1 x0=M r) (e? al k1 ([nf x0]++q1) (za r)):=λx0 r=>⟨hp1 x0 r⟩
 have s1:∀ f:D->D->Prop,YD f q1 q1=True:=λ_=>Yk hc1
 have z1:∀ a b n,JB a b n q1=q1:=λ_ _ _=>mh _ _ _ _ hc1
 refine e?.at 17 bi4.ok bi4.nm (IN (frF hc1 QK)) rfl ?_
 simp only[bi4,Kf.of,zs,ze]
 unfold pc at h
 exact pg Nd.eq_1 (.l (EN [33,24,9,2,81] []) (EN [] []) [] .o .o)
instance abp:C1 bL5 cn:=pg (ak bL5.eq_1 cn.eq_1) (.z 3 (.j (EN [24,9,2,337] []) .o (.b .o (.j (EN [24,9,120,2,217] []) .o (.b .o (.j (EN [24,129,56,2,161] []) .o .o))))))
instance abq:C1 bJ0 Jr:=pg (ak bJ0.eq_1 Jr.eq_1) (.z 3 (.j (EN [32,2,137] []) .o .o))
instance abr:C2 bH3 qu:=pg (ak bH3.eq_1 qu.eq_1) (.b .o (.b (.j (EN [32,2] []) .o .o) (.b (.j (EN [32,2] []) .o .o) .o)))
instance abt:C2 bB7 xg:=pg (ak bB7.eq_1 xg.eq_1) (.z 1 (.j (EN [32,2,73] []) .o .o))
instance abu:C2 bB6 tv:=pg (ak bB6.eq_1 tv.eq_1) .o
instance abv:C4 bB5 Fq:=pg (ak bB5.eq_1 Fq.eq_1) (.b .o (.j (EN [65,8,2] []) .o (.j (EN [9,64,2,449] []) (.j (EN [289,2,233] []) .o .o) .o)))
instance JX:C1 k48 cr:=pg (ak k48.eq_1 cr.eq_1) (.z 1 (.j (EN [16,2,121] []) .o .o))
instance D6:C1 k72 Zh:=pg (ak (ak k72.eq_1 Zh.eq_1) Mi.eq_1) (.l (EN [32,2,10,33,18,113] []) (EN [32,2,10,17] []) [] .o .o)
instance abw:C3 k94 uw:=pg (ak (ak k94.eq_1 uw.eq_1) Hu.eq_1) (.l (EN [8,41,8,11,10,18] [0,516]) (EN [24,25,8,11,10] [0,516]) [0,9] (.z 2 (.j (EN [8,57,10,49] [0,258]) (.j (EN [8,113,104,2,113] [0,8]) .o (.b (.t [0,260]) .o)) .o)) .o)
instance O9:C1 k99 Qk:=pg (ak k99.eq_1 Qk.eq_1) (.z 1 (.j (EN [16,2,73] []) .o .o))
instance abx:C2 cf8 vu:=pg (ak (ak cf8.eq_1 vu.eq_1) Ht.eq_1) (.l (EN [33,16,2] []) (EN [] []) [] (.z 3 (.j (EN [81,136,2,41] []) .o .o)) .o)
instance aby:C1 cf4 Hv:=pg (ak cf4.eq_1 Hv.eq_1) (.z 2 (.j (EN [8,9,88,2,329] [0]) .o (.z 1 (.j (EN [8,97,120,2,209] [0]) .o (.z 1 (.j (EN [8,217,64,2,145] [0]) .o (.b .o (.j (EN [16,2,265] []) .o .o))))))))
instance MU:C2 ce7 bc:=pg (ak ce7.eq_1 bc.eq_1) (.z 1 (.j (EN [32,2,113] []) .o .o))
instance abz:C2 cc6 B?:=pg (ak cc6.eq_1 B?.eq_1) (.z 1 (.j (EN [32,2,97] []) .o .o))
instance V7:C1 cc4 Wn:=pg (ak cc4.eq_1 Wn.eq_1) (.z 1 (.j (EN [16,2,73] []) .o .o))
instance A9:C1 bZ9 Tr:=pg (ak bZ9.eq_1 Tr.eq_1) (.z 1 (.j (EN [16,2,73] []) .o .o))
instance tX:C1 bX9 Dd:=pg (ak bX9.eq_1 Dd.eq_1) (.z 1 (.j (EN [16,2,73] []) .o .o))
instance w9:C2 bU4 yg:=pg (ak bU4.eq_1 yg.eq_1) (.z 1 (.j (EN [32,2,113] []) .o .o))
instance oZ:C1 bT9 Xf:=pg (ak (ak bT9.eq_1 Xf.eq_1) zj.eq_1) (.l (EN [17,24,2,10,18,26,369] []) (EN [40,2,10,18] []) [] (.z 2 (.j (EN [41,2,10,18,17] []) (.z 1 (.j (EN [41,2,33] []) .o (.j (EN [49,2,385] []) .o (.j (EN [73,280,2,81] []) .o .o)))) .o)) .o)
instance SY:C1 bT0 jo:=pg (ak (ak bT0.eq_1 jo.eq_1) Oe.eq_1) (.l (EN [17,8,2,201] []) (EN [24,2,201] []) [] (.z 1 (.j (EN [201,2,25] []) .o .o)) .o)
instance VT:C2 bR9 Hg:=pg (ak bR9.eq_1 Hg.eq_1) (.z 3 (.j ⟨[.k 4,.p 1,.k 1,.p 1],[.o 1,.h 3 [.g [.p 4,.i 0,.i 1]]]⟩ (.j (EN [16,41,208,2,89] [0,8,16,24]) .o (.t [4,12])) .o))
theorem Ip{t0}(hc1:oa q1=true)(hp1:∀ x0 r,t1 x0=M r->e? al k1 ([nf x0]++q1) (za r)){r} (h:Pa t0 t1=M r):e? al 352 [ax t0,.fn k1 [] q1] (za r):=by
 haveI I1:∀ x0 r,o! (t1 x0=M r) (e? al k1 ([nf x0]++q1) (za r)):=λx0 r=>⟨hp1 x0 r⟩
 have s1:∀ f:D->D->Prop,YD f q1 q1=True:=λ_=>Yk hc1
 have z1:∀ a b n,JB a b n q1=q1:=λ_ _ _=>mh _ _ _ _ hc1
 haveI:∀ y0 r,o! (pc y0 t1=M r) (e? al 391 [ax y0,.fn k1 [] q1] (da r)):=λy0 r=>⟨jr hc1 hp1⟩
 refine e?.at 7 bi9.ok bi9.nm (IN (frF hc1 QK)) rfl ?_
 simp only[bi9,Kf.of,zs,ze]
 unfold Pa at h
 exact pg trivial .o
instance R7:C1 bO5 Un:=pg (ak (ak bO5.eq_1 Un.eq_1) Zl.eq_1) (.l (EN [17,24,9,11,25,72,17,18,433] [2,268]) (EN [17,24,9,11,25] [2,268]) [0,5] (.z 10 (.j (EN [65,8,105] [2,8]) .o (.a [[],[],[],[],[],[],[],[],[5],[5],[]] (.b .o (.t [0,516]))))) .o)
instance BP:C2 bO4 Of:=pg (ak (ak bO4.eq_1 Of.eq_1) fk.eq_1) (.l (EN [16,17,8,9,10,18] [0,258]) (EN [40,9] [258]) [] (.b .o (.t [4])) .o)
instance O1:C1 bL3 Sp:=pg (ak bL3.eq_1 Sp.eq_1) (.z 2 (.j (EN [8,9,120,2,241] [0]) .o (.z 2 (.j (EN [8,129,16,9,2,217] [0]) .o (.b (.j (EN [16,2,129] []) .o .o) (.b (.j (EN [16,2,129] []) .o .o) .o))))))
instance I4:C2 bK6 Eu:=pg (ak bK6.eq_1 Eu.eq_1) (.z 2 (.j (EN [16,25,72,2,153] [0,8,16]) .o .o))
instance aca:C3 bD3 wC:=pg (ak bD3.eq_1 wC.eq_1) (.z 2 (.j (EN [49,80,2,161] []) .o (.z 1 (.j (EN [129,48,2,113] []) .o .o))))
instance G4:C3 bD2 Yp:=pg (ak bD2.eq_1 Yp.eq_1) (.z 2 (.j (EN [49,96,2,417] []) .o (.z 3 (.j (EN [145,64,2,353] []) .o (.b .o (.j (EN [2,10,193] []) .o .o))))))
end Go.Proofs.Dev
