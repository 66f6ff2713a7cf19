/-
  Contracts of the functions: each answers as its plain partial function says.
-/
import Derived.Test.YtadinajclolmnaaGreatDoorPF
import Derived.Test.YtadinajclolmnaaGreatDoorH1
import Derived.Test.YtadinajclolmnaaGreatDoorH2
import Derived.Test.YtadinajclolmnaaGreatDoorL1
import Derived.Test.YtadinajclolmnaaGreatDoorL3
open Option renaming some->M,none->u4
open And renaming intro->ak
open Go.Proofs.Tryz renaming prog->al
open List renaming length_cons->w!,length_nil->A?,map_cons->w?,map_nil->D!
open Nat renaming reduceAdd->l?
open Option.some renaming inj->R'
set_option linter.all false
set_option maxHeartbeats 1000000
set_option maxRecDepth 10000
namespace Go.Proofs.Dev
open Go Go.Tm
variable {t1:mu->Option Bool}{k1:Nat}{q1:List D}
instance aan:C2 k16 Gt:=pg (ak (ak k16.eq_1 Gt.eq_1) Up.eq_1) (.l (EN [33,8,2] []) (EN [] []) [] (.z 1 (.j (EN [161,2,89] []) .o .o)) .o)
instance sZ:C1 k35 kh:=pg (ak (ak k35.eq_1 kh.eq_1) (ak ui.eq_1 (ak vi.eq_1 wi.eq_1))) (.z 2 (.j (EN [8,9,208,2,513] [0]) .o (.l (EN [8,17,2,193] [0]) (EN [8,17] [0]) [] .o (.l (EN [8,25,2,705] [0]) (EN [8,25] [0]) [] .o (.l (EN [8,33,2,697] [0]) (EN [] []) [] (.z 4 (.j (EN [8,41,688,2] [0]) .o .o)) .o)))))
instance LP:C1 k41 lk:=pg (ak k41.eq_1 lk.eq_1) .o
instance aao:C2 k43 kp:=pg (ak k43.eq_1 kp.eq_1) (.z 2 (.j (EN [33,120,2,33] []) .o .o))
instance ead:C2 k49 Kr:=pg (ak (ak k49.eq_1 Kr.eq_1) Gm.eq_1) (.l (EN [33,8,2] []) (EN [] []) [] (.z 1 (.j (EN [161,2,89] []) .o .o)) .o)
instance qac:C1 k62 bm:=pg (ak (ak k62.eq_1 bm.eq_1) iq.eq_1) (.l (EN [24,2,33,10,153] []) (EN [24,2,17] []) [] (.z 2 (.j (EN [24,2,41] []) .o .o)) .o)
theorem Vq{t0 r : List ka} (h : Na t0 = M r) : k! al 100 [Oh t0] (Oh r) := by
  unfold Na at h
  split at h
  · rename_i hl
    obtain rfl := R' h
    refine dk 7 GV ?_
    simp only[GV,Kf.of,zs,ze]
    refine T.kl ?_
    refine T.rg ?_
    simp only[zx, ze]
    refine T.kl ?_
    refine T.kl ?_
    refine T.Mp (i := 0) (S := 9) (l := t0.map sd) rfl (Fr.l _) p6 s6 s6 s6 ?_
    intro b hb
    have happ : app 72 ([] : List ka) t0 = M t0 := by unfold app; rw[J a10]; simp
    cases b with
    | true =>
      have hz : t0 = [] := by
        cases t0 with
        | nil => rfl
        | cons x l => exact absurd (hb p6) p6
      subst hz
      simp only[zx, ze]
      refine T.cd rfl ?_
      refine gP.mk (λ_ => ?_) (λh => absurd rfl h)
      refine T.kl ?_
      refine T.rg ?_
      simp only[zx, ze]
      exact T.ret <| Bq aaL
    | false =>
      simp only[zx, ze]
      refine T.cd rfl ?_
      refine gP.mk (λh => by cases h) (λ_ => ?_)
      refine T.skip ?_
      simp only[zx, ze]
      refine T.kl ?_
      refine T.rg ?_
      obtain⟨f1, f2⟩ := kz (e := sd) happ
      try simp only[zx, ze] at f1 f2
      simp only[zx, ze, f1, f2]
      exact T.ret <| Bq aaL
  · cases h
theorem Pr{t0 r} (h:Nb t0=M r):IB al 100 [Oh t0] 9 (r.map sd):= by
  unfold Nb Na at h
  split at h
  · rename_i hl
    obtain rfl := R' h
    refine IB.at 7 GV.ok GV.nm Ξ.h (Fr.l _) rfl ?_
    simp only[GV,Kf.of,zs,ze]
    refine T.kl ?_
    refine T.rg ?_
    simp only[zx, ze]
    refine T.kl ?_
    refine T.kl ?_
    refine T.Mp (i := 0) (S := 9) (l := t0.map sd) rfl (Fr.l _) p6 s6 s6 s6 ?_
    intro b hb
    have happ : app 72 ([] : List ka) t0 = M t0 := by unfold app; rw[J a10]; simp
    cases b with
    | true =>
      have hz : t0 = [] := by
        cases t0 with
        | nil => rfl
        | cons x l => exact absurd (hb p6) p6
      subst hz
      simp only[zx, ze]
      refine T.cd rfl ?_
      refine gP.mk (λ_ => ?_) (λh => absurd rfl h)
      refine T.kl ?_
      refine T.rg ?_
      simp only[zx, ze]
      exact T.ret <| Bv (by simp only[zx, ze, Fv, eg, fg, re]; exact i!.q [(u4, 9, 0)] rfl s6 (by simp only[zq, ze]))
    | false =>
      simp only[zx, ze]
      refine T.cd rfl ?_
      refine gP.mk (λh => by cases h) (λ_ => ?_)
      refine T.skip ?_
      simp only[zx, ze]
      refine T.kl ?_
      refine T.rg ?_
      obtain⟨f1, f2⟩ := kz (e := sd) happ
      try simp only[zx, ze] at f1 f2
      simp only[zx, ze, f1, f2]
      exact T.ret <| Bv aaN
  · cases h
instance aap{t0 r}:Γ (Nb t0=M r) (IB al 100 [Oh t0] 9 (r.map sd)):=⟨Pr⟩
theorem Nr{t0 r} (h:Na t0=M r):Wr al 100 [.own 0 0] [(9,t0.map sd)] (Oh r):= by
  unfold Na at h
  split at h
  · rename_i hl
    obtain rfl := R' h
    refine Wr.of 7 GV ?_ aaW
    simp only[GV,Kf.of,zs,ze,qv,w?,D!,w!,A?,l?]
    have happ : app 72 ([] : List ka) t0 = M t0 := by unfold app; rw[J a10]; simp
    refine T.kl ?_
    refine T.rg ?_
    simp only[zx, ze]
    refine T.kl ?_
    refine T.kl ?_
    cases t0 with
    | nil =>
      refine T.nilown (i := 0) rfl rfl ?_
      simp only[zx, ze]
      refine T.Mp (i := 0) (S := 9) (l := []) rfl rfl p6 s6 s6 s6 ?_
      intro b hb
      cases b with
      | true =>
        simp only[zx, ze]
        refine T.cd rfl ?_
        refine gP.mk (λ_ => ?_) (λh => absurd rfl h)
        refine T.kl ?_
        refine T.rg ?_
        simp only[zx, ze]
        exact T.ret <| mI aaU
      | false =>
        simp only[zx, ze]
        refine T.cd rfl ?_
        refine gP.mk (λh => by cases h) (λ_ => ?_)
        refine T.skip ?_
        simp only[zx, ze]
        refine T.kl ?_
        refine T.rg ?_
        obtain⟨f1, f2⟩ := kz (e := sd) happ
        try simp only[zx, ze] at f1 f2
        simp only[zx, ze, f1, f2]
        exact T.ret <| mI aaU
    | cons x l =>
      refine T.rg ?_
      simp only[zx, ze]
      refine T.cd rfl ?_
      refine gP.mk (λh => by cases h) (λ_ => ?_)
      refine T.skip ?_
      simp only[zx, ze]
      refine T.kl ?_
      refine T.rg ?_
      obtain⟨f1, f2⟩ := kz (e := sd) happ
      try simp only[zx, ze] at f1 f2
      simp only[zx, ze, f1, f2]
      exact T.ret <| mI (by simp only[zx, ze, eg, fg, re]; rw[Ev]; exact i!.q [(M 0, 0, 0)] rfl s6 (by simp only[zx, zq, ze]; exact⟨.inl (Fr.l (e := sd) (x :: l)), .inl (Fr.l (e := sd) (x :: l))⟩))
  · cases h
instance aaq{t0 r}:Γ (Na t0=M r) (Wr al 100 [.own 0 0] [(9,t0.map sd)] (Oh r)):=⟨Nr⟩
instance aar{t0 r}:r? (Na t0=M r) (k! al 100 [Oh t0] (Oh r)):=⟨Vq⟩
instance KP:C1 aq7 Jb:=pg (ak (ak aq7.eq_1 Jb.eq_1) (ak Cf.eq_1 Df.eq_1)) (.l (EN [24,65,8,17,10,401] [2]) (EN [24,65] [2]) [] (.z 2 (.j (EN [24,97] [2]) (.z 2 (.j (EN [24,97,80,2,313] [0,8]) .o .o)) .o)) (.l (EN [24,41,11,10,305,18,129] [0,260]) (EN [64,3] [260]) [0,5] (.b (.j (EN [24,49,10,313] [0,258]) (.b (.t [0,260]) .o) .o) (.t [4])) .o))
theorem Hz{t0 r} (h:Jb t0=M r):Wr al 104 [.own 0 0] [(7,t0.map me)] (pb r):=by
 refine Wr.of 64 aq7 ?_ aaW
 simp only[aq7,Kf.of,zs,ze,qv,w?,D!,w!,A?,l?]
 unfold Jb at h
 exact pg (ak Cf.eq_1 Df.eq_1) (.l (EN [24,65,8,17,10,401] [1,258]) (EN [24,65] [1,258]) [] (.z 2 (.j (EN [24,97] [1,258]) (.z 2 (.j (EN [24,97,80,2,313] [1,8,16]) .o .o)) .o)) (.l (EN [24,41,19,10,305,18,129] [1,8,260]) (EN [64,11] [1,260]) [0,4,5] (.b (.j (EN [24,49,10,313] [1,8,514]) (.b (.t [0,4,264]) .o) .o) (.t [0,8])) .o))
instance aas{t0 r}:Γ (Jb t0=M r) (Wr al 104 [.own 0 0] [(7,t0.map me)] (pb r)):=⟨Hz⟩
instance FP:C1 bC8 Qd:=pg (ak bC8.eq_1 Qd.eq_1) .o
instance nX:C1 bB1 qm:=pg (ak bB1.eq_1 qm.eq_1) .o
instance O1:C1 bz7 Pn:=pg (ak bz7.eq_1 Pn.eq_1) .o
instance aat:C1 bz6 Jl:=pg (ak bz6.eq_1 Jl.eq_1) (.z 1 (.j (EN [16,2,49] []) .o .o))
instance aau{t0 r}:r? (Kp t0=M r) (k! al 205 [waa t0] (ya r)):=⟨λh=>by
 refine dk 8 bv5 ?_
 simp only[bv5,Kf.of,zs,ze]
 unfold Kp at h
 exact pg trivial (.z 1 (.j (EN [16,2,49] []) .o .o))⟩
instance V4:C1 bv3 si:=pg (ak bv3.eq_1 si.eq_1) (.z 3 (.j (EN [32,2,441] []) .o .o))
theorem Qw{t0 t1 r} (h:Og t0 t1=M r):k! al 209 [An t0,Nt t1] (ya r):=by
 refine dk 6 bv2 ?_
 simp only[bv2,Kf.of,zs,ze]
 unfold Og at h
 exact pg trivial .o
instance aav{t0 t1 r}:r? (Og t0 t1=M r) (k! al 209 [An t0,Nt t1] (ya r)):=⟨Qw⟩
instance aaw:C2 bu3 Qv:=pg (ak bu3.eq_1 Qv.eq_1) .o
instance yH:C2 bt4 xi:=pg (ak (ak bt4.eq_1 xi.eq_1) fe.eq_1) (.l (EN [33,24,9,2,81] []) (EN [] []) [] .o .o)
instance aax{t0 r}:r? (Qt t0=M r) (k! al 237 [waa t0] (ya r)):=⟨λh=>by
 refine dk 8 bt2 ?_
 simp only[bt2,Kf.of,zs,ze]
 unfold Qt at h
 exact pg trivial (.z 1 (.j (EN [16,2,49] []) .o .o))⟩
instance T4:C1 bt0 ki:=pg (ak (ak bt0.eq_1 ki.eq_1) xj.eq_1) (.l (EN [24,3,33,10,81] [516]) (EN [24,3,17] [516]) [9] (.b (.t [256]) .o) .o)
theorem av{t0 t1 r} (h:df t0 t1=M r):k! al 245 [Tf t0,Cv t1] (ya r):=by
 refine dk 7 bs9 ?_
 simp only[bs9,Kf.of,zs,ze]
 unfold df at h
 exact pg trivial .o
instance aay{t0 t1 r}:r? (df t0 t1=M r) (k! al 245 [Tf t0,Cv t1] (ya r)):=⟨av⟩
instance sP:C2 bs6 xo:=pg (ak (ak bs6.eq_1 xo.eq_1) Yg.eq_1) (.l (EN [33,24,9,2,81] []) (EN [] []) [] .o .o)
theorem Jn{t0}(hc1:ea q1=true)(hp1:∀ x0 r,t1 x0=M r->k! al k1 ([Be x0]++q1) (ya r)){r} (h:bc t0 t1=M r):k! al 261 [Ys t0,.fn k1 [] q1] (da r):=by
 haveI I1:∀ x0 r,r? (t1 x0=M r) (k! al k1 ([Be x0]++q1) (ya r)):=λx0 r=>⟨hp1 x0 r⟩
 have s1:∀ f:D->D->Prop,jz f q1 q1=True:=λ_=>vh hc1
 have z1:∀ a b n,qw a b n q1=q1:=λ_ _ _=>Bf _ _ _ _ hc1
 refine k!.at 17 aR4.ok aR4.nm (gH (S3 hc1 lF)) rfl ?_
 simp only[aR4,Kf.of,zs,ze]
 unfold bc at h
 exact pg Sc.eq_1 (.l (EN [33,24,9,2,81] []) (EN [] []) [] .o .o)
instance aaz:C1 bq8 Un:=pg (ak bq8.eq_1 Un.eq_1) (.z 3 (.j (EN [32,2,137] []) .o .o))
instance aba:C1 bq7 Rj:=pg (ak bq7.eq_1 Rj.eq_1) (.z 3 (.j (EN [24,9,2,337] []) .o (.b .o (.j (EN [24,9,120,2,217] []) .o (.b .o (.j (EN [24,129,56,2,161] []) .o .o))))))
instance abb:C2 bq2 ku:=pg (ak bq2.eq_1 ku.eq_1) (.b (.j (EN [32,2] []) .o .o) (.b (.j (EN [32,2] []) .o .o) (.b (.j (EN [32,2] []) .o .o) (.b .o (.j (EN [16,17,488,2,121] [0,8]) .o (.b (.j (EN [32,2,481] []) .o .o) .o))))))
instance P7:C1 bn9 yg:=pg (ak bn9.eq_1 yg.eq_1) (.z 1 (.j (EN [16,2,81] []) .o .o))
instance abc{t0 t1 t2 r}:r? (bp t0 t1 t2=M r) (k! al 313 [da t0,da t1,da t2] (.tup [mr r.1,ya r.2])):=⟨λh=>by
 refine dk 44 bn8 ?_
 simp only[bn8,Kf.of,zs,ze]
 unfold bp at h
 exact pg trivial (.b (.j ⟨[.k 6,.p 1,.i 0],[.h 0 [.g [.s (da t1),.p 1]]]⟩ .o .o) (.b (.j ⟨[.k 6,.p 1,.i 0],[.h 0 [.g [.s (da t1),.p 1]]]⟩ .o .o) (.j (EN [48,9,216,2,97] [0]) .o .o)))⟩
instance o8:C1 k17 Wp:=pg (ak (ak k17.eq_1 Wp.eq_1) (ak Hj.eq_1 (ak Ij.eq_1 (ak Jj.eq_1 Th.eq_1)))) (.z 2 (.j (EN [8,9,176,2,817] [0]) .o (.l (EN [8,33,2,145] [0]) (EN [8,33] [0]) [] (.z 4 (.j (EN [8,193,192,2,617] [0]) .o (.l (EN [8,41,2,337] [0]) (EN [8,41] [0]) [] .o .o))) (.l (EN [8,17,2,25,10,953] [0]) (EN [8,17,8,25] [0]) [] (.z 4 (.j (EN [8,569,216,2,217] [0]) .o .o)) (.l (EN [8,25,2,25,10,945] [0]) (EN [] []) [] (.z 4 (.j (EN [8,793,208,2] [0]) .o .o)) .o)))))
instance mU:C1 k23 Gj:=pg (ak k23.eq_1 Gj.eq_1) (.z 1 (.j (EN [16,2,121] []) .o .o))
instance r9:C1 k28 cj:=pg (ak k28.eq_1 cj.eq_1) .o
instance eU:C4 k46 Xd:=pg (ak (ak k46.eq_1 Xd.eq_1) zj.eq_1) (.l (EN [73,8,9,8,2,10,18,25,80,17,26,265] [0]) (EN [73,8,9,8,2,10,18,25] [0]) [] (.z 2 (.j (EN [97,2,10,18,129] [0]) .o .o)) (.z 1 (.j ⟨[.k 8,.p 2,.k 7,.p 28],[.o 0,.h 1 [.g [.p 3,.i 0,.p 1]]]⟩ .o .o)))
instance Z5:C3 bD0 qo:=pg (ak (ak bD0.eq_1 qo.eq_1) (ak Gr.eq_1 (ak Af.eq_1 aq4.eq_1))) (.b .o (.i aq4 61 ⟨[.u [.s (.own 0 0),.i 1]],[.ni 4 0]⟩ (.l (EN [8,2,65,16,3,18,25] [1036]) (EN [8,2,80,3] [1036]) [17] (.z 1 (.j (EN [8,225,2,289] [0]) .o (.j (EN [8,2,217] [10]) (.z 3 (.j (EN [8,225,152,2,137] [0,8]) .o (.b .o (.t [256])))) .o))) .o) .o))
instance P1:C1 bB5 Vh:=pg (ak bB5.eq_1 Vh.eq_1) .o
instance eaa:C1 bB3 dr:=pg (ak bB3.eq_1 dr.eq_1) .o
instance mF:C2 bv8 ee:=pg (ak bv8.eq_1 ee.eq_1) .o
instance JV:C1 bv4 Tk:=pg (ak (ak bv4.eq_1 Tk.eq_1) Td.eq_1) (.l (EN [17,8,2,201] []) (EN [24,2,201] []) [] (.z 1 (.j (EN [201,2,25] []) .o .o)) .o)
instance IP:C2 bu8 sh:=pg (ak bu8.eq_1 sh.eq_1) (.z 3 (.j ⟨[.k 4,.p 1,.k 1,.p 1],[.o 1,.h 3 [.g [.p 4,.i 0,.i 1]]]⟩ (.j (EN [16,41,208,2,89] [0,8,16,24]) .o (.t [4,12])) .o))
instance tL:C2 bu6 kf:=pg (ak bu6.eq_1 kf.eq_1) .o
theorem gm{t0}(hc1:ea q1=true)(hp1:∀ x0 r,t1 x0=M r->k! al k1 ([Be x0]++q1) (ya r)){r} (h:Ua t0 t1=M r):k! al 242 [Ys t0,.fn k1 [] q1] (ya r):=by
 haveI I1:∀ x0 r,r? (t1 x0=M r) (k! al k1 ([Be x0]++q1) (ya r)):=λx0 r=>⟨hp1 x0 r⟩
 have s1:∀ f:D->D->Prop,jz f q1 q1=True:=λ_=>vh hc1
 have z1:∀ a b n,qw a b n q1=q1:=λ_ _ _=>Bf _ _ _ _ hc1
 haveI:∀ y0 r,r? (bc y0 t1=M r) (k! al 261 [Ys y0,.fn k1 [] q1] (da r)):=λy0 r=>⟨Jn hc1 hp1⟩
 refine k!.at 7 aS0.ok aS0.nm (gH (S3 hc1 lF)) rfl ?_
 simp only[aS0,Kf.of,zs,ze]
 unfold Ua at h
 exact pg trivial .o
instance O3:C1 br2 Ik:=pg (ak (ak br2.eq_1 Ik.eq_1) pj.eq_1) (.l (EN [17,24,9,11,25,72,17,18,433] [2,268]) (EN [17,24,9,11,25] [2,268]) [0,5] (.z 10 (.j (EN [65,8,105] [2,8]) .o (.a [[],[],[],[],[],[],[],[],[5],[5],[]] (.b .o (.t [0,516]))))) .o)
instance pL:C2 br1 Xe:=pg (ak (ak br1.eq_1 Xe.eq_1) ai.eq_1) (.l (EN [16,17,8,9,10,18] [0,258]) (EN [40,9] [258]) [] (.b .o (.t [4])) .o)
instance VX:C1 bq3 Am:=pg (ak bq3.eq_1 Am.eq_1) (.z 2 (.j (EN [8,9,120,2,241] [0]) .o (.z 2 (.j (EN [8,129,16,9,2,217] [0]) .o (.b (.j (EN [16,2,129] []) .o .o) (.b (.j (EN [16,2,129] []) .o .o) .o))))))
instance aY:C2 bp1 Kb:=pg (ak bp1.eq_1 Kb.eq_1) (.b .o (.b (.a [[],[],[],[],[],[],[2,4]] .o) (.j (EN [41,8,9,8,9,144,2,1553] [0,8]) .o (.b (.j ⟨[.k 4,.p 1,.i 2],[.h 0 [.g [.i 0,.i 1]]]⟩ (.a [[],[],[],[],[],[],[],[],[],[],[],[],[],[],[],[],[],[]] .o) .o) (.j (EN [217,160,2,1393] [0,8]) .o (.b .o (.b (.j ⟨[.k 4,.p 1,.i 2],[.h 0 [.g [.i 0,.i 1]]]⟩ (.a [[],[],[],[],[],[],[],[],[],[],[],[],[],[],[],[10,12]] .o) .o) (.j (EN [8,369,264,2,1129] [0,8]) .o (.b (.j ⟨[.k 4,.p 1,.i 2],[.h 0 [.g [.i 0,.i 1]]]⟩ (.a [[],[],[],[],[],[],[],[],[],[],[],[],[],[],[],[],[],[],[],[],[],[],[],[],[18,20]] .o) .o) (.j (EN [8,633,216,2,913] [0,8]) .o (.b (.a [[],[],[],[],[],[],[],[],[2,3,5,6]] .o) (.j (EN [8,849,88,2,825] [0,8]) .o (.b (.j ⟨[.k 4,.p 1,.i 0],[.h 0 [.g [.s (da 1),.p 1]]]⟩ (.a [[],[],[],[],[],[],[],[],[],[],[],[],[],[],[],[],[],[],[],[],[],[],[16,18]] .o) .o) (.j (EN [8,937,200,2,625] [0,8]) .o (.b (.j ⟨[.k 4,.p 1,.i 0],[.h 0 [.g [.s (da 1),.p 1]]]⟩ (.a [[],[],[],[],[],[],[],[],[],[],[],[],[],[8,10]] .o) .o) (.b (.j ⟨[.k 4,.p 1,.i 2],[.h 0 [.g [.i 0,.i 1]]]⟩ (.a [[],[],[],[],[],[],[],[],[],[],[],[],[],[],[],[],[],[10,11,13,14]] .o) .o) (.j (EN [8,41,16,1081,280,2,345] [0]) .o (.b (.j ⟨[.k 4,.p 1,.i 2,.p 2],[.h 0 [.g [.i 0,.i 1]]]⟩ (.a [[],[],[],[],[],[],[],[],[],[],[],[],[],[],[],[10,12]] .o) .o) (.j (EN [8,1417,144,2,201] [0]) .o (.b (.j ⟨[.k 4,.p 1,.i 0,.p 2],[.h 0 [.g [.s (da 2),.p 1]]]⟩ (.a [[],[],[],[],[],[],[],[],[],[],[],[],[],[8,10]] .o) .o) (.j (EN [8,57,1632,2,73] [0]) .o (.b (.a [[],[],[],[],[],[],[2,4]] .o) .o))))))))))))))))))))))
end Go.Proofs.Dev
