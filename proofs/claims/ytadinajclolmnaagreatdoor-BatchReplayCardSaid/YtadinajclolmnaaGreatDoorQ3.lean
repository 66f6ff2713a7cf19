/-
  Contracts of the functions: each answers as its plain partial function says.
-/
import Derived.Test.YtadinajclolmnaaGreatDoorPF
import Derived.Test.YtadinajclolmnaaGreatDoorH1
import Derived.Test.YtadinajclolmnaaGreatDoorH2
import Derived.Test.YtadinajclolmnaaGreatDoorL1
import Derived.Test.YtadinajclolmnaaGreatDoorL3
open Option renaming some->M,none->u4
open And renaming intro->ak
open Go.Proofs.Tryz renaming prog->al
open Option.some renaming inj->R'
set_option linter.all false
set_option maxHeartbeats 1000000
set_option maxRecDepth 10000
namespace Go.Proofs.Dev
open Go Go.Tm
variable {t1:po->Option Bool}{k1:Nat}{q1:List D}
instance fad:C2 k11 Mr:=pg (ak (ak k11.eq_1 Mr.eq_1) Hm.eq_1) (.l (EN [33,8,2] []) (EN [] []) [] (.z 1 (.j (EN [161,2,89] []) .o .o)) .o)
instance abm:C3 k32 aw:=pg (ak (ak k32.eq_1 aw.eq_1) Wt.eq_1) (.l (EN [57,8,2,217] [0]) (EN [48,9] [0]) [] (.z 3 (.j (EN [73,168,2,41] [0]) .o .o)) .o)
instance ZZ:C1 k75 wk:=pg (ak k75.eq_1 wk.eq_1) (.z 1 (.j (EN [16,2,49] []) .o .o))
instance YZ:C1 k94 Nn:=pg (ak (ak k94.eq_1 Nn.eq_1) (ak tn.eq_1 (ak vn.eq_1 xn.eq_1))) (.l (EN [8,9,72,17,2,281] [0]) (EN [8,9] [0]) [] .o (.l (EN [8,177,8,17,2,177] [0]) (EN [8,177] [0]) [] .o (.l (EN [8,281,8,17,2,73] [0]) (EN [] []) [] .o .o)))
instance pU:C1 k95 Pb:=pg (ak k95.eq_1 Pb.eq_1) (.z 1 (.j (EN [16,2,49] []) .o .o))
instance abn:C1 k96 Mq:=pg (ak k96.eq_1 Mq.eq_1) (.z 1 (.j (EN [16,2,49] []) .o .o))
theorem Hn{t0 r : List cb} (h : fb t0 = M r) : k! al 101 [Ra t0] (Ra r) := by
  unfold fb at h
  split at h
  · rename_i hl
    obtain rfl := R' h
    refine dk 7 uab ?_
    simp only[uab,Kf.of,zs,ze]
    refine T.kl ?_
    refine T.rg ?_
    simp only[zx, ze]
    refine T.kl ?_
    refine T.kl ?_
    refine T.Mp (i := 0) (S := 4) (l := t0.map db) rfl (Fr.l _) p6 s6 s6 s6 ?_
    intro b hb
    have happ : app 32 ([] : List cb) t0 = M t0 := by unfold app; rw[J a10]; simp
    cases b with
    | true =>
      have hz : t0 = [] := by
        cases t0 with
        | nil => rfl
        | cons x l => exact absurd (hb p6) p6
      subst hz
      simp only[zx, ze]
      refine T.cd rfl ?_
      refine gP.mk (λ_ => ?_) (λh => absurd rfl h)
      refine T.kl ?_
      refine T.rg ?_
      simp only[zx, ze]
      exact T.ret <| Bq aaL
    | false =>
      simp only[zx, ze]
      refine T.cd rfl ?_
      refine gP.mk (λh => by cases h) (λ_ => ?_)
      refine T.skip ?_
      simp only[zx, ze]
      refine T.kl ?_
      refine T.rg ?_
      obtain⟨f1, f2⟩ := kz (e := db) happ
      try simp only[zx, ze] at f1 f2
      simp only[zx, ze, f1, f2]
      exact T.ret <| Bq aaL
  · cases h
theorem wo{t0 r} (h:xb t0=M r):IB al 101 [Ra t0] 4 (r.map db):= by
  unfold xb fb at h
  split at h
  · rename_i hl
    obtain rfl := R' h
    refine IB.at 7 uab.ok uab.nm Ξ.h (Fr.l _) rfl ?_
    simp only[uab,Kf.of,zs,ze]
    refine T.kl ?_
    refine T.rg ?_
    simp only[zx, ze]
    refine T.kl ?_
    refine T.kl ?_
    refine T.Mp (i := 0) (S := 4) (l := t0.map db) rfl (Fr.l _) p6 s6 s6 s6 ?_
    intro b hb
    have happ : app 32 ([] : List cb) t0 = M t0 := by unfold app; rw[J a10]; simp
    cases b with
    | true =>
      have hz : t0 = [] := by
        cases t0 with
        | nil => rfl
        | cons x l => exact absurd (hb p6) p6
      subst hz
      simp only[zx, ze]
      refine T.cd rfl ?_
      refine gP.mk (λ_ => ?_) (λh => absurd rfl h)
      refine T.kl ?_
      refine T.rg ?_
      simp only[zx, ze]
      exact T.ret <| Bv (by simp only[zx, ze, Fv, eg, fg, re]; exact i!.q [(u4, 4, 0)] rfl s6 (by simp only[zq, ze]))
    | false =>
      simp only[zx, ze]
      refine T.cd rfl ?_
      refine gP.mk (λh => by cases h) (λ_ => ?_)
      refine T.skip ?_
      simp only[zx, ze]
      refine T.kl ?_
      refine T.rg ?_
      obtain⟨f1, f2⟩ := kz (e := db) happ
      try simp only[zx, ze] at f1 f2
      simp only[zx, ze, f1, f2]
      exact T.ret <| Bv aaN
  · cases h
instance abo{t0 r}:Γ (xb t0=M r) (IB al 101 [Ra t0] 4 (r.map db)):=⟨wo⟩
instance abp{t0 r}:r? (fb t0=M r) (k! al 101 [Ra t0] (Ra r)):=⟨Hn⟩
theorem uh{t0}{t1:oe->Option Bool}(hc1:ea q1=true)(hp1:∀ x0 r,t1 x0=M r->k! al k1 ([Cb x0]++q1) (ya r)){r} (h:Ea t0 t1=M r):k! al 109 [zb t0,.fn k1 [] q1] (da r):=by
 haveI I1:∀ x0 r,r? (t1 x0=M r) (k! al k1 ([Cb x0]++q1) (ya r)):=λx0 r=>⟨hp1 x0 r⟩
 have s1:∀ f:D->D->Prop,jz f q1 q1=True:=λ_=>vh hc1
 have z1:∀ a b n,qw a b n q1=q1:=λ_ _ _=>Bf _ _ _ _ hc1
 refine k!.at 17 aS9.ok aS9.nm (gH (S3 hc1 lF)) rfl ?_
 simp only[aS9,Kf.of,zs,ze]
 unfold Ea at h
 exact pg Eb.eq_1 (.l (EN [33,24,9,2,81] []) (EN [] []) [] .o .o)
theorem Ap{t0 t1 r} (h:Yb t0 t1=M r):k! al 110 [Cb t0,Vs t1] (ya r):=by
 refine dk 7 bC9 ?_
 simp only[bC9,Kf.of,zs,ze]
 unfold Yb at h
 exact pg trivial .o
instance abq{t0 t1 r}:r? (Yb t0 t1=M r) (k! al 110 [Cb t0,Vs t1] (ya r)):=⟨Ap⟩
instance u6:C2 bC4 so:=pg (ak (ak bC4.eq_1 so.eq_1) Xg.eq_1) (.l (EN [33,16,2,9] []) (EN [] []) [] (.z 4 (.j (EN [89,176,2,17] [0]) .o .o)) .o)
instance nQ:C2 bB6 Pe:=pg (ak bB6.eq_1 Pe.eq_1) (.z 1 (.j (EN [32,2,137] []) .o .o))
instance abr:C1 bB4 du:=pg (ak bB4.eq_1 du.eq_1) (.z 1 (.j (EN [16,2,105] []) .o .o))
instance G7:C1 bA9 zh:=pg (ak bA9.eq_1 zh.eq_1) (.z 1 (.j (EN [16,2,49] []) .o .o))
instance HZ:C2 bz8 Hc:=pg (ak bz8.eq_1 Hc.eq_1) (.z 3 (.j (EN [8,25,16,9,2,161] [0]) .o (.b .o (.b (.j (EN [32,2,9] []) .o .o) .o))))
instance gJ:C1 by9 Ic:=pg (ak by9.eq_1 Ic.eq_1) (.z 1 (.j (EN [16,2,49] []) .o .o))
instance SY:C1 by2 fh:=pg (ak by2.eq_1 fh.eq_1) (.z 1 (.j (EN [16,2,49] []) .o .o))
instance Wab:C2 by1 vf:=pg (ak by1.eq_1 vf.eq_1) (.z 1 (.j (EN [32,2,73] []) .o .o))
instance abt{t0 r}:r? (Ke t0=M r) (k! al 169 [da t0] (Ii r)):=⟨λh=>by
 refine dk 9 by0 ?_
 simp only[by0,Kf.of,zs,ze]
 unfold Ke at h
 exact pg trivial .o⟩
instance abu{t0 t1 t2 t3 t4 r}:r? (ef t0 t1 t2 t3 t4=M r) (k! al 170 [Ii t0,Ii t1,Ii t2,ya t3,da t4] (Ii r)):=⟨λh=>by
 refine dk 50 bx9 ?_
 simp only[bx9,Kf.of,zs,ze]
 unfold ef at h
 exact pg trivial (.z 4 (.j (EN [9,80,2] []) .o (.j ⟨[.w 0,.p 10],[]⟩ .o .o)))⟩
instance abv{t0 t1 r}:r? (gp t0 t1=M r) (k! al 171 [Ii t0,ya t1] (da r)):=⟨λh=>by
 refine dk 9 bx8 ?_
 simp only[bx8,Kf.of,zs,ze]
 unfold gp at h
 exact pg trivial .o⟩
instance pM:C2 bu1 Xf:=pg (ak bu1.eq_1 Xf.eq_1) (.z 3 (.j (EN [16,17,16,9,112,2,49] [0]) .o .o))
theorem rp{t0}{t1:pd->Option Bool}(hc1:ea q1=true)(hp1:∀ x0 r,t1 x0=M r->k! al k1 ([An x0]++q1) (ya r)){r} (h:Dc t0 t1=M r):k! al 238 [Dv t0,.fn k1 [] q1] (da r):=by
 haveI I1:∀ x0 r,r? (t1 x0=M r) (k! al k1 ([An x0]++q1) (ya r)):=λx0 r=>⟨hp1 x0 r⟩
 have s1:∀ f:D->D->Prop,jz f q1 q1=True:=λ_=>vh hc1
 have z1:∀ a b n,qw a b n q1=q1:=λ_ _ _=>Bf _ _ _ _ hc1
 refine k!.at 17 aS3.ok aS3.nm (gH (S3 hc1 lF)) rfl ?_
 simp only[aS3,Kf.of,zs,ze]
 unfold Dc at h
 exact pg xd.eq_1 (.l (EN [33,24,9,2,81] []) (EN [] []) [] .o .o)
theorem Ln{t0}(hc1:ea q1=true)(hp1:∀ x0 r,t1 x0=M r->k! al k1 ([Jg x0]++q1) (ya r)){r} (h:fc t0 t1=M r):k! al 239 [bt t0,.fn k1 [] q1] (da r):=by
 haveI I1:∀ x0 r,r? (t1 x0=M r) (k! al k1 ([Jg x0]++q1) (ya r)):=λx0 r=>⟨hp1 x0 r⟩
 have s1:∀ f:D->D->Prop,jz f q1 q1=True:=λ_=>vh hc1
 have z1:∀ a b n,qw a b n q1=q1:=λ_ _ _=>Bf _ _ _ _ hc1
 refine k!.at 17 aS2.ok aS2.nm (gH (S3 hc1 lF)) rfl ?_
 simp only[aS2,Kf.of,zs,ze]
 unfold fc at h
 exact pg Uc.eq_1 (.l (EN [33,24,9,2,81] []) (EN [] []) [] .o .o)
theorem qu{t0 t1 r} (h:Qc t0 t1=M r):k! al 241 [Be t0,Ws t1] (ya r):=by
 refine dk 7 bt1 ?_
 simp only[bt1,Kf.of,zs,ze]
 unfold Qc at h
 exact pg trivial .o
instance abw{t0 t1 r}:r? (Qc t0 t1=M r) (k! al 241 [Be t0,Ws t1] (ya r)):=⟨qu⟩
instance Q3:C1 bp2 Jk:=pg (ak bp2.eq_1 Jk.eq_1) (.z 1 (.j (EN [16,2,49] []) .o .o))
instance jU:C2 bp0 Cj:=pg (ak (ak bp0.eq_1 Cj.eq_1) Rg.eq_1) (.l (EN [8,25,8,3,33,10,105] [260]) (EN [40,3,17] [260]) [5] (.z 2 (.j (EN [8,81] [2]) (.b (.t [256]) .o) .o)) .o)
instance abx:C1 bn3 Zg:=pg (ak bn3.eq_1 Zg.eq_1) .o
instance Q5:C1 bm4 Wk:=pg (ak bm4.eq_1 Wk.eq_1) (.z 1 (.j (EN [16,2,49] []) .o .o))
instance aby:C2 bm3 Bj:=pg (ak bm3.eq_1 Bj.eq_1) (.z 1 (.j (EN [32,2,73] []) .o .o))
instance abz{t0 t1 t2 t3 t4 r}:r? (Qp t0 t1 t2 t3 t4=M r) (k! al 331 [Ii t0,Ii t1,Ii t2,ya t3,da t4] (ya r)):=⟨λh=>by
 refine dk 44 bm2 ?_
 simp only[bm2,Kf.of,zs,ze]
 unfold Qp at h
 exact pg trivial (.b .o (.b .o (.b .o (.b .o (.b .o (.b (.j (EN [80,2] []) .o .o) .o))))))⟩
instance Vac:C3 k10 Hr:=pg (ak (ak k10.eq_1 Hr.eq_1) Em.eq_1) (.l (EN [9,8,33,8,9,8,9,10,25] [2]) (EN [72,9] [2]) [] (.z 5 (.j ⟨[.p 12],[.o 0,.h 1 [.g [.p 4,.i 0,.p 1,.i 1,.i 2]]]⟩ (.b (.a [[],[],[],[],[],[3]] .o) .o) (.t [256]))) .o)
instance c8:C1 k13 Sp:=pg (ak (ak k13.eq_1 Sp.eq_1) Yk.eq_1) (.l (EN [24,9,8,9,10] [2]) (EN [40,9] [2]) [] (.b (.t [256]) .o) .o)
instance q8:C1 k71 tc:=pg (ak (ak k71.eq_1 tc.eq_1) Dd.eq_1) (.z 2 (.j (EN [8,9,128,2,209] [0]) .o (.l (EN [8,137,16,17,2,177] [0]) (EN [] []) [] (.z 4 (.j (EN [8,17,136,25,160,2,9] [0]) .o .o)) .o)))
instance aad:C2 k85 Fj:=pg (ak (ak k85.eq_1 Fj.eq_1) Xi.eq_1) (.l (EN [8,25,8,3,49,10,169] [772]) (EN [40,3,33] [772]) [13] (.z 4 (.j ⟨[.k 1,.p 12],[.o 0,.h 1 [.g [.p 1,.i 0,.i 1]]]⟩ .o (.t [256]))) .o)
theorem vK{t0 t1 r} (h:Fj t0 t1=M r):Wr al 85 [Lc t0,.own 0 0] [(7,t1.map me)] (Lc r):=by
 refine Wr.of 32 k85 ?_ aaW
 simp only[k85,Kf.of,zs,ze,qv,List.map_cons,List.map_nil,List.length_cons,List.length_nil,Nat.reduceAdd]
 unfold Fj at h
 exact pg Xi.eq_1 (.l (EN [8,25,8,11,49,10,169] [1,772]) (EN [40,11,33] [1,772]) [0,13] (.z 4 (.j ⟨[.k 1,.p 12],[.O 0,.o 1,.h 2 [.g [.p 1,.i 0,.i 1]]]⟩ .o (.t [0,260]))) .o)
instance aca{t0 t1 r}:Γ (Fj t0 t1=M r) (Wr al 85 [Lc t0,.own 0 0] [(7,t1.map me)] (Lc r)):=⟨vK⟩
instance U7:C1 k90 Ip:=pg (ak (ak k90.eq_1 Ip.eq_1) Sk.eq_1) (.l (EN [24,3,33,10,105] [260]) (EN [24,3,17] [260]) [5] (.b (.t [256]) .o) .o)
instance Z8:C1 k93 br:=pg (ak k93.eq_1 br.eq_1) (.z 2 (.j (EN [8,9,88,2,329] [0]) .o (.z 1 (.j (EN [8,97,120,2,209] [0]) .o (.z 1 (.j (EN [8,217,64,2,145] [0]) .o (.b .o (.j (EN [16,2,265] []) .o .o))))))))
instance RU:C2 k98 qd:=pg (ak k98.eq_1 qd.eq_1) (.z 2 (.j (EN [33,48,2,81] []) .o (.z 1 (.j (EN [8,73,48,2,33] []) .o .o))))
instance yae:C2 bC0 Cd:=pg (ak bC0.eq_1 Cd.eq_1) .o
instance o5:C3 bA3 uf:=pg (ak bA3.eq_1 uf.eq_1) (.z 6 (.j (EN [49,128,2,177] []) .o .o))
theorem nn{t0}{t1:pd->Option Bool}(hc1:ea q1=true)(hp1:∀ x0 r,t1 x0=M r->k! al k1 ([An x0]++q1) (ya r)){r} (h:Ab t0 t1=M r):k! al 208 [Dv t0,.fn k1 [] q1] (ya r):=by
 haveI I1:∀ x0 r,r? (t1 x0=M r) (k! al k1 ([An x0]++q1) (ya r)):=λx0 r=>⟨hp1 x0 r⟩
 have s1:∀ f:D->D->Prop,jz f q1 q1=True:=λ_=>vh hc1
 have z1:∀ a b n,qw a b n q1=q1:=λ_ _ _=>Bf _ _ _ _ hc1
 haveI:∀ y0 r,r? (Dc y0 t1=M r) (k! al 238 [Dv y0,.fn k1 [] q1] (da r)):=λy0 r=>⟨rp hc1 hp1⟩
 refine k!.at 7 aS7.ok aS7.nm (gH (S3 hc1 lF)) rfl ?_
 simp only[aS7,Kf.of,zs,ze]
 unfold Ab at h
 exact pg trivial .o
theorem km{t0}(hc1:ea q1=true)(hp1:∀ x0 r,t1 x0=M r->k! al k1 ([Jg x0]++q1) (ya r)){r} (h:vb t0 t1=M r):k! al 210 [bt t0,.fn k1 [] q1] (ya r):=by
 haveI I1:∀ x0 r,r? (t1 x0=M r) (k! al k1 ([Jg x0]++q1) (ya r)):=λx0 r=>⟨hp1 x0 r⟩
 have s1:∀ f:D->D->Prop,jz f q1 q1=True:=λ_=>vh hc1
 have z1:∀ a b n,qw a b n q1=q1:=λ_ _ _=>Bf _ _ _ _ hc1
 haveI:∀ y0 r,r? (fc y0 t1=M r) (k! al 239 [bt y0,.fn k1 [] q1] (da r)):=λy0 r=>⟨Ln hc1 hp1⟩
 refine k!.at 7 aS6.ok aS6.nm (gH (S3 hc1 lF)) rfl ?_
 simp only[aS6,Kf.of,zs,ze]
 unfold vb at h
 exact pg trivial .o
instance Vab:C4 bu5 Cr:=pg (ak bu5.eq_1 Cr.eq_1) (.z 6 (.j (EN [65,176,2,329] []) .o .o))
theorem Sx{t0 r} (h:Yh t0=M r):kI al 231 [] [] 1 (t0.map da) (pb r):=by
 refine kI.at 6 aS4.ok aS4.nm lF lF (Fr.l _) rfl ?_
 simp only[aS4,Kf.of,zs,ze]
 unfold Yh at h
 exact pg trivial .o
instance acb{t0 r}:r? (Yh t0=M r) (kI al 231 [] [] 1 (t0.map da) (pb r)):=⟨Sx⟩
instance FY:C1 bs8 Bm:=pg (ak (ak bs8.eq_1 Bm.eq_1) oi.eq_1) (.z 2 (.j (EN [17,64,2,129] []) .o (.l (EN [81,16,9,2,105] []) (EN [] []) [] (.z 4 (.j (EN [25,72,17,88,2,9] []) .o .o)) .o)))
instance acd{t0 r}:r? (Sj t0=M r) (kI al 253 [] [] 1 (t0.map da) (pb r)):=⟨λh=>by
 refine kI.at 6 aR8.ok aR8.nm lF lF (Fr.l _) rfl ?_
 simp only[aR8,Kf.of,zs,ze]
 unfold Sj at h
 exact pg trivial .o⟩
instance SS:C2 bq5 fm:=pg (ak (ak bq5.eq_1 fm.eq_1) Fi.eq_1) (.l (EN [16,17,8,11,17,24,17,10,425] [0,260]) (EN [40,3,17] [260]) [0,5] (.b (.j (EN [16,97] [0,258]) (.z 3 (.j (EN [16,97] [0,258]) (.j (EN [16,97,208,2,209] [0,8]) .o (.b (.t [0,260]) .o)) (.j (EN [16,465,2,49] [0,8]) .o (.b (.t [0,260]) .o)))) .o) (.t [4])) .o)
instance YX:C3 bp5 He:=pg (ak bp5.eq_1 He.eq_1) (.z 2 (.j (EN [17,24,17,64,2,113] [0,8]) .o .o))
instance P3:C3 bp4 Vn:=pg (ak bp4.eq_1 Vn.eq_1) (.z 2 (.e (EN [24,33,8,2,17] [0,8,16,24]) (.z 2 (.j (EN [24,33,144,2,465] [0,8,16,24]) .o .o)) (.z 1 (.j (EN [24,281,2,361] [0,8,16,24]) .o (.b .o (.z 1 (.f ⟨[.k 3,.p 81],[.o 0,.o 1,.o 2,.o 3,.n 2 [],.n 2 []]⟩ [0,4,8,12,9,9] (.g [[],[],[],[],[],[],[],[],[],[],[],[],[1,3,5,7,9,11],[1,3,5,7,9,11,12],[7,9,11]] [u4,u4,u4,u4,u4,u4,u4,u4,u4,u4,u4,u4,M 4,M 5,u4] (.z 1 (.j (EN [24,9,16,17,8,233,240,2,121] [0,24,32,40]) (.t [0,12,272,276]) (.z 3 (.j (EN [48,33,560,2,25] [8,16]) (.t [4,8]) .o))))))))))))
instance lT:C2 bn5 zi:=pg (ak bn5.eq_1 zi.eq_1) (.z 2 (.j ⟨[.p 4,.k 3,.w 0,.p 4],[]⟩ .o .o))
instance Taa:C2 bm8 xr:=pg (ak bm8.eq_1 xr.eq_1) (.z 3 (.j (EN [33,24,9,152,2,81] []) .o .o))
instance P5:C3 bm5 ko:=pg (ak bm5.eq_1 ko.eq_1) (.z 6 (.j (EN [49,152,2,377] []) .o (.z 9 (.j (EN [64,9,40,2,81] []) .o (.b .o (.j (EN [112,2,417] []) .o .o))))))
end Go.Proofs.Dev
