/-
  Contracts of the functions: each answers as its plain partial function says.
-/
import Derived.Test.YtadinajclolmnaaGreatDoorPF
import Derived.Test.YtadinajclolmnaaGreatDoorH1
import Derived.Test.YtadinajclolmnaaGreatDoorH2
import Derived.Test.YtadinajclolmnaaGreatDoorL1
import Derived.Test.YtadinajclolmnaaGreatDoorL3
open Option renaming some->M,none->u4
open And renaming intro->ak
open Go.Proofs.Tryz renaming prog->al
open Option.some renaming inj->R'
set_option linter.all false
set_option maxHeartbeats 1000000
set_option maxRecDepth 10000
namespace Go.Proofs.Dev
open Go Go.Tm
variable {t0:(List (List Int))}{r:List Int}{t1:ke->Option Bool}{k1:Nat}{q1:List D}
instance wW:C1 k24 np:=pg (ak k24.eq_1 np.eq_1) .o
instance abd{t0 r}:r? (zv t0=M r) (kI al 42 [] [] 2 (t0.map nj) (mq r)):=⟨λh=>by
 refine kI.at 21 k42.ok k42.nm lF lF (Fr.l _) rfl ?_
 simp only[k42,Kf.of,zs,ze]
 unfold zv at h
 exact pg trivial .o⟩
instance n8:C2 k48 Vp:=pg (ak (ak k48.eq_1 Vp.eq_1) il.eq_1) (.l (EN [33,8,2] []) (EN [] []) [] (.z 1 (.j (EN [161,2,89] []) .o .o)) .o)
instance abe:C2 k63 ew:=pg (ak (ak k63.eq_1 ew.eq_1) Rm.eq_1) (.l (EN [33,8,2] []) (EN [] []) [] (.z 1 (.j (EN [161,2,89] []) .o .o)) .o)
instance hX:C2 k88 Ri:=pg (ak k88.eq_1 Ri.eq_1) (.z 1 (.j (EN [32,2,105] []) .o .o))
theorem qp{t0 r : List ml} (h : sb t0 = M r) : k! al 102 [Al t0] (Al r) := by
  unfold sb at h
  split at h
  · rename_i hl
    obtain rfl := R' h
    refine dk 7 vab ?_
    simp only[vab,Kf.of,zs,ze]
    refine T.kl ?_
    refine T.rg ?_
    simp only[zx, ze]
    refine T.kl ?_
    refine T.kl ?_
    refine T.Mp (i := 0) (S := 7) (l := t0.map me) rfl (Fr.l _) p6 s6 s6 s6 ?_
    intro b hb
    have happ : app 56 ([] : List ml) t0 = M t0 := by unfold app; rw[J a10]; simp
    cases b with
    | true =>
      have hz : t0 = [] := by
        cases t0 with
        | nil => rfl
        | cons x l => exact absurd (hb p6) p6
      subst hz
      simp only[zx, ze]
      refine T.cd rfl ?_
      refine gP.mk (λ_ => ?_) (λh => absurd rfl h)
      refine T.kl ?_
      refine T.rg ?_
      simp only[zx, ze]
      exact T.ret <| Bq aaL
    | false =>
      simp only[zx, ze]
      refine T.cd rfl ?_
      refine gP.mk (λh => by cases h) (λ_ => ?_)
      refine T.skip ?_
      simp only[zx, ze]
      refine T.kl ?_
      refine T.rg ?_
      obtain⟨f1, f2⟩ := kz (e := me) happ
      try simp only[zx, ze] at f1 f2
      simp only[zx, ze, f1, f2]
      exact T.ret <| Bq aaL
  · cases h
theorem zp{t0 r} (h:Db t0=M r):IB al 102 [Al t0] 7 (r.map me):= by
  unfold Db sb at h
  split at h
  · rename_i hl
    obtain rfl := R' h
    refine IB.at 7 vab.ok vab.nm Ξ.h (Fr.l _) rfl ?_
    simp only[vab,Kf.of,zs,ze]
    refine T.kl ?_
    refine T.rg ?_
    simp only[zx, ze]
    refine T.kl ?_
    refine T.kl ?_
    refine T.Mp (i := 0) (S := 7) (l := t0.map me) rfl (Fr.l _) p6 s6 s6 s6 ?_
    intro b hb
    have happ : app 56 ([] : List ml) t0 = M t0 := by unfold app; rw[J a10]; simp
    cases b with
    | true =>
      have hz : t0 = [] := by
        cases t0 with
        | nil => rfl
        | cons x l => exact absurd (hb p6) p6
      subst hz
      simp only[zx, ze]
      refine T.cd rfl ?_
      refine gP.mk (λ_ => ?_) (λh => absurd rfl h)
      refine T.kl ?_
      refine T.rg ?_
      simp only[zx, ze]
      exact T.ret <| Bv (by simp only[zx, ze, Fv, eg, fg, re]; exact i!.q [(u4, 7, 0)] rfl s6 (by simp only[zq, ze]))
    | false =>
      simp only[zx, ze]
      refine T.cd rfl ?_
      refine gP.mk (λh => by cases h) (λ_ => ?_)
      refine T.skip ?_
      simp only[zx, ze]
      refine T.kl ?_
      refine T.rg ?_
      obtain⟨f1, f2⟩ := kz (e := me) happ
      try simp only[zx, ze] at f1 f2
      simp only[zx, ze, f1, f2]
      exact T.ret <| Bv aaN
  · cases h
instance abf{t0 r}:Γ (Db t0=M r) (IB al 102 [Al t0] 7 (r.map me)):=⟨zp⟩
instance abg{t0 r}:r? (sb t0=M r) (k! al 102 [Al t0] (Al r)):=⟨qp⟩
instance NL:C2 bC2 vd:=pg (ak bC2.eq_1 vd.eq_1) (.z 3 (.j (EN [16,17,16,9,112,2,49] [0]) .o .o))
instance V7:C1 bB9 Jp:=pg (ak bB9.eq_1 Jp.eq_1) (.b .o (.j (EN [8,9,56,2,41] [0]) .o .o))
instance zU:C2 bA7 zk:=pg (ak bA7.eq_1 zk.eq_1) (.b (.j (EN [32,2] []) .o .o) (.b (.j (EN [32,2] []) .o .o) .o))
instance CW:C1 bz4 Uh:=pg (ak bz4.eq_1 Uh.eq_1) .o
instance L7:C1 bx1 C?:=pg (ak bx1.eq_1 C?.eq_1) .o
instance wX:C1 bw7 kd:=pg (ak bw7.eq_1 kd.eq_1) (.z 1 (.j (EN [16,2,121] []) .o .o))
theorem Tr{t0}{t1:b0->Option Bool}(hc1:ea q1=true)(hp1:∀ x0 r,t1 x0=M r->k! al k1 ([lr x0]++q1) (ya r)){r} (h:jc t0 t1=M r):k! al 202 [fA t0,.fn k1 [] q1] (.tup [da r.1,ya r.2]):=by
 haveI I1:∀ x0 r,r? (t1 x0=M r) (k! al k1 ([lr x0]++q1) (ya r)):=λx0 r=>⟨hp1 x0 r⟩
 have s1:∀ f:D->D->Prop,jz f q1 q1=True:=λ_=>vh hc1
 have z1:∀ a b n,qw a b n q1=q1:=λ_ _ _=>Bf _ _ _ _ hc1
 refine k!.at 18 aS8.ok aS8.nm (gH (S3 hc1 lF)) rfl ?_
 simp only[aS8,Kf.of,zs,ze]
 unfold jc at h
 exact pg Ob.eq_1 (.l (EN [8,25,32,17,2,73] []) (EN [] []) [] .o .o)
theorem Uv{t0 t1 r} (h:Pf t0 t1=M r):k! al 211 [Jg t0,Nt t1] (ya r):=by
 refine dk 6 bv1 ?_
 simp only[bv1,Kf.of,zs,ze]
 unfold Pf at h
 exact pg trivial .o
instance abh{t0 t1 r}:r? (Pf t0 t1=M r) (k! al 211 [Jg t0,Nt t1] (ya r)):=⟨Uv⟩
theorem ru{t0 t1 r} (h:Wd t0 t1=M r):k! al 213 [Gd t0,Xs t1] (ya r):=by
 refine dk 7 bv0 ?_
 simp only[bv0,Kf.of,zs,ze]
 unfold Wd at h
 exact pg trivial .o
instance abi{t0 t1 r}:r? (Wd t0 t1=M r) (k! al 213 [Gd t0,Xs t1] (ya r)):=⟨ru⟩
theorem BF{t1:Int}(h:Lt t0 t1=M r):k! al 228 [Xc t0,da t1] (pb r):=by
 refine dk 60 bu0 ?_;simp only[bu0,Kf.of,zs,ze];unfold Lt at h;refine ss (rg ?_);(try simp only[zz]);refine ss (rg ?_);obtain⟨x1,a1,h⟩:=bs h;obtain⟨f2,f3,f4,f5,f6⟩:=oS (e:=ya) a1;(try simp only[zz]at f5 f6);(try simp only[zz,f2,f3,f4,f5,f6]);refine ss (rg ?_);(try simp only[zz]);refine ss ?_;obtain⟨y7,h8,h⟩:=bs h;refine lm h8 (λq=>⟨Xc t0::ds 4 (.own 0 0::.own 1 0::ds 55 []),[.live 1 0 (q.1.map ya),.live 1 0 (q.2.map da)]⟩) (λb26=>⟨ds 5 (.own 0 0::ds 56 []),[.live 1 0 (b26.map ya)]⟩) (tz [ok 0,ok 1]) ?_ ?_
 .rintro⟨s2,s3⟩ z9 h10 h11;simp only[lg]at h10;refine ss (ss (rg ?_));(try simp only[zz]);refine cd rfl ?_;(try simp only[zz]);refine gi h10 (λc4 h10=>?_) λc4 h10=>?_
  .refine sk ?_;(try simp only[zz,c4]);refine bk (ss (rg ?_));obtain⟨x5,f13,f14,f15,h10⟩:=bO h10;(try simp only[zz,f13,f14,f15]);refine ss (rg ?_);obtain⟨x6,a16,h10⟩:=bs h10;obtain⟨f17,f18,f19⟩:=oY (e:=da) a16;(try simp only[zz]at f19);(try simp only[zz,f17,f18,f19]);refine ss (rg ?_);obtain⟨x7,f21,f22,h10⟩:=Tm.bI h10;(try simp only[zz,f21,f22]);obtain⟨y23,h24,h10⟩:=bs h10;refine lm h24 (λq=>⟨Xc t0::ds 4 (.own 0 0::.own 1 0::ds 22 (pb x7::da (x7.length:Int)::da q.2.2::ds 30 [])),[.live 1 0 (q.1.map ya),.live 1 0 (q.2.1.map da)]⟩) (λq=>⟨Xc t0::ds 4 (.own 0 0::.own 1 0::ds 55 []),[.live 1 0 (q.1.map ya),.live 1 0 (q.2.map da)]⟩) (tz [ok 0,ov 1 1]) ?_ ?_
   .rintro⟨s8,s9,s10⟩ z25 h26 h27;simp only[Kh]at h26;refine ss (rg ?_);(try simp only[zz]);refine ss (cd rfl ?_);(try simp only[zz]);refine gi h26 (λc11 h26=>?_) λc11 h26=>?_
    .refine sk ?_;(try simp only[zz,c11]);refine jm h26 (λq=>⟨Xc t0::ds 4 (.own 0 0::.own 1 0::ds 22 (pb x7::da (x7.length:Int)::da s10::ds 30 [])),[.live 1 0 (q.1.map ya),.live 1 0 (q.2.map da)]⟩) (λz29 h28=>?_) λz29 h28 h26=>?_
     .refine bk (ss (rg ?_));obtain⟨x12,f31,f32,h28⟩:=Tm.bI h28;(try simp only[zz,f31,f32]);refine ss (rg ?_);obtain⟨x13,f34,f35,f36,h28⟩:=bO h28;(try simp only[zz,f34,f35,f36]);refine cd rfl ?_;(try simp only[zz,f34,f35,f36]);refine gi h28 (λc14 h28=>?_) λc14 h28=>?_
      .refine ss (rg ?_);obtain⟨x15,a37,h28⟩:=bs h28;obtain⟨f38,f39⟩:=vac (e:=ya) a37;(try simp only[zz]at f39);(try simp only[zz,f34,f35,f36,f38,f39]);refine rg ?_;obtain⟨x16,a40,h28⟩:=bs h28;obtain⟨f41,f42⟩:=kz (e:=da) a40;(try simp only[zz]at f41 f42);(try simp only[zz,f41,f42]);cases h28;exact tz [ok 0,ov 1 1]
      refine sk ?_;(try simp only[zz,f34,f35,f36,c14]);cases h28;exact tz [ok 0,ok 1]
     obtain⟨j17,j18⟩:=z29;dsimp only at h26;refine rg ?_;(try simp only[zz]);cases h26;exact tz [ok 0,ok 1]
    refine xt ?_;(try simp only[zz,c11]);cases h26;exact tz [ok 0,ok 1]
   rintro⟨b22,b23⟩ rfl;dsimp only at h10;(try simp only[zz]);cases h10;exact tz [ok 0,ok 1]
  refine xt ?_;(try simp only[zz,c4]);cases h10;exact tz [ok 0]
 rintro b26 rfl;dsimp only at h;(try simp only[zz]);refine ss (rg ?_);(try simp only[zz]);refine ss (ss (rg ?_));(try simp only[zz]);obtain⟨y43,h44,h⟩:=bs h;refine lm h44 (λq=>⟨ds 10 (.own 0 0::ds 37 (.own 1 0::da (b26.length:Int)::da q.2::ds 11 [])),[.live 1 0 (q.1.map da),.live 1 0 (b26.map ya)]⟩) (λb36=>⟨ds 10 (.own 0 0::ds 51 []),[.live 1 0 (b36.map da)]⟩) (tz [on 1,ok 0]) ?_ ?_
 .rintro⟨s27,s28⟩ z45 h46 h47;simp only[Mh]at h46;refine ss (rg ?_);(try simp only[zz]);refine ss (cd rfl ?_);(try simp only[zz]);refine gi h46 (λc29 h46=>?_) λc29 h46=>?_
  .refine sk ?_;(try simp only[zz,c29]);refine jm h46 (λj33=>⟨ds 10 (.own 0 0::ds 37 (.own 1 0::da (b26.length:Int)::da s28::ds 11 [])),[.live 1 0 (j33.map da),.live 1 0 (b26.map ya)]⟩) (λz49 h48=>?_) λj33 h48 h46=>?_
   .refine bk (ss (rg ?_));obtain⟨x30,f51,f52,f53,h48⟩:=bO h48;(try simp only[zz,f51,f52,f53]);refine ss (rg ?_);(try simp only[zz]);refine cd rfl ?_;(try simp only[zz]);refine gi h48 (λc31 h48=>?_) λc31 h48=>?_
    .refine rg ?_;obtain⟨x32,a54,h48⟩:=bs h48;obtain⟨f55,f56⟩:=kz (e:=da) a54;(try simp only[zz]at f55 f56);(try simp only[zz,f55,f56]);cases h48;exact tz [ov 0 1,ok 1]
    refine sk ?_;(try simp only[zz,c31]);cases h48;exact tz [ok 0,ok 1]
   refine rg ?_;(try simp only[zz]);cases h46;exact tz [ok 0,ok 1]
  refine xt ?_;(try simp only[zz,c29]);cases h46;exact tz [ok 0]
 rintro b36 rfl;dsimp only at h;(try simp only[zz]);refine ss (rg ?_);(try simp only[zz]);cases h;exact rt ez
def cH{t1:Int}(h:lj t0 t1=M r):k! al 228 [Xc t0,da t1] (pb r):=BF (W5 h)
instance abj{t0 t1 r}:r? (lj t0 t1=M r) (k! al 228 [Xc t0,da t1] (pb r)):=⟨cH⟩
theorem Kn{t0}{t1:fr->Option Bool}(hc1:ea q1=true)(hp1:∀ x0 r,t1 x0=M r->k! al k1 ([Gd x0]++q1) (ya r)){r} (h:cc t0 t1=M r):k! al 240 [Zs t0,.fn k1 [] q1] (da r):=by
 haveI I1:∀ x0 r,r? (t1 x0=M r) (k! al k1 ([Gd x0]++q1) (ya r)):=λx0 r=>⟨hp1 x0 r⟩
 have s1:∀ f:D->D->Prop,jz f q1 q1=True:=λ_=>vh hc1
 have z1:∀ a b n,qw a b n q1=q1:=λ_ _ _=>Bf _ _ _ _ hc1
 refine k!.at 17 aS1.ok aS1.nm (gH (S3 hc1 lF)) rfl ?_
 simp only[aS1,Kf.of,zs,ze]
 unfold cc at h
 exact pg Tc.eq_1 (.l (EN [33,24,9,2,81] []) (EN [] []) [] .o .o)
theorem tp{t0}(hc1:ea q1=true)(hp1:∀ x0 r,t1 x0=M r->k! al k1 ([Tf x0]++q1) (ya r)){r} (h:Ec t0 t1=M r):k! al 262 [Fk t0,.fn k1 [] q1] (da r):=by
 haveI I1:∀ x0 r,r? (t1 x0=M r) (k! al k1 ([Tf x0]++q1) (ya r)):=λx0 r=>⟨hp1 x0 r⟩
 have s1:∀ f:D->D->Prop,jz f q1 q1=True:=λ_=>vh hc1
 have z1:∀ a b n,qw a b n q1=q1:=λ_ _ _=>Bf _ _ _ _ hc1
 refine k!.at 17 aR3.ok aR3.nm (gH (S3 hc1 lF)) rfl ?_
 simp only[aR3,Kf.of,zs,ze]
 unfold Ec at h
 exact pg Bd.eq_1 (.l (EN [33,24,9,2,81] []) (EN [] []) [] .o .o)
theorem Ny{t0}(hc1:ea q1=true)(hp1:∀ x0 r,t1 x0=M r->k! al k1 ([Tf x0]++q1) (ya r)){r} (h:Hf t0 t1=M r):k! al 268 [Fk t0,.fn k1 [] q1] (.tup [pb r.1,pb r.2]):=by
 haveI I1:∀ x0 r,r? (t1 x0=M r) (k! al k1 ([Tf x0]++q1) (ya r)):=λx0 r=>⟨hp1 x0 r⟩
 have s1:∀ f:D->D->Prop,jz f q1 q1=True:=λ_=>vh hc1
 have z1:∀ a b n,qw a b n q1=q1:=λ_ _ _=>Bf _ _ _ _ hc1
 refine k!.at 57 aR0.ok aR0.nm (gH (S3 hc1 lF)) rfl ?_
 simp only[aR0,Kf.of,zs,ze]
 unfold Hf at h
 exact pg rf.eq_1 (.l (EN [8,25,16,3,11,33,24,17,26,329] [260,268,18]) (EN [48,3,11] [260,268]) [5,5,0] (.z 2 (.j (EN [8,137] [2,266,530]) (.z 2 (.j (EN [8,81,2,49] [0,8,16,24]) (.j (EN [8,137,96,2,225] [0,8,16,24]) .o .o) (.b (.t [256,260,8]) .o))) .o)) .o)
instance kU:C2 br5 Dj:=pg (ak (ak br5.eq_1 Dj.eq_1) Sg.eq_1) (.l (EN [8,25,88,17,2,193] []) (EN [] []) [] (.z 5 (.j (EN [8,41,72,25,80,2,105] []) .o (.b .o (.j (EN [8,33,80,105,96,2,9] []) .o .o)))) .o)
instance N3:C1 bp8 kc:=pg (ak bp8.eq_1 kc.eq_1) (.z 2 (.j (EN [8,9,64,2,577] [0]) .o (.b .o (.b (.j (EN [16,2,57] []) .o .o) (.b (.j (EN [16,2,57] []) .o .o) (.b (.j (EN [16,2,57] []) .o .o) (.b (.j (EN [16,2,57] []) .o .o) (.b (.j (EN [16,2,57] []) .o .o) (.b (.j (EN [16,2,57] []) .o .o) .o)))))))))
instance O7:C2 bp6 Ot:=pg (ak bp6.eq_1 Ot.eq_1) (.z 5 (.j (EN [32,9,8,9,184,2,25] [8]) (.t [4]) .o))
instance N7:C2 bo5 mf:=pg (ak bo5.eq_1 mf.eq_1) (.z 1 (.j (EN [32,2,97] []) .o .o))
instance M7:C1 bn7 Bh:=pg (ak bn7.eq_1 Bh.eq_1) (.z 1 (.j (EN [16,2,81] []) .o .o))
instance abk:C0 k25 rB:=pg (ak k25.eq_1 rB.eq_1) .o
instance D6:C2 k47 Lr:=pg (ak k47.eq_1 Lr.eq_1) (.z 1 (.j (EN [32,2,209] []) .o .o))
instance abl{t0 r}:r? (Dm t0=M r) (k! al 89 [Ra t0] (.tup [da r.1,da r.2])):=⟨λh=>by
 refine dk 82 k89 ?_
 simp only[k89,Kf.of,zs,ze]
 unfold Dm at h
 have q1:∀ (m:List Ent) (o:Option Int),sz false (.v (.int .i64 0)) m (o.map da)=M (.v (.int .i64 (o.getD 0)),m):=λ_ o=>by cases o <;> rfl
 have q2:∀ (k:Int) (x:Int) l,Er (.int .i64 k) (.v (.int .i64 x)) (em da l)=em da (ZC k x l):=λ_ _ _=>aG (e:=da)
 have q3:=λl=>MF (e:=da) (l:=l)
 exact pg qi.eq_1 (.l (EN [17,16,25,32,17,10,553] [5]) (EN [] []) [] (.z 5 (.j (EN [113,32,2,513] [0,8]) (.j (EN [113,32,2,513] [0,8]) .o (.j (EN [145,2,513] [0,8]) .o .o)) (.b .o (.j (EN [145,208,2,305] [0,8]) .o (.b .o (.j (EN [353,80,2,225] [0,8]) .o .o)))))) .o)⟩
instance WT:C4 bD1 bj:=pg (ak bD1.eq_1 bj.eq_1) (.b .o (.b .o (.j (EN [8,17,8,41,112,2,273] [0,8]) .o (.b .o (.j (EN [8,177,112,2,161] [0,8]) .o .o)))))
instance R9:C2 bz5 F?:=pg (ak bz5.eq_1 F?.eq_1) (.z 1 (.j (EN [32,2,97] []) .o .o))
instance R3:C1 bz1 Mk:=pg (ak bz1.eq_1 Mk.eq_1) (.z 1 (.j (EN [16,2,73] []) .o .o))
instance aU:C1 bw6 Pc:=pg (ak bw6.eq_1 Pc.eq_1) (.z 1 (.j (EN [16,2,73] []) .o .o))
theorem im{t0}{t1:fr->Option Bool}(hc1:ea q1=true)(hp1:∀ x0 r,t1 x0=M r->k! al k1 ([Gd x0]++q1) (ya r)){r} (h:ub t0 t1=M r):k! al 212 [Zs t0,.fn k1 [] q1] (ya r):=by
 haveI I1:∀ x0 r,r? (t1 x0=M r) (k! al k1 ([Gd x0]++q1) (ya r)):=λx0 r=>⟨hp1 x0 r⟩
 have s1:∀ f:D->D->Prop,jz f q1 q1=True:=λ_=>vh hc1
 have z1:∀ a b n,qw a b n q1=q1:=λ_ _ _=>Bf _ _ _ _ hc1
 haveI:∀ y0 r,r? (cc y0 t1=M r) (k! al 240 [Zs y0,.fn k1 [] q1] (da r)):=λy0 r=>⟨Kn hc1 hp1⟩
 refine k!.at 7 aS5.ok aS5.nm (gH (S3 hc1 lF)) rfl ?_
 simp only[aS5,Kf.of,zs,ze]
 unfold ub at h
 exact pg trivial .o
instance GQ:C2 bu4 Ac:=pg (ak bu4.eq_1 Ac.eq_1) (.z 1 (.j (EN [32,2,113] []) .o .o))
theorem pn{t0}(hc1:ea q1=true)(hp1:∀ x0 r,t1 x0=M r->k! al k1 ([Tf x0]++q1) (ya r)){r} (h:Bb t0 t1=M r):k! al 244 [Fk t0,.fn k1 [] q1] (ya r):=by
 haveI I1:∀ x0 r,r? (t1 x0=M r) (k! al k1 ([Tf x0]++q1) (ya r)):=λx0 r=>⟨hp1 x0 r⟩
 have s1:∀ f:D->D->Prop,jz f q1 q1=True:=λ_=>vh hc1
 have z1:∀ a b n,qw a b n q1=q1:=λ_ _ _=>Bf _ _ _ _ hc1
 haveI:∀ y0 r,r? (Ec y0 t1=M r) (k! al 262 [Fk y0,.fn k1 [] q1] (da r)):=λy0 r=>⟨tp hc1 hp1⟩
 refine k!.at 7 aR9.ok aR9.nm (gH (S3 hc1 lF)) rfl ?_
 simp only[aR9,Kf.of,zs,ze]
 unfold Bb at h
 exact pg trivial .o
instance bU:C1 bq1 oj:=pg (ak (ak bq1.eq_1 oj.eq_1) Kg.eq_1) (.l (EN [40,17,2,57] []) (EN [] []) [] .o .o)
instance Saa:C2 bo9 Xo:=pg (ak bo9.eq_1 Xo.eq_1) (.z 1 (.j (EN [32,2,129] []) .o .o))
instance yR:C2 bo8 og:=pg (ak bo8.eq_1 og.eq_1) (.b .o (.b (.j (EN [32,2] []) .o .o) (.b (.j (EN [32,2] []) .o .o) .o)))
instance cU:C2 bo7 pc:=pg (ak bo7.eq_1 pc.eq_1) .o
instance xR:C3 bo6 eb:=pg (ak bo6.eq_1 eb.eq_1) (.z 3 (.j (EN [32,17,8,9,2,1001] [0,8]) .o (.b (.j (EN [48,2] []) .o .o) (.b (.j (EN [48,2] []) .o .o) (.b (.j (EN [48,2] []) .o .o) (.b (.z 2 (.j (EN [48,2] []) .o .o)) (.b (.j (EN [48,2] []) .o .o) (.j (EN [32,33,576,2,425] [0,8]) .o (.b (.j (EN [48,2] []) .o .o) (.j (EN [32,609,144,2,281] [0,8]) .o (.b .o (.j (EN [32,753,48,2,233] [0,8]) .o (.b (.j (EN [48,2] []) .o .o) (.j (EN [32,25,864,2,145] [0,8]) .o (.j (EN [48,2,865] []) .o .o)))))))))))))))
end Go.Proofs.Dev
