/-
  Contracts of the functions: each answers as its plain partial function says.
-/
import Derived.Test.YtjjfnbpfgfopbaaGreatDoorK
import Derived.Test.YtjjfnbpfgfopbaaGreatDoorG
import Derived.Test.YtjjfnbpfgfopbaaGreatDoorPE
import Derived.Test.YtjjfnbpfgfopbaaGreatDoorH1
import Derived.Test.YtjjfnbpfgfopbaaGreatDoorH2
import Derived.Test.YtjjfnbpfgfopbaaGreatDoorL1
open Option.some renaming inj->Raa
set_option linter.all false
set_option maxHeartbeats 1000000
set_option maxRecDepth 10000
namespace Go.Proofs.Dev
open Go Go.Tm
instance zI48{t0 r}:Con (Eg t0=some r) (Den Tryz.prog 67 [Ma t0] (ba r)):=⟨λh=>by
 refine dk 92 k67 ?_
 simp only[k67,Kf.of,zs,ze]
 unfold Eg at h
 exact pg (And.intro @Eh.eq_1 (And.intro @Fh.eq_1 @Hh.eq_1)) (.z 2 (.j 1 (λ(j4:Bool)=>⟨[.k 1,.p 1,.k 26,.s (ba j4),.p 64],[.o 0]⟩) (.b (.b (.b (.t [ok 0]) (.t [ok 0])) (.t [ok 0])) (.t [ok 0])) (.b .o (.l 1 0 (λ(s6:Int)=>⟨[.k 1,.p 2,.s (aa s6),.p 24],[.o 0]⟩) (λ(_:Unit)=>⟨[.k 1,.p 2],[.o 0]⟩) [ok 0] (.b (.b .o (.t [ok 0])) (.t [ok 0])) (.l 1 0 (λ(s11:Int)=>⟨[.k 1,.p 3,.s (aa s11),.p 88],[.o 0]⟩) (λ(_:Unit)=>⟨[.k 1,.p 3],[.o 0]⟩) [ok 0] (.b (.b .o (.t [ok 0])) (.t [ok 0])) (.l 1 0 (λ(s16:Int)=>⟨[.k 1,.p 4,.s (aa s16),.p 87],[.o 0]⟩) (λ(_:Unit)=>⟨[],[]⟩) [ok 0] (.b (.z 2 (.j 1 (λ(j22:Bool)=>⟨[.k 1,.p 5,.k 86,.s (ba j22)],[.o 0]⟩) (.b (.b (.b (.t [ok 0]) (.t [ok 0])) (.t [ok 0])) (.t [ok 0])) (.b .o (.t [ok 0])))) (.t [])) .o))))))⟩
instance zI49{t0 t1 r}:Con (Yc t0 t1=some r) (Den Tryz.prog 76 [xb t0,aa t1] (.tup [Cb r.1,ba r.2])):=⟨λh=>by
 refine dk 26 k76 ?_
 simp only[k76,Kf.of,zs,ze]
 unfold Yc at h
 exact pg trivial (.z 3 (.j 1 (λ(j3:Bool)=>⟨[.k 2,.p 2,.k 2,.p 1,.k 14,.s (ba j3),.p 6],[.o 0]⟩) (.b (.t [ok 0]) (.t [ok 0])) .o))⟩
theorem Hx{t0 r : List GAppeal} (h : Xa t0 = some r) : Den Tryz.prog 81 [Gd t0] (Gd r) := by
  unfold Xa at h
  split at h
  · rename_i hl
    obtain rfl := Raa h
    refine dk 7 k81 ?_
    simp only[k81,Kf.of,zs,ze]
    refine T.Tj ?_
    refine T.rg ?_
    simp only[zx, ze]
    refine T.Tj ?_
    refine T.Tj ?_
    refine T.Bo (i := 0) (S := 7) (l := t0.map bb) rfl (Fr.l _) (by simp) (by decide) (by decide) (by decide) ?_
    intro b hb
    have happ : app 56 ([] : List GAppeal) t0 = some t0 := by unfold app; rw[if_pos (by simp; omega)]; simp
    cases b with
    | true =>
      have hz : t0 = [] := by
        cases t0 with
        | nil => rfl
        | cons x l => exact absurd (hb (by simp)) (by simp)
      subst hz
      simp only[zx, ze]
      refine T.cd rfl ?_
      refine gP.mk (λ_ => ?_) (λh => absurd rfl h)
      refine T.Tj ?_
      refine T.rg ?_
      simp only[zx, ze]
      exact T.ret <| qo (by simp only[zx, ze, gn, Af, Bf, Sd]; exact WB (by simp only[zq, ze]))
    | false =>
      simp only[zx, ze]
      refine T.cd rfl ?_
      refine gP.mk (λh => by cases h) (λ_ => ?_)
      refine T.skip ?_
      simp only[zx, ze]
      refine T.Tj ?_
      refine T.rg ?_
      obtain⟨f1, f2⟩ := Gv (e := bb) happ
      try simp only[zx, ze] at f1 f2
      simp only[zx, ze, f1, f2]
      exact T.ret <| qo (by simp only[zx, ze, gn, Af, Bf, Sd]; exact WB (by simp only[zq, ze]))
  · cases h
instance zIc81{t0 r}:Con (Xa t0=some r) (Den Tryz.prog 81 [Gd t0] (Gd r)):=⟨Hx⟩
theorem Dn{t0 r} (h:jb t0=some r):Ox Tryz.prog 81 [Gd t0] 7 (r.map bb):= by
  unfold jb Xa at h
  split at h
  · rename_i hl
    obtain rfl := Raa h
    refine Ox.at 7 k81.ok k81.nm FrL.h (Fr.l _) rfl ?_
    simp only[k81,Kf.of,zs,ze]
    refine T.Tj ?_
    refine T.rg ?_
    simp only[zx, ze]
    refine T.Tj ?_
    refine T.Tj ?_
    refine T.Bo (i := 0) (S := 7) (l := t0.map bb) rfl (Fr.l _) (by simp) (by decide) (by decide) (by decide) ?_
    intro b hb
    have happ : app 56 ([] : List GAppeal) t0 = some t0 := by unfold app; rw[if_pos (by simp; omega)]; simp
    cases b with
    | true =>
      have hz : t0 = [] := by
        cases t0 with
        | nil => rfl
        | cons x l => exact absurd (hb (by simp)) (by simp)
      subst hz
      simp only[zx, ze]
      refine T.cd rfl ?_
      refine gP.mk (λ_ => ?_) (λh => absurd rfl h)
      refine T.Tj ?_
      refine T.rg ?_
      simp only[zx, ze]
      exact T.ret <| Wr (by simp only[zx, ze, Yr, Af, Bf, Sd]; exact Tells.q [(none, 7, 0)] rfl (by decide) (by simp only[zq, ze]))
    | false =>
      simp only[zx, ze]
      refine T.cd rfl ?_
      refine gP.mk (λh => by cases h) (λ_ => ?_)
      refine T.skip ?_
      simp only[zx, ze]
      refine T.Tj ?_
      refine T.rg ?_
      obtain⟨f1, f2⟩ := Gv (e := bb) happ
      try simp only[zx, ze] at f1 f2
      simp only[zx, ze, f1, f2]
      exact T.ret <| Wr (by simp only[zx, ze, Yr, Af, Bf, Sd]; exact Tells.q [(some 0, 1, 0)] rfl (by decide) (by simp only[zq, ze]))
  · cases h
instance zI50{t0 r}:Con2 (jb t0=some r) (Ox Tryz.prog 81 [Gd t0] 7 (r.map bb)):=⟨Dn⟩
theorem En{t0 t1 r} (h:Rb t0 t1=some r):Den Tryz.prog 88 [Ia t0,Qp t1] (ba r):=by
 refine dk 7 k88 ?_
 simp only[k88,Kf.of,zs,ze]
 unfold Rb at h
 exact pg trivial .o
instance zI51{t0 t1 r}:Con (Rb t0 t1=some r) (Den Tryz.prog 88 [Ia t0,Qp t1] (ba r)):=⟨En⟩
instance zI52{t0 r}:Con (Od t0=some r) (Den Tryz.prog 109 [aa t0] (ba r)):=⟨λh=>by
 refine dk 8 k109 ?_
 simp only[k109,Kf.of,zs,ze]
 unfold Od at h
 exact pg trivial (.z 1 (.j 1 (λ(j2:Bool)=>⟨[.k 2,.s (ba j2),.p 6],[]⟩) (.b (.t []) (.t [])) .o))⟩
instance zI53{t0 r}:Con (Cg t0=some r) (Den Tryz.prog 117 [aa t0] (ba r)):=⟨λh=>by
 refine dk 8 k117 ?_
 simp only[k117,Kf.of,zs,ze]
 unfold Cg at h
 exact pg trivial (.z 1 (.j 1 (λ(j2:Bool)=>⟨[.k 2,.s (ba j2),.p 6],[]⟩) (.b (.t []) (.t [])) .o))⟩
instance zI54{t0 t1 r}:Con (Se t0 t1=some r) (Den Tryz.prog 118 [aa t0,aa t1] (ba r)):=⟨λh=>by
 refine dk 12 k118 ?_
 simp only[k118,Kf.of,zs,ze]
 unfold Se at h
 exact pg trivial (.z 1 (.j 1 (λ(j2:Bool)=>⟨[.k 4,.s (ba j2),.p 9],[]⟩) (.b (.t []) (.t [])) .o))⟩
instance zI55{t0 r}:Con (ee t0=some r) (Den Tryz.prog 120 [aa t0] (Rh r)):=⟨λh=>by
 refine dk 9 k120 ?_
 simp only[k120,Kf.of,zs,ze]
 unfold ee at h
 exact pg trivial .o⟩
instance zI56{t0 t1 t2 t3 t4 r}:Con (De t0 t1 t2 t3 t4=some r) (Den Tryz.prog 122 [Rh t0,Rh t1,Rh t2,ba t3,aa t4] (Rh r)):=⟨λh=>by
 refine dk 50 k122 ?_
 simp only[k122,Kf.of,zs,ze]
 unfold De at h
 exact pg trivial (.b .o (.z 1 (.j 1 (λ(j9:Bool)=>⟨[.p 1,.k 10,.s (ba j9)],[]⟩) (.b (.t []) (.b (.t []) (.b (.t []) (.b (.t []) (.b (.b (.b (.t []) (.t [])) (.t [])) (.t [])))))) (.j 1 (λ(j11:Int)=>⟨[.s (.v (.int .u64 j11)),.p 10],[]⟩) (.b (.t []) (.t [])) .o))))⟩
instance zI57{t0 t1 r}:Con (qn t0 t1=some r) (Den Tryz.prog 123 [Rh t0,ba t1] (aa r)):=⟨λh=>by
 refine dk 9 k123 ?_
 simp only[k123,Kf.of,zs,ze]
 unfold qn at h
 exact pg trivial .o⟩
instance zI58{t0 r}:Con (zc t0=some r) (Den Tryz.prog 140 [aa t0] (ba r)):=⟨λh=>by
 refine dk 8 k140 ?_
 simp only[k140,Kf.of,zs,ze]
 unfold zc at h
 exact pg trivial (.z 1 (.j 1 (λ(j2:Bool)=>⟨[.k 2,.s (ba j2),.p 6],[]⟩) (.b (.t []) (.t [])) .o))⟩
theorem xp{t0}{t1:GRow->Option Bool}{k1:Nat}{q1:List D}(hc1:fa q1=true)(hp1:∀ x0 r,t1 x0=some r->Den Tryz.prog k1 ([Cj x0]++q1) (ba r)){r} (h:Wb t0 t1=some r):Den Tryz.prog 175 [Cu t0,.fn k1 [] q1] (.tup [aa r.1,ba r.2]):=by
 haveI I1:∀ x0 r,Con (t1 x0=some r) (Den Tryz.prog k1 ([Cj x0]++q1) (ba r)):=λx0 r=>⟨hp1 x0 r⟩
 have s1:∀ f:D->D->Prop,Rv f q1 q1=True:=λ_=>Og hc1
 have z1:∀ a b n,du a b n q1=q1:=λ_ _ _=>Ue _ _ _ _ hc1
 refine Den.at 18 Q9.ok Q9.nm (DC (QQ hc1 FA)) rfl ?_
 simp only[Q9,Kf.of,zs,ze]
 unfold Wb at h
 exact pg @Lb.eq_1 (.l 1 0 (λ(s1:Int)=>⟨[.k 1,.p 3,.k 4,.p 2,.s (aa s1),.p 9],[]⟩) (λ(_:Unit)=>⟨[],[]⟩) [] (.b (.b .o (.t [])) (.t [])) .o)
theorem Gs{t0 t1 r} (h:kf t0 t1=some r):Den Tryz.prog 184 [Qb t0,oq t1] (ba r):=by
 refine dk 6 k184 ?_
 simp only[k184,Kf.of,zs,ze]
 unfold kf at h
 exact pg trivial .o
instance zI59{t0 t1 r}:Con (kf t0 t1=some r) (Den Tryz.prog 184 [Qb t0,oq t1] (ba r)):=⟨Gs⟩
theorem Qq{t0 t1 r} (h:Hd t0 t1=some r):Den Tryz.prog 186 [Ma t0,Sp t1] (ba r):=by
 refine dk 7 k186 ?_
 simp only[k186,Kf.of,zs,ze]
 unfold Hd at h
 exact pg trivial .o
instance zI60{t0 t1 r}:Con (Hd t0 t1=some r) (Den Tryz.prog 186 [Ma t0,Sp t1] (ba r)):=⟨Qq⟩
instance zI61{t0 t1 r}:Con (Ds t0 t1=some r) (Den Tryz.prog 194 [sb t0,sb t1] (ba r)):=⟨λh=>by
 refine dk 18 k194 ?_
 simp only[k194,Kf.of,zs,ze]
 unfold Ds at h
 exact pg trivial .o⟩
instance zI62{t0 t1 r}:Con (Jh t0 t1=some r) (Den Tryz.prog 204 [Dz t0,fj t1] (aa r)):=⟨λh=>by
 refine dk 17 k204 ?_
 simp only[k204,Kf.of,zs,ze]
 unfold Jh at h
 exact pg @Ld.eq_1 (.l 1 0 (λ(s1:Int)=>⟨[.p 4,.k 3,.p 1,.s (aa s1),.p 10],[]⟩) (λ(_:Unit)=>⟨[],[]⟩) [] (.b (.b .o (.t [])) (.t [])) .o)⟩
theorem tn{t0}{t1:GEnum->Option Bool}{k1:Nat}{q1:List D}(hc1:fa q1=true)(hp1:∀ x0 r,t1 x0=some r->Den Tryz.prog k1 ([Nh x0]++q1) (ba r)){r} (h:pc t0 t1=some r):Den Tryz.prog 207 [gh t0,.fn k1 [] q1] (aa r):=by
 haveI I1:∀ x0 r,Con (t1 x0=some r) (Den Tryz.prog k1 ([Nh x0]++q1) (ba r)):=λx0 r=>⟨hp1 x0 r⟩
 have s1:∀ f:D->D->Prop,Rv f q1 q1=True:=λ_=>Og hc1
 have z1:∀ a b n,du a b n q1=q1:=λ_ _ _=>Ue _ _ _ _ hc1
 refine Den.at 17 V9.ok V9.nm (DC (QQ hc1 FA)) rfl ?_
 simp only[V9,Kf.of,zs,ze]
 unfold pc at h
 exact pg @bd.eq_1 (.l 1 0 (λ(s1:Int)=>⟨[.p 4,.k 3,.p 1,.s (aa s1),.p 10],[]⟩) (λ(_:Unit)=>⟨[],[]⟩) [] (.b (.b .o (.t [])) (.t [])) .o)
theorem Wl{t0}{t1:GScope->Option Bool}{k1:Nat}{q1:List D}(hc1:fa q1=true)(hp1:∀ x0 r,t1 x0=some r->Den Tryz.prog k1 ([Ma x0]++q1) (ba r)){r} (h:Ub t0 t1=some r):Den Tryz.prog 209 [Zn t0,.fn k1 [] q1] (aa r):=by
 haveI I1:∀ x0 r,Con (t1 x0=some r) (Den Tryz.prog k1 ([Ma x0]++q1) (ba r)):=λx0 r=>⟨hp1 x0 r⟩
 have s1:∀ f:D->D->Prop,Rv f q1 q1=True:=λ_=>Og hc1
 have z1:∀ a b n,du a b n q1=q1:=λ_ _ _=>Ue _ _ _ _ hc1
 refine Den.at 17 X9.ok X9.nm (DC (QQ hc1 FA)) rfl ?_
 simp only[X9,Kf.of,zs,ze]
 unfold Ub at h
 exact pg @Ic.eq_1 (.l 1 0 (λ(s1:Int)=>⟨[.p 4,.k 3,.p 1,.s (aa s1),.p 10],[]⟩) (λ(_:Unit)=>⟨[],[]⟩) [] (.b (.b .o (.t [])) (.t [])) .o)
instance zI63{t0 t1 r}:Con (Im t0 t1=some r) (Den Tryz.prog 217 [ua t0,aa t1] (aa r)):=⟨λh=>by
 refine dk 17 k217 ?_
 simp only[k217,Kf.of,zs,ze]
 unfold Im at h
 exact pg @tg.eq_1 (.l 1 0 (λ(s1:Int)=>⟨[.p 4,.k 3,.p 1,.s (aa s1),.p 10],[]⟩) (λ(_:Unit)=>⟨[],[]⟩) [] (.b (.b .o (.t [])) (.t [])) .o)⟩
theorem pv{t0}{t1:GRule->Option Bool}{k1:Nat}{q1:List D}(hc1:fa q1=true)(hp1:∀ x0 r,t1 x0=some r->Den Tryz.prog k1 ([gb x0]++q1) (ba r)){r} (h:af t0 t1=some r):Den Tryz.prog 235 [Ye t0,.fn k1 [] q1] (.tup [ua r.1,ua r.2]):=by
 haveI I1:∀ x0 r,Con (t1 x0=some r) (Den Tryz.prog k1 ([gb x0]++q1) (ba r)):=λx0 r=>⟨hp1 x0 r⟩
 have s1:∀ f:D->D->Prop,Rv f q1 q1=True:=λ_=>Og hc1
 have z1:∀ a b n,du a b n q1=q1:=λ_ _ _=>Ue _ _ _ _ hc1
 refine Den.at 57 iaa.ok iaa.nm (DC (QQ hc1 FA)) rfl ?_
 simp only[iaa,Kf.of,zs,ze]
 unfold af at h
 exact pg @Me.eq_1 (.l 4 2 (λ(q:((List Int) × (List Int) × (List Int) × Int))=>⟨[.k 1,.p 3,.k 2,.s (.own 0 0),.s (.own 1 0),.p 4,.k 3,.p 2,.s (aa q.2.2.2),.p 41],[.n 1 ((q.1.map aa)),.n 1 ((q.2.1.map aa)),.c 0 ((q.2.2.1.map aa))]⟩) (λ(q:((List Int) × (List Int)))=>⟨[.k 6,.s (.own 0 0),.s (.own 1 0)],[.n 1 ((q.1.map aa)),.n 1 ((q.2.map aa))]⟩) [on 1,on 1,ok 0] (.b (.j 3 (λ(q:((List Int) × (List Int) × (List Int)))=>⟨[.k 1,.p 17],[.c 0 ((q.1.map aa)),.c 1 ((q.2.1.map aa)),.c 2 ((q.2.2.map aa))]⟩) (.z 2 (.j 1 (λ(j12:Int)=>⟨[.k 1,.p 10,.s (aa j12),.p 6],[.o 0,.o 1,.o 2,.o 3]⟩) (.j 1 (λ(j9:Bool)=>⟨[.k 1,.p 17,.k 12,.s (ba j9),.p 28],[.o 0,.o 1,.o 2,.o 3]⟩) (.b (.t [ok 0,ok 1,ok 2,ok 3]) (.t [ok 0,ok 1,ok 2,ok 3])) (.b (.t [ok 0,ok 1,ok 2,ok 3]) (.t [ok 0,ok 1,ok 2,ok 3]))) (.b (.t [ov 0 1,ov 1 1,ok 2]) (.t [ok 0,ok 1,ok 2])))) (.t [ok 0,ok 1,ok 2])) (.t [ok 0,ok 1])) .o)
instance zI64{t0 r}:Con (xm t0=some r) (Den Tryz.prog 245 [aa t0] (ba r)):=⟨λh=>by
 refine dk 21 k245 ?_
 simp only[k245,Kf.of,zs,ze]
 unfold xm at h
 exact pg trivial (.z 3 (.j 1 (λ(j17:Bool)=>⟨[.k 4,.s (ba j17),.p 17],[]⟩) (.b (.t []) (.b (.t []) (.b (.t []) (.b (.t []) (.b (.t []) (.b (.t []) (.b (.t []) (.b (.t []) (.b (.t []) (.b (.t []) (.b (.t []) (.b (.t []) (.b (.t []) (.b (.t []) (.b (.t []) (.b (.t []) (.t []))))))))))))))))) .o))⟩
instance zI65{t0 r}:Con (aj t0=some r) (Den Tryz.prog 246 [aa t0] (aa r)):=⟨λh=>by
 refine dk 46 k246 ?_
 simp only[k246,Kf.of,zs,ze]
 unfold aj at h
 exact pg trivial (.z 3 (.j 1 (λ(j14:Bool)=>⟨[.k 3,.p 1,.s (ba j14),.p 42],[]⟩) (.b (.t []) (.b (.t []) (.b (.t []) (.b (.t []) (.b (.t []) (.b (.t []) (.b (.t []) (.b (.t []) (.b (.t []) (.b (.t []) (.b (.t []) (.b (.t []) (.b (.t []) (.t [])))))))))))))) (.b .o (.j 1 (λ(j21:Bool)=>⟨[.k 3,.p 1,.k 15,.s (ba j21),.p 27],[]⟩) (.b (.t []) (.b (.t []) (.b (.t []) (.b (.t []) (.b (.t []) (.t [])))))) (.b .o (.j 1 (λ(j40:Bool)=>⟨[.k 3,.p 16,.k 7,.s (ba j40),.p 20],[]⟩) (.b (.t []) (.b (.t []) (.b (.t []) (.b (.t []) (.b (.t []) (.b (.t []) (.b (.t []) (.b (.t []) (.b (.t []) (.b (.t []) (.b (.t []) (.b (.t []) (.b (.t []) (.b (.t []) (.b (.t []) (.b (.t []) (.b (.t []) (.t [])))))))))))))))))) .o))))))⟩
instance zI66{t0 r}:Con (rk t0=some r) (Den Tryz.prog 248 [aa t0] (ba r)):=⟨λh=>by
 refine dk 8 k248 ?_
 simp only[k248,Kf.of,zs,ze]
 unfold rk at h
 exact pg trivial (.z 1 (.j 1 (λ(j2:Bool)=>⟨[.k 2,.s (ba j2),.p 6],[]⟩) (.b (.t []) (.t [])) .o))⟩
instance zI67{t0 r}:Con (Xb t0=some r) (Den Tryz.prog 256 [ra t0] (ba r)):=⟨λh=>by
 refine dk 82 k256 ?_
 simp only[k256,Kf.of,zs,ze]
 unfold Xb at h
 exact pg trivial (.z 2 (.j 1 (λ(j2:Bool)=>⟨[.k 1,.p 1,.k 8,.s (ba j2),.p 72],[.o 0]⟩) (.b (.t [ok 0]) (.t [ok 0])) (.b .o (.b (.j 1 (λ(j6:Bool)=>⟨[.k 2,.s (ba j6),.p 7],[]⟩) (.b (.t []) (.t [])) .o) (.b (.j 1 (λ(j9:Bool)=>⟨[.k 2,.s (ba j9),.p 7],[]⟩) (.b (.t []) (.t [])) .o) (.b (.j 1 (λ(j12:Bool)=>⟨[.k 2,.s (ba j12),.p 7],[]⟩) (.b (.t []) (.t [])) .o) (.b (.j 1 (λ(j15:Bool)=>⟨[.k 2,.s (ba j15),.p 7],[]⟩) (.b (.t []) (.t [])) .o) (.b (.j 1 (λ(j18:Bool)=>⟨[.k 2,.s (ba j18),.p 7],[]⟩) (.b (.t []) (.t [])) .o) (.b (.j 1 (λ(j23:Bool)=>⟨[.k 2,.s (ba j23),.p 7],[]⟩) (.b (.b (.b (.t []) (.t [])) (.t [])) (.t [])) .o) .o)))))))))⟩
instance zI68{t0 r}:Con (Pj t0=some r) (Den Tryz.prog 297 [aa t0] (ba r)):=⟨λh=>by
 refine dk 8 k297 ?_
 simp only[k297,Kf.of,zs,ze]
 unfold Pj at h
 exact pg trivial (.z 1 (.j 1 (λ(j2:Bool)=>⟨[.k 2,.s (ba j2),.p 6],[]⟩) (.b (.t []) (.t [])) .o))⟩
instance zI69{t0 t1 r}:Con (Li t0 t1=some r) (Den Tryz.prog 298 [aa t0,aa t1] (ba r)):=⟨λh=>by
 refine dk 12 k298 ?_
 simp only[k298,Kf.of,zs,ze]
 unfold Li at h
 exact pg trivial (.z 1 (.j 1 (λ(j2:Bool)=>⟨[.k 4,.s (ba j2),.p 9],[]⟩) (.b (.t []) (.t [])) .o))⟩
instance zI70{t0 t1 t2 t3 t4 r}:Con (On t0 t1 t2 t3 t4=some r) (Den Tryz.prog 299 [Rh t0,Rh t1,Rh t2,ba t3,aa t4] (ba r)):=⟨λh=>by
 refine dk 44 k299 ?_
 simp only[k299,Kf.of,zs,ze]
 unfold On at h
 exact pg trivial (.b .o (.b .o (.b .o (.b .o (.b .o (.b (.j 1 (λ(j9:Bool)=>⟨[.k 10,.s (ba j9)],[]⟩) (.b (.b (.t []) (.t [])) (.t [])) .o) .o))))))⟩
instance zI71{t0 r}:Con (Jn t0=some r) (Den Tryz.prog 22 [Ca t0] (ua r)):=⟨λh=>by
 refine dk 21 k22 ?_
 simp only[k22,Kf.of,zs,ze]
 unfold Jn at h
 exact pg @Mj.eq_1 (.l 2 1 (λ(q:((List Int) × Int))=>⟨[.k 3,.s (.own 0 0),.p 4,.s (aa q.2),.p 13],[.n 1 ((q.1.map aa))]⟩) (λ(b8:(List Int))=>⟨[.k 3,.s (.own 0 0),.p 2],[.n 1 ((b8.map aa))]⟩) [on 1] (.b (.t [ov 0 1]) (.t [ok 0])) .o)⟩
instance zI72{t0 r}:Con (Pn t0=some r) (Den Tryz.prog 28 [xb t0] (ba r)):=⟨λh=>by
 refine dk 126 k28 ?_
 simp only[k28,Kf.of,zs,ze]
 unfold Pn at h
 exact pg (And.intro @Qi.eq_1 (And.intro @Ri.eq_1 (And.intro @Si.eq_1 @nh.eq_1))) (.z 2 (.j 1 (λ(j3:Bool)=>⟨[.k 1,.p 1,.k 22,.s (ba j3),.p 102],[.o 0]⟩) (.b (.b (.t [ok 0]) (.t [ok 0])) (.t [ok 0])) (.b .o (.l 1 0 (λ(s5:Int)=>⟨[.k 1,.p 4,.s (aa s5),.p 18],[.o 0]⟩) (λ(_:Unit)=>⟨[.k 1,.p 4],[.o 0]⟩) [ok 0] (.b (.z 2 (.j 1 (λ(j9:Bool)=>⟨[.k 1,.p 24,.k 24,.s (ba j9),.p 77],[.o 0]⟩) (.b (.t [ok 0]) (.t [ok 0])) (.b .o (.l 1 0 (λ(s11:Int)=>⟨[.k 1,.p 5,.s (aa s11),.p 42],[.o 0]⟩) (λ(_:Unit)=>⟨[.k 1,.p 5],[.o 0]⟩) [ok 0] (.b (.b .o (.t [ok 0])) (.t [ok 0])) (.t [ok 0]))))) (.t [ok 0])) (.l 2 0 (λ(q:(Int × Int))=>⟨[.k 1,.p 2,.s (aa q.1),.p 3,.s (aa q.2),.p 119],[.o 0]⟩) (λ(_:Unit)=>⟨[.k 1,.p 2,.k 1,.p 3],[.o 0]⟩) [ok 0] (.b (.z 2 (.j 1 (λ(j23:Bool)=>⟨[.k 1,.p 71,.k 27,.s (ba j23),.p 27],[.o 0]⟩) (.b (.t [ok 0]) (.t [ok 0])) (.b .o (.t [ok 0])))) (.t [ok 0])) (.l 2 0 (λ(q:(Int × Int))=>⟨[.k 1,.p 3,.s (aa q.1),.p 3,.s (aa q.2),.p 118],[.o 0]⟩) (λ(_:Unit)=>⟨[],[]⟩) [ok 0] (.b (.z 2 (.j 1 (λ(j33:Bool)=>⟨[.k 1,.p 99,.k 26,.s (ba j33)],[.o 0]⟩) (.b (.t [ok 0]) (.t [ok 0])) (.b .o (.t [ok 0])))) (.t [])) .o))))))⟩
instance zI73{t0 r}:Con (Vd t0=some r) (Den Tryz.prog 75 [Vg t0] (ba r)):=⟨λh=>by
 refine dk 44 k75 ?_
 simp only[k75,Kf.of,zs,ze]
 unfold Vd at h
 exact pg @ld.eq_1 (.z 2 (.j 1 (λ(j3:Bool)=>⟨[.k 1,.p 1,.k 16,.s (ba j3),.p 26],[.o 0]⟩) (.b (.b (.t [ok 0]) (.t [ok 0])) (.t [ok 0])) (.b .o (.l 1 0 (λ(s5:Int)=>⟨[.k 1,.p 17,.k 2,.p 2,.s (aa s5),.p 22],[.o 0]⟩) (λ(_:Unit)=>⟨[],[]⟩) [ok 0] (.b (.z 2 (.j 1 (λ(j12:Bool)=>⟨[.k 1,.p 2,.k 17,.p 3,.k 20,.s (ba j12),.p 1],[.o 0]⟩) (.b (.b (.t [ok 0]) (.t [ok 0])) (.t [ok 0])) (.b .o (.t [ok 0])))) (.t [])) .o))))⟩
instance zI74{t0 t1 t2 t3 r}:Con (bp t0 t1 t2 t3=some r) (Den Tryz.prog 91 [aa t0,aa t1,aa t2,aa t3] (.tup [aa r.1,aa r.2])):=⟨λh=>by
 refine dk 68 k91 ?_
 simp only[k91,Kf.of,zs,ze]
 unfold bp at h
 exact pg trivial (.b .o (.b .o (.z 1 (.j 1 (λ(j9:Bool)=>⟨[.p 8,.k 22,.s (ba j9),.p 41],[]⟩) (.b (.b (.t []) (.t [])) (.t [])) .o))))⟩
instance zI75{t0 t1 t2 r}:Con (Re t0 t1 t2=some r) (Den Tryz.prog 104 [aa t0,aa t1,aa t2] (.tup [aa r.1,aa r.2])):=⟨λh=>by
 refine dk 42 k104 ?_
 simp only[k104,Kf.of,zs,ze]
 unfold Re at h
 exact pg trivial (.b .o (.b .o (.z 1 (.j 1 (λ(j7:Bool)=>⟨[.p 6,.k 16,.s (ba j7),.p 22],[]⟩) (.b (.t []) (.t [])) .o))))⟩
instance zI76{t0 t1 r}:Con (Kd t0 t1=some r) (Den Tryz.prog 174 [Dz t0,fj t1] (ba r)):=⟨λh=>by
 refine dk 7 k174 ?_
 simp only[k174,Kf.of,zs,ze]
 unfold Kd at h
 exact pg trivial .o⟩
theorem El{t0}{t1:GEnum->Option Bool}{k1:Nat}{q1:List D}(hc1:fa q1=true)(hp1:∀ x0 r,t1 x0=some r->Den Tryz.prog k1 ([Nh x0]++q1) (ba r)){r} (h:eb t0 t1=some r):Den Tryz.prog 181 [gh t0,.fn k1 [] q1] (ba r):=by
 haveI I1:∀ x0 r,Con (t1 x0=some r) (Den Tryz.prog k1 ([Nh x0]++q1) (ba r)):=λx0 r=>⟨hp1 x0 r⟩
 have s1:∀ f:D->D->Prop,Rv f q1 q1=True:=λ_=>Og hc1
 have z1:∀ a b n,du a b n q1=q1:=λ_ _ _=>Ue _ _ _ _ hc1
 haveI:∀ y0 r,Con (pc y0 t1=some r) (Den Tryz.prog 207 [gh y0,.fn k1 [] q1] (aa r)):=λy0 r=>⟨tn hc1 hp1⟩
 refine Den.at 7 R9.ok R9.nm (DC (QQ hc1 FA)) rfl ?_
 simp only[R9,Kf.of,zs,ze]
 unfold eb at h
 exact pg trivial .o
theorem Nk{t0}{t1:GScope->Option Bool}{k1:Nat}{q1:List D}(hc1:fa q1=true)(hp1:∀ x0 r,t1 x0=some r->Den Tryz.prog k1 ([Ma x0]++q1) (ba r)){r} (h:Ya t0 t1=some r):Den Tryz.prog 185 [Zn t0,.fn k1 [] q1] (ba r):=by
 haveI I1:∀ x0 r,Con (t1 x0=some r) (Den Tryz.prog k1 ([Ma x0]++q1) (ba r)):=λx0 r=>⟨hp1 x0 r⟩
 have s1:∀ f:D->D->Prop,Rv f q1 q1=True:=λ_=>Og hc1
 have z1:∀ a b n,du a b n q1=q1:=λ_ _ _=>Ue _ _ _ _ hc1
 haveI:∀ y0 r,Con (Ub y0 t1=some r) (Den Tryz.prog 209 [Zn y0,.fn k1 [] q1] (aa r)):=λy0 r=>⟨Wl hc1 hp1⟩
 refine Den.at 7 T9.ok T9.nm (DC (QQ hc1 FA)) rfl ?_
 simp only[T9,Kf.of,zs,ze]
 unfold Ya at h
 exact pg trivial .o
instance zI77{t0 t1 r}:Con (Fe t0 t1=some r) (Den Tryz.prog 190 [ua t0,aa t1] (ba r)):=⟨λh=>by
 refine dk 7 k190 ?_
 simp only[k190,Kf.of,zs,ze]
 unfold Fe at h
 exact pg trivial .o⟩
theorem tu{t0 r} (h:rh t0=some r):wD Tryz.prog 200 [] [] 1 (t0.map aa) (ua r):=by
 refine wD.at 6 U9.ok U9.nm FA FA (Fr.l _) rfl ?_
 simp only[U9,Kf.of,zs,ze]
 unfold rh at h
 exact pg trivial .o
instance zI78{t0 r}:Con (rh t0=some r) (wD Tryz.prog 200 [] [] 1 (t0.map aa) (ua r)):=⟨tu⟩
instance zI79{t0 r}:Con (bj t0=some r) (wD Tryz.prog 220 [] [] 1 (t0.map aa) (ua r)):=⟨λh=>by
 refine wD.at 6 aaa.ok aaa.nm FA FA (Fr.l _) rfl ?_
 simp only[aaa,Kf.of,zs,ze]
 unfold bj at h
 exact pg trivial .o⟩
instance zI80{t0 r}:Con (Mr t0=some r) (Den Tryz.prog 232 [aa t0] (aa r)):=⟨λh=>by
 refine dk 7 k232 ?_
 simp only[k232,Kf.of,zs,ze]
 unfold Mr at h
 exact pg trivial .o⟩
instance zI81{t0 r}:Con (Ej t0=some r) (Den Tryz.prog 240 [Zh t0] (.tup [ua r.1,aa r.2.1,aa r.2.2])):=⟨λh=>by
 refine dk 75 k240 ?_
 simp only[k240,Kf.of,zs,ze]
 unfold Ej at h
 exact pg @Bi.eq_1 (.b .o (.b .o (.l 3 2 (λ(q:((List Int) × (List Int) × Int))=>⟨[.p 2,.k 3,.p 1,.s (.own 1 0),.p 3,.k 9,.p 2,.s (aa q.2.2),.p 54],[.c 0 ((q.1.map aa)),.n 1 ((q.2.1.map aa))]⟩) (λ(q:((List Int) × (List Int)))=>⟨[.p 2,.k 3,.p 1,.s (.own 1 0),.p 3],[.c 0 ((q.1.map aa)),.n 1 ((q.2.map aa))]⟩) [ok 0,on 1] (.b (.b .o (.b .o (.z 1 (.j 1 (λ(j18:(List Int))=>⟨[.p 8,.k 1,.p 13],[.c 0 ((j18.map aa)),.o 1]⟩) (.b (.t [ok 0,ok 1]) (.t [ok 0,ok 1])) (.a [[],[],[],[],[],[],[],[],[5],[5],[]] (.b .o (.t [ok 0,ov 1 2]))))))) (.t [ok 0,ok 1])) .o)))⟩
instance zI82{t0 t1 r}:Con (we t0 t1=some r) (Den Tryz.prog 241 [sa t0,aa t1] (ua r)):=⟨λh=>by
 refine dk 34 k241 ?_
 simp only[k241,Kf.of,zs,ze]
 unfold we at h
 exact pg @sh.eq_1 (.l 3 1 (λ(q:((List Int) × Int × Int))=>⟨[.k 2,.p 2,.k 1,.p 1,.s (aa q.2.1),.s (aa q.2.2)],[.o 0,.c 1 ((q.1.map aa))]⟩) (λ(b14:(List Int))=>⟨[.k 5,.p 1],[.c 1 ((b14.map aa))]⟩) [ok 0,ok 1] (.b (.t [ok 0,ok 1]) (.t [ok 1])) .o)⟩
instance zI83{t0 r}:Con (Uk t0=some r) (Den Tryz.prog 251 [Sb t0] (ba r)):=⟨λh=>by
 refine dk 47 k251 ?_
 simp only[k251,Kf.of,zs,ze]
 unfold Uk at h
 exact pg trivial (.z 2 (.j 1 (λ(j5:Bool)=>⟨[.k 1,.p 1,.k 15,.s (ba j5),.p 30],[.o 0]⟩) (.b (.b (.t [ok 0]) (.t [ok 0])) (.t [ok 0])) (.b .o (.z 2 (.j 1 (λ(j9:Bool)=>⟨[.k 1,.p 16,.k 2,.p 1,.s (ba j9),.p 27],[.o 0]⟩) (.b (.t [ok 0]) (.b (.t [ok 0]) (.t [ok 0]))) (.b (.j 1 (λ(j12:Bool)=>⟨[.k 2,.s (ba j12),.p 16],[]⟩) (.b (.t []) (.t [])) .o) (.b (.j 1 (λ(j15:Bool)=>⟨[.k 2,.s (ba j15),.p 16],[]⟩) (.b (.t []) (.t [])) .o) .o)))))))⟩
instance zI84{t0 r}:Con (Ai t0=some r) (Den Tryz.prog 253 [Db t0] (ba r)):=⟨λh=>by
 refine dk 14 k253 ?_
 simp only[k253,Kf.of,zs,ze]
 unfold Ai at h
 exact pg @Zf.eq_1 (.l 1 0 (λ(s1:Int)=>⟨[.k 5,.p 2,.s (aa s1),.p 7],[]⟩) (λ(_:Unit)=>⟨[],[]⟩) [] (.b (.b .o (.t [])) (.t [])) .o)⟩
instance zI85{t0 t1 r}:Con (kn t0 t1=some r) (Den Tryz.prog 266 [ra t0,vb t1] (ba r)):=⟨λh=>by
 refine dk 19 k266 ?_
 simp only[k266,Kf.of,zs,ze]
 unfold kn at h
 exact pg trivial (.z 1 (.j 1 (λ(j4:Bool)=>⟨[.k 4,.s (ba j4),.p 16],[]⟩) (.b (.b (.t []) (.t [])) (.t [])) .o))⟩
instance zI86{t0 t1 r}:Con (Kh t0 t1=some r) (Den Tryz.prog 284 [aa t0,aa t1] (.tup [aa r.1,aa r.2.1,ba r.2.2])):=⟨λh=>by
 refine dk 45 k284 ?_
 simp only[k284,Kf.of,zs,ze]
 unfold Kh at h
 exact pg trivial (.z 2 (.j 1 (λ(j2:Int)=>⟨[.p 4,.k 3,.s (.v (.int .u64 j2)),.p 4],[]⟩) (.b (.t []) (.t [])) .o))⟩
instance zI87{t0 t1 r}:Con (Xo t0 t1=some r) (Den Tryz.prog 293 [aa t0,aa t1] (.tup [aa r.1,aa r.2])):=⟨λh=>by
 refine dk 36 k293 ?_
 simp only[k293,Kf.of,zs,ze]
 unfold Xo at h
 exact pg trivial (.z 3 (.j 1 (λ(j3:Bool)=>⟨[.p 4,.k 3,.p 1,.k 19,.s (ba j3),.p 10],[]⟩) (.b (.t []) (.t [])) .o))⟩
instance zI88{t0 t1 t2 r}:Con (Em t0 t1 t2=some r) (Den Tryz.prog 296 [aa t0,aa t1,aa t2] (.tup [aa r.1,aa r.2])):=⟨λh=>by
 refine dk 70 k296 ?_
 simp only[k296,Kf.of,zs,ze]
 unfold Em at h
 exact pg trivial (.b .o (.b .o (.z 1 (.j 1 (λ(j7:Bool)=>⟨[.p 6,.k 19,.s (ba j7),.p 47],[]⟩) (.b (.t []) (.t [])) (.b .o (.b .o (.b .o (.z 1 (.j 1 (λ(j15:Int)=>⟨[.k 8,.p 1,.k 5,.s (aa j15),.p 10],[]⟩) (.b (.t []) (.t [])) (.b .o (.j 1 (λ(j18:Int)=>⟨[.k 14,.s (aa j18),.p 52],[]⟩) (.b (.t []) (.t [])) .o)))))))))))⟩
end Go.Proofs.Dev
