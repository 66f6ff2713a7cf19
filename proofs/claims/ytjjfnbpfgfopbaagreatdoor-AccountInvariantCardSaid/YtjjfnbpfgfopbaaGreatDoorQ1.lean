/-
  Contracts of the functions: each answers as its plain partial function says.
-/
import Derived.Test.YtjjfnbpfgfopbaaGreatDoorK
import Derived.Test.YtjjfnbpfgfopbaaGreatDoorG
import Derived.Test.YtjjfnbpfgfopbaaGreatDoorPE
import Derived.Test.YtjjfnbpfgfopbaaGreatDoorH1
import Derived.Test.YtjjfnbpfgfopbaaGreatDoorH2
import Derived.Test.YtjjfnbpfgfopbaaGreatDoorL1
open List renaming length_cons->uaa,length_nil->Faa,map_cons->Gaa,map_nil->xab
open Nat renaming reduceAdd->Oaa
open Option.some renaming inj->Raa
set_option linter.all false
set_option maxHeartbeats 1000000
set_option maxRecDepth 10000
namespace Go.Proofs.Dev
open Go Go.Tm
instance zI11{t0 r}:Con (sj t0=some r) (Den Tryz.prog 29 [ub t0] (ba r)):=⟨λh=>by
 refine dk 6 k29 ?_
 simp only[k29,Kf.of,zs,ze]
 unfold sj at h
 exact pg trivial .o⟩
instance zI12{t0 r}:Con (wj t0=some r) (Den Tryz.prog 39 [aa t0] (ba r)):=⟨λh=>by
 refine dk 8 k39 ?_
 simp only[k39,Kf.of,zs,ze]
 unfold wj at h
 exact pg trivial (.z 1 (.j 1 (λ(j2:Bool)=>⟨[.k 2,.s (ba j2),.p 6],[]⟩) (.b (.t []) (.t [])) .o))⟩
instance zI13{t0 t1 r}:Con (Vh t0 t1=some r) (Den Tryz.prog 40 [Da t0,aa t1] (ba r)):=⟨λh=>by
 refine dk 16 k40 ?_
 simp only[k40,Kf.of,zs,ze]
 unfold Vh at h
 exact pg trivial (.z 1 (.j 1 (λ(j2:Bool)=>⟨[.k 4,.s (ba j2),.p 13],[]⟩) (.b (.t []) (.t [])) .o))⟩
instance zI14{t0 r}:Con (km t0=some r) (Den Tryz.prog 44 [zb t0] (ba r)):=⟨λh=>by
 refine dk 48 k44 ?_
 simp only[k44,Kf.of,zs,ze]
 unfold km at h
 exact pg (And.intro @Jl.eq_1 (And.intro @Kl.eq_1 @Ll.eq_1)) (.l 1 0 (λ(s1:Int)=>⟨[.k 1,.p 1,.k 9,.p 2,.s (aa s1),.p 35],[.o 0]⟩) (λ(_:Unit)=>⟨[.k 1,.p 1],[.o 0]⟩) [ok 0] (.b (.b .o (.t [ok 0])) (.t [ok 0])) (.l 1 0 (λ(s6:Int)=>⟨[.k 1,.p 22,.k 1,.p 2,.s (aa s6),.p 22],[.o 0]⟩) (λ(_:Unit)=>⟨[.k 1,.p 22],[.o 0]⟩) [ok 0] (.b (.b .o (.t [ok 0])) (.t [ok 0])) (.l 1 0 (λ(s11:Int)=>⟨[.k 1,.p 35,.k 1,.p 2,.s (aa s11),.p 9],[.o 0]⟩) (λ(_:Unit)=>⟨[],[]⟩) [ok 0] (.b (.b .o (.t [ok 0])) (.t [])) .o)))⟩
instance zI15{t0 r}:Con (Sr t0=some r) (wD Tryz.prog 45 [] [] 2 (t0.map Sb) (xb r)):=⟨λh=>by
 refine wD.at 21 k45.ok k45.nm FA FA (Fr.l _) rfl ?_
 simp only[k45,Kf.of,zs,ze]
 unfold Sr at h
 exact pg trivial .o⟩
instance zI16{t0 t1 r}:Con (lp t0 t1=some r) (Den Tryz.prog 54 [Gd t0,Gd t1] (ba r)):=⟨λh=>by
 refine dk 30 k54 ?_
 simp only[k54,Kf.of,zs,ze]
 unfold lp at h
 exact pg @Yk.eq_1 (.b .o (.l 1 0 (λ(s2:Int)=>⟨[.p 4,.k 1,.s (aa s2)],[]⟩) (λ(_:Unit)=>⟨[],[]⟩) [] (.z 1 (.j 1 (λ(j4:Bool)=>⟨[.p 20,.s (ba j4),.p 11],[]⟩) (.b (.t []) (.t [])) (.b (.b .o (.t [])) (.t [])))) .o))⟩
theorem kz{t0 r : List GFact} (h : wa t0 = some r) : Den Tryz.prog 68 [Pd t0] (Pd r) := by
  unfold wa at h
  split at h
  · rename_i hl
    obtain rfl := Raa h
    refine dk 7 k68 ?_
    simp only[k68,Kf.of,zs,ze]
    refine T.Tj ?_
    refine T.rg ?_
    simp only[zx, ze]
    refine T.Tj ?_
    refine T.Tj ?_
    refine T.Bo (i := 0) (S := 9) (l := t0.map sb) rfl (Fr.l _) (by simp) (by decide) (by decide) (by decide) ?_
    intro b hb
    have happ : app 72 ([] : List GFact) t0 = some t0 := by unfold app; rw[if_pos (by simp; omega)]; simp
    cases b with
    | true =>
      have hz : t0 = [] := by
        cases t0 with
        | nil => rfl
        | cons x l => exact absurd (hb (by simp)) (by simp)
      subst hz
      simp only[zx, ze]
      refine T.cd rfl ?_
      refine gP.mk (λ_ => ?_) (λh => absurd rfl h)
      refine T.Tj ?_
      refine T.rg ?_
      simp only[zx, ze]
      exact T.ret <| qo (by simp only[zx, ze, gn, Af, Bf, Sd]; exact WB (by simp only[zq, ze]))
    | false =>
      simp only[zx, ze]
      refine T.cd rfl ?_
      refine gP.mk (λh => by cases h) (λ_ => ?_)
      refine T.skip ?_
      simp only[zx, ze]
      refine T.Tj ?_
      refine T.rg ?_
      obtain⟨f1, f2⟩ := Gv (e := sb) happ
      try simp only[zx, ze] at f1 f2
      simp only[zx, ze, f1, f2]
      exact T.ret <| qo (by simp only[zx, ze, gn, Af, Bf, Sd]; exact WB (by simp only[zq, ze]))
  · cases h
instance zIc68{t0 r}:Con (wa t0=some r) (Den Tryz.prog 68 [Pd t0] (Pd r)):=⟨kz⟩
theorem rp{t0 r} (h:Kb t0=some r):Ox Tryz.prog 68 [Pd t0] 9 (r.map sb):= by
  unfold Kb wa at h
  split at h
  · rename_i hl
    obtain rfl := Raa h
    refine Ox.at 7 k68.ok k68.nm FrL.h (Fr.l _) rfl ?_
    simp only[k68,Kf.of,zs,ze]
    refine T.Tj ?_
    refine T.rg ?_
    simp only[zx, ze]
    refine T.Tj ?_
    refine T.Tj ?_
    refine T.Bo (i := 0) (S := 9) (l := t0.map sb) rfl (Fr.l _) (by simp) (by decide) (by decide) (by decide) ?_
    intro b hb
    have happ : app 72 ([] : List GFact) t0 = some t0 := by unfold app; rw[if_pos (by simp; omega)]; simp
    cases b with
    | true =>
      have hz : t0 = [] := by
        cases t0 with
        | nil => rfl
        | cons x l => exact absurd (hb (by simp)) (by simp)
      subst hz
      simp only[zx, ze]
      refine T.cd rfl ?_
      refine gP.mk (λ_ => ?_) (λh => absurd rfl h)
      refine T.Tj ?_
      refine T.rg ?_
      simp only[zx, ze]
      exact T.ret <| Wr (by simp only[zx, ze, Yr, Af, Bf, Sd]; exact Tells.q [(none, 9, 0)] rfl (by decide) (by simp only[zq, ze]))
    | false =>
      simp only[zx, ze]
      refine T.cd rfl ?_
      refine gP.mk (λh => by cases h) (λ_ => ?_)
      refine T.skip ?_
      simp only[zx, ze]
      refine T.Tj ?_
      refine T.rg ?_
      obtain⟨f1, f2⟩ := Gv (e := sb) happ
      try simp only[zx, ze] at f1 f2
      simp only[zx, ze, f1, f2]
      exact T.ret <| Wr (by simp only[zx, ze, Yr, Af, Bf, Sd]; exact Tells.q [(some 0, 1, 0)] rfl (by decide) (by simp only[zq, ze]))
  · cases h
instance zI17{t0 r}:Con2 (Kb t0=some r) (Ox Tryz.prog 68 [Pd t0] 9 (r.map sb)):=⟨rp⟩
theorem qp{t0 r} (h:wa t0=some r):Xn Tryz.prog 68 [.own 0 0] [(9,t0.map sb)] (Pd r):= by
  unfold wa at h
  split at h
  · rename_i hl
    obtain rfl := Raa h
    refine Xn.of 7 k68 ?_ (by simp[Fr.l])
    simp only[k68,Kf.of,zs,ze,Lc,Gaa,xab,uaa,Faa,Oaa]
    have happ : app 72 ([] : List GFact) t0 = some t0 := by unfold app; rw[if_pos (by simp; omega)]; simp
    refine T.Tj ?_
    refine T.rg ?_
    simp only[zx, ze]
    refine T.Tj ?_
    refine T.Tj ?_
    cases t0 with
    | nil =>
      refine T.nilown (i := 0) rfl rfl ?_
      simp only[zx, ze]
      refine T.Bo (i := 0) (S := 9) (l := []) rfl rfl (by simp) (by decide) (by decide) (by decide) ?_
      intro b hb
      cases b with
      | true =>
        simp only[zx, ze]
        refine T.cd rfl ?_
        refine gP.mk (λ_ => ?_) (λh => absurd rfl h)
        refine T.Tj ?_
        refine T.rg ?_
        simp only[zx, ze]
        exact T.ret <| xD (by simp only[zx, ze, Af, Bf, Sd]; rw[Xr]; exact Tells.q [(some 0, 0, 0)] rfl (by decide) (by simp only[zx, zq, ze]))
      | false =>
        simp only[zx, ze]
        refine T.cd rfl ?_
        refine gP.mk (λh => by cases h) (λ_ => ?_)
        refine T.skip ?_
        simp only[zx, ze]
        refine T.Tj ?_
        refine T.rg ?_
        obtain⟨f1, f2⟩ := Gv (e := sb) happ
        try simp only[zx, ze] at f1 f2
        simp only[zx, ze, f1, f2]
        exact T.ret <| xD (by simp only[zx, ze, Af, Bf, Sd]; rw[Xr]; exact Tells.q [(some 0, 0, 0)] rfl (by decide) (by simp only[zx, zq, ze]))
    | cons x l =>
      refine T.rg ?_
      simp only[zx, ze]
      refine T.cd rfl ?_
      refine gP.mk (λh => by cases h) (λ_ => ?_)
      refine T.skip ?_
      simp only[zx, ze]
      refine T.Tj ?_
      refine T.rg ?_
      obtain⟨f1, f2⟩ := Gv (e := sb) happ
      try simp only[zx, ze] at f1 f2
      simp only[zx, ze, f1, f2]
      exact T.ret <| xD (by simp only[zx, ze, Af, Bf, Sd]; rw[Xr]; exact Tells.q [(some 0, 0, 0)] rfl (by decide) (by simp only[zx, zq, ze]; exact⟨.inl (Fr.l (e := sb) (x :: l)), .inl (Fr.l (e := sb) (x :: l))⟩))
  · cases h
instance zI18{t0 r}:Con2 (wa t0=some r) (Xn Tryz.prog 68 [.own 0 0] [(9,t0.map sb)] (Pd r)):=⟨qp⟩
instance zI19{t0 t1 r}:Con (Gm t0 t1=some r) (Den Tryz.prog 90 [Gd t0,aa t1] (.tup [aa r.1,ba r.2])):=⟨λh=>by
 refine dk 34 k90 ?_
 simp only[k90,Kf.of,zs,ze]
 unfold Gm at h
 exact pg @sg.eq_1 (.l 1 0 (λ(s1:Int)=>⟨[.p 4,.k 2,.s (aa s1),.p 1],[]⟩) (λ(_:Unit)=>⟨[],[]⟩) [] (.b (.z 2 (.j 1 (λ(j6:Bool)=>⟨[.p 11,.k 22,.s (ba j6),.p 2],[.o 0]⟩) (.b (.b (.t [ok 0]) (.t [ok 0])) (.t [ok 0])) (.b .o (.t [])))) (.t [])) .o)⟩
instance zI20{t0 r}:Con (Ao t0=some r) (Den Tryz.prog 99 [aa t0] (ba r)):=⟨λh=>by
 refine dk 8 k99 ?_
 simp only[k99,Kf.of,zs,ze]
 unfold Ao at h
 exact pg trivial (.z 1 (.j 1 (λ(j2:Bool)=>⟨[.k 2,.s (ba j2),.p 6],[]⟩) (.b (.t []) (.t [])) .o))⟩
instance zI21{t0 t1 r}:Con (vc t0 t1=some r) (Den Tryz.prog 111 [vb t0,gh t1] (ba r)):=⟨λh=>by
 refine dk 26 k111 ?_
 simp only[k111,Kf.of,zs,ze]
 unfold vc at h
 exact pg trivial (.z 3 (.j 1 (λ(j5:Bool)=>⟨[.k 1,.p 3,.k 2,.p 1,.s (ba j5),.p 20],[.o 0]⟩) (.b (.t [ok 0]) (.b (.t [ok 0]) (.b (.t [ok 0]) (.b (.t [ok 0]) (.t [ok 0]))))) (.b .o (.b (.j 1 (λ(j9:Bool)=>⟨[.k 4,.s (ba j9),.p 1],[]⟩) (.b (.t []) (.t [])) .o) .o))))⟩
instance zI22{t0 r}:Con (oh t0=some r) (Den Tryz.prog 149 [aa t0] (ba r)):=⟨λh=>by
 refine dk 5 k149 ?_
 simp only[k149,Kf.of,zs,ze]
 unfold oh at h
 exact pg trivial .o⟩
instance zI23{t0 r}:Con (Fq t0=some r) (Den Tryz.prog 166 [aa t0] (ba r)):=⟨λh=>by
 refine dk 15 k166 ?_
 simp only[k166,Kf.of,zs,ze]
 unfold Fq at h
 exact pg trivial (.z 1 (.j 1 (λ(j3:Bool)=>⟨[.k 2,.s (ba j3),.p 13],[]⟩) (.b (.b (.t []) (.t [])) (.t [])) .o))⟩
instance zI24{t0 r}:Con (Ln t0=some r) (Den Tryz.prog 178 [iU t0] (ba r)):=⟨λh=>by
 refine dk 8 k178 ?_
 simp only[k178,Kf.of,zs,ze]
 unfold Ln at h
 exact pg trivial (.z 1 (.j 1 (λ(j2:Bool)=>⟨[.k 2,.s (ba j2),.p 6],[]⟩) (.b (.t []) (.t [])) .o))⟩
instance zI25{t0 r}:Con (Ch t0=some r) (Den Tryz.prog 180 [fj t0] (ba r)):=⟨λh=>by
 refine dk 59 k180 ?_
 simp only[k180,Kf.of,zs,ze]
 unfold Ch at h
 exact pg trivial (.z 3 (.j 1 (λ(j55:Bool)=>⟨[.k 4,.s (ba j55),.p 55],[]⟩) (.b (.t []) (.b (.t []) (.b (.t []) (.b (.t []) (.b (.t []) (.b (.t []) (.b (.t []) (.b (.t []) (.b (.t []) (.b (.t []) (.b (.t []) (.b (.t []) (.b (.t []) (.b (.t []) (.b (.t []) (.b (.t []) (.b (.t []) (.b (.t []) (.b (.t []) (.b (.t []) (.b (.t []) (.b (.t []) (.b (.t []) (.b (.t []) (.b (.t []) (.b (.t []) (.b (.t []) (.b (.t []) (.b (.t []) (.b (.t []) (.b (.t []) (.b (.t []) (.b (.t []) (.b (.t []) (.b (.t []) (.b (.t []) (.b (.t []) (.b (.t []) (.b (.t []) (.b (.t []) (.b (.t []) (.b (.t []) (.b (.t []) (.b (.t []) (.b (.t []) (.b (.t []) (.b (.t []) (.b (.t []) (.b (.t []) (.b (.t []) (.b (.t []) (.b (.t []) (.b (.t []) (.b (.t []) (.t []))))))))))))))))))))))))))))))))))))))))))))))))))))))) .o))⟩
instance zI26{t0 r}:Con (rq t0=some r) (Den Tryz.prog 206 [iU t0] (ba r)):=⟨λh=>by
 refine dk 8 k206 ?_
 simp only[k206,Kf.of,zs,ze]
 unfold rq at h
 exact pg trivial (.z 1 (.j 1 (λ(j2:Bool)=>⟨[.k 2,.s (ba j2),.p 6],[]⟩) (.b (.t []) (.t [])) .o))⟩
instance zI27{t0 r}:Con (zh t0=some r) (Den Tryz.prog 212 [Cb t0] (uo r)):=⟨λh=>by
 refine dk 18 k212 ?_
 simp only[k212,Kf.of,zs,ze]
 unfold zh at h
 exact pg @Ji.eq_1 (.l 2 1 (λ(q:((List GType) × Int))=>⟨[.k 3,.s (.own 0 0),.p 4,.s (aa q.2),.p 10],[.n 2 ((q.1.map vb))]⟩) (λ(b8:(List GType))=>⟨[.k 3,.s (.own 0 0),.p 2],[.n 2 ((b8.map vb))]⟩) [on 2] (.b (.t [ov 0 1]) (.t [ok 0])) .o)⟩
theorem Vl{t0}{t1:GField->Option Bool}{k1:Nat}{q1:List D}(hc1:fa q1=true)(hp1:∀ x0 r,t1 x0=some r->Den Tryz.prog k1 ([db x0]++q1) (ba r)){r} (h:Tb t0 t1=some r):Den Tryz.prog 228 [Cb t0,.fn k1 [] q1] (aa r):=by
 haveI I1:∀ x0 r,Con (t1 x0=some r) (Den Tryz.prog k1 ([db x0]++q1) (ba r)):=λx0 r=>⟨hp1 x0 r⟩
 have s1:∀ f:D->D->Prop,Rv f q1 q1=True:=λ_=>Og hc1
 have z1:∀ a b n,du a b n q1=q1:=λ_ _ _=>Ue _ _ _ _ hc1
 refine Den.at 17 eaa.ok eaa.nm (DC (QQ hc1 FA)) rfl ?_
 simp only[eaa,Kf.of,zs,ze]
 unfold Tb at h
 exact pg @Hc.eq_1 (.l 1 0 (λ(s1:Int)=>⟨[.p 4,.k 3,.p 1,.s (aa s1),.p 10],[]⟩) (λ(_:Unit)=>⟨[],[]⟩) [] (.b (.b .o (.t [])) (.t [])) .o)
theorem vn{t0}{t1:GRule->Option Bool}{k1:Nat}{q1:List D}(hc1:fa q1=true)(hp1:∀ x0 r,t1 x0=some r->Den Tryz.prog k1 ([gb x0]++q1) (ba r)){r} (h:qc t0 t1=some r):Den Tryz.prog 229 [Ye t0,.fn k1 [] q1] (aa r):=by
 haveI I1:∀ x0 r,Con (t1 x0=some r) (Den Tryz.prog k1 ([gb x0]++q1) (ba r)):=λx0 r=>⟨hp1 x0 r⟩
 have s1:∀ f:D->D->Prop,Rv f q1 q1=True:=λ_=>Og hc1
 have z1:∀ a b n,du a b n q1=q1:=λ_ _ _=>Ue _ _ _ _ hc1
 refine Den.at 17 faa.ok faa.nm (DC (QQ hc1 FA)) rfl ?_
 simp only[faa,Kf.of,zs,ze]
 unfold qc at h
 exact pg @jd.eq_1 (.l 1 0 (λ(s1:Int)=>⟨[.p 4,.k 3,.p 1,.s (aa s1),.p 10],[]⟩) (λ(_:Unit)=>⟨[],[]⟩) [] (.b (.b .o (.t [])) (.t [])) .o)
instance zI28{t0 r}:Con (Fj t0=some r) (Den Tryz.prog 263 [aa t0] (ba r)):=⟨λh=>by
 refine dk 8 k263 ?_
 simp only[k263,Kf.of,zs,ze]
 unfold Fj at h
 exact pg trivial (.z 1 (.j 1 (λ(j2:Bool)=>⟨[.k 2,.s (ba j2),.p 6],[]⟩) (.b (.t []) (.t [])) .o))⟩
instance zI29{t0 t1 r}:Con (Mi t0 t1=some r) (Den Tryz.prog 265 [ua t0,aa t1] (ua r)):=⟨λh=>by
 refine dk 22 k265 ?_
 simp only[k265,Kf.of,zs,ze]
 unfold Mi at h
 exact pg @ig.eq_1 (.l 2 1 (λ(q:((List Int) × Int))=>⟨[.k 1,.p 3,.k 1,.s (.own 0 0),.p 4,.s (aa q.2),.p 13],[.n 1 ((q.1.map aa))]⟩) (λ(b10:(List Int))=>⟨[.k 5,.s (.own 0 0),.p 2],[.n 1 ((b10.map aa))]⟩) [on 1] (.b (.j 1 (λ(j7:(List Int))=>⟨[.k 1,.p 10],[.c 0 ((j7.map aa))]⟩) (.b (.t [ov 0 1]) (.t [ok 0])) (.t [ok 0])) (.t [ok 0])) .o)⟩
instance zI30{t0 t1 r}:Con (Ge t0 t1=some r) (Den Tryz.prog 270 [ra t0,ra t1] (ba r)):=⟨λh=>by
 refine dk 15 k270 ?_
 simp only[k270,Kf.of,zs,ze]
 unfold Ge at h
 exact pg trivial (.z 1 (.j 1 (λ(j2:Bool)=>⟨[.k 4,.s (ba j2),.p 12],[]⟩) (.b (.t []) (.t [])) .o))⟩
instance zI31{t0 r}:Con (Wg t0=some r) (Den Tryz.prog 282 [aa t0] (ba r)):=⟨λh=>by
 refine dk 12 k282 ?_
 simp only[k282,Kf.of,zs,ze]
 unfold Wg at h
 exact pg trivial (.z 1 (.j 1 (λ(j3:Bool)=>⟨[.k 2,.s (ba j3),.p 10],[]⟩) (.b (.b (.t []) (.t [])) (.t [])) .o))⟩
theorem ED{t0 r} (h:mi t0=some r):Den Tryz.prog 32 [ub t0] (zb r):=by
 refine dk 26 k32 ?_
 simp only[k32,Kf.of,zs,ze]
 unfold mi at h
 exact pg @ts.eq_1 (.l 2 1 (λ(q:(Int × Int))=>⟨[.k 2,.p 4,.k 7,.p 2,.s (aa q.2),.p 11],[.o 1,.h 2 [.g [.p 6,.s (aa q.1),.p 1]]]⟩) (λ(b8:Int)=>⟨[.k 2,.p 4],[.o 1,.h 2 [.g [.p 6,.s (aa b8),.p 1]]]⟩) [ok 1,ok 2] (.b (.t [ok 0,ok 1]) (.t [ok 0,ok 1])) .o)
instance zI32{t0 r}:Con (mi t0=some r) (Den Tryz.prog 32 [ub t0] (zb r)):=⟨ED⟩
theorem kG{t0 r} (h:mi t0=some r):Xn Tryz.prog 32 [.agg [aa t0.Id,aa t0.Scope,aa t0.Members,.own 0 0]] [(9,t0.Facts.map sb)] (zb r):=by
 refine Xn.of 26 k32 ?_ (by simp[Fr.l])
 simp only[k32,Kf.of,zs,ze,Lc,Gaa,xab,uaa,Faa,Oaa]
 unfold mi at h
 exact pg @ts.eq_1 (.l 2 1 (λ(q:(Int × Int))=>⟨[.k 2,.p 4,.k 7,.p 2,.s (aa q.2),.p 11],[.O 0,.o 2,.h 3 [.g [.p 6,.s (aa q.1),.p 1]]]⟩) (λ(b8:Int)=>⟨[.k 2,.p 4],[.O 0,.o 2,.h 3 [.g [.p 6,.s (aa b8),.p 1]]]⟩) [ok 0,ok 2,ok 3] (.b (.t [ok 0,ok 1,ok 2]) (.t [ok 0,ok 1,ok 2])) (.t [ok 0]))
instance zI33{t0 r}:Con2 (mi t0=some r) (Xn Tryz.prog 32 [.agg [aa t0.Id,aa t0.Scope,aa t0.Members,.own 0 0]] [(9,t0.Facts.map sb)] (zb r)):=⟨kG⟩
instance zI34{t0 r}:Con (Sl t0=some r) (Den Tryz.prog 36 [zb t0] (ba r)):=⟨λh=>by
 refine dk 17 k36 ?_
 simp only[k36,Kf.of,zs,ze]
 unfold Sl at h
 exact pg trivial (.z 1 (.j 1 (λ(j4:Bool)=>⟨[.k 2,.s (ba j4),.p 15],[]⟩) (.b (.b (.t []) (.t [])) (.t [])) .o))⟩
theorem PC{t0 t1 r} (h:Sg t0 t1=some r):Den Tryz.prog 56 [fb t0,Gd t1] (fb r):=by
 refine dk 32 k56 ?_
 simp only[k56,Kf.of,zs,ze]
 unfold Sg at h
 exact pg @fi.eq_1 (.l 2 1 (λ(q:((List GAward) × Int))=>⟨[.k 1,.p 3,.k 1,.s (.own 0 0),.p 6,.s (aa q.2),.p 21],[.n 3 ((q.1.map xi))]⟩) (λ(b12:(List GAward))=>⟨[.k 5,.s (.own 0 0),.p 4],[.n 3 ((b12.map xi))]⟩) [on 3] (.b (.z 2 (.j 2 (λ(q:(Int × Int))=>⟨[.k 1,.p 12],[.o 0,.h 1 [.g [.p 1,.s (aa q.1),.s (aa q.2)]]]⟩) (.b (.t [ok 0,ok 1]) (.t [ok 0,ok 1])) (.t [ov 0 1]))) (.t [ok 0])) .o)
instance zI35{t0 t1 r}:Con (Sg t0 t1=some r) (Den Tryz.prog 56 [fb t0,Gd t1] (fb r)):=⟨PC⟩
theorem wF{t0 t1 r} (h:Sg t0 t1=some r):Xn Tryz.prog 56 [fb t0,.own 0 0] [(7,t1.map bb)] (fb r):=by
 refine Xn.of 32 k56 ?_ (by simp[Fr.l])
 simp only[k56,Kf.of,zs,ze,Lc,Gaa,xab,uaa,Faa,Oaa]
 unfold Sg at h
 exact pg @fi.eq_1 (.l 2 1 (λ(q:((List GAward) × Int))=>⟨[.k 1,.p 3,.k 1,.s (.own 1 0),.p 6,.s (aa q.2),.p 21],[.O 0,.n 3 ((q.1.map xi))]⟩) (λ(b12:(List GAward))=>⟨[.k 5,.s (.own 1 0),.p 4],[.O 0,.n 3 ((b12.map xi))]⟩) [ok 0,on 3] (.b (.z 2 (.j 2 (λ(q:(Int × Int))=>⟨[.k 1,.p 12],[.O 0,.o 1,.h 2 [.g [.p 1,.s (aa q.1),.s (aa q.2)]]]⟩) (.b (.t [ok 0,ok 1,ok 2]) (.t [ok 0,ok 1,ok 2])) (.t [ok 0,ov 1 1]))) (.t [ok 0,ok 1])) (.t [ok 0]))
instance zI36{t0 t1 r}:Con2 (Sg t0 t1=some r) (Xn Tryz.prog 56 [fb t0,.own 0 0] [(7,t1.map bb)] (fb r)):=⟨wF⟩
instance zI37{t0 t1 r}:Con (kd t0 t1=some r) (Den Tryz.prog 78 [vb t0,gh t1] (.tup [aa r.1,aa r.2])):=⟨λh=>by
 refine dk 28 k78 ?_
 simp only[k78,Kf.of,zs,ze]
 unfold kd at h
 exact pg trivial .o⟩
instance zI38{t0 t1 r}:Con (Vc t0 t1=some r) (Den Tryz.prog 141 [aa t0,aa t1] (aa r)):=⟨λh=>by
 refine dk 19 k141 ?_
 simp only[k141,Kf.of,zs,ze]
 unfold Vc at h
 exact pg trivial (.z 2 (.j 1 (λ(j2:Bool)=>⟨[.p 4,.k 6,.s (ba j2),.p 10],[]⟩) (.b (.t []) (.t [])) (.b .o (.z 1 (.j 1 (λ(j6:Bool)=>⟨[.k 1,.p 9,.k 6,.s (ba j6),.p 4],[]⟩) (.b (.t []) (.t [])) .o)))))⟩
instance zI39{t0 r}:Con (Nj t0=some r) (Den Tryz.prog 179 [fj t0] (aa r)):=⟨λh=>by
 refine dk 28 k179 ?_
 simp only[k179,Kf.of,zs,ze]
 unfold Nj at h
 exact pg @Dd.eq_1 (.l 1 1 (λ(s1:Int)=>⟨[.p 2,.k 1,.s (aa s1),.p 25],[]⟩) (λ(b11:Int)=>⟨[.k 3,.s (aa b11),.p 25],[]⟩) [] (.z 1 (.j 1 (λ(j8:Bool)=>⟨[.p 25,.s (ba j8),.p 3],[]⟩) (.b (.b (.b (.t []) (.t [])) (.t [])) (.t [])) (.b (.t []) (.t [])))) .o)⟩
instance zI40{t0 t1 r}:Con (Lg t0 t1=some r) (Den Tryz.prog 188 [xb t0,aa t1] (Oa r)):=⟨λh=>by
 refine dk 43 k188 ?_
 simp only[k188,Kf.of,zs,ze]
 unfold Lg at h
 exact pg trivial (.z 3 (.j 2 (λ(q:((List GType) × Bool))=>⟨[.k 4,.p 1,.k 1,.p 1],[.o 1,.h 3 [.g [.p 4,.s (uo q.1),.s (ba q.2)]]]⟩) (.j 1 (λ(j5:Bool)=>⟨[.k 2,.p 5,.k 26,.s (ba j5),.p 11],[.o 0,.o 1,.o 2,.o 3]⟩) (.b (.t [ok 0,ok 1,ok 2,ok 3]) (.t [ok 0,ok 1,ok 2,ok 3])) (.b (.t [ok 1,ok 3]) (.t [ok 1,ok 3]))) .o))⟩
theorem Mk{t0}{t1:GField->Option Bool}{k1:Nat}{q1:List D}(hc1:fa q1=true)(hp1:∀ x0 r,t1 x0=some r->Den Tryz.prog k1 ([db x0]++q1) (ba r)){r} (h:Ja t0 t1=some r):Den Tryz.prog 211 [Cb t0,.fn k1 [] q1] (ba r):=by
 haveI I1:∀ x0 r,Con (t1 x0=some r) (Den Tryz.prog k1 ([db x0]++q1) (ba r)):=λx0 r=>⟨hp1 x0 r⟩
 have s1:∀ f:D->D->Prop,Rv f q1 q1=True:=λ_=>Og hc1
 have z1:∀ a b n,du a b n q1=q1:=λ_ _ _=>Ue _ _ _ _ hc1
 haveI:∀ y0 r,Con (Tb y0 t1=some r) (Den Tryz.prog 228 [Cb y0,.fn k1 [] q1] (aa r)):=λy0 r=>⟨Vl hc1 hp1⟩
 refine Den.at 7 Y9.ok Y9.nm (DC (QQ hc1 FA)) rfl ?_
 simp only[Y9,Kf.of,zs,ze]
 unfold Ja at h
 exact pg trivial .o
theorem Fl{t0}{t1:GRule->Option Bool}{k1:Nat}{q1:List D}(hc1:fa q1=true)(hp1:∀ x0 r,t1 x0=some r->Den Tryz.prog k1 ([gb x0]++q1) (ba r)){r} (h:Pb t0 t1=some r):Den Tryz.prog 213 [Ye t0,.fn k1 [] q1] (ba r):=by
 haveI I1:∀ x0 r,Con (t1 x0=some r) (Den Tryz.prog k1 ([gb x0]++q1) (ba r)):=λx0 r=>⟨hp1 x0 r⟩
 have s1:∀ f:D->D->Prop,Rv f q1 q1=True:=λ_=>Og hc1
 have z1:∀ a b n,du a b n q1=q1:=λ_ _ _=>Ue _ _ _ _ hc1
 haveI:∀ y0 r,Con (qc y0 t1=some r) (Den Tryz.prog 229 [Ye y0,.fn k1 [] q1] (aa r)):=λy0 r=>⟨vn hc1 hp1⟩
 refine Den.at 7 Z9.ok Z9.nm (DC (QQ hc1 FA)) rfl ?_
 simp only[Z9,Kf.of,zs,ze]
 unfold Pb at h
 exact pg trivial .o
theorem Hs{t0 r} (h:ei t0=some r):Den Tryz.prog 215 [fj t0] (ba r):=by
 refine dk 26 k215 ?_
 simp only[k215,Kf.of,zs,ze]
 unfold ei at h
 exact pg @Ah.eq_1 (.z 2 (.j 1 (λ(j3:Bool)=>⟨[.p 2,.k 8,.s (ba j3),.p 16],[]⟩) (.b (.t []) (.t [])) (.b .o (.l 1 0 (λ(s5:Int)=>⟨[.p 10,.k 2,.p 1,.s (aa s5),.p 13],[]⟩) (λ(_:Unit)=>⟨[],[]⟩) [] (.b (.z 2 (.j 1 (λ(j9:Bool)=>⟨[.p 3,.k 9,.p 2,.k 11,.s (ba j9),.p 1],[]⟩) (.b (.t []) (.t [])) (.b .o (.t [])))) (.t [])) .o))))
instance zI41{t0 r}:Con (ei t0=some r) (Den Tryz.prog 215 [fj t0] (ba r)):=⟨Hs⟩
instance zI42{t0 t1 r}:Con (Kk t0 t1=some r) (Den Tryz.prog 249 [fh t0,aa t1] (ua r)):=⟨λh=>by
 refine dk 65 k249 ?_
 simp only[k249,Kf.of,zs,ze]
 unfold Kk at h
 exact pg @Qh.eq_1 (.l 2 1 (λ(q:((List Int) × Int))=>⟨[.k 2,.p 2,.k 1,.s (.own 1 0),.p 2,.k 3,.p 2,.s (aa q.2),.p 53],[.o 0,.n 1 ((q.1.map aa))]⟩) (λ(b26:(List Int))=>⟨[.k 5,.s (.own 0 0),.p 2],[.n 1 ((b26.map aa))]⟩) [ok 0,on 1] (.b (.j 1 (λ(j23:(List Int))=>⟨[.k 2,.p 12],[.o 0,.c 1 ((j23.map aa))]⟩) (.b (.t [ok 0,ok 1]) (.j 1 (λ(j15:(List Int))=>⟨[.k 2,.p 12],[.o 0,.c 1 ((j15.map aa))]⟩) (.j 1 (λ(j12:Bool)=>⟨[.k 2,.p 12,.k 26,.s (ba j12),.p 26],[.o 0,.o 1]⟩) (.b (.t [ok 0,ok 1]) (.t [ok 0,ok 1])) (.b (.t [ok 0,ov 1 1]) (.t [ok 0,ok 1]))) (.j 1 (λ(j20:Bool)=>⟨[.k 2,.p 58,.s (ba j20),.p 6],[.o 0,.o 1]⟩) (.b (.t [ok 0,ok 1]) (.t [ok 0,ok 1])) (.b (.t [ok 0,ov 1 1]) (.t [ok 0,ok 1]))))) (.t [ok 0,ok 1])) (.t [ok 1])) .o)⟩
instance zI43{t0 t1 t2 r}:Con (Yd t0 t1 t2=some r) (Den Tryz.prog 260 [aa t0,uo t1,Oa t2] (.tup [vb r.1,aa r.2])):=⟨λh=>by
 refine dk 27 k260 ?_
 simp only[k260,Kf.of,zs,ze]
 unfold Yd at h
 exact pg trivial (.z 2 (.j 1 (λ(j2:Bool)=>⟨[.p 2,.k 3,.p 2,.k 8,.s (ba j2),.p 14],[.o 0,.o 1]⟩) (.b (.t [ok 0,ok 1]) (.t [ok 0,ok 1])) .o))⟩
instance zI44{t0 t1 t2 r}:Con (ym t0 t1 t2=some r) (Den Tryz.prog 261 [Sb t0,vb t1,Oa t2] (.tup [vb r.1,aa r.2])):=⟨λh=>by
 refine dk 81 k261 ?_
 simp only[k261,Kf.of,zs,ze]
 unfold ym at h
 exact pg trivial (.z 2 (.e 1 (λ(j6:Int)=>⟨[.k 3,.p 4,.k 1,.s (aa j6),.p 2],[.o 0,.o 1,.o 2,.o 3]⟩) (.b (.z 1 (.j 1 (λ(j4:Bool)=>⟨[.k 3,.p 4,.k 18,.s (ba j4),.p 58],[.o 0,.o 1,.o 2,.o 3]⟩) (.b (.t [ok 0,ok 1,ok 2,ok 3]) (.t [ok 0,ok 1,ok 2,ok 3])) (.b .o (.t [ok 0,ok 1,ok 2,ok 3])))) (.t [ok 0,ok 1,ok 2,ok 3])) (.z 1 (.j 1 (λ(j8:Bool)=>⟨[.k 3,.p 35,.s (ba j8),.p 45],[.o 0,.o 1,.o 2,.o 3]⟩) (.b (.t [ok 0,ok 1,ok 2,ok 3]) (.t [ok 0,ok 1,ok 2,ok 3])) (.b .o (.z 1 (.f ⟨[.k 3,.p 81],[.o 0,.o 1,.o 2,.o 3,.n 2 [],.n 2 []]⟩ [ok 0,ok 1,ok 2,ok 3,on 2,on 2] (.g [[],[],[],[],[],[],[],[],[],[],[],[],[1,3,5,7,9,11],[1,3,5,7,9,11,12],[7,9,11]] [none,none,none,none,none,none,none,none,none,none,none,none,some 4,some 5,none] (.z 1 (.j 1 (λ(j15:Bool)=>⟨[.k 3,.p 1,.k 2,.p 2,.k 1,.p 29,.k 30,.s (ba j15),.p 15],[.o 0,.o 3,.o 4,.o 5]⟩) (.b (.b (.t [ok 0,ok 3,ov 4 1,ov 5 1]) (.t [ok 0,ok 3,ov 4 1,ov 5 1])) (.t [ok 0,ok 3,ov 4 1,ov 5 1])) (.b .o (.b (.z 1 (.j 1 (λ(j19:Bool)=>⟨[.k 6,.p 4,.k 70,.s (ba j19),.p 3],[.o 1,.o 2]⟩) (.b (.t [ok 1,ok 2]) (.t [ok 1,ok 2])) .o)) .o))))))))))))⟩
instance zI45{t0 t1 r}:Con (Ff t0 t1=some r) (Den Tryz.prog 267 [aa t0,vb t1] (ba r)):=⟨λh=>by
 refine dk 30 k267 ?_
 simp only[k267,Kf.of,zs,ze]
 unfold Ff at h
 exact pg trivial (.b .o (.b (.j 1 (λ(j4:Bool)=>⟨[.k 4,.s (ba j4)],[]⟩) (.b (.t []) (.t [])) .o) (.b (.j 1 (λ(j8:Bool)=>⟨[.k 4,.s (ba j8)],[]⟩) (.b (.t []) (.t [])) .o) .o)))⟩
instance zI46{t0 t1 r}:Con (Yb t0 t1=some r) (Den Tryz.prog 268 [aa t0,aa t1] (ba r)):=⟨λh=>by
 refine dk 14 k268 ?_
 simp only[k268,Kf.of,zs,ze]
 unfold Yb at h
 exact pg trivial .o⟩
instance zI47{t0 t1 t2 r}:Con (Ra t0 t1 t2=some r) (Den Tryz.prog 269 [aa t0,ra t1,ra t2] (ba r)):=⟨λh=>by
 refine dk 131 k269 ?_
 simp only[k269,Kf.of,zs,ze]
 unfold Ra at h
 exact pg trivial (.z 3 (.j 1 (λ(j2:Bool)=>⟨[.k 4,.p 2,.k 1,.p 1,.s (ba j2),.p 125],[.o 0,.o 1]⟩) (.b (.t [ok 0,ok 1]) (.t [ok 0,ok 1])) (.b (.j 1 (λ(j7:Bool)=>⟨[.k 6,.s (ba j7)],[]⟩) (.b (.t []) (.t [])) .o) (.b (.j 1 (λ(j11:Bool)=>⟨[.k 6,.s (ba j11)],[]⟩) (.b (.b (.t []) (.t [])) (.t [])) .o) (.b (.j 1 (λ(j15:Bool)=>⟨[.k 6,.s (ba j15)],[]⟩) (.b (.b (.t []) (.t [])) (.t [])) .o) (.b (.b (.j 1 (λ(j19:Bool)=>⟨[.k 6,.s (ba j19)],[]⟩) (.b (.t []) (.t [])) .o) (.j 1 (λ(j21:Bool)=>⟨[.k 6,.s (ba j21)],[]⟩) (.b (.t []) (.t [])) .o)) (.b (.j 1 (λ(j24:Bool)=>⟨[.k 6,.s (ba j24)],[]⟩) (.b (.t []) (.t [])) .o) (.j 1 (λ(j28:Bool)=>⟨[.k 4,.p 4,.k 72,.s (ba j28),.p 53],[.o 0,.o 1]⟩) (.b (.t [ok 0,ok 1]) (.b (.t [ok 0,ok 1]) (.b (.t [ok 0,ok 1]) (.t [ok 0,ok 1])))) (.b (.j 1 (λ(j34:Bool)=>⟨[.k 6,.s (ba j34)],[]⟩) (.b (.b (.t []) (.t [])) (.t [])) .o) (.j 1 (λ(j36:Bool)=>⟨[.k 4,.p 76,.k 18,.s (ba j36),.p 35],[.o 0,.o 1]⟩) (.b (.t [ok 0,ok 1]) (.t [ok 0,ok 1])) (.b .o (.j 1 (λ(j40:Bool)=>⟨[.k 4,.p 94,.k 6,.s (ba j40),.p 29],[.o 0,.o 1]⟩) (.b (.t [ok 0,ok 1]) (.t [ok 0,ok 1])) (.b (.j 1 (λ(j43:Bool)=>⟨[.k 6,.s (ba j43)],[]⟩) (.b (.t []) (.t [])) .o) (.j 1 (λ(j45:Bool)=>⟨[.k 4,.p 3,.k 108,.s (ba j45),.p 18],[.o 0,.o 1]⟩) (.b (.t [ok 0,ok 1]) (.t [ok 0,ok 1])) (.b (.j 1 (λ(j48:Bool)=>⟨[.k 6,.s (ba j48),.p 108],[]⟩) (.b (.t []) (.t [])) .o) (.j 1 (λ(j50:Bool)=>⟨[.k 6,.s (ba j50),.p 108],[]⟩) (.b (.t []) (.t [])) .o))))))))))))))))⟩
end Go.Proofs.Dev
