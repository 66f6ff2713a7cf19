/-
  Contracts of the functions: each answers as its plain partial function says.
-/
import Derived.Test.YtnlamdfggbdblaaGreatDoorK
import Derived.Test.YtnlamdfggbdblaaGreatDoorG
import Derived.Test.YtnlamdfggbdblaaGreatDoorPD
import Derived.Test.YtnlamdfggbdblaaGreatDoorH2
open Option.some renaming inj->Faa
set_option linter.all false
set_option maxHeartbeats 1000000
set_option maxRecDepth 10000
namespace Go.Proofs.Dev
open Go Go.Tm
theorem OD{t0 t1 t2 r} (h:rm t0 t1 t2=some r):pL Tryz.prog 29 [Da t0,vc t1] [] 1 (t2.map aa) (wb r):=by
 refine pL.of 38 k29 ?_ (hl:=Fr.l _) (hd':=U0 (λ_=>rfl) _)
 simp only[k29,Kf.of,zs,ze]
 unfold rm at h
 exact pg @Zm.eq_1 (.l 2 1 (λ(q:((List GValue) × Int))=>⟨[.k 1,.p 5,.k 1,.s (.own 2 0),.s (aa q.2),.p 32],[.O 0,.o 1,.n 3 ((q.1.map ka))]⟩) (λ(b11:(List GValue))=>⟨[.k 7,.s (.own 1 0)],[.O 0,.n 3 ((b11.map ka))]⟩) [ok 0,ok 1,on 3] (.b (.t [ok 0,ok 1,ov 2 1]) (.t [ok 0,ok 2])) (.t [ok 0]))
instance {t0 t1 t2 r}:Con (rm t0 t1 t2=some r) (pL Tryz.prog 29 [Da t0,vc t1] [] 1 (t2.map aa) (wb r)):=⟨OD⟩
theorem Wn{t0}{t1:GRule->Option Bool}{k1:Nat}{q1:List D}(hc1:ia q1=true)(hp1:∀ x0 r,t1 x0=some r->Den Tryz.prog k1 ([bb x0]++q1) (ba r)){r} (h:xc t0 t1=some r):Den Tryz.prog 50 [Cf t0,.fn k1 [] q1] (.tup [da r.1,da r.2]):=by
 haveI I1:∀ x0 r,Con (t1 x0=some r) (Den Tryz.prog k1 ([bb x0]++q1) (ba r)):=λx0 r=>⟨hp1 x0 r⟩
 have s1:∀ f:D->D->Prop,Zu f q1 q1=True:=λ_=>bg hc1
 have z1:∀ a b n,Ys a b n q1=q1:=λ_ _ _=>Ld _ _ _ _ hc1
 refine Den.at 57 k50.ok k50.nm (iB (xK hc1 oz)) rfl ?_
 simp only[k50,Kf.of,zs,ze]
 unfold xc at h
 exact pg @Vd.eq_1 (.l 4 2 (λ(q:((List Int) × (List Int) × (List Int) × Int))=>⟨[.k 1,.p 3,.k 2,.s (.own 0 0),.s (.own 1 0),.p 4,.k 3,.p 2,.s (aa q.2.2.2),.p 41],[.n 1 ((q.1.map aa)),.n 1 ((q.2.1.map aa)),.c 0 ((q.2.2.1.map aa))]⟩) (λ(q:((List Int) × (List Int)))=>⟨[.k 6,.s (.own 0 0),.s (.own 1 0)],[.n 1 ((q.1.map aa)),.n 1 ((q.2.map aa))]⟩) [on 1,on 1,ok 0] (.b (.j 3 (λ(q:((List Int) × (List Int) × (List Int)))=>⟨[.k 1,.p 17],[.c 0 ((q.1.map aa)),.c 1 ((q.2.1.map aa)),.c 2 ((q.2.2.map aa))]⟩) (.z 2 (.j 1 (λ(j12:Int)=>⟨[.k 1,.p 10,.s (aa j12),.p 6],[.o 0,.o 1,.o 2,.o 3]⟩) (.j 1 (λ(j9:Bool)=>⟨[.k 1,.p 17,.k 12,.s (ba j9),.p 28],[.o 0,.o 1,.o 2,.o 3]⟩) (.b (.t [ok 0,ok 1,ok 2,ok 3]) (.t [ok 0,ok 1,ok 2,ok 3])) (.b (.t [ok 0,ok 1,ok 2,ok 3]) (.t [ok 0,ok 1,ok 2,ok 3]))) (.b (.t [ov 0 1,ov 1 1,ok 2]) (.t [ok 0,ok 1,ok 2])))) (.t [ok 0,ok 1,ok 2])) (.t [ok 0,ok 1])) .o)
instance {t0 t1 r}:Con (Aj t0 t1=some r) (Den Tryz.prog 74 [da t0,aa t1] (da r)):=⟨λh=>by
 refine dk 49 k74 ?_
 simp only[k74,Kf.of,zs,ze]
 unfold Aj at h
 exact pg (And.intro @Sj.eq_1 @Tj.eq_1) (.l 2 1 (λ(q:((List Int) × Int))=>⟨[.p 4,.k 1,.s (.own 0 0),.s (aa q.2),.p 44],[.n 1 ((q.1.map aa))]⟩) (λ(b10:(List Int))=>⟨[.p 4,.k 1,.s (.own 0 0)],[.n 1 ((b10.map aa))]⟩) [on 1] (.b (.j 1 (λ(j7:(List Int))=>⟨[.p 8],[.c 0 ((j7.map aa))]⟩) (.b (.t [ov 0 1]) (.t [ok 0])) (.t [ok 0])) (.t [ok 0])) (.l 2 1 (λ(q:((List Int) × Int))=>⟨[.p 7,.s (aa q.2),.p 19],[.c 0 ((q.1.map aa))]⟩) (λ(b21:(List Int))=>⟨[.k 5,.p 2],[.c 0 ((b21.map aa))]⟩) [ov 0 1] (.b (.j 1 (λ(j18:(List Int))=>⟨[.p 31],[.c 0 ((j18.map aa))]⟩) (.b (.t [ov 0 1]) (.t [ok 0])) (.t [ok 0])) (.t [ok 0])) .o))⟩
instance {t0 t1 r}:Con (ji t0 t1=some r) (Den Tryz.prog 94 [da t0,aa t1] (da r)):=⟨λh=>by
 refine dk 22 k94 ?_
 simp only[k94,Kf.of,zs,ze]
 unfold ji at h
 exact pg @sf.eq_1 (.l 2 1 (λ(q:((List Int) × Int))=>⟨[.k 1,.p 3,.k 1,.s (.own 0 0),.p 4,.s (aa q.2),.p 13],[.n 1 ((q.1.map aa))]⟩) (λ(b10:(List Int))=>⟨[.k 5,.s (.own 0 0),.p 2],[.n 1 ((b10.map aa))]⟩) [on 1] (.b (.j 1 (λ(j7:(List Int))=>⟨[.k 1,.p 10],[.c 0 ((j7.map aa))]⟩) (.b (.t [ov 0 1]) (.t [ok 0])) (.t [ok 0])) (.t [ok 0])) .o)⟩
theorem pn{t0 t1 r} (h:Pb t0 t1=some r):Den Tryz.prog 112 [qa t0,Tb t1] (ba r):=by
 refine dk 29 n3 ?_
 simp only[n3,Kf.of,zs,ze]
 unfold Pb at h
 exact pg trivial (.b (.j 1 (λ(j3:Bool)=>⟨[.k 4,.s (ba j3)],[]⟩) (.b (.t []) (.t [])) .o) (.j 1 (λ(j6:Bool)=>⟨[.k 4,.s (ba j6)],[]⟩) (.b (.b (.t []) (.t [])) (.t [])) .o))
instance {t0 t1 r}:Con (Pb t0 t1=some r) (Den Tryz.prog 112 [qa t0,Tb t1] (ba r)):=⟨pn⟩
instance {t0 r : List ByteArray}:Con (ee t0=some r) (Den Tryz.prog 121 [Ms t0] (Ms r)):=⟨λh=>by
  unfold ee at h
  split at h
  · rename_i hl
    obtain rfl := Faa h
    refine dk 7 G3 ?_
    simp only[G3,Kf.of,zs,ze]
    refine T.Dy ?_
    refine T.rg ?_
    simp only[zx, ze]
    refine T.Dy ?_
    refine T.Dy ?_
    refine T.Gr (i := 0) (S := 1) (l := t0.map Df) rfl (Fr.l _) (by simp) (by decide) (by decide) (by decide) ?_
    intro b hb
    have happ : app 16 ([] : List ByteArray) t0 = some t0 := by unfold app; rw[if_pos (by simp; omega)]; simp
    cases b with
    | true =>
      have hz : t0 = [] := by
        cases t0 with
        | nil => rfl
        | cons x l => exact absurd (hb (by simp)) (by simp)
      subst hz
      simp only[zx, ze]
      refine T.cd rfl ?_
      refine gP.mk (λ_ => ?_) (λh => absurd rfl h)
      refine T.Dy ?_
      refine T.rg ?_
      simp only[zx, ze]
      exact T.ret <| vn (by simp only[zx, ze, Yl, Sr, Tr, rp]; exact wF (by simp only[zq, ze]))
    | false =>
      simp only[zx, ze]
      refine T.cd rfl ?_
      refine gP.mk (λh => by cases h) (λ_ => ?_)
      refine T.skip ?_
      simp only[zx, ze]
      refine T.Dy ?_
      refine T.rg ?_
      obtain⟨f1, f2⟩ := gF (e := Df) happ
      try simp only[zx, ze] at f1 f2
      simp only[zx, ze, f1, f2]
      exact T.ret <| vn (by simp only[zx, ze, Yl, Sr, Tr, rp]; exact wF (by simp only[zq, ze]))
  · cases h⟩
instance {t0 r}:Con (Vk t0=some r) (Den Tryz.prog 124 [aa t0] (ba r)):=⟨λh=>by
 refine dk 21 J3 ?_
 simp only[J3,Kf.of,zs,ze]
 unfold Vk at h
 exact pg trivial (.z 3 (.j 1 (λ(j17:Bool)=>⟨[.k 4,.s (ba j17),.p 17],[]⟩) (.b (.t []) (.b (.t []) (.b (.t []) (.b (.t []) (.b (.t []) (.b (.t []) (.b (.t []) (.b (.t []) (.b (.t []) (.b (.t []) (.b (.t []) (.b (.t []) (.b (.t []) (.b (.t []) (.b (.t []) (.b (.t []) (.t []))))))))))))))))) .o))⟩
instance {t0 t1 r}:Con (Re t0 t1=some r) (Den Tryz.prog 128 [ya t0,Ga t1] (aa r)):=⟨λh=>by
 refine dk 17 N3 ?_
 simp only[N3,Kf.of,zs,ze]
 unfold Re at h
 exact pg @tc.eq_1 (.l 1 0 (λ(s1:Int)=>⟨[.p 1,.k 2,.p 1,.k 3,.p 1,.s (aa s1),.p 10],[.o 0]⟩) (λ(_:Unit)=>⟨[],[]⟩) [ok 0] (.b (.b .o (.t [ok 0])) (.t [])) .o)⟩
instance {t0 t1 r}:Con (Gn t0 t1=some r) (Den Tryz.prog 134 [da t0,aa t1] (aa r)):=⟨λh=>by
 refine dk 17 R3 ?_
 simp only[R3,Kf.of,zs,ze]
 unfold Gn at h
 exact pg @Fl.eq_1 (.l 1 0 (λ(s1:Int)=>⟨[.p 4,.k 1,.s (aa s1),.p 13],[]⟩) (λ(_:Unit)=>⟨[],[]⟩) [] (.b (.b .o (.t [])) (.t [])) .o)⟩
instance {t0 t1 r}:Con (Dl t0 t1=some r) (Den Tryz.prog 138 [da t0,aa t1] (da r)):=⟨λh=>by
 refine dk 23 V3 ?_
 simp only[V3,Kf.of,zs,ze]
 unfold Dl at h
 exact pg @Yh.eq_1 (.l 2 1 (λ(q:((List Int) × Int))=>⟨[.p 4,.k 1,.p 1,.s (aa q.2)],[.c 0 ((q.1.map aa))]⟩) (λ(b10:(List Int))=>⟨[.k 5,.p 1],[.c 0 ((b10.map aa))]⟩) [ok 0] (.b (.j 1 (λ(j7:(List Int))=>⟨[.p 8],[.c 0 ((j7.map aa))]⟩) (.b (.t [ov 0 1]) (.t [ok 0])) (.t [ok 0])) (.t [ok 0])) .o)⟩
instance {t0 r}:Con (Zj t0=some r) (Den Tryz.prog 146 [Df t0] (ba r)):=⟨λh=>by
 refine dk 28 w4 ?_
 simp only[w4,Kf.of,zs,ze]
 unfold Zj at h
 exact pg @Wg.eq_1 (.l 1 0 (λ(s1:Int)=>⟨[.p 2,.k 1,.s (aa s1),.p 25],[]⟩) (λ(_:Unit)=>⟨[.p 2],[]⟩) [] (.b (.z 1 (.j 1 (λ(j6:Bool)=>⟨[.p 4,.k 21,.s (ba j6),.p 3],[]⟩) (.b (.b (.t []) (.t [])) (.t [])) (.b .o (.t [])))) (.t [])) .o)⟩
instance {t0 t1 r}:Con (Ej t0 t1=some r) (Den Tryz.prog 149 [da t0,aa t1] (da r)):=⟨λh=>by
 refine dk 46 B4 ?_
 simp only[B4,Kf.of,zs,ze]
 unfold Ej at h
 exact pg @uv.eq_1 (.l 3 2 (λ(q:((List Int) × Bool × Int))=>⟨[.p 4,.k 1,.s (.own 0 0),.s (ba q.2.1),.s (aa q.2.2),.p 40],[.n 1 ((q.1.map aa))]⟩) (λ(q:((List Int) × Bool))=>⟨[.k 1,.p 3,.k 1,.s (.own 0 0),.s (ba q.2)],[.n 1 ((q.1.map aa))]⟩) [on 1] (.b (.z 1 (.j 2 (λ(q:((List Int) × Bool))=>⟨[.p 6,.s (ba q.2),.p 1],[.c 0 ((q.1.map aa))]⟩) (.j 1 (λ(j7:Bool)=>⟨[.p 8,.k 15,.s (ba j7),.p 24],[.o 0]⟩) (.b (.t [ok 0]) (.t [ok 0])) (.b (.j 1 (λ(j12:(List Int))=>⟨[.p 6,.k 1,.p 16],[.c 0 ((j12.map aa))]⟩) (.b (.t [ov 0 1]) (.t [ok 0])) (.t [ok 0])) (.t [ok 0]))) (.t [ov 0 1]))) (.t [ok 0])) (.j 1 (λ(j24:(List Int))=>⟨[.k 5,.p 1],[.c 0 ((j24.map aa))]⟩) (.b (.t [ov 0 1]) (.t [ok 0])) .o))⟩
instance {t0 r}:Con (Jm t0=some r) (Den Tryz.prog 160 [HH t0] (ba r)):=⟨λh=>by
 refine dk 8 M4 ?_
 simp only[M4,Kf.of,zs,ze]
 unfold Jm at h
 exact pg trivial (.z 1 (.j 1 (λ(j2:Bool)=>⟨[.k 2,.s (ba j2),.p 6],[]⟩) (.b (.t []) (.t [])) .o))⟩
theorem Cr{t0 t1 r} (h:qe t0 t1=some r):Den Tryz.prog 166 [mb t0,Bp t1] (ba r):=by
 refine dk 6 Q4 ?_
 simp only[Q4,Kf.of,zs,ze]
 unfold qe at h
 exact pg trivial .o
instance {t0 t1 r}:Con (qe t0 t1=some r) (Den Tryz.prog 166 [mb t0,Bp t1] (ba r)):=⟨Cr⟩
instance {t0 t1 r}:Con (Hp t0 t1=some r) (Den Tryz.prog 201 [Ga t0,Uc t1] (.tup [ka r.1,aa r.2])):=⟨λh=>by
  unfold Hp at h
  cases h⟩
theorem vq{t0 r} (h:Th t0=some r):Den Tryz.prog 212 [aa t0] (ba r):=by
 refine dk 12 Q5 ?_
 simp only[Q5,Kf.of,zs,ze]
 unfold Th at h
 exact pg trivial (.z 1 (.j 1 (λ(j3:Bool)=>⟨[.k 2,.s (ba j3),.p 10],[]⟩) (.b (.b (.t []) (.t [])) (.t [])) .o))
instance {t0 r}:Con (Th t0=some r) (Den Tryz.prog 212 [aa t0] (ba r)):=⟨vq⟩
theorem Nk{t0}{t1:GTable->Option Bool}{k1:Nat}{q1:List D}(hc1:ia q1=true)(hp1:∀ x0 r,t1 x0=some r->Den Tryz.prog k1 ([mb x0]++q1) (ba r)){r} (h:Nb t0 t1=some r):Den Tryz.prog 218 [Fg t0,.fn k1 [] q1] (aa r):=by
 haveI I1:∀ x0 r,Con (t1 x0=some r) (Den Tryz.prog k1 ([mb x0]++q1) (ba r)):=λx0 r=>⟨hp1 x0 r⟩
 have s1:∀ f:D->D->Prop,Zu f q1 q1=True:=λ_=>bg hc1
 have z1:∀ a b n,Ys a b n q1=q1:=λ_ _ _=>Ld _ _ _ _ hc1
 refine Den.at 17 rY.ok rY.nm (iB (xK hc1 oz)) rfl ?_
 simp only[rY,Kf.of,zs,ze]
 unfold Nb at h
 exact pg @Fc.eq_1 (.l 1 0 (λ(s1:Int)=>⟨[.p 4,.k 3,.p 1,.s (aa s1),.p 10],[]⟩) (λ(_:Unit)=>⟨[],[]⟩) [] (.b (.b .o (.t [])) (.t [])) .o)
instance {t0 r}:Con (Ve t0=some r) (Den Tryz.prog 229 [aa t0] (ba r)):=⟨λh=>by
 refine dk 12 l6 ?_
 simp only[l6,Kf.of,zs,ze]
 unfold Ve at h
 exact pg trivial (.z 1 (.j 1 (λ(j3:Bool)=>⟨[.k 2,.s (ba j3),.p 10],[]⟩) (.b (.b (.t []) (.t [])) (.t [])) .o))⟩
instance {t0 t1 r}:Con (ng t0 t1=some r) (Den Tryz.prog 241 [ka t0,ka t1] (ba r)):=⟨λh=>by
 refine dk 15 w6 ?_
 simp only[w6,Kf.of,zs,ze]
 unfold ng at h
 exact pg trivial (.z 1 (.j 1 (λ(j2:Bool)=>⟨[.k 4,.s (ba j2),.p 12],[]⟩) (.b (.t []) (.t [])) .o))⟩
instance {t0 t1 t2 r}:Con (ow t0 t1 t2=some r) (Den Tryz.prog 260 [aa t0,ka t1,ka t2] (.tup [ka r.1,aa r.2])):=⟨λh=>by
  unfold ow at h
  cases h⟩
theorem wm{t0}{t1:GRule->Option Bool}{k1:Nat}{q1:List D}(hc1:ia q1=true)(hp1:∀ x0 r,t1 x0=some r->Den Tryz.prog k1 ([bb x0]++q1) (ba r)){r} (h:nc t0 t1=some r):Den Tryz.prog 265 [Cf t0,.fn k1 [] q1] (aa r):=by
 haveI I1:∀ x0 r,Con (t1 x0=some r) (Den Tryz.prog k1 ([bb x0]++q1) (ba r)):=λx0 r=>⟨hp1 x0 r⟩
 have s1:∀ f:D->D->Prop,Zu f q1 q1=True:=λ_=>bg hc1
 have z1:∀ a b n,Ys a b n q1=q1:=λ_ _ _=>Ld _ _ _ _ hc1
 refine Den.at 17 wY.ok wY.nm (iB (xK hc1 oz)) rfl ?_
 simp only[wY,Kf.of,zs,ze]
 unfold nc at h
 exact pg @Pc.eq_1 (.l 1 0 (λ(s1:Int)=>⟨[.p 4,.k 3,.p 1,.s (aa s1),.p 10],[]⟩) (λ(_:Unit)=>⟨[],[]⟩) [] (.b (.b .o (.t [])) (.t [])) .o)
instance {t0 r}:Con (Tx t0=some r) (Den Tryz.prog 275 [aa t0] (.tup [aa r.1,aa r.2.1,aa r.2.2])):=⟨λh=>by
  unfold Tx at h
  cases h⟩
instance {t0 r}:Con (mw t0=some r) (Den Tryz.prog 279 [aa t0] (ba r)):=⟨λh=>by
 refine dk 8 Q6 ?_
 simp only[Q6,Kf.of,zs,ze]
 unfold mw at h
 exact pg trivial (.z 1 (.j 1 (λ(j2:Bool)=>⟨[.k 2,.s (ba j2),.p 6],[]⟩) (.b (.t []) (.t [])) .o))⟩
instance {t0 r}:Con (qy t0=some r) (Den Tryz.prog 283 [aa t0] (ba r)):=⟨λh=>by
 refine dk 8 T6 ?_
 simp only[T6,Kf.of,zs,ze]
 unfold qy at h
 exact pg trivial (.z 1 (.j 1 (λ(j2:Bool)=>⟨[.k 2,.s (ba j2),.p 6],[]⟩) (.b (.t []) (.t [])) .o))⟩
end Go.Proofs.Dev
