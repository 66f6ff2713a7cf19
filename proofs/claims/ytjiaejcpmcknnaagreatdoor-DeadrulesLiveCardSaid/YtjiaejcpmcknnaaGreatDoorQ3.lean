/-
  Contracts of the functions: each answers as its plain partial function says.
-/
import Derived.Test.YtjiaejcpmcknnaaGreatDoorK
import Derived.Test.YtjiaejcpmcknnaaGreatDoorG
import Derived.Test.YtjiaejcpmcknnaaGreatDoorPD
import Derived.Test.YtjiaejcpmcknnaaGreatDoorH1
import Derived.Test.YtjiaejcpmcknnaaGreatDoorH2
open Option.some renaming inj->nad
set_option linter.all false
set_option maxHeartbeats 1000000
set_option maxRecDepth 10000
namespace Go.Proofs.Dev
open Go Go.Tm
theorem Ap{t0}{t1:GRule->Option Bool}{k1:Nat}{q1:List D}(hc1:ja q1=true)(hp1:∀ x0 r,t1 x0=some r->Den Tryz.prog k1 ([Za x0]++q1) (ba r)){r} (h:Cc t0 t1=some r):Den Tryz.prog 52 [me t0,.fn k1 [] q1] (.tup [ka r.1,ka r.2]):=by
 haveI I1:∀ x0 r,Con (t1 x0=some r) (Den Tryz.prog k1 ([Za x0]++q1) (ba r)):=λx0 r=>⟨hp1 x0 r⟩
 have s1:∀ f:D->D->Prop,yw f q1 q1=True:=λ_=>pf hc1
 have z1:∀ a b n,Ru a b n q1=q1:=λ_ _ _=>we _ _ _ _ hc1
 refine Den.at 57 k52.ok k52.nm (iD (zO hc1 AA)) rfl ?_
 simp only[k52,Kf.of,zs,ze]
 unfold Cc at h
 exact pg @Ge.eq_1 (.l 4 2 (λ(q:((List Int) × (List Int) × (List Int) × Int))=>⟨[.k 1,.p 3,.k 2,.s (.own 0 0),.s (.own 1 0),.p 4,.k 3,.p 2,.s (aa q.2.2.2),.p 41],[.n 1 ((q.1.map aa)),.n 1 ((q.2.1.map aa)),.c 0 ((q.2.2.1.map aa))]⟩) (λ(q:((List Int) × (List Int)))=>⟨[.k 6,.s (.own 0 0),.s (.own 1 0)],[.n 1 ((q.1.map aa)),.n 1 ((q.2.map aa))]⟩) [on 1,on 1,ok 0] (.b (.j 3 (λ(q:((List Int) × (List Int) × (List Int)))=>⟨[.k 1,.p 17],[.c 0 ((q.1.map aa)),.c 1 ((q.2.1.map aa)),.c 2 ((q.2.2.map aa))]⟩) (.z 2 (.j 1 (λ(j12:Int)=>⟨[.k 1,.p 10,.s (aa j12),.p 6],[.o 0,.o 1,.o 2,.o 3]⟩) (.j 1 (λ(j9:Bool)=>⟨[.k 1,.p 17,.k 12,.s (ba j9),.p 28],[.o 0,.o 1,.o 2,.o 3]⟩) (.b (.t [ok 0,ok 1,ok 2,ok 3]) (.t [ok 0,ok 1,ok 2,ok 3])) (.b (.t [ok 0,ok 1,ok 2,ok 3]) (.t [ok 0,ok 1,ok 2,ok 3]))) (.b (.t [ov 0 1,ov 1 1,ok 2]) (.t [ok 0,ok 1,ok 2])))) (.t [ok 0,ok 1,ok 2])) (.t [ok 0,ok 1])) .o)
instance {t0 r}:Con (yg t0=some r) (Den Tryz.prog 89 [Fb t0] (ba r)):=⟨λh=>by
 refine dk 17 k89 ?_
 simp only[k89,Kf.of,zs,ze]
 unfold yg at h
 exact pg trivial (.z 1 (.j 1 (λ(j3:Bool)=>⟨[.k 2,.s (ba j3),.p 15],[]⟩) (.b (.b (.t []) (.t [])) (.t [])) .o))⟩
instance {t0 r : List GRow}:Con (Sd t0=some r) (Den Tryz.prog 147 [Et t0] (Et r)):=⟨λh=>by
  unfold Sd at h
  split at h
  · rename_i hl
    obtain rfl := nad h
    refine dk 7 Eab ?_
    simp only[Eab,Kf.of,zs,ze]
    refine T.Yy ?_
    refine T.rg ?_
    simp only[zx, ze]
    refine T.Yy ?_
    refine T.Yy ?_
    refine T.Ot (i := 0) (S := 5) (l := t0.map uh) rfl (Fr.l _) (by simp) (by decide) (by decide) (by decide) ?_
    intro b hb
    have happ : app 40 ([] : List GRow) t0 = some t0 := by unfold app; rw[if_pos (by simp; omega)]; simp
    cases b with
    | true =>
      have hz : t0 = [] := by
        cases t0 with
        | nil => rfl
        | cons x l => exact absurd (hb (by simp)) (by simp)
      subst hz
      simp only[zx, ze]
      refine T.cd rfl ?_
      refine gP.mk (λ_ => ?_) (λh => absurd rfl h)
      refine T.Yy ?_
      refine T.rg ?_
      simp only[zx, ze]
      exact T.ret <| nn (by simp only[zx, ze, Ul, Zt, au, Nq]; exact rI (by simp only[zq, ze]))
    | false =>
      simp only[zx, ze]
      refine T.cd rfl ?_
      refine gP.mk (λh => by cases h) (λ_ => ?_)
      refine T.skip ?_
      simp only[zx, ze]
      refine T.Yy ?_
      refine T.rg ?_
      obtain⟨f1, f2⟩ := cI (e := uh) happ
      try simp only[zx, ze] at f1 f2
      simp only[zx, ze, f1, f2]
      exact T.ret <| nn (by simp only[zx, ze, Ul, Zt, au, Nq]; exact rI (by simp only[zq, ze]))
  · cases h⟩
instance {t0 r}:Con (Im t0=some r) (Den Tryz.prog 149 [aa t0] (ba r)):=⟨λh=>by
 refine dk 21 Gab ?_
 simp only[Gab,Kf.of,zs,ze]
 unfold Im at h
 exact pg trivial (.z 3 (.j 1 (λ(j17:Bool)=>⟨[.k 4,.s (ba j17),.p 17],[]⟩) (.b (.t []) (.b (.t []) (.b (.t []) (.b (.t []) (.b (.t []) (.b (.t []) (.b (.t []) (.b (.t []) (.b (.t []) (.b (.t []) (.b (.t []) (.b (.t []) (.b (.t []) (.b (.t []) (.b (.t []) (.b (.t []) (.t []))))))))))))))))) .o))⟩
instance {t0 r}:Con (xh t0=some r) (Den Tryz.prog 150 [aa t0] (aa r)):=⟨λh=>by
 refine dk 46 Hab ?_
 simp only[Hab,Kf.of,zs,ze]
 unfold xh at h
 exact pg trivial (.z 3 (.j 1 (λ(j14:Bool)=>⟨[.k 3,.p 1,.s (ba j14),.p 42],[]⟩) (.b (.t []) (.b (.t []) (.b (.t []) (.b (.t []) (.b (.t []) (.b (.t []) (.b (.t []) (.b (.t []) (.b (.t []) (.b (.t []) (.b (.t []) (.b (.t []) (.b (.t []) (.t [])))))))))))))) (.b .o (.j 1 (λ(j21:Bool)=>⟨[.k 3,.p 1,.k 15,.s (ba j21),.p 27],[]⟩) (.b (.t []) (.b (.t []) (.b (.t []) (.b (.t []) (.b (.t []) (.t [])))))) (.b .o (.j 1 (λ(j40:Bool)=>⟨[.k 3,.p 16,.k 7,.s (ba j40),.p 20],[]⟩) (.b (.t []) (.b (.t []) (.b (.t []) (.b (.t []) (.b (.t []) (.b (.t []) (.b (.t []) (.b (.t []) (.b (.t []) (.b (.t []) (.b (.t []) (.b (.t []) (.b (.t []) (.b (.t []) (.b (.t []) (.b (.t []) (.b (.t []) (.t [])))))))))))))))))) .o))))))⟩
theorem Hu{t0 t1 r} (h:Qf t0 t1=some r):Den Tryz.prog 176 [lg t0,Xq t1] (ba r):=by
 refine dk 6 Vab ?_
 simp only[Vab,Kf.of,zs,ze]
 unfold Qf at h
 exact pg trivial .o
instance {t0 t1 r}:Con (Qf t0 t1=some r) (Den Tryz.prog 176 [lg t0,Xq t1] (ba r)):=⟨Hu⟩
theorem Ir{t0 t1 r} (h:vd t0 t1=some r):Den Tryz.prog 180 [Ca t0,Bq t1] (ba r):=by
 refine dk 7 Xab ?_
 simp only[Xab,Kf.of,zs,ze]
 unfold vd at h
 exact pg trivial .o
instance {t0 t1 r}:Con (vd t0 t1=some r) (Den Tryz.prog 180 [Ca t0,Bq t1] (ba r)):=⟨Ir⟩
instance {t0 r}:Con (Mr t0=some r) (Den Tryz.prog 184 [iL t0] (ba r)):=⟨λh=>by
 refine dk 8 bac ?_
 simp only[bac,Kf.of,zs,ze]
 unfold Mr at h
 exact pg trivial (.z 1 (.j 1 (λ(j2:Bool)=>⟨[.k 2,.s (ba j2),.p 6],[]⟩) (.b (.t []) (.t [])) .o))⟩
instance {t0 t1 r}:Con (ql t0 t1=some r) (Den Tryz.prog 193 [ka t0,aa t1] (ka r)):=⟨λh=>by
 refine dk 46 kac ?_
 simp only[kac,Kf.of,zs,ze]
 unfold ql at h
 exact pg @Nw.eq_1 (.l 3 2 (λ(q:((List Int) × Bool × Int))=>⟨[.p 4,.k 1,.s (.own 0 0),.s (ba q.2.1),.s (aa q.2.2),.p 40],[.n 1 ((q.1.map aa))]⟩) (λ(q:((List Int) × Bool))=>⟨[.k 1,.p 3,.k 1,.s (.own 0 0),.s (ba q.2)],[.n 1 ((q.1.map aa))]⟩) [on 1] (.b (.z 1 (.j 2 (λ(q:((List Int) × Bool))=>⟨[.p 6,.s (ba q.2),.p 1],[.c 0 ((q.1.map aa))]⟩) (.j 1 (λ(j7:Bool)=>⟨[.p 8,.k 15,.s (ba j7),.p 24],[.o 0]⟩) (.b (.t [ok 0]) (.t [ok 0])) (.b (.j 1 (λ(j12:(List Int))=>⟨[.p 6,.k 1,.p 16],[.c 0 ((j12.map aa))]⟩) (.b (.t [ov 0 1]) (.t [ok 0])) (.t [ok 0])) (.t [ok 0]))) (.t [ov 0 1]))) (.t [ok 0])) (.j 1 (λ(j24:(List Int))=>⟨[.k 5,.p 1],[.c 0 ((j24.map aa))]⟩) (.b (.t [ov 0 1]) (.t [ok 0])) .o))⟩
instance {t0 r}:Con (Wl t0=some r) (Den Tryz.prog 194 [aa t0] (ba r)):=⟨λh=>by
 refine dk 34 lac ?_
 simp only[lac,Kf.of,zs,ze]
 unfold Wl at h
 exact pg trivial (.z 2 (.j 1 (λ(j5:Bool)=>⟨[.p 2,.k 14,.s (ba j5),.p 18],[]⟩) (.b (.b (.b (.t []) (.t [])) (.t [])) (.b (.t []) (.t []))) (.b .o (.j 1 (λ(j11:Bool)=>⟨[.k 2,.s (ba j11),.p 13],[]⟩) (.b (.b (.b (.b (.t []) (.t [])) (.t [])) (.t [])) (.t [])) .o))))⟩
instance {t0 t1 r}:Con (ic t0 t1=some r) (Den Tryz.prog 196 [La t0,ta t1] (ba r)):=⟨λh=>by
 refine dk 101 nac ?_
 simp only[nac,Kf.of,zs,ze]
 unfold ic at h
 exact pg trivial (.b (.j 1 (λ(j4:Bool)=>⟨[.k 4,.s (ba j4)],[]⟩) (.b (.t []) (.t [])) .o) (.b (.j 1 (λ(j7:Bool)=>⟨[.k 4,.s (ba j7)],[]⟩) (.b (.t []) (.t [])) .o) (.b (.j 1 (λ(j10:Bool)=>⟨[.k 4,.s (ba j10)],[]⟩) (.b (.t []) (.t [])) .o) (.b (.j 1 (λ(j13:Bool)=>⟨[.k 4,.s (ba j13)],[]⟩) (.b (.t []) (.t [])) .o) (.b .o (.b .o (.j 1 (λ(j19:Bool)=>⟨[.k 2,.p 2,.k 79,.s (ba j19),.p 19],[.o 0,.o 1]⟩) (.b (.t [ok 0,ok 1]) (.b (.t [ok 0,ok 1]) (.b (.t [ok 0,ok 1]) (.t [ok 0,ok 1])))) (.b (.j 1 (λ(j23:Bool)=>⟨[.k 4,.s (ba j23),.p 78],[]⟩) (.b (.b (.t []) (.t [])) (.t [])) .o) .o))))))))⟩
instance {t0 t1 r}:Con (Xg t0 t1=some r) (Den Tryz.prog 201 [aa t0,ta t1] (.tup [ra r.1,aa r.2])):=⟨λh=>by
 refine dk 32 sac ?_
 simp only[sac,Kf.of,zs,ze]
 unfold Xg at h
 exact pg trivial (.b .o (.z 2 (.j 1 (λ(j4:Bool)=>⟨[.k 4,.p 1,.k 1,.p 1,.k 23,.s (ba j4),.p 3],[.o 1]⟩) (.b (.t [ok 1]) (.t [ok 1])) .o)))⟩
instance {t0 t1 r}:Con (Br t0 t1=some r) (Den Tryz.prog 220 [La t0,Em t1] (ba r)):=⟨λh=>by
 refine dk 79 Aac ?_
 simp only[Aac,Kf.of,zs,ze]
 unfold Br at h
 exact pg trivial (.b (.j 1 (λ(j3:Bool)=>⟨[.k 4,.s (ba j3)],[]⟩) (.b (.t []) (.t [])) .o) (.b (.j 1 (λ(j8:Bool)=>⟨[.k 4,.s (ba j8)],[]⟩) (.b (.b (.t []) (.t [])) (.t [])) .o) (.b (.j 1 (λ(j11:Bool)=>⟨[.k 4,.s (ba j11)],[]⟩) (.b (.t []) (.t [])) .o) (.b .o (.j 1 (λ(j16:Bool)=>⟨[.k 2,.p 2,.k 61,.s (ba j16),.p 15],[.o 0,.o 1]⟩) (.b (.t [ok 0,ok 1]) (.b (.t [ok 0,ok 1]) (.b (.t [ok 0,ok 1]) (.t [ok 0,ok 1])))) (.b (.j 1 (λ(j19:Bool)=>⟨[.k 4,.s (ba j19),.p 60],[]⟩) (.b (.t []) (.t [])) .o) .o))))))⟩
instance {t0 r}:Con (Wb t0=some r) (Den Tryz.prog 224 [ma t0] (ba r)):=⟨λh=>by
 refine dk 82 Eac ?_
 simp only[Eac,Kf.of,zs,ze]
 unfold Wb at h
 exact pg trivial (.z 2 (.j 1 (λ(j2:Bool)=>⟨[.k 1,.p 1,.k 8,.s (ba j2),.p 72],[.o 0]⟩) (.b (.t [ok 0]) (.t [ok 0])) (.b .o (.b (.j 1 (λ(j6:Bool)=>⟨[.k 2,.s (ba j6),.p 7],[]⟩) (.b (.t []) (.t [])) .o) (.b (.j 1 (λ(j9:Bool)=>⟨[.k 2,.s (ba j9),.p 7],[]⟩) (.b (.t []) (.t [])) .o) (.b (.j 1 (λ(j12:Bool)=>⟨[.k 2,.s (ba j12),.p 7],[]⟩) (.b (.t []) (.t [])) .o) (.b (.j 1 (λ(j15:Bool)=>⟨[.k 2,.s (ba j15),.p 7],[]⟩) (.b (.t []) (.t [])) .o) (.b (.j 1 (λ(j18:Bool)=>⟨[.k 2,.s (ba j18),.p 7],[]⟩) (.b (.t []) (.t [])) .o) (.b (.j 1 (λ(j23:Bool)=>⟨[.k 2,.s (ba j23),.p 7],[]⟩) (.b (.b (.b (.t []) (.t [])) (.t [])) (.t [])) .o) .o)))))))))⟩
instance {t0 r}:Con (Nu t0=some r) (Den Tryz.prog 245 [iL t0] (ba r)):=⟨λh=>by
 refine dk 8 k245 ?_
 simp only[k245,Kf.of,zs,ze]
 unfold Nu at h
 exact pg trivial (.z 1 (.j 1 (λ(j2:Bool)=>⟨[.k 2,.s (ba j2),.p 6],[]⟩) (.b (.t []) (.t [])) .o))⟩
instance {t0 t1 r}:Con (Wt t0 t1=some r) (Den Tryz.prog 248 [Ca t0,aa t1] (ba r)):=⟨λh=>by
 refine dk 12 k248 ?_
 simp only[k248,Kf.of,zs,ze]
 unfold Wt at h
 exact pg trivial (.z 1 (.j 1 (λ(j2:Bool)=>⟨[.k 4,.s (ba j2),.p 9],[]⟩) (.b (.t []) (.t [])) .o))⟩
instance {t0 t1 r}:Con (Wg t0 t1=some r) (Den Tryz.prog 266 [ma t0,ma t1] (ba r)):=⟨λh=>by
 refine dk 15 k266 ?_
 simp only[k266,Kf.of,zs,ze]
 unfold Wg at h
 exact pg trivial (.z 1 (.j 1 (λ(j2:Bool)=>⟨[.k 4,.s (ba j2),.p 12],[]⟩) (.b (.t []) (.t [])) .o))⟩
theorem qm{t0}{t1:GField->Option Bool}{k1:Nat}{q1:List D}(hc1:ja q1=true)(hp1:∀ x0 r,t1 x0=some r->Den Tryz.prog k1 ([bb x0]++q1) (ba r)){r} (h:Mb t0 t1=some r):Den Tryz.prog 281 [Bb t0,.fn k1 [] q1] (aa r):=by
 haveI I1:∀ x0 r,Con (t1 x0=some r) (Den Tryz.prog k1 ([bb x0]++q1) (ba r)):=λx0 r=>⟨hp1 x0 r⟩
 have s1:∀ f:D->D->Prop,yw f q1 q1=True:=λ_=>pf hc1
 have z1:∀ a b n,Ru a b n q1=q1:=λ_ _ _=>we _ _ _ _ hc1
 refine Den.at 17 V6.ok V6.nm (iD (zO hc1 AA)) rfl ?_
 simp only[V6,Kf.of,zs,ze]
 unfold Mb at h
 exact pg @Hc.eq_1 (.l 1 0 (λ(s1:Int)=>⟨[.p 4,.k 3,.p 1,.s (aa s1),.p 10],[]⟩) (λ(_:Unit)=>⟨[],[]⟩) [] (.b (.b .o (.t [])) (.t [])) .o)
instance {t0 r}:Con (Vg t0=some r) (Den Tryz.prog 286 [aa t0] (ba r)):=⟨λh=>by
 refine dk 12 k286 ?_
 simp only[k286,Kf.of,zs,ze]
 unfold Vg at h
 exact pg trivial (.z 1 (.j 1 (λ(j3:Bool)=>⟨[.k 2,.s (ba j3),.p 10],[]⟩) (.b (.b (.t []) (.t [])) (.t [])) .o))⟩
instance {t0 t1 r}:Con (Wd t0 t1=some r) (Den Tryz.prog 54 [Fb t0,aa t1] (ba r)):=⟨λh=>by
 refine dk 17 k54 ?_
 simp only[k54,Kf.of,zs,ze]
 unfold Wd at h
 exact pg trivial (.z 1 (.j 1 (λ(j4:Bool)=>⟨[.k 4,.s (ba j4),.p 14],[]⟩) (.b (.b (.t []) (.t [])) (.t [])) .o))⟩
instance {t0 r}:Con (Hl t0=some r) (Den Tryz.prog 105 [vh t0] (vh r)):=⟨λh=>by
 refine dk 21 Raa ?_
 simp only[Raa,Kf.of,zs,ze]
 unfold Hl at h
 exact pg @Ih.eq_1 (.l 2 1 (λ(q:((List GTable) × Int))=>⟨[.k 3,.s (.own 0 0),.p 4,.s (aa q.2),.p 13],[.n 6 ((q.1.map sb))]⟩) (λ(b9:(List GTable))=>⟨[.k 3,.s (.own 0 0),.p 2],[.n 6 ((b9.map sb))]⟩) [on 6] (.b (.t [ov 0 1]) (.t [ok 0])) .o)⟩
instance {t0 r}:Con (Tj t0=some r) (Den Tryz.prog 148 [Ya t0] (.tup [ka r.1,aa r.2.1,aa r.2.2])):=⟨λh=>by
 refine dk 75 Fab ?_
 simp only[Fab,Kf.of,zs,ze]
 unfold Tj at h
 exact pg @Qi.eq_1 (.b .o (.b .o (.l 3 2 (λ(q:((List Int) × (List Int) × Int))=>⟨[.p 2,.k 3,.p 1,.s (.own 1 0),.p 3,.k 9,.p 2,.s (aa q.2.2),.p 54],[.c 0 ((q.1.map aa)),.n 1 ((q.2.1.map aa))]⟩) (λ(q:((List Int) × (List Int)))=>⟨[.p 2,.k 3,.p 1,.s (.own 1 0),.p 3],[.c 0 ((q.1.map aa)),.n 1 ((q.2.map aa))]⟩) [ok 0,on 1] (.b (.b .o (.b .o (.z 1 (.j 1 (λ(j18:(List Int))=>⟨[.p 8,.k 1,.p 13],[.c 0 ((j18.map aa)),.o 1]⟩) (.b (.t [ok 0,ok 1]) (.t [ok 0,ok 1])) (.a [[],[],[],[],[],[],[],[],[5],[5],[]] (.b .o (.t [ok 0,ov 1 2]))))))) (.t [ok 0,ok 1])) .o)))⟩
instance {t0 t1 r}:Con (pe t0 t1=some r) (Den Tryz.prog 156 [qa t0,aa t1] (ka r)):=⟨λh=>by
 refine dk 34 Lab ?_
 simp only[Lab,Kf.of,zs,ze]
 unfold pe at h
 exact pg @wh.eq_1 (.l 3 1 (λ(q:((List Int) × Int × Int))=>⟨[.k 2,.p 2,.k 1,.p 1,.s (aa q.2.1),.s (aa q.2.2)],[.o 0,.c 1 ((q.1.map aa))]⟩) (λ(b14:(List Int))=>⟨[.k 5,.p 1],[.c 1 ((b14.map aa))]⟩) [ok 0,ok 1] (.b (.t [ok 0,ok 1]) (.t [ok 1])) .o)⟩
instance {t0 r}:Con (Rt t0=some r) (Den Tryz.prog 185 [iL t0] (ba r)):=⟨λh=>by
 refine dk 12 cac ?_
 simp only[cac,Kf.of,zs,ze]
 unfold Rt at h
 exact pg trivial (.z 1 (.j 1 (λ(j5:Bool)=>⟨[.k 2,.s (ba j5),.p 10],[]⟩) (.b (.b (.t []) (.t [])) (.t [])) .o))⟩
instance {t0 r}:Con (Fl t0=some r) (Den Tryz.prog 219 [La t0] (ba r)):=⟨λh=>by
 refine dk 47 zac ?_
 simp only[zac,Kf.of,zs,ze]
 unfold Fl at h
 exact pg trivial (.z 2 (.j 1 (λ(j5:Bool)=>⟨[.k 1,.p 1,.k 15,.s (ba j5),.p 30],[.o 0]⟩) (.b (.b (.t [ok 0]) (.t [ok 0])) (.t [ok 0])) (.b .o (.z 2 (.j 1 (λ(j9:Bool)=>⟨[.k 1,.p 16,.k 2,.p 1,.s (ba j9),.p 27],[.o 0]⟩) (.b (.t [ok 0]) (.b (.t [ok 0]) (.t [ok 0]))) (.b (.j 1 (λ(j12:Bool)=>⟨[.k 2,.s (ba j12),.p 16],[]⟩) (.b (.t []) (.t [])) .o) (.b (.j 1 (λ(j15:Bool)=>⟨[.k 2,.s (ba j15),.p 16],[]⟩) (.b (.t []) (.t [])) .o) .o)))))))⟩
instance {t0 r}:Con (Mi t0=some r) (Den Tryz.prog 221 [gb t0] (ba r)):=⟨λh=>by
 refine dk 14 Bac ?_
 simp only[Bac,Kf.of,zs,ze]
 unfold Mi at h
 exact pg @Of.eq_1 (.l 1 0 (λ(s1:Int)=>⟨[.k 5,.p 2,.s (aa s1),.p 7],[]⟩) (λ(_:Unit)=>⟨[],[]⟩) [] (.b (.b .o (.t [])) (.t [])) .o)⟩
theorem xl{t0}{t1:GField->Option Bool}{k1:Nat}{q1:List D}(hc1:ja q1=true)(hp1:∀ x0 r,t1 x0=some r->Den Tryz.prog k1 ([bb x0]++q1) (ba r)){r} (h:Ha t0 t1=some r):Den Tryz.prog 239 [Bb t0,.fn k1 [] q1] (ba r):=by
 haveI I1:∀ x0 r,Con (t1 x0=some r) (Den Tryz.prog k1 ([bb x0]++q1) (ba r)):=λx0 r=>⟨hp1 x0 r⟩
 have s1:∀ f:D->D->Prop,yw f q1 q1=True:=λ_=>pf hc1
 have z1:∀ a b n,Ru a b n q1=q1:=λ_ _ _=>we _ _ _ _ hc1
 haveI:∀ y0 r,Con (Mb y0 t1=some r) (Den Tryz.prog 281 [Bb y0,.fn k1 [] q1] (aa r)):=λy0 r=>⟨qm hc1 hp1⟩
 refine Den.at 7 T6.ok T6.nm (iD (zO hc1 AA)) rfl ?_
 simp only[T6,Kf.of,zs,ze]
 unfold Ha at h
 exact pg trivial .o
theorem Mt{t0 r} (h:zi t0=some r):Den Tryz.prog 242 [ng t0] (ba r):=by
 refine dk 26 k242 ?_
 simp only[k242,Kf.of,zs,ze]
 unfold zi at h
 exact pg @Kh.eq_1 (.z 2 (.j 1 (λ(j3:Bool)=>⟨[.p 2,.k 8,.s (ba j3),.p 16],[]⟩) (.b (.t []) (.t [])) (.b .o (.l 1 0 (λ(s5:Int)=>⟨[.p 10,.k 2,.p 1,.s (aa s5),.p 13],[]⟩) (λ(_:Unit)=>⟨[],[]⟩) [] (.b (.z 2 (.j 1 (λ(j9:Bool)=>⟨[.p 3,.k 9,.p 2,.k 11,.s (ba j9),.p 1],[]⟩) (.b (.t []) (.t [])) (.b .o (.t [])))) (.t [])) .o))))
instance {t0 r}:Con (zi t0=some r) (Den Tryz.prog 242 [ng t0] (ba r)):=⟨Mt⟩
instance {t0 t1 r}:Con (Us t0 t1=some r) (Den Tryz.prog 262 [ma t0,ra t1] (ba r)):=⟨λh=>by
 refine dk 19 k262 ?_
 simp only[k262,Kf.of,zs,ze]
 unfold Us at h
 exact pg trivial (.z 1 (.j 1 (λ(j4:Bool)=>⟨[.k 4,.s (ba j4),.p 16],[]⟩) (.b (.b (.t []) (.t [])) (.t [])) .o))⟩
instance {t0 t1 r}:Con (Mo t0 t1=some r) (Den Tryz.prog 263 [aa t0,ra t1] (ba r)):=⟨λh=>by
 refine dk 30 k263 ?_
 simp only[k263,Kf.of,zs,ze]
 unfold Mo at h
 exact pg trivial (.b .o (.b (.j 1 (λ(j4:Bool)=>⟨[.k 4,.s (ba j4)],[]⟩) (.b (.t []) (.t [])) .o) (.b (.j 1 (λ(j8:Bool)=>⟨[.k 4,.s (ba j8)],[]⟩) (.b (.t []) (.t [])) .o) .o)))⟩
instance {t0 t1 r}:Con (He t0 t1=some r) (Den Tryz.prog 264 [aa t0,aa t1] (ba r)):=⟨λh=>by
 refine dk 14 k264 ?_
 simp only[k264,Kf.of,zs,ze]
 unfold He at h
 exact pg trivial .o⟩
instance {t0 t1 t2 r}:Con (Yd t0 t1 t2=some r) (Den Tryz.prog 265 [aa t0,ma t1,ma t2] (ba r)):=⟨λh=>by
 refine dk 131 k265 ?_
 simp only[k265,Kf.of,zs,ze]
 unfold Yd at h
 exact pg trivial (.z 3 (.j 1 (λ(j2:Bool)=>⟨[.k 4,.p 2,.k 1,.p 1,.s (ba j2),.p 125],[.o 0,.o 1]⟩) (.b (.t [ok 0,ok 1]) (.t [ok 0,ok 1])) (.b (.j 1 (λ(j7:Bool)=>⟨[.k 6,.s (ba j7)],[]⟩) (.b (.t []) (.t [])) .o) (.b (.j 1 (λ(j11:Bool)=>⟨[.k 6,.s (ba j11)],[]⟩) (.b (.b (.t []) (.t [])) (.t [])) .o) (.b (.j 1 (λ(j15:Bool)=>⟨[.k 6,.s (ba j15)],[]⟩) (.b (.b (.t []) (.t [])) (.t [])) .o) (.b (.b (.j 1 (λ(j19:Bool)=>⟨[.k 6,.s (ba j19)],[]⟩) (.b (.t []) (.t [])) .o) (.j 1 (λ(j21:Bool)=>⟨[.k 6,.s (ba j21)],[]⟩) (.b (.t []) (.t [])) .o)) (.b (.j 1 (λ(j24:Bool)=>⟨[.k 6,.s (ba j24)],[]⟩) (.b (.t []) (.t [])) .o) (.j 1 (λ(j28:Bool)=>⟨[.k 4,.p 4,.k 72,.s (ba j28),.p 53],[.o 0,.o 1]⟩) (.b (.t [ok 0,ok 1]) (.b (.t [ok 0,ok 1]) (.b (.t [ok 0,ok 1]) (.t [ok 0,ok 1])))) (.b (.j 1 (λ(j34:Bool)=>⟨[.k 6,.s (ba j34)],[]⟩) (.b (.b (.t []) (.t [])) (.t [])) .o) (.j 1 (λ(j36:Bool)=>⟨[.k 4,.p 76,.k 18,.s (ba j36),.p 35],[.o 0,.o 1]⟩) (.b (.t [ok 0,ok 1]) (.t [ok 0,ok 1])) (.b .o (.j 1 (λ(j40:Bool)=>⟨[.k 4,.p 94,.k 6,.s (ba j40),.p 29],[.o 0,.o 1]⟩) (.b (.t [ok 0,ok 1]) (.t [ok 0,ok 1])) (.b (.j 1 (λ(j43:Bool)=>⟨[.k 6,.s (ba j43)],[]⟩) (.b (.t []) (.t [])) .o) (.j 1 (λ(j45:Bool)=>⟨[.k 4,.p 3,.k 108,.s (ba j45),.p 18],[.o 0,.o 1]⟩) (.b (.t [ok 0,ok 1]) (.t [ok 0,ok 1])) (.b (.j 1 (λ(j48:Bool)=>⟨[.k 6,.s (ba j48),.p 108],[]⟩) (.b (.t []) (.t [])) .o) (.j 1 (λ(j50:Bool)=>⟨[.k 6,.s (ba j50),.p 108],[]⟩) (.b (.t []) (.t [])) .o))))))))))))))))⟩
instance {t0 r}:Con (Ki t0=some r) (Den Tryz.prog 280 [Fb t0] (ba r)):=⟨λh=>by
 refine dk 11 k280 ?_
 simp only[k280,Kf.of,zs,ze]
 unfold Ki at h
 exact pg trivial (.z 1 (.j 1 (λ(j3:Bool)=>⟨[.k 2,.s (ba j3),.p 9],[]⟩) (.b (.t []) (.t [])) .o))⟩
end Go.Proofs.Dev
