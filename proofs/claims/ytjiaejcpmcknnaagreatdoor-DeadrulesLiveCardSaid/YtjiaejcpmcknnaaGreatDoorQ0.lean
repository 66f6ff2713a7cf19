/-
  Contracts of the functions: each answers as its plain partial function says.
-/
import Derived.Test.YtjiaejcpmcknnaaGreatDoorK
import Derived.Test.YtjiaejcpmcknnaaGreatDoorG
import Derived.Test.YtjiaejcpmcknnaaGreatDoorPD
import Derived.Test.YtjiaejcpmcknnaaGreatDoorH1
import Derived.Test.YtjiaejcpmcknnaaGreatDoorH2
set_option linter.all false
set_option maxHeartbeats 1000000
set_option maxRecDepth 10000
namespace Go.Proofs.Dev
open Go Go.Tm
instance {t0 r}:Con (Zm t0=some r) (Den Tryz.prog 9 [wo t0] (ba r)):=⟨λh=>by
 refine dk 27 k9 ?_
 simp only[k9,Kf.of,zs,ze]
 unfold Zm at h
 exact pg @uj.eq_1 (.z 2 (.j 1 (λ(j2:Bool)=>⟨[.k 1,.p 1,.k 11,.s (ba j2),.p 14],[.o 0]⟩) (.b (.t [ok 0]) (.t [ok 0])) (.b .o (.l 1 0 (λ(s4:Int)=>⟨[.k 1,.p 2,.s (aa s4),.p 9],[.o 0]⟩) (λ(_:Unit)=>⟨[],[]⟩) [ok 0] (.b (.b .o (.t [ok 0])) (.t [])) .o))))⟩
instance {t0 r}:Con (Fg t0=some r) (Den Tryz.prog 22 [Ca t0] (ba r)):=⟨λh=>by
 refine dk 92 k22 ?_
 simp only[k22,Kf.of,zs,ze]
 unfold Fg at h
 exact pg (And.intro @ai.eq_1 (And.intro @di.eq_1 @ei.eq_1)) (.z 2 (.j 1 (λ(j4:Bool)=>⟨[.k 1,.p 1,.k 26,.s (ba j4),.p 64],[.o 0]⟩) (.b (.b (.b (.t [ok 0]) (.t [ok 0])) (.t [ok 0])) (.t [ok 0])) (.b .o (.l 1 0 (λ(s6:Int)=>⟨[.k 1,.p 2,.s (aa s6),.p 24],[.o 0]⟩) (λ(_:Unit)=>⟨[.k 1,.p 2],[.o 0]⟩) [ok 0] (.b (.b .o (.t [ok 0])) (.t [ok 0])) (.l 1 0 (λ(s11:Int)=>⟨[.k 1,.p 3,.s (aa s11),.p 88],[.o 0]⟩) (λ(_:Unit)=>⟨[.k 1,.p 3],[.o 0]⟩) [ok 0] (.b (.b .o (.t [ok 0])) (.t [ok 0])) (.l 1 0 (λ(s16:Int)=>⟨[.k 1,.p 4,.s (aa s16),.p 87],[.o 0]⟩) (λ(_:Unit)=>⟨[],[]⟩) [ok 0] (.b (.z 2 (.j 1 (λ(j22:Bool)=>⟨[.k 1,.p 5,.k 86,.s (ba j22)],[.o 0]⟩) (.b (.b (.b (.t [ok 0]) (.t [ok 0])) (.t [ok 0])) (.t [ok 0])) (.b .o (.t [ok 0])))) (.t [])) .o))))))⟩
instance {t0 r}:Con (Pr t0=some r) (Den Tryz.prog 63 [qb t0] (aa r)):=⟨λh=>by
 refine dk 36 k63 ?_
 simp only[k63,Kf.of,zs,ze]
 unfold Pr at h
 exact pg (And.intro @Vh.eq_1 @Ym.eq_1) (.l 1 0 (λ(s1:Int)=>⟨[.p 2,.k 1,.p 1,.s (aa s1),.p 32],[]⟩) (λ(_:Unit)=>⟨[.p 2,.k 1,.p 1],[]⟩) [] (.b (.b .o (.t [])) (.t [])) (.l 2 1 (λ(q:(Int × Int))=>⟨[.p 3,.s (aa q.1),.p 1,.s (aa q.2),.p 31],[]⟩) (λ(b14:Int)=>⟨[.k 3,.s (aa b14),.p 1],[]⟩) [] (.z 1 (.j 1 (λ(j9:Bool)=>⟨[.p 25,.s (ba j9),.p 11],[]⟩) (.b (.t []) (.t [])) (.b (.t []) (.t [])))) .o))⟩
theorem Pg{t0}{t1:GCoverageHole->Option Bool}{k1:Nat}{q1:List D}(hc1:ja q1=true)(hp1:∀ x0 r,t1 x0=some r->Den Tryz.prog k1 ([Da x0]++q1) (ba r)){r} (h:Qa t0 t1=some r):Den Tryz.prog 79 [Gb t0,.fn k1 [] q1] (aa r):=by
 haveI I1:∀ x0 r,Con (t1 x0=some r) (Den Tryz.prog k1 ([Da x0]++q1) (ba r)):=λx0 r=>⟨hp1 x0 r⟩
 have s1:∀ f:D->D->Prop,yw f q1 q1=True:=λ_=>pf hc1
 have z1:∀ a b n,Ru a b n q1=q1:=λ_ _ _=>we _ _ _ _ hc1
 refine Den.at 17 k79.ok k79.nm (iD (zO hc1 AA)) rfl ?_
 simp only[k79,Kf.of,zs,ze]
 unfold Qa at h
 exact pg @Ja.eq_1 (.l 1 0 (λ(s1:Int)=>⟨[.p 4,.k 3,.p 1,.s (aa s1),.p 10],[]⟩) (λ(_:Unit)=>⟨[],[]⟩) [] (.b (.b .o (.t [])) (.t [])) .o)
instance {t0 r}:Con (nk t0=some r) (Den Tryz.prog 96 [Bb t0] (Rj r)):=⟨λh=>by
 refine dk 19 k96 ?_
 simp only[k96,Kf.of,zs,ze]
 unfold nk at h
 exact pg @Ms.eq_1 (.l 2 1 (λ(q:((List GType) × Int))=>⟨[.p 2,.k 1,.s (.own 0 0),.s (aa q.2),.p 15],[.n 2 ((q.1.map ra))]⟩) (λ(b8:(List GType))=>⟨[.k 3,.s (.own 0 0)],[.n 2 ((b8.map ra))]⟩) [on 2] (.b (.t [ov 0 1]) (.t [ok 0])) .o)⟩
instance {t0 r}:Con (lh t0=some r) (Den Tryz.prog 98 [aa t0] (ba r)):=⟨λh=>by
 refine dk 8 k98 ?_
 simp only[k98,Kf.of,zs,ze]
 unfold lh at h
 exact pg trivial (.z 1 (.j 1 (λ(j2:Bool)=>⟨[.k 2,.s (ba j2),.p 6],[]⟩) (.b (.t []) (.t [])) .o))⟩
instance {t0 t1 r}:Con (bf t0 t1=some r) (Den Tryz.prog 119 [ab t0,aa t1] (.tup [Bb r.1,aa r.2])):=⟨λh=>by
 refine dk 26 fab ?_
 simp only[fab,Kf.of,zs,ze]
 unfold bf at h
 exact pg trivial (.z 3 (.j 1 (λ(j3:Bool)=>⟨[.k 2,.p 2,.k 2,.p 1,.k 14,.s (ba j3),.p 6],[.o 0]⟩) (.b (.t [ok 0]) (.t [ok 0])) .o))⟩
instance {t0 r}:Con (Gk t0=some r) (Den Tryz.prog 141 [aa t0] (aa r)):=⟨λh=>by
 refine dk 32 yab ?_
 simp only[yab,Kf.of,zs,ze]
 unfold Gk at h
 exact pg trivial (.z 2 (.j 1 (λ(j5:Bool)=>⟨[.p 2,.k 14,.s (ba j5),.p 16],[]⟩) (.b (.b (.b (.t []) (.t [])) (.t [])) (.b (.t []) (.t []))) (.b .o (.z 2 (.j 1 (λ(j12:Bool)=>⟨[.p 16,.k 1,.p 1,.s (ba j12),.p 14],[]⟩) (.b (.t []) (.b (.t []) (.b (.t []) (.b (.t []) (.b (.t []) (.t [])))))) (.b .o (.b .o (.z 1 (.j 1 (λ(j16:Bool)=>⟨[.k 32,.s (ba j16)],[]⟩) (.b (.t []) (.t [])) .o)))))))))⟩
theorem Po{t0 t1 r} (h:Rb t0 t1=some r):Den Tryz.prog 144 [ra t0,Vb t1] (ba r):=by
 refine dk 29 Bab ?_
 simp only[Bab,Kf.of,zs,ze]
 unfold Rb at h
 exact pg trivial (.b (.j 1 (λ(j3:Bool)=>⟨[.k 4,.s (ba j3)],[]⟩) (.b (.t []) (.t [])) .o) (.j 1 (λ(j6:Bool)=>⟨[.k 4,.s (ba j6)],[]⟩) (.b (.b (.t []) (.t [])) (.t [])) .o))
instance {t0 t1 r}:Con (Rb t0 t1=some r) (Den Tryz.prog 144 [ra t0,Vb t1] (ba r)):=⟨Po⟩
instance {t0 r}:Con (Jh t0=some r) (Den Tryz.prog 145 [Bb t0] (Rj r)):=⟨λh=>by
 refine dk 18 Cab ?_
 simp only[Cab,Kf.of,zs,ze]
 unfold Jh at h
 exact pg @bj.eq_1 (.l 2 1 (λ(q:((List GType) × Int))=>⟨[.k 3,.s (.own 0 0),.p 4,.s (aa q.2),.p 10],[.n 2 ((q.1.map ra))]⟩) (λ(b8:(List GType))=>⟨[.k 3,.s (.own 0 0),.p 2],[.n 2 ((b8.map ra))]⟩) [on 2] (.b (.t [ov 0 1]) (.t [ok 0])) .o)⟩
instance {t0 t1 r}:Con (Af t0 t1=some r) (Den Tryz.prog 153 [Ya t0,La t1] (aa r)):=⟨λh=>by
 refine dk 17 Kab ?_
 simp only[Kab,Kf.of,zs,ze]
 unfold Af at h
 exact pg @zc.eq_1 (.l 1 0 (λ(s1:Int)=>⟨[.p 1,.k 2,.p 1,.k 3,.p 1,.s (aa s1),.p 10],[.o 0]⟩) (λ(_:Unit)=>⟨[],[]⟩) [ok 0] (.b (.b .o (.t [ok 0])) (.t [])) .o)⟩
theorem rm{t0}{t1:GScope->Option Bool}{k1:Nat}{q1:List D}(hc1:ja q1=true)(hp1:∀ x0 r,t1 x0=some r->Den Tryz.prog k1 ([Ca x0]++q1) (ba r)){r} (h:Nb t0 t1=some r):Den Tryz.prog 237 [Ko t0,.fn k1 [] q1] (aa r):=by
 haveI I1:∀ x0 r,Con (t1 x0=some r) (Den Tryz.prog k1 ([Ca x0]++q1) (ba r)):=λx0 r=>⟨hp1 x0 r⟩
 have s1:∀ f:D->D->Prop,yw f q1 q1=True:=λ_=>pf hc1
 have z1:∀ a b n,Ru a b n q1=q1:=λ_ _ _=>we _ _ _ _ hc1
 refine Den.at 17 S6.ok S6.nm (iD (zO hc1 AA)) rfl ?_
 simp only[S6,Kf.of,zs,ze]
 unfold Nb at h
 exact pg @Ic.eq_1 (.l 1 0 (λ(s1:Int)=>⟨[.p 4,.k 3,.p 1,.s (aa s1),.p 10],[]⟩) (λ(_:Unit)=>⟨[],[]⟩) [] (.b (.b .o (.t [])) (.t [])) .o)
theorem Hr{t0 t1 r} (h:Fc t0 t1=some r):Den Tryz.prog 238 [bb t0,Aq t1] (ba r):=by
 refine dk 7 Iac ?_
 simp only[Iac,Kf.of,zs,ze]
 unfold Fc at h
 exact pg trivial .o
instance {t0 t1 r}:Con (Fc t0 t1=some r) (Den Tryz.prog 238 [bb t0,Aq t1] (ba r)):=⟨Hr⟩
instance {t0 t1 r}:Con (dn t0 t1=some r) (Den Tryz.prog 244 [ka t0,aa t1] (aa r)):=⟨λh=>by
 refine dk 17 k244 ?_
 simp only[k244,Kf.of,zs,ze]
 unfold dn at h
 exact pg @vg.eq_1 (.l 1 0 (λ(s1:Int)=>⟨[.p 4,.k 3,.p 1,.s (aa s1),.p 10],[]⟩) (λ(_:Unit)=>⟨[],[]⟩) [] (.b (.b .o (.t [])) (.t [])) .o)⟩
theorem Dj{t0 r} (h:xb t0=some r):Den Tryz.prog 250 [aa t0] (ra r):=by
 refine dk 4 k250 ?_
 simp only[k250,Kf.of,zs,ze]
 unfold xb at h
 exact pg trivial .o
instance {t0 r}:Con (xb t0=some r) (Den Tryz.prog 250 [aa t0] (ra r)):=⟨Dj⟩
theorem ts{t0 r} (h:ij t0=some r):Den Tryz.prog 252 [aa t0] (ba r):=by
 refine dk 12 k252 ?_
 simp only[k252,Kf.of,zs,ze]
 unfold ij at h
 exact pg trivial (.z 1 (.j 1 (λ(j3:Bool)=>⟨[.k 2,.s (ba j3),.p 10],[]⟩) (.b (.b (.t []) (.t [])) (.t [])) .o))
instance {t0 r}:Con (ij t0=some r) (Den Tryz.prog 252 [aa t0] (ba r)):=⟨ts⟩
instance {t0 t1 t2 r}:Con (qw t0 t1 t2=some r) (Den Tryz.prog 268 [sb t0,aa t1,aa t2] (.tup [aa r.1,ba r.2])):=⟨λh=>by
  unfold qw at h
  cases h⟩
instance {t0 r}:Con (Ij t0=some r) (Den Tryz.prog 8 [ab t0] (ba r)):=⟨λh=>by
 refine dk 126 k8 ?_
 simp only[k8,Kf.of,zs,ze]
 unfold Ij at h
 exact pg (And.intro @vj.eq_1 (And.intro @wj.eq_1 (And.intro @xj.eq_1 @mh.eq_1))) (.z 2 (.j 1 (λ(j3:Bool)=>⟨[.k 1,.p 1,.k 22,.s (ba j3),.p 102],[.o 0]⟩) (.b (.b (.t [ok 0]) (.t [ok 0])) (.t [ok 0])) (.b .o (.l 1 0 (λ(s5:Int)=>⟨[.k 1,.p 4,.s (aa s5),.p 18],[.o 0]⟩) (λ(_:Unit)=>⟨[.k 1,.p 4],[.o 0]⟩) [ok 0] (.b (.z 2 (.j 1 (λ(j9:Bool)=>⟨[.k 1,.p 24,.k 24,.s (ba j9),.p 77],[.o 0]⟩) (.b (.t [ok 0]) (.t [ok 0])) (.b .o (.l 1 0 (λ(s11:Int)=>⟨[.k 1,.p 5,.s (aa s11),.p 42],[.o 0]⟩) (λ(_:Unit)=>⟨[.k 1,.p 5],[.o 0]⟩) [ok 0] (.b (.b .o (.t [ok 0])) (.t [ok 0])) (.t [ok 0]))))) (.t [ok 0])) (.l 2 0 (λ(q:(Int × Int))=>⟨[.k 1,.p 2,.s (aa q.1),.p 3,.s (aa q.2),.p 119],[.o 0]⟩) (λ(_:Unit)=>⟨[.k 1,.p 2,.k 1,.p 3],[.o 0]⟩) [ok 0] (.b (.z 2 (.j 1 (λ(j23:Bool)=>⟨[.k 1,.p 71,.k 27,.s (ba j23),.p 27],[.o 0]⟩) (.b (.t [ok 0]) (.t [ok 0])) (.b .o (.t [ok 0])))) (.t [ok 0])) (.l 2 0 (λ(q:(Int × Int))=>⟨[.k 1,.p 3,.s (aa q.1),.p 3,.s (aa q.2),.p 118],[.o 0]⟩) (λ(_:Unit)=>⟨[],[]⟩) [ok 0] (.b (.z 2 (.j 1 (λ(j33:Bool)=>⟨[.k 1,.p 99,.k 26,.s (ba j33)],[.o 0]⟩) (.b (.t [ok 0]) (.t [ok 0])) (.b .o (.t [ok 0])))) (.t [])) .o))))))⟩
theorem ag{t0}{t1:GCoverageHole->Option Bool}{k1:Nat}{q1:List D}(hc1:ja q1=true)(hp1:∀ x0 r,t1 x0=some r->Den Tryz.prog k1 ([Da x0]++q1) (ba r)){r} (h:ua t0 t1=some r):Den Tryz.prog 34 [Gb t0,.fn k1 [] q1] (ba r):=by
 haveI I1:∀ x0 r,Con (t1 x0=some r) (Den Tryz.prog k1 ([Da x0]++q1) (ba r)):=λx0 r=>⟨hp1 x0 r⟩
 have s1:∀ f:D->D->Prop,yw f q1 q1=True:=λ_=>pf hc1
 have z1:∀ a b n,Ru a b n q1=q1:=λ_ _ _=>we _ _ _ _ hc1
 haveI:∀ y0 r,Con (Qa y0 t1=some r) (Den Tryz.prog 79 [Gb y0,.fn k1 [] q1] (aa r)):=λy0 r=>⟨Pg hc1 hp1⟩
 refine Den.at 7 k34.ok k34.nm (iD (zO hc1 AA)) rfl ?_
 simp only[k34,Kf.of,zs,ze]
 unfold ua at h
 exact pg trivial .o
instance {t0 t1 r}:Con (Ai t0 t1=some r) (Den Tryz.prog 58 [ab t0,aa t1] (ta r)):=⟨λh=>by
 refine dk 53 k58 ?_
 simp only[k58,Kf.of,zs,ze]
 unfold Ai at h
 exact pg trivial (.z 2 (.j 1 (λ(j2:Bool)=>⟨[.k 1,.p 14,.s (ba j2),.p 39],[.o 0,.o 1]⟩) (.b (.t [ok 0,ok 1]) (.t [ok 0,ok 1])) (.b .o (.z 2 (.j 2 (λ(q:((List GType) × Bool))=>⟨[.k 4,.p 1,.k 1,.p 9],[.o 1,.h 3 [.g [.p 4,.s (Rj q.1),.s (ba q.2)]]]⟩) (.j 1 (λ(j8:Bool)=>⟨[.k 2,.p 13,.k 28,.s (ba j8),.p 11],[.o 0,.o 1,.o 2,.o 3]⟩) (.b (.t [ok 0,ok 1,ok 2,ok 3]) (.t [ok 0,ok 1,ok 2,ok 3])) (.b (.t [ok 1,ok 3]) (.t [ok 1,ok 3]))) .o)))))⟩
instance {t0 r}:Con (Bj t0=some r) (GD Tryz.prog 81 [] [] 1 (t0.map aa) (ka r)):=⟨λh=>by
 refine GD.at 6 k81.ok k81.nm AA AA (Fr.l _) rfl ?_
 simp only[k81,Kf.of,zs,ze]
 unfold Bj at h
 exact pg trivial .o⟩
instance {t0 t1 r}:Con (Ff t0 t1=some r) (Den Tryz.prog 101 [ra t0,Vb t1] (.tup [aa r.1,aa r.2])):=⟨λh=>by
 refine dk 28 Naa ?_
 simp only[Naa,Kf.of,zs,ze]
 unfold Ff at h
 exact pg trivial .o⟩
instance {t0 t1 r}:Con (pd t0 t1=some r) (Den Tryz.prog 103 [ab t0,aa t1] (ta r)):=⟨λh=>by
 refine dk 43 Paa ?_
 simp only[Paa,Kf.of,zs,ze]
 unfold pd at h
 exact pg trivial (.z 3 (.j 2 (λ(q:((List GType) × Bool))=>⟨[.k 4,.p 1,.k 1,.p 1],[.o 1,.h 3 [.g [.p 4,.s (Rj q.1),.s (ba q.2)]]]⟩) (.j 1 (λ(j5:Bool)=>⟨[.k 2,.p 5,.k 26,.s (ba j5),.p 11],[.o 0,.o 1,.o 2,.o 3]⟩) (.b (.t [ok 0,ok 1,ok 2,ok 3]) (.t [ok 0,ok 1,ok 2,ok 3])) (.b (.t [ok 1,ok 3]) (.t [ok 1,ok 3]))) .o))⟩
instance {t0 t1 r}:Con (xc t0 t1=some r) (Den Tryz.prog 110 [Ya t0,La t1] (ba r)):=⟨λh=>by
 refine dk 7 Waa ?_
 simp only[Waa,Kf.of,zs,ze]
 unfold xc at h
 exact pg trivial .o⟩
theorem vv{t0 r} (h:th t0=some r):GD Tryz.prog 122 [] [] 1 (t0.map aa) (ka r):=by
 refine GD.at 6 G6.ok G6.nm AA AA (Fr.l _) rfl ?_
 simp only[G6,Kf.of,zs,ze]
 unfold th at h
 exact pg trivial .o
instance {t0 r}:Con (th t0=some r) (GD Tryz.prog 122 [] [] 1 (t0.map aa) (ka r)):=⟨vv⟩
instance {t0 r}:Con (Eg t0=some r) (Den Tryz.prog 140 [Ya t0] (.tup [ka r.1,aa r.2.1,aa r.2.2])):=⟨λh=>by
 refine dk 69 xab ?_
 simp only[xab,Kf.of,zs,ze]
 unfold Eg at h
 exact pg @Oh.eq_1 (.b .o (.b .o (.l 3 2 (λ(q:((List Int) × (List Int) × Int))=>⟨[.p 2,.k 3,.s (.own 0 0),.s (.own 1 0),.s (aa q.2.2),.p 2],[.n 1 ((q.1.map aa)),.n 1 ((q.2.1.map aa))]⟩) (λ(q:((List Int) × (List Int)))=>⟨[.p 2,.k 3,.s (.own 0 0),.s (.own 1 0)],[.n 1 ((q.1.map aa)),.n 1 ((q.2.map aa))]⟩) [on 1,on 1] (.b (.b .o (.b .o (.z 1 (.j 2 (λ(q:((List Int) × Int))=>⟨[.p 8,.k 1,.s (aa q.2),.p 6],[.o 0,.c 1 ((q.1.map aa))]⟩) (.b (.t [ok 0,ov 1 1]) (.t [ok 0,ok 1])) (.b .o (.t [ov 0 1,ov 1 1])))))) (.t [ok 0,ok 1])) .o)))⟩
theorem Al{t0}{t1:GScope->Option Bool}{k1:Nat}{q1:List D}(hc1:ja q1=true)(hp1:∀ x0 r,t1 x0=some r->Den Tryz.prog k1 ([Ca x0]++q1) (ba r)){r} (h:Va t0 t1=some r):Den Tryz.prog 179 [Ko t0,.fn k1 [] q1] (ba r):=by
 haveI I1:∀ x0 r,Con (t1 x0=some r) (Den Tryz.prog k1 ([Ca x0]++q1) (ba r)):=λx0 r=>⟨hp1 x0 r⟩
 have s1:∀ f:D->D->Prop,yw f q1 q1=True:=λ_=>pf hc1
 have z1:∀ a b n,Ru a b n q1=q1:=λ_ _ _=>we _ _ _ _ hc1
 haveI:∀ y0 r,Con (Nb y0 t1=some r) (Den Tryz.prog 237 [Ko y0,.fn k1 [] q1] (aa r)):=λy0 r=>⟨rm hc1 hp1⟩
 refine Den.at 7 N6.ok N6.nm (iD (zO hc1 AA)) rfl ?_
 simp only[N6,Kf.of,zs,ze]
 unfold Va at h
 exact pg trivial .o
instance {t0 t1 r}:Con (Ae t0 t1=some r) (Den Tryz.prog 183 [ka t0,aa t1] (ba r)):=⟨λh=>by
 refine dk 7 aac ?_
 simp only[aac,Kf.of,zs,ze]
 unfold Ae at h
 exact pg trivial .o⟩
theorem XD{t0:GNode}{t1:GType}{t2:GSignature}{r:(GType×Bool)}(h:kl t0 t1 t2=some r):Den Tryz.prog 198 [La t0,ra t1,ta t2] (.tup [ra r.1,ba r.2]):=by
 refine dk 79 pac ?_;simp only[pac,Kf.of,zs,ze];unfold kl at h;refine ss (rg ?_);(try simp only[zz]);refine ss (ss (rg ?_));(try simp only[zz]);refine bk (ss (rg ?_));(try simp only[zz]);refine cd rfl ?_;(try simp only[zz]);refine gi h (λc1 h=>?_) λc1 h=>?_
 .have e1:=eT c1;refine ss (dy Rn ?_);obtain⟨x2,a3,h⟩:=bs h;simp only[zz,zy];refine lq (ts a3) ?_ (by simp only[zg,e1]);(try simp only[zz,zy]);cases h;exact rt ez
 have e2:=eF c1;refine ss (rg ?_);(try simp only[zz]);refine cd rfl ?_;(try simp only[zz]);refine gi h (λc3 h=>?_) λc3 h=>?_
 .have e4:=eT c3;refine ss (ay Rn [[],[],[],[],[2]] (by kernel_rfl) ?_);(try simp only[zz,zy]);cases h;exact rt ez
 have e5:=eF c3;refine jm h (λj5=>⟨ds 3 (.ref 0 0 0 0::.ref 1 0 0 0::.ref 2 0 0 0::.ref 3 0 0 0::ds 4 (aa t0.Op::ds 12 (ba j5::ds 57 []))),[.live 2 0 [La t0],.live 2 0 [ra t1],.live 6 0 [ta t2],.live 2 0 [.agg [aa 0,aa 0]]]⟩) (λz7 h6=>?_) λj5 h6 h=>?_
 .refine ss (rg ?_);(try simp only[zz]);refine cd rfl ?_;(try simp only[zz]);refine gi h6 (λc4 h6=>?_) λc4 h6=>?_
  .have e8:=eT c4;refine sk ?_;(try simp only[zz,eq_true c4,e8]);cases h6;exact tz [ok 0,ok 1,ok 2,ok 3]
  have e9:=eF c4;refine rg ?_;(try simp only[zz]);cases h6;exact tz [ok 0,ok 1,ok 2,ok 3]
 refine cd rfl ?_;(try simp only[zz]);refine gi h (λc6 h=>?_) λc6 h=>?_
 .refine ss (ay Rn [[],[],[],[],[2]] (by kernel_rfl) ?_);obtain⟨x7,a10,h⟩:=bs h;simp only[zz,zy];refine lq (Dj a10) ?_ (by simp only[zg,e2,e5,c6]);(try simp only[zz,zy]);cases h;exact rt ez
 refine ss (rg ?_);(try simp only[zz]);refine cd rfl ?_;(try simp only[zz]);refine gi h (λc8 h=>?_) λc8 h=>?_
 .have e11:=eT c8;refine ss (rg ?_);obtain⟨x9,f14,f15,h⟩:=bI h;(try simp only[zz,f14,f15]);refine jm h (λj14=>⟨ds 6 (.ref 0 0 0 0::ba j14::ds 74 []),[.live 2 0 [.agg [aa x9.Value.Kind,aa x9.Value.Enum]]]⟩) (λz17 h16=>?_) λj14 h16 h=>?_
  .refine ay Rn [[],[],[],[],[],[],[],[],[],[],[],[],[],[],[],[],[],[],[],[],[15,17]] (by kernel_rfl) ?_;obtain⟨x10,a18,h16⟩:=bs h16;simp only[zz,zy];refine lq (Po a18) ?_ (by simp only[zg,e2,e5,c6,e11]);(try simp only[zz,zy]);refine gi h16 (λc11 h16=>?_) λc11 h16=>?_
   .obtain⟨x12,a19,h16⟩:=bs h16;simp only[zz,c11,zy];refine lq (Po a19) ?_ (by simp only[zg,e2,e5,c6,e11,c11]);(try simp only[zz,c11,zy]);refine gi h16 (λc13 h16=>?_) λc13 h16=>?_
    ·(try simp only[zz,c11,c13,zy]);cases h16;exact tz [ok 3]
    (try simp only[zz,c11,c13,zy]);cases h16;exact tz [ok 3]
   (try simp only[zz,c11,zy]);cases h16;exact tz [ok 3]
  cases h;exact rt ez
 have e12:=eF c8;refine sk ?_;(try simp only[zz,c8,e12]);refine ss (rg ?_);obtain⟨x15,f21,f22,h⟩:=bI h;(try simp only[zz,f21,f22,Int.reduceEq,Int.reduceNeg]);refine jm h (λj20=>⟨ds 6 (.ref 0 0 0 0::ba j20::ds 74 []),[.live 2 0 [ra t1]]⟩) (λz24 h23=>?_) λj20 h23 h=>?_
 .refine ay Rn [[],[],[],[],[],[],[],[],[],[],[],[],[],[],[],[],[12]] (by kernel_rfl) ?_;(try simp only[zz,zy]);refine gi h23 (λc16 h23=>?_) λc16 h23=>?_
  .have e25:=eT c16;obtain⟨x17,a27,h23⟩:=bs h23;simp only[zz,eq_true c16,e25,zy];refine lq (Dj a27) ?_ (by simp only[zg,e2,e5,c6,e12,e25]);(try simp only[zz,eq_true c16,e25,zy]);refine gi h23 (λc18 h23=>?_) λc18 h23=>?_
   .obtain⟨x19,a28,h23⟩:=bs h23;simp only[zz,eq_true c16,e25,eq_true c18,zy];refine lq (Dj a28) ?_ (by simp only[zg,e2,e5,c6,e12,e25]);(try simp only[zz,eq_true c16,e25,eq_true c18,zy]);cases h23;exact tz [ok 3]
   (try simp only[zz,eq_true c16,e25,c18,zy]);cases h23;exact tz [ok 3]
  have e26:=eF c16;(try simp only[zz,c16,e26,zy]);cases h23;exact tz [ok 3]
 cases h;exact rt ez
instance {t0 t1 t2 r}:Con (kl t0 t1 t2=some r) (Den Tryz.prog 198 [La t0,ra t1,ta t2] (.tup [ra r.1,ba r.2])):=⟨XD⟩
theorem Kq{t0 r} (h:Yg t0=some r):Den Tryz.prog 251 [aa t0] (ba r):=by
 refine dk 8 k251 ?_
 simp only[k251,Kf.of,zs,ze]
 unfold Yg at h
 exact pg trivial (.z 1 (.j 1 (λ(j3:Bool)=>⟨[.k 2,.s (ba j3),.p 6],[]⟩) (.b (.t []) (.t [])) .o))
instance {t0 r}:Con (Yg t0=some r) (Den Tryz.prog 251 [aa t0] (ba r)):=⟨Kq⟩
theorem Mw{t0 t1 t2 r} (h:Vp t0 t1 t2=some r):Den Tryz.prog 253 [aa t0,aa t1,aa t2] (.tup [ra r.1,ba r.2]):=by
 refine dk 53 k253 ?_
 simp only[k253,Kf.of,zs,ze]
 unfold Vp at h
 exact pg trivial (.b (.j 3 (λ(q:(Int × Int × Bool))=>⟨[.k 6,.p 1,.s (ba q.2.2)],[.h 0 [.g [.s (aa q.1),.s (aa q.2.1)]]]⟩) (.b (.b (.t [ok 0]) (.t [ok 0])) (.t [ok 0])) .o) (.b (.j 3 (λ(q:(Int × Int × Bool))=>⟨[.k 6,.p 1,.s (ba q.2.2)],[.h 0 [.g [.s (aa q.1),.s (aa q.2.1)]]]⟩) (.b (.b (.t [ok 0]) (.t [ok 0])) (.t [ok 0])) .o) (.z 1 (.j 1 (λ(j16:Bool)=>⟨[.k 1,.p 6,.k 35,.s (ba j16),.p 13],[.o 0]⟩) (.b (.t [ok 0]) (.t [ok 0])) (.b .o (.j 3 (λ(q:(Int × Int × Bool))=>⟨[.k 6,.p 1,.s (ba q.2.2),.p 34],[.h 0 [.g [.s (aa q.1),.s (aa q.2.1)]]]⟩) (.b (.b (.t [ok 0]) (.t [ok 0])) (.t [ok 0])) .o))))))
instance {t0 t1 t2 r}:Con (Vp t0 t1 t2=some r) (Den Tryz.prog 253 [aa t0,aa t1,aa t2] (.tup [ra r.1,ba r.2])):=⟨Mw⟩
end Go.Proofs.Dev
