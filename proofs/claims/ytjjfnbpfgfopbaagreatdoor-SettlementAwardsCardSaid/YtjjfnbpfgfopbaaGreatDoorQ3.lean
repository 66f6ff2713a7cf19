/-
  Contracts of the functions: each answers as its plain partial function says.
-/
import Derived.Test.YtjjfnbpfgfopbaaGreatDoorK
import Derived.Test.YtjjfnbpfgfopbaaGreatDoorG
import Derived.Test.YtjjfnbpfgfopbaaGreatDoorPE
import Derived.Test.YtjjfnbpfgfopbaaGreatDoorH1
import Derived.Test.YtjjfnbpfgfopbaaGreatDoorH2
import Derived.Test.YtjjfnbpfgfopbaaGreatDoorL1
set_option linter.all false
set_option maxHeartbeats 1000000
set_option maxRecDepth 10000
namespace Go.Proofs.Dev
open Go Go.Tm
variable {t1:GRule->Option Bool}{k1:Nat}{q1:List D}
instance rX:C2 k16 Cj:=pg (And.intro (And.intro k16.eq_1 Cj.eq_1) Ak.eq_1) (.l 1 0 (EN [33,8,2] []) (EN [] []) [] (.z 1 (.j 1 (EN [161,2,89] []) .o .o)) .o)
instance XT:C1 k44 Pm:=pg (And.intro (And.intro k44.eq_1 Pm.eq_1) (And.intro km.eq_1 (And.intro qm.eq_1 rm.eq_1))) (.l 1 0 (EN [8,9,72,17,2,281] [0]) (EN [8,9] [0]) [] .o (.l 1 0 (EN [8,177,8,17,2,177] [0]) (EN [8,177] [0]) [] .o (.l 1 0 (EN [8,281,8,17,2,73] [0]) (EN [] []) [] .o .o)))
instance zI45{t0 r}:Con (jo t0=some r) (WE Tryz.prog 45 [] [] 2 (t0.map Wi) (Tk r)):=⟨λh=>by
 refine WE.at 21 k45.ok k45.nm YB YB (Fr.l _) rfl ?_
 simp only[k45,Kf.of,zs,ze]
 unfold jo at h
 exact pg trivial .o⟩
instance JL:C2 k79 re:=pg (And.intro k79.eq_1 re.eq_1) (.z 1 (.j 1 (EN [32,2,137] []) .o .o))
instance tW:C2 k90 qn:=pg (And.intro (And.intro k90.eq_1 qn.eq_1) Lg.eq_1) (.l 1 0 (EN [33,16,2,9] []) (EN [] []) [] (.z 4 (.j 1 (EN [89,176,2,17] [0]) .o .o)) .o)
instance Y6:C1 k99 Fp:=pg (And.intro k99.eq_1 Fp.eq_1) (.z 1 (.j 1 (EN [16,2,49] []) .o .o))
instance NO:C1 k109 Vd:=pg (And.intro k109.eq_1 Vd.eq_1) (.z 1 (.j 1 (EN [16,2,49] []) .o .o))
instance aX:C1 k113 th:=pg (And.intro k113.eq_1 th.eq_1) (.z 1 (.j 1 (EN [16,2,49] []) .o .o))
instance HS:C1 k117 Vg:=pg (And.intro k117.eq_1 Vg.eq_1) (.z 1 (.j 1 (EN [16,2,49] []) .o .o))
instance Y0:C2 k118 lf:=pg (And.intro k118.eq_1 lf.eq_1) (.z 1 (.j 1 (EN [32,2,73] []) .o .o))
instance zI120{t0 r}:Con (qe t0=some r) (Den Tryz.prog 120 [ca t0] (vi r)):=⟨λh=>by
 refine dk 9 k120 ?_
 simp only[k120,Kf.of,zs,ze]
 unfold qe at h
 exact pg trivial .o⟩
instance zI122{t0 t1 t2 t3 t4 r}:Con (Re t0 t1 t2 t3 t4=some r) (Den Tryz.prog 122 [vi t0,vi t1,vi t2,sa t3,ca t4] (vi r)):=⟨λh=>by
 refine dk 50 k122 ?_
 simp only[k122,Kf.of,zs,ze]
 unfold Re at h
 exact pg trivial (.z 4 (.j 1 (EN [9,80,2] []) .o (.j 1 ⟨[.w 0,.p 10],[]⟩ .o .o)))⟩
instance zI123{t0 t1 r}:Con (eo t0 t1=some r) (Den Tryz.prog 123 [vi t0,sa t1] (ca r)):=⟨λh=>by
 refine dk 9 k123 ?_
 simp only[k123,Kf.of,zs,ze]
 unfold eo at h
 exact pg trivial .o⟩
instance DR:C1 k135 Wc:=pg (And.intro k135.eq_1 Wc.eq_1) (.z 1 (.j 1 (EN [16,2,121] []) .o .o))
instance cX:C1 k163 cmp_isNaN_int:=pg (And.intro k163.eq_1 cmp_isNaN_int.eq_1) .o
instance BU:C1 k167 Rm:=pg (And.intro k167.eq_1 Rm.eq_1) .o
theorem Aq{t0}{t1:GRow->Option Bool}(hc1:fa q1=true)(hp1:∀ x0 r,t1 x0=some r->Den Tryz.prog k1 ([Wp x0]++q1) (sa r)){r} (h:Nb t0 t1=some r):Den Tryz.prog 175 [Vx t0,.fn k1 [] q1] (.tup [ca r.1,sa r.2]):=by
 haveI I1:∀ x0 r,Con (t1 x0=some r) (Den Tryz.prog k1 ([Wp x0]++q1) (sa r)):=λx0 r=>⟨hp1 x0 r⟩
 have s1:∀ f:D->D->Prop,gx f q1 q1=True:=λ_=>ph hc1
 have z1:∀ a b n,yv a b n q1=q1:=λ_ _ _=>pf _ _ _ _ hc1
 refine Den.at 18 k175.ok k175.nm (bE (nV hc1 YB)) rfl ?_
 simp only[k175,Kf.of,zs,ze]
 unfold Nb at h
 exact pg Eb.eq_1 (.l 1 0 (EN [8,25,32,17,2,73] []) (EN [] []) [] .o .o)
instance DI:C2 k196 Mf:=pg (And.intro k196.eq_1 Mf.eq_1) (.z 3 (.j 1 (EN [16,17,16,9,112,2,49] [0]) .o .o))
theorem mo{t0}{t1:GEnum->Option Bool}(hc1:fa q1=true)(hp1:∀ x0 r,t1 x0=some r->Den Tryz.prog k1 ([Rn x0]++q1) (sa r)){r} (h:mc t0 t1=some r):Den Tryz.prog 207 [Pt t0,.fn k1 [] q1] (ca r):=by
 haveI I1:∀ x0 r,Con (t1 x0=some r) (Den Tryz.prog k1 ([Rn x0]++q1) (sa r)):=λx0 r=>⟨hp1 x0 r⟩
 have s1:∀ f:D->D->Prop,gx f q1 q1=True:=λ_=>ph hc1
 have z1:∀ a b n,yv a b n q1=q1:=λ_ _ _=>pf _ _ _ _ hc1
 refine Den.at 17 k207.ok k207.nm (bE (nV hc1 YB)) rfl ?_
 simp only[k207,Kf.of,zs,ze]
 unfold mc at h
 exact pg ld.eq_1 (.l 1 0 (EN [33,24,9,2,81] []) (EN [] []) [] .o .o)
theorem Fm{t0}{t1:GScope->Option Bool}(hc1:fa q1=true)(hp1:∀ x0 r,t1 x0=some r->Den Tryz.prog k1 ([ee x0]++q1) (sa r)){r} (h:Lb t0 t1=some r):Den Tryz.prog 209 [Xq t0,.fn k1 [] q1] (ca r):=by
 haveI I1:∀ x0 r,Con (t1 x0=some r) (Den Tryz.prog k1 ([ee x0]++q1) (sa r)):=λx0 r=>⟨hp1 x0 r⟩
 have s1:∀ f:D->D->Prop,gx f q1 q1=True:=λ_=>ph hc1
 have z1:∀ a b n,yv a b n q1=q1:=λ_ _ _=>pf _ _ _ _ hc1
 refine Den.at 17 k209.ok k209.nm (bE (nV hc1 YB)) rfl ?_
 simp only[k209,Kf.of,zs,ze]
 unfold Lb at h
 exact pg Lc.eq_1 (.l 1 0 (EN [33,24,9,2,81] []) (EN [] []) [] .o .o)
theorem oo{t0}(hc1:fa q1=true)(hp1:∀ x0 r,t1 x0=some r->Den Tryz.prog k1 ([Jf x0]++q1) (sa r)){r} (h:nc t0 t1=some r):Den Tryz.prog 229 [Wj t0,.fn k1 [] q1] (ca r):=by
 haveI I1:∀ x0 r,Con (t1 x0=some r) (Den Tryz.prog k1 ([Jf x0]++q1) (sa r)):=λx0 r=>⟨hp1 x0 r⟩
 have s1:∀ f:D->D->Prop,gx f q1 q1=True:=λ_=>ph hc1
 have z1:∀ a b n,yv a b n q1=q1:=λ_ _ _=>pf _ _ _ _ hc1
 refine Den.at 17 k229.ok k229.nm (bE (nV hc1 YB)) rfl ?_
 simp only[k229,Kf.of,zs,ze]
 unfold nc at h
 exact pg od.eq_1 (.l 1 0 (EN [33,24,9,2,81] []) (EN [] []) [] .o .o)
theorem Aw{t0}(hc1:fa q1=true)(hp1:∀ x0 r,t1 x0=some r->Den Tryz.prog k1 ([Jf x0]++q1) (sa r)){r} (h:xf t0 t1=some r):Den Tryz.prog 235 [Wj t0,.fn k1 [] q1] (.tup [Xa r.1,Xa r.2]):=by
 haveI I1:∀ x0 r,Con (t1 x0=some r) (Den Tryz.prog k1 ([Jf x0]++q1) (sa r)):=λx0 r=>⟨hp1 x0 r⟩
 have s1:∀ f:D->D->Prop,gx f q1 q1=True:=λ_=>ph hc1
 have z1:∀ a b n,yv a b n q1=q1:=λ_ _ _=>pf _ _ _ _ hc1
 refine Den.at 57 k235.ok k235.nm (bE (nV hc1 YB)) rfl ?_
 simp only[k235,Kf.of,zs,ze]
 unfold xf at h
 exact pg Ze.eq_1 (.l 4 2 (EN [8,25,16,3,11,33,24,17,26,329] [260,268,18]) (EN [48,3,11] [260,268]) [5,5,0] (.z 2 (.j 3 (EN [8,137] [2,266,530]) (.z 2 (.j 1 (EN [8,81,2,49] [0,8,16,24]) (.j 1 (EN [8,137,96,2,225] [0,8,16,24]) .o .o) (.b (.t [256,260,8]) .o))) .o)) .o)
instance p9:C1 k245 Xm:=pg (And.intro k245.eq_1 Xm.eq_1) (.z 3 (.j 1 (EN [32,2,137] []) .o .o))
instance o9:C1 k246 Aj:=pg (And.intro k246.eq_1 Aj.eq_1) (.z 3 (.j 1 (EN [24,9,2,337] []) .o (.b .o (.j 1 (EN [24,9,120,2,217] []) .o (.b .o (.j 1 (EN [24,129,56,2,161] []) .o .o))))))
instance gV:C1 k256 Ob:=pg (And.intro k256.eq_1 Ob.eq_1) (.z 2 (.j 1 (EN [8,9,64,2,577] [0]) .o (.b .o (.b (.j 1 (EN [16,2,57] []) .o .o) (.b (.j 1 (EN [16,2,57] []) .o .o) (.b (.j 1 (EN [16,2,57] []) .o .o) (.b (.j 1 (EN [16,2,57] []) .o .o) (.b (.j 1 (EN [16,2,57] []) .o .o) (.b (.j 1 (EN [16,2,57] []) .o .o) .o)))))))))
instance gX:C2 k259 Cr:=pg (And.intro k259.eq_1 Cr.eq_1) (.z 5 (.j 1 (EN [32,9,8,9,184,2,25] [8]) (.t [4]) .o))
instance hX:C1 k280 ig:=pg (And.intro k280.eq_1 ig.eq_1) (.z 1 (.j 1 (EN [16,2,81] []) .o .o))
instance zI281{t0 t1 t2 r}:Con (Yn t0 t1 t2=some r) (Den Tryz.prog 281 [ca t0,ca t1,ca t2] (.tup [Xp r.1,sa r.2])):=⟨λh=>by
 refine dk 44 k281 ?_
 simp only[k281,Kf.of,zs,ze]
 unfold Yn at h
 exact pg trivial (.b (.j 1 ⟨[.k 6,.p 1,.i 0],[.h 0 [.g [.s (ca t1),.p 1]]]⟩ .o .o) (.b (.j 1 ⟨[.k 6,.p 1,.i 0],[.h 0 [.g [.s (ca t1),.p 1]]]⟩ .o .o) (.j 1 (EN [48,9,216,2,97] [0]) .o .o)))⟩
instance iW:C1 k297 wk:=pg (And.intro k297.eq_1 wk.eq_1) (.z 1 (.j 1 (EN [16,2,49] []) .o .o))
instance i7:C2 k298 lj:=pg (And.intro k298.eq_1 lj.eq_1) (.z 1 (.j 1 (EN [32,2,73] []) .o .o))
instance zI299{t0 t1 t2 t3 t4 r}:Con (Oo t0 t1 t2 t3 t4=some r) (Den Tryz.prog 299 [vi t0,vi t1,vi t2,sa t3,ca t4] (sa r)):=⟨λh=>by
 refine dk 44 k299 ?_
 simp only[k299,Kf.of,zs,ze]
 unfold Oo at h
 exact pg trivial (.b .o (.b .o (.b .o (.b .o (.b .o (.b (.j 1 (EN [80,2] []) .o .o) .o))))))⟩
instance pI:C1 k25 Db:=pg (And.intro k25.eq_1 Db.eq_1) .o
instance XX:C1 k43 Rp:=pg (And.intro k43.eq_1 Rp.eq_1) (.z 2 (.j 1 (EN [8,9,88,2,329] [0]) .o (.z 1 (.j 1 (EN [8,97,120,2,209] [0]) .o (.z 1 (.j 1 (EN [8,217,64,2,145] [0]) .o (.b .o (.j 1 (EN [16,2,265] []) .o .o))))))))
instance P3:C2 k56 pj:=pg (And.intro (And.intro k56.eq_1 pj.eq_1) Gi.eq_1) (.l 2 1 (EN [8,25,8,3,49,10,169] [772]) (EN [40,3,33] [772]) [13] (.z 4 (.j 2 ⟨[.k 1,.p 12],[.o 0,.h 1 [.g [.p 1,.i 0,.i 1]]]⟩ .o (.t [256]))) .o)
theorem YG{t0 t1 r} (h:pj t0 t1=some r):Zo Tryz.prog 56 [Cc t0,.own 0 0] [(7,t1.map Wd)] (Cc r):=by
 refine Zo.of 32 k56 ?_ (by simp[Fr.l])
 simp only[k56,Kf.of,zs,ze,Ss,List.map_cons,List.map_nil,List.length_cons,List.length_nil,Nat.reduceAdd]
 unfold pj at h
 exact pg Gi.eq_1 (.l 2 1 (EN [8,25,8,11,49,10,169] [1,772]) (EN [40,11,33] [1,772]) [0,13] (.z 4 (.j 2 ⟨[.k 1,.p 12],[.O 0,.o 1,.h 2 [.g [.p 1,.i 0,.i 1]]]⟩ .o (.t [0,260]))) .o)
instance zI56{t0 t1 r}:Con2 (pj t0 t1=some r) (Zo Tryz.prog 56 [Cc t0,.own 0 0] [(7,t1.map Wd)] (Cc r)):=⟨YG⟩
instance uX:C1 k75 je:=pg (And.intro (And.intro k75.eq_1 je.eq_1) qd.eq_1) (.z 2 (.j 1 (EN [8,9,128,2,209] [0]) .o (.l 1 0 (EN [8,137,16,17,2,177] [0]) (EN [] []) [] (.z 4 (.j 1 (EN [8,17,136,25,160,2,9] [0]) .o .o)) .o)))
instance X0:C4 k91 kq:=pg (And.intro k91.eq_1 kq.eq_1) (.z 6 (.j 1 (EN [65,176,2,329] []) .o .o))
instance eM:C2 k95 fc:=pg (And.intro k95.eq_1 fc.eq_1) (.z 1 (.j 1 (EN [32,2,113] []) .o .o))
instance NV:C3 k104 kf:=pg (And.intro k104.eq_1 kf.eq_1) (.z 6 (.j 1 (EN [49,128,2,177] []) .o .o))
instance AY:C2 k130 cmp_Less_int:=pg (And.intro k130.eq_1 cmp_Less_int.eq_1) (.z 1 (.j 1 (EN [32,2,97] []) .o .o))
instance lV:C1 k137 gk:=pg (And.intro k137.eq_1 gk.eq_1) (.z 1 (.j 1 (EN [16,2,73] []) .o .o))
instance CU:C1 k142 Oh:=pg (And.intro k142.eq_1 Oh.eq_1) .o
instance AO:C1 k164 Gc:=pg (And.intro k164.eq_1 Gc.eq_1) (.z 1 (.j 1 (EN [16,2,73] []) .o .o))
theorem Zl{t0}{t1:GEnum->Option Bool}(hc1:fa q1=true)(hp1:∀ x0 r,t1 x0=some r->Den Tryz.prog k1 ([Rn x0]++q1) (sa r)){r} (h:bb t0 t1=some r):Den Tryz.prog 181 [Pt t0,.fn k1 [] q1] (sa r):=by
 haveI I1:∀ x0 r,Con (t1 x0=some r) (Den Tryz.prog k1 ([Rn x0]++q1) (sa r)):=λx0 r=>⟨hp1 x0 r⟩
 have s1:∀ f:D->D->Prop,gx f q1 q1=True:=λ_=>ph hc1
 have z1:∀ a b n,yv a b n q1=q1:=λ_ _ _=>pf _ _ _ _ hc1
 haveI:∀ y0 r,Con (mc y0 t1=some r) (Den Tryz.prog 207 [Pt y0,.fn k1 [] q1] (ca r)):=λy0 r=>⟨mo hc1 hp1⟩
 refine Den.at 7 k181.ok k181.nm (bE (nV hc1 YB)) rfl ?_
 simp only[k181,Kf.of,zs,ze]
 unfold bb at h
 exact pg trivial .o
theorem Bl{t0}{t1:GScope->Option Bool}(hc1:fa q1=true)(hp1:∀ x0 r,t1 x0=some r->Den Tryz.prog k1 ([ee x0]++q1) (sa r)){r} (h:Ta t0 t1=some r):Den Tryz.prog 185 [Xq t0,.fn k1 [] q1] (sa r):=by
 haveI I1:∀ x0 r,Con (t1 x0=some r) (Den Tryz.prog k1 ([ee x0]++q1) (sa r)):=λx0 r=>⟨hp1 x0 r⟩
 have s1:∀ f:D->D->Prop,gx f q1 q1=True:=λ_=>ph hc1
 have z1:∀ a b n,yv a b n q1=q1:=λ_ _ _=>pf _ _ _ _ hc1
 haveI:∀ y0 r,Con (Lb y0 t1=some r) (Den Tryz.prog 209 [Xq y0,.fn k1 [] q1] (ca r)):=λy0 r=>⟨Fm hc1 hp1⟩
 refine Den.at 7 k185.ok k185.nm (bE (nV hc1 YB)) rfl ?_
 simp only[k185,Kf.of,zs,ze]
 unfold Ta at h
 exact pg trivial .o
theorem bm{t0}(hc1:fa q1=true)(hp1:∀ x0 r,t1 x0=some r->Den Tryz.prog k1 ([Jf x0]++q1) (sa r)){r} (h:db t0 t1=some r):Den Tryz.prog 213 [Wj t0,.fn k1 [] q1] (sa r):=by
 haveI I1:∀ x0 r,Con (t1 x0=some r) (Den Tryz.prog k1 ([Jf x0]++q1) (sa r)):=λx0 r=>⟨hp1 x0 r⟩
 have s1:∀ f:D->D->Prop,gx f q1 q1=True:=λ_=>ph hc1
 have z1:∀ a b n,yv a b n q1=q1:=λ_ _ _=>pf _ _ _ _ hc1
 haveI:∀ y0 r,Con (nc y0 t1=some r) (Den Tryz.prog 229 [Wj y0,.fn k1 [] q1] (ca r)):=λy0 r=>⟨oo hc1 hp1⟩
 refine Den.at 7 k213.ok k213.nm (bE (nV hc1 YB)) rfl ?_
 simp only[k213,Kf.of,zs,ze]
 unfold db at h
 exact pg trivial .o
instance xS:C1 k215 Jl:=pg (And.intro (And.intro k215.eq_1 Jl.eq_1) Zh.eq_1) (.z 2 (.j 1 (EN [17,64,2,129] []) .o (.l 1 0 (EN [81,16,9,2,105] []) (EN [] []) [] (.z 4 (.j 1 (EN [25,72,17,88,2,9] []) .o .o)) .o)))
instance iV:C1 k240 Zj:=pg (And.intro (And.intro k240.eq_1 Zj.eq_1) Zi.eq_1) (.l 3 2 (EN [17,24,9,11,25,72,17,18,433] [2,268]) (EN [17,24,9,11,25] [2,268]) [0,5] (.z 10 (.j 1 (EN [65,8,105] [2,8]) .o (.a [[],[],[],[],[],[],[],[],[5],[5],[]] (.b .o (.t [0,516]))))) .o)
instance GH:C2 k241 Fe:=pg (And.intro (And.intro k241.eq_1 Fe.eq_1) Rh.eq_1) (.l 3 1 (EN [16,17,8,9,10,18] [0,258]) (EN [40,9] [258]) [] (.b .o (.t [4])) .o)
instance OR:C1 k251 Hl:=pg (And.intro k251.eq_1 Hl.eq_1) (.z 2 (.j 1 (EN [8,9,120,2,241] [0]) .o (.z 2 (.j 1 (EN [8,129,16,9,2,217] [0]) .o (.b (.j 1 (EN [16,2,129] []) .o .o) (.b (.j 1 (EN [16,2,129] []) .o .o) .o))))))
instance BO:C1 k253 Xi:=pg (And.intro (And.intro k253.eq_1 Xi.eq_1) xg.eq_1) (.l 1 0 (EN [40,17,2,57] []) (EN [] []) [] .o .o)
instance UR:C2 k264 Ab:=pg (And.intro k264.eq_1 Ab.eq_1) (.b .o (.b (.a [[],[],[],[],[],[],[2,4]] .o) (.j 1 (EN [41,8,9,8,9,144,2,1553] [0,8]) .o (.b (.j 3 ⟨[.k 4,.p 1,.i 2],[.h 0 [.g [.i 0,.i 1]]]⟩ (.a [[],[],[],[],[],[],[],[],[],[],[],[],[],[],[],[],[],[]] .o) .o) (.j 1 (EN [217,160,2,1393] [0,8]) .o (.b .o (.b (.j 3 ⟨[.k 4,.p 1,.i 2],[.h 0 [.g [.i 0,.i 1]]]⟩ (.a [[],[],[],[],[],[],[],[],[],[],[],[],[],[],[],[10,12]] .o) .o) (.j 1 (EN [8,369,264,2,1129] [0,8]) .o (.b (.j 3 ⟨[.k 4,.p 1,.i 2],[.h 0 [.g [.i 0,.i 1]]]⟩ (.a [[],[],[],[],[],[],[],[],[],[],[],[],[],[],[],[],[],[],[],[],[],[],[],[],[18,20]] .o) .o) (.j 1 (EN [8,633,216,2,913] [0,8]) .o (.b (.a [[],[],[],[],[],[],[],[],[2,3,5,6]] .o) (.j 1 (EN [8,849,88,2,825] [0,8]) .o (.b (.j 1 ⟨[.k 4,.p 1,.i 0],[.h 0 [.g [.s (ca 1),.p 1]]]⟩ (.a [[],[],[],[],[],[],[],[],[],[],[],[],[],[],[],[],[],[],[],[],[],[],[16,18]] .o) .o) (.j 1 (EN [8,937,200,2,625] [0,8]) .o (.b (.j 1 ⟨[.k 4,.p 1,.i 0],[.h 0 [.g [.s (ca 1),.p 1]]]⟩ (.a [[],[],[],[],[],[],[],[],[],[],[],[],[],[8,10]] .o) .o) (.b (.j 3 ⟨[.k 4,.p 1,.i 2],[.h 0 [.g [.i 0,.i 1]]]⟩ (.a [[],[],[],[],[],[],[],[],[],[],[],[],[],[],[],[],[],[10,11,13,14]] .o) .o) (.j 1 (EN [8,41,16,1081,280,2,345] [0]) .o (.b (.j 3 ⟨[.k 4,.p 1,.i 2,.p 2],[.h 0 [.g [.i 0,.i 1]]]⟩ (.a [[],[],[],[],[],[],[],[],[],[],[],[],[],[],[],[10,12]] .o) .o) (.j 1 (EN [8,1417,144,2,201] [0]) .o (.b (.j 1 ⟨[.k 4,.p 1,.i 0,.p 2],[.h 0 [.g [.s (ca 2),.p 1]]]⟩ (.a [[],[],[],[],[],[],[],[],[],[],[],[],[],[8,10]] .o) .o) (.j 1 (EN [8,57,1632,2,73] [0]) .o (.b (.a [[],[],[],[],[],[],[2,4]] .o) .o))))))))))))))))))))))
instance tZ:C2 k266 Vn:=pg (And.intro k266.eq_1 Vn.eq_1) (.z 1 (.j 1 (EN [32,2,129] []) .o .o))
instance WN:C2 k284 si:=pg (And.intro k284.eq_1 si.eq_1) (.z 2 (.j 1 ⟨[.p 4,.k 3,.w 0,.p 4],[]⟩ .o .o))
instance uZ:C2 k293 bq:=pg (And.intro k293.eq_1 bq.eq_1) (.z 3 (.j 1 (EN [33,24,9,152,2,81] []) .o .o))
instance gW:C3 k296 nn:=pg (And.intro k296.eq_1 nn.eq_1) (.z 6 (.j 1 (EN [49,152,2,377] []) .o (.z 9 (.j 1 (EN [64,9,40,2,81] []) .o (.b .o (.j 1 (EN [112,2,417] []) .o .o))))))
end Go.Proofs.Dev
