/-
  Contracts of the functions: each answers as its plain partial function says.
-/
import Derived.Test.YtmhfebelfmgckaaGreatDoorK
import Derived.Test.YtmhfebelfmgckaaGreatDoorG
import Derived.Test.YtmhfebelfmgckaaGreatDoorPE
import Derived.Test.YtmhfebelfmgckaaGreatDoorH1
import Derived.Test.YtmhfebelfmgckaaGreatDoorH2
import Derived.Test.YtmhfebelfmgckaaGreatDoorL1
open And renaming intro->ak
open Go.Proofs.Tryz renaming prog->al
set_option linter.all false
set_option maxHeartbeats 1000000
set_option maxRecDepth 10000
namespace Go.Proofs.Dev
open Go Go.Tm
variable {t1:GEnum->Option Bool}{k1:Nat}{q1:List D}
instance wP:C1 k22 cm:=pg (ak k22.eq_1 cm.eq_1) .o
instance zI37{t0 r}:Con (Rw t0=some r) (cJ al 37 [] [] 2 (t0.map Oh) (mA r)):=⟨λh=>by
 refine cJ.at 21 k37.ok k37.nm DH DH (Fr.l _) rfl ?_
 simp only[k37,Kf.of,zs,ze]
 unfold Rw at h
 exact pg trivial .o⟩
instance mW:C1 k158 fi:=pg (ak k158.eq_1 fi.eq_1) (.z 1 (.j (EN [16,2,49] []) .o .o))
instance Y6:C2 k159 Nf:=pg (ak k159.eq_1 Nf.eq_1) (.z 1 (.j (EN [32,2,73] []) .o .o))
instance zI160{t0 r}:Con (Je t0=some r) (Den al 160 [da t0] (Tj r)):=⟨λh=>by
 refine dk 9 k160 ?_
 simp only[k160,Kf.of,zs,ze]
 unfold Je at h
 exact pg trivial .o⟩
instance zI161{t0 t1 t2 t3 t4 r}:Con (lf t0 t1 t2 t3 t4=some r) (Den al 161 [Tj t0,Tj t1,Tj t2,za t3,da t4] (Tj r)):=⟨λh=>by
 refine dk 50 k161 ?_
 simp only[k161,Kf.of,zs,ze]
 unfold lf at h
 exact pg trivial (.z 4 (.j (EN [9,80,2] []) .o (.j ⟨[.w 0,.p 10],[]⟩ .o .o)))⟩
instance zI162{t0 t1 r}:Con (Iq t0 t1=some r) (Den al 162 [Tj t0,za t1] (da r)):=⟨λh=>by
 refine dk 9 k162 ?_
 simp only[k162,Kf.of,zs,ze]
 unfold Iq at h
 exact pg trivial .o⟩
instance Q1:C3 k176 Af:=pg (ak k176.eq_1 Af.eq_1) (.z 1 (.j (EN [48,2,65] []) .o .o))
instance ref07_valid_C:C1 k178 Ss:=pg (ak k178.eq_1 Ss.eq_1) (.z 1 (.j (EN [16,2,49] []) .o .o))
instance ref05_Valid_C:C1 k194 nf:=pg (ak k194.eq_1 nf.eq_1) (.z 1 (.j (EN [16,2,121] []) .o .o))
instance F0:C1 k228 cmp_isNaN_int:=pg (ak k228.eq_1 cmp_isNaN_int.eq_1) .o
theorem lu{t0}{t1:GRow->Option Bool}(hc1:oa q1=true)(hp1:∀ x0 r,t1 x0=some r->Den al k1 ([tt x0]++q1) (za r)){r} (h:Ub t0 t1=some r):Den al 303 [BB t0,.fn k1 [] q1] (.tup [da r.1,za r.2]):=by
 haveI I1:∀ x0 r,Con (t1 x0=some r) (Den al k1 ([tt x0]++q1) (za r)):=λx0 r=>⟨hp1 x0 r⟩
 have s1:∀ f:D->D->Prop,cB f q1 q1=True:=λ_=>Gj hc1
 have z1:∀ a b n,iz a b n q1=q1:=λ_ _ _=>Dg _ _ _ _ hc1
 refine Den.at 18 k303.ok k303.nm (WJ (N0 hc1 DH)) rfl ?_
 simp only[k303,Kf.of,zs,ze]
 unfold Ub at h
 exact pg Ib.eq_1 (.l (EN [8,25,32,17,2,73] []) (EN [] []) [] .o .o)
instance zI306{t0 r}:Con (nr t0=some r) (Den al 306 [rQ t0] (za r)):=⟨λh=>by
 refine dk 8 k306 ?_
 simp only[k306,Kf.of,zs,ze]
 unfold nr at h
 exact pg trivial (.z 1 (.j (EN [16,2,49] []) .o .o))⟩
instance CI:C2 k345 Fj:=pg (ak (ak k345.eq_1 Fj.eq_1) pe.eq_1) (.l (EN [33,24,9,2,81] []) (EN [] []) [] .o .o)
instance zI347{t0 r}:Con (dv t0=some r) (Den al 347 [rQ t0] (za r)):=⟨λh=>by
 refine dk 8 k347 ?_
 simp only[k347,Kf.of,zs,ze]
 unfold dv at h
 exact pg trivial (.z 1 (.j (EN [16,2,49] []) .o .o))⟩
theorem Xq{t0}(hc1:oa q1=true)(hp1:∀ x0 r,t1 x0=some r->Den al k1 ([Bq x0]++q1) (za r)){r} (h:Ac t0 t1=some r):Den al 348 [Fu t0,.fn k1 [] q1] (da r):=by
 haveI I1:∀ x0 r,Con (t1 x0=some r) (Den al k1 ([Bq x0]++q1) (za r)):=λx0 r=>⟨hp1 x0 r⟩
 have s1:∀ f:D->D->Prop,cB f q1 q1=True:=λ_=>Gj hc1
 have z1:∀ a b n,iz a b n q1=q1:=λ_ _ _=>Dg _ _ _ _ hc1
 refine Den.at 17 k348.ok k348.nm (WJ (N0 hc1 DH)) rfl ?_
 simp only[k348,Kf.of,zs,ze]
 unfold Ac at h
 exact pg Nd.eq_1 (.l (EN [33,24,9,2,81] []) (EN [] []) [] .o .o)
theorem nA{t0}{t1:GRule->Option Bool}(hc1:oa q1=true)(hp1:∀ x0 r,t1 x0=some r->Den al k1 ([mg x0]++q1) (za r)){r} (h:Vf t0 t1=some r):Den al 361 [km t0,.fn k1 [] q1] (.tup [qa r.1,qa r.2]):=by
 haveI I1:∀ x0 r,Con (t1 x0=some r) (Den al k1 ([mg x0]++q1) (za r)):=λx0 r=>⟨hp1 x0 r⟩
 have s1:∀ f:D->D->Prop,cB f q1 q1=True:=λ_=>Gj hc1
 have z1:∀ a b n,iz a b n q1=q1:=λ_ _ _=>Dg _ _ _ _ hc1
 refine Den.at 57 k361.ok k361.nm (WJ (N0 hc1 DH)) rfl ?_
 simp only[k361,Kf.of,zs,ze]
 unfold Vf at h
 exact pg Ef.eq_1 (.l (EN [8,25,16,3,11,33,24,17,26,329] [260,268,18]) (EN [48,3,11] [260,268]) [5,5,0] (.z 2 (.j (EN [8,137] [2,266,530]) (.z 2 (.j (EN [8,81,2,49] [0,8,16,24]) (.j (EN [8,137,96,2,225] [0,8,16,24]) .o .o) (.b (.t [256,260,8]) .o))) .o)) .o)
instance LS:C2 k363 xl:=pg (ak (ak k363.eq_1 xl.eq_1) Hh.eq_1) (.l (EN [8,25,88,17,2,193] []) (EN [] []) [] (.z 5 (.j (EN [8,41,72,25,80,2,105] []) .o (.b .o (.j (EN [8,33,80,105,96,2,9] []) .o .o)))) .o)
instance AZ:C3 k375 uj:=pg (ak (ak k375.eq_1 uj.eq_1) Xk.eq_1) (.l (EN [49,8,2,145] []) (EN [] []) [] (.z 1 (.j (EN [129,2,73] []) .o .o)) .o)
instance IW:C1 k376 so:=pg (ak (ak k376.eq_1 so.eq_1) vj.eq_1) (.l (EN [17,8,2,201] []) (EN [17] []) [] (.z 3 (.j (EN [33,168,2,25] []) .o .o)) .o)
instance yZ:C2 k381 Yp:=pg (ak (ak k381.eq_1 Yp.eq_1) Qk.eq_1) (.l (EN [33,8,2] []) (EN [] []) [] (.z 4 (.j (EN [113,144,2,97] []) .o (.b .o (.j (EN [257,96,2] []) .o .o)))) .o)
instance expr_Arity_C:C1 k396 Hl:=pg (ak k396.eq_1 Hl.eq_1) (.z 3 (.j (EN [24,9,2,337] []) .o (.b .o (.j (EN [24,9,120,2,217] []) .o (.b .o (.j (EN [24,129,56,2,161] []) .o .o))))))
instance date_valid_C:C1 k420 Cp:=pg (ak k420.eq_1 Cp.eq_1) (.z 1 (.j (EN [16,2,49] []) .o .o))
instance expr_UsesN_C:C1 k422 Ep:=pg (ak k422.eq_1 Ep.eq_1) (.z 3 (.j (EN [32,2,137] []) .o .o))
instance R8:C1 k437 Oq:=pg (ak k437.eq_1 Oq.eq_1) .o
instance ref13_fold_C:C4 k441 As:=pg (ak k441.eq_1 As.eq_1) (.b .o (.b .o (.b .o (.z 1 (.j (EN [8,17,232,2,17] []) .o .o)))))
instance eval_truth_C:C1 k464 ai:=pg (ak k464.eq_1 ai.eq_1) .o
instance L0:C1 k489 ah:=pg (ak k489.eq_1 ah.eq_1) (.z 1 (.j (EN [16,2,81] []) .o .o))
instance zI490{t0 t1 t2 r}:Con (rm t0 t1 t2=some r) (Den al 490 [da t0,da t1,da t2] (.tup [og r.1,za r.2])):=⟨λh=>by
 refine dk 44 k490 ?_
 simp only[k490,Kf.of,zs,ze]
 unfold rm at h
 exact pg trivial (.b (.j ⟨[.k 6,.p 1,.i 0],[.h 0 [.g [.s (da t1),.p 1]]]⟩ .o .o) (.b (.j ⟨[.k 6,.p 1,.i 0],[.h 0 [.g [.s (da t1),.p 1]]]⟩ .o .o) (.j (EN [48,9,216,2,97] [0]) .o .o)))⟩
instance fZ:C1 k505 Em:=pg (ak k505.eq_1 Em.eq_1) (.z 1 (.j (EN [16,2,49] []) .o .o))
instance rate_beyond_C:C2 k506 Jk:=pg (ak k506.eq_1 Jk.eq_1) (.z 1 (.j (EN [32,2,73] []) .o .o))
instance zI507{t0 t1 t2 t3 t4 r}:Con (vr t0 t1 t2 t3 t4=some r) (Den al 507 [Tj t0,Tj t1,Tj t2,za t3,da t4] (za r)):=⟨λh=>by
 refine dk 44 k507 ?_
 simp only[k507,Kf.of,zs,ze]
 unfold vr at h
 exact pg trivial (.b .o (.b .o (.b .o (.b .o (.b .o (.b (.j (EN [80,2] []) .o .o) .o))))))⟩
instance SY:C3 k84 Mf:=pg (ak k84.eq_1 Mf.eq_1) (.z 6 (.j (EN [49,128,2,177] []) .o .o))
instance DZ:C1 k99 zj:=pg (ak k99.eq_1 zj.eq_1) (.z 1 (.j (EN [16,2,73] []) .o .o))
instance F4:C2 k163 cmp_Less_int:=pg (ak k163.eq_1 cmp_Less_int.eq_1) (.z 1 (.j (EN [32,2,97] []) .o .o))
instance qZ:C1 k195 Qp:=pg (ak k195.eq_1 Qp.eq_1) (.z 1 (.j (EN [16,2,73] []) .o .o))
instance oZ:C2 k287 Pf:=pg (ak k287.eq_1 Pf.eq_1) (.z 1 (.j (EN [32,2,113] []) .o .o))
instance iG:C2 k302 me:=pg (ak k302.eq_1 me.eq_1) .o
instance gU:C1 k307 Dm:=pg (ak (ak k307.eq_1 Dm.eq_1) Xd.eq_1) (.l (EN [17,8,2,201] []) (EN [24,2,201] []) [] (.z 1 (.j (EN [201,2,25] []) .o .o)) .o)
theorem Qo{t0}(hc1:oa q1=true)(hp1:∀ x0 r,t1 x0=some r->Den al k1 ([Bq x0]++q1) (za r)){r} (h:ib t0 t1=some r):Den al 309 [Fu t0,.fn k1 [] q1] (za r):=by
 haveI I1:∀ x0 r,Con (t1 x0=some r) (Den al k1 ([Bq x0]++q1) (za r)):=λx0 r=>⟨hp1 x0 r⟩
 have s1:∀ f:D->D->Prop,cB f q1 q1=True:=λ_=>Gj hc1
 have z1:∀ a b n,iz a b n q1=q1:=λ_ _ _=>Dg _ _ _ _ hc1
 haveI:∀ y0 r,Con (Ac y0 t1=some r) (Den al 348 [Fu y0,.fn k1 [] q1] (da r)):=λy0 r=>⟨Xq hc1 hp1⟩
 refine Den.at 7 k309.ok k309.nm (WJ (N0 hc1 DH)) rfl ?_
 simp only[k309,Kf.of,zs,ze]
 unfold ib at h
 exact pg trivial .o
instance X6:C4 k340 Ht:=pg (ak k340.eq_1 Ht.eq_1) (.z 6 (.j (EN [65,176,2,329] []) .o .o))
instance qY:C1 k366 tm:=pg (ak (ak k366.eq_1 tm.eq_1) wk.eq_1) (.l (EN [17,24,9,11,25,72,17,18,433] [2,268]) (EN [17,24,9,11,25] [2,268]) [0,5] (.z 10 (.j (EN [65,8,105] [2,8]) .o (.a [[],[],[],[],[],[],[],[],[5],[5],[]] (.b .o (.t [0,516]))))) .o)
instance FL:C2 k367 Ze:=pg (ak (ak k367.eq_1 Ze.eq_1) Wi.eq_1) (.l (EN [16,17,8,9,10,18] [0,258]) (EN [40,9] [258]) [] (.b .o (.t [4])) .o)
instance CV:C1 k398 Un:=pg (ak k398.eq_1 Un.eq_1) (.z 2 (.j (EN [8,9,120,2,241] [0]) .o (.z 2 (.j (EN [8,129,16,9,2,217] [0]) .o (.b (.j (EN [16,2,129] []) .o .o) (.b (.j (EN [16,2,129] []) .o .o) .o))))))
instance BW:C2 k405 Qr:=pg (ak k405.eq_1 Qr.eq_1) (.z 2 (.j (EN [16,25,72,2,153] [0,8,16]) .o .o))
instance DW:C1 k412 wb:=pg (ak k412.eq_1 wb.eq_1) (.z 3 (.j (EN [8,9,144,2,113] [0]) .o (.b .o (.b (.j (EN [16,2,137] []) .o .o) .o))))
instance HV:C2 k459 Ha:=pg (ak k459.eq_1 Ha.eq_1) (.b .o (.b (.a [[],[],[],[],[],[],[2,4]] .o) (.j (EN [41,8,9,8,9,144,2,1553] [0,8]) .o (.b (.j ⟨[.k 4,.p 1,.i 2],[.h 0 [.g [.i 0,.i 1]]]⟩ (.a [[],[],[],[],[],[],[],[],[],[],[],[],[],[],[],[],[],[]] .o) .o) (.j (EN [217,160,2,1393] [0,8]) .o (.b .o (.b (.j ⟨[.k 4,.p 1,.i 2],[.h 0 [.g [.i 0,.i 1]]]⟩ (.a [[],[],[],[],[],[],[],[],[],[],[],[],[],[],[],[10,12]] .o) .o) (.j (EN [8,369,264,2,1129] [0,8]) .o (.b (.j ⟨[.k 4,.p 1,.i 2],[.h 0 [.g [.i 0,.i 1]]]⟩ (.a [[],[],[],[],[],[],[],[],[],[],[],[],[],[],[],[],[],[],[],[],[],[],[],[],[18,20]] .o) .o) (.j (EN [8,633,216,2,913] [0,8]) .o (.b (.a [[],[],[],[],[],[],[],[],[2,3,5,6]] .o) (.j (EN [8,849,88,2,825] [0,8]) .o (.b (.j ⟨[.k 4,.p 1,.i 0],[.h 0 [.g [.s (da 1),.p 1]]]⟩ (.a [[],[],[],[],[],[],[],[],[],[],[],[],[],[],[],[],[],[],[],[],[],[],[16,18]] .o) .o) (.j (EN [8,937,200,2,625] [0,8]) .o (.b (.j ⟨[.k 4,.p 1,.i 0],[.h 0 [.g [.s (da 1),.p 1]]]⟩ (.a [[],[],[],[],[],[],[],[],[],[],[],[],[],[8,10]] .o) .o) (.b (.j ⟨[.k 4,.p 1,.i 2],[.h 0 [.g [.i 0,.i 1]]]⟩ (.a [[],[],[],[],[],[],[],[],[],[],[],[],[],[],[],[],[],[10,11,13,14]] .o) .o) (.j (EN [8,41,16,1081,280,2,345] [0]) .o (.b (.j ⟨[.k 4,.p 1,.i 2,.p 2],[.h 0 [.g [.i 0,.i 1]]]⟩ (.a [[],[],[],[],[],[],[],[],[],[],[],[],[],[],[],[10,12]] .o) .o) (.j (EN [8,1417,144,2,201] [0]) .o (.b (.j ⟨[.k 4,.p 1,.i 0,.p 2],[.h 0 [.g [.s (da 2),.p 1]]]⟩ (.a [[],[],[],[],[],[],[],[],[],[],[],[],[],[8,10]] .o) .o) (.j (EN [8,57,1632,2,73] [0]) .o (.b (.a [[],[],[],[],[],[],[2,4]] .o) .o))))))))))))))))))))))
instance UR:C2 k462 Ij:=pg (ak k462.eq_1 Ij.eq_1) (.z 2 (.j ⟨[.p 4,.k 3,.w 0,.p 4],[]⟩ .o .o))
instance L5:C2 k491 Et:=pg (ak k491.eq_1 Et.eq_1) (.z 3 (.j (EN [33,24,9,152,2,81] []) .o .o))
instance eZ:C3 k494 Mp:=pg (ak k494.eq_1 Mp.eq_1) (.z 6 (.j (EN [49,152,2,377] []) .o (.z 9 (.j (EN [64,9,40,2,81] []) .o (.b .o (.j (EN [112,2,417] []) .o .o))))))
end Go.Proofs.Dev
