/-
  Contracts of the functions: each answers as its plain partial function says.
-/
import Derived.Test.YtmhfebelfmgckaaGreatDoorK
import Derived.Test.YtmhfebelfmgckaaGreatDoorG
import Derived.Test.YtmhfebelfmgckaaGreatDoorPE
import Derived.Test.YtmhfebelfmgckaaGreatDoorH1
import Derived.Test.YtmhfebelfmgckaaGreatDoorH2
import Derived.Test.YtmhfebelfmgckaaGreatDoorL1
open And renaming intro->ak
open Go.Proofs.Tryz renaming prog->al
set_option linter.all false
set_option maxHeartbeats 1000000
set_option maxRecDepth 10000
namespace Go.Proofs.Dev
open Go Go.Tm
variable {t1:GField->Option Bool}{k1:Nat}{q1:List D}{R382 R410:((List Int) -> (List Int) -> (List Bool) -> Int -> Option Int)}{R409:((List Int) -> (List Int) -> (List Bool) -> Int -> Option (List Int))}
instance LU:C1 k36 Wq:=pg (ak k36.eq_1 Wq.eq_1) .o
instance month_valid_C:C1 k77 Ns:=pg (ak k77.eq_1 Ns.eq_1) (.z 1 (.j (EN [16,2,49] []) .o .o))
instance q9:C2 k100 Zk:=pg (ak (ak k100.eq_1 Zk.eq_1) vo.eq_1) (.l (EN [33,8,9,10,18] [2]) (EN [8,25,8,9,10] [2]) [] (.z 3 (.j (EN [49,10,17] [2]) (.j (EN [73,120,2,193] [0]) .o (.b (.b (.t [256]) .o) .o)) (.t [256]))) (.j (EN [40,9] [2]) (.b (.t [256]) .o) .o))
instance vV:C1 k213 xd:=pg (ak k213.eq_1 xd.eq_1) (.z 1 (.j (EN [16,2,121] []) .o .o))
instance fX:C2 k221 Jc:=pg (ak k221.eq_1 Jc.eq_1) (.z 3 (.j (EN [8,25,16,9,2,161] [0]) .o (.b .o (.b (.j (EN [32,2,9] []) .o .o) .o))))
instance KW:C3 k250 Rr:=pg (ak k250.eq_1 Rr.eq_1) .o
instance FM:C2 k270 sg:=pg (ak k270.eq_1 sg.eq_1) (.z 3 (.j (EN [16,17,16,9,112,2,49] [0]) .o .o))
theorem ox{t0 t1 r} (h:fg t0 t1=some r):Den al 312 [qi t0,Zu t1] (za r):=by
 refine dk 6 k312 ?_
 simp only[k312,Kf.of,zs,ze]
 unfold fg at h
 exact pg trivial .o
instance zI312{t0 t1 r}:Con (fg t0 t1=some r) (Den al 312 [qi t0,Zu t1] (za r)):=⟨ox⟩
theorem Jv{t0 t1 r} (h:fe t0 t1=some r):Den al 314 [De t0,Eu t1] (za r):=by
 refine dk 7 k314 ?_
 simp only[k314,Kf.of,zs,ze]
 unfold fe at h
 exact pg trivial .o
instance zI314{t0 t1 r}:Con (fe t0 t1=some r) (Den al 314 [De t0,Eu t1] (za r)):=⟨Jv⟩
instance HW:C4 k331 Ic:=pg (ak (ak k331.eq_1 Ic.eq_1) (ak Ab.eq_1 (ak lb.eq_1 zc.eq_1))) (.l (EN [8,57,8,2,625] [0]) (EN [8,57] [0]) [] (.z 3 (.j (EN [8,89,184,2,417] [0]) .o .o)) (.l (EN [8,73,2,617] [0]) (EN [8,73] [0]) [] (.z 3 (.j (EN [8,281,216,2,193] [0]) .o .o)) (.l (EN [8,81,2,609] [0]) (EN [] []) [] (.z 3 (.j (EN [8,505,184,2] [0]) .o .o)) .o)))
instance fP:C2 k358 mq:=pg (ak (ak k358.eq_1 mq.eq_1) Xh.eq_1) (.l (EN [33,24,9,2,81] []) (EN [] []) [] .o .o)
instance rZ:C0 k372 vh:=pg (ak k372.eq_1 vh.eq_1) .o
theorem gp{t0}(hc1:oa q1=true)(hp1:∀ x0 r,t1 x0=some r->Den al k1 ([Ce x0]++q1) (za r)){r} (h:Rb t0 t1=some r):Den al 391 [Gu t0,.fn k1 [] q1] (da r):=by
 haveI I1:∀ x0 r,Con (t1 x0=some r) (Den al k1 ([Ce x0]++q1) (za r)):=λx0 r=>⟨hp1 x0 r⟩
 have s1:∀ f:D->D->Prop,cB f q1 q1=True:=λ_=>Gj hc1
 have z1:∀ a b n,iz a b n q1=q1:=λ_ _ _=>Dg _ _ _ _ hc1
 refine Den.at 17 k391.ok k391.nm (WJ (N0 hc1 DH)) rfl ?_
 simp only[k391,Kf.of,zs,ze]
 unfold Rb at h
 exact pg Zc.eq_1 (.l (EN [33,24,9,2,81] []) (EN [] []) [] .o .o)
instance eval_exists_C:C2 k399 Dv:=pg (ak k399.eq_1 Dv.eq_1) (.b (.j (EN [32,2] []) .o .o) (.b (.j (EN [32,2] []) .o .o) (.b (.j (EN [32,2] []) .o .o) (.b .o (.j (EN [16,17,488,2,121] [0,8]) .o (.b (.j (EN [32,2,481] []) .o .o) .o))))))
instance zU:C1 k406 Um:=pg (ak (ak k406.eq_1 Um.eq_1) Gw.eq_1) (.l (EN [17,8,3,10,121] [516]) (EN [24,3] [516]) [9] (.b (.t [256]) .o) .o)
instance ref10_Arity_C:C1 k411 kn:=pg (ak k411.eq_1 kn.eq_1) (.z 2 (.j (EN [17,112,2,129] []) .o (.z 2 (.j (EN [129,8,9,2,113] []) .o (.z 2 (.j (EN [256,2] []) .o .o))))))
instance ref13_found_C:C2 k414 Tv:=pg (ak k414.eq_1 Tv.eq_1) (.b (.j (EN [32,2] []) .o .o) (.b (.j (EN [32,2] []) .o .o) (.b (.j (EN [32,2] []) .o .o) (.b .o (.j (EN [16,17,488,2,121] [0,8]) .o (.b (.j (EN [32,2,481] []) .o .o) .o))))))
instance JS:C2 k424 ql:=pg (ak (ak k424.eq_1 ql.eq_1) Fh.eq_1) (.l (EN [8,25,8,3,33,10,105] [260]) (EN [40,3,17] [260]) [5] (.z 2 (.j (EN [8,81] [2]) (.b (.t [256]) .o) .o)) .o)
instance xZ:C2 k436 Xp:=pg (ak (ak k436.eq_1 Xp.eq_1) Pk.eq_1) (.l (EN [33,8,9,10] [2]) (EN [40,9] [2]) [] (.z 2 (.j (EN [65] [2]) (.b (.t [256]) .o) .o)) .o)
instance K1:C1 k438 Dr:=pg (ak k438.eq_1 Dr.eq_1) (.z 2 (.j (EN [17,112,2,145] []) .o (.b .o (.j (EN [16,2,105] []) .o .o))))
instance ref13_truth_C:C1 k444 wh:=pg (ak k444.eq_1 wh.eq_1) (.z 2 (.j (EN [16,9,8,2,25] [0]) .o .o))
instance K0:C2 k454 kr:=pg (ak k454.eq_1 kr.eq_1) (.z 5 (.j (EN [32,9,8,9,184,2,25] [8]) (.t [4]) .o))
instance sY:C1 k458 th:=pg (ak k458.eq_1 th.eq_1) (.z 1 (.j (EN [16,2,49] []) .o .o))
instance dQ:C2 k142 Lb:=pg (ak k142.eq_1 Lb.eq_1) (.z 1 (.j (EN [32,2,113] []) .o .o))
instance value_Bounds_C:C2 k151 Cc:=pg (ak k151.eq_1 Cc.eq_1) .o
instance uY:C1 k166 vm:=pg (ak k166.eq_1 vm.eq_1) (.z 1 (.j (EN [16,2,73] []) .o .o))
instance wS:C1 k229 Tc:=pg (ak k229.eq_1 Tc.eq_1) (.z 1 (.j (EN [16,2,73] []) .o .o))
theorem sz{t0 r} (h:Vi t0=some r):cJ al 274 [] [] 1 (t0.map da) (qa r):=by
 refine cJ.at 6 k274.ok k274.nm DH DH (Fr.l _) rfl ?_
 simp only[k274,Kf.of,zs,ze]
 unfold Vi at h
 exact pg trivial .o
instance zI274{t0 r}:Con (Vi t0=some r) (cJ al 274 [] [] 1 (t0.map da) (qa r)):=⟨sz⟩
instance HL:C2 k318 sf:=pg (ak k318.eq_1 sf.eq_1) .o
instance zI320{t0 r}:Con (Il t0=some r) (cJ al 320 [] [] 1 (t0.map da) (qa r)):=⟨λh=>by
 refine cJ.at 6 k320.ok k320.nm DH DH (Fr.l _) rfl ?_
 simp only[k320,Kf.of,zs,ze]
 unfold Il at h
 exact pg trivial .o⟩
theorem Mn{t0}(hc1:oa q1=true)(hp1:∀ x0 r,t1 x0=some r->Den al k1 ([Ce x0]++q1) (za r)){r} (h:Ma t0 t1=some r):Den al 352 [Gu t0,.fn k1 [] q1] (za r):=by
 haveI I1:∀ x0 r,Con (t1 x0=some r) (Den al k1 ([Ce x0]++q1) (za r)):=λx0 r=>⟨hp1 x0 r⟩
 have s1:∀ f:D->D->Prop,cB f q1 q1=True:=λ_=>Gj hc1
 have z1:∀ a b n,iz a b n q1=q1:=λ_ _ _=>Dg _ _ _ _ hc1
 haveI:∀ y0 r,Con (Rb y0 t1=some r) (Den al 391 [Gu y0,.fn k1 [] q1] (da r)):=λy0 r=>⟨gp hc1 hp1⟩
 refine Den.at 7 k352.ok k352.nm (WJ (N0 hc1 DH)) rfl ?_
 simp only[k352,Kf.of,zs,ze]
 unfold Ma at h
 exact pg trivial .o
instance EW:C2 k377 oo:=pg (ak k377.eq_1 oo.eq_1) (.z 2 (.j (EN [8,113,2,313] [0,8]) .o (.z 2 (.j ⟨[.k 4,.p 1,.k 1,.p 9],[.o 1,.h 3 [.g [.p 4,.i 0,.i 1]]]⟩ (.j (EN [16,105,224,2,89] [0,8,16,24]) .o (.t [4,12])) .o))))
theorem iD{t0 t1 t2 t3 r} [∀ t0 t1 t2 t3 r,Con (R382 t0 t1 t2 t3=some r) (Den al 382 [qa t0,qa t1,Zb t2,da t3] (da r))] [∀ t0 t1 t2 t3 r,Con (R409 t0 t1 t2 t3=some r) (Den al 409 [qa t0,qa t1,Zb t2,da t3] (qa r))] [∀ t0 t1 t2 t3 r,Con (R410 t0 t1 t2 t3=some r) (Den al 410 [qa t0,qa t1,Zb t2,da t3] (da r))] (h:Mm R382 R409 R410 t0 t1 t2 t3=some r):Den al 382 [qa t0,qa t1,Zb t2,da t3] (da r):=by
 refine dk 24 k382 ?_
 simp only[k382,Kf.of,zs,ze]
 unfold Mm at h
 exact pg trivial .o
theorem zI{t0 t1 t2 t3 r} [∀ t0 t1 t2 t3 r,Con (R382 t0 t1 t2 t3=some r) (Den al 382 [qa t0,qa t1,Zb t2,da t3] (da r))] [∀ t0 t1 t2 t3 r,Con (R409 t0 t1 t2 t3=some r) (Den al 409 [qa t0,qa t1,Zb t2,da t3] (qa r))] [∀ t0 t1 t2 t3 r,Con (R410 t0 t1 t2 t3=some r) (Den al 410 [qa t0,qa t1,Zb t2,da t3] (da r))] (h:Xt R382 R409 R410 t0 t1 t2 t3=some r):Den al 409 [qa t0,qa t1,Zb t2,da t3] (qa r):=by
 refine dk 74 k409 ?_
 simp only[k409,Kf.of,zs,ze]
 unfold Xt at h
 exact pg rv.eq_1 (.l (EN [25,48,17,10] [2]) (EN [80,9] [2]) [] (.z 2 (.j (EN [129] [2]) (.z 2 (.j (EN [129] [2]) (.j (EN [129,264,2,225] [0]) .o (.b (.t [4]) .o)) (.j (EN [553,2,65] [0]) .o (.b (.t [256]) .o)))) .o)) .o)
theorem nE{t0 t1 t2 t3 r} [∀ t0 t1 t2 t3 r,Con (R382 t0 t1 t2 t3=some r) (Den al 382 [qa t0,qa t1,Zb t2,da t3] (da r))] [∀ t0 t1 t2 t3 r,Con (R409 t0 t1 t2 t3=some r) (Den al 409 [qa t0,qa t1,Zb t2,da t3] (qa r))] [∀ t0 t1 t2 t3 r,Con (R410 t0 t1 t2 t3=some r) (Den al 410 [qa t0,qa t1,Zb t2,da t3] (da r))] (h:ko R382 R409 R410 t0 t1 t2 t3=some r):Den al 410 [qa t0,qa t1,Zb t2,da t3] (da r):=by
 refine dk 21 k410 ?_
 simp only[k410,Kf.of,zs,ze]
 unfold ko at h
 exact pg trivial (.z 3 (.j (EN [24,41,8,9,96,2,17] []) .o .o))
theorem Ul:∀n,(∀ t0 t1 t2 t3 r,(ja n).1 t0 t1 t2 t3=some r->Den al 382 [qa t0,qa t1,Zb t2,da t3] (da r))/\(∀ t0 t1 t2 t3 r,(ja n).2.1 t0 t1 t2 t3=some r->Den al 409 [qa t0,qa t1,Zb t2,da t3] (qa r))/\(∀ t0 t1 t2 t3 r,(ja n).2.2 t0 t1 t2 t3=some r->Den al 410 [qa t0,qa t1,Zb t2,da t3] (da r))
|0=>⟨λ_ _ _ _ _ h=>(nomatch h),λ_ _ _ _ _ h=>(nomatch h),λ_ _ _ _ _ h=>(nomatch h)⟩
|n+1=>by
 obtain⟨H0,H1,H2⟩:=Ul n
 haveI I0:∀ t0 t1 t2 t3 r,Con ((ja n).1 t0 t1 t2 t3=some r) (Den al 382 [qa t0,qa t1,Zb t2,da t3] (da r)):=λt0 t1 t2 t3 r=>⟨H0 t0 t1 t2 t3 r⟩
 haveI I1:∀ t0 t1 t2 t3 r,Con ((ja n).2.1 t0 t1 t2 t3=some r) (Den al 409 [qa t0,qa t1,Zb t2,da t3] (qa r)):=λt0 t1 t2 t3 r=>⟨H1 t0 t1 t2 t3 r⟩
 haveI I2:∀ t0 t1 t2 t3 r,Con ((ja n).2.2 t0 t1 t2 t3=some r) (Den al 410 [qa t0,qa t1,Zb t2,da t3] (da r)):=λt0 t1 t2 t3 r=>⟨H2 t0 t1 t2 t3 r⟩
 exact⟨λt0 t1 t2 t3 r h=>iD (R382:=(ja n).1) (R409:=(ja n).2.1) (R410:=(ja n).2.2) h,λt0 t1 t2 t3 r h=>zI (R382:=(ja n).1) (R409:=(ja n).2.1) (R410:=(ja n).2.2) h,λt0 t1 t2 t3 r h=>nE (R382:=(ja n).1) (R409:=(ja n).2.1) (R410:=(ja n).2.2) h⟩
theorem yF{t0 t1 t2 t3 r} (h:Yt t0 t1 t2 t3=some r):Den al 382 [qa t0,qa t1,Zb t2,da t3] (da r):=(Ul tf).1 _ _ _ _ _ h
instance zI382{t0 t1 t2 t3 r}:Con (Yt t0 t1 t2 t3=some r) (Den al 382 [qa t0,qa t1,Zb t2,da t3] (da r)):=⟨yF⟩
theorem oM{t0 t1 t2 t3 r} (h:OK t0 t1 t2 t3=some r):Den al 409 [qa t0,qa t1,Zb t2,da t3] (qa r):=(Ul tf).2.1 _ _ _ _ _ h
instance zI409{t0 t1 t2 t3 r}:Con (OK t0 t1 t2 t3=some r) (Den al 409 [qa t0,qa t1,Zb t2,da t3] (qa r)):=⟨oM⟩
theorem VG{t0 t1 t2 t3 r} (h:KD t0 t1 t2 t3=some r):Den al 410 [qa t0,qa t1,Zb t2,da t3] (da r):=(Ul tf).2.2 _ _ _ _ _ h
instance zI410{t0 t1 t2 t3 r}:Con (KD t0 t1 t2 t3=some r) (Den al 410 [qa t0,qa t1,Zb t2,da t3] (da r)):=⟨VG⟩
instance CW:C1 k383 ji:=pg (ak (ak k383.eq_1 ji.eq_1) nj.eq_1) (.l (EN [17,24,3,11,18,17] [260,268]) (EN [17,24,3,11] [260,268]) [5,5] (.z 9 (.j (EN [65,8,10,49] [0,258]) (.b (.t [0,260]) .o) (.b .o (.t [256,260])))) .o)
instance GR:C2 k395 Ln:=pg (ak (ak k395.eq_1 Ln.eq_1) Rj.eq_1) (.l (EN [16,17,8,11,17,24,17,10,425] [0,260]) (EN [40,3,17] [260]) [0,5] (.b (.j (EN [16,97] [0,258]) (.z 3 (.j (EN [16,97] [0,258]) (.j (EN [16,97,208,2,209] [0,8]) .o (.b (.t [0,260]) .o)) (.j (EN [16,465,2,49] [0,8]) .o (.b (.t [0,260]) .o)))) .o) (.t [4])) .o)
instance T8:C2 k413 Ut:=pg (ak k413.eq_1 Ut.eq_1) (.z 2 (.j (EN [16,17,128,2,241] [0]) .o (.z 2 (.j (EN [16,145,16,9,2,217] [0]) .o (.b (.j (EN [32,2,137] []) .o .o) (.b (.j (EN [32,2,137] []) .o .o) .o))))))
instance FV:C3 k455 Wb:=pg (ak k455.eq_1 Wb.eq_1) (.z 2 (.j (EN [17,24,17,64,2,113] [0,8]) .o .o))
instance rY:C3 k456 aj:=pg (ak k456.eq_1 aj.eq_1) (.z 2 (.e (EN [24,33,8,2,17] [0,8,16,24]) (.z 2 (.j (EN [24,33,144,2,465] [0,8,16,24]) .o .o)) (.z 1 (.j (EN [24,281,2,361] [0,8,16,24]) .o (.b .o (.z 1 (.f ⟨[.k 3,.p 81],[.o 0,.o 1,.o 2,.o 3,.n 2 [],.n 2 []]⟩ [0,4,8,12,9,9] (.g [[],[],[],[],[],[],[],[],[],[],[],[],[1,3,5,7,9,11],[1,3,5,7,9,11,12],[7,9,11]] [none,none,none,none,none,none,none,none,none,none,none,none,some 4,some 5,none] (.z 1 (.j (EN [24,9,16,17,8,233,240,2,121] [0,24,32,40]) (.t [0,12,272,276]) (.z 3 (.j (EN [48,33,560,2,25] [8,16]) (.t [4,8]) .o))))))))))))
end Go.Proofs.Dev
