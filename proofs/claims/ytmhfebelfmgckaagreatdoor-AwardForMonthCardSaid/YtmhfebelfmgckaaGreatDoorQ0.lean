/-
  Contracts of the functions: each answers as its plain partial function says.
-/
import Derived.Test.YtmhfebelfmgckaaGreatDoorK
import Derived.Test.YtmhfebelfmgckaaGreatDoorG
import Derived.Test.YtmhfebelfmgckaaGreatDoorPE
import Derived.Test.YtmhfebelfmgckaaGreatDoorH1
import Derived.Test.YtmhfebelfmgckaaGreatDoorH2
import Derived.Test.YtmhfebelfmgckaaGreatDoorL1
open And renaming intro->ak
open Go.Proofs.Tryz renaming prog->al
set_option linter.all false
set_option maxHeartbeats 1000000
set_option maxRecDepth 10000
namespace Go.Proofs.Dev
open Go Go.Tm
variable {t1:GScope->Option Bool}{k1:Nat}{q1:List D}
instance GY:C0 k38 Ft:=pg (ak k38.eq_1 Ft.eq_1) .o
instance aM:C2 k149 Kd:=pg (ak k149.eq_1 Kd.eq_1) (.z 3 (.j (EN [16,17,16,9,112,2,49] [0]) .o .o))
instance NS:C1 k219 cp:=pg (ak k219.eq_1 cp.eq_1) (.z 1 (.j (EN [16,2,49] []) .o .o))
instance ref06_day_C:C1 k245 PG:=pg (ak k245.eq_1 PG.eq_1) (.z 1 (.j (EN [16,2,49] []) .o .o))
instance G8:C1 k253 Jq:=pg (ak k253.eq_1 Jq.eq_1) (.z 1 (.j (EN [16,2,105] []) .o .o))
instance facts_wins_C:C2 k268 Zr:=pg (ak k268.eq_1 Zr.eq_1) .o
instance n9:C2 k289 Qf:=pg (ak (ak k289.eq_1 Qf.eq_1) RA.eq_1) (.l (EN [33,8,3,10,18,321] [260]) (EN [8,25,8,3,10] [260]) [5] (.z 3 (.j (EN [49,10,9] [2]) (.j (EN [65,120,2,193] [0]) .o (.j (EN [49,8,129] [2]) (.b (.t [256]) .o) .o)) (.t [256]))) (.j (EN [40,9] [2]) (.b (.t [256]) .o) .o))
instance ref16_has_C:C2 k291 Us:=pg (ak (ak k291.eq_1 Us.eq_1) bu.eq_1) (.l (EN [33,8,2,97] []) (EN [] []) [] .o .o)
instance MY:C1 k308 Lf:=pg (ak k308.eq_1 Lf.eq_1) (.z 3 (.j (EN [32,2,441] []) .o .o))
theorem xy{t0 t1 r} (h:uh t0 t1=some r):Den al 310 [Bq t0,Zu t1] (za r):=by
 refine dk 6 k310 ?_
 simp only[k310,Kf.of,zs,ze]
 unfold uh at h
 exact pg trivial .o
instance zI310{t0 t1 r}:Con (uh t0 t1=some r) (Den al 310 [Bq t0,Zu t1] (za r)):=⟨xy⟩
instance xF:C2 k329 Xb:=pg (ak k329.eq_1 Xb.eq_1) (.z 3 (.j (EN [32,2] []) .o .o))
theorem Ax{t0 t1 r} (h:Xb t0 t1=some r):Den al 329 [og t0,Fu t1] (za r):=xF.h h
theorem kp{t0}(hc1:oa q1=true)(hp1:∀ x0 r,t1 x0=some r->Den al k1 ([De x0]++q1) (za r)){r} (h:Sb t0 t1=some r):Den al 350 [Hu t0,.fn k1 [] q1] (da r):=by
 haveI I1:∀ x0 r,Con (t1 x0=some r) (Den al k1 ([De x0]++q1) (za r)):=λx0 r=>⟨hp1 x0 r⟩
 have s1:∀ f:D->D->Prop,cB f q1 q1=True:=λ_=>Gj hc1
 have z1:∀ a b n,iz a b n q1=q1:=λ_ _ _=>Dg _ _ _ _ hc1
 refine Den.at 17 k350.ok k350.nm (WJ (N0 hc1 DH)) rfl ?_
 simp only[k350,Kf.of,zs,ze]
 unfold Sb at h
 exact pg bd.eq_1 (.l (EN [33,24,9,2,81] []) (EN [] []) [] .o .o)
theorem Iv{t0 t1 r} (h:Uc t0 t1=some r):Den al 351 [Ce t0,Du t1] (za r):=by
 refine dk 7 k351 ?_
 simp only[k351,Kf.of,zs,ze]
 unfold Uc at h
 exact pg trivial .o
instance zI351{t0 t1 r}:Con (Uc t0 t1=some r) (Den al 351 [Ce t0,Du t1] (za r)):=⟨Iv⟩
instance KY:C1 k353 dj:=pg (ak (ak k353.eq_1 dj.eq_1) Hk.eq_1) (.l (EN [24,3,33,10,81] [516]) (EN [24,3,17] [516]) [9] (.b (.t [256]) .o) .o)
instance zI370{t0 r}:Con (Rv t0=some r) (Den al 370 [rQ t0] (za r)):=⟨λh=>by
 refine dk 8 k370 ?_
 simp only[k370,Kf.of,zs,ze]
 unfold Rv at h
 exact pg trivial (.z 1 (.j (EN [16,2,49] []) .o .o))⟩
instance pY:C1 k403 Fb:=pg (ak k403.eq_1 Fb.eq_1) (.z 2 (.j (EN [8,9,64,2,577] [0]) .o (.b .o (.b (.j (EN [16,2,57] []) .o .o) (.b (.j (EN [16,2,57] []) .o .o) (.b (.j (EN [16,2,57] []) .o .o) (.b (.j (EN [16,2,57] []) .o .o) (.b (.j (EN [16,2,57] []) .o .o) (.b (.j (EN [16,2,57] []) .o .o) .o)))))))))
instance zI404{t0 r}:Con (By t0=some r) (Den al 404 [rQ t0] (za r)):=⟨λh=>by
 refine dk 8 k404 ?_
 simp only[k404,Kf.of,zs,ze]
 unfold By at h
 exact pg trivial (.z 1 (.j (EN [16,2,49] []) .o .o))⟩
instance J0:C2 k429 Bd:=pg (ak k429.eq_1 Bd.eq_1) (.z 1 (.j (EN [32,2,97] []) .o .o))
instance F1:C2 k439 Cr:=pg (ak k439.eq_1 Cr.eq_1) (.b .o (.b (.j (EN [32,2] []) .o .o) (.b (.j (EN [32,2] []) .o .o) .o)))
instance G0:C1 k460 Ni:=pg (ak k460.eq_1 Ni.eq_1) (.z 1 (.j (EN [16,2,81] []) .o .o))
instance ref10_found_C:C2 k471 pc:=pg (ak k471.eq_1 pc.eq_1) (.b (.j (EN [32,2] []) .o .o) (.b (.j (EN [32,2] []) .o .o) (.b (.j (EN [32,2] []) .o .o) (.b (.j (EN [32,2] []) .o .o) (.b .o (.b .o (.j (EN [16,17,632,2,153] [0,8]) .o (.b (.j (EN [32,2,625] []) .o .o) .o))))))))
instance ref04_Valid_C:C1 k475 gn:=pg (ak k475.eq_1 gn.eq_1) (.z 1 (.j (EN [16,2,49] []) .o .o))
instance tR:C2 k477 oj:=pg (ak k477.eq_1 oj.eq_1) (.z 2 (.j ⟨[.p 4,.k 3,.w 0,.p 4],[]⟩ .o (.z 2 (.j (EN [57,8,105,104,2,217] []) .o .o))))
instance VO:C1 k495 zb:=pg (ak k495.eq_1 zb.eq_1) .o
theorem cz{t0 r} (h:zb t0=some r):Den al 495 [da t0] (og r):=VO.h h
instance HK:C1 k497 Kk:=pg (ak k497.eq_1 Kk.eq_1) (.z 1 (.j (EN [16,2,81] []) .o .o))
theorem uI{t0 r} (h:Kk t0=some r):Den al 497 [da t0] (za r):=HK.h h
instance F8:C2 k500 Of:=pg (ak k500.eq_1 Of.eq_1) (.z 1 (.j (EN [32,2,73] []) .o .o))
instance ref03_floor_C:C2 k501 Qs:=pg (ak k501.eq_1 Qs.eq_1) .o
instance V0:C4 k502 Io:=pg (ak k502.eq_1 Io.eq_1) (.b .o (.j (EN [65,8,2] []) .o (.j (EN [9,64,2,449] []) (.j (EN [289,2,233] []) .o .o) .o)))
instance V1:C1 k148 kh:=pg (ak (ak k148.eq_1 kh.eq_1) fc.eq_1) (.z 2 (.j (EN [8,9,128,2,209] [0]) .o (.l (EN [8,137,16,17,2,177] [0]) (EN [] []) [] (.z 4 (.j (EN [8,17,136,25,160,2,9] [0]) .o .o)) .o)))
instance ref06_Valid_C:C1 k177 Rs:=pg (ak (ak k177.eq_1 Rs.eq_1) Mt.eq_1) (.z 2 (.j (EN [8,9,120,2,257] [0]) .o (.l (EN [8,17,2,105] [0]) (EN [] []) [] (.z 3 (.j (EN [8,137,248,2] [0]) .o .o)) .o)))
instance CS:C2 k193 jc:=pg (ak k193.eq_1 jc.eq_1) (.b .o (.j (EN [40,9,32,2,97] []) .o (.b .o (.j (EN [120,2,57] []) .o .o))))
instance tU:C1 k246 mf:=pg (ak k246.eq_1 mf.eq_1) .o
instance I8:C2 k283 yn:=pg (ak k283.eq_1 yn.eq_1) .o
theorem Nn{t0}(hc1:oa q1=true)(hp1:∀ x0 r,t1 x0=some r->Den al k1 ([De x0]++q1) (za r)){r} (h:Wa t0 t1=some r):Den al 313 [Hu t0,.fn k1 [] q1] (za r):=by
 haveI I1:∀ x0 r,Con (t1 x0=some r) (Den al k1 ([De x0]++q1) (za r)):=λx0 r=>⟨hp1 x0 r⟩
 have s1:∀ f:D->D->Prop,cB f q1 q1=True:=λ_=>Gj hc1
 have z1:∀ a b n,iz a b n q1=q1:=λ_ _ _=>Dg _ _ _ _ hc1
 haveI:∀ y0 r,Con (Sb y0 t1=some r) (Den al 350 [Hu y0,.fn k1 [] q1] (da r)):=λy0 r=>⟨kp hc1 hp1⟩
 refine Den.at 7 k313.ok k313.nm (WJ (N0 hc1 DH)) rfl ?_
 simp only[k313,Kf.of,zs,ze]
 unfold Wa at h
 exact pg trivial .o
instance sP:C2 k316 Wf:=pg (ak k316.eq_1 Wf.eq_1) (.z 3 (.j ⟨[.k 4,.p 1,.k 1,.p 1],[.o 1,.h 3 [.g [.p 4,.i 0,.i 1]]]⟩ (.j (EN [16,41,208,2,89] [0,8,16,24]) .o (.t [4,12])) .o))
instance zI371{t0 r}:Con (wx t0=some r) (Den al 371 [rQ t0] (za r)):=⟨λh=>by
 refine dk 12 k371 ?_
 simp only[k371,Kf.of,zs,ze]
 unfold wx at h
 exact pg trivial (.z 1 (.j (EN [16,2,81] []) .o .o))⟩
instance xS:C1 k400 Gf:=pg (ak (ak k400.eq_1 Gf.eq_1) nc.eq_1) (.l (EN [40,17,2,57] []) (EN [] []) [] .o .o)
instance K5:C2 k425 Fq:=pg (ak k425.eq_1 Fq.eq_1) (.z 1 (.j (EN [32,2,129] []) .o .o))
instance yQ:C2 k426 wc:=pg (ak k426.eq_1 wc.eq_1) (.b .o (.b (.j (EN [32,2] []) .o .o) (.b (.j (EN [32,2] []) .o .o) .o)))
instance yS:C2 k427 Ka:=pg (ak k427.eq_1 Ka.eq_1) .o
instance xQ:C3 k428 Aa:=pg (ak k428.eq_1 Aa.eq_1) (.z 3 (.j (EN [32,17,8,9,2,1001] [0,8]) .o (.b (.j (EN [48,2] []) .o .o) (.b (.j (EN [48,2] []) .o .o) (.b (.j (EN [48,2] []) .o .o) (.b (.z 2 (.j (EN [48,2] []) .o .o)) (.b (.j (EN [48,2] []) .o .o) (.j (EN [32,33,576,2,425] [0,8]) .o (.b (.j (EN [48,2] []) .o .o) (.j (EN [32,609,144,2,281] [0,8]) .o (.b .o (.j (EN [32,753,48,2,233] [0,8]) .o (.b (.j (EN [48,2] []) .o .o) (.j (EN [32,25,864,2,145] [0,8]) .o (.j (EN [48,2,865] []) .o .o)))))))))))))))
theorem vI{t0:GNode}{t1:GType}{t2:GSignature}{r:(GType×Bool)}(h:Dn t0 t1 t2=some r):Den al 473 [Oh t0,og t1,Dq t2] (.tup [og r.1,za r.2]):=by
 refine dk 79 k473 ?_;simp only[k473,Kf.of,zs,ze];unfold Dn at h;refine ss (rg ?_);(try simp only[zz]);refine ss (ss (rg ?_));(try simp only[zz]);refine bk (ss (rg ?_));(try simp only[zz]);refine cd rfl ?_;(try simp only[zz]);refine gi h (λc1 h=>?_) λc1 h=>?_
 .have e1:=eT c1;refine ss (dy Xx ?_);obtain⟨x2,a3,h⟩:=bs h;simp only[zz,zy];refine lq (uI a3) ?_ (by simp only[zg,e1]);(try simp only[zz,zy]);cases h;exact rt ez
 have e2:=eF c1;refine ss (rg ?_);(try simp only[zz]);refine cd rfl ?_;(try simp only[zz]);refine gi h (λc3 h=>?_) λc3 h=>?_
 .have e4:=eT c3;refine ss (ay Xx [[],[],[],[],[2]] (by kernel_rfl) ?_);(try simp only[zz,zy]);cases h;exact rt ez
 have e5:=eF c3;refine jm h (λj5=>⟨ds 3 (.ref 0 0 0 0::.ref 1 0 0 0::.ref 2 0 0 0::.ref 3 0 0 0::ds 4 (da t0.Op::ds 12 (za j5::ds 57 []))),[.live 2 0 [Oh t0],.live 2 0 [og t1],.live 6 0 [Dq t2],.live 2 0 [.agg [da 0,da 0]]]⟩) (λz7 h6=>?_) λj5 h6 h=>?_
 .refine ss (rg ?_);(try simp only[zz]);refine cd rfl ?_;(try simp only[zz]);refine gi h6 (λc4 h6=>?_) λc4 h6=>?_
  .have e8:=eT c4;refine sk ?_;(try simp only[zz,eq_true c4,e8]);cases h6;exact tz [ok 0,ok 1,ok 2,ok 3]
  have e9:=eF c4;refine rg ?_;(try simp only[zz]);cases h6;exact tz [ok 0,ok 1,ok 2,ok 3]
 refine cd rfl ?_;(try simp only[zz]);refine gi h (λc6 h=>?_) λc6 h=>?_
 .refine ss (ay Xx [[],[],[],[],[2]] (by kernel_rfl) ?_);obtain⟨x7,a10,h⟩:=bs h;simp only[zz,zy];refine lq (cz a10) ?_ (by simp only[zg,e2,e5,c6]);(try simp only[zz,zy]);cases h;exact rt ez
 refine ss (rg ?_);(try simp only[zz]);refine cd rfl ?_;(try simp only[zz]);refine gi h (λc8 h=>?_) λc8 h=>?_
 .have e11:=eT c8;refine ss (rg ?_);obtain⟨x9,f14,f15,h⟩:=bI h;(try simp only[zz,f14,f15]);refine jm h (λj14=>⟨ds 6 (.ref 0 0 0 0::za j14::ds 74 []),[.live 2 0 [.agg [da x9.Value.a,da x9.Value.g]]]⟩) (λz17 h16=>?_) λj14 h16 h=>?_
  .refine ay Xx [[],[],[],[],[],[],[],[],[],[],[],[],[],[],[],[],[],[],[],[],[15,17]] (by kernel_rfl) ?_;obtain⟨x10,a18,h16⟩:=bs h16;simp only[zz,zy];refine lq (Ax a18) ?_ (by simp only[zg,e2,e5,c6,e11]);(try simp only[zz,zy]);refine gi h16 (λc11 h16=>?_) λc11 h16=>?_
   .obtain⟨x12,a19,h16⟩:=bs h16;simp only[zz,c11,zy];refine lq (Ax a19) ?_ (by simp only[zg,e2,e5,c6,e11,c11]);(try simp only[zz,c11,zy]);refine gi h16 (λc13 h16=>?_) λc13 h16=>?_
    ·(try simp only[zz,c11,c13,zy]);cases h16;exact tz [ok 3]
    (try simp only[zz,c11,c13,zy]);cases h16;exact tz [ok 3]
   (try simp only[zz,c11,zy]);cases h16;exact tz [ok 3]
  cases h;exact rt ez
 have e12:=eF c8;refine sk ?_;(try simp only[zz,c8,e12]);refine ss (rg ?_);obtain⟨x15,f21,f22,h⟩:=bI h;(try simp only[zz,f21,f22,Int.reduceEq,Int.reduceNeg]);refine jm h (λj20=>⟨ds 6 (.ref 0 0 0 0::za j20::ds 74 []),[.live 2 0 [og t1]]⟩) (λz24 h23=>?_) λj20 h23 h=>?_
 .refine ay Xx [[],[],[],[],[],[],[],[],[],[],[],[],[],[],[],[],[12]] (by kernel_rfl) ?_;(try simp only[zz,zy]);refine gi h23 (λc16 h23=>?_) λc16 h23=>?_
  .have e25:=eT c16;obtain⟨x17,a27,h23⟩:=bs h23;simp only[zz,eq_true c16,e25,zy];refine lq (cz a27) ?_ (by simp only[zg,e2,e5,c6,e12,e25]);(try simp only[zz,eq_true c16,e25,zy]);refine gi h23 (λc18 h23=>?_) λc18 h23=>?_
   .obtain⟨x19,a28,h23⟩:=bs h23;simp only[zz,eq_true c16,e25,eq_true c18,zy];refine lq (cz a28) ?_ (by simp only[zg,e2,e5,c6,e12,e25]);(try simp only[zz,eq_true c16,e25,eq_true c18,zy]);cases h23;exact tz [ok 3]
   (try simp only[zz,eq_true c16,e25,c18,zy]);cases h23;exact tz [ok 3]
  have e26:=eF c16;(try simp only[zz,c16,e26,zy]);cases h23;exact tz [ok 3]
 cases h;exact rt ez
instance zI473{t0 t1 t2 r}:Con (Dn t0 t1 t2=some r) (Den al 473 [Oh t0,og t1,Dq t2] (.tup [og r.1,za r.2])):=⟨vI⟩
instance ref03_Mul_C:C3 k480 Qz:=pg (ak k480.eq_1 Qz.eq_1) (.z 2 (.j (EN [49,80,2,161] []) .o (.z 1 (.j (EN [129,48,2,113] []) .o .o))))
instance zW:C3 k481 Xn:=pg (ak k481.eq_1 Xn.eq_1) (.z 2 (.j (EN [49,96,2,417] []) .o (.z 3 (.j (EN [145,64,2,353] []) .o (.b .o (.j (EN [2,10,193] []) .o .o))))))
instance Y0:C1 k496 Ml:=pg (ak k496.eq_1 Ml.eq_1) (.z 1 (.j (EN [16,2,49] []) .o .o))
instance O8:C3 k498 Nw:=pg (ak k498.eq_1 Nw.eq_1) (.b (.j ⟨[.k 6,.p 1,.i 2],[.h 0 [.g [.i 0,.i 1]]]⟩ .o .o) (.b (.j ⟨[.k 6,.p 1,.i 2],[.h 0 [.g [.i 0,.i 1]]]⟩ .o .o) (.z 1 (.j (EN [8,49,280,2,105] [0]) .o (.b .o (.j ⟨[.k 6,.p 1,.i 2,.p 34],[.h 0 [.g [.i 0,.i 1]]]⟩ .o .o))))))
end Go.Proofs.Dev
