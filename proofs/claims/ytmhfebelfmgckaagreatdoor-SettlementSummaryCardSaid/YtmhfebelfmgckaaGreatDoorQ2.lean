/-
  Contracts of the functions: each answers as its plain partial function says.
-/
import Derived.Test.YtmhfebelfmgckaaGreatDoorG
import Derived.Test.YtmhfebelfmgckaaGreatDoorH1
import Derived.Test.YtmhfebelfmgckaaGreatDoorH2
import Derived.Test.YtmhfebelfmgckaaGreatDoorL1
open Option renaming some->M,none->q6
open And renaming intro->ak
open Go.Proofs.Tryz renaming prog->al
set_option linter.all false
set_option maxHeartbeats 1000000
set_option maxRecDepth 10000
namespace Go.Proofs.Dev
open Go Go.Tm
variable {t1:oe->Option Bool}{k1:Nat}{q1:List D}
instance r6:C1 k57 Br:=pg (ak k57.eq_1 Br.eq_1) (.z 1 (.j (EN [16,2,49] []) .o .o))
instance u5:C1 k76 lj:=pg (ak (ak k76.eq_1 lj.eq_1) (ak Tk.eq_1 (ak Uk.eq_1 Vk.eq_1))) (.z 2 (.j (EN [8,9,208,2,513] [0]) .o (.l (EN [8,17,2,193] [0]) (EN [8,17] [0]) [] .o (.l (EN [8,25,2,705] [0]) (EN [8,25] [0]) [] .o (.l (EN [8,33,2,697] [0]) (EN [] []) [] (.z 4 (.j (EN [8,41,688,2] [0]) .o .o)) .o)))))
instance X9:C2 cg2 Ji:=pg (ak (ak cg2.eq_1 Ji.eq_1) Ve.eq_1) (.l (EN [33,16,2,9] []) (EN [] []) [] (.z 4 (.j (EN [89,176,2,17] [0]) .o .o)) .o)
instance E0:C2 cf7 Np:=pg (ak cf7.eq_1 Np.eq_1) (.z 1 (.j (EN [32,2,105] []) .o .o))
instance o6:C1 cf3 Ar:=pg (ak (ak cf3.eq_1 Ar.eq_1) (ak Rq.eq_1 (ak Tq.eq_1 Uq.eq_1))) (.l (EN [8,9,72,17,2,281] [0]) (EN [8,9] [0]) [] .o (.l (EN [8,177,8,17,2,177] [0]) (EN [8,177] [0]) [] .o (.l (EN [8,281,8,17,2,73] [0]) (EN [] []) [] .o .o)))
instance acb:C1 ce5 Gt:=pg (ak ce5.eq_1 Gt.eq_1) (.b .o (.j (EN [8,9,56,2,41] [0]) .o .o))
instance P3:C1 cd1 fj:=pg (ak cd1.eq_1 fj.eq_1) (.z 1 (.j (EN [16,2,49] []) .o .o))
instance acd:C2 cd0 wg:=pg (ak cd0.eq_1 wg.eq_1) (.z 1 (.j (EN [32,2,73] []) .o .o))
instance ace{t0 r}:o! (vf t0=M r) (e? al 160 [da t0] (Gl r)):=⟨λh=>by
 refine dk 9 cc9 ?_
 simp only[cc9,Kf.of,zs,ze]
 unfold vf at h
 exact pg trivial .o⟩
instance acf{t0 t1 t2 t3 t4 r}:o! (Uf t0 t1 t2 t3 t4=M r) (e? al 161 [Gl t0,Gl t1,Gl t2,za t3,da t4] (Gl r)):=⟨λh=>by
 refine dk 50 cc8 ?_
 simp only[cc8,Kf.of,zs,ze]
 unfold Uf at h
 exact pg trivial (.z 4 (.j (EN [9,80,2] []) .o (.j ⟨[.w 0,.p 10],[]⟩ .o .o)))⟩
instance acg{t0 t1 r}:o! (ft t0 t1=M r) (e? al 162 [Gl t0,za t1] (da r)):=⟨λh=>by
 refine dk 9 cc7 ?_
 simp only[cc7,Kf.of,zs,ze]
 unfold ft at h
 exact pg trivial .o⟩
instance ach:C1 cb5 wv:=pg (ak cb5.eq_1 wv.eq_1) (.z 1 (.j (EN [16,2,49] []) .o .o))
instance Z6:C1 bZ3 Er:=pg (ak bZ3.eq_1 Er.eq_1) .o
instance N5:C2 bY7 kd:=pg (ak bY7.eq_1 kd.eq_1) (.z 3 (.j (EN [8,25,16,9,2,161] [0]) .o (.b .o (.b (.j (EN [32,2,9] []) .o .o) .o))))
instance aci:C1 bW4 jt:=pg (ak bW4.eq_1 jt.eq_1) (.z 1 (.j (EN [16,2,105] []) .o .o))
theorem Xz{t0 t1 r} (h:Og t0 t1=M r):e? al 312 [pj t0,Hx t1] (za r):=by
 refine dk 6 bS7 ?_
 simp only[bS7,Kf.of,zs,ze]
 unfold Og at h
 exact pg trivial .o
instance acj{t0 t1 r}:o! (Og t0 t1=M r) (e? al 312 [pj t0,Hx t1] (za r)):=⟨Xz⟩
theorem ny{t0 t1 r} (h:Re t0 t1=M r):e? al 314 [pf t0,Yw t1] (za r):=by
 refine dk 7 bS6 ?_
 simp only[bS6,Kf.of,zs,ze]
 unfold Re at h
 exact pg trivial .o
instance ack{t0 t1 r}:o! (Re t0 t1=M r) (e? al 314 [pf t0,Yw t1] (za r)):=⟨ny⟩
instance zI:C2 bR1 zc:=pg (ak bR1.eq_1 zc.eq_1) (.z 3 (.j (EN [32,2] []) .o .o))
def iA{t0 t1 r} (h:zc t0 t1=M r):e? al 329 [Vg t0,Zw t1] (za r):=zI.h h
instance O4:C4 bQ9 jd:=pg (ak (ak bQ9.eq_1 jd.eq_1) (ak Lb.eq_1 (ak wb.eq_1 Qc.eq_1))) (.l (EN [8,57,8,2,625] [0]) (EN [8,57] [0]) [] (.z 3 (.j (EN [8,89,184,2,417] [0]) .o .o)) (.l (EN [8,73,2,617] [0]) (EN [8,73] [0]) [] (.z 3 (.j (EN [8,281,216,2,193] [0]) .o .o)) (.l (EN [8,81,2,609] [0]) (EN [] []) [] (.z 3 (.j (EN [8,505,184,2] [0]) .o .o)) .o)))
instance YL:C2 bP8 Xk:=pg (ak (ak bP8.eq_1 Xk.eq_1) Ye.eq_1) (.l (EN [33,24,9,2,81] []) (EN [] []) [] .o .o)
theorem Lt{t0}{t1:na->Option Bool}(hc1:oa q1=true)(hp1:∀ x0 r,t1 x0=M r->e? al k1 ([Vs x0]++q1) (za r)){r} (h:Rc t0 t1=M r):e? al 348 [Zw t0,.fn k1 [] q1] (da r):=by
 haveI I1:∀ x0 r,o! (t1 x0=M r) (e? al k1 ([Vs x0]++q1) (za r)):=λx0 r=>⟨hp1 x0 r⟩
 have s1:∀ f:D->D->Prop,YD f q1 q1=True:=λ_=>Yk hc1
 have z1:∀ a b n,JB a b n q1=q1:=λ_ _ _=>mh _ _ _ _ hc1
 refine e?.at 17 bj2.ok bj2.nm (IN (frF hc1 QK)) rfl ?_
 simp only[bj2,Kf.of,zs,ze]
 unfold Rc at h
 exact pg Ce.eq_1 (.l (EN [33,24,9,2,81] []) (EN [] []) [] .o .o)
theorem lr{t0}(hc1:oa q1=true)(hp1:∀ x0 r,t1 x0=M r->e? al k1 ([pj x0]++q1) (za r)){r} (h:tc t0 t1=M r):e? al 349 [fx t0,.fn k1 [] q1] (da r):=by
 haveI I1:∀ x0 r,o! (t1 x0=M r) (e? al k1 ([pj x0]++q1) (za r)):=λx0 r=>⟨hp1 x0 r⟩
 have s1:∀ f:D->D->Prop,YD f q1 q1=True:=λ_=>Yk hc1
 have z1:∀ a b n,JB a b n q1=q1:=λ_ _ _=>mh _ _ _ _ hc1
 refine e?.at 17 bj1.ok bj1.nm (IN (frF hc1 QK)) rfl ?_
 simp only[bj1,Kf.of,zs,ze]
 unfold tc at h
 exact pg Pd.eq_1 (.l (EN [33,24,9,2,81] []) (EN [] []) [] .o .o)
theorem jz{t0 t1 r} (h:Tf t0 t1=M r):e? al 355 [Ug t0,Iz t1] (za r):=by
 refine dk 7 bP3 ?_
 simp only[bP3,Kf.of,zs,ze]
 unfold Tf at h
 exact pg trivial .o
instance acm{t0 t1 r}:o! (Tf t0 t1=M r) (e? al 355 [Ug t0,Iz t1] (za r)):=⟨jz⟩
instance Q4:C1 bN5 qq:=pg (ak (ak bN5.eq_1 qq.eq_1) Mk.eq_1) (.l (EN [17,8,2,201] []) (EN [17] []) [] (.z 3 (.j (EN [33,168,2,25] []) .o .o)) .o)
instance sZ:C1 bK5 Fo:=pg (ak (ak bK5.eq_1 Fo.eq_1) mz.eq_1) (.l (EN [17,8,3,10,121] [516]) (EN [24,3] [516]) [9] (.b (.t [256]) .o) .o)
instance acn:C2 bJ7 yy:=pg (ak bJ7.eq_1 yy.eq_1) (.b (.j (EN [32,2] []) .o .o) (.b (.j (EN [32,2] []) .o .o) (.b (.j (EN [32,2] []) .o .o) (.b .o (.j (EN [16,17,488,2,121] [0,8]) .o (.b (.j (EN [32,2,481] []) .o .o) .o))))))
instance aco:C1 bJ1 Gr:=pg (ak bJ1.eq_1 Gr.eq_1) (.z 1 (.j (EN [16,2,49] []) .o .o))
instance GX:C2 bI8 Pm:=pg (ak (ak bI8.eq_1 Pm.eq_1) Fi.eq_1) (.l (EN [8,25,8,3,33,10,105] [260]) (EN [40,3,17] [260]) [5] (.z 2 (.j (EN [8,81] [2]) (.b (.t [256]) .o) .o)) .o)
instance acp:C1 bH5 Bt:=pg (ak bH5.eq_1 Bt.eq_1) .o
instance acq:C1 bG8 qi:=pg (ak bG8.eq_1 qi.eq_1) (.z 2 (.j (EN [16,9,8,2,25] [0]) .o .o))
instance acr:C2 bF9 Yt:=pg (ak bF9.eq_1 Yt.eq_1) (.z 5 (.j (EN [32,9,8,9,184,2,25] [8]) (.t [4]) .o))
instance T7:C1 bF5 fi:=pg (ak bF5.eq_1 fi.eq_1) (.z 1 (.j (EN [16,2,49] []) .o .o))
instance acs:C1 bC8 Mh:=pg (ak bC8.eq_1 Mh.eq_1) (.z 1 (.j (EN [16,2,81] []) .o .o))
instance acu{t0 t1 t2 r}:o! (Tn t0 t1 t2=M r) (e? al 490 [da t0,da t1,da t2] (.tup [Vg r.1,za r.2])):=⟨λh=>by
 refine dk 44 bC7 ?_
 simp only[bC7,Kf.of,zs,ze]
 unfold Tn at h
 exact pg trivial (.b (.j ⟨[.k 6,.p 1,.i 0],[.h 0 [.g [.s (da t1),.p 1]]]⟩ .o .o) (.b (.j ⟨[.k 6,.p 1,.i 0],[.h 0 [.g [.s (da t1),.p 1]]]⟩ .o .o) (.j (EN [48,9,216,2,97] [0]) .o .o)))⟩
instance oT:C1 bC2 Kb:=pg (ak bC2.eq_1 Kb.eq_1) .o
def FB{t0 r} (h:Kb t0=M r):e? al 495 [da t0] (Vg r):=oT.h h
instance AO:C1 bC0 um:=pg (ak bC0.eq_1 um.eq_1) (.z 1 (.j (EN [16,2,81] []) .o .o))
def PL{t0 r} (h:um t0=M r):e? al 497 [da t0] (za r):=AO.h h
instance Z8:C1 bB4 ko:=pg (ak bB4.eq_1 ko.eq_1) (.z 1 (.j (EN [16,2,49] []) .o .o))
instance acv:C2 bB3 tm:=pg (ak bB3.eq_1 tm.eq_1) (.z 1 (.j (EN [32,2,73] []) .o .o))
instance acw{t0 t1 t2 t3 t4 r}:o! (ju t0 t1 t2 t3 t4=M r) (e? al 507 [Gl t0,Gl t1,Gl t2,za t3,da t4] (za r)):=⟨λh=>by
 refine dk 44 bB2 ?_
 simp only[bB2,Kf.of,zs,ze]
 unfold ju at h
 exact pg trivial (.b .o (.b .o (.b .o (.b .o (.b .o (.b (.j (EN [80,2] []) .o .o) .o))))))⟩
instance acx:C1 k35 xu:=pg (ak (ak k35.eq_1 xu.eq_1) (ak Um.eq_1 (ak Vm.eq_1 (ak Wm.eq_1 Wj.eq_1)))) (.z 2 (.j (EN [8,9,176,2,817] [0]) .o (.l (EN [8,33,2,145] [0]) (EN [8,33] [0]) [] (.z 4 (.j (EN [8,193,192,2,617] [0]) .o (.l (EN [8,41,2,337] [0]) (EN [8,41] [0]) [] .o .o))) (.l (EN [8,17,2,25,10,953] [0]) (EN [8,17,8,25] [0]) [] (.z 4 (.j (EN [8,569,216,2,217] [0]) .o .o)) (.l (EN [8,25,2,25,10,945] [0]) (EN [] []) [] (.z 4 (.j (EN [8,793,208,2] [0]) .o .o)) .o)))))
instance acy:C2 k52 Nj:=pg (ak (ak k52.eq_1 Nj.eq_1) Sg.eq_1) (.l (EN [8,25,8,3,49,10,169] [772]) (EN [40,3,33] [772]) [13] (.z 4 (.j ⟨[.k 1,.p 12],[.o 0,.h 1 [.g [.p 1,.i 0,.i 1]]]⟩ .o (.t [256]))) .o)
theorem WO{t0 t1 r} (h:Nj t0 t1=M r):Ly al 52 [xd t0,.own 0 0] [(7,t1.map Eg)] (xd r):=by
 refine Ly.of 32 k52 ?_ (by simp[Fr.l])
 simp only[k52,Kf.of,zs,ze,Sz,List.map_cons,List.map_nil,List.length_cons,List.length_nil,Nat.reduceAdd]
 unfold Nj at h
 exact pg Sg.eq_1 (.l (EN [8,25,8,11,49,10,169] [1,772]) (EN [40,11,33] [1,772]) [0,13] (.z 4 (.j ⟨[.k 1,.p 12],[.O 0,.o 1,.h 2 [.g [.p 1,.i 0,.i 1]]]⟩ .o (.t [0,260]))) .o)
instance acz{t0 t1 r}:T? (Nj t0 t1=M r) (Ly al 52 [xd t0,.own 0 0] [(7,t1.map Eg)] (xd r)):=⟨WO⟩
instance ada:C2 k75 mA:=pg (ak (ak k75.eq_1 mA.eq_1) uu.eq_1) (.z 3 (.j (EN [9,16,9,8,129,2,257] [0]) .o (.l (EN [41,2,10,113] [0]) (EN [40,2] []) [] (.z 2 (.j (EN [41,2,129] [0]) (.j (EN [177,184,2,65] [0]) .o .o) .o)) .o)))
instance M8:C3 k84 vg:=pg (ak k84.eq_1 vg.eq_1) (.z 6 (.j (EN [49,128,2,177] []) .o .o))
instance R9:C2 cg0 Hs:=pg (ak (ak cg0.eq_1 Hs.eq_1) Om.eq_1) (.l (EN [33,8,2,10,169] []) (EN [40,2] []) [] (.z 2 (.j (EN [41,2,9] []) .o .o)) .o)
instance adb:C1 cf5 cu:=pg (ak (ak cf5.eq_1 cu.eq_1) fo.eq_1) (.l (EN [24,3,33,10,105] [260]) (EN [24,3,17] [260]) [5] (.b (.t [256]) .o) .o)
instance c7:C1 ce3 Yj:=pg (ak ce3.eq_1 Yj.eq_1) .o
instance ade:C2 cd8 Tc:=pg (ak cd8.eq_1 Tc.eq_1) .o
instance zX:C2 ca1 Hc:=pg (ak ca1.eq_1 Hc.eq_1) (.b .o (.j (EN [40,9,32,2,97] []) .o (.b .o (.j (EN [120,2,57] []) .o .o))))
instance mZ:C1 bX1 Vf:=pg (ak bX1.eq_1 Vf.eq_1) .o
theorem WB{t0 r} (h:ck t0=M r):AM al 274 [] [] 1 (t0.map da) (sa r):=by
 refine AM.at 6 bk1.ok bk1.nm QK QK (Fr.l _) rfl ?_
 simp only[bk1,Kf.of,zs,ze]
 unfold ck at h
 exact pg trivial .o
instance adf{t0 r}:o! (ck t0=M r) (AM al 274 [] [] 1 (t0.map da) (sa r)):=⟨WB⟩
instance adg:C2 bU8 tp:=pg (ak bU8.eq_1 tp.eq_1) .o
instance lJ:C2 bT4 Xe:=pg (ak bT4.eq_1 Xe.eq_1) .o
theorem Oq{t0}{t1:na->Option Bool}(hc1:oa q1=true)(hp1:∀ x0 r,t1 x0=M r->e? al k1 ([Vs x0]++q1) (za r)){r} (h:ub t0 t1=M r):e? al 309 [Zw t0,.fn k1 [] q1] (za r):=by
 haveI I1:∀ x0 r,o! (t1 x0=M r) (e? al k1 ([Vs x0]++q1) (za r)):=λx0 r=>⟨hp1 x0 r⟩
 have s1:∀ f:D->D->Prop,YD f q1 q1=True:=λ_=>Yk hc1
 have z1:∀ a b n,JB a b n q1=q1:=λ_ _ _=>mh _ _ _ _ hc1
 haveI:∀ y0 r,o! (Rc y0 t1=M r) (e? al 348 [Zw y0,.fn k1 [] q1] (da r)):=λy0 r=>⟨Lt hc1 hp1⟩
 refine e?.at 7 bj9.ok bj9.nm (IN (frF hc1 QK)) rfl ?_
 simp only[bj9,Kf.of,zs,ze]
 unfold ub at h
 exact pg trivial .o
theorem Kp{t0}(hc1:oa q1=true)(hp1:∀ x0 r,t1 x0=M r->e? al k1 ([pj x0]++q1) (za r)){r} (h:ib t0 t1=M r):e? al 311 [fx t0,.fn k1 [] q1] (za r):=by
 haveI I1:∀ x0 r,o! (t1 x0=M r) (e? al k1 ([pj x0]++q1) (za r)):=λx0 r=>⟨hp1 x0 r⟩
 have s1:∀ f:D->D->Prop,YD f q1 q1=True:=λ_=>Yk hc1
 have z1:∀ a b n,JB a b n q1=q1:=λ_ _ _=>mh _ _ _ _ hc1
 haveI:∀ y0 r,o! (tc y0 t1=M r) (e? al 349 [fx y0,.fn k1 [] q1] (da r)):=λy0 r=>⟨lr hc1 hp1⟩
 refine e?.at 7 bj8.ok bj8.nm (IN (frF hc1 QK)) rfl ?_
 simp only[bj8,Kf.of,zs,ze]
 unfold ib at h
 exact pg trivial .o
instance adh{t0 r}:o! (dn t0=M r) (AM al 320 [] [] 1 (t0.map da) (sa r)):=⟨λh=>by
 refine AM.at 6 bj6.ok bj6.nm QK QK (Fr.l _) rfl ?_
 simp only[bj6,Kf.of,zs,ze]
 unfold dn at h
 exact pg trivial .o⟩
instance adi:C4 bQ0 Uv:=pg (ak bQ0.eq_1 Uv.eq_1) (.z 6 (.j (EN [65,176,2,329] []) .o .o))
instance L4:C2 bN4 oq:=pg (ak bN4.eq_1 oq.eq_1) (.z 2 (.j (EN [8,113,2,313] [0,8]) .o (.z 2 (.j ⟨[.k 4,.p 1,.k 1,.p 9],[.o 1,.h 3 [.g [.p 4,.i 0,.i 1]]]⟩ (.j (EN [16,105,224,2,89] [0,8,16,24]) .o (.t [4,12])) .o))))
instance CW:C2 bL6 Gp:=pg (ak (ak bL6.eq_1 Gp.eq_1) El.eq_1) (.l (EN [16,17,8,11,17,24,17,10,425] [0,260]) (EN [40,3,17] [260]) [0,5] (.b (.j (EN [16,97] [0,258]) (.z 3 (.j (EN [16,97] [0,258]) (.j (EN [16,97,208,2,209] [0,8]) .o (.b (.t [0,260]) .o)) (.j (EN [16,465,2,49] [0,8]) .o (.b (.t [0,260]) .o)))) .o) (.t [4])) .o)
instance K4:C1 bJ9 Hb:=pg (ak bJ9.eq_1 Hb.eq_1) (.z 3 (.j (EN [8,9,144,2,113] [0]) .o (.b .o (.b (.j (EN [16,2,137] []) .o .o) .o))))
instance T1:C3 bF8 xc:=pg (ak bF8.eq_1 xc.eq_1) (.z 2 (.j (EN [17,24,17,64,2,113] [0,8]) .o .o))
instance S7:C3 bF7 lk:=pg (ak bF7.eq_1 lk.eq_1) (.z 2 (.e (EN [24,33,8,2,17] [0,8,16,24]) (.z 2 (.j (EN [24,33,144,2,465] [0,8,16,24]) .o .o)) (.z 1 (.j (EN [24,281,2,361] [0,8,16,24]) .o (.b .o (.z 1 (.f ⟨[.k 3,.p 81],[.o 0,.o 1,.o 2,.o 3,.n 2 [],.n 2 []]⟩ [0,4,8,12,9,9] (.g [[],[],[],[],[],[],[],[],[],[],[],[],[1,3,5,7,9,11],[1,3,5,7,9,11,12],[7,9,11]] [q6,q6,q6,q6,q6,q6,q6,q6,q6,q6,q6,q6,M 4,M 5,q6] (.z 1 (.j (EN [24,9,16,17,8,233,240,2,121] [0,24,32,40]) (.t [0,12,272,276]) (.z 3 (.j (EN [48,33,560,2,25] [8,16]) (.t [4,8]) .o))))))))))))
instance V1:C2 bF4 Ja:=pg (ak bF4.eq_1 Ja.eq_1) (.b .o (.b (.a [[],[],[],[],[],[],[2,4]] .o) (.j (EN [41,8,9,8,9,144,2,1553] [0,8]) .o (.b (.j ⟨[.k 4,.p 1,.i 2],[.h 0 [.g [.i 0,.i 1]]]⟩ (.a [[],[],[],[],[],[],[],[],[],[],[],[],[],[],[],[],[],[]] .o) .o) (.j (EN [217,160,2,1393] [0,8]) .o (.b .o (.b (.j ⟨[.k 4,.p 1,.i 2],[.h 0 [.g [.i 0,.i 1]]]⟩ (.a [[],[],[],[],[],[],[],[],[],[],[],[],[],[],[],[10,12]] .o) .o) (.j (EN [8,369,264,2,1129] [0,8]) .o (.b (.j ⟨[.k 4,.p 1,.i 2],[.h 0 [.g [.i 0,.i 1]]]⟩ (.a [[],[],[],[],[],[],[],[],[],[],[],[],[],[],[],[],[],[],[],[],[],[],[],[],[18,20]] .o) .o) (.j (EN [8,633,216,2,913] [0,8]) .o (.b (.a [[],[],[],[],[],[],[],[],[2,3,5,6]] .o) (.j (EN [8,849,88,2,825] [0,8]) .o (.b (.j ⟨[.k 4,.p 1,.i 0],[.h 0 [.g [.s (da 1),.p 1]]]⟩ (.a [[],[],[],[],[],[],[],[],[],[],[],[],[],[],[],[],[],[],[],[],[],[],[16,18]] .o) .o) (.j (EN [8,937,200,2,625] [0,8]) .o (.b (.j ⟨[.k 4,.p 1,.i 0],[.h 0 [.g [.s (da 1),.p 1]]]⟩ (.a [[],[],[],[],[],[],[],[],[],[],[],[],[],[8,10]] .o) .o) (.b (.j ⟨[.k 4,.p 1,.i 2],[.h 0 [.g [.i 0,.i 1]]]⟩ (.a [[],[],[],[],[],[],[],[],[],[],[],[],[],[],[],[],[],[10,11,13,14]] .o) .o) (.j (EN [8,41,16,1081,280,2,345] [0]) .o (.b (.j ⟨[.k 4,.p 1,.i 2,.p 2],[.h 0 [.g [.i 0,.i 1]]]⟩ (.a [[],[],[],[],[],[],[],[],[],[],[],[],[],[],[],[10,12]] .o) .o) (.j (EN [8,1417,144,2,201] [0]) .o (.b (.j ⟨[.k 4,.p 1,.i 0,.p 2],[.h 0 [.g [.s (da 2),.p 1]]]⟩ (.a [[],[],[],[],[],[],[],[],[],[],[],[],[],[8,10]] .o) .o) (.j (EN [8,57,1632,2,73] [0]) .o (.b (.a [[],[],[],[],[],[],[2,4]] .o) .o))))))))))))))))))))))
instance QW:C2 bF1 bl:=pg (ak bF1.eq_1 bl.eq_1) (.z 2 (.j ⟨[.p 4,.k 3,.w 0,.p 4],[]⟩ .o .o))
theorem QL{t0:fr}{t1:ej}{t2:om}{r:(ej×Bool)}(h:Ap t0 t1 t2=M r):e? al 473 [Oi t0,Vg t1,Ws t2] (.tup [Vg r.1,za r.2]):=by
 refine dk 79 bE0 ?_;simp only[bE0,Kf.of,zs,ze];unfold Ap at h;refine ss (rg ?_);(try simp only[zz]);refine ss (ss (rg ?_));(try simp only[zz]);refine bk (ss (rg ?_));(try simp only[zz]);refine cd rfl ?_;(try simp only[zz]);refine gi h (λc1 h=>?_) λc1 h=>?_
 .have e1:=eT c1;refine ss (dy rz ?_);obtain⟨x2,a3,h⟩:=bs h;simp only[zz,zy];refine lq (PL a3) ?_ (by simp only[zg,e1]);(try simp only[zz,zy]);cases h;exact rt ez
 have e2:=eF c1;refine ss (rg ?_);(try simp only[zz]);refine cd rfl ?_;(try simp only[zz]);refine gi h (λc3 h=>?_) λc3 h=>?_
 .have e4:=eT c3;refine ss (ay rz [[],[],[],[],[2]] U? ?_);(try simp only[zz,zy]);cases h;exact rt ez
 have e5:=eF c3;refine jm h (λj5=>⟨ds 3 (.ref 0 0 0 0::.ref 1 0 0 0::.ref 2 0 0 0::.ref 3 0 0 0::ds 4 (da t0.Op::ds 12 (za j5::ds 57 []))),[.live 2 0 [Oi t0],.live 2 0 [Vg t1],.live 6 0 [Ws t2],.live 2 0 [.agg [da 0,da 0]]]⟩) (λz7 h6=>?_) λj5 h6 h=>?_
 .refine ss (rg ?_);(try simp only[zz]);refine cd rfl ?_;(try simp only[zz]);refine gi h6 (λc4 h6=>?_) λc4 h6=>?_
  .have e8:=eT c4;refine sk ?_;(try simp only[zz,eq_true c4,e8]);cases h6;exact tz [ok 0,ok 1,ok 2,ok 3]
  have e9:=eF c4;refine rg ?_;(try simp only[zz]);cases h6;exact tz [ok 0,ok 1,ok 2,ok 3]
 refine cd rfl ?_;(try simp only[zz]);refine gi h (λc6 h=>?_) λc6 h=>?_
 .refine ss (ay rz [[],[],[],[],[2]] U? ?_);obtain⟨x7,a10,h⟩:=bs h;simp only[zz,zy];refine lq (FB a10) ?_ (by simp only[zg,e2,e5,c6]);(try simp only[zz,zy]);cases h;exact rt ez
 refine ss (rg ?_);(try simp only[zz]);refine cd rfl ?_;(try simp only[zz]);refine gi h (λc8 h=>?_) λc8 h=>?_
 .have e11:=eT c8;refine ss (rg ?_);obtain⟨x9,f14,f15,h⟩:=bI h;(try simp only[zz,f14,f15]);refine jm h (λj14=>⟨ds 6 (.ref 0 0 0 0::za j14::ds 74 []),[.live 2 0 [.agg [da x9.Value.a,da x9.Value.g]]]⟩) (λz17 h16=>?_) λj14 h16 h=>?_
  .refine ay rz [[],[],[],[],[],[],[],[],[],[],[],[],[],[],[],[],[],[],[],[],[15,17]] U? ?_;obtain⟨x10,a18,h16⟩:=bs h16;simp only[zz,zy];refine lq (iA a18) ?_ (by simp only[zg,e2,e5,c6,e11]);(try simp only[zz,zy]);refine gi h16 (λc11 h16=>?_) λc11 h16=>?_
   .obtain⟨x12,a19,h16⟩:=bs h16;simp only[zz,c11,zy];refine lq (iA a19) ?_ (by simp only[zg,e2,e5,c6,e11,c11]);(try simp only[zz,c11,zy]);refine gi h16 (λc13 h16=>?_) λc13 h16=>?_
    ·(try simp only[zz,c11,c13,zy]);cases h16;exact tz [ok 3]
    (try simp only[zz,c11,c13,zy]);cases h16;exact tz [ok 3]
   (try simp only[zz,c11,zy]);cases h16;exact tz [ok 3]
  cases h;exact rt ez
 have e12:=eF c8;refine sk ?_;(try simp only[zz,c8,e12]);refine ss (rg ?_);obtain⟨x15,f21,f22,h⟩:=bI h;(try simp only[zz,f21,f22,Int.reduceEq,Int.reduceNeg]);refine jm h (λj20=>⟨ds 6 (.ref 0 0 0 0::za j20::ds 74 []),[.live 2 0 [Vg t1]]⟩) (λz24 h23=>?_) λj20 h23 h=>?_
 .refine ay rz [[],[],[],[],[],[],[],[],[],[],[],[],[],[],[],[],[12]] U? ?_;(try simp only[zz,zy]);refine gi h23 (λc16 h23=>?_) λc16 h23=>?_
  .have e25:=eT c16;obtain⟨x17,a27,h23⟩:=bs h23;simp only[zz,eq_true c16,e25,zy];refine lq (FB a27) ?_ (by simp only[zg,e2,e5,c6,e12,e25]);(try simp only[zz,eq_true c16,e25,zy]);refine gi h23 (λc18 h23=>?_) λc18 h23=>?_
   .obtain⟨x19,a28,h23⟩:=bs h23;simp only[zz,eq_true c16,e25,eq_true c18,zy];refine lq (FB a28) ?_ (by simp only[zg,e2,e5,c6,e12,e25]);(try simp only[zz,eq_true c16,e25,eq_true c18,zy]);cases h23;exact tz [ok 3]
   (try simp only[zz,eq_true c16,e25,c18,zy]);cases h23;exact tz [ok 3]
  have e26:=eF c16;(try simp only[zz,c16,e26,zy]);cases h23;exact tz [ok 3]
 cases h;exact rt ez
instance adj{t0 t1 t2 r}:o! (Ap t0 t1 t2=M r) (e? al 473 [Oi t0,Vg t1,Ws t2] (.tup [Vg r.1,za r.2])):=⟨QL⟩
instance adk:C2 bC6 Qv:=pg (ak bC6.eq_1 Qv.eq_1) (.z 3 (.j (EN [33,24,9,152,2,81] []) .o .o))
instance Y8:C3 bC3 Qr:=pg (ak bC3.eq_1 Qr.eq_1) (.z 6 (.j (EN [49,152,2,377] []) .o (.z 9 (.j (EN [64,9,40,2,81] []) .o (.b .o (.j (EN [112,2,417] []) .o .o))))))
instance adl:C1 bC1 nn:=pg (ak bC1.eq_1 nn.eq_1) (.z 1 (.j (EN [16,2,49] []) .o .o))
instance adm:C3 bB9 wz:=pg (ak bB9.eq_1 wz.eq_1) (.b (.j ⟨[.k 6,.p 1,.i 2],[.h 0 [.g [.i 0,.i 1]]]⟩ .o .o) (.b (.j ⟨[.k 6,.p 1,.i 2],[.h 0 [.g [.i 0,.i 1]]]⟩ .o .o) (.z 1 (.j (EN [8,49,280,2,105] [0]) .o (.b .o (.j ⟨[.k 6,.p 1,.i 2,.p 34],[.h 0 [.g [.i 0,.i 1]]]⟩ .o .o))))))
end Go.Proofs.Dev
