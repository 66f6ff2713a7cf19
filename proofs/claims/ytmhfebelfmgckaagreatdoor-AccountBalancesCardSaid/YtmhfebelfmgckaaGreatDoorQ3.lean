/-
  Contracts of the functions: each answers as its plain partial function says.
-/
import Derived.Test.YtmhfebelfmgckaaGreatDoorG
import Derived.Test.YtmhfebelfmgckaaGreatDoorH1
import Derived.Test.YtmhfebelfmgckaaGreatDoorH2
import Derived.Test.YtmhfebelfmgckaaGreatDoorL1
open Option renaming some->M,none->s5
open And renaming intro->ak
open Go.Proofs.Tryz renaming prog->al
set_option linter.all false
set_option maxHeartbeats 1000000
set_option maxRecDepth 10000
namespace Go.Proofs.Dev
open Go Go.Tm
variable {t0:(List (List Int))}{t1:po->Option Bool}{r:List Int}{k1:Nat}{q1:List D}{R382 R410:((List Int) -> (List Int) -> (List Bool) -> Int -> Option Int)}{R409:((List Int) -> (List Int) -> (List Bool) -> Int -> Option (List Int))}
instance lX:C2 k15 Oh:=pg (ak (ak k15.eq_1 Oh.eq_1) uh.eq_1) (.l (EN [33,8,2] []) (EN [] []) [] (.z 1 (.j (EN [161,2,89] []) .o .o)) .o)
instance FU:C1 k22 On:=pg (ak k22.eq_1 On.eq_1) .o
instance adz:C1 ch8 mw:=pg (ak (ak ch8.eq_1 mw.eq_1) uq.eq_1) (.l (EN [17,8,3,10,209] [260]) (EN [24,3] [260]) [5] (.z 2 (.j (EN [41] [2]) (.j (EN [41,136,2,65] [0]) .o (.b (.t [256]) .o)) .o)) .o)
instance EU:C1 aK7 wc:=pg (ak (ak aK7.eq_1 wc.eq_1) (ak Eg.eq_1 Fg.eq_1)) (.l (EN [24,65,8,17,10,401] [2]) (EN [24,65] [2]) [] (.z 2 (.j (EN [24,97] [2]) (.z 2 (.j (EN [24,97,80,2,313] [0,8]) .o .o)) .o)) (.l (EN [24,41,11,10,305,18,129] [0,260]) (EN [64,3] [260]) [0,5] (.b (.j (EN [24,49,10,313] [0,258]) (.b (.t [0,260]) .o) .o) (.t [4])) .o))
theorem pE{t0 r} (h:wc t0=M r):Ou al 118 [.own 0 0] [(7,t0.map ef)] (qa r):=by
 refine Ou.of 64 aK7 ?_ aaI
 simp only[aK7,Kf.of,zs,ze,cz,List.map_cons,List.map_nil,List.length_cons,List.length_nil,Nat.reduceAdd]
 unfold wc at h
 exact pg (ak Eg.eq_1 Fg.eq_1) (.l (EN [24,65,8,17,10,401] [1,258]) (EN [24,65] [1,258]) [] (.z 2 (.j (EN [24,97] [1,258]) (.z 2 (.j (EN [24,97,80,2,313] [1,8,16]) .o .o)) .o)) (.l (EN [24,41,19,10,305,18,129] [1,8,260]) (EN [64,11] [1,260]) [0,4,5] (.b (.j (EN [24,49,10,313] [1,8,514]) (.b (.t [0,4,264]) .o) .o) (.t [0,8])) .o))
instance aea{t0 r}:Q! (wc t0=M r) (Ou al 118 [.own 0 0] [(7,t0.map ef)] (qa r)):=⟨pE⟩
theorem cu{t0 t1 r} (h:bh t0 t1=M r):e? al 124 [Bb t0,kx t1] (za r):=by
 refine dk 7 cg2 ?_
 simp only[cg2,Kf.of,zs,ze]
 unfold bh at h
 exact pg trivial .o
instance aeb{t0 t1 r}:o! (bh t0 t1=M r) (e? al 124 [Bb t0,kx t1] (za r)):=⟨cu⟩
instance P1:C1 cg0 Yp:=pg (ak cg0.eq_1 Yp.eq_1) .o
instance GQ:C2 cf2 Be:=pg (ak cf2.eq_1 Be.eq_1) (.z 3 (.j (EN [16,17,16,9,112,2,49] [0]) .o .o))
instance VW:C2 cd3 Ff:=pg (ak cd3.eq_1 Ff.eq_1) (.z 3 (.j (EN [16,17,16,9,112,2,49] [0]) .o .o))
instance aec:C3 cc9 jg:=pg (ak cc9.eq_1 jg.eq_1) (.z 1 (.j (EN [48,2,65] []) .o .o))
instance aed:C1 cc7 Bv:=pg (ak cc7.eq_1 Bv.eq_1) (.z 1 (.j (EN [16,2,49] []) .o .o))
instance gaa:C2 cc5 Po:=pg (ak (ak cc5.eq_1 Po.eq_1) Um.eq_1) (.l (EN [33,8,2,97] []) (EN [] []) [] .o .o)
instance aee:C1 cb2 Xf:=pg (ak cb2.eq_1 Xf.eq_1) (.z 1 (.j (EN [16,2,121] []) .o .o))
instance xY:C2 ca4 Zw:=pg (ak ca4.eq_1 Zw.eq_1) (.b (.j (EN [32,2] []) .o .o) (.b (.j (EN [32,2] []) .o .o) .o))
instance r6:C2 bZ5 od:=pg (ak bZ5.eq_1 od.eq_1) (.z 3 (.j (EN [8,25,16,9,2,161] [0]) .o (.b .o (.b (.j (EN [32,2,9] []) .o .o) .o))))
instance aef:C2 bW4 Tu:=pg (ak bW4.eq_1 Tu.eq_1) .o
theorem cK{t1:Int}(h:Sx t0 t1=M r):e? al 271 [Ud t0,da t1] (qa r):=by
 refine dk 60 bW1 ?_;simp only[bW1,Kf.of,zs,ze];unfold Sx at h;refine ss (rg ?_);(try simp only[zz]);refine ss (rg ?_);obtain⟨x1,a1,h⟩:=bs h;obtain⟨f2,f3,f4,f5,f6⟩:=vW (e:=za) a1;(try simp only[zz]at f5 f6);(try simp only[zz,f2,f3,f4,f5,f6]);refine ss (rg ?_);(try simp only[zz]);refine ss ?_;obtain⟨y7,h8,h⟩:=bs h;refine lm h8 (λq=>⟨Ud t0::ds 4 (.own 0 0::.own 1 0::ds 55 []),[.live 1 0 (q.1.map za),.live 1 0 (q.2.map da)]⟩) (λb26=>⟨ds 5 (.own 0 0::ds 56 []),[.live 1 0 (b26.map za)]⟩) (tz [ok 0,ok 1]) ?_ ?_
 .rintro⟨s2,s3⟩ z9 h10 h11;simp only[zh]at h10;refine ss (ss (rg ?_));(try simp only[zz]);refine cd rfl ?_;(try simp only[zz]);refine gi h10 (λc4 h10=>?_) λc4 h10=>?_
  .refine sk ?_;(try simp only[zz,c4]);refine bk (ss (rg ?_));obtain⟨x5,f13,f14,f15,h10⟩:=bO h10;(try simp only[zz,f13,f14,f15]);refine ss (rg ?_);obtain⟨x6,a16,h10⟩:=bs h10;obtain⟨f17,f18,f19⟩:=H3 (e:=da) a16;(try simp only[zz]at f19);(try simp only[zz,f17,f18,f19]);refine ss (rg ?_);obtain⟨x7,f21,f22,h10⟩:=bI h10;(try simp only[zz,f21,f22]);obtain⟨y23,h24,h10⟩:=bs h10;refine lm h24 (λq=>⟨Ud t0::ds 4 (.own 0 0::.own 1 0::ds 22 (qa x7::da (x7.length:Int)::da q.2.2::ds 30 [])),[.live 1 0 (q.1.map za),.live 1 0 (q.2.1.map da)]⟩) (λq=>⟨Ud t0::ds 4 (.own 0 0::.own 1 0::ds 55 []),[.live 1 0 (q.1.map za),.live 1 0 (q.2.map da)]⟩) (tz [ok 0,ov 1 1]) ?_ ?_
   .rintro⟨s8,s9,s10⟩ z25 h26 h27;simp only[Xj]at h26;refine ss (rg ?_);(try simp only[zz]);refine ss (cd rfl ?_);(try simp only[zz]);refine gi h26 (λc11 h26=>?_) λc11 h26=>?_
    .refine sk ?_;(try simp only[zz,c11]);refine jm h26 (λq=>⟨Ud t0::ds 4 (.own 0 0::.own 1 0::ds 22 (qa x7::da (x7.length:Int)::da s10::ds 30 [])),[.live 1 0 (q.1.map za),.live 1 0 (q.2.map da)]⟩) (λz29 h28=>?_) λz29 h28 h26=>?_
     .refine bk (ss (rg ?_));obtain⟨x12,f31,f32,h28⟩:=bI h28;(try simp only[zz,f31,f32]);refine ss (rg ?_);obtain⟨x13,f34,f35,f36,h28⟩:=bO h28;(try simp only[zz,f34,f35,f36]);refine cd rfl ?_;(try simp only[zz,f34,f35,f36]);refine gi h28 (λc14 h28=>?_) λc14 h28=>?_
      .refine ss (rg ?_);obtain⟨x15,a37,h28⟩:=bs h28;obtain⟨f38,f39⟩:=aj2 (e:=za) a37;(try simp only[zz]at f39);(try simp only[zz,f34,f35,f36,f38,f39]);refine rg ?_;obtain⟨x16,a40,h28⟩:=bs h28;obtain⟨f41,f42⟩:=MD (e:=da) a40;(try simp only[zz]at f41 f42);(try simp only[zz,f41,f42]);cases h28;exact tz [ok 0,ov 1 1]
      refine sk ?_;(try simp only[zz,f34,f35,f36,c14]);cases h28;exact tz [ok 0,ok 1]
     obtain⟨j17,j18⟩:=z29;dsimp only at h26;refine rg ?_;(try simp only[zz]);cases h26;exact tz [ok 0,ok 1]
    refine xt ?_;(try simp only[zz,c11]);cases h26;exact tz [ok 0,ok 1]
   rintro⟨b22,b23⟩ rfl;dsimp only at h10;(try simp only[zz]);cases h10;exact tz [ok 0,ok 1]
  refine xt ?_;(try simp only[zz,c4]);cases h10;exact tz [ok 0]
 rintro b26 rfl;dsimp only at h;(try simp only[zz]);refine ss (rg ?_);(try simp only[zz]);refine ss (ss (rg ?_));(try simp only[zz]);obtain⟨y43,h44,h⟩:=bs h;refine lm h44 (λq=>⟨ds 10 (.own 0 0::ds 37 (.own 1 0::da (b26.length:Int)::da q.2::ds 11 [])),[.live 1 0 (q.1.map da),.live 1 0 (b26.map za)]⟩) (λb36=>⟨ds 10 (.own 0 0::ds 51 []),[.live 1 0 (b36.map da)]⟩) (tz [on 1,ok 0]) ?_ ?_
 .rintro⟨s27,s28⟩ z45 h46 h47;simp only[Yj]at h46;refine ss (rg ?_);(try simp only[zz]);refine ss (cd rfl ?_);(try simp only[zz]);refine gi h46 (λc29 h46=>?_) λc29 h46=>?_
  .refine sk ?_;(try simp only[zz,c29]);refine jm h46 (λj33=>⟨ds 10 (.own 0 0::ds 37 (.own 1 0::da (b26.length:Int)::da s28::ds 11 [])),[.live 1 0 (j33.map da),.live 1 0 (b26.map za)]⟩) (λz49 h48=>?_) λj33 h48 h46=>?_
   .refine bk (ss (rg ?_));obtain⟨x30,f51,f52,f53,h48⟩:=bO h48;(try simp only[zz,f51,f52,f53]);refine ss (rg ?_);(try simp only[zz]);refine cd rfl ?_;(try simp only[zz]);refine gi h48 (λc31 h48=>?_) λc31 h48=>?_
    .refine rg ?_;obtain⟨x32,a54,h48⟩:=bs h48;obtain⟨f55,f56⟩:=MD (e:=da) a54;(try simp only[zz]at f55 f56);(try simp only[zz,f55,f56]);cases h48;exact tz [ov 0 1,ok 1]
    refine sk ?_;(try simp only[zz,c31]);cases h48;exact tz [ok 0,ok 1]
   refine rg ?_;(try simp only[zz]);cases h46;exact tz [ok 0,ok 1]
  refine xt ?_;(try simp only[zz,c29]);cases h46;exact tz [ok 0]
 rintro b36 rfl;dsimp only at h;(try simp only[zz]);refine ss (rg ?_);(try simp only[zz]);cases h;exact rt ez
def gM{t1:Int}(h:cm t0 t1=M r):e? al 271 [Ud t0,da t1] (qa r):=cK (K9 h)
instance aeg{t0 t1 r}:o! (cm t0 t1=M r) (e? al 271 [Ud t0,da t1] (qa r)):=⟨gM⟩
instance V8:C1 bT4 ug:=pg (ak bT4.eq_1 ug.eq_1) (.z 3 (.j (EN [32,2,441] []) .o .o))
instance D5:C4 bR5 ld:=pg (ak (ak bR5.eq_1 ld.eq_1) (ak Ob.eq_1 (ak Cb.eq_1 Uc.eq_1))) (.l (EN [8,57,8,2,625] [0]) (EN [8,57] [0]) [] (.z 3 (.j (EN [8,89,184,2,417] [0]) .o .o)) (.l (EN [8,73,2,617] [0]) (EN [8,73] [0]) [] (.z 3 (.j (EN [8,281,216,2,193] [0]) .o .o)) (.l (EN [8,81,2,609] [0]) (EN [] []) [] (.z 3 (.j (EN [8,505,184,2] [0]) .o .o)) .o)))
theorem Rt{t0}{t1:nb->Option Bool}(hc1:oa q1=true)(hp1:∀ x0 r,t1 x0=M r->e? al k1 ([ft x0]++q1) (za r)){r} (h:Vc t0 t1=M r):e? al 348 [qx t0,.fn k1 [] q1] (da r):=by
 haveI I1:∀ x0 r,o! (t1 x0=M r) (e? al k1 ([ft x0]++q1) (za r)):=λx0 r=>⟨hp1 x0 r⟩
 have s1:∀ f:D->D->Prop,eE f q1 q1=True:=λ_=>Jj hc1
 have z1:∀ a b n,XB a b n q1=q1:=λ_ _ _=>Dg _ _ _ _ hc1
 refine e?.at 17 bj7.ok bj7.nm (jM (D8 hc1 PJ)) rfl ?_
 simp only[bj7,Kf.of,zs,ze]
 unfold Vc at h
 exact pg Ee.eq_1 (.l (EN [33,24,9,2,81] []) (EN [] []) [] .o .o)
theorem xr{t0}(hc1:oa q1=true)(hp1:∀ x0 r,t1 x0=M r->e? al k1 ([xj x0]++q1) (za r)){r} (h:Ac t0 t1=M r):e? al 349 [ux t0,.fn k1 [] q1] (da r):=by
 haveI I1:∀ x0 r,o! (t1 x0=M r) (e? al k1 ([xj x0]++q1) (za r)):=λx0 r=>⟨hp1 x0 r⟩
 have s1:∀ f:D->D->Prop,eE f q1 q1=True:=λ_=>Jj hc1
 have z1:∀ a b n,XB a b n q1=q1:=λ_ _ _=>Dg _ _ _ _ hc1
 refine e?.at 17 bj6.ok bj6.nm (jM (D8 hc1 PJ)) rfl ?_
 simp only[bj6,Kf.of,zs,ze]
 unfold Ac at h
 exact pg Td.eq_1 (.l (EN [33,24,9,2,81] []) (EN [] []) [] .o .o)
instance aeh{t0 r}:o! (My t0=M r) (e? al 370 [EV t0] (za r)):=⟨λh=>by
 refine dk 8 bO6 ?_
 simp only[bO6,Kf.of,zs,ze]
 unfold My at h
 exact pg trivial (.z 1 (.j (EN [16,2,49] []) .o .o))⟩
instance baa:C3 bO1 Sk:=pg (ak (ak bO1.eq_1 Sk.eq_1) Mm.eq_1) (.l (EN [49,8,2,145] []) (EN [] []) [] (.z 1 (.j (EN [129,2,73] []) .o .o)) .o)
instance aei{t0 r}:o! (vB t0=M r) (e? al 404 [EV t0] (za r)):=⟨λh=>by
 refine dk 8 bL2 ?_
 simp only[bL2,Kf.of,zs,ze]
 unfold vB at h
 exact pg trivial (.z 1 (.j (EN [16,2,49] []) .o .o))⟩
instance RZ:C1 bL0 Mo:=pg (ak (ak bL0.eq_1 Mo.eq_1) Dz.eq_1) (.l (EN [17,8,3,10,121] [516]) (EN [24,3] [516]) [9] (.b (.t [256]) .o) .o)
instance aej:C1 bJ6 yp:=pg (ak bJ6.eq_1 yp.eq_1) (.z 1 (.j (EN [16,2,49] []) .o .o))
instance jY:C2 bJ3 Wm:=pg (ak (ak bJ3.eq_1 Wm.eq_1) Qi.eq_1) (.l (EN [8,25,8,3,33,10,105] [260]) (EN [40,3,17] [260]) [5] (.z 2 (.j (EN [8,81] [2]) (.b (.t [256]) .o) .o)) .o)
instance Y9:C2 bI1 Fs:=pg (ak (ak bI1.eq_1 Fs.eq_1) Em.eq_1) (.l (EN [33,8,9,10] [2]) (EN [40,9] [2]) [] (.z 2 (.j (EN [65] [2]) (.b (.t [256]) .o) .o)) .o)
instance aek:C1 bI0 It:=pg (ak bI0.eq_1 It.eq_1) .o
instance ael:C4 bH6 Xu:=pg (ak bH6.eq_1 Xu.eq_1) (.b .o (.b .o (.b .o (.z 1 (.j (EN [8,17,232,2,17] []) .o .o)))))
instance y8:C1 bG0 vi:=pg (ak bG0.eq_1 vi.eq_1) (.z 1 (.j (EN [16,2,49] []) .o .o))
instance aem:C1 bD3 Zh:=pg (ak bD3.eq_1 Zh.eq_1) (.z 1 (.j (EN [16,2,81] []) .o .o))
instance aen{t0 t1 t2 r}:o! (Yn t0 t1 t2=M r) (e? al 490 [da t0,da t1,da t2] (.tup [Zg r.1,za r.2])):=⟨λh=>by
 refine dk 44 bD2 ?_
 simp only[bD2,Kf.of,zs,ze]
 unfold Yn at h
 exact pg trivial (.b (.j ⟨[.k 6,.p 1,.i 0],[.h 0 [.g [.s (da t1),.p 1]]]⟩ .o .o) (.b (.j ⟨[.k 6,.p 1,.i 0],[.h 0 [.g [.s (da t1),.p 1]]]⟩ .o .o) (.j (EN [48,9,216,2,97] [0]) .o .o)))⟩
instance mY:C1 k48 nr:=pg (ak k48.eq_1 nr.eq_1) (.z 1 (.j (EN [16,2,121] []) .o .o))
instance aeo:C3 k94 Bw:=pg (ak (ak k94.eq_1 Bw.eq_1) Nu.eq_1) (.l (EN [8,41,8,11,10,18] [0,516]) (EN [24,25,8,11,10] [0,516]) [0,9] (.z 2 (.j (EN [8,57,10,49] [0,258]) (.j (EN [8,113,104,2,113] [0,8]) .o (.b (.t [0,260]) .o)) .o)) .o)
instance eaa:C1 k99 Wk:=pg (ak k99.eq_1 Wk.eq_1) (.z 1 (.j (EN [16,2,73] []) .o .o))
instance aep:C1 cg9 ku:=pg (ak (ak cg9.eq_1 ku.eq_1) oo.eq_1) (.l (EN [24,3,33,10,105] [260]) (EN [24,3,17] [260]) [5] (.b (.t [256]) .o) .o)
instance TX:C4 cg4 Lv:=pg (ak cg4.eq_1 Lv.eq_1) (.b .o (.b .o (.j (EN [8,17,8,41,112,2,273] [0,8]) .o (.b .o (.j (EN [8,177,112,2,161] [0,8]) .o .o)))))
instance aeq:C2 cf0 Xc:=pg (ak cf0.eq_1 Xc.eq_1) .o
instance R9:C1 cb1 Zr:=pg (ak cb1.eq_1 Zr.eq_1) (.z 1 (.j (EN [16,2,73] []) .o .o))
theorem vC{t0 r} (h:lk t0=M r):jN al 274 [] [] 1 (t0.map da) (qa r):=by
 refine jN.at 6 bk6.ok bk6.nm PJ PJ (Fr.l _) rfl ?_
 simp only[bk6,Kf.of,zs,ze]
 unfold lk at h
 exact pg trivial .o
instance aer{t0 r}:o! (lk t0=M r) (jN al 274 [] [] 1 (t0.map da) (qa r)):=⟨vC⟩
instance P9:C2 bV1 yg:=pg (ak bV1.eq_1 yg.eq_1) (.z 1 (.j (EN [32,2,113] []) .o .o))
theorem Wq{t0}{t1:nb->Option Bool}(hc1:oa q1=true)(hp1:∀ x0 r,t1 x0=M r->e? al k1 ([ft x0]++q1) (za r)){r} (h:zb t0 t1=M r):e? al 309 [qx t0,.fn k1 [] q1] (za r):=by
 haveI I1:∀ x0 r,o! (t1 x0=M r) (e? al k1 ([ft x0]++q1) (za r)):=λx0 r=>⟨hp1 x0 r⟩
 have s1:∀ f:D->D->Prop,eE f q1 q1=True:=λ_=>Jj hc1
 have z1:∀ a b n,XB a b n q1=q1:=λ_ _ _=>Dg _ _ _ _ hc1
 haveI:∀ y0 r,o! (Vc y0 t1=M r) (e? al 348 [qx y0,.fn k1 [] q1] (da r)):=λy0 r=>⟨Rt hc1 hp1⟩
 refine e?.at 7 bk4.ok bk4.nm (jM (D8 hc1 PJ)) rfl ?_
 simp only[bk4,Kf.of,zs,ze]
 unfold zb at h
 exact pg trivial .o
theorem Up{t0}(hc1:oa q1=true)(hp1:∀ x0 r,t1 x0=M r->e? al k1 ([xj x0]++q1) (za r)){r} (h:pb t0 t1=M r):e? al 311 [ux t0,.fn k1 [] q1] (za r):=by
 haveI I1:∀ x0 r,o! (t1 x0=M r) (e? al k1 ([xj x0]++q1) (za r)):=λx0 r=>⟨hp1 x0 r⟩
 have s1:∀ f:D->D->Prop,eE f q1 q1=True:=λ_=>Jj hc1
 have z1:∀ a b n,XB a b n q1=q1:=λ_ _ _=>Dg _ _ _ _ hc1
 haveI:∀ y0 r,o! (Ac y0 t1=M r) (e? al 349 [ux y0,.fn k1 [] q1] (da r)):=λy0 r=>⟨xr hc1 hp1⟩
 refine e?.at 7 bk3.ok bk3.nm (jM (D8 hc1 PJ)) rfl ?_
 simp only[bk3,Kf.of,zs,ze]
 unfold pb at h
 exact pg trivial .o
instance aes{t0 r}:o! (qn t0=M r) (jN al 320 [] [] 1 (t0.map da) (qa r)):=⟨λh=>by
 refine jN.at 6 bk1.ok bk1.nm PJ PJ (Fr.l _) rfl ?_
 simp only[bk1,Kf.of,zs,ze]
 unfold qn at h
 exact pg trivial .o⟩
instance aet{t0 r}:o! (qA t0=M r) (e? al 371 [EV t0] (za r)):=⟨λh=>by
 refine dk 12 bO5 ?_
 simp only[bO5,Kf.of,zs,ze]
 unfold qA at h
 exact pg trivial (.z 1 (.j (EN [16,2,81] []) .o .o))⟩
instance w5:C2 bN9 xq:=pg (ak bN9.eq_1 xq.eq_1) (.z 2 (.j (EN [8,113,2,313] [0,8]) .o (.z 2 (.j ⟨[.k 4,.p 1,.k 1,.p 9],[.o 1,.h 3 [.g [.p 4,.i 0,.i 1]]]⟩ (.j (EN [16,105,224,2,89] [0,8,16,24]) .o (.t [4,12])) .o))))
theorem DG{t0 t1 t2 t3 r} [∀ t0 t1 t2 t3 r,o! (R382 t0 t1 t2 t3=M r) (e? al 382 [qa t0,qa t1,Gc t2,da t3] (da r))] [∀ t0 t1 t2 t3 r,o! (R409 t0 t1 t2 t3=M r) (e? al 409 [qa t0,qa t1,Gc t2,da t3] (qa r))] [∀ t0 t1 t2 t3 r,o! (R410 t0 t1 t2 t3=M r) (e? al 410 [qa t0,qa t1,Gc t2,da t3] (da r))] (h:Fo R382 R409 R410 t0 t1 t2 t3=M r):e? al 382 [qa t0,qa t1,Gc t2,da t3] (da r):=by
 refine dk 24 bN4 ?_
 simp only[bN4,Kf.of,zs,ze]
 unfold Fo at h
 exact pg trivial .o
theorem CM{t0 t1 t2 t3 r} [∀ t0 t1 t2 t3 r,o! (R382 t0 t1 t2 t3=M r) (e? al 382 [qa t0,qa t1,Gc t2,da t3] (da r))] [∀ t0 t1 t2 t3 r,o! (R409 t0 t1 t2 t3=M r) (e? al 409 [qa t0,qa t1,Gc t2,da t3] (qa r))] [∀ t0 t1 t2 t3 r,o! (R410 t0 t1 t2 t3=M r) (e? al 410 [qa t0,qa t1,Gc t2,da t3] (da r))] (h:qw R382 R409 R410 t0 t1 t2 t3=M r):e? al 409 [qa t0,qa t1,Gc t2,da t3] (qa r):=by
 refine dk 74 bK7 ?_
 simp only[bK7,Kf.of,zs,ze]
 unfold qw at h
 exact pg gy.eq_1 (.l (EN [25,48,17,10] [2]) (EN [80,9] [2]) [] (.z 2 (.j (EN [129] [2]) (.z 2 (.j (EN [129] [2]) (.j (EN [129,264,2,225] [0]) .o (.b (.t [4]) .o)) (.j (EN [553,2,65] [0]) .o (.b (.t [256]) .o)))) .o)) .o)
theorem IH{t0 t1 t2 t3 r} [∀ t0 t1 t2 t3 r,o! (R382 t0 t1 t2 t3=M r) (e? al 382 [qa t0,qa t1,Gc t2,da t3] (da r))] [∀ t0 t1 t2 t3 r,o! (R409 t0 t1 t2 t3=M r) (e? al 409 [qa t0,qa t1,Gc t2,da t3] (qa r))] [∀ t0 t1 t2 t3 r,o! (R410 t0 t1 t2 t3=M r) (e? al 410 [qa t0,qa t1,Gc t2,da t3] (da r))] (h:vq R382 R409 R410 t0 t1 t2 t3=M r):e? al 410 [qa t0,qa t1,Gc t2,da t3] (da r):=by
 refine dk 21 bK6 ?_
 simp only[bK6,Kf.of,zs,ze]
 unfold vq at h
 exact pg trivial (.z 3 (.j (EN [24,41,8,9,96,2,17] []) .o .o))
def En:∀n,(∀ t0 t1 t2 t3 r,(ja n).1 t0 t1 t2 t3=M r->e? al 382 [qa t0,qa t1,Gc t2,da t3] (da r))/\(∀ t0 t1 t2 t3 r,(ja n).2.1 t0 t1 t2 t3=M r->e? al 409 [qa t0,qa t1,Gc t2,da t3] (qa r))/\(∀ t0 t1 t2 t3 r,(ja n).2.2 t0 t1 t2 t3=M r->e? al 410 [qa t0,qa t1,Gc t2,da t3] (da r))
|0=>⟨λ_ _ _ _ _ h=>(nomatch h),λ_ _ _ _ _ h=>(nomatch h),λ_ _ _ _ _ h=>(nomatch h)⟩
|n+1=>by
 obtain⟨H0,H1,H2⟩:=En n
 haveI I0:∀ t0 t1 t2 t3 r,o! ((ja n).1 t0 t1 t2 t3=M r) (e? al 382 [qa t0,qa t1,Gc t2,da t3] (da r)):=λt0 t1 t2 t3 r=>⟨H0 t0 t1 t2 t3 r⟩
 haveI I1:∀ t0 t1 t2 t3 r,o! ((ja n).2.1 t0 t1 t2 t3=M r) (e? al 409 [qa t0,qa t1,Gc t2,da t3] (qa r)):=λt0 t1 t2 t3 r=>⟨H1 t0 t1 t2 t3 r⟩
 haveI I2:∀ t0 t1 t2 t3 r,o! ((ja n).2.2 t0 t1 t2 t3=M r) (e? al 410 [qa t0,qa t1,Gc t2,da t3] (da r)):=λt0 t1 t2 t3 r=>⟨H2 t0 t1 t2 t3 r⟩
 exact⟨λt0 t1 t2 t3 r h=>DG (R382:=(ja n).1) (R409:=(ja n).2.1) (R410:=(ja n).2.2) h,λt0 t1 t2 t3 r h=>CM (R382:=(ja n).1) (R409:=(ja n).2.1) (R410:=(ja n).2.2) h,λt0 t1 t2 t3 r h=>IH (R382:=(ja n).1) (R409:=(ja n).2.1) (R410:=(ja n).2.2) h⟩
def jJ{t0 t1 t2 t3 r} (h:sw t0 t1 t2 t3=M r):e? al 382 [qa t0,qa t1,Gc t2,da t3] (da r):=(En eg).1 _ _ _ _ _ h
instance aeu{t0 t1 t2 t3 r}:o! (sw t0 t1 t2 t3=M r) (e? al 382 [qa t0,qa t1,Gc t2,da t3] (da r)):=⟨jJ⟩
def VQ{t0 t1 t2 t3 r} (h:oP t0 t1 t2 t3=M r):e? al 409 [qa t0,qa t1,Gc t2,da t3] (qa r):=(En eg).2.1 _ _ _ _ _ h
instance aev{t0 t1 t2 t3 r}:o! (oP t0 t1 t2 t3=M r) (e? al 409 [qa t0,qa t1,Gc t2,da t3] (qa r)):=⟨VQ⟩
def OK{t0 t1 t2 t3 r} (h:cH t0 t1 t2 t3=M r):e? al 410 [qa t0,qa t1,Gc t2,da t3] (da r):=(En eg).2.2 _ _ _ _ _ h
instance aew{t0 t1 t2 t3 r}:o! (cH t0 t1 t2 t3=M r) (e? al 410 [qa t0,qa t1,Gc t2,da t3] (da r)):=⟨OK⟩
instance aex:C1 bM8 uD:=pg (ak bM8.eq_1 uD.eq_1) .o
instance gX:C2 bM4 Rp:=pg (ak (ak bM4.eq_1 Rp.eq_1) Kl.eq_1) (.l (EN [16,17,8,11,17,24,17,10,425] [0,260]) (EN [40,3,17] [260]) [0,5] (.b (.j (EN [16,97] [0,258]) (.z 3 (.j (EN [16,97] [0,258]) (.j (EN [16,97,208,2,209] [0,8]) .o (.b (.t [0,260]) .o)) (.j (EN [16,465,2,49] [0,8]) .o (.b (.t [0,260]) .o)))) .o) (.t [4])) .o)
instance o5:C2 bL1 Ku:=pg (ak bL1.eq_1 Ku.eq_1) (.z 2 (.j (EN [16,25,72,2,153] [0,8,16]) .o .o))
instance u5:C1 bK4 Lb:=pg (ak bK4.eq_1 Lb.eq_1) (.z 3 (.j (EN [8,9,144,2,113] [0]) .o (.b .o (.b (.j (EN [16,2,137] []) .o .o) .o))))
instance B3:C3 bG3 Dc:=pg (ak bG3.eq_1 Dc.eq_1) (.z 2 (.j (EN [17,24,17,64,2,113] [0,8]) .o .o))
instance w8:C3 bG2 uk:=pg (ak bG2.eq_1 uk.eq_1) (.z 2 (.e (EN [24,33,8,2,17] [0,8,16,24]) (.z 2 (.j (EN [24,33,144,2,465] [0,8,16,24]) .o .o)) (.z 1 (.j (EN [24,281,2,361] [0,8,16,24]) .o (.b .o (.z 1 (.f ⟨[.k 3,.p 81],[.o 0,.o 1,.o 2,.o 3,.n 2 [],.n 2 []]⟩ [0,4,8,12,9,9] (.g [[],[],[],[],[],[],[],[],[],[],[],[],[1,3,5,7,9,11],[1,3,5,7,9,11,12],[7,9,11]] [s5,s5,s5,s5,s5,s5,s5,s5,s5,s5,s5,s5,M 4,M 5,s5] (.z 1 (.j (EN [24,9,16,17,8,233,240,2,121] [0,24,32,40]) (.t [0,12,272,276]) (.z 3 (.j (EN [48,33,560,2,25] [8,16]) (.t [4,8]) .o))))))))))))
instance F3:C2 bF9 Ka:=pg (ak bF9.eq_1 Ka.eq_1) (.b .o (.b (.a [[],[],[],[],[],[],[2,4]] .o) (.j (EN [41,8,9,8,9,144,2,1553] [0,8]) .o (.b (.j ⟨[.k 4,.p 1,.i 2],[.h 0 [.g [.i 0,.i 1]]]⟩ (.a [[],[],[],[],[],[],[],[],[],[],[],[],[],[],[],[],[],[]] .o) .o) (.j (EN [217,160,2,1393] [0,8]) .o (.b .o (.b (.j ⟨[.k 4,.p 1,.i 2],[.h 0 [.g [.i 0,.i 1]]]⟩ (.a [[],[],[],[],[],[],[],[],[],[],[],[],[],[],[],[10,12]] .o) .o) (.j (EN [8,369,264,2,1129] [0,8]) .o (.b (.j ⟨[.k 4,.p 1,.i 2],[.h 0 [.g [.i 0,.i 1]]]⟩ (.a [[],[],[],[],[],[],[],[],[],[],[],[],[],[],[],[],[],[],[],[],[],[],[],[],[18,20]] .o) .o) (.j (EN [8,633,216,2,913] [0,8]) .o (.b (.a [[],[],[],[],[],[],[],[],[2,3,5,6]] .o) (.j (EN [8,849,88,2,825] [0,8]) .o (.b (.j ⟨[.k 4,.p 1,.i 0],[.h 0 [.g [.s (da 1),.p 1]]]⟩ (.a [[],[],[],[],[],[],[],[],[],[],[],[],[],[],[],[],[],[],[],[],[],[],[16,18]] .o) .o) (.j (EN [8,937,200,2,625] [0,8]) .o (.b (.j ⟨[.k 4,.p 1,.i 0],[.h 0 [.g [.s (da 1),.p 1]]]⟩ (.a [[],[],[],[],[],[],[],[],[],[],[],[],[],[8,10]] .o) .o) (.b (.j ⟨[.k 4,.p 1,.i 2],[.h 0 [.g [.i 0,.i 1]]]⟩ (.a [[],[],[],[],[],[],[],[],[],[],[],[],[],[],[],[],[],[10,11,13,14]] .o) .o) (.j (EN [8,41,16,1081,280,2,345] [0]) .o (.b (.j ⟨[.k 4,.p 1,.i 2,.p 2],[.h 0 [.g [.i 0,.i 1]]]⟩ (.a [[],[],[],[],[],[],[],[],[],[],[],[],[],[],[],[10,12]] .o) .o) (.j (EN [8,1417,144,2,201] [0]) .o (.b (.j ⟨[.k 4,.p 1,.i 0,.p 2],[.h 0 [.g [.s (da 2),.p 1]]]⟩ (.a [[],[],[],[],[],[],[],[],[],[],[],[],[],[8,10]] .o) .o) (.j (EN [8,57,1632,2,73] [0]) .o (.b (.a [[],[],[],[],[],[],[2,4]] .o) .o))))))))))))))))))))))
end Go.Proofs.Dev
