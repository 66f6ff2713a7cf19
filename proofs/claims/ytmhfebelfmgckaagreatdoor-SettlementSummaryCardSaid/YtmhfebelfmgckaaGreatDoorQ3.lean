/-
  Contracts of the functions: each answers as its plain partial function says.
-/
import Derived.Test.YtmhfebelfmgckaaGreatDoorG
import Derived.Test.YtmhfebelfmgckaaGreatDoorH1
import Derived.Test.YtmhfebelfmgckaaGreatDoorH2
import Derived.Test.YtmhfebelfmgckaaGreatDoorL1
open Option renaming some->M
open And renaming intro->ak
open Go.Proofs.Tryz renaming prog->al
set_option linter.all false
set_option maxHeartbeats 1000000
set_option maxRecDepth 10000
namespace Go.Proofs.Dev
open Go Go.Tm
variable {t0:(List (List Int))}{t1:ke->Option Bool}{r:List Int}{k1:Nat}{q1:List D}{R382 R410:((List Int) -> (List Int) -> (List Bool) -> Int -> Option Int)}{R409:((List Int) -> (List Int) -> (List Bool) -> Int -> Option (List Int))}
instance adn:C1 k28 Zt:=pg (ak (ak k28.eq_1 Zt.eq_1) Yn.eq_1) (.l (EN [17,8,2,193] []) (EN [] []) [] (.z 1 (.j (EN [89,2,129] []) .o (.z 1 (.j (EN [89,128,2] []) .o .o)))) .o)
instance ado:C1 cg4 fw:=pg (ak (ak cg4.eq_1 fw.eq_1) jq.eq_1) (.l (EN [17,8,3,10,209] [260]) (EN [24,3] [260]) [5] (.z 2 (.j (EN [41] [2]) (.j (EN [41,136,2,65] [0]) .o (.b (.t [256]) .o)) .o)) .o)
instance adp:C1 ce9 GB:=pg (ak ce9.eq_1 GB.eq_1) .o
instance EX:C1 ce8 yw:=pg (ak ce8.eq_1 yw.eq_1) .o
instance adq:C1 ce6 du:=pg (ak ce6.eq_1 du.eq_1) (.b .o (.j (EN [8,9,56,2,41] [0]) .o .o))
instance wN:C1 cc2 od:=pg (ak cc2.eq_1 od.eq_1) (.z 1 (.j (EN [16,2,49] []) .o .o))
instance tW:C2 cc1 Df:=pg (ak cc1.eq_1 Df.eq_1) (.z 3 (.j (EN [16,17,16,9,112,2,49] [0]) .o .o))
instance BX:C2 cb0 Te:=pg (ak cb0.eq_1 Te.eq_1) (.z 3 (.j (EN [16,33,112,2,49] [0,8]) .o .o))
instance adr:C1 ca5 Rr:=pg (ak ca5.eq_1 Rr.eq_1) (.z 1 (.j (EN [16,2,49] []) .o .o))
instance ads:C2 ca4 Hd:=pg (ak ca4.eq_1 Hd.eq_1) (.z 1 (.j (EN [32,2,73] []) .o .o))
instance adt:C1 ca3 Dq:=pg (ak ca3.eq_1 Dq.eq_1) .o
instance adu:C5 ca2 Ph:=pg (ak ca2.eq_1 Ph.eq_1) (.z 2 (.j (EN [9,16,2,56,10,425] []) .o (.j (EN [2,81] []) .o .o)))
instance adv:C1 bZ4 Zx:=pg (ak bZ4.eq_1 Zx.eq_1) (.z 1 (.j (EN [16,2,105] []) .o .o))
instance KX:C1 bY9 dr:=pg (ak bY9.eq_1 dr.eq_1) (.z 1 (.j (EN [16,2,49] []) .o .o))
instance adw:C1 bX6 gA:=pg (ak bX6.eq_1 gA.eq_1) .o
instance S4:C3 bW7 Fu:=pg (ak bW7.eq_1 Fu.eq_1) .o
instance adx:C2 bV7 Mu:=pg (ak bV7.eq_1 Mu.eq_1) .o
theorem vJ{t1:Int}(h:Gx t0 t1=M r):e? al 271 [Qd t0,da t1] (sa r):=by
 refine dk 60 bV4 ?_;simp only[bV4,Kf.of,zs,ze];unfold Gx at h;refine ss (rg ?_);(try simp only[zz]);refine ss (rg ?_);obtain⟨x1,a1,h⟩:=bs h;obtain⟨f2,f3,f4,f5,f6⟩:=QV (e:=za) a1;(try simp only[zz]at f5 f6);(try simp only[zz,f2,f3,f4,f5,f6]);refine ss (rg ?_);(try simp only[zz]);refine ss ?_;obtain⟨y7,h8,h⟩:=bs h;refine lm h8 (λq=>⟨Qd t0::ds 4 (.own 0 0::.own 1 0::ds 55 []),[.live 1 0 (q.1.map za),.live 1 0 (q.2.map da)]⟩) (λb26=>⟨ds 5 (.own 0 0::ds 56 []),[.live 1 0 (b26.map za)]⟩) (tz [ok 0,ok 1]) ?_ ?_
 .rintro⟨s2,s3⟩ z9 h10 h11;simp only[ph]at h10;refine ss (ss (rg ?_));(try simp only[zz]);refine cd rfl ?_;(try simp only[zz]);refine gi h10 (λc4 h10=>?_) λc4 h10=>?_
  .refine sk ?_;(try simp only[zz,c4]);refine bk (ss (rg ?_));obtain⟨x5,f13,f14,f15,h10⟩:=bO h10;(try simp only[zz,f13,f14,f15]);refine ss (rg ?_);obtain⟨x6,a16,h10⟩:=bs h10;obtain⟨f17,f18,f19⟩:=Z1 (e:=da) a16;(try simp only[zz]at f19);(try simp only[zz,f17,f18,f19]);refine ss (rg ?_);obtain⟨x7,f21,f22,h10⟩:=bI h10;(try simp only[zz,f21,f22]);obtain⟨y23,h24,h10⟩:=bs h10;refine lm h24 (λq=>⟨Qd t0::ds 4 (.own 0 0::.own 1 0::ds 22 (sa x7::da (x7.length:Int)::da q.2.2::ds 30 [])),[.live 1 0 (q.1.map za),.live 1 0 (q.2.1.map da)]⟩) (λq=>⟨Qd t0::ds 4 (.own 0 0::.own 1 0::ds 55 []),[.live 1 0 (q.1.map za),.live 1 0 (q.2.map da)]⟩) (tz [ok 0,ov 1 1]) ?_ ?_
   .rintro⟨s8,s9,s10⟩ z25 h26 h27;simp only[Sj]at h26;refine ss (rg ?_);(try simp only[zz]);refine ss (cd rfl ?_);(try simp only[zz]);refine gi h26 (λc11 h26=>?_) λc11 h26=>?_
    .refine sk ?_;(try simp only[zz,c11]);refine jm h26 (λq=>⟨Qd t0::ds 4 (.own 0 0::.own 1 0::ds 22 (sa x7::da (x7.length:Int)::da s10::ds 30 [])),[.live 1 0 (q.1.map za),.live 1 0 (q.2.map da)]⟩) (λz29 h28=>?_) λz29 h28 h26=>?_
     .refine bk (ss (rg ?_));obtain⟨x12,f31,f32,h28⟩:=bI h28;(try simp only[zz,f31,f32]);refine ss (rg ?_);obtain⟨x13,f34,f35,f36,h28⟩:=bO h28;(try simp only[zz,f34,f35,f36]);refine cd rfl ?_;(try simp only[zz,f34,f35,f36]);refine gi h28 (λc14 h28=>?_) λc14 h28=>?_
      .refine ss (rg ?_);obtain⟨x15,a37,h28⟩:=bs h28;obtain⟨f38,f39⟩:=aj3 (e:=za) a37;(try simp only[zz]at f39);(try simp only[zz,f34,f35,f36,f38,f39]);refine rg ?_;obtain⟨x16,a40,h28⟩:=bs h28;obtain⟨f41,f42⟩:=tD (e:=da) a40;(try simp only[zz]at f41 f42);(try simp only[zz,f41,f42]);cases h28;exact tz [ok 0,ov 1 1]
      refine sk ?_;(try simp only[zz,f34,f35,f36,c14]);cases h28;exact tz [ok 0,ok 1]
     obtain⟨j17,j18⟩:=z29;dsimp only at h26;refine rg ?_;(try simp only[zz]);cases h26;exact tz [ok 0,ok 1]
    refine xt ?_;(try simp only[zz,c11]);cases h26;exact tz [ok 0,ok 1]
   rintro⟨b22,b23⟩ rfl;dsimp only at h10;(try simp only[zz]);cases h10;exact tz [ok 0,ok 1]
  refine xt ?_;(try simp only[zz,c4]);cases h10;exact tz [ok 0]
 rintro b26 rfl;dsimp only at h;(try simp only[zz]);refine ss (rg ?_);(try simp only[zz]);refine ss (ss (rg ?_));(try simp only[zz]);obtain⟨y43,h44,h⟩:=bs h;refine lm h44 (λq=>⟨ds 10 (.own 0 0::ds 37 (.own 1 0::da (b26.length:Int)::da q.2::ds 11 [])),[.live 1 0 (q.1.map da),.live 1 0 (b26.map za)]⟩) (λb36=>⟨ds 10 (.own 0 0::ds 51 []),[.live 1 0 (b36.map da)]⟩) (tz [on 1,ok 0]) ?_ ?_
 .rintro⟨s27,s28⟩ z45 h46 h47;simp only[Tj]at h46;refine ss (rg ?_);(try simp only[zz]);refine ss (cd rfl ?_);(try simp only[zz]);refine gi h46 (λc29 h46=>?_) λc29 h46=>?_
  .refine sk ?_;(try simp only[zz,c29]);refine jm h46 (λj33=>⟨ds 10 (.own 0 0::ds 37 (.own 1 0::da (b26.length:Int)::da s28::ds 11 [])),[.live 1 0 (j33.map da),.live 1 0 (b26.map za)]⟩) (λz49 h48=>?_) λj33 h48 h46=>?_
   .refine bk (ss (rg ?_));obtain⟨x30,f51,f52,f53,h48⟩:=bO h48;(try simp only[zz,f51,f52,f53]);refine ss (rg ?_);(try simp only[zz]);refine cd rfl ?_;(try simp only[zz]);refine gi h48 (λc31 h48=>?_) λc31 h48=>?_
    .refine rg ?_;obtain⟨x32,a54,h48⟩:=bs h48;obtain⟨f55,f56⟩:=tD (e:=da) a54;(try simp only[zz]at f55 f56);(try simp only[zz,f55,f56]);cases h48;exact tz [ov 0 1,ok 1]
    refine sk ?_;(try simp only[zz,c31]);cases h48;exact tz [ok 0,ok 1]
   refine rg ?_;(try simp only[zz]);cases h46;exact tz [ok 0,ok 1]
  refine xt ?_;(try simp only[zz,c29]);cases h46;exact tz [ok 0]
 rintro b36 rfl;dsimp only at h;(try simp only[zz]);refine ss (rg ?_);(try simp only[zz]);cases h;exact rt ez
def yL{t1:Int}(h:Wl t0 t1=M r):e? al 271 [Qd t0,da t1] (sa r):=vJ (q9 h)
instance ady{t0 t1 r}:o! (Wl t0 t1=M r) (e? al 271 [Qd t0,da t1] (sa r)):=⟨yL⟩
instance adz:C2 bU2 Ag:=pg (ak (ak bU2.eq_1 Ag.eq_1) ID.eq_1) (.l (EN [33,8,3,10,18,321] [260]) (EN [8,25,8,3,10] [260]) [5] (.z 3 (.j (EN [49,10,9] [2]) (.j (EN [65,120,2,193] [0]) .o (.j (EN [49,8,129] [2]) (.b (.t [256]) .o) .o)) (.t [256]))) (.j (EN [40,9] [2]) (.b (.t [256]) .o) .o))
instance G8:C1 bS9 ug:=pg (ak bS9.eq_1 ug.eq_1) (.z 3 (.j (EN [32,2,441] []) .o .o))
theorem kr{t0}{t1:ek->Option Bool}(hc1:oa q1=true)(hp1:∀ x0 r,t1 x0=M r->e? al k1 ([pf x0]++q1) (za r)){r} (h:qc t0 t1=M r):e? al 350 [cx t0,.fn k1 [] q1] (da r):=by
 haveI I1:∀ x0 r,o! (t1 x0=M r) (e? al k1 ([pf x0]++q1) (za r)):=λx0 r=>⟨hp1 x0 r⟩
 have s1:∀ f:D->D->Prop,YD f q1 q1=True:=λ_=>Yk hc1
 have z1:∀ a b n,JB a b n q1=q1:=λ_ _ _=>mh _ _ _ _ hc1
 refine e?.at 17 bj0.ok bj0.nm (IN (frF hc1 QK)) rfl ?_
 simp only[bj0,Kf.of,zs,ze]
 unfold qc at h
 exact pg Od.eq_1 (.l (EN [33,24,9,2,81] []) (EN [] []) [] .o .o)
instance ET:C2 bP0 Js:=pg (ak (ak bP0.eq_1 Js.eq_1) Vi.eq_1) (.l (EN [33,24,9,2,81] []) (EN [] []) [] .o .o)
theorem VC{t0}(hc1:oa q1=true)(hp1:∀ x0 r,t1 x0=M r->e? al k1 ([Ug x0]++q1) (za r)){r} (h:Gg t0 t1=M r):e? al 361 [Pn t0,.fn k1 [] q1] (.tup [sa r.1,sa r.2]):=by
 haveI I1:∀ x0 r,o! (t1 x0=M r) (e? al k1 ([Ug x0]++q1) (za r)):=λx0 r=>⟨hp1 x0 r⟩
 have s1:∀ f:D->D->Prop,YD f q1 q1=True:=λ_=>Yk hc1
 have z1:∀ a b n,JB a b n q1=q1:=λ_ _ _=>mh _ _ _ _ hc1
 refine e?.at 57 bi5.ok bi5.nm (IN (frF hc1 QK)) rfl ?_
 simp only[bi5,Kf.of,zs,ze]
 unfold Gg at h
 exact pg mg.eq_1 (.l (EN [8,25,16,3,11,33,24,17,26,329] [260,268,18]) (EN [48,3,11] [260,268]) [5,5,0] (.z 2 (.j (EN [8,137] [2,266,530]) (.z 2 (.j (EN [8,81,2,49] [0,8,16,24]) (.j (EN [8,137,96,2,225] [0,8,16,24]) .o .o) (.b (.t [256,260,8]) .o))) .o)) .o)
instance aea{t0 r}:o! (wy t0=M r) (e? al 370 [ZU t0] (za r)):=⟨λh=>by
 refine dk 8 bO1 ?_
 simp only[bO1,Kf.of,zs,ze]
 unfold wy at h
 exact pg trivial (.z 1 (.j (EN [16,2,49] []) .o .o))⟩
instance L9:C3 bN6 Kk:=pg (ak (ak bN6.eq_1 Kk.eq_1) Hm.eq_1) (.l (EN [49,8,2,145] []) (EN [] []) [] (.z 1 (.j (EN [129,2,73] []) .o .o)) .o)
theorem Mt{t0}(hc1:oa q1=true)(hp1:∀ x0 r,t1 x0=M r->e? al k1 ([Ug x0]++q1) (za r)){r} (h:Sc t0 t1=M r):e? al 392 [Pn t0,.fn k1 [] q1] (da r):=by
 haveI I1:∀ x0 r,o! (t1 x0=M r) (e? al k1 ([Ug x0]++q1) (za r)):=λx0 r=>⟨hp1 x0 r⟩
 have s1:∀ f:D->D->Prop,YD f q1 q1=True:=λ_=>Yk hc1
 have z1:∀ a b n,JB a b n q1=q1:=λ_ _ _=>mh _ _ _ _ hc1
 refine e?.at 17 bi3.ok bi3.nm (IN (frF hc1 QK)) rfl ?_
 simp only[bi3,Kf.of,zs,ze]
 unfold Sc at h
 exact pg De.eq_1 (.l (EN [33,24,9,2,81] []) (EN [] []) [] .o .o)
instance Q7:C1 bK8 Tb:=pg (ak bK8.eq_1 Tb.eq_1) (.z 2 (.j (EN [8,9,64,2,577] [0]) .o (.b .o (.b (.j (EN [16,2,57] []) .o .o) (.b (.j (EN [16,2,57] []) .o .o) (.b (.j (EN [16,2,57] []) .o .o) (.b (.j (EN [16,2,57] []) .o .o) (.b (.j (EN [16,2,57] []) .o .o) (.b (.j (EN [16,2,57] []) .o .o) .o)))))))))
instance aeb{t0 r}:o! (bB t0=M r) (e? al 404 [ZU t0] (za r)):=⟨λh=>by
 refine dk 8 bK7 ?_
 simp only[bK7,Kf.of,zs,ze]
 unfold bB at h
 exact pg trivial (.z 1 (.j (EN [16,2,49] []) .o .o))⟩
instance aec:C1 bK0 Wo:=pg (ak bK0.eq_1 Wo.eq_1) (.z 2 (.j (EN [17,112,2,129] []) .o (.z 2 (.j (EN [129,8,9,2,113] []) .o (.z 2 (.j (EN [256,2] []) .o .o))))))
instance aed:C2 bI3 je:=pg (ak bI3.eq_1 je.eq_1) (.z 1 (.j (EN [32,2,97] []) .o .o))
instance I9:C2 bH6 js:=pg (ak (ak bH6.eq_1 js.eq_1) ym.eq_1) (.l (EN [33,8,9,10] [2]) (EN [40,9] [2]) [] (.z 2 (.j (EN [65] [2]) (.b (.t [256]) .o) .o)) .o)
instance aee:C1 bH4 ru:=pg (ak bH4.eq_1 ru.eq_1) (.z 2 (.j (EN [17,112,2,145] []) .o (.b .o (.j (EN [16,2,105] []) .o .o))))
instance aef:C1 bF3 Oj:=pg (ak bF3.eq_1 Oj.eq_1) (.z 1 (.j (EN [16,2,81] []) .o .o))
instance aeg:C1 bE4 Gq:=pg (ak bE4.eq_1 Gq.eq_1) (.z 2 (.j (EN [17,112,2,145] []) .o (.b .o (.j (EN [16,2,105] []) .o .o))))
instance aeh:C2 bE2 Kc:=pg (ak bE2.eq_1 Kc.eq_1) (.b (.j (EN [32,2] []) .o .o) (.b (.j (EN [32,2] []) .o .o) (.b (.j (EN [32,2] []) .o .o) (.b (.j (EN [32,2] []) .o .o) (.b .o (.b .o (.j (EN [16,17,632,2,153] [0,8]) .o (.b (.j (EN [32,2,625] []) .o .o) .o))))))))
instance aei:C1 bD8 Vo:=pg (ak bD8.eq_1 Vo.eq_1) (.z 1 (.j (EN [16,2,49] []) .o .o))
instance aej:C1 k73 Bz:=pg (ak (ak k73.eq_1 Bz.eq_1) JD.eq_1) (.l (EN [17,16,2,10,18,177] []) (EN [32,2,10] []) [] .o .o)
instance u9:C3 k97 zk:=pg (ak k97.eq_1 zk.eq_1) (.z 6 (.j (EN [49,112,2,145] []) .o .o))
instance aek{t0 r}:o! (Vp t0=M r) (e? al 111 [Ha t0] (.tup [da r.1,da r.2])):=⟨λh=>by
 refine dk 82 cf6 ?_
 simp only[cf6,Kf.of,zs,ze]
 unfold Vp at h
 have q1:∀ (m:List Ent) (o:Option Int),XK false (.v (.int .i64 0)) m (o.map da)=M (.v (.int .i64 (o.getD 0)),m):=λ_ o=>by cases o <;> rfl
 have q2:∀ (k:Int) (x:Int) l,Ry (.int .i64 k) (.v (.int .i64 x)) (em da l)=em da (xX k x l):=λ_ _ _=>dZ (e:=da)
 have q3:=λl=>KY (e:=da) (l:=l)
 exact pg wk.eq_1 (.l (EN [17,16,25,32,17,10,553] [5]) (EN [] []) [] (.z 5 (.j (EN [113,32,2,513] [0,8]) (.j (EN [113,32,2,513] [0,8]) .o (.j (EN [145,2,513] [0,8]) .o .o)) (.b .o (.j (EN [145,208,2,305] [0,8]) .o (.b .o (.j (EN [353,80,2,225] [0,8]) .o .o)))))) .o)⟩
instance kY:C2 ce4 re:=pg (ak ce4.eq_1 re.eq_1) (.z 2 (.j (EN [33,48,2,81] []) .o (.z 1 (.j (EN [8,73,48,2,33] []) .o .o))))
instance ael:C1 ce1 Rh:=pg (ak (ak ce1.eq_1 Rh.eq_1) Fc.eq_1) (.z 2 (.j (EN [8,9,128,2,209] [0]) .o (.l (EN [8,137,16,17,2,177] [0]) (EN [] []) [] (.z 4 (.j (EN [8,17,136,25,160,2,9] [0]) .o .o)) .o)))
instance aem:C4 ca6 HF:=pg (ak (ak ca6.eq_1 HF.eq_1) xz.eq_1) (.l ⟨[.k 8,.p 3,.i 1],[.o 2,.h 3 [.g [.p 4,.s (.own 2 0),.p 1]],.ni 2 0,.o 4]⟩ ⟨[.k 8,.p 2],[.o 2,.h 3 [.g [.p 4,.s (.own 2 0),.p 1]],.ni 2 0]⟩ [8,12,9,16] (.b (.t [0,4,264,12]) .o) .o)
theorem Jp{t0}{t1:ek->Option Bool}(hc1:oa q1=true)(hp1:∀ x0 r,t1 x0=M r->e? al k1 ([pf x0]++q1) (za r)){r} (h:gb t0 t1=M r):e? al 313 [cx t0,.fn k1 [] q1] (za r):=by
 haveI I1:∀ x0 r,o! (t1 x0=M r) (e? al k1 ([pf x0]++q1) (za r)):=λx0 r=>⟨hp1 x0 r⟩
 have s1:∀ f:D->D->Prop,YD f q1 q1=True:=λ_=>Yk hc1
 have z1:∀ a b n,JB a b n q1=q1:=λ_ _ _=>mh _ _ _ _ hc1
 haveI:∀ y0 r,o! (qc y0 t1=M r) (e? al 350 [cx y0,.fn k1 [] q1] (da r)):=λy0 r=>⟨kr hc1 hp1⟩
 refine e?.at 7 bj7.ok bj7.nm (IN (frF hc1 QK)) rfl ?_
 simp only[bj7,Kf.of,zs,ze]
 unfold gb at h
 exact pg trivial .o
instance CP:C2 bR7 bg:=pg (ak bR7.eq_1 bg.eq_1) .o
theorem Pq{t0}(hc1:oa q1=true)(hp1:∀ x0 r,t1 x0=M r->e? al k1 ([Ug x0]++q1) (za r)){r} (h:vb t0 t1=M r):e? al 354 [Pn t0,.fn k1 [] q1] (za r):=by
 haveI I1:∀ x0 r,o! (t1 x0=M r) (e? al k1 ([Ug x0]++q1) (za r)):=λx0 r=>⟨hp1 x0 r⟩
 have s1:∀ f:D->D->Prop,YD f q1 q1=True:=λ_=>Yk hc1
 have z1:∀ a b n,JB a b n q1=q1:=λ_ _ _=>mh _ _ _ _ hc1
 haveI:∀ y0 r,o! (Sc y0 t1=M r) (e? al 392 [Pn y0,.fn k1 [] q1] (da r)):=λy0 r=>⟨Mt hc1 hp1⟩
 refine e?.at 7 bi8.ok bi8.nm (IN (frF hc1 QK)) rfl ?_
 simp only[bi8,Kf.of,zs,ze]
 unfold vb at h
 exact pg trivial .o
instance Z2:C1 bP2 Up:=pg (ak (ak bP2.eq_1 Up.eq_1) uk.eq_1) (.z 2 (.j (EN [17,64,2,129] []) .o (.l (EN [81,16,9,2,105] []) (EN [] []) [] (.z 4 (.j (EN [25,72,17,88,2,9] []) .o .o)) .o)))
instance aen{t0 r}:o! (fA t0=M r) (e? al 371 [ZU t0] (za r)):=⟨λh=>by
 refine dk 12 bO0 ?_
 simp only[bO0,Kf.of,zs,ze]
 unfold fA at h
 exact pg trivial (.z 1 (.j (EN [16,2,81] []) .o .o))⟩
theorem eG{t0 t1 t2 t3 r} [∀ t0 t1 t2 t3 r,o! (R382 t0 t1 t2 t3=M r) (e? al 382 [sa t0,sa t1,Bc t2,da t3] (da r))] [∀ t0 t1 t2 t3 r,o! (R409 t0 t1 t2 t3=M r) (e? al 409 [sa t0,sa t1,Bc t2,da t3] (sa r))] [∀ t0 t1 t2 t3 r,o! (R410 t0 t1 t2 t3=M r) (e? al 410 [sa t0,sa t1,Bc t2,da t3] (da r))] (h:xo R382 R409 R410 t0 t1 t2 t3=M r):e? al 382 [sa t0,sa t1,Bc t2,da t3] (da r):=by
 refine dk 24 bM9 ?_
 simp only[bM9,Kf.of,zs,ze]
 unfold xo at h
 exact pg trivial .o
theorem UL{t0 t1 t2 t3 r} [∀ t0 t1 t2 t3 r,o! (R382 t0 t1 t2 t3=M r) (e? al 382 [sa t0,sa t1,Bc t2,da t3] (da r))] [∀ t0 t1 t2 t3 r,o! (R409 t0 t1 t2 t3=M r) (e? al 409 [sa t0,sa t1,Bc t2,da t3] (sa r))] [∀ t0 t1 t2 t3 r,o! (R410 t0 t1 t2 t3=M r) (e? al 410 [sa t0,sa t1,Bc t2,da t3] (da r))] (h:mw R382 R409 R410 t0 t1 t2 t3=M r):e? al 409 [sa t0,sa t1,Bc t2,da t3] (sa r):=by
 refine dk 74 bK2 ?_
 simp only[bK2,Kf.of,zs,ze]
 unfold mw at h
 exact pg Rx.eq_1 (.l (EN [25,48,17,10] [2]) (EN [80,9] [2]) [] (.z 2 (.j (EN [129] [2]) (.z 2 (.j (EN [129] [2]) (.j (EN [129,264,2,225] [0]) .o (.b (.t [4]) .o)) (.j (EN [553,2,65] [0]) .o (.b (.t [256]) .o)))) .o)) .o)
theorem kH{t0 t1 t2 t3 r} [∀ t0 t1 t2 t3 r,o! (R382 t0 t1 t2 t3=M r) (e? al 382 [sa t0,sa t1,Bc t2,da t3] (da r))] [∀ t0 t1 t2 t3 r,o! (R409 t0 t1 t2 t3=M r) (e? al 409 [sa t0,sa t1,Bc t2,da t3] (sa r))] [∀ t0 t1 t2 t3 r,o! (R410 t0 t1 t2 t3=M r) (e? al 410 [sa t0,sa t1,Bc t2,da t3] (da r))] (h:kq R382 R409 R410 t0 t1 t2 t3=M r):e? al 410 [sa t0,sa t1,Bc t2,da t3] (da r):=by
 refine dk 21 bK1 ?_
 simp only[bK1,Kf.of,zs,ze]
 unfold kq at h
 exact pg trivial (.z 3 (.j (EN [24,41,8,9,96,2,17] []) .o .o))
def yn:∀n,(∀ t0 t1 t2 t3 r,(ja n).1 t0 t1 t2 t3=M r->e? al 382 [sa t0,sa t1,Bc t2,da t3] (da r))/\(∀ t0 t1 t2 t3 r,(ja n).2.1 t0 t1 t2 t3=M r->e? al 409 [sa t0,sa t1,Bc t2,da t3] (sa r))/\(∀ t0 t1 t2 t3 r,(ja n).2.2 t0 t1 t2 t3=M r->e? al 410 [sa t0,sa t1,Bc t2,da t3] (da r))
|0=>⟨λ_ _ _ _ _ h=>(nomatch h),λ_ _ _ _ _ h=>(nomatch h),λ_ _ _ _ _ h=>(nomatch h)⟩
|n+1=>by
 obtain⟨H0,H1,H2⟩:=yn n
 haveI I0:∀ t0 t1 t2 t3 r,o! ((ja n).1 t0 t1 t2 t3=M r) (e? al 382 [sa t0,sa t1,Bc t2,da t3] (da r)):=λt0 t1 t2 t3 r=>⟨H0 t0 t1 t2 t3 r⟩
 haveI I1:∀ t0 t1 t2 t3 r,o! ((ja n).2.1 t0 t1 t2 t3=M r) (e? al 409 [sa t0,sa t1,Bc t2,da t3] (sa r)):=λt0 t1 t2 t3 r=>⟨H1 t0 t1 t2 t3 r⟩
 haveI I2:∀ t0 t1 t2 t3 r,o! ((ja n).2.2 t0 t1 t2 t3=M r) (e? al 410 [sa t0,sa t1,Bc t2,da t3] (da r)):=λt0 t1 t2 t3 r=>⟨H2 t0 t1 t2 t3 r⟩
 exact⟨λt0 t1 t2 t3 r h=>eG (R382:=(ja n).1) (R409:=(ja n).2.1) (R410:=(ja n).2.2) h,λt0 t1 t2 t3 r h=>UL (R382:=(ja n).1) (R409:=(ja n).2.1) (R410:=(ja n).2.2) h,λt0 t1 t2 t3 r h=>kH (R382:=(ja n).1) (R409:=(ja n).2.1) (R410:=(ja n).2.2) h⟩
def AI{t0 t1 t2 t3 r} (h:nw t0 t1 t2 t3=M r):e? al 382 [sa t0,sa t1,Bc t2,da t3] (da r):=(yn cg).1 _ _ _ _ _ h
instance aeo{t0 t1 t2 t3 r}:o! (nw t0 t1 t2 t3=M r) (e? al 382 [sa t0,sa t1,Bc t2,da t3] (da r)):=⟨AI⟩
def oQ{t0 t1 t2 t3 r} (h:HO t0 t1 t2 t3=M r):e? al 409 [sa t0,sa t1,Bc t2,da t3] (sa r):=(yn cg).2.1 _ _ _ _ _ h
instance aep{t0 t1 t2 t3 r}:o! (HO t0 t1 t2 t3=M r) (e? al 409 [sa t0,sa t1,Bc t2,da t3] (sa r)):=⟨oQ⟩
def iK{t0 t1 t2 t3 r} (h:DG t0 t1 t2 t3=M r):e? al 410 [sa t0,sa t1,Bc t2,da t3] (da r):=(yn cg).2.2 _ _ _ _ _ h
instance aeq{t0 t1 t2 t3 r}:o! (DG t0 t1 t2 t3=M r) (e? al 410 [sa t0,sa t1,Bc t2,da t3] (da r)):=⟨iK⟩
instance J4:C1 bM8 ij:=pg (ak (ak bM8.eq_1 ij.eq_1) Ek.eq_1) (.l (EN [17,24,3,11,18,17] [260,268]) (EN [17,24,3,11] [260,268]) [5,5] (.z 9 (.j (EN [65,8,10,49] [0,258]) (.b (.t [0,260]) .o) (.b .o (.t [256,260])))) .o)
instance aer:C4 bL9 Xv:=pg (ak bL9.eq_1 Xv.eq_1) (.z 6 (.j (EN [65,176,2,385] []) .o (.z 2 (.j (EN [241,128,2,257] []) .o .o))))
instance uX:C1 bL1 qg:=pg (ak (ak bL1.eq_1 qg.eq_1) Jc.eq_1) (.l (EN [40,17,2,57] []) (EN [] []) [] .o .o)
instance aes:C2 bJ8 gw:=pg (ak bJ8.eq_1 gw.eq_1) (.z 2 (.j (EN [16,17,128,2,241] [0]) .o (.z 2 (.j (EN [16,145,16,9,2,217] [0]) .o (.b (.j (EN [32,2,137] []) .o .o) (.b (.j (EN [32,2,137] []) .o .o) .o))))))
instance aet:C2 bI7 Ys:=pg (ak bI7.eq_1 Ys.eq_1) (.z 1 (.j (EN [32,2,129] []) .o .o))
instance lV:C2 bI6 Oc:=pg (ak bI6.eq_1 Oc.eq_1) (.b .o (.b (.j (EN [32,2] []) .o .o) (.b (.j (EN [32,2] []) .o .o) .o)))
instance vX:C2 bI5 Na:=pg (ak bI5.eq_1 Na.eq_1) .o
instance kV:C3 bI4 Aa:=pg (ak bI4.eq_1 Aa.eq_1) (.z 3 (.j (EN [32,17,8,9,2,1001] [0,8]) .o (.b (.j (EN [48,2] []) .o .o) (.b (.j (EN [48,2] []) .o .o) (.b (.j (EN [48,2] []) .o .o) (.b (.z 2 (.j (EN [48,2] []) .o .o)) (.b (.j (EN [48,2] []) .o .o) (.j (EN [32,33,576,2,425] [0,8]) .o (.b (.j (EN [48,2] []) .o .o) (.j (EN [32,609,144,2,281] [0,8]) .o (.b .o (.j (EN [32,753,48,2,233] [0,8]) .o (.b (.j (EN [48,2] []) .o .o) (.j (EN [32,25,864,2,145] [0,8]) .o (.j (EN [48,2,865] []) .o .o)))))))))))))))
instance aeu:C3 bD5 ou:=pg (ak (ak bD5.eq_1 ou.eq_1) (ak so.eq_1 uo.eq_1)) (.l (EN [2,10,33] []) (EN [2,10,33] []) [] .o (.l (EN [2,10,265] []) (EN [2,10,265] []) [] .o .o))
instance aev:C3 bD1 ku:=pg (ak bD1.eq_1 ku.eq_1) (.z 6 (.j (EN [49,112,2,145] []) .o .o))
end Go.Proofs.Dev
