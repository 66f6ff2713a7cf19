/-
  Contracts of the functions: each answers as its plain partial function says.
-/
import Derived.Test.YtjjfnbpfgfopbaaGreatDoorK
import Derived.Test.YtjjfnbpfgfopbaaGreatDoorG
import Derived.Test.YtjjfnbpfgfopbaaGreatDoorPE
import Derived.Test.YtjjfnbpfgfopbaaGreatDoorH1
import Derived.Test.YtjjfnbpfgfopbaaGreatDoorH2
import Derived.Test.YtjjfnbpfgfopbaaGreatDoorL1
set_option linter.all false
set_option maxHeartbeats 1000000
set_option maxRecDepth 10000
namespace Go.Proofs.Dev
open Go Go.Tm
variable {t1:GTable->Option Bool}{k1:Nat}{q1:List D}{t0:(List (List Int))}{r:List Int}
instance Q6:C2 k10 js:=pg (And.intro k10.eq_1 js.eq_1) (.z 1 (.j 1 (EN [32,2,121] []) .o .o))
instance tR:C1 k15 Df:=pg (And.intro k15.eq_1 Df.eq_1) .o
instance wL:C1 k17 ib:=pg (And.intro (And.intro k17.eq_1 ib.eq_1) (And.intro qf.eq_1 rf.eq_1)) (.l 2 1 (EN [24,65,8,17,10,401] [2]) (EN [24,65] [2]) [] (.z 2 (.j 1 (EN [24,97] [2]) (.z 2 (.j 1 (EN [24,97,80,2,313] [0,8]) .o .o)) .o)) (.l 3 1 (EN [24,41,11,10,305,18,129] [0,260]) (EN [64,3] [260]) [0,5] (.b (.j 2 (EN [24,49,10,313] [0,258]) (.b (.t [0,260]) .o) .o) (.t [4])) .o))
theorem ux{t0 r} (h:ib t0=some r):Zo Tryz.prog 17 [.own 0 0] [(7,t0.map Wd)] (Xa r):=by
 refine Zo.of 64 k17 ?_ (by simp[Fr.l])
 simp only[k17,Kf.of,zs,ze,Ss,List.map_cons,List.map_nil,List.length_cons,List.length_nil,Nat.reduceAdd]
 unfold ib at h
 exact pg (And.intro qf.eq_1 rf.eq_1) (.l 2 1 (EN [24,65,8,17,10,401] [1,258]) (EN [24,65] [1,258]) [] (.z 2 (.j 1 (EN [24,97] [1,258]) (.z 2 (.j 1 (EN [24,97,80,2,313] [1,8,16]) .o .o)) .o)) (.l 3 1 (EN [24,41,19,10,305,18,129] [1,8,260]) (EN [64,11] [1,260]) [0,4,5] (.b (.j 2 (EN [24,49,10,313] [1,8,514]) (.b (.t [0,4,264]) .o) .o) (.t [0,8])) .o))
instance zI17{t0 r}:Con2 (ib t0=some r) (Zo Tryz.prog 17 [.own 0 0] [(7,t0.map Wd)] (Xa r)):=⟨ux⟩
instance xL:C1 k29 wb:=pg (And.intro k29.eq_1 wb.eq_1) .o
instance uS:C2 k33 Il:=pg (And.intro (And.intro k33.eq_1 Il.eq_1) (And.intro fh.eq_1 dh.eq_1)) (.l 1 0 (EN [33,8,2,265] []) (EN [33] []) [] (.l 2 1 (EN [49,2,10] []) (EN [49,2] []) [] (.z 2 (.j 1 (EN [49,2,57] []) .o .o)) .o) .o)
instance S3:C2 k54 rq:=pg (And.intro (And.intro k54.eq_1 rq.eq_1) Nl.eq_1) (.l 1 0 (EN [33,8,2] []) (EN [] []) [] (.z 1 (.j 1 (EN [161,2,89] []) .o .o)) .o)
instance pL:C1 k59 Jb:=pg (And.intro k59.eq_1 Jb.eq_1) .o
instance jT:C1 k67 Wg:=pg (And.intro (And.intro k67.eq_1 Wg.eq_1) (And.intro ji.eq_1 (And.intro ki.eq_1 oi.eq_1))) (.z 2 (.j 1 (EN [8,9,208,2,513] [0]) .o (.l 1 0 (EN [8,17,2,193] [0]) (EN [8,17] [0]) [] .o (.l 1 0 (EN [8,25,2,705] [0]) (EN [8,25] [0]) [] .o (.l 1 0 (EN [8,33,2,697] [0]) (EN [] []) [] (.z 4 (.j 1 (EN [8,41,688,2] [0]) .o .o)) .o)))))
theorem oh{t0}{t1:GMonthBalance->Option Bool}(hc1:fa q1=true)(hp1:∀ x0 r,t1 x0=some r->Den Tryz.prog k1 ([eb x0]++q1) (sa r)){r} (h:ua t0 t1=some r):Den Tryz.prog 87 [Ya t0,.fn k1 [] q1] (ca r):=by
 haveI I1:∀ x0 r,Con (t1 x0=some r) (Den Tryz.prog k1 ([eb x0]++q1) (sa r)):=λx0 r=>⟨hp1 x0 r⟩
 have s1:∀ f:D->D->Prop,gx f q1 q1=True:=λ_=>ph hc1
 have z1:∀ a b n,yv a b n q1=q1:=λ_ _ _=>pf _ _ _ _ hc1
 refine Den.at 17 k87.ok k87.nm (bE (nV hc1 YB)) rfl ?_
 simp only[k87,Kf.of,zs,ze]
 unfold ua at h
 exact pg jb.eq_1 (.l 1 0 (EN [33,24,9,2,81] []) (EN [] []) [] .o .o)
instance HT:C2 k111 vc:=pg (And.intro k111.eq_1 vc.eq_1) (.z 3 (.j 1 (EN [8,25,16,9,2,161] [0]) .o (.b .o (.b (.j 1 (EN [32,2,9] []) .o .o) .o))))
instance XO:C2 k115 Tj:=pg (And.intro k115.eq_1 Tj.eq_1) (.b (.j 1 (EN [32,2] []) .o .o) (.b (.j 1 (EN [32,2] []) .o .o) .o))
instance RF:C1 k140 xc:=pg (And.intro k140.eq_1 xc.eq_1) (.z 1 (.j 1 (EN [16,2,49] []) .o .o))
instance PQ:C1 k149 Jh:=pg (And.intro k149.eq_1 Jh.eq_1) .o
instance zI178{t0 r}:Con (Jo t0=some r) (Den Tryz.prog 178 [fZ t0] (sa r)):=⟨λh=>by
 refine dk 8 k178 ?_
 simp only[k178,Kf.of,zs,ze]
 unfold Jo at h
 exact pg trivial (.z 1 (.j 1 (EN [16,2,49] []) .o .o))⟩
instance IV:C1 k180 di:=pg (And.intro k180.eq_1 di.eq_1) (.z 3 (.j 1 (EN [32,2,441] []) .o .o))
theorem du{t0 t1 r} (h:Ff t0 t1=some r):Den Tryz.prog 184 [Zg t0,Br t1] (sa r):=by
 refine dk 6 k184 ?_
 simp only[k184,Kf.of,zs,ze]
 unfold Ff at h
 exact pg trivial .o
instance zI184{t0 t1 r}:Con (Ff t0 t1=some r) (Den Tryz.prog 184 [Zg t0,Br t1] (sa r)):=⟨du⟩
theorem Cs{t0 t1 r} (h:Nd t0 t1=some r):Den Tryz.prog 186 [ee t0,Vq t1] (sa r):=by
 refine dk 7 k186 ?_
 simp only[k186,Kf.of,zs,ze]
 unfold Nd at h
 exact pg trivial .o
instance zI186{t0 t1 r}:Con (Nd t0 t1=some r) (Den Tryz.prog 186 [ee t0,Vq t1] (sa r)):=⟨Cs⟩
instance A9:C2 k194 au:=pg (And.intro k194.eq_1 au.eq_1) .o
theorem tC{t1:Int}(h:Ar t0 t1=some r):Den Tryz.prog 197 [Oc t0,ca t1] (Xa r):=by
 refine dk 60 k197 ?_;simp only[k197,Kf.of,zs,ze];unfold Ar at h;refine ss (rg ?_);(try simp only[zz]);refine ss (rg ?_);obtain⟨x1,a1,h⟩:=bs h;obtain⟨f2,f3,f4,f5,f6⟩:=jN (e:=sa) a1;(try simp only[zz]at f5 f6);(try simp only[zz,f2,f3,f4,f5,f6]);refine ss (rg ?_);(try simp only[zz]);refine ss ?_;obtain⟨y7,h8,h⟩:=bs h;refine lm h8 (λq=>⟨Oc t0::ds 4 (.own 0 0::.own 1 0::ds 55 []),[.live 1 0 (q.1.map sa),.live 1 0 (q.2.map ca)]⟩) (λb26=>⟨ds 5 (.own 0 0::ds 56 []),[.live 1 0 (b26.map sa)]⟩) (tz [ok 0,ok 1]) ?_ ?_
 .rintro⟨s2,s3⟩ z9 h10 h11;simp only[Xf]at h10;refine ss (ss (rg ?_));(try simp only[zz]);refine cd rfl ?_;(try simp only[zz]);refine gi h10 (λc4 h10=>?_) λc4 h10=>?_
  .refine sk ?_;(try simp only[zz,c4]);refine bk (ss (rg ?_));obtain⟨x5,f13,f14,f15,h10⟩:=bO h10;(try simp only[zz,f13,f14,f15]);refine ss (rg ?_);obtain⟨x6,a16,h10⟩:=bs h10;obtain⟨f17,f18,f19⟩:=ZR (e:=ca) a16;(try simp only[zz]at f19);(try simp only[zz,f17,f18,f19]);refine ss (rg ?_);obtain⟨x7,f21,f22,h10⟩:=bI h10;(try simp only[zz,f21,f22]);obtain⟨y23,h24,h10⟩:=bs h10;refine lm h24 (λq=>⟨Oc t0::ds 4 (.own 0 0::.own 1 0::ds 22 (Xa x7::ca (x7.length:Int)::ca q.2.2::ds 30 [])),[.live 1 0 (q.1.map sa),.live 1 0 (q.2.1.map ca)]⟩) (λq=>⟨Oc t0::ds 4 (.own 0 0::.own 1 0::ds 55 []),[.live 1 0 (q.1.map sa),.live 1 0 (q.2.map ca)]⟩) (tz [ok 0,ov 1 1]) ?_ ?_
   .rintro⟨s8,s9,s10⟩ z25 h26 h27;simp only[Bh]at h26;refine ss (rg ?_);(try simp only[zz]);refine ss (cd rfl ?_);(try simp only[zz]);refine gi h26 (λc11 h26=>?_) λc11 h26=>?_
    .refine sk ?_;(try simp only[zz,c11]);refine jm h26 (λq=>⟨Oc t0::ds 4 (.own 0 0::.own 1 0::ds 22 (Xa x7::ca (x7.length:Int)::ca s10::ds 30 [])),[.live 1 0 (q.1.map sa),.live 1 0 (q.2.map ca)]⟩) (λz29 h28=>?_) λz29 h28 h26=>?_
     .refine bk (ss (rg ?_));obtain⟨x12,f31,f32,h28⟩:=bI h28;(try simp only[zz,f31,f32]);refine ss (rg ?_);obtain⟨x13,f34,f35,f36,h28⟩:=bO h28;(try simp only[zz,f34,f35,f36]);refine cd rfl ?_;(try simp only[zz,f34,f35,f36]);refine gi h28 (λc14 h28=>?_) λc14 h28=>?_
      .refine ss (rg ?_);obtain⟨x15,a37,h28⟩:=bs h28;obtain⟨f38,f39⟩:=F2 (e:=sa) a37;(try simp only[zz]at f39);(try simp only[zz,f34,f35,f36,f38,f39]);refine rg ?_;obtain⟨x16,a40,h28⟩:=bs h28;obtain⟨f41,f42⟩:=Rw (e:=ca) a40;(try simp only[zz]at f41 f42);(try simp only[zz,f41,f42]);cases h28;exact tz [ok 0,ov 1 1]
      refine sk ?_;(try simp only[zz,f34,f35,f36,c14]);cases h28;exact tz [ok 0,ok 1]
     obtain⟨j17,j18⟩:=z29;dsimp only at h26;refine rg ?_;(try simp only[zz]);cases h26;exact tz [ok 0,ok 1]
    refine xt ?_;(try simp only[zz,c11]);cases h26;exact tz [ok 0,ok 1]
   rintro⟨b22,b23⟩ rfl;dsimp only at h10;(try simp only[zz]);cases h10;exact tz [ok 0,ok 1]
  refine xt ?_;(try simp only[zz,c4]);cases h10;exact tz [ok 0]
 rintro b26 rfl;dsimp only at h;(try simp only[zz]);refine ss (rg ?_);(try simp only[zz]);refine ss (ss (rg ?_));(try simp only[zz]);obtain⟨y43,h44,h⟩:=bs h;refine lm h44 (λq=>⟨ds 10 (.own 0 0::ds 37 (.own 1 0::ca (b26.length:Int)::ca q.2::ds 11 [])),[.live 1 0 (q.1.map ca),.live 1 0 (b26.map sa)]⟩) (λb36=>⟨ds 10 (.own 0 0::ds 51 []),[.live 1 0 (b36.map ca)]⟩) (tz [on 1,ok 0]) ?_ ?_
 .rintro⟨s27,s28⟩ z45 h46 h47;simp only[Ch]at h46;refine ss (rg ?_);(try simp only[zz]);refine ss (cd rfl ?_);(try simp only[zz]);refine gi h46 (λc29 h46=>?_) λc29 h46=>?_
  .refine sk ?_;(try simp only[zz,c29]);refine jm h46 (λj33=>⟨ds 10 (.own 0 0::ds 37 (.own 1 0::ca (b26.length:Int)::ca s28::ds 11 [])),[.live 1 0 (j33.map ca),.live 1 0 (b26.map sa)]⟩) (λz49 h48=>?_) λj33 h48 h46=>?_
   .refine bk (ss (rg ?_));obtain⟨x30,f51,f52,f53,h48⟩:=bO h48;(try simp only[zz,f51,f52,f53]);refine ss (rg ?_);(try simp only[zz]);refine cd rfl ?_;(try simp only[zz]);refine gi h48 (λc31 h48=>?_) λc31 h48=>?_
    .refine rg ?_;obtain⟨x32,a54,h48⟩:=bs h48;obtain⟨f55,f56⟩:=Rw (e:=ca) a54;(try simp only[zz]at f55 f56);(try simp only[zz,f55,f56]);cases h48;exact tz [ov 0 1,ok 1]
    refine sk ?_;(try simp only[zz,c31]);cases h48;exact tz [ok 0,ok 1]
   refine rg ?_;(try simp only[zz]);cases h46;exact tz [ok 0,ok 1]
  refine xt ?_;(try simp only[zz,c29]);cases h46;exact tz [ok 0]
 rintro b36 rfl;dsimp only at h;(try simp only[zz]);refine ss (rg ?_);(try simp only[zz]);cases h;exact rt ez
theorem YD{t1:Int}(h:Ti t0 t1=some r):Den Tryz.prog 197 [Oc t0,ca t1] (Xa r):=tC (oW h)
instance zI197{t0 t1 r}:Con (Ti t0 t1=some r) (Den Tryz.prog 197 [Oc t0,ca t1] (Xa r)):=⟨YD⟩
instance zI206{t0 r}:Con (Er t0=some r) (Den Tryz.prog 206 [fZ t0] (sa r)):=⟨λh=>by
 refine dk 8 k206 ?_
 simp only[k206,Kf.of,zs,ze]
 unfold Er at h
 exact pg trivial (.z 1 (.j 1 (EN [16,2,49] []) .o .o))⟩
theorem Gm{t0}(hc1:fa q1=true)(hp1:∀ x0 r,t1 x0=some r->Den Tryz.prog k1 ([Zg x0]++q1) (sa r)){r} (h:Mb t0 t1=some r):Den Tryz.prog 208 [Yq t0,.fn k1 [] q1] (ca r):=by
 haveI I1:∀ x0 r,Con (t1 x0=some r) (Den Tryz.prog k1 ([Zg x0]++q1) (sa r)):=λx0 r=>⟨hp1 x0 r⟩
 have s1:∀ f:D->D->Prop,gx f q1 q1=True:=λ_=>ph hc1
 have z1:∀ a b n,yv a b n q1=q1:=λ_ _ _=>pf _ _ _ _ hc1
 refine Den.at 17 k208.ok k208.nm (bE (nV hc1 YB)) rfl ?_
 simp only[k208,Kf.of,zs,ze]
 unfold Mb at h
 exact pg Mc.eq_1 (.l 1 0 (EN [33,24,9,2,81] []) (EN [] []) [] .o .o)
theorem As{t0 t1 r} (h:Ic t0 t1=some r):Den Tryz.prog 210 [Zd t0,Uq t1] (sa r):=by
 refine dk 7 k210 ?_
 simp only[k210,Kf.of,zs,ze]
 unfold Ic at h
 exact pg trivial .o
instance zI210{t0 t1 r}:Con (Ic t0 t1=some r) (Den Tryz.prog 210 [Zd t0,Uq t1] (sa r)):=⟨As⟩
instance GV:C1 k212 Yh:=pg (And.intro (And.intro k212.eq_1 Yh.eq_1) kj.eq_1) (.l 2 1 (EN [24,3,33,10,81] [516]) (EN [24,3,17] [516]) [9] (.b (.t [256]) .o) .o)
instance YK:C2 k217 sn:=pg (And.intro (And.intro k217.eq_1 sn.eq_1) Ng.eq_1) (.l 1 0 (EN [33,24,9,2,81] []) (EN [] []) [] .o .o)
theorem Em{t0}{t1:GField->Option Bool}(hc1:fa q1=true)(hp1:∀ x0 r,t1 x0=some r->Den Tryz.prog k1 ([Zd x0]++q1) (sa r)){r} (h:Kb t0 t1=some r):Den Tryz.prog 228 [Wq t0,.fn k1 [] q1] (ca r):=by
 haveI I1:∀ x0 r,Con (t1 x0=some r) (Den Tryz.prog k1 ([Zd x0]++q1) (sa r)):=λx0 r=>⟨hp1 x0 r⟩
 have s1:∀ f:D->D->Prop,gx f q1 q1=True:=λ_=>ph hc1
 have z1:∀ a b n,yv a b n q1=q1:=λ_ _ _=>pf _ _ _ _ hc1
 refine Den.at 17 k228.ok k228.nm (bE (nV hc1 YB)) rfl ?_
 simp only[k228,Kf.of,zs,ze]
 unfold Kb at h
 exact pg Kc.eq_1 (.l 1 0 (EN [33,24,9,2,81] []) (EN [] []) [] .o .o)
instance J8:C1 k248 Rk:=pg (And.intro k248.eq_1 Rk.eq_1) (.z 1 (.j 1 (EN [16,2,49] []) .o .o))
instance kV:C1 k263 ck:=pg (And.intro k263.eq_1 ck.eq_1) (.z 1 (.j 1 (EN [16,2,49] []) .o .o))
instance fX:C2 k270 Ve:=pg (And.intro k270.eq_1 Ve.eq_1) (.z 1 (.j 1 (EN [32,2,97] []) .o .o))
instance dX:C1 k282 vh:=pg (And.intro k282.eq_1 vh.eq_1) (.z 1 (.j 1 (EN [16,2,81] []) .o .o))
instance sX:C1 k28 Dj:=pg (And.intro (And.intro k28.eq_1 Dj.eq_1) (And.intro qj.eq_1 (And.intro rj.eq_1 (And.intro sj.eq_1 Ih.eq_1)))) (.z 2 (.j 1 (EN [8,9,176,2,817] [0]) .o (.l 1 0 (EN [8,33,2,145] [0]) (EN [8,33] [0]) [] (.z 4 (.j 1 (EN [8,193,192,2,617] [0]) .o (.l 1 0 (EN [8,41,2,337] [0]) (EN [8,41] [0]) [] .o .o))) (.l 2 0 (EN [8,17,2,25,10,953] [0]) (EN [8,17,8,25] [0]) [] (.z 4 (.j 1 (EN [8,569,216,2,217] [0]) .o .o)) (.l 2 0 (EN [8,25,2,25,10,945] [0]) (EN [] []) [] (.z 4 (.j 1 (EN [8,793,208,2] [0]) .o .o)) .o)))))
instance MO:C1 k36 Mg:=pg (And.intro k36.eq_1 Mg.eq_1) (.z 1 (.j 1 (EN [16,2,121] []) .o .o))
instance gU:C1 k65 Nh:=pg (And.intro (And.intro k65.eq_1 Nh.eq_1) Mi.eq_1) (.l 3 2 (EN [32,2,10,33,18,113] []) (EN [32,2,10,17] []) [] .o .o)
instance u6:C2 k78 pd:=pg (And.intro k78.eq_1 pd.eq_1) .o
instance vO:C4 k85 Li:=pg (And.intro k85.eq_1 Li.eq_1) (.b .o (.b .o (.j 1 (EN [8,17,8,41,112,2,273] [0,8]) .o (.b .o (.j 1 (EN [8,177,112,2,161] [0,8]) .o .o)))))
instance rW:C3 k86 pn:=pg (And.intro (And.intro k86.eq_1 pn.eq_1) (And.intro pq.eq_1 (And.intro nf.eq_1 gaa.eq_1))) (.b .o (.i gaa 2 61 ⟨[.u [.s (.own 0 0),.i 1]],[.ni 4 0]⟩ (.l 3 2 (EN [8,2,65,16,3,18,25] [1036]) (EN [8,2,80,3] [1036]) [17] (.z 1 (.j 1 (EN [8,225,2,289] [0]) .o (.j 2 (EN [8,2,217] [10]) (.z 3 (.j 1 (EN [8,225,152,2,137] [0,8]) .o (.b .o (.t [256])))) .o))) .o) .o))
instance aQ:C1 k179 qk:=pg (And.intro (And.intro k179.eq_1 qk.eq_1) Ld.eq_1) (.l 1 1 (EN [17,8,2,201] []) (EN [24,2,201] []) [] (.z 1 (.j 1 (EN [201,2,25] []) .o .o)) .o)
theorem Cl{t0}(hc1:fa q1=true)(hp1:∀ x0 r,t1 x0=some r->Den Tryz.prog k1 ([Zg x0]++q1) (sa r)){r} (h:Ua t0 t1=some r):Den Tryz.prog 183 [Yq t0,.fn k1 [] q1] (sa r):=by
 haveI I1:∀ x0 r,Con (t1 x0=some r) (Den Tryz.prog k1 ([Zg x0]++q1) (sa r)):=λx0 r=>⟨hp1 x0 r⟩
 have s1:∀ f:D->D->Prop,gx f q1 q1=True:=λ_=>ph hc1
 have z1:∀ a b n,yv a b n q1=q1:=λ_ _ _=>pf _ _ _ _ hc1
 haveI:∀ y0 r,Con (Mb y0 t1=some r) (Den Tryz.prog 208 [Yq y0,.fn k1 [] q1] (ca r)):=λy0 r=>⟨Gm hc1 hp1⟩
 refine Den.at 7 k183.ok k183.nm (bE (nV hc1 YB)) rfl ?_
 simp only[k183,Kf.of,zs,ze]
 unfold Ua at h
 exact pg trivial .o
instance uL:C2 k188 gh:=pg (And.intro k188.eq_1 gh.eq_1) (.z 3 (.j 2 ⟨[.k 4,.p 1,.k 1,.p 1],[.o 1,.h 3 [.g [.p 4,.i 0,.i 1]]]⟩ (.j 1 (EN [16,41,208,2,89] [0,8,16,24]) .o (.t [4,12])) .o))
instance KH:C2 k190 Te:=pg (And.intro k190.eq_1 Te.eq_1) .o
theorem Al{t0}{t1:GField->Option Bool}(hc1:fa q1=true)(hp1:∀ x0 r,t1 x0=some r->Den Tryz.prog k1 ([Zd x0]++q1) (sa r)){r} (h:Ga t0 t1=some r):Den Tryz.prog 211 [Wq t0,.fn k1 [] q1] (sa r):=by
 haveI I1:∀ x0 r,Con (t1 x0=some r) (Den Tryz.prog k1 ([Zd x0]++q1) (sa r)):=λx0 r=>⟨hp1 x0 r⟩
 have s1:∀ f:D->D->Prop,gx f q1 q1=True:=λ_=>ph hc1
 have z1:∀ a b n,yv a b n q1=q1:=λ_ _ _=>pf _ _ _ _ hc1
 haveI:∀ y0 r,Con (Kb y0 t1=some r) (Den Tryz.prog 228 [Wq y0,.fn k1 [] q1] (ca r)):=λy0 r=>⟨Em hc1 hp1⟩
 refine Den.at 7 k211.ok k211.nm (bE (nV hc1 YB)) rfl ?_
 simp only[k211,Kf.of,zs,ze]
 unfold Ga at h
 exact pg trivial .o
instance MY:C1 k232 Gt:=pg (And.intro k232.eq_1 Gt.eq_1) .o
instance SR:C3 k260 me:=pg (And.intro k260.eq_1 me.eq_1) (.z 2 (.j 1 (EN [17,24,17,64,2,113] [0,8]) .o .o))
instance jV:C3 k261 Ym:=pg (And.intro k261.eq_1 Ym.eq_1) (.z 2 (.e 1 (EN [24,33,8,2,17] [0,8,16,24]) (.z 2 (.j 1 (EN [24,33,144,2,465] [0,8,16,24]) .o .o)) (.z 1 (.j 1 (EN [24,281,2,361] [0,8,16,24]) .o (.b .o (.z 1 (.f ⟨[.k 3,.p 81],[.o 0,.o 1,.o 2,.o 3,.n 2 [],.n 2 []]⟩ [0,4,8,12,9,9] (.g [[],[],[],[],[],[],[],[],[],[],[],[],[1,3,5,7,9,11],[1,3,5,7,9,11,12],[7,9,11]] [none,none,none,none,none,none,none,none,none,none,none,none,some 4,some 5,none] (.z 1 (.j 1 (EN [24,9,16,17,8,233,240,2,121] [0,24,32,40]) (.t [0,12,272,276]) (.z 3 (.j 1 (EN [48,33,560,2,25] [8,16]) (.t [4,8]) .o))))))))))))
instance BM:C2 k267 Yf:=pg (And.intro k267.eq_1 Yf.eq_1) (.b .o (.b (.j 1 (EN [32,2] []) .o .o) (.b (.j 1 (EN [32,2] []) .o .o) .o)))
instance CO:C2 k268 Sb:=pg (And.intro k268.eq_1 Sb.eq_1) .o
instance AM:C3 k269 Oa:=pg (And.intro k269.eq_1 Oa.eq_1) (.z 3 (.j 1 (EN [32,17,8,9,2,1001] [0,8]) .o (.b (.j 1 (EN [48,2] []) .o .o) (.b (.j 1 (EN [48,2] []) .o .o) (.b (.j 1 (EN [48,2] []) .o .o) (.b (.z 2 (.j 1 (EN [48,2] []) .o .o)) (.b (.j 1 (EN [48,2] []) .o .o) (.j 1 (EN [32,33,576,2,425] [0,8]) .o (.b (.j 1 (EN [48,2] []) .o .o) (.j 1 (EN [32,609,144,2,281] [0,8]) .o (.b .o (.j 1 (EN [32,753,48,2,233] [0,8]) .o (.b (.j 1 (EN [48,2] []) .o .o) (.j 1 (EN [32,25,864,2,145] [0,8]) .o (.j 1 (EN [48,2,865] []) .o .o)))))))))))))))
end Go.Proofs.Dev
