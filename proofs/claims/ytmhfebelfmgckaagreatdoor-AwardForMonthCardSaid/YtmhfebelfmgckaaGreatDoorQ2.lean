/-
  Contracts of the functions: each answers as its plain partial function says.
-/
import Derived.Test.YtmhfebelfmgckaaGreatDoorK
import Derived.Test.YtmhfebelfmgckaaGreatDoorG
import Derived.Test.YtmhfebelfmgckaaGreatDoorPE
import Derived.Test.YtmhfebelfmgckaaGreatDoorH1
import Derived.Test.YtmhfebelfmgckaaGreatDoorH2
import Derived.Test.YtmhfebelfmgckaaGreatDoorL1
open And renaming intro->ak
open Go.Proofs.Tryz renaming prog->al
set_option linter.all false
set_option maxHeartbeats 1000000
set_option maxRecDepth 10000
namespace Go.Proofs.Dev
open Go Go.Tm
variable {t0:(List (List Int))}{t1:GTable->Option Bool}{r:List Int}{k1:Nat}{q1:List D}
instance TW:C1 k76 ki:=pg (ak (ak k76.eq_1 ki.eq_1) (ak Bj.eq_1 (ak Cj.eq_1 Dj.eq_1))) (.z 2 (.j (EN [8,9,208,2,513] [0]) .o (.l (EN [8,17,2,193] [0]) (EN [8,17] [0]) [] .o (.l (EN [8,25,2,705] [0]) (EN [8,25] [0]) [] .o (.l (EN [8,33,2,697] [0]) (EN [] []) [] (.z 4 (.j (EN [8,41,688,2] [0]) .o .o)) .o)))))
instance Q8:C1 k101 Tt:=pg (ak (ak k101.eq_1 Tt.eq_1) jo.eq_1) (.l (EN [17,8,3,10,209] [260]) (EN [24,3] [260]) [5] (.z 2 (.j (EN [41] [2]) (.j (EN [41,136,2,65] [0]) .o (.b (.t [256]) .o)) .o)) .o)
instance QU:C1 k164 bn:=pg (ak k164.eq_1 bn.eq_1) .o
instance MJ:C1 k169 Lc:=pg (ak k169.eq_1 Lc.eq_1) (.z 1 (.j (EN [16,2,49] []) .o .o))
instance yR:C2 k172 Re:=pg (ak k172.eq_1 Re.eq_1) (.z 3 (.j (EN [16,17,16,9,112,2,49] [0]) .o .o))
instance GZ:C2 k180 Xm:=pg (ak (ak k180.eq_1 Xm.eq_1) kl.eq_1) (.l (EN [33,8,2,97] []) (EN [] []) [] .o .o)
instance ES:C2 k184 ie:=pg (ak k184.eq_1 ie.eq_1) (.z 3 (.j (EN [16,33,112,2,49] [0,8]) .o .o))
instance ref02_Mode_C:C1 k189 Np:=pg (ak k189.eq_1 Np.eq_1) (.z 1 (.j (EN [16,2,49] []) .o .o))
instance D8:C2 k190 Vc:=pg (ak k190.eq_1 Vc.eq_1) (.z 1 (.j (EN [32,2,73] []) .o .o))
instance ref02_Abs_C:C1 k191 Ho:=pg (ak k191.eq_1 Ho.eq_1) .o
instance U0:C5 k192 fh:=pg (ak k192.eq_1 fh.eq_1) (.z 2 (.j (EN [9,16,2,56,10,425] []) .o (.j (EN [2,81] []) .o .o)))
instance H8:C2 k196 Mq:=pg (ak (ak k196.eq_1 Mq.eq_1) (ak Yn.eq_1 Zn.eq_1)) (.l (EN [33,8,3,10,353] [260]) (EN [33,8,3] [260]) [5] (.z 2 (.j (EN [65] [2]) (.b (.t [256]) .o) .o)) (.l (EN [57,10,153] [2]) (EN [40,17] [2]) [256] (.z 2 (.j (EN [249] [2]) (.b (.t [256]) .o) .o)) .o))
instance date_IsLeap_C:C1 k214 Bv:=pg (ak k214.eq_1 Bv.eq_1) (.z 1 (.j (EN [16,2,105] []) .o .o))
instance QX:C1 k215 Bp:=pg (ak k215.eq_1 Bp.eq_1) .o
instance ref09_Type_C:C1 k242 yx:=pg (ak k242.eq_1 yx.eq_1) .o
theorem qG{t1:Int}(h:Yu t0 t1=some r):Den al 271 [kd t0,da t1] (qa r):=by
 refine dk 60 k271 ?_;simp only[k271,Kf.of,zs,ze];unfold Yu at h;refine ss (rg ?_);(try simp only[zz]);refine ss (rg ?_);obtain⟨x1,a1,h⟩:=bs h;obtain⟨f2,f3,f4,f5,f6⟩:=dR (e:=za) a1;(try simp only[zz]at f5 f6);(try simp only[zz,f2,f3,f4,f5,f6]);refine ss (rg ?_);(try simp only[zz]);refine ss ?_;obtain⟨y7,h8,h⟩:=bs h;refine lm h8 (λq=>⟨kd t0::ds 4 (.own 0 0::.own 1 0::ds 55 []),[.live 1 0 (q.1.map za),.live 1 0 (q.2.map da)]⟩) (λb26=>⟨ds 5 (.own 0 0::ds 56 []),[.live 1 0 (b26.map za)]⟩) (tz [ok 0,ok 1]) ?_ ?_
 .rintro⟨s2,s3⟩ z9 h10 h11;simp only[Fg]at h10;refine ss (ss (rg ?_));(try simp only[zz]);refine cd rfl ?_;(try simp only[zz]);refine gi h10 (λc4 h10=>?_) λc4 h10=>?_
  .refine sk ?_;(try simp only[zz,c4]);refine bk (ss (rg ?_));obtain⟨x5,f13,f14,f15,h10⟩:=bO h10;(try simp only[zz,f13,f14,f15]);refine ss (rg ?_);obtain⟨x6,a16,h10⟩:=bs h10;obtain⟨f17,f18,f19⟩:=JV (e:=da) a16;(try simp only[zz]at f19);(try simp only[zz,f17,f18,f19]);refine ss (rg ?_);obtain⟨x7,f21,f22,h10⟩:=bI h10;(try simp only[zz,f21,f22]);obtain⟨y23,h24,h10⟩:=bs h10;refine lm h24 (λq=>⟨kd t0::ds 4 (.own 0 0::.own 1 0::ds 22 (qa x7::da (x7.length:Int)::da q.2.2::ds 30 [])),[.live 1 0 (q.1.map za),.live 1 0 (q.2.1.map da)]⟩) (λq=>⟨kd t0::ds 4 (.own 0 0::.own 1 0::ds 55 []),[.live 1 0 (q.1.map za),.live 1 0 (q.2.map da)]⟩) (tz [ok 0,ov 1 1]) ?_ ?_
   .rintro⟨s8,s9,s10⟩ z25 h26 h27;simp only[Qi]at h26;refine ss (rg ?_);(try simp only[zz]);refine ss (cd rfl ?_);(try simp only[zz]);refine gi h26 (λc11 h26=>?_) λc11 h26=>?_
    .refine sk ?_;(try simp only[zz,c11]);refine jm h26 (λq=>⟨kd t0::ds 4 (.own 0 0::.own 1 0::ds 22 (qa x7::da (x7.length:Int)::da s10::ds 30 [])),[.live 1 0 (q.1.map za),.live 1 0 (q.2.map da)]⟩) (λz29 h28=>?_) λz29 h28 h26=>?_
     .refine bk (ss (rg ?_));obtain⟨x12,f31,f32,h28⟩:=bI h28;(try simp only[zz,f31,f32]);refine ss (rg ?_);obtain⟨x13,f34,f35,f36,h28⟩:=bO h28;(try simp only[zz,f34,f35,f36]);refine cd rfl ?_;(try simp only[zz,f34,f35,f36]);refine gi h28 (λc14 h28=>?_) λc14 h28=>?_
      .refine ss (rg ?_);obtain⟨x15,a37,h28⟩:=bs h28;obtain⟨f38,f39⟩:=M7 (e:=za) a37;(try simp only[zz]at f39);(try simp only[zz,f34,f35,f36,f38,f39]);refine rg ?_;obtain⟨x16,a40,h28⟩:=bs h28;obtain⟨f41,f42⟩:=jV (e:=da) a40;(try simp only[zz]at f41 f42);(try simp only[zz,f41,f42]);cases h28;exact tz [ok 0,ov 1 1]
      refine sk ?_;(try simp only[zz,f34,f35,f36,c14]);cases h28;exact tz [ok 0,ok 1]
     obtain⟨j17,j18⟩:=z29;dsimp only at h26;refine rg ?_;(try simp only[zz]);cases h26;exact tz [ok 0,ok 1]
    refine xt ?_;(try simp only[zz,c11]);cases h26;exact tz [ok 0,ok 1]
   rintro⟨b22,b23⟩ rfl;dsimp only at h10;(try simp only[zz]);cases h10;exact tz [ok 0,ok 1]
  refine xt ?_;(try simp only[zz,c4]);cases h10;exact tz [ok 0]
 rintro b26 rfl;dsimp only at h;(try simp only[zz]);refine ss (rg ?_);(try simp only[zz]);refine ss (ss (rg ?_));(try simp only[zz]);obtain⟨y43,h44,h⟩:=bs h;refine lm h44 (λq=>⟨ds 10 (.own 0 0::ds 37 (.own 1 0::da (b26.length:Int)::da q.2::ds 11 [])),[.live 1 0 (q.1.map da),.live 1 0 (b26.map za)]⟩) (λb36=>⟨ds 10 (.own 0 0::ds 51 []),[.live 1 0 (b36.map da)]⟩) (tz [on 1,ok 0]) ?_ ?_
 .rintro⟨s27,s28⟩ z45 h46 h47;simp only[Ri]at h46;refine ss (rg ?_);(try simp only[zz]);refine ss (cd rfl ?_);(try simp only[zz]);refine gi h46 (λc29 h46=>?_) λc29 h46=>?_
  .refine sk ?_;(try simp only[zz,c29]);refine jm h46 (λj33=>⟨ds 10 (.own 0 0::ds 37 (.own 1 0::da (b26.length:Int)::da s28::ds 11 [])),[.live 1 0 (j33.map da),.live 1 0 (b26.map za)]⟩) (λz49 h48=>?_) λj33 h48 h46=>?_
   .refine bk (ss (rg ?_));obtain⟨x30,f51,f52,f53,h48⟩:=bO h48;(try simp only[zz,f51,f52,f53]);refine ss (rg ?_);(try simp only[zz]);refine cd rfl ?_;(try simp only[zz]);refine gi h48 (λc31 h48=>?_) λc31 h48=>?_
    .refine rg ?_;obtain⟨x32,a54,h48⟩:=bs h48;obtain⟨f55,f56⟩:=jV (e:=da) a54;(try simp only[zz]at f55 f56);(try simp only[zz,f55,f56]);cases h48;exact tz [ov 0 1,ok 1]
    refine sk ?_;(try simp only[zz,c31]);cases h48;exact tz [ok 0,ok 1]
   refine rg ?_;(try simp only[zz]);cases h46;exact tz [ok 0,ok 1]
  refine xt ?_;(try simp only[zz,c29]);cases h46;exact tz [ok 0]
 rintro b36 rfl;dsimp only at h;(try simp only[zz]);refine ss (rg ?_);(try simp only[zz]);cases h;exact rt ez
theorem gI{t1:Int}(h:qk t0 t1=some r):Den al 271 [kd t0,da t1] (qa r):=qG (mZ h)
instance zI271{t0 t1 r}:Con (qk t0 t1=some r) (Den al 271 [kd t0,da t1] (qa r)):=⟨gI⟩
instance ref16_is_C:C2 k290 Uv:=pg (ak k290.eq_1 Uv.eq_1) (.z 1 (.j (EN [32,2,73] []) .o .o))
instance M8:C2 k335 Cn:=pg (ak (ak k335.eq_1 Cn.eq_1) eo.eq_1) (.l (EN [33,8,3,10,18,321] [260]) (EN [8,25,8,3,10] [260]) [5] (.z 3 (.j (EN [49,10,9] [2]) (.j (EN [65,120,2,193] [0]) .o (.j (EN [49,8,129] [2]) (.b (.t [256]) .o) .o)) (.t [256]))) (.j (EN [40,9] [2]) (.b (.t [256]) .o) .o))
theorem lp{t0}(hc1:oa q1=true)(hp1:∀ x0 r,t1 x0=some r->Den al k1 ([qi x0]++q1) (za r)){r} (h:Tb t0 t1=some r):Den al 349 [Iu t0,.fn k1 [] q1] (da r):=by
 haveI I1:∀ x0 r,Con (t1 x0=some r) (Den al k1 ([qi x0]++q1) (za r)):=λx0 r=>⟨hp1 x0 r⟩
 have s1:∀ f:D->D->Prop,cB f q1 q1=True:=λ_=>Gj hc1
 have z1:∀ a b n,iz a b n q1=q1:=λ_ _ _=>Dg _ _ _ _ hc1
 refine Den.at 17 k349.ok k349.nm (WJ (N0 hc1 DH)) rfl ?_
 simp only[k349,Kf.of,zs,ze]
 unfold Tb at h
 exact pg jd.eq_1 (.l (EN [33,24,9,2,81] []) (EN [] []) [] .o .o)
theorem Dw{t0 t1 r} (h:ef t0 t1=some r):Den al 355 [mg t0,Ww t1] (za r):=by
 refine dk 7 k355 ?_
 simp only[k355,Kf.of,zs,ze]
 unfold ef at h
 exact pg trivial .o
instance zI355{t0 t1 r}:Con (ef t0 t1=some r) (Den al 355 [mg t0,Ww t1] (za r)):=⟨Dw⟩
theorem Yq{t0}{t1:GRule->Option Bool}(hc1:oa q1=true)(hp1:∀ x0 r,t1 x0=some r->Den al k1 ([mg x0]++q1) (za r)){r} (h:Bc t0 t1=some r):Den al 392 [km t0,.fn k1 [] q1] (da r):=by
 haveI I1:∀ x0 r,Con (t1 x0=some r) (Den al k1 ([mg x0]++q1) (za r)):=λx0 r=>⟨hp1 x0 r⟩
 have s1:∀ f:D->D->Prop,cB f q1 q1=True:=λ_=>Gj hc1
 have z1:∀ a b n,iz a b n q1=q1:=λ_ _ _=>Dg _ _ _ _ hc1
 refine Den.at 17 k392.ok k392.nm (WJ (N0 hc1 DH)) rfl ?_
 simp only[k392,Kf.of,zs,ze]
 unfold Bc at h
 exact pg Od.eq_1 (.l (EN [33,24,9,2,81] []) (EN [] []) [] .o .o)
instance ref15_index_C:C2 k408 Ts:=pg (ak (ak k408.eq_1 Ts.eq_1) Zp.eq_1) (.l (EN [33,8,2,105] []) (EN [] []) [] .o .o)
instance V8:C1 k443 En:=pg (ak k443.eq_1 En.eq_1) (.z 1 (.j (EN [16,2,81] []) .o .o))
instance X0:C1 k469 Jo:=pg (ak k469.eq_1 Jo.eq_1) (.z 2 (.j (EN [17,112,2,145] []) .o (.b .o (.j (EN [16,2,105] []) .o .o))))
instance T1:C1 k35 Hr:=pg (ak (ak k35.eq_1 Hr.eq_1) (ak Bl.eq_1 (ak Cl.eq_1 (ak Dl.eq_1 Si.eq_1)))) (.z 2 (.j (EN [8,9,176,2,817] [0]) .o (.l (EN [8,33,2,145] [0]) (EN [8,33] [0]) [] (.z 4 (.j (EN [8,193,192,2,617] [0]) .o (.l (EN [8,41,2,337] [0]) (EN [8,41] [0]) [] .o .o))) (.l (EN [8,17,2,25,10,953] [0]) (EN [8,17,8,25] [0]) [] (.z 4 (.j (EN [8,569,216,2,217] [0]) .o .o)) (.l (EN [8,25,2,25,10,945] [0]) (EN [] []) [] (.z 4 (.j (EN [8,793,208,2] [0]) .o .o)) .o)))))
instance u9:C3 k94 eu:=pg (ak (ak k94.eq_1 eu.eq_1) Tr.eq_1) (.l (EN [8,41,8,11,10,18] [0,516]) (EN [24,25,8,11,10] [0,516]) [0,9] (.z 2 (.j (EN [8,57,10,49] [0,258]) (.j (EN [8,113,104,2,113] [0,8]) .o (.b (.t [0,260]) .o)) .o)) .o)
instance nZ:C3 k97 kj:=pg (ak k97.eq_1 kj.eq_1) (.z 6 (.j (EN [49,112,2,145] []) .o .o))
instance sT:C2 k145 Gd:=pg (ak k145.eq_1 Gd.eq_1) (.z 2 (.j (EN [33,48,2,81] []) .o (.z 1 (.j (EN [8,73,48,2,33] []) .o .o))))
instance RX:C1 k146 Ti:=pg (ak k146.eq_1 Ti.eq_1) .o
instance ref20_Env_C:C4 k188 IC:=pg (ak (ak k188.eq_1 IC.eq_1) Ow.eq_1) (.l ⟨[.k 8,.p 3,.i 1],[.o 2,.h 3 [.g [.p 4,.s (.own 2 0),.p 1]],.ni 2 0,.o 4]⟩ ⟨[.k 8,.p 2],[.o 2,.h 3 [.g [.p 4,.s (.own 2 0),.p 1]],.ni 2 0]⟩ [8,12,9,16] (.b (.t [0,4,264,12]) .o) .o)
instance vU:C1 k292 pf:=pg (ak (ak k292.eq_1 pf.eq_1) zi.eq_1) (.l (EN [17,24,2,10,18,26,369] []) (EN [40,2,10,18] []) [] (.z 2 (.j (EN [41,2,10,18,17] []) (.z 1 (.j (EN [41,2,33] []) .o (.j (EN [49,2,385] []) .o (.j (EN [73,280,2,81] []) .o .o)))) .o)) .o)
theorem On{t0}(hc1:oa q1=true)(hp1:∀ x0 r,t1 x0=some r->Den al k1 ([qi x0]++q1) (za r)){r} (h:Xa t0 t1=some r):Den al 311 [Iu t0,.fn k1 [] q1] (za r):=by
 haveI I1:∀ x0 r,Con (t1 x0=some r) (Den al k1 ([qi x0]++q1) (za r)):=λx0 r=>⟨hp1 x0 r⟩
 have s1:∀ f:D->D->Prop,cB f q1 q1=True:=λ_=>Gj hc1
 have z1:∀ a b n,iz a b n q1=q1:=λ_ _ _=>Dg _ _ _ _ hc1
 haveI:∀ y0 r,Con (Tb y0 t1=some r) (Den al 349 [Iu y0,.fn k1 [] q1] (da r)):=λy0 r=>⟨lp hc1 hp1⟩
 refine Den.at 7 k311.ok k311.nm (WJ (N0 hc1 DH)) rfl ?_
 simp only[k311,Kf.of,zs,ze]
 unfold Xa at h
 exact pg trivial .o
theorem Ro{t0}{t1:GRule->Option Bool}(hc1:oa q1=true)(hp1:∀ x0 r,t1 x0=some r->Den al k1 ([mg x0]++q1) (za r)){r} (h:jb t0 t1=some r):Den al 354 [km t0,.fn k1 [] q1] (za r):=by
 haveI I1:∀ x0 r,Con (t1 x0=some r) (Den al k1 ([mg x0]++q1) (za r)):=λx0 r=>⟨hp1 x0 r⟩
 have s1:∀ f:D->D->Prop,cB f q1 q1=True:=λ_=>Gj hc1
 have z1:∀ a b n,iz a b n q1=q1:=λ_ _ _=>Dg _ _ _ _ hc1
 haveI:∀ y0 r,Con (Bc y0 t1=some r) (Den al 392 [km y0,.fn k1 [] q1] (da r)):=λy0 r=>⟨Yq hc1 hp1⟩
 refine Den.at 7 k354.ok k354.nm (WJ (N0 hc1 DH)) rfl ?_
 simp only[k354,Kf.of,zs,ze]
 unfold jb at h
 exact pg trivial .o
instance XV:C1 k356 Vn:=pg (ak (ak k356.eq_1 Vn.eq_1) fj.eq_1) (.z 2 (.j (EN [17,64,2,129] []) .o (.l (EN [81,16,9,2,105] []) (EN [] []) [] (.z 4 (.j (EN [25,72,17,88,2,9] []) .o .o)) .o)))
instance c9:C3 k380 au:=pg (ak (ak k380.eq_1 au.eq_1) Xj.eq_1) (.l (EN [8,9,2,25,8,10,9] [0]) (EN [] []) [] (.z 1 (.j (EN [8,9,8,145,2,105] [0]) .o .o)) .o)
instance E8:C4 k390 Kt:=pg (ak k390.eq_1 Kt.eq_1) (.z 6 (.j (EN [65,176,2,385] []) .o (.z 2 (.j (EN [241,128,2,257] []) .o .o))))
instance B1:C3 k478 Br:=pg (ak (ak k478.eq_1 Br.eq_1) (ak Im.eq_1 Jm.eq_1)) (.l (EN [2,10,33] []) (EN [2,10,33] []) [] .o (.l (EN [2,10,265] []) (EN [2,10,265] []) [] .o .o))
instance T0:C3 k482 xr:=pg (ak k482.eq_1 xr.eq_1) (.z 6 (.j (EN [49,112,2,145] []) .o .o))
end Go.Proofs.Dev
