/-
  Contracts of the functions: each answers as its plain partial function says.
-/
import Derived.Test.YtjiaejcpmcknnaaGreatDoorK
import Derived.Test.YtjiaejcpmcknnaaGreatDoorG
import Derived.Test.YtjiaejcpmcknnaaGreatDoorPD
import Derived.Test.YtjiaejcpmcknnaaGreatDoorH1
import Derived.Test.YtjiaejcpmcknnaaGreatDoorH2
set_option linter.all false
set_option maxHeartbeats 1000000
set_option maxRecDepth 10000
namespace Go.Proofs.Dev
open Go Go.Tm
instance {t0 t1 r}:Con (Dj t0 t1=some r) (Den Tryz.prog 75 [la t0,la t1] (aa r)):=⟨λh=>by
 refine dk 40 k75 ?_
 simp only[k75,Kf.of,zs,ze]
 unfold Dj at h
 exact pg @lg.eq_1 (.b .o (.b .o (.l 1 0 (λ(s3:Int)=>⟨[.k 1,.p 3,.k 11,.p 2,.s (aa s3),.p 24],[]⟩) (λ(_:Unit)=>⟨[],[]⟩) [] (.b (.z 3 (.j 1 (λ(j7:Bool)=>⟨[.k 1,.p 5,.k 9,.p 3,.k 10,.s (ba j7),.p 13],[]⟩) (.b (.t []) (.t [])) (.b .o (.j 1 (λ(j11:Bool)=>⟨[.k 1,.p 4,.k 10,.p 13,.k 12,.s (ba j11),.p 1],[]⟩) (.b (.t []) (.t [])) (.b .o (.t [])))))) (.t [])) .o)))⟩
instance {t0 r}:Con (Mk t0=some r) (Den Tryz.prog 96 [Cb t0] (nk r)):=⟨λh=>by
 refine dk 19 k96 ?_
 simp only[k96,Kf.of,zs,ze]
 unfold Mk at h
 exact pg @Bt.eq_1 (.l 2 1 (λ(q:((List GType) × Int))=>⟨[.p 2,.k 1,.s (.own 0 0),.s (aa q.2),.p 15],[.n 2 ((q.1.map ua))]⟩) (λ(b8:(List GType))=>⟨[.k 3,.s (.own 0 0)],[.n 2 ((b8.map ua))]⟩) [on 2] (.b (.t [ov 0 1]) (.t [ok 0])) .o)⟩
instance zzi16 {t0 r}:Con (xf t0=some r) (Den Tryz.prog 108 [Na t0] (ba r)):=⟨λh=>by
 refine dk 9 k108 ?_
 simp only[k108,Kf.of,zs,ze]
 unfold xf at h
 exact pg trivial (.z 3 (.j 1 (λ(j4:Bool)=>⟨[.k 5,.s (ba j4),.p 4],[]⟩) (.b (.t []) (.b (.t []) (.b (.t []) (.t [])))) .o))⟩
instance {t0 r}:Con (Oh t0=some r) (Den Tryz.prog 145 [Cb t0] (nk r)):=⟨λh=>by
 refine dk 18 k145 ?_
 simp only[k145,Kf.of,zs,ze]
 unfold Oh at h
 exact pg @nj.eq_1 (.l 2 1 (λ(q:((List GType) × Int))=>⟨[.k 3,.s (.own 0 0),.p 4,.s (aa q.2),.p 10],[.n 2 ((q.1.map ua))]⟩) (λ(b8:(List GType))=>⟨[.k 3,.s (.own 0 0),.p 2],[.n 2 ((b8.map ua))]⟩) [on 2] (.b (.t [ov 0 1]) (.t [ok 0])) .o)⟩
instance {t0 r}:Con (bm t0=some r) (Den Tryz.prog 190 [vg t0] (ba r)):=⟨λh=>by
 refine dk 28 k190 ?_
 simp only[k190,Kf.of,zs,ze]
 unfold bm at h
 exact pg @Yh.eq_1 (.l 1 0 (λ(s1:Int)=>⟨[.p 2,.k 1,.s (aa s1),.p 25],[]⟩) (λ(_:Unit)=>⟨[.p 2],[]⟩) [] (.b (.z 1 (.j 1 (λ(j6:Bool)=>⟨[.p 4,.k 21,.s (ba j6),.p 3],[]⟩) (.b (.b (.t []) (.t [])) (.t [])) (.b .o (.t [])))) (.t [])) .o)⟩
instance {t0 t1 r}:Con (Po t0 t1=some r) (Den Tryz.prog 201 [aa t0,wa t1] (.tup [ua r.1,aa r.2])):=⟨λh=>by
 refine dk 32 k201 ?_
 simp only[k201,Kf.of,zs,ze]
 unfold Po at h
 exact pg trivial (.b .o (.z 2 (.j 1 (λ(j4:Bool)=>⟨[.k 4,.p 1,.k 1,.p 1,.k 23,.s (ba j4),.p 3],[.o 1]⟩) (.b (.t [ok 1]) (.t [ok 1])) .o)))⟩
instance zzi3 {t0 r}:Con (Xb t0=some r) (Den Tryz.prog 224 [ra t0] (ba r)):=⟨λh=>by
 refine dk 82 k224 ?_
 simp only[k224,Kf.of,zs,ze]
 unfold Xb at h
 exact pg trivial (.z 2 (.j 1 (λ(j2:Bool)=>⟨[.k 1,.p 1,.k 8,.s (ba j2),.p 72],[.o 0]⟩) (.b (.t [ok 0]) (.t [ok 0])) (.b .o (.b (.j 1 (λ(j6:Bool)=>⟨[.k 2,.s (ba j6),.p 7],[]⟩) (.b (.t []) (.t [])) .o) (.b (.j 1 (λ(j9:Bool)=>⟨[.k 2,.s (ba j9),.p 7],[]⟩) (.b (.t []) (.t [])) .o) (.b (.j 1 (λ(j12:Bool)=>⟨[.k 2,.s (ba j12),.p 7],[]⟩) (.b (.t []) (.t [])) .o) (.b (.j 1 (λ(j15:Bool)=>⟨[.k 2,.s (ba j15),.p 7],[]⟩) (.b (.t []) (.t [])) .o) (.b (.j 1 (λ(j18:Bool)=>⟨[.k 2,.s (ba j18),.p 7],[]⟩) (.b (.t []) (.t [])) .o) (.b (.j 1 (λ(j23:Bool)=>⟨[.k 2,.s (ba j23),.p 7],[]⟩) (.b (.b (.b (.t []) (.t [])) (.t [])) (.t [])) .o) .o)))))))))⟩
instance {t0 t1 r}:Con (mi t0 t1=some r) (Den Tryz.prog 232 [Su t0,vg t1] (aa r)):=⟨λh=>by
 refine dk 17 k232 ?_
 simp only[k232,Kf.of,zs,ze]
 unfold mi at h
 exact pg @Jd.eq_1 (.l 1 0 (λ(s1:Int)=>⟨[.p 4,.k 3,.p 1,.s (aa s1),.p 10],[]⟩) (λ(_:Unit)=>⟨[],[]⟩) [] (.b (.b .o (.t [])) (.t [])) .o)⟩
theorem Om{t0}{t1:GTable->Option Bool}{k1:Nat}{q1:List D}(hc1:ia q1=true)(hp1:∀ x0 r,t1 x0=some r->Den Tryz.prog k1 ([ob x0]++q1) (ba r)){r} (h:Qb t0 t1=some r):Den Tryz.prog 236 [Dh t0,.fn k1 [] q1] (aa r):=by
 haveI I1:∀ x0 r,Con (t1 x0=some r) (Den Tryz.prog k1 ([ob x0]++q1) (ba r)):=λx0 r=>⟨hp1 x0 r⟩
 have s1:∀ f:D->D->Prop,Ax f q1 q1=True:=λ_=>Tg hc1
 have z1:∀ a b n,Cv a b n q1=q1:=λ_ _ _=>uf _ _ _ _ hc1
 refine Den.at 17 H9.ok H9.nm (tE (lT hc1 JC)) rfl ?_
 simp only[H9,Kf.of,zs,ze]
 unfold Qb at h
 exact pg @Nc.eq_1 (.l 1 0 (λ(s1:Int)=>⟨[.p 4,.k 3,.p 1,.s (aa s1),.p 10],[]⟩) (λ(_:Unit)=>⟨[],[]⟩) [] (.b (.b .o (.t [])) (.t [])) .o)
theorem vt{t0 t1 r} (h:Ef t0 t1=some r):Den Tryz.prog 241 [Za t0,Vv t1] (ba r):=by
 refine dk 7 k241 ?_
 simp only[k241,Kf.of,zs,ze]
 unfold Ef at h
 exact pg trivial .o
instance {t0 t1 r}:Con (Ef t0 t1=some r) (Den Tryz.prog 241 [Za t0,Vv t1] (ba r)):=⟨vt⟩
instance {t0 t1 r}:Con (Ln t0 t1=some r) (Den Tryz.prog 244 [la t0,aa t1] (aa r)):=⟨λh=>by
 refine dk 17 k244 ?_
 simp only[k244,Kf.of,zs,ze]
 unfold Ln at h
 exact pg @Ag.eq_1 (.l 1 0 (λ(s1:Int)=>⟨[.p 4,.k 3,.p 1,.s (aa s1),.p 10],[]⟩) (λ(_:Unit)=>⟨[],[]⟩) [] (.b (.b .o (.t [])) (.t [])) .o)⟩
instance {t0 r}:Con (Jf t0=some r) (Den Tryz.prog 254 [aa t0] (ba r)):=⟨λh=>by
 refine dk 12 k254 ?_
 simp only[k254,Kf.of,zs,ze]
 unfold Jf at h
 exact pg trivial (.z 1 (.j 1 (λ(j3:Bool)=>⟨[.k 2,.s (ba j3),.p 10],[]⟩) (.b (.b (.t []) (.t [])) (.t [])) .o))⟩
theorem wz{t0:Int}{t1:Int}{t2:Int}{r:(GType×Bool)}(h:ph t0 t1 t2=some r):Den Tryz.prog 255 [aa t0,aa t1,aa t2] (.tup [ua r.1,ba r.2]):=by
 refine dk 44 k255 ?_;simp only[k255,Kf.of,zs,ze];unfold ph at h;refine ss (rg ?_);(try simp only[zz]);refine ss (bk (ss (rg ?_)));(try simp only[zz]);refine cd rfl ?_;(try simp only[zz]);refine gi h (λc1 h=>?_) λc1 h=>?_
 .have e1:=eT c1;refine jm h (λj4=>⟨ds 6 (.ref 0 0 0 0::ba j4::ds 39 []),[.live 2 0 [.agg [aa t1,aa 0]]]⟩) (λz4 h3=>?_) λj4 h3 h=>?_
  .refine rg ?_;(try simp only[zz]);refine gi h3 (λc2 h3=>?_) λc2 h3=>?_
   .have e5:=eT c2;(try simp only[zz,eq_true c2,e5]);refine gi h3 (λc3 h3=>?_) λc3 h3=>?_
    .have e7:=eF c3;(try simp only[zz,eq_true c2,e5,c3,e7]);cases h3;exact tz [ok 0]
    have e8:=eD c3;(try simp only[zz,eq_true c2,e5,c3,e8]);cases h3;exact tz [ok 0]
   have e6:=eF c2;(try simp only[zz,c2,e6]);cases h3;exact tz [ok 0]
  cases h;exact rt ez
 have e2:=eF c1;refine ss (rg ?_);(try simp only[zz]);refine cd rfl ?_;(try simp only[zz]);refine gi h (λc5 h=>?_) λc5 h=>?_
 .have e9:=eT c5;refine jm h (λj7=>⟨ds 6 (.ref 0 0 0 0::ba j7::ds 39 []),[.live 2 0 [.agg [aa t1,aa 0]]]⟩) (λz12 h11=>?_) λj7 h11 h=>?_
  .refine rg ?_;(try simp only[zz]);refine gi h11 (λc6 h11=>?_) λc6 h11=>?_
   .have e13:=eF c6;(try simp only[zz,c6,e13]);cases h11;exact tz [ok 0]
   have e14:=eD c6;(try simp only[zz,c6,e14]);cases h11;exact tz [ok 0]
  cases h;exact rt ez
 have e10:=eF c5;refine jm h (λj10=>⟨ds 6 (.ref 0 0 0 0::ds 27 (ba j10::ds 12 [])),[.live 2 0 [.agg [aa 0,aa 0]]]⟩) (λz16 h15=>?_) λj10 h15 h=>?_
 .refine rg ?_;(try simp only[zz]);refine gi h15 (λc8 h15=>?_) λc8 h15=>?_
  .have e17:=eT c8;(try simp only[zz,eq_true c8,e17]);refine gi h15 (λc9 h15=>?_) λc9 h15=>?_
   .have e19:=eT c9;(try simp only[zz,eq_true c8,e17,eq_true c9,e19]);cases h15;exact tz [ok 0]
   have e20:=eF c9;(try simp only[zz,eq_true c8,e17,c9,e20]);cases h15;exact tz [ok 0]
  have e18:=eF c8;(try simp only[zz,c8,e18]);cases h15;exact tz [ok 0]
 refine cd rfl ?_;(try simp only[zz]);refine gi h (λc11 h=>?_) λc11 h=>?_
 .refine ss (rg ?_);(try simp only[zz]);cases h;exact rt ez
 refine sk ?_;(try simp only[zz,c11]);refine ss (rg ?_);(try simp only[zz]);cases h;exact rt ez
instance {t0 t1 t2 r}:Con (ph t0 t1 t2=some r) (Den Tryz.prog 255 [aa t0,aa t1,aa t2] (.tup [ua r.1,ba r.2])):=⟨wz⟩
instance {t0 t1 r}:Con (Ce t0 t1=some r) (Den Tryz.prog 266 [ra t0,ra t1] (ba r)):=⟨λh=>by
 refine dk 15 k266 ?_
 simp only[k266,Kf.of,zs,ze]
 unfold Ce at h
 exact pg trivial (.z 1 (.j 1 (λ(j2:Bool)=>⟨[.k 4,.s (ba j2),.p 12],[]⟩) (.b (.t []) (.t [])) .o))⟩
theorem xo{t0}{t1:GRule->Option Bool}{k1:Nat}{q1:List D}(hc1:ia q1=true)(hp1:∀ x0 r,t1 x0=some r->Den Tryz.prog k1 ([Za x0]++q1) (ba r)){r} (h:pc t0 t1=some r):Den Tryz.prog 282 [ue t0,.fn k1 [] q1] (aa r):=by
 haveI I1:∀ x0 r,Con (t1 x0=some r) (Den Tryz.prog k1 ([Za x0]++q1) (ba r)):=λx0 r=>⟨hp1 x0 r⟩
 have s1:∀ f:D->D->Prop,Ax f q1 q1=True:=λ_=>Tg hc1
 have z1:∀ a b n,Cv a b n q1=q1:=λ_ _ _=>uf _ _ _ _ hc1
 refine Den.at 17 M9.ok M9.nm (tE (lT hc1 JC)) rfl ?_
 simp only[M9,Kf.of,zs,ze]
 unfold pc at h
 exact pg @sd.eq_1 (.l 1 0 (λ(s1:Int)=>⟨[.p 4,.k 3,.p 1,.s (aa s1),.p 10],[]⟩) (λ(_:Unit)=>⟨[],[]⟩) [] (.b (.b .o (.t [])) (.t [])) .o)
instance {t0 r}:Con (fh t0=some r) (Den Tryz.prog 286 [aa t0] (ba r)):=⟨λh=>by
 refine dk 12 k286 ?_
 simp only[k286,Kf.of,zs,ze]
 unfold fh at h
 exact pg trivial (.z 1 (.j 1 (λ(j3:Bool)=>⟨[.k 2,.s (ba j3),.p 10],[]⟩) (.b (.b (.t []) (.t [])) (.t [])) .o))⟩
instance {t0 r}:Con (Zm t0=some r) (Den Tryz.prog 314 [aa t0] (ba r)):=⟨λh=>by
 refine dk 8 k314 ?_
 simp only[k314,Kf.of,zs,ze]
 unfold Zm at h
 exact pg trivial (.z 1 (.j 1 (λ(j2:Bool)=>⟨[.k 2,.s (ba j2),.p 6],[]⟩) (.b (.t []) (.t [])) .o))⟩
instance {t0 r}:Con (Ym t0=some r) (Den Tryz.prog 346 [aa t0] (aa r)):=⟨λh=>by
 refine dk 10 k346 ?_
 simp only[k346,Kf.of,zs,ze]
 unfold Ym at h
 exact pg trivial .o⟩
instance {t0 t1 r}:Con (Gi t0 t1=some r) (Den Tryz.prog 58 [Bb t0,aa t1] (wa r)):=⟨λh=>by
 refine dk 53 k58 ?_
 simp only[k58,Kf.of,zs,ze]
 unfold Gi at h
 exact pg trivial (.z 2 (.j 1 (λ(j2:Bool)=>⟨[.k 1,.p 14,.s (ba j2),.p 39],[.o 0,.o 1]⟩) (.b (.t [ok 0,ok 1]) (.t [ok 0,ok 1])) (.b .o (.z 2 (.j 2 (λ(q:((List GType) × Bool))=>⟨[.k 4,.p 1,.k 1,.p 9],[.o 1,.h 3 [.g [.p 4,.s (nk q.1),.s (ba q.2)]]]⟩) (.j 1 (λ(j8:Bool)=>⟨[.k 2,.p 13,.k 28,.s (ba j8),.p 11],[.o 0,.o 1,.o 2,.o 3]⟩) (.b (.t [ok 0,ok 1,ok 2,ok 3]) (.t [ok 0,ok 1,ok 2,ok 3])) (.b (.t [ok 1,ok 3]) (.t [ok 1,ok 3]))) .o)))))⟩
instance {t0 t1 r}:Con (vd t0 t1=some r) (Den Tryz.prog 103 [Bb t0,aa t1] (wa r)):=⟨λh=>by
 refine dk 43 k103 ?_
 simp only[k103,Kf.of,zs,ze]
 unfold vd at h
 exact pg trivial (.z 3 (.j 2 (λ(q:((List GType) × Bool))=>⟨[.k 4,.p 1,.k 1,.p 1],[.o 1,.h 3 [.g [.p 4,.s (nk q.1),.s (ba q.2)]]]⟩) (.j 1 (λ(j5:Bool)=>⟨[.k 2,.p 5,.k 26,.s (ba j5),.p 11],[.o 0,.o 1,.o 2,.o 3]⟩) (.b (.t [ok 0,ok 1,ok 2,ok 3]) (.t [ok 0,ok 1,ok 2,ok 3])) (.b (.t [ok 1,ok 3]) (.t [ok 1,ok 3]))) .o))⟩
instance {t0 t1 r}:Con (Hd t0 t1=some r) (Den Tryz.prog 168 [Su t0,vg t1] (ba r)):=⟨λh=>by
 refine dk 7 k168 ?_
 simp only[k168,Kf.of,zs,ze]
 unfold Hd at h
 exact pg trivial .o⟩
theorem Ml{t0}{t1:GTable->Option Bool}{k1:Nat}{q1:List D}(hc1:ia q1=true)(hp1:∀ x0 r,t1 x0=some r->Den Tryz.prog k1 ([ob x0]++q1) (ba r)){r} (h:Va t0 t1=some r):Den Tryz.prog 177 [Dh t0,.fn k1 [] q1] (ba r):=by
 haveI I1:∀ x0 r,Con (t1 x0=some r) (Den Tryz.prog k1 ([ob x0]++q1) (ba r)):=λx0 r=>⟨hp1 x0 r⟩
 have s1:∀ f:D->D->Prop,Ax f q1 q1=True:=λ_=>Tg hc1
 have z1:∀ a b n,Cv a b n q1=q1:=λ_ _ _=>uf _ _ _ _ hc1
 haveI:∀ y0 r,Con (Qb y0 t1=some r) (Den Tryz.prog 236 [Dh y0,.fn k1 [] q1] (aa r)):=λy0 r=>⟨Om hc1 hp1⟩
 refine Den.at 7 C9.ok C9.nm (tE (lT hc1 JC)) rfl ?_
 simp only[C9,Kf.of,zs,ze]
 unfold Va at h
 exact pg trivial .o
instance {t0 t1 r}:Con (Be t0 t1=some r) (Den Tryz.prog 183 [la t0,aa t1] (ba r)):=⟨λh=>by
 refine dk 7 k183 ?_
 simp only[k183,Kf.of,zs,ze]
 unfold Be at h
 exact pg trivial .o⟩
instance {t0 t1 r}:Con (Ga t0 t1=some r) (Den Tryz.prog 206 [aa t0,nk t1] (.tup [ua r.1,ba r.2])):=⟨λh=>by
 refine dk 220 k206 ?_
 simp only[k206,Kf.of,zs,ze]
 unfold Ga at h
 exact pg trivial (.b .o (.b (.a [[],[],[],[],[],[],[2,4]] .o) (.j 1 (λ(j7:Bool)=>⟨[.p 5,.k 1,.p 1,.k 1,.p 1,.k 18,.s (ba j7),.p 194],[.o 0,.o 1]⟩) (.b (.t [ok 0,ok 1]) (.t [ok 0,ok 1])) (.b (.j 3 (λ(q:(Int × Int × Bool))=>⟨[.k 4,.p 1,.s (ba q.2.2)],[.h 0 [.g [.s (aa q.1),.s (aa q.2.1)]]]⟩) (.a [[],[],[],[],[],[],[],[],[],[],[],[],[],[],[],[],[],[]] (.b (.t [ok 0]) (.t [ok 0]))) .o) (.j 1 (λ(j18:Bool)=>⟨[.p 27,.k 20,.s (ba j18),.p 174],[.o 0,.o 1]⟩) (.b (.t [ok 0,ok 1]) (.b (.t [ok 0,ok 1]) (.t [ok 0,ok 1]))) (.b .o (.b (.j 3 (λ(q:(Int × Int × Bool))=>⟨[.k 4,.p 1,.s (ba q.2.2)],[.h 0 [.g [.s (aa q.1),.s (aa q.2.1)]]]⟩) (.a [[],[],[],[],[],[],[],[],[],[],[],[],[],[],[],[10,12]] (.b (.t [ok 0]) (.t [ok 0]))) .o) (.j 1 (λ(j31:Bool)=>⟨[.k 1,.p 46,.k 33,.s (ba j31),.p 141],[.o 0,.o 1]⟩) (.b (.t [ok 0,ok 1]) (.t [ok 0,ok 1])) (.b (.j 3 (λ(q:(Int × Int × Bool))=>⟨[.k 4,.p 1,.s (ba q.2.2)],[.h 0 [.g [.s (aa q.1),.s (aa q.2.1)]]]⟩) (.a [[],[],[],[],[],[],[],[],[],[],[],[],[],[],[],[],[],[],[],[],[],[],[],[],[18,20]] (.b (.b (.t [ok 0]) (.t [ok 0])) (.t [ok 0]))) .o) (.j 1 (λ(j42:Bool)=>⟨[.k 1,.p 79,.k 27,.s (ba j42),.p 114],[.o 0,.o 1]⟩) (.b (.t [ok 0,ok 1]) (.t [ok 0,ok 1])) (.b (.a [[],[],[],[],[],[],[],[],[2,3,5,6]] .o) (.j 1 (λ(j47:Bool)=>⟨[.k 1,.p 106,.k 11,.s (ba j47),.p 103],[.o 0,.o 1]⟩) (.b (.t [ok 0,ok 1]) (.t [ok 0,ok 1])) (.b (.j 1 (λ(j54:Bool)=>⟨[.k 4,.p 1,.s (ba j54)],[.h 0 [.g [.s (aa 1),.p 1]]]⟩) (.a [[],[],[],[],[],[],[],[],[],[],[],[],[],[],[],[],[],[],[],[],[],[],[16,18]] (.b (.b (.t [ok 0]) (.t [ok 0])) (.t [ok 0]))) .o) (.j 1 (λ(j56:Bool)=>⟨[.k 1,.p 117,.k 25,.s (ba j56),.p 78],[.o 0,.o 1]⟩) (.b (.t [ok 0,ok 1]) (.t [ok 0,ok 1])) (.b (.j 1 (λ(j61:Bool)=>⟨[.k 4,.p 1,.s (ba j61)],[.h 0 [.g [.s (aa 1),.p 1]]]⟩) (.a [[],[],[],[],[],[],[],[],[],[],[],[],[],[8,10]] (.b (.t [ok 0]) (.t [ok 0]))) .o) (.b (.j 3 (λ(q:(Int × Int × Bool))=>⟨[.k 4,.p 1,.s (ba q.2.2)],[.h 0 [.g [.s (aa q.1),.s (aa q.2.1)]]]⟩) (.a [[],[],[],[],[],[],[],[],[],[],[],[],[],[],[],[],[],[10,11,13,14]] (.b (.t [ok 0]) (.t [ok 0]))) .o) (.j 1 (λ(j71:Bool)=>⟨[.k 1,.p 5,.k 2,.p 135,.k 35,.s (ba j71),.p 43],[.o 0]⟩) (.b (.t [ok 0]) (.t [ok 0])) (.b (.j 3 (λ(q:(Int × Int × Bool))=>⟨[.k 4,.p 1,.s (ba q.2.2),.p 2],[.h 0 [.g [.s (aa q.1),.s (aa q.2.1)]]]⟩) (.a [[],[],[],[],[],[],[],[],[],[],[],[],[],[],[],[10,12]] (.b (.t [ok 0]) (.t [ok 0]))) .o) (.j 1 (λ(j80:Bool)=>⟨[.k 1,.p 177,.k 18,.s (ba j80),.p 25],[.o 0]⟩) (.b (.t [ok 0]) (.t [ok 0])) (.b (.j 1 (λ(j85:Bool)=>⟨[.k 4,.p 1,.s (ba j85),.p 2],[.h 0 [.g [.s (aa 2),.p 1]]]⟩) (.a [[],[],[],[],[],[],[],[],[],[],[],[],[],[8,10]] (.b (.t [ok 0]) (.t [ok 0]))) .o) (.j 1 (λ(j87:Bool)=>⟨[.k 1,.p 7,.k 204,.s (ba j87),.p 9],[.o 0]⟩) (.b (.t [ok 0]) (.t [ok 0])) (.b (.a [[],[],[],[],[],[],[2,4]] .o) .o))))))))))))))))))))))⟩
instance {t0 r}:Con (Wi t0=some r) (Den Tryz.prog 221 [jb t0] (ba r)):=⟨λh=>by
 refine dk 14 k221 ?_
 simp only[k221,Kf.of,zs,ze]
 unfold Wi at h
 exact pg @Uf.eq_1 (.l 1 0 (λ(s1:Int)=>⟨[.k 5,.p 2,.s (aa s1),.p 7],[]⟩) (λ(_:Unit)=>⟨[],[]⟩) [] (.b (.b .o (.t [])) (.t [])) .o)⟩
theorem Dm{t0}{t1:GRule->Option Bool}{k1:Nat}{q1:List D}(hc1:ia q1=true)(hp1:∀ x0 r,t1 x0=some r->Den Tryz.prog k1 ([Za x0]++q1) (ba r)){r} (h:Lb t0 t1=some r):Den Tryz.prog 240 [ue t0,.fn k1 [] q1] (ba r):=by
 haveI I1:∀ x0 r,Con (t1 x0=some r) (Den Tryz.prog k1 ([Za x0]++q1) (ba r)):=λx0 r=>⟨hp1 x0 r⟩
 have s1:∀ f:D->D->Prop,Ax f q1 q1=True:=λ_=>Tg hc1
 have z1:∀ a b n,Cv a b n q1=q1:=λ_ _ _=>uf _ _ _ _ hc1
 haveI:∀ y0 r,Con (pc y0 t1=some r) (Den Tryz.prog 282 [ue y0,.fn k1 [] q1] (aa r)):=λy0 r=>⟨xo hc1 hp1⟩
 refine Den.at 7 K9.ok K9.nm (tE (lT hc1 JC)) rfl ?_
 simp only[K9,Kf.of,zs,ze]
 unfold Lb at h
 exact pg trivial .o
instance {t0 t1 r}:Con (Zn t0 t1=some r) (Den Tryz.prog 262 [ra t0,ua t1] (ba r)):=⟨λh=>by
 refine dk 19 k262 ?_
 simp only[k262,Kf.of,zs,ze]
 unfold Zn at h
 exact pg trivial (.z 1 (.j 1 (λ(j4:Bool)=>⟨[.k 4,.s (ba j4),.p 16],[]⟩) (.b (.b (.t []) (.t [])) (.t [])) .o))⟩
instance {t0 t1 r}:Con (Cf t0 t1=some r) (Den Tryz.prog 263 [aa t0,ua t1] (ba r)):=⟨λh=>by
 refine dk 30 k263 ?_
 simp only[k263,Kf.of,zs,ze]
 unfold Cf at h
 exact pg trivial (.b .o (.b (.j 1 (λ(j4:Bool)=>⟨[.k 4,.s (ba j4)],[]⟩) (.b (.t []) (.t [])) .o) (.b (.j 1 (λ(j8:Bool)=>⟨[.k 4,.s (ba j8)],[]⟩) (.b (.t []) (.t [])) .o) .o)))⟩
instance {t0 t1 r}:Con (qb t0 t1=some r) (Den Tryz.prog 264 [aa t0,aa t1] (ba r)):=⟨λh=>by
 refine dk 14 k264 ?_
 simp only[k264,Kf.of,zs,ze]
 unfold qb at h
 exact pg trivial .o⟩
instance {t0 t1 t2 r}:Con (Ma t0 t1 t2=some r) (Den Tryz.prog 265 [aa t0,ra t1,ra t2] (ba r)):=⟨λh=>by
 refine dk 131 k265 ?_
 simp only[k265,Kf.of,zs,ze]
 unfold Ma at h
 exact pg trivial (.z 3 (.j 1 (λ(j2:Bool)=>⟨[.k 4,.p 2,.k 1,.p 1,.s (ba j2),.p 125],[.o 0,.o 1]⟩) (.b (.t [ok 0,ok 1]) (.t [ok 0,ok 1])) (.b (.j 1 (λ(j7:Bool)=>⟨[.k 6,.s (ba j7)],[]⟩) (.b (.t []) (.t [])) .o) (.b (.j 1 (λ(j11:Bool)=>⟨[.k 6,.s (ba j11)],[]⟩) (.b (.b (.t []) (.t [])) (.t [])) .o) (.b (.j 1 (λ(j15:Bool)=>⟨[.k 6,.s (ba j15)],[]⟩) (.b (.b (.t []) (.t [])) (.t [])) .o) (.b (.b (.j 1 (λ(j19:Bool)=>⟨[.k 6,.s (ba j19)],[]⟩) (.b (.t []) (.t [])) .o) (.j 1 (λ(j21:Bool)=>⟨[.k 6,.s (ba j21)],[]⟩) (.b (.t []) (.t [])) .o)) (.b (.j 1 (λ(j24:Bool)=>⟨[.k 6,.s (ba j24)],[]⟩) (.b (.t []) (.t [])) .o) (.j 1 (λ(j28:Bool)=>⟨[.k 4,.p 4,.k 72,.s (ba j28),.p 53],[.o 0,.o 1]⟩) (.b (.t [ok 0,ok 1]) (.b (.t [ok 0,ok 1]) (.b (.t [ok 0,ok 1]) (.t [ok 0,ok 1])))) (.b (.j 1 (λ(j34:Bool)=>⟨[.k 6,.s (ba j34)],[]⟩) (.b (.b (.t []) (.t [])) (.t [])) .o) (.j 1 (λ(j36:Bool)=>⟨[.k 4,.p 76,.k 18,.s (ba j36),.p 35],[.o 0,.o 1]⟩) (.b (.t [ok 0,ok 1]) (.t [ok 0,ok 1])) (.b .o (.j 1 (λ(j40:Bool)=>⟨[.k 4,.p 94,.k 6,.s (ba j40),.p 29],[.o 0,.o 1]⟩) (.b (.t [ok 0,ok 1]) (.t [ok 0,ok 1])) (.b (.j 1 (λ(j43:Bool)=>⟨[.k 6,.s (ba j43)],[]⟩) (.b (.t []) (.t [])) .o) (.j 1 (λ(j45:Bool)=>⟨[.k 4,.p 3,.k 108,.s (ba j45),.p 18],[.o 0,.o 1]⟩) (.b (.t [ok 0,ok 1]) (.t [ok 0,ok 1])) (.b (.j 1 (λ(j48:Bool)=>⟨[.k 6,.s (ba j48),.p 108],[]⟩) (.b (.t []) (.t [])) .o) (.j 1 (λ(j50:Bool)=>⟨[.k 6,.s (ba j50),.p 108],[]⟩) (.b (.t []) (.t [])) .o))))))))))))))))⟩
instance zzi9 {t0 r}:Con (xh t0=some r) (Den Tryz.prog 315 [aa t0] (aa r)):=⟨λh=>by
 refine dk 11 k315 ?_
 simp only[k315,Kf.of,zs,ze]
 unfold xh at h
 exact pg trivial .o⟩
end Go.Proofs.Dev
