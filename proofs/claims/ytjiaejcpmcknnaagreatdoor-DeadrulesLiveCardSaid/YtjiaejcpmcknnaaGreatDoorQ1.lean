/-
  Contracts of the functions: each answers as its plain partial function says.
-/
import Derived.Test.YtjiaejcpmcknnaaGreatDoorK
import Derived.Test.YtjiaejcpmcknnaaGreatDoorG
import Derived.Test.YtjiaejcpmcknnaaGreatDoorPD
import Derived.Test.YtjiaejcpmcknnaaGreatDoorH1
import Derived.Test.YtjiaejcpmcknnaaGreatDoorH2
set_option linter.all false
set_option maxHeartbeats 1000000
set_option maxRecDepth 10000
namespace Go.Proofs.Dev
open Go Go.Tm
instance {t0 t1 r}:Con (qt t0 t1=some r) (Den Tryz.prog 18 [ka t0,ka t1] (ba r)):=⟨λh=>by
 refine dk 30 k18 ?_
 simp only[k18,Kf.of,zs,ze]
 unfold qt at h
 exact pg @aq.eq_1 (.b .o (.l 1 0 (λ(s2:Int)=>⟨[.p 4,.k 1,.s (aa s2)],[]⟩) (λ(_:Unit)=>⟨[],[]⟩) [] (.z 1 (.j 1 (λ(j4:Bool)=>⟨[.p 20,.s (ba j4),.p 11],[]⟩) (.b (.t []) (.t [])) (.b (.b .o (.t [])) (.t [])))) .o))⟩
instance {t0 t1 r}:Con (Cv t0 t1=some r) (Den Tryz.prog 19 [ka t0,aa t1] (ba r)):=⟨λh=>by
 refine dk 16 k19 ?_
 simp only[k19,Kf.of,zs,ze]
 unfold Cv at h
 exact pg @Np.eq_1 (.l 1 0 (λ(s1:Int)=>⟨[.p 4,.k 1,.s (aa s1),.p 12],[]⟩) (λ(_:Unit)=>⟨[],[]⟩) [] (.b (.b .o (.t [])) (.t [])) .o)⟩
instance {t0 t1 r}:Con (cn t0 t1=some r) (Den Tryz.prog 45 [gb t0,gb t1] (ba r)):=⟨λh=>by
 refine dk 30 k45 ?_
 simp only[k45,Kf.of,zs,ze]
 unfold cn at h
 exact pg @gy.eq_1 (.b .o (.l 1 0 (λ(s2:Int)=>⟨[.p 4,.k 1,.s (aa s2)],[]⟩) (λ(_:Unit)=>⟨[],[]⟩) [] (.z 1 (.j 1 (λ(j4:Bool)=>⟨[.p 20,.s (ba j4),.p 11],[]⟩) (.b (.t []) (.t [])) (.b (.b .o (.t [])) (.t [])))) .o))⟩
instance {t0 t1 r}:Con (Xp t0 t1=some r) (Den Tryz.prog 60 [Li t0,aa t1] (ba r)):=⟨λh=>by
 refine dk 41 k60 ?_
 simp only[k60,Kf.of,zs,ze]
 unfold Xp at h
 exact pg (And.intro @Sl.eq_1 @Rl.eq_1) (.l 1 0 (λ(s1:Int)=>⟨[.p 4,.k 1,.s (aa s1),.p 37],[]⟩) (λ(_:Unit)=>⟨[],[]⟩) [] (.b (.l 1 0 (λ(s3:Int)=>⟨[.p 6,.s (aa s3)],[]⟩) (λ(_:Unit)=>⟨[.p 6],[]⟩) [] (.b (.z 1 (.j 1 (λ(j8:Bool)=>⟨[.p 13,.k 29,.s (ba j8)],[]⟩) (.b (.t []) (.t [])) (.b .o (.t [])))) (.t [])) (.t [])) (.t [])) .o)⟩
instance {t0 r}:Con (wg t0=some r) (Den Tryz.prog 107 [La t0] (ba r)):=⟨λh=>by
 refine dk 10 Taa ?_
 simp only[Taa,Kf.of,zs,ze]
 unfold wg at h
 exact pg trivial (.z 3 (.j 1 (λ(j5:Bool)=>⟨[.k 5,.s (ba j5),.p 5],[]⟩) (.b (.t []) (.b (.t []) (.b (.t []) (.b (.t []) (.t []))))) .o))⟩
theorem sw{t0}{t1:GRow->Option Bool}{k1:Nat}{q1:List D}(hc1:ja q1=true)(hp1:∀ x0 r,t1 x0=some r->Den Tryz.prog k1 ([uh x0]++q1) (ba r)){r} (h:Se t0 t1=some r):Den Tryz.prog 169 [Et t0,.fn k1 [] q1] (.tup [aa r.1,ba r.2]):=by
 haveI I1:∀ x0 r,Con (t1 x0=some r) (Den Tryz.prog k1 ([uh x0]++q1) (ba r)):=λx0 r=>⟨hp1 x0 r⟩
 have s1:∀ f:D->D->Prop,yw f q1 q1=True:=λ_=>pf hc1
 have z1:∀ a b n,Ru a b n q1=q1:=λ_ _ _=>we _ _ _ _ hc1
 refine Den.at 18 K6.ok K6.nm (iD (zO hc1 AA)) rfl ?_
 simp only[K6,Kf.of,zs,ze]
 unfold Se at h
 exact pg @Oe.eq_1 (.l 1 0 (λ(s1:Int)=>⟨[.k 1,.p 3,.k 4,.p 2,.s (aa s1),.p 9],[]⟩) (λ(_:Unit)=>⟨[],[]⟩) [] (.b (.b .o (.t [])) (.t [])) .o)
instance {t0 r}:Con (fo t0=some r) (Den Tryz.prog 172 [iL t0] (ba r)):=⟨λh=>by
 refine dk 8 Sab ?_
 simp only[Sab,Kf.of,zs,ze]
 unfold fo at h
 exact pg trivial (.z 1 (.j 1 (λ(j2:Bool)=>⟨[.k 2,.s (ba j2),.p 6],[]⟩) (.b (.t []) (.t [])) .o))⟩
theorem Lt{t0 t1 r} (h:Ve t0 t1=some r):Den Tryz.prog 178 [sb t0,Xq t1] (ba r):=by
 refine dk 6 Wab ?_
 simp only[Wab,Kf.of,zs,ze]
 unfold Ve at h
 exact pg trivial .o
instance {t0 t1 r}:Con (Ve t0 t1=some r) (Den Tryz.prog 178 [sb t0,Xq t1] (ba r)):=⟨Lt⟩
instance {r}:Con (Rf=some r) (Den Tryz.prog 186 [] (Du r)):=⟨λh=>by
 refine dk 2 dac ?_
 simp only[dac,Kf.of,zs,ze]
 unfold Rf at h
 exact pg trivial .o⟩
instance {t0 r}:Con (Nl t0=some r) (Den Tryz.prog 190 [ng t0] (ba r)):=⟨λh=>by
 refine dk 28 hac ?_
 simp only[hac,Kf.of,zs,ze]
 unfold Nl at h
 exact pg @Th.eq_1 (.l 1 0 (λ(s1:Int)=>⟨[.p 2,.k 1,.s (aa s1),.p 25],[]⟩) (λ(_:Unit)=>⟨[.p 2],[]⟩) [] (.b (.z 1 (.j 1 (λ(j6:Bool)=>⟨[.p 4,.k 21,.s (ba j6),.p 3],[]⟩) (.b (.b (.t []) (.t [])) (.t [])) (.b .o (.t [])))) (.t [])) .o)⟩
instance {t0 t1 r}:Con (fi t0 t1=some r) (Den Tryz.prog 232 [Du t0,ng t1] (aa r)):=⟨λh=>by
 refine dk 17 Fac ?_
 simp only[Fac,Kf.of,zs,ze]
 unfold fi at h
 exact pg @Cd.eq_1 (.l 1 0 (λ(s1:Int)=>⟨[.p 4,.k 3,.p 1,.s (aa s1),.p 10],[]⟩) (λ(_:Unit)=>⟨[],[]⟩) [] (.b (.b .o (.t [])) (.t [])) .o)⟩
instance {t0 r}:Con (Zq t0=some r) (Den Tryz.prog 234 [iL t0] (ba r)):=⟨λh=>by
 refine dk 8 Hac ?_
 simp only[Hac,Kf.of,zs,ze]
 unfold Zq at h
 exact pg trivial (.z 1 (.j 1 (λ(j2:Bool)=>⟨[.k 2,.s (ba j2),.p 6],[]⟩) (.b (.t []) (.t [])) .o))⟩
theorem tm{t0}{t1:GTable->Option Bool}{k1:Nat}{q1:List D}(hc1:ja q1=true)(hp1:∀ x0 r,t1 x0=some r->Den Tryz.prog k1 ([sb x0]++q1) (ba r)){r} (h:Ob t0 t1=some r):Den Tryz.prog 236 [vh t0,.fn k1 [] q1] (aa r):=by
 haveI I1:∀ x0 r,Con (t1 x0=some r) (Den Tryz.prog k1 ([sb x0]++q1) (ba r)):=λx0 r=>⟨hp1 x0 r⟩
 have s1:∀ f:D->D->Prop,yw f q1 q1=True:=λ_=>pf hc1
 have z1:∀ a b n,Ru a b n q1=q1:=λ_ _ _=>we _ _ _ _ hc1
 refine Den.at 17 R6.ok R6.nm (iD (zO hc1 AA)) rfl ?_
 simp only[R6,Kf.of,zs,ze]
 unfold Ob at h
 exact pg @Jc.eq_1 (.l 1 0 (λ(s1:Int)=>⟨[.p 4,.k 3,.p 1,.s (aa s1),.p 10],[]⟩) (λ(_:Unit)=>⟨[],[]⟩) [] (.b (.b .o (.t [])) (.t [])) .o)
instance {t0 r}:Con (Df t0=some r) (Den Tryz.prog 254 [aa t0] (ba r)):=⟨λh=>by
 refine dk 12 k254 ?_
 simp only[k254,Kf.of,zs,ze]
 unfold Df at h
 exact pg trivial (.z 1 (.j 1 (λ(j3:Bool)=>⟨[.k 2,.s (ba j3),.p 10],[]⟩) (.b (.b (.t []) (.t [])) (.t [])) .o))⟩
theorem Uy{t0:Int}{t1:Int}{t2:Int}{r:(GType×Bool)}(h:gh t0 t1 t2=some r):Den Tryz.prog 255 [aa t0,aa t1,aa t2] (.tup [ra r.1,ba r.2]):=by
 refine dk 44 k255 ?_;simp only[k255,Kf.of,zs,ze];unfold gh at h;refine ss (rg ?_);(try simp only[zz]);refine ss (bk (ss (rg ?_)));(try simp only[zz]);refine cd rfl ?_;(try simp only[zz]);refine gi h (λc1 h=>?_) λc1 h=>?_
 .have e1:=eT c1;refine jm h (λj4=>⟨ds 6 (.ref 0 0 0 0::ba j4::ds 39 []),[.live 2 0 [.agg [aa t1,aa 0]]]⟩) (λz4 h3=>?_) λj4 h3 h=>?_
  .refine rg ?_;(try simp only[zz]);refine gi h3 (λc2 h3=>?_) λc2 h3=>?_
   .have e5:=eT c2;(try simp only[zz,eq_true c2,e5]);refine gi h3 (λc3 h3=>?_) λc3 h3=>?_
    .have e7:=eF c3;(try simp only[zz,eq_true c2,e5,c3,e7]);cases h3;exact tz [ok 0]
    have e8:=eD c3;(try simp only[zz,eq_true c2,e5,c3,e8]);cases h3;exact tz [ok 0]
   have e6:=eF c2;(try simp only[zz,c2,e6]);cases h3;exact tz [ok 0]
  cases h;exact rt ez
 have e2:=eF c1;refine ss (rg ?_);(try simp only[zz]);refine cd rfl ?_;(try simp only[zz]);refine gi h (λc5 h=>?_) λc5 h=>?_
 .have e9:=eT c5;refine jm h (λj7=>⟨ds 6 (.ref 0 0 0 0::ba j7::ds 39 []),[.live 2 0 [.agg [aa t1,aa 0]]]⟩) (λz12 h11=>?_) λj7 h11 h=>?_
  .refine rg ?_;(try simp only[zz]);refine gi h11 (λc6 h11=>?_) λc6 h11=>?_
   .have e13:=eF c6;(try simp only[zz,c6,e13]);cases h11;exact tz [ok 0]
   have e14:=eD c6;(try simp only[zz,c6,e14]);cases h11;exact tz [ok 0]
  cases h;exact rt ez
 have e10:=eF c5;refine jm h (λj10=>⟨ds 6 (.ref 0 0 0 0::ds 27 (ba j10::ds 12 [])),[.live 2 0 [.agg [aa 0,aa 0]]]⟩) (λz16 h15=>?_) λj10 h15 h=>?_
 .refine rg ?_;(try simp only[zz]);refine gi h15 (λc8 h15=>?_) λc8 h15=>?_
  .have e17:=eT c8;(try simp only[zz,eq_true c8,e17]);refine gi h15 (λc9 h15=>?_) λc9 h15=>?_
   .have e19:=eT c9;(try simp only[zz,eq_true c8,e17,eq_true c9,e19]);cases h15;exact tz [ok 0]
   have e20:=eF c9;(try simp only[zz,eq_true c8,e17,c9,e20]);cases h15;exact tz [ok 0]
  have e18:=eF c8;(try simp only[zz,c8,e18]);cases h15;exact tz [ok 0]
 refine cd rfl ?_;(try simp only[zz]);refine gi h (λc11 h=>?_) λc11 h=>?_
 .refine ss (rg ?_);(try simp only[zz]);cases h;exact rt ez
 refine sk ?_;(try simp only[zz,c11]);refine ss (rg ?_);(try simp only[zz]);cases h;exact rt ez
instance {t0 t1 t2 r}:Con (gh t0 t1 t2=some r) (Den Tryz.prog 255 [aa t0,aa t1,aa t2] (.tup [ra r.1,ba r.2])):=⟨Uy⟩
instance {t0 t1 t2 t3 r}:Con (ju t0 t1 t2 t3=some r) (Den Tryz.prog 269 [sb t0,aa t1,aa t2,aa t3] (.tup [aa r.1,aa r.2])):=⟨λh=>by
  unfold ju at h
  cases h⟩
theorem Hn{t0}{t1:GRule->Option Bool}{k1:Nat}{q1:List D}(hc1:ja q1=true)(hp1:∀ x0 r,t1 x0=some r->Den Tryz.prog k1 ([Za x0]++q1) (ba r)){r} (h:pc t0 t1=some r):Den Tryz.prog 282 [me t0,.fn k1 [] q1] (aa r):=by
 haveI I1:∀ x0 r,Con (t1 x0=some r) (Den Tryz.prog k1 ([Za x0]++q1) (ba r)):=λx0 r=>⟨hp1 x0 r⟩
 have s1:∀ f:D->D->Prop,yw f q1 q1=True:=λ_=>pf hc1
 have z1:∀ a b n,Ru a b n q1=q1:=λ_ _ _=>we _ _ _ _ hc1
 refine Den.at 17 W6.ok W6.nm (iD (zO hc1 AA)) rfl ?_
 simp only[W6,Kf.of,zs,ze]
 unfold pc at h
 exact pg @bd.eq_1 (.l 1 0 (λ(s1:Int)=>⟨[.p 4,.k 3,.p 1,.s (aa s1),.p 10],[]⟩) (λ(_:Unit)=>⟨[],[]⟩) [] (.b (.b .o (.t [])) (.t [])) .o)
instance {t0 t1 r}:Con (il t0 t1=some r) (Den Tryz.prog 284 [ka t0,aa t1] (ka r)):=⟨λh=>by
 refine dk 46 k284 ?_
 simp only[k284,Kf.of,zs,ze]
 unfold il at h
 exact pg @Ll.eq_1 (.l 3 2 (λ(q:((List Int) × Bool × Int))=>⟨[.p 4,.k 1,.s (.own 0 0),.s (ba q.2.1),.s (aa q.2.2),.p 40],[.n 1 ((q.1.map aa))]⟩) (λ(q:((List Int) × Bool))=>⟨[.k 1,.p 3,.k 1,.s (.own 0 0),.s (ba q.2)],[.n 1 ((q.1.map aa))]⟩) [on 1] (.b (.z 1 (.j 2 (λ(q:((List Int) × Bool))=>⟨[.p 6,.s (ba q.2),.p 1],[.c 0 ((q.1.map aa))]⟩) (.j 1 (λ(j7:Bool)=>⟨[.p 8,.k 15,.s (ba j7),.p 24],[.o 0]⟩) (.b (.t [ok 0]) (.t [ok 0])) (.b (.j 1 (λ(j12:(List Int))=>⟨[.p 6,.k 1,.p 16],[.c 0 ((j12.map aa))]⟩) (.b (.t [ov 0 1]) (.t [ok 0])) (.t [ok 0])) (.t [ok 0]))) (.t [ov 0 1]))) (.t [ok 0])) (.j 1 (λ(j24:(List Int))=>⟨[.k 5,.p 1],[.c 0 ((j24.map aa))]⟩) (.b (.t [ov 0 1]) (.t [ok 0])) .o))⟩
instance {t0 r}:Con (Bg t0=some r) (Den Tryz.prog 290 [ba t0] (ma r)):=⟨λh=>by
 refine dk 5 k290 ?_
 simp only[k290,Kf.of,zs,ze]
 unfold Bg at h
 exact pg trivial .o⟩
instance {t0 r}:Con (Dz t0=some r) (Den Tryz.prog 291 [aa t0] (.tup [aa r.1,aa r.2.1,aa r.2.2])):=⟨λh=>by
  unfold Dz at h
  cases h⟩
instance {t0 t1 t2 r}:Con (Bx t0 t1 t2=some r) (Den Tryz.prog 292 [La t0,ma t1,ma t2] (.tup [ma r.1,aa r.2])):=⟨λh=>by
  unfold Bx at h
  cases h⟩
instance {t0 t1 r}:Con (vt t0 t1=some r) (Den Tryz.prog 293 [aa t0,aa t1] (.tup [aa r.1,aa r.2])):=⟨λh=>by
  unfold vt at h
  cases h⟩
instance {t0 t1 r}:Con (tp t0 t1=some r) (Den Tryz.prog 294 [aa t0,aa t1] (aa r)):=⟨λh=>by
  unfold tp at h
  cases h⟩
instance {t0 t1 r}:Con (oo t0 t1=some r) (Den Tryz.prog 26 [qb t0,qb t1] (ba r)):=⟨λh=>by
 refine dk 31 k26 ?_
 simp only[k26,Kf.of,zs,ze]
 unfold oo at h
 exact pg @wk.eq_1 (.b .o (.l 1 0 (λ(s2:Int)=>⟨[.p 4,.k 1,.s (aa s2)],[]⟩) (λ(_:Unit)=>⟨[],[]⟩) [] (.z 1 (.j 1 (λ(j4:Bool)=>⟨[.p 20,.s (ba j4),.p 12],[]⟩) (.b (.t []) (.t [])) (.b (.b .o (.t [])) (.t [])))) .o))⟩
instance {t0 t1 r}:Con (ug t0 t1=some r) (Den Tryz.prog 72 [Da t0,Da t1] (ba r)):=⟨λh=>by
 refine dk 29 k72 ?_
 simp only[k72,Kf.of,zs,ze]
 unfold ug at h
 exact pg trivial (.z 1 (.j 1 (λ(j5:Bool)=>⟨[.k 4,.s (ba j5),.p 26],[]⟩) (.b (.b (.b (.t []) (.t [])) (.t [])) (.t [])) .o))⟩
instance {t0 t1 r}:Con (Bd t0 t1=some r) (Den Tryz.prog 168 [Du t0,ng t1] (ba r)):=⟨λh=>by
 refine dk 7 Pab ?_
 simp only[Pab,Kf.of,zs,ze]
 unfold Bd at h
 exact pg trivial .o⟩
instance {t0 r}:Con (Zj t0=some r) (Den Tryz.prog 173 [ng t0] (aa r)):=⟨λh=>by
 refine dk 28 Tab ?_
 simp only[Tab,Kf.of,zs,ze]
 unfold Zj at h
 exact pg @qd.eq_1 (.l 1 1 (λ(s1:Int)=>⟨[.p 2,.k 1,.s (aa s1),.p 25],[]⟩) (λ(b11:Int)=>⟨[.k 3,.s (aa b11),.p 25],[]⟩) [] (.z 1 (.j 1 (λ(j8:Bool)=>⟨[.p 25,.s (ba j8),.p 3],[]⟩) (.b (.b (.b (.t []) (.t [])) (.t [])) (.t [])) (.b (.t []) (.t [])))) .o)⟩
theorem Bl{t0}{t1:GTable->Option Bool}{k1:Nat}{q1:List D}(hc1:ja q1=true)(hp1:∀ x0 r,t1 x0=some r->Den Tryz.prog k1 ([sb x0]++q1) (ba r)){r} (h:Wa t0 t1=some r):Den Tryz.prog 177 [vh t0,.fn k1 [] q1] (ba r):=by
 haveI I1:∀ x0 r,Con (t1 x0=some r) (Den Tryz.prog k1 ([sb x0]++q1) (ba r)):=λx0 r=>⟨hp1 x0 r⟩
 have s1:∀ f:D->D->Prop,yw f q1 q1=True:=λ_=>pf hc1
 have z1:∀ a b n,Ru a b n q1=q1:=λ_ _ _=>we _ _ _ _ hc1
 haveI:∀ y0 r,Con (Ob y0 t1=some r) (Den Tryz.prog 236 [vh y0,.fn k1 [] q1] (aa r)):=λy0 r=>⟨tm hc1 hp1⟩
 refine Den.at 7 M6.ok M6.nm (iD (zO hc1 AA)) rfl ?_
 simp only[M6,Kf.of,zs,ze]
 unfold Wa at h
 exact pg trivial .o
instance {t0 t1 r}:Con (Aa t0 t1=some r) (Den Tryz.prog 206 [aa t0,Rj t1] (.tup [ra r.1,ba r.2])):=⟨λh=>by
 refine dk 220 xac ?_
 simp only[xac,Kf.of,zs,ze]
 unfold Aa at h
 exact pg trivial (.b .o (.b (.a [[],[],[],[],[],[],[2,4]] .o) (.j 1 (λ(j7:Bool)=>⟨[.p 5,.k 1,.p 1,.k 1,.p 1,.k 18,.s (ba j7),.p 194],[.o 0,.o 1]⟩) (.b (.t [ok 0,ok 1]) (.t [ok 0,ok 1])) (.b (.j 3 (λ(q:(Int × Int × Bool))=>⟨[.k 4,.p 1,.s (ba q.2.2)],[.h 0 [.g [.s (aa q.1),.s (aa q.2.1)]]]⟩) (.a [[],[],[],[],[],[],[],[],[],[],[],[],[],[],[],[],[],[]] (.b (.t [ok 0]) (.t [ok 0]))) .o) (.j 1 (λ(j18:Bool)=>⟨[.p 27,.k 20,.s (ba j18),.p 174],[.o 0,.o 1]⟩) (.b (.t [ok 0,ok 1]) (.b (.t [ok 0,ok 1]) (.t [ok 0,ok 1]))) (.b .o (.b (.j 3 (λ(q:(Int × Int × Bool))=>⟨[.k 4,.p 1,.s (ba q.2.2)],[.h 0 [.g [.s (aa q.1),.s (aa q.2.1)]]]⟩) (.a [[],[],[],[],[],[],[],[],[],[],[],[],[],[],[],[10,12]] (.b (.t [ok 0]) (.t [ok 0]))) .o) (.j 1 (λ(j31:Bool)=>⟨[.k 1,.p 46,.k 33,.s (ba j31),.p 141],[.o 0,.o 1]⟩) (.b (.t [ok 0,ok 1]) (.t [ok 0,ok 1])) (.b (.j 3 (λ(q:(Int × Int × Bool))=>⟨[.k 4,.p 1,.s (ba q.2.2)],[.h 0 [.g [.s (aa q.1),.s (aa q.2.1)]]]⟩) (.a [[],[],[],[],[],[],[],[],[],[],[],[],[],[],[],[],[],[],[],[],[],[],[],[],[18,20]] (.b (.b (.t [ok 0]) (.t [ok 0])) (.t [ok 0]))) .o) (.j 1 (λ(j42:Bool)=>⟨[.k 1,.p 79,.k 27,.s (ba j42),.p 114],[.o 0,.o 1]⟩) (.b (.t [ok 0,ok 1]) (.t [ok 0,ok 1])) (.b (.a [[],[],[],[],[],[],[],[],[2,3,5,6]] .o) (.j 1 (λ(j47:Bool)=>⟨[.k 1,.p 106,.k 11,.s (ba j47),.p 103],[.o 0,.o 1]⟩) (.b (.t [ok 0,ok 1]) (.t [ok 0,ok 1])) (.b (.j 1 (λ(j54:Bool)=>⟨[.k 4,.p 1,.s (ba j54)],[.h 0 [.g [.s (aa 1),.p 1]]]⟩) (.a [[],[],[],[],[],[],[],[],[],[],[],[],[],[],[],[],[],[],[],[],[],[],[16,18]] (.b (.b (.t [ok 0]) (.t [ok 0])) (.t [ok 0]))) .o) (.j 1 (λ(j56:Bool)=>⟨[.k 1,.p 117,.k 25,.s (ba j56),.p 78],[.o 0,.o 1]⟩) (.b (.t [ok 0,ok 1]) (.t [ok 0,ok 1])) (.b (.j 1 (λ(j61:Bool)=>⟨[.k 4,.p 1,.s (ba j61)],[.h 0 [.g [.s (aa 1),.p 1]]]⟩) (.a [[],[],[],[],[],[],[],[],[],[],[],[],[],[8,10]] (.b (.t [ok 0]) (.t [ok 0]))) .o) (.b (.j 3 (λ(q:(Int × Int × Bool))=>⟨[.k 4,.p 1,.s (ba q.2.2)],[.h 0 [.g [.s (aa q.1),.s (aa q.2.1)]]]⟩) (.a [[],[],[],[],[],[],[],[],[],[],[],[],[],[],[],[],[],[10,11,13,14]] (.b (.t [ok 0]) (.t [ok 0]))) .o) (.j 1 (λ(j71:Bool)=>⟨[.k 1,.p 5,.k 2,.p 135,.k 35,.s (ba j71),.p 43],[.o 0]⟩) (.b (.t [ok 0]) (.t [ok 0])) (.b (.j 3 (λ(q:(Int × Int × Bool))=>⟨[.k 4,.p 1,.s (ba q.2.2),.p 2],[.h 0 [.g [.s (aa q.1),.s (aa q.2.1)]]]⟩) (.a [[],[],[],[],[],[],[],[],[],[],[],[],[],[],[],[10,12]] (.b (.t [ok 0]) (.t [ok 0]))) .o) (.j 1 (λ(j80:Bool)=>⟨[.k 1,.p 177,.k 18,.s (ba j80),.p 25],[.o 0]⟩) (.b (.t [ok 0]) (.t [ok 0])) (.b (.j 1 (λ(j85:Bool)=>⟨[.k 4,.p 1,.s (ba j85),.p 2],[.h 0 [.g [.s (aa 2),.p 1]]]⟩) (.a [[],[],[],[],[],[],[],[],[],[],[],[],[],[8,10]] (.b (.t [ok 0]) (.t [ok 0]))) .o) (.j 1 (λ(j87:Bool)=>⟨[.k 1,.p 7,.k 204,.s (ba j87),.p 9],[.o 0]⟩) (.b (.t [ok 0]) (.t [ok 0])) (.b (.a [[],[],[],[],[],[],[2,4]] .o) .o))))))))))))))))))))))⟩
theorem fm{t0}{t1:GRule->Option Bool}{k1:Nat}{q1:List D}(hc1:ja q1=true)(hp1:∀ x0 r,t1 x0=some r->Den Tryz.prog k1 ([Za x0]++q1) (ba r)){r} (h:Kb t0 t1=some r):Den Tryz.prog 240 [me t0,.fn k1 [] q1] (ba r):=by
 haveI I1:∀ x0 r,Con (t1 x0=some r) (Den Tryz.prog k1 ([Za x0]++q1) (ba r)):=λx0 r=>⟨hp1 x0 r⟩
 have s1:∀ f:D->D->Prop,yw f q1 q1=True:=λ_=>pf hc1
 have z1:∀ a b n,Ru a b n q1=q1:=λ_ _ _=>we _ _ _ _ hc1
 haveI:∀ y0 r,Con (pc y0 t1=some r) (Den Tryz.prog 282 [me y0,.fn k1 [] q1] (aa r)):=λy0 r=>⟨Hn hc1 hp1⟩
 refine Den.at 7 U6.ok U6.nm (iD (zO hc1 AA)) rfl ?_
 simp only[U6,Kf.of,zs,ze]
 unfold Kb at h
 exact pg trivial .o
instance {t0 r}:Con (kh t0=some r) (Den Tryz.prog 249 [Ya t0] (.tup [ka r.1,ka r.2.1,ka r.2.2])):=⟨λh=>by
 refine dk 54 k249 ?_
 simp only[k249,Kf.of,zs,ze]
 unfold kh at h
 exact pg @Kg.eq_1 (.l 4 3 (λ(q:((List Int) × (List Int) × (List Int) × Int))=>⟨[.p 2,.k 3,.s (ka q.1),.s (ka q.2.1),.s (ka q.2.2.1),.s (aa q.2.2.2),.p 46],[]⟩) (λ(q:((List Int) × (List Int) × (List Int)))=>⟨[.k 5,.s (ka q.1),.s (ka q.2.1),.s (ka q.2.2)],[]⟩) [] (.b (.j 3 (λ(q:((List Int) × (List Int) × (List Int)))=>⟨[.p 5,.s (ka q.1),.s (ka q.2.1),.s (ka q.2.2),.p 2],[]⟩) (.z 1 (.j 1 (λ(j9:(List Int))=>⟨[.p 5,.s (ka j9),.p 4],[]⟩) (.b (.t []) (.t [])) (.j 1 (λ(j12:(List Int))=>⟨[.p 6,.s (ka j12),.p 48],[]⟩) (.b (.t []) (.t [])) (.j 1 (λ(j14:Bool)=>⟨[.p 9,.k 35,.s (ba j14),.p 10],[]⟩) (.b (.t []) (.t [])) (.b (.t []) (.t [])))))) (.t [])) (.t [])) .o)⟩
instance {t0 t1 r}:Con (Ft t0 t1=some r) (Den Tryz.prog 270 [aa t0,ma t1] (ma r)):=⟨λh=>by
 refine dk 34 k270 ?_
 simp only[k270,Kf.of,zs,ze]
 unfold Ft at h
 exact pg trivial .o⟩
instance {t0 t1 t2 r}:Con (Ni t0 t1 t2=some r) (Den Tryz.prog 271 [La t0,ma t1,ma t2] (.tup [ma r.1,aa r.2])):=⟨λh=>by
 refine dk 136 k271 ?_
 simp only[k271,Kf.of,zs,ze]
 unfold Ni at h
 exact pg trivial (.z 3 (.j 1 (λ(j2:Bool)=>⟨[.k 3,.p 4,.k 4,.p 1,.s (ba j2),.p 126],[.o 0,.o 1,.o 2,.o 3]⟩) (.b (.t [ok 0,ok 1,ok 2,ok 3]) (.t [ok 0,ok 1,ok 2,ok 3])) (.b .o (.b .o (.j 1 (λ(j8:Bool)=>⟨[.k 3,.p 9,.k 21,.s (ba j8),.p 105],[.o 0,.o 1,.o 2,.o 3]⟩) (.b (.t [ok 0,ok 1,ok 2,ok 3]) (.b (.t [ok 0,ok 1,ok 2,ok 3]) (.b (.t [ok 0,ok 1,ok 2,ok 3]) (.t [ok 0,ok 1,ok 2,ok 3])))) (.b .o (.j 1 (λ(j12:Bool)=>⟨[.k 3,.p 30,.k 11,.s (ba j12),.p 94],[.o 0,.o 1,.o 2,.o 3]⟩) (.b (.t [ok 0,ok 1,ok 2,ok 3]) (.t [ok 0,ok 1,ok 2,ok 3])) (.b .o (.b .o (.b .o (.b .o (.b .o (.b (.j 3 (λ(q:(Int × Int × Int))=>⟨[.k 6,.p 1,.s (aa 0),.p 3],[.h 3 [.g [.s (aa q.1),.s (aa q.2.1),.s (aa q.2.2)]]]⟩) (.b (.t [ok 3]) (.t [ok 3])) .o) (.b (.j 3 (λ(q:(Int × Int × Int))=>⟨[.k 6,.p 1,.s (aa 0),.p 3],[.h 3 [.g [.s (aa q.1),.s (aa q.2.1),.s (aa q.2.2)]]]⟩) (.b (.t [ok 3]) (.t [ok 3])) .o) .o))))))))))))))⟩
end Go.Proofs.Dev
