/-
  Contracts of the functions: each answers as its plain partial function says.
-/
import Derived.Test.YtnlamdfggbdblaaGreatDoorK
import Derived.Test.YtnlamdfggbdblaaGreatDoorG
import Derived.Test.YtnlamdfggbdblaaGreatDoorPD
import Derived.Test.YtnlamdfggbdblaaGreatDoorH2
set_option linter.all false
set_option maxHeartbeats 1000000
set_option maxRecDepth 10000
namespace Go.Proofs.Dev
open Go Go.Tm
instance {t0 r}:Con (Rf t0=some r) (Den Tryz.prog 14 [Da t0] (ba r)):=⟨λh=>by
 refine dk 92 k14 ?_
 simp only[k14,Kf.of,zs,ze]
 unfold Rf at h
 exact pg (And.intro @dh.eq_1 (And.intro @fh.eq_1 @gh.eq_1)) (.z 2 (.j 1 (λ(j4:Bool)=>⟨[.k 1,.p 1,.k 26,.s (ba j4),.p 64],[.o 0]⟩) (.b (.b (.b (.t [ok 0]) (.t [ok 0])) (.t [ok 0])) (.t [ok 0])) (.b .o (.l 1 0 (λ(s6:Int)=>⟨[.k 1,.p 2,.s (aa s6),.p 24],[.o 0]⟩) (λ(_:Unit)=>⟨[.k 1,.p 2],[.o 0]⟩) [ok 0] (.b (.b .o (.t [ok 0])) (.t [ok 0])) (.l 1 0 (λ(s11:Int)=>⟨[.k 1,.p 3,.s (aa s11),.p 88],[.o 0]⟩) (λ(_:Unit)=>⟨[.k 1,.p 3],[.o 0]⟩) [ok 0] (.b (.b .o (.t [ok 0])) (.t [ok 0])) (.l 1 0 (λ(s16:Int)=>⟨[.k 1,.p 4,.s (aa s16),.p 87],[.o 0]⟩) (λ(_:Unit)=>⟨[],[]⟩) [ok 0] (.b (.z 2 (.j 1 (λ(j22:Bool)=>⟨[.k 1,.p 5,.k 86,.s (ba j22)],[.o 0]⟩) (.b (.b (.b (.t [ok 0]) (.t [ok 0])) (.t [ok 0])) (.t [ok 0])) (.b .o (.t [ok 0])))) (.t [])) .o))))))⟩
instance {t0 t1 r}:Con (Co t0 t1=some r) (Den Tryz.prog 30 [fb t0,va t1] (ba r)):=⟨λh=>by
 refine dk 38 k30 ?_
 simp only[k30,Kf.of,zs,ze]
 unfold Co at h
 exact pg @cn.eq_1 (.l 1 0 (λ(s1:Int)=>⟨[.p 1,.k 2,.p 1,.k 1,.s (aa s1),.p 34],[.o 0]⟩) (λ(_:Unit)=>⟨[],[]⟩) [ok 0] (.b (.z 1 (.j 1 (λ(j6:Bool)=>⟨[.p 6,.k 33,.s (ba j6)],[.o 0]⟩) (.b (.b (.t [ok 0]) (.t [ok 0])) (.t [ok 0])) (.b .o (.t [ok 0])))) (.t [])) .o)⟩
instance {t0 t1 r}:Con (Eo t0 t1=some r) (Den Tryz.prog 37 [Eh t0,aa t1] (ba r)):=⟨λh=>by
 refine dk 41 k37 ?_
 simp only[k37,Kf.of,zs,ze]
 unfold Eo at h
 exact pg (And.intro @lk.eq_1 @ik.eq_1) (.l 1 0 (λ(s1:Int)=>⟨[.p 4,.k 1,.s (aa s1),.p 37],[]⟩) (λ(_:Unit)=>⟨[],[]⟩) [] (.b (.l 1 0 (λ(s3:Int)=>⟨[.p 6,.s (aa s3)],[]⟩) (λ(_:Unit)=>⟨[.p 6],[]⟩) [] (.b (.z 1 (.j 1 (λ(j8:Bool)=>⟨[.p 13,.k 29,.s (ba j8)],[]⟩) (.b (.t []) (.t [])) (.b .o (.t [])))) (.t [])) (.t [])) (.t [])) .o)⟩
instance {t0 t1 r}:Con (ki t0 t1=some r) (Den Tryz.prog 54 [da t0,da t1] (aa r)):=⟨λh=>by
 refine dk 40 k54 ?_
 simp only[k54,Kf.of,zs,ze]
 unfold ki at h
 exact pg @tf.eq_1 (.b .o (.b .o (.l 1 0 (λ(s3:Int)=>⟨[.k 1,.p 3,.k 11,.p 2,.s (aa s3),.p 24],[]⟩) (λ(_:Unit)=>⟨[],[]⟩) [] (.b (.z 3 (.j 1 (λ(j7:Bool)=>⟨[.k 1,.p 5,.k 9,.p 3,.k 10,.s (ba j7),.p 13],[]⟩) (.b (.t []) (.t [])) (.b .o (.j 1 (λ(j11:Bool)=>⟨[.k 1,.p 4,.k 10,.p 13,.k 12,.s (ba j11),.p 1],[]⟩) (.b (.t []) (.t [])) (.b .o (.t [])))))) (.t [])) .o)))⟩
instance {t0 r}:Con (Mf t0=some r) (Den Tryz.prog 92 [Bb t0] (ba r)):=⟨λh=>by
 refine dk 17 k92 ?_
 simp only[k92,Kf.of,zs,ze]
 unfold Mf at h
 exact pg trivial (.z 1 (.j 1 (λ(j3:Bool)=>⟨[.k 2,.s (ba j3),.p 15],[]⟩) (.b (.b (.t []) (.t [])) (.t [])) .o))⟩
instance {t0 r}:Con (Yp t0=some r) (Den Tryz.prog 139 [HH t0] (ba r)):=⟨λh=>by
 refine dk 8 W3 ?_
 simp only[W3,Kf.of,zs,ze]
 unfold Yp at h
 exact pg trivial (.z 1 (.j 1 (λ(j2:Bool)=>⟨[.k 2,.s (ba j2),.p 6],[]⟩) (.b (.t []) (.t [])) .o))⟩
instance {t0 t1 t2 r}:Con (Vg t0 t1 t2=some r) (Den Tryz.prog 144 [Ud t0,aa t1,Df t2] (ba r)):=⟨λh=>by
 refine dk 23 o4 ?_
 simp only[o4,Kf.of,zs,ze]
 unfold Vg at h
 exact pg @fi.eq_1 (.l 1 0 (λ(s1:Int)=>⟨[.p 6,.k 1,.s (aa s1),.p 18],[]⟩) (λ(_:Unit)=>⟨[],[]⟩) [] (.z 1 (.j 1 (λ(j3:Bool)=>⟨[.p 16,.s (ba j3),.p 9],[]⟩) (.b (.t []) (.t [])) (.b (.b .o (.t [])) (.t [])))) .o)⟩
instance {t0 r}:Con (uk t0=some r) (Den Tryz.prog 150 [aa t0] (ba r)):=⟨λh=>by
 refine dk 34 C4 ?_
 simp only[C4,Kf.of,zs,ze]
 unfold uk at h
 exact pg trivial (.z 2 (.j 1 (λ(j5:Bool)=>⟨[.p 2,.k 14,.s (ba j5),.p 18],[]⟩) (.b (.b (.b (.t []) (.t [])) (.t [])) (.b (.t []) (.t []))) (.b .o (.j 1 (λ(j11:Bool)=>⟨[.k 2,.s (ba j11),.p 13],[]⟩) (.b (.b (.b (.b (.t []) (.t [])) (.t [])) (.t [])) (.t [])) .o))))⟩
instance {t0 t1 r}:Con (Qp t0 t1=some r) (Den Tryz.prog 193 [Ga t0,Uc t1] (ba r)):=⟨λh=>by
 refine dk 79 w5 ?_
 simp only[w5,Kf.of,zs,ze]
 unfold Qp at h
 exact pg trivial (.b (.j 1 (λ(j3:Bool)=>⟨[.k 4,.s (ba j3)],[]⟩) (.b (.t []) (.t [])) .o) (.b (.j 1 (λ(j8:Bool)=>⟨[.k 4,.s (ba j8)],[]⟩) (.b (.b (.t []) (.t [])) (.t [])) .o) (.b (.j 1 (λ(j11:Bool)=>⟨[.k 4,.s (ba j11)],[]⟩) (.b (.t []) (.t [])) .o) (.b .o (.j 1 (λ(j16:Bool)=>⟨[.k 2,.p 2,.k 61,.s (ba j16),.p 15],[.o 0,.o 1]⟩) (.b (.t [ok 0,ok 1]) (.b (.t [ok 0,ok 1]) (.b (.t [ok 0,ok 1]) (.t [ok 0,ok 1])))) (.b (.j 1 (λ(j19:Bool)=>⟨[.k 4,.s (ba j19),.p 60],[]⟩) (.b (.t []) (.t [])) .o) .o))))))⟩
instance {t0 r}:Con (Ub t0=some r) (Den Tryz.prog 197 [ka t0] (ba r)):=⟨λh=>by
 refine dk 82 C5 ?_
 simp only[C5,Kf.of,zs,ze]
 unfold Ub at h
 exact pg trivial (.z 2 (.j 1 (λ(j2:Bool)=>⟨[.k 1,.p 1,.k 8,.s (ba j2),.p 72],[.o 0]⟩) (.b (.t [ok 0]) (.t [ok 0])) (.b .o (.b (.j 1 (λ(j6:Bool)=>⟨[.k 2,.s (ba j6),.p 7],[]⟩) (.b (.t []) (.t [])) .o) (.b (.j 1 (λ(j9:Bool)=>⟨[.k 2,.s (ba j9),.p 7],[]⟩) (.b (.t []) (.t [])) .o) (.b (.j 1 (λ(j12:Bool)=>⟨[.k 2,.s (ba j12),.p 7],[]⟩) (.b (.t []) (.t [])) .o) (.b (.j 1 (λ(j15:Bool)=>⟨[.k 2,.s (ba j15),.p 7],[]⟩) (.b (.t []) (.t [])) .o) (.b (.j 1 (λ(j18:Bool)=>⟨[.k 2,.s (ba j18),.p 7],[]⟩) (.b (.t []) (.t [])) .o) (.b (.j 1 (λ(j23:Bool)=>⟨[.k 2,.s (ba j23),.p 7],[]⟩) (.b (.b (.b (.t []) (.t [])) (.t [])) (.t [])) .o) .o)))))))))⟩
theorem wi{t0 r} (h:ub t0=some r):Den Tryz.prog 210 [aa t0] (qa r):=by
 refine dk 4 O5 ?_
 simp only[O5,Kf.of,zs,ze]
 unfold ub at h
 exact pg trivial .o
instance {t0 r}:Con (ub t0=some r) (Den Tryz.prog 210 [aa t0] (qa r)):=⟨wi⟩
instance {t0 t1 r}:Con (kh t0 t1=some r) (Den Tryz.prog 214 [Ms t0,Df t1] (aa r)):=⟨λh=>by
 refine dk 17 S5 ?_
 simp only[S5,Kf.of,zs,ze]
 unfold kh at h
 exact pg @kd.eq_1 (.l 1 0 (λ(s1:Int)=>⟨[.p 4,.k 3,.p 1,.s (aa s1),.p 10],[]⟩) (λ(_:Unit)=>⟨[],[]⟩) [] (.b (.b .o (.t [])) (.t [])) .o)⟩
instance {t0 r}:Con (Dp t0=some r) (Den Tryz.prog 216 [HH t0] (ba r)):=⟨λh=>by
 refine dk 8 U5 ?_
 simp only[U5,Kf.of,zs,ze]
 unfold Dp at h
 exact pg trivial (.z 1 (.j 1 (λ(j2:Bool)=>⟨[.k 2,.s (ba j2),.p 6],[]⟩) (.b (.t []) (.t [])) .o))⟩
theorem Mk{t0}{t1:GScope->Option Bool}{k1:Nat}{q1:List D}(hc1:ia q1=true)(hp1:∀ x0 r,t1 x0=some r->Den Tryz.prog k1 ([Da x0]++q1) (ba r)){r} (h:Mb t0 t1=some r):Den Tryz.prog 219 [gn t0,.fn k1 [] q1] (aa r):=by
 haveI I1:∀ x0 r,Con (t1 x0=some r) (Den Tryz.prog k1 ([Da x0]++q1) (ba r)):=λx0 r=>⟨hp1 x0 r⟩
 have s1:∀ f:D->D->Prop,Zu f q1 q1=True:=λ_=>bg hc1
 have z1:∀ a b n,Ys a b n q1=q1:=λ_ _ _=>Ld _ _ _ _ hc1
 refine Den.at 17 sY.ok sY.nm (iB (xK hc1 oz)) rfl ?_
 simp only[sY,Kf.of,zs,ze]
 unfold Mb at h
 exact pg @Ec.eq_1 (.l 1 0 (λ(s1:Int)=>⟨[.p 4,.k 3,.p 1,.s (aa s1),.p 10],[]⟩) (λ(_:Unit)=>⟨[],[]⟩) [] (.b (.b .o (.t [])) (.t [])) .o)
theorem Tp{t0 t1 r} (h:Bc t0 t1=some r):Den Tryz.prog 220 [eb t0,Uo t1] (ba r):=by
 refine dk 7 V5 ?_
 simp only[V5,Kf.of,zs,ze]
 unfold Bc at h
 exact pg trivial .o
instance {t0 t1 r}:Con (Bc t0 t1=some r) (Den Tryz.prog 220 [eb t0,Uo t1] (ba r)):=⟨Tp⟩
instance {t0 t1 r}:Con (Ll t0 t1=some r) (Den Tryz.prog 226 [da t0,aa t1] (aa r)):=⟨λh=>by
 refine dk 17 Z5 ?_
 simp only[Z5,Kf.of,zs,ze]
 unfold Ll at h
 exact pg @Jf.eq_1 (.l 1 0 (λ(s1:Int)=>⟨[.p 4,.k 3,.p 1,.s (aa s1),.p 10],[]⟩) (λ(_:Unit)=>⟨[],[]⟩) [] (.b (.b .o (.t [])) (.t [])) .o)⟩
theorem jx{t0:Int}{t1:Int}{t2:Int}{r:(GType×Bool)}(h:vg t0 t1 t2=some r):Den Tryz.prog 230 [aa t0,aa t1,aa t2] (.tup [qa r.1,ba r.2]):=by
 refine dk 44 n6 ?_;simp only[n6,Kf.of,zs,ze];unfold vg at h;refine ss (rg ?_);(try simp only[zz]);refine ss (bk (ss (rg ?_)));(try simp only[zz]);refine cd rfl ?_;(try simp only[zz]);refine gi h (λc1 h=>?_) λc1 h=>?_
 .have e1:=eT c1;refine jm h (λj4=>⟨ds 6 (.ref 0 0 0 0::ba j4::ds 39 []),[.live 2 0 [.agg [aa t1,aa 0]]]⟩) (λz4 h3=>?_) λj4 h3 h=>?_
  .refine rg ?_;(try simp only[zz]);refine gi h3 (λc2 h3=>?_) λc2 h3=>?_
   .have e5:=eT c2;(try simp only[zz,eq_true c2,e5]);refine gi h3 (λc3 h3=>?_) λc3 h3=>?_
    .have e7:=eF c3;(try simp only[zz,eq_true c2,e5,c3,e7]);cases h3;exact tz [ok 0]
    have e8:=eD c3;(try simp only[zz,eq_true c2,e5,c3,e8]);cases h3;exact tz [ok 0]
   have e6:=eF c2;(try simp only[zz,c2,e6]);cases h3;exact tz [ok 0]
  cases h;exact rt ez
 have e2:=eF c1;refine ss (rg ?_);(try simp only[zz]);refine cd rfl ?_;(try simp only[zz]);refine gi h (λc5 h=>?_) λc5 h=>?_
 .have e9:=eT c5;refine jm h (λj7=>⟨ds 6 (.ref 0 0 0 0::ba j7::ds 39 []),[.live 2 0 [.agg [aa t1,aa 0]]]⟩) (λz12 h11=>?_) λj7 h11 h=>?_
  .refine rg ?_;(try simp only[zz]);refine gi h11 (λc6 h11=>?_) λc6 h11=>?_
   .have e13:=eF c6;(try simp only[zz,c6,e13]);cases h11;exact tz [ok 0]
   have e14:=eD c6;(try simp only[zz,c6,e14]);cases h11;exact tz [ok 0]
  cases h;exact rt ez
 have e10:=eF c5;refine jm h (λj10=>⟨ds 6 (.ref 0 0 0 0::ds 27 (ba j10::ds 12 [])),[.live 2 0 [.agg [aa 0,aa 0]]]⟩) (λz16 h15=>?_) λj10 h15 h=>?_
 .refine rg ?_;(try simp only[zz]);refine gi h15 (λc8 h15=>?_) λc8 h15=>?_
  .have e17:=eT c8;(try simp only[zz,eq_true c8,e17]);refine gi h15 (λc9 h15=>?_) λc9 h15=>?_
   .have e19:=eT c9;(try simp only[zz,eq_true c8,e17,eq_true c9,e19]);cases h15;exact tz [ok 0]
   have e20:=eF c9;(try simp only[zz,eq_true c8,e17,c9,e20]);cases h15;exact tz [ok 0]
  have e18:=eF c8;(try simp only[zz,c8,e18]);cases h15;exact tz [ok 0]
 refine cd rfl ?_;(try simp only[zz]);refine gi h (λc11 h=>?_) λc11 h=>?_
 .refine ss (rg ?_);(try simp only[zz]);cases h;exact rt ez
 refine sk ?_;(try simp only[zz,c11]);refine ss (rg ?_);(try simp only[zz]);cases h;exact rt ez
instance {t0 t1 t2 r}:Con (vg t0 t1 t2=some r) (Den Tryz.prog 230 [aa t0,aa t1,aa t2] (.tup [qa r.1,ba r.2])):=⟨jx⟩
instance {t0 t1 t2 r}:Con (Vu t0 t1 t2=some r) (Den Tryz.prog 243 [mb t0,aa t1,aa t2] (.tup [aa r.1,ba r.2])):=⟨λh=>by
  unfold Vu at h
  cases h⟩
instance {t0 r}:Con (Dj t0=some r) (Den Tryz.prog 253 [aa t0] (ba r)):=⟨λh=>by
 refine dk 12 E6 ?_
 simp only[E6,Kf.of,zs,ze]
 unfold Dj at h
 exact pg trivial (.z 1 (.j 1 (λ(j3:Bool)=>⟨[.k 2,.s (ba j3),.p 10],[]⟩) (.b (.b (.t []) (.t [])) (.t [])) .o))⟩
instance {t0 r}:Con (lf t0=some r) (Den Tryz.prog 254 [ba t0] (.tup [ka r.1,aa r.2])):=⟨λh=>by
 refine dk 7 F6 ?_
 simp only[F6,Kf.of,zs,ze]
 unfold lf at h
 exact pg trivial (.z 2 (.j 1 (λ(j2:Int)=>⟨[.k 2,.p 1,.k 1,.s (aa j2),.p 3],[.o 0]⟩) (.b (.t [ok 0]) (.t [ok 0])) .o))⟩
instance {t0 t1 t2 r}:Con (Ou t0 t1 t2=some r) (Den Tryz.prog 256 [mb t0,aa t1,ka t2] (.tup [ka r.1,aa r.2])):=⟨λh=>by
  unfold Ou at h
  cases h⟩
instance {t0 t1 r}:Con (Bj t0 t1=some r) (Den Tryz.prog 262 [da t0,aa t1] (da r)):=⟨λh=>by
 refine dk 46 K6 ?_
 simp only[K6,Kf.of,zs,ze]
 unfold Bj at h
 exact pg @Vj.eq_1 (.l 3 2 (λ(q:((List Int) × Bool × Int))=>⟨[.p 4,.k 1,.s (.own 0 0),.s (ba q.2.1),.s (aa q.2.2),.p 40],[.n 1 ((q.1.map aa))]⟩) (λ(q:((List Int) × Bool))=>⟨[.k 1,.p 3,.k 1,.s (.own 0 0),.s (ba q.2)],[.n 1 ((q.1.map aa))]⟩) [on 1] (.b (.z 1 (.j 2 (λ(q:((List Int) × Bool))=>⟨[.p 6,.s (ba q.2),.p 1],[.c 0 ((q.1.map aa))]⟩) (.j 1 (λ(j7:Bool)=>⟨[.p 8,.k 15,.s (ba j7),.p 24],[.o 0]⟩) (.b (.t [ok 0]) (.t [ok 0])) (.b (.j 1 (λ(j12:(List Int))=>⟨[.p 6,.k 1,.p 16],[.c 0 ((j12.map aa))]⟩) (.b (.t [ov 0 1]) (.t [ok 0])) (.t [ok 0])) (.t [ok 0]))) (.t [ov 0 1]))) (.t [ok 0])) (.j 1 (λ(j24:(List Int))=>⟨[.k 5,.p 1],[.c 0 ((j24.map aa))]⟩) (.b (.t [ov 0 1]) (.t [ok 0])) .o))⟩
instance {t0 r}:Con (mg t0=some r) (Den Tryz.prog 270 [aa t0] (ba r)):=⟨λh=>by
 refine dk 12 O6 ?_
 simp only[O6,Kf.of,zs,ze]
 unfold mg at h
 exact pg trivial (.z 1 (.j 1 (λ(j3:Bool)=>⟨[.k 2,.s (ba j3),.p 10],[]⟩) (.b (.b (.t []) (.t [])) (.t [])) .o))⟩
instance {t0 t1 r}:Con (nr t0 t1=some r) (Den Tryz.prog 277 [aa t0,aa t1] (.tup [aa r.1,aa r.2])):=⟨λh=>by
  unfold nr at h
  cases h⟩
end Go.Proofs.Dev
