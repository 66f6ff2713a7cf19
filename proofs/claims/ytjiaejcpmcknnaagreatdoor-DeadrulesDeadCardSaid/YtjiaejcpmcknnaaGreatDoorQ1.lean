/-
  Contracts of the functions: each answers as its plain partial function says.
-/
import Derived.Test.YtjiaejcpmcknnaaGreatDoorK
import Derived.Test.YtjiaejcpmcknnaaGreatDoorG
import Derived.Test.YtjiaejcpmcknnaaGreatDoorPD
import Derived.Test.YtjiaejcpmcknnaaGreatDoorH1
import Derived.Test.YtjiaejcpmcknnaaGreatDoorH2
set_option linter.all false
set_option maxHeartbeats 1000000
set_option maxRecDepth 10000
namespace Go.Proofs.Dev
open Go Go.Tm
instance {t0 r}:Con (uf t0=some r) (Den Tryz.prog 22 [Ca t0] (ba r)):=⟨λh=>by
 refine dk 92 k22 ?_
 simp only[k22,Kf.of,zs,ze]
 unfold uf at h
 exact pg (And.intro @Kg.eq_1 (And.intro @Lg.eq_1 @Mg.eq_1)) (.z 2 (.j 1 (λ(j4:Bool)=>⟨[.k 1,.p 1,.k 26,.s (ba j4),.p 64],[.o 0]⟩) (.b (.b (.b (.t [ok 0]) (.t [ok 0])) (.t [ok 0])) (.t [ok 0])) (.b .o (.l 1 0 (λ(s6:Int)=>⟨[.k 1,.p 2,.s (aa s6),.p 24],[.o 0]⟩) (λ(_:Unit)=>⟨[.k 1,.p 2],[.o 0]⟩) [ok 0] (.b (.b .o (.t [ok 0])) (.t [ok 0])) (.l 1 0 (λ(s11:Int)=>⟨[.k 1,.p 3,.s (aa s11),.p 88],[.o 0]⟩) (λ(_:Unit)=>⟨[.k 1,.p 3],[.o 0]⟩) [ok 0] (.b (.b .o (.t [ok 0])) (.t [ok 0])) (.l 1 0 (λ(s16:Int)=>⟨[.k 1,.p 4,.s (aa s16),.p 87],[.o 0]⟩) (λ(_:Unit)=>⟨[],[]⟩) [ok 0] (.b (.z 2 (.j 1 (λ(j22:Bool)=>⟨[.k 1,.p 5,.k 86,.s (ba j22)],[.o 0]⟩) (.b (.b (.b (.t [ok 0]) (.t [ok 0])) (.t [ok 0])) (.t [ok 0])) (.b .o (.t [ok 0])))) (.t [])) .o))))))⟩
instance {t0 r}:Con (pf t0=some r) (Den Tryz.prog 89 [ub t0] (ba r)):=⟨λh=>by
 refine dk 17 k89 ?_
 simp only[k89,Kf.of,zs,ze]
 unfold pf at h
 exact pg trivial (.z 1 (.j 1 (λ(j3:Bool)=>⟨[.k 2,.s (ba j3),.p 15],[]⟩) (.b (.b (.t []) (.t [])) (.t [])) .o))⟩
instance {t0 r}:Con (pe t0=some r) (Den Tryz.prog 108 [Ea t0] (ba r)):=⟨λh=>by
 refine dk 9 q4 ?_
 simp only[q4,Kf.of,zs,ze]
 unfold pe at h
 exact pg trivial (.z 3 (.j 1 (λ(j4:Bool)=>⟨[.k 5,.s (ba j4),.p 4],[]⟩) (.b (.t []) (.b (.t []) (.b (.t []) (.t [])))) .o))⟩
theorem ln{t0 t1 r} (h:Eb t0 t1=some r):Den Tryz.prog 144 [qa t0,Jb t1] (ba r):=by
 refine dk 29 q5 ?_
 simp only[q5,Kf.of,zs,ze]
 unfold Eb at h
 exact pg trivial (.b (.j 1 (λ(j3:Bool)=>⟨[.k 4,.s (ba j3)],[]⟩) (.b (.t []) (.t [])) .o) (.j 1 (λ(j6:Bool)=>⟨[.k 4,.s (ba j6)],[]⟩) (.b (.b (.t []) (.t [])) (.t [])) .o))
instance {t0 t1 r}:Con (Eb t0 t1=some r) (Den Tryz.prog 144 [qa t0,Jb t1] (ba r)):=⟨ln⟩
instance {t0 r}:Con (Wk t0=some r) (Den Tryz.prog 149 [aa t0] (ba r)):=⟨λh=>by
 refine dk 21 A5 ?_
 simp only[A5,Kf.of,zs,ze]
 unfold Wk at h
 exact pg trivial (.z 3 (.j 1 (λ(j17:Bool)=>⟨[.k 4,.s (ba j17),.p 17],[]⟩) (.b (.t []) (.b (.t []) (.b (.t []) (.b (.t []) (.b (.t []) (.b (.t []) (.b (.t []) (.b (.t []) (.b (.t []) (.b (.t []) (.b (.t []) (.b (.t []) (.b (.t []) (.b (.t []) (.b (.t []) (.b (.t []) (.t []))))))))))))))))) .o))⟩
instance {t0 t1 r}:Con (Ae t0 t1=some r) (Den Tryz.prog 153 [xa t0,Ea t1] (aa r)):=⟨λh=>by
 refine dk 17 E5 ?_
 simp only[E5,Kf.of,zs,ze]
 unfold Ae at h
 exact pg @bc.eq_1 (.l 1 0 (λ(s1:Int)=>⟨[.p 1,.k 2,.p 1,.k 3,.p 1,.s (aa s1),.p 10],[.o 0]⟩) (λ(_:Unit)=>⟨[],[]⟩) [ok 0] (.b (.b .o (.t [ok 0])) (.t [])) .o)⟩
instance {t0 t1 r}:Con (Dl t0 t1=some r) (Den Tryz.prog 166 [ea t0,ea t1] (aa r)):=⟨λh=>by
 refine dk 43 M5 ?_
 simp only[M5,Kf.of,zs,ze]
 unfold Dl at h
 exact pg @Kh.eq_1 (.b .o (.b .o (.l 1 0 (λ(s3:Int)=>⟨[.p 4,.k 1,.s (aa s3)],[]⟩) (λ(_:Unit)=>⟨[],[]⟩) [] (.b (.z 2 (.j 1 (λ(j7:Bool)=>⟨[.p 14,.k 18,.s (ba j7),.p 12],[]⟩) (.b (.t []) (.t [])) (.b .o (.j 1 (λ(j11:Bool)=>⟨[.p 32,.k 12,.s (ba j11)],[]⟩) (.b (.t []) (.t [])) (.b .o (.t [])))))) (.t [])) .o)))⟩
instance {t0 r}:Con (Gm t0=some r) (Den Tryz.prog 172 [cI t0] (ba r)):=⟨λh=>by
 refine dk 8 R5 ?_
 simp only[R5,Kf.of,zs,ze]
 unfold Gm at h
 exact pg trivial (.z 1 (.j 1 (λ(j2:Bool)=>⟨[.k 2,.s (ba j2),.p 6],[]⟩) (.b (.t []) (.t [])) .o))⟩
instance {t0 r}:Con (dq t0=some r) (Den Tryz.prog 184 [cI t0] (ba r)):=⟨λh=>by
 refine dk 8 a6 ?_
 simp only[a6,Kf.of,zs,ze]
 unfold dq at h
 exact pg trivial (.z 1 (.j 1 (λ(j2:Bool)=>⟨[.k 2,.s (ba j2),.p 6],[]⟩) (.b (.t []) (.t [])) .o))⟩
instance {t0 r}:Con (Sj t0=some r) (Den Tryz.prog 190 [df t0] (ba r)):=⟨λh=>by
 refine dk 28 r6 ?_
 simp only[r6,Kf.of,zs,ze]
 unfold Sj at h
 exact pg @Fg.eq_1 (.l 1 0 (λ(s1:Int)=>⟨[.p 2,.k 1,.s (aa s1),.p 25],[]⟩) (λ(_:Unit)=>⟨[.p 2],[]⟩) [] (.b (.z 1 (.j 1 (λ(j6:Bool)=>⟨[.p 4,.k 21,.s (ba j6),.p 3],[]⟩) (.b (.b (.t []) (.t [])) (.t [])) (.b .o (.t [])))) (.t [])) .o)⟩
instance {t0 r}:Con (Kb t0=some r) (Den Tryz.prog 224 [ka t0] (ba r)):=⟨λh=>by
 refine dk 82 T6 ?_
 simp only[T6,Kf.of,zs,ze]
 unfold Kb at h
 exact pg trivial (.z 2 (.j 1 (λ(j2:Bool)=>⟨[.k 1,.p 1,.k 8,.s (ba j2),.p 72],[.o 0]⟩) (.b (.t [ok 0]) (.t [ok 0])) (.b .o (.b (.j 1 (λ(j6:Bool)=>⟨[.k 2,.s (ba j6),.p 7],[]⟩) (.b (.t []) (.t [])) .o) (.b (.j 1 (λ(j9:Bool)=>⟨[.k 2,.s (ba j9),.p 7],[]⟩) (.b (.t []) (.t [])) .o) (.b (.j 1 (λ(j12:Bool)=>⟨[.k 2,.s (ba j12),.p 7],[]⟩) (.b (.t []) (.t [])) .o) (.b (.j 1 (λ(j15:Bool)=>⟨[.k 2,.s (ba j15),.p 7],[]⟩) (.b (.t []) (.t [])) .o) (.b (.j 1 (λ(j18:Bool)=>⟨[.k 2,.s (ba j18),.p 7],[]⟩) (.b (.t []) (.t [])) .o) (.b (.j 1 (λ(j23:Bool)=>⟨[.k 2,.s (ba j23),.p 7],[]⟩) (.b (.b (.b (.t []) (.t [])) (.t [])) (.t [])) .o) .o)))))))))⟩
theorem Zp{t0 t1 r} (h:nc t0 t1=some r):Den Tryz.prog 238 [Ya t0,Uo t1] (ba r):=by
 refine dk 7 l7 ?_
 simp only[l7,Kf.of,zs,ze]
 unfold nc at h
 exact pg trivial .o
instance {t0 t1 r}:Con (nc t0 t1=some r) (Den Tryz.prog 238 [Ya t0,Uo t1] (ba r)):=⟨Zp⟩
theorem ji{t0 r} (h:kb t0=some r):Den Tryz.prog 250 [aa t0] (qa r):=by
 refine dk 4 D7 ?_
 simp only[D7,Kf.of,zs,ze]
 unfold kb at h
 exact pg trivial .o
instance {t0 r}:Con (kb t0=some r) (Den Tryz.prog 250 [aa t0] (qa r)):=⟨ji⟩
theorem gx{t0:Int}{t1:Int}{t2:Int}{r:(GType×Bool)}(h:Vf t0 t1 t2=some r):Den Tryz.prog 255 [aa t0,aa t1,aa t2] (.tup [qa r.1,ba r.2]):=by
 refine dk 44 I7 ?_;simp only[I7,Kf.of,zs,ze];unfold Vf at h;refine ss (rg ?_);(try simp only[zz]);refine ss (bk (ss (rg ?_)));(try simp only[zz]);refine cd rfl ?_;(try simp only[zz]);refine gi h (λc1 h=>?_) λc1 h=>?_
 .have e1:=eT c1;refine jm h (λj4=>⟨ds 6 (.ref 0 0 0 0::ba j4::ds 39 []),[.live 2 0 [.agg [aa t1,aa 0]]]⟩) (λz4 h3=>?_) λj4 h3 h=>?_
  .refine rg ?_;(try simp only[zz]);refine gi h3 (λc2 h3=>?_) λc2 h3=>?_
   .have e5:=eT c2;(try simp only[zz,eq_true c2,e5]);refine gi h3 (λc3 h3=>?_) λc3 h3=>?_
    .have e7:=eF c3;(try simp only[zz,eq_true c2,e5,c3,e7]);cases h3;exact tz [ok 0]
    have e8:=eD c3;(try simp only[zz,eq_true c2,e5,c3,e8]);cases h3;exact tz [ok 0]
   have e6:=eF c2;(try simp only[zz,c2,e6]);cases h3;exact tz [ok 0]
  cases h;exact rt ez
 have e2:=eF c1;refine ss (rg ?_);(try simp only[zz]);refine cd rfl ?_;(try simp only[zz]);refine gi h (λc5 h=>?_) λc5 h=>?_
 .have e9:=eT c5;refine jm h (λj7=>⟨ds 6 (.ref 0 0 0 0::ba j7::ds 39 []),[.live 2 0 [.agg [aa t1,aa 0]]]⟩) (λz12 h11=>?_) λj7 h11 h=>?_
  .refine rg ?_;(try simp only[zz]);refine gi h11 (λc6 h11=>?_) λc6 h11=>?_
   .have e13:=eF c6;(try simp only[zz,c6,e13]);cases h11;exact tz [ok 0]
   have e14:=eD c6;(try simp only[zz,c6,e14]);cases h11;exact tz [ok 0]
  cases h;exact rt ez
 have e10:=eF c5;refine jm h (λj10=>⟨ds 6 (.ref 0 0 0 0::ds 27 (ba j10::ds 12 [])),[.live 2 0 [.agg [aa 0,aa 0]]]⟩) (λz16 h15=>?_) λj10 h15 h=>?_
 .refine rg ?_;(try simp only[zz]);refine gi h15 (λc8 h15=>?_) λc8 h15=>?_
  .have e17:=eT c8;(try simp only[zz,eq_true c8,e17]);refine gi h15 (λc9 h15=>?_) λc9 h15=>?_
   .have e19:=eT c9;(try simp only[zz,eq_true c8,e17,eq_true c9,e19]);cases h15;exact tz [ok 0]
   have e20:=eF c9;(try simp only[zz,eq_true c8,e17,c9,e20]);cases h15;exact tz [ok 0]
  have e18:=eF c8;(try simp only[zz,c8,e18]);cases h15;exact tz [ok 0]
 refine cd rfl ?_;(try simp only[zz]);refine gi h (λc11 h=>?_) λc11 h=>?_
 .refine ss (rg ?_);(try simp only[zz]);cases h;exact rt ez
 refine sk ?_;(try simp only[zz,c11]);refine ss (rg ?_);(try simp only[zz]);cases h;exact rt ez
instance {t0 t1 t2 r}:Con (Vf t0 t1 t2=some r) (Den Tryz.prog 255 [aa t0,aa t1,aa t2] (.tup [qa r.1,ba r.2])):=⟨gx⟩
instance {t0 t1 t2 r}:Con (av t0 t1 t2=some r) (Den Tryz.prog 268 [eb t0,aa t1,aa t2] (.tup [aa r.1,ba r.2])):=⟨λh=>by
  unfold av at h
  cases h⟩
instance {t0 t1 r}:Con (jq t0 t1=some r) (Den Tryz.prog 274 [Ea t0,Kc t1] (ba r)):=⟨λh=>by
 refine dk 79 S7 ?_
 simp only[S7,Kf.of,zs,ze]
 unfold jq at h
 exact pg trivial (.b (.j 1 (λ(j3:Bool)=>⟨[.k 4,.s (ba j3)],[]⟩) (.b (.t []) (.t [])) .o) (.b (.j 1 (λ(j8:Bool)=>⟨[.k 4,.s (ba j8)],[]⟩) (.b (.b (.t []) (.t [])) (.t [])) .o) (.b (.j 1 (λ(j11:Bool)=>⟨[.k 4,.s (ba j11)],[]⟩) (.b (.t []) (.t [])) .o) (.b .o (.j 1 (λ(j16:Bool)=>⟨[.k 2,.p 2,.k 61,.s (ba j16),.p 15],[.o 0,.o 1]⟩) (.b (.t [ok 0,ok 1]) (.b (.t [ok 0,ok 1]) (.b (.t [ok 0,ok 1]) (.t [ok 0,ok 1])))) (.b (.j 1 (λ(j19:Bool)=>⟨[.k 4,.s (ba j19),.p 60],[]⟩) (.b (.t []) (.t [])) .o) .o))))))⟩
theorem Ik{t0}{t1:GField->Option Bool}{k1:Nat}{q1:List D}(hc1:la q1=true)(hp1:∀ x0 r,t1 x0=some r->Den Tryz.prog k1 ([Ya x0]++q1) (ba r)){r} (h:Ab t0 t1=some r):Den Tryz.prog 281 [Gd t0,.fn k1 [] q1] (aa r):=by
 haveI I1:∀ x0 r,Con (t1 x0=some r) (Den Tryz.prog k1 ([Ya x0]++q1) (ba r)):=λx0 r=>⟨hp1 x0 r⟩
 have s1:∀ f:D->D->Prop,Dv f q1 q1=True:=λ_=>Zh hc1
 have z1:∀ a b n,Nt a b n q1=q1:=λ_ _ _=>me _ _ _ _ hc1
 refine Den.at 17 YY.ok YY.nm (kD (HN hc1 oB)) rfl ?_
 simp only[YY,Kf.of,zs,ze]
 unfold Ab at h
 exact pg @qc.eq_1 (.l 1 0 (λ(s1:Int)=>⟨[.p 4,.k 3,.p 1,.s (aa s1),.p 10],[]⟩) (λ(_:Unit)=>⟨[],[]⟩) [] (.b (.b .o (.t [])) (.t [])) .o)
instance {t0 t1 r}:Con (sj t0 t1=some r) (Den Tryz.prog 284 [ea t0,aa t1] (ea r)):=⟨λh=>by
 refine dk 46 Z7 ?_
 simp only[Z7,Kf.of,zs,ze]
 unfold sj at h
 exact pg @Oj.eq_1 (.l 3 2 (λ(q:((List Int) × Bool × Int))=>⟨[.p 4,.k 1,.s (.own 0 0),.s (ba q.2.1),.s (aa q.2.2),.p 40],[.n 1 ((q.1.map aa))]⟩) (λ(q:((List Int) × Bool))=>⟨[.k 1,.p 3,.k 1,.s (.own 0 0),.s (ba q.2)],[.n 1 ((q.1.map aa))]⟩) [on 1] (.b (.z 1 (.j 2 (λ(q:((List Int) × Bool))=>⟨[.p 6,.s (ba q.2),.p 1],[.c 0 ((q.1.map aa))]⟩) (.j 1 (λ(j7:Bool)=>⟨[.p 8,.k 15,.s (ba j7),.p 24],[.o 0]⟩) (.b (.t [ok 0]) (.t [ok 0])) (.b (.j 1 (λ(j12:(List Int))=>⟨[.p 6,.k 1,.p 16],[.c 0 ((j12.map aa))]⟩) (.b (.t [ov 0 1]) (.t [ok 0])) (.t [ok 0])) (.t [ok 0]))) (.t [ov 0 1]))) (.t [ok 0])) (.j 1 (λ(j24:(List Int))=>⟨[.k 5,.p 1],[.c 0 ((j24.map aa))]⟩) (.b (.t [ov 0 1]) (.t [ok 0])) .o))⟩
instance {t0 r}:Con (Of t0=some r) (Den Tryz.prog 286 [aa t0] (ba r)):=⟨λh=>by
 refine dk 12 a8 ?_
 simp only[a8,Kf.of,zs,ze]
 unfold Of at h
 exact pg trivial (.z 1 (.j 1 (λ(j3:Bool)=>⟨[.k 2,.s (ba j3),.p 10],[]⟩) (.b (.b (.t []) (.t [])) (.t [])) .o))⟩
instance {t0 t1 r}:Con (Ar t0 t1=some r) (Den Tryz.prog 293 [aa t0,aa t1] (.tup [aa r.1,aa r.2])):=⟨λh=>by
  unfold Ar at h
  cases h⟩
instance {t0 r}:Con (vj t0=some r) (Den Tryz.prog 301 [aa t0] (ba r)):=⟨λh=>by
 refine dk 12 q8 ?_
 simp only[q8,Kf.of,zs,ze]
 unfold vj at h
 exact pg trivial (.z 1 (.j 1 (λ(j3:Bool)=>⟨[.k 2,.s (ba j3),.p 10],[]⟩) (.b (.b (.t []) (.t [])) (.t [])) .o))⟩
instance {t0 t1 t2 r}:Con (Uu t0 t1 t2=some r) (Den Tryz.prog 304 [eb t0,aa t1,ka t2] (.tup [ka r.1,aa r.2])):=⟨λh=>by
  unfold Uu at h
  cases h⟩
instance {t0 t1 t2 t3 t4 r}:Con (Gp t0 t1 t2 t3 t4=some r) (Den Tryz.prog 354 [aa t0,aa t1,aa t2,ba t3,aa t4] (aa r)):=⟨λh=>by
 refine dk 60 L8 ?_
 simp only[L8,Kf.of,zs,ze]
 unfold Gp at h
 exact pg trivial (.z 2 (.j 2 (λ(q:(Bool × Bool))=>⟨[.p 1,.k 2,.s (ba q.1),.k 7,.s (ba q.2),.p 53],[]⟩) (.b (.b (.t []) (.t [])) (.b (.b (.t []) (.t [])) (.b (.t []) (.b (.t []) (.b (.b (.b (.t []) (.t [])) (.t [])) (.t [])))))) (.j 1 (λ(j13:Int)=>⟨[.s (aa j13),.p 10],[]⟩) (.b (.t []) (.t [])) .o)))⟩
end Go.Proofs.Dev
