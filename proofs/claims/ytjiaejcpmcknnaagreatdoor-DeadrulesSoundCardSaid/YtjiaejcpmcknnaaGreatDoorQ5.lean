/-
  Contracts of the functions: each answers as its plain partial function says.
-/
import Derived.Test.YtjiaejcpmcknnaaGreatDoorK
import Derived.Test.YtjiaejcpmcknnaaGreatDoorG
import Derived.Test.YtjiaejcpmcknnaaGreatDoorPD
import Derived.Test.YtjiaejcpmcknnaaGreatDoorH1
import Derived.Test.YtjiaejcpmcknnaaGreatDoorH2
import Derived.Test.YtjiaejcpmcknnaaGreatDoorQ0
import Derived.Test.YtjiaejcpmcknnaaGreatDoorQ1
import Derived.Test.YtjiaejcpmcknnaaGreatDoorQ2
import Derived.Test.YtjiaejcpmcknnaaGreatDoorQ3
set_option linter.all false
set_option maxHeartbeats 1000000
set_option maxRecDepth 10000
namespace Go.Proofs.Dev
open Go Go.Tm
instance zzi20 {t0 t1 t2 r}:Con (Qj t0 t1 t2=some r) (Den Tryz.prog 50 [Ea t0,aa t1,aa t2] (la r)):=⟨λh=>by
 refine dk 36 k50 ?_
 simp only[k50,Kf.of,zs,ze]
 unfold Qj at h
 exact pg @Hk.eq_1 (.l 2 1 (λ(q:((List Int) × Int))=>⟨[.k 1,.p 5,.k 1,.s (.own 1 0),.s (aa q.2),.p 30],[.o 0,.n 1 ((q.1.map aa))]⟩) (λ(b13:(List Int))=>⟨[.k 7,.s (.own 0 0)],[.n 1 ((b13.map aa))]⟩) [ok 0,on 1] (.b (.j 1 (λ(j10:(List Int))=>⟨[.k 1,.p 8],[.o 0,.c 1 ((j10.map aa))]⟩) (.j 1 (λ(j7:Bool)=>⟨[.k 1,.p 8,.k 24,.s (ba j7),.p 5],[.o 0,.o 1]⟩) (.b (.t [ok 0,ok 1]) (.t [ok 0,ok 1])) (.b (.t [ok 0,ov 1 1]) (.t [ok 0,ok 1]))) (.t [ok 0,ok 1])) (.t [ok 1])) .o)⟩
instance {t0 t1 r}:Con (Qi t0 t1=some r) (Den Tryz.prog 68 [Vi t0,aa t1] (ba r)):=⟨λh=>by
 refine dk 16 k68 ?_
 simp only[k68,Kf.of,zs,ze]
 unfold Qi at h
 exact pg @Rf.eq_1 (.l 1 0 (λ(s1:Int)=>⟨[.k 1,.p 3,.k 3,.p 2,.s (aa s1),.p 8],[]⟩) (λ(_:Unit)=>⟨[],[]⟩) [] (.b (.b .o (.t [])) (.t [])) .o)⟩
instance {t0 t1 t2 r}:Con (Tc t0 t1 t2=some r) (Den Tryz.prog 118 [Bb t0,jb t1,Cb t2] (.tup [aa r.1,aa r.2])):=⟨λh=>by
 refine dk 68 k118 ?_
 simp only[k118,Kf.of,zs,ze]
 unfold Tc at h
 exact pg @me.eq_1 (.b .o (.b .o (.l 1 0 (λ(s3:Int)=>⟨[.k 2,.p 4,.k 21,.p 2,.s (aa s3),.p 41],[.o 0]⟩) (λ(_:Unit)=>⟨[],[]⟩) [ok 0] (.b (.z 4 (.j 1 (λ(j8:Bool)=>⟨[.k 2,.p 28,.k 20,.s (ba j8),.p 20],[.o 0,.o 1,.o 2]⟩) (.b (.t [ok 0,ok 1,ok 2]) (.t [ok 0,ok 1,ok 2])) (.b .o (.z 1 (.j 1 (λ(j12:Bool)=>⟨[.k 2,.p 7,.k 18,.p 23,.k 18,.s (ba j12),.p 2],[.o 0]⟩) (.b (.t [ok 0]) (.t [ok 0])) (.b .o (.t [ok 0]))))))) (.t [])) .o)))⟩
instance {t0 c10 r}:Con (Va t0 (λx900=>Ye x900 c10)=some r) (Den Tryz.prog 177 [Dh t0,.fn 178 [] [Hr c10]] (ba r)):=⟨λh=>Ml (q1:=[Hr c10]) (tE JC) (λx900 _ hb=>Wt hb) h⟩
theorem zE{t0 t1 r} (h:Dl t0 t1=some r):Den Tryz.prog 132 [Dh t0,vg t1] (ba r):=by
 refine dk 6 k132 ?_
 simp only[k132,Kf.of,zs,ze]
 unfold Dl at h
 exact pg trivial .o
instance {t0 t1 r}:Con (Dl t0 t1=some r) (Den Tryz.prog 132 [Dh t0,vg t1] (ba r)):=⟨zE⟩
instance {t0 t1 r}:Con (bb t0 t1=some r) (Den Tryz.prog 195 [Na t0,wa t1] (ba r)):=⟨λh=>by
 refine dk 60 k195 ?_
 simp only[k195,Kf.of,zs,ze]
 unfold bb at h
 exact pg trivial (.z 3 (.j 1 (λ(j5:Bool)=>⟨[.k 2,.p 2,.k 4,.p 1,.s (ba j5),.p 52],[.o 0,.o 1]⟩) (.b (.t [ok 0,ok 1]) (.b (.t [ok 0,ok 1]) (.b (.t [ok 0,ok 1]) (.b (.t [ok 0,ok 1]) (.t [ok 0,ok 1]))))) (.b (.z 1 (.j 1 (λ(j10:Bool)=>⟨[.k 4,.s (ba j10)],[]⟩) (.b (.t []) (.t [])) .o)) (.j 1 (λ(j13:Bool)=>⟨[.k 2,.p 1,.k 5,.p 1,.k 25,.s (ba j13),.p 27],[.o 0]⟩) (.b (.t [ok 0]) (.b (.t [ok 0]) (.t [ok 0]))) (.b (.j 1 (λ(j16:Bool)=>⟨[.k 4,.s (ba j16),.p 3],[]⟩) (.b (.t []) (.t [])) .o) (.b (.j 1 (λ(j19:Bool)=>⟨[.k 4,.s (ba j19),.p 3],[]⟩) (.b (.t []) (.t [])) .o) .o))))))⟩
instance {t0 t1 r}:Con (Pj t0 t1=some r) (Den Tryz.prog 197 [Na t0,wa t1] (.tup [ua r.1,ba r.2])):=⟨λh=>by
 refine dk 89 k197 ?_
 simp only[k197,Kf.of,zs,ze]
 unfold Pj at h
 exact pg trivial (.z 2 (.j 2 (λ(q:(Int × Int))=>⟨[.k 2,.p 3,.k 1,.p 2],[.o 0,.o 1,.o 2,.h 3 [.g [.s (aa q.1),.s (aa q.2)]]]⟩) (.b (.t [ok 0,ok 1,ok 2,ok 3]) (.b (.t [ok 0,ok 1,ok 2,ok 3]) (.b (.t [ok 0,ok 1,ok 2,ok 3]) (.b (.t [ok 0,ok 1,ok 2,ok 3]) (.b (.t [ok 0,ok 1,ok 2,ok 3]) (.j 1 (λ(j13:Bool)=>⟨[.k 2,.p 3,.k 1,.p 2,.k 34,.s (ba j13),.p 48],[.o 0,.o 1,.o 2,.o 3]⟩) (.b (.t [ok 0,ok 1,ok 2,ok 3]) (.b (.t [ok 0,ok 1,ok 2,ok 3]) (.b (.t [ok 0,ok 1,ok 2,ok 3]) (.t [ok 0,ok 1,ok 2,ok 3])))) (.b (.t [ok 0,ok 1,ok 2,ok 3]) (.t [ok 0,ok 1,ok 2,ok 3])))))))) (.z 1 (.j 1 (λ(j30:Bool)=>⟨[.k 4,.p 3,.s (ba j30),.p 45],[.o 2,.o 3]⟩) (.b (.b (.b (.t [ok 2,ok 3]) (.t [ok 2,ok 3])) (.t [ok 2,ok 3])) (.j 1 (λ(j24:Bool)=>⟨[.k 4,.p 49,.k 5,.p 1,.k 13,.s (ba j24),.p 18],[.o 2,.o 3]⟩) (.b (.t [ok 2,ok 3]) (.t [ok 2,ok 3])) (.b (.b (.t [ok 0,ok 1]) (.t [ok 0,ok 1])) (.b (.b (.t [ok 0,ok 1]) (.t [ok 0,ok 1])) (.t [ok 0,ok 1]))))) .o))))⟩
theorem FE{t0:Int}{t1:GType}{t2:GType}{r:(GType×Bool)}(h:rj t0 t1 t2=some r):Den Tryz.prog 199 [aa t0,ua t1,ua t2] (.tup [ua r.1,ba r.2]):=by
 refine dk 105 k199 ?_;simp only[k199,Kf.of,zs,ze];unfold rj at h;refine ss (rg ?_);(try simp only[zz]);refine ss (ss (rg ?_));(try simp only[zz]);refine bk ?_;refine jm h (λj2=>⟨aa t0::ds 3 (.ref 0 0 0 0::.ref 1 0 0 0::.ref 2 0 0 0::.dead::aa t0::ba j2::ds 98 []),[.live 2 0 [ua t1],.live 2 0 [ua t2],.live 2 0 [.agg [aa 0,aa 0]]]⟩) (λz2 h1=>?_) λj2 h1 h=>?_
 .refine ss (rg ?_);(try simp only[zz]);refine cd rfl ?_;(try simp only[zz]);refine gi h1 (λc1 h1=>?_) λc1 h1=>?_
  .have e3:=eT c1;refine sk ?_;(try simp only[zz,eq_true c1,e3]);cases h1;exact tz [ok 0,ok 1,ok 2]
  have e4:=eF c1;refine rg ?_;(try simp only[zz]);cases h1;exact tz [ok 0,ok 1,ok 2]
 refine cd rfl ?_;(try simp only[zz]);refine gi h (λc3 h=>?_) λc3 h=>?_
 .refine jm h (λj6=>⟨ds 6 (.ref 0 0 0 0::ba j6::ds 100 []),[.live 2 0 [ua t1]]⟩) (λz6 h5=>?_) λj6 h5 h=>?_
  .refine ay Ho [[],[],[],[],[],[],[],[],[],[]] (by kernel_rfl) ?_;(try simp only[zz,zy]);refine gi h5 (λc4 h5=>?_) λc4 h5=>?_
   .obtain⟨x5,a7,h5⟩:=bs h5;simp only[zz,eq_true c4,zy];refine lq (Vs a7) ?_ (by simp only[zg,c3]);(try simp only[zz,eq_true c4,zy]);cases h5;exact tz [ok 2]
   (try simp only[zz,c4,zy]);cases h5;exact tz [ok 2]
  cases h;exact rt ez
 refine jm h (λj9=>⟨aa t0::ds 3 (.ref 0 0 0 0::.ref 1 0 0 0::.ref 2 0 0 0::.dead::aa t0::ds 12 (ba j9::ds 86 [])),[.live 2 0 [ua t1],.live 2 0 [ua t2],.live 2 0 [.agg [aa 0,aa 0]]]⟩) (λz9 h8=>?_) λj9 h8 h=>?_
 .refine ss (rg ?_);(try simp only[zz]);refine cd rfl ?_;(try simp only[zz]);refine gi h8 (λc7 h8=>?_) λc7 h8=>?_
  .have e10:=eT c7;refine sk ?_;(try simp only[zz,eq_true c7,e10]);cases h8;exact tz [ok 0,ok 1,ok 2]
  have e11:=eF c7;refine ss (rg ?_);(try simp only[zz]);refine cd rfl ?_;(try simp only[zz]);refine gi h8 (λc8 h8=>?_) λc8 h8=>?_
  .have e12:=eT c8;refine sk ?_;(try simp only[zz,eq_true c8,e12]);cases h8;exact tz [ok 0,ok 1,ok 2]
  have e13:=eF c8;refine rg ?_;(try simp only[zz]);cases h8;exact tz [ok 0,ok 1,ok 2]
 refine cd rfl ?_;(try simp only[zz]);refine gi h (λc10 h=>?_) λc10 h=>?_
 .refine ss (rg ?_);obtain⟨x11,a14,h⟩:=bs h;simp only[zz];refine cq (ox a14) ?_ (by simp only[zg,c3,c10]);(try simp only[zz]);cases h;exact rt ez
 refine ss (rg ?_);(try simp only[zz]);refine cd rfl ?_;(try simp only[zz]);refine gi h (λc12 h=>?_) λc12 h=>?_
 .have e15:=eT c12;refine jm h (λj14=>⟨ds 6 (.ref 0 0 0 0::ba j14::ds 100 []),[.live 2 0 [ua t1]]⟩) (λz18 h17=>?_) λj14 h17 h=>?_
  .refine ay Ho [[],[],[],[],[],[],[],[],[],[6]] (by kernel_rfl) ?_;(try simp only[zz,zy]);refine gi h17 (λc13 h17=>?_) λc13 h17=>?_
   .have e19:=eT c13;(try simp only[zz,eq_true c13,e19,zy]);cases h17;exact tz [ok 2]
   have e20:=eF c13;(try simp only[zz,c13,e20,zy]);cases h17;exact tz [ok 2]
  cases h;exact rt ez
 have e16:=eF c12;refine jm h (λj16=>⟨ds 4 (.ref 0 0 0 0::.ref 1 0 0 0::.ref 2 0 0 0::.dead::aa t0::ds 35 (ba j16::ds 63 [])),[.live 2 0 [ua t1],.live 2 0 [ua t2],.live 2 0 [.agg [aa 0,aa 0]]]⟩) (λz22 h21=>?_) λj16 h21 h=>?_
 .refine ss (rg ?_);(try simp only[zz]);refine cd rfl ?_;(try simp only[zz]);refine gi h21 (λc15 h21=>?_) λc15 h21=>?_
  .have e23:=eT c15;refine sk ?_;(try simp only[zz,eq_true c15,e23]);cases h21;exact tz [ok 0,ok 1,ok 2]
  have e24:=eF c15;refine rg ?_;(try simp only[zz]);cases h21;exact tz [ok 0,ok 1,ok 2]
 refine cd rfl ?_;(try simp only[zz]);refine gi h (λc17 h=>?_) λc17 h=>?_
 .refine jm h (λj20=>⟨ds 6 (.ref 0 0 0 0::ba j20::ds 100 []),[.live 2 0 [ua t1]]⟩) (λz26 h25=>?_) λj20 h25 h=>?_
  .refine ay Ho [[],[],[],[],[],[],[],[],[],[]] (by kernel_rfl) ?_;(try simp only[zz,zy]);refine gi h25 (λc18 h25=>?_) λc18 h25=>?_
   .obtain⟨x19,a27,h25⟩:=bs h25;simp only[zz,eq_true c18,zy];refine lq (ur a27) ?_ (by simp only[zg,c3,c10,e16,c17]);(try simp only[zz,eq_true c18,zy]);cases h25;exact tz [ok 2]
   (try simp only[zz,c18,zy]);cases h25;exact tz [ok 2]
  cases h;exact rt ez
 refine jm h (λj22=>⟨ds 4 (.ref 0 0 0 0::.ref 1 0 0 0::.ref 2 0 0 0::.dead::aa t0::ds 47 (ba j22::ds 51 [])),[.live 2 0 [ua t1],.live 2 0 [ua t2],.live 2 0 [.agg [aa 0,aa 0]]]⟩) (λz29 h28=>?_) λj22 h28 h=>?_
 .refine ss (rg ?_);(try simp only[zz]);refine cd rfl ?_;(try simp only[zz]);refine gi h28 (λc21 h28=>?_) λc21 h28=>?_
  .have e30:=eT c21;refine sk ?_;(try simp only[zz,eq_true c21,e30]);cases h28;exact tz [ok 0,ok 1,ok 2]
  have e31:=eF c21;refine rg ?_;(try simp only[zz]);cases h28;exact tz [ok 0,ok 1,ok 2]
 refine cd rfl ?_;(try simp only[zz]);refine gi h (λc23 h=>?_) λc23 h=>?_
 .refine ss (ay Ho [[],[],[],[],[1,2]] (by kernel_rfl) ?_);obtain⟨x24,a32,h⟩:=bs h;simp only[zz,zy];refine lq (Oj a32) ?_ (by simp only[zg,c3,c10,e16,c17,c23]);(try simp only[zz,zy]);cases h;exact rt ez
 refine jm h (λj26=>⟨ds 4 (.ref 0 0 0 0::.ref 1 0 0 0::.ref 2 0 0 0::.dead::aa t0::ds 54 (ba j26::ds 44 [])),[.live 2 0 [ua t1],.live 2 0 [ua t2],.live 2 0 [.agg [aa 0,aa 0]]]⟩) (λz34 h33=>?_) λj26 h33 h=>?_
 .refine ss (rg ?_);(try simp only[zz]);refine cd rfl ?_;(try simp only[zz]);refine gi h33 (λc25 h33=>?_) λc25 h33=>?_
  .have e35:=eT c25;refine sk ?_;(try simp only[zz,eq_true c25,e35]);cases h33;exact tz [ok 0,ok 1,ok 2]
  have e36:=eF c25;refine rg ?_;(try simp only[zz]);cases h33;exact tz [ok 0,ok 1,ok 2]
 refine cd rfl ?_;(try simp only[zz]);refine gi h (λc27 h=>?_) λc27 h=>?_
 .refine jm h (λq=>⟨ds 6 (.ref 0 0 0 0::ba q.2.2::ds 100 []),[.live 2 0 [.agg [aa q.1,aa q.2.1]]]⟩) (λz38 h37=>?_) λz38 h37 h=>?_
  .refine ay Ho [[],[],[],[],[],[],[],[],[],[]] (by kernel_rfl) ?_;obtain⟨x28,a39,h37⟩:=bs h37;simp only[zz,zy];refine lq (Oj a39) ?_ (by simp only[zg,c3,c10,e16,c17,c23,c27]);(try simp only[zz,zy]);refine gi h37 (λc29 h37=>?_) λc29 h37=>?_
   .obtain⟨x30,a40,h37⟩:=bs h37;simp only[zz,eq_true c29,zy];refine lq (ur a40) ?_ (by simp only[zg,c3,c10,e16,c17,c23,c27]);(try simp only[zz,eq_true c29,zy]);cases h37;exact tz [ok 2]
   (try simp only[zz,c29,zy]);cases h37;exact tz [ok 2]
  obtain⟨j31,j32,j33⟩:=z38;dsimp only at h;cases h;exact rt ez
 refine jm h (λj35=>⟨ds 4 (.ref 0 0 0 0::.ref 1 0 0 0::.ref 2 0 0 0::.dead::aa t0::ds 66 (ba j35::ds 32 [])),[.live 2 0 [ua t1],.live 2 0 [ua t2],.live 2 0 [.agg [aa 0,aa 0]]]⟩) (λz42 h41=>?_) λj35 h41 h=>?_
 .refine ss (rg ?_);(try simp only[zz]);refine cd rfl ?_;(try simp only[zz]);refine gi h41 (λc34 h41=>?_) λc34 h41=>?_
  .have e43:=eT c34;refine sk ?_;(try simp only[zz,eq_true c34,e43]);cases h41;exact tz [ok 0,ok 1,ok 2]
  have e44:=eF c34;refine rg ?_;(try simp only[zz]);cases h41;exact tz [ok 0,ok 1,ok 2]
 refine cd rfl ?_;(try simp only[zz]);refine gi h (λc36 h=>?_) λc36 h=>?_
 .refine jm h (λj38=>⟨ds 6 (.ref 0 0 0 0::ba j38::ds 100 []),[.live 2 0 [ua t1]]⟩) (λz46 h45=>?_) λj38 h45 h=>?_
  .refine ay Ho [[],[],[],[],[],[],[],[],[],[6]] (by kernel_rfl) ?_;(try simp only[zz,zy]);refine gi h45 (λc37 h45=>?_) λc37 h45=>?_
   .have e47:=eT c37;(try simp only[zz,eq_true c37,e47,zy]);cases h45;exact tz [ok 2]
   have e48:=eF c37;(try simp only[zz,c37,e48,zy]);cases h45;exact tz [ok 2]
  cases h;exact rt ez
 refine jm h (λj40=>⟨ds 4 (.ref 0 0 0 0::.ref 1 0 0 0::.ref 2 0 0 0::ds 80 (ba j40::ds 20 [])),[.live 2 0 [ua t1],.live 2 0 [ua t2],.live 2 0 [.agg [aa 0,aa 0]]]⟩) (λz50 h49=>?_) λj40 h49 h=>?_
 .refine ss (rg ?_);(try simp only[zz]);refine cd rfl ?_;(try simp only[zz]);refine gi h49 (λc39 h49=>?_) λc39 h49=>?_
  .have e51:=eT c39;refine sk ?_;(try simp only[zz,eq_true c39,e51]);cases h49;exact tz [ok 0,ok 1,ok 2]
  have e52:=eF c39;refine rg ?_;(try simp only[zz]);cases h49;exact tz [ok 0,ok 1,ok 2]
 refine cd rfl ?_;(try simp only[zz]);refine gi h (λc41 h=>?_) λc41 h=>?_
 .refine jm h (λj43=>⟨ds 6 (.ref 0 0 0 0::ba j43::ds 100 []),[.live 2 0 [ua t1]]⟩) (λz54 h53=>?_) λj43 h53 h=>?_
  .refine ay Ho [[],[],[],[],[],[],[],[],[],[6]] (by kernel_rfl) ?_;(try simp only[zz,zy]);refine gi h53 (λc42 h53=>?_) λc42 h53=>?_
   .have e55:=eT c42;(try simp only[zz,eq_true c42,e55,zy]);cases h53;exact tz [ok 2]
   have e56:=eF c42;(try simp only[zz,c42,e56,zy]);cases h53;exact tz [ok 2]
  cases h;exact rt ez
 refine sk ?_;(try simp only[zz,c41]);refine jm h (λq=>⟨ds 6 (.ref 0 0 0 0::ba q.2.2::ds 100 []),[.live 2 0 [.agg [aa q.1,aa q.2.1]]]⟩) (λz58 h57=>?_) λz58 h57 h=>?_
 .refine ay Ho [[],[],[],[],[],[],[],[],[],[6]] (by kernel_rfl) ?_;obtain⟨x44,a59,h57⟩:=bs h57;simp only[zz,zy];refine lq (Oj a59) ?_ (by simp only[zg,c3,c10,e16,c17,c23,c27,c36,c41]);(try simp only[zz,zy]);refine gi h57 (λc45 h57=>?_) λc45 h57=>?_
  .have e60:=eT c45;(try simp only[zz,eq_true c45,e60,zy]);cases h57;exact tz [ok 2]
  have e61:=eF c45;(try simp only[zz,c45,e61,zy]);cases h57;exact tz [ok 2]
 obtain⟨j46,j47,j48⟩:=z58;dsimp only at h;cases h;exact rt ez
instance {t0 t1 t2 r}:Con (rj t0 t1 t2=some r) (Den Tryz.prog 199 [aa t0,ua t1,ua t2] (.tup [ua r.1,ba r.2])):=⟨FE⟩
instance {t0 t1 r}:Con (Wj t0 t1=some r) (Den Tryz.prog 233 [Gb t0,Gb t1] (.tup [Gb r.1,ba r.2])):=⟨λh=>by
 refine dk 32 k233 ?_
 simp only[k233,Kf.of,zs,ze]
 unfold Wj at h
 exact pg trivial (.z 2 (.j 1 (λ(j4:Bool)=>⟨[.k 2,.p 3,.k 9,.s (ba j4),.p 19],[.o 0,.o 1,.o 2]⟩) (.b (.t [ok 0,ok 1,ok 2]) (.t [ok 0,ok 1,ok 2])) .o))⟩
instance {t0 t1 t2 r}:Con (Jq t0 t1 t2=some r) (Den Tryz.prog 57 [Ea t0,aa t1,aa t2] (Vi r)):=⟨λh=>by
 refine dk 41 k57 ?_
 simp only[k57,Kf.of,zs,ze]
 unfold Jq at h
 exact pg @Xs.eq_1 (.l 2 1 (λ(q:((List (List GNode)) × Int))=>⟨[.k 3,.p 3,.k 1,.s (.own 1 0),.p 1,.s (aa q.2)],[.o 0,.n 1 ((q.1.map Wa))]⟩) (λ(b12:(List (List GNode)))=>⟨[.k 7,.s (.own 0 0)],[.n 1 ((b12.map Wa))]⟩) [ok 0,on 1] (.b (.j 1 (λ(j9:(List (List GNode)))=>⟨[.k 3,.p 11],[.o 0,.c 1 ((j9.map Wa))]⟩) (.b (.t [ok 0,ov 1 1]) (.t [ok 0,ok 1])) (.t [ok 0,ok 1])) (.t [ok 1])) .o)⟩
instance zzi13 {t0 t1 t2 r}:Con (Ni t0 t1 t2=some r) (Den Tryz.prog 80 [Bb t0,aa t1,kp t2] (.tup [aa r.1,aa r.2.1,aa r.2.2])):=⟨λh=>by
 refine dk 81 k80 ?_
 simp only[k80,Kf.of,zs,ze]
 unfold Ni at h
 exact pg @Of.eq_1 (.z 2 (.j 1 (λ(j2:Bool)=>⟨[.k 1,.p 1,.k 1,.p 3,.k 19,.s (ba j2),.p 58],[.o 0,.o 1]⟩) (.b (.t [ok 0,ok 1]) (.t [ok 0,ok 1])) (.b .o (.z 1 (.j 1 (λ(j5:Bool)=>⟨[.k 1,.p 24,.k 8,.s (ba j5),.p 50],[.o 0,.o 1]⟩) (.b (.t [ok 0,ok 1]) (.t [ok 0,ok 1])) (.b .o (.b .o (.b .o (.l 1 0 (λ(s12:Int)=>⟨[.k 3,.p 2,.k 6,.p 1,.k 52,.p 2,.s (aa s12),.p 17],[.o 0]⟩) (λ(_:Unit)=>⟨[],[]⟩) [ok 0] (.b (.b .o (.t [ok 0])) (.t [])) .o)))))))))⟩
instance {t0 t1 t2 r}:Con (Sa t0 t1 t2=some r) (Den Tryz.prog 142 [Na t0,nk t1,wa t2] (.tup [ua r.1,aa r.2])):=⟨λh=>by
 refine dk 84 k142 ?_
 simp only[k142,Kf.of,zs,ze]
 unfold Sa at h
 exact pg trivial (.z 2 (.j 1 (λ(j3:Bool)=>⟨[.k 1,.p 1,.k 1,.p 4,.k 11,.s (ba j3),.p 68],[.o 0,.o 1,.o 2]⟩) (.b (.t [ok 0,ok 1,ok 2]) (.t [ok 0,ok 1,ok 2])) (.b .o (.b .o (.b .o (.z 2 (.j 3 (λ(q:(Int × Int × Bool))=>⟨[.k 6,.p 3,.s (ba q.2.2),.p 8],[.o 2,.h 3 [.g [.s (aa q.1),.s (aa q.2.1)]]]⟩) (.b (.t [ok 2,ok 3]) (.b (.a [[],[],[],[],[],[],[],[],[],[]] (.t [ok 2,ok 3])) (.b (.a [[],[],[],[],[],[],[],[],[],[],[],[],[]] (.t [ok 2,ok 3])) (.b (.t [ok 2,ok 3]) (.t [ok 2,ok 3]))))) .o)))))))⟩
instance {t0 t1 r}:Con (On t0 t1=some r) (Den Tryz.prog 171 [Fg t0,Fg t1] (ba r)):=⟨λh=>by
 refine dk 27 k171 ?_
 simp only[k171,Kf.of,zs,ze]
 unfold On at h
 exact pg trivial (.z 2 (.j 1 (λ(j3:Bool)=>⟨[.k 4,.s (ba j3)],[]⟩) (.b (.t []) (.t [])) .o))⟩
instance {t0 t1 r}:Con (ko t0 t1=some r) (Den Tryz.prog 97 [Wa t0,wa t1] (.tup [ua r.1,aa r.2.1,aa r.2.2])):=⟨λh=>by
 refine dk 65 k97 ?_
 simp only[k97,Kf.of,zs,ze]
 unfold ko at h
 exact pg @Xl.eq_1 (.b .o (.l 2 1 (λ(q:((List GType) × Int))=>⟨[.p 1,.k 2,.p 2,.k 5,.s (.own 2 0),.s (aa q.2),.p 3],[.o 0,.o 1,.n 2 ((q.1.map ua))]⟩) (λ(b15:(List GType))=>⟨[.k 4,.p 1,.k 5,.s (.own 1 0)],[.o 1,.n 2 ((b15.map ua))]⟩) [ok 0,ok 1,on 2] (.b (.a [[],[],[],[],[],[],[],[],[],[],[],[],[],[]] (.b .o (.a [[],[],[],[2],[]] (.t [ok 0,ok 1,ov 2 2])))) (.t [ok 1,ok 2])) .o))⟩
theorem Ms{t0 t1 r} (h:Kd t0 t1=some r):Den Tryz.prog 170 [Fg t0,Uv t1] (ba r):=by
 refine dk 5 k170 ?_
 simp only[k170,Kf.of,zs,ze]
 unfold Kd at h
 exact pg trivial .o
instance {t0 t1 r}:Con (Kd t0 t1=some r) (Den Tryz.prog 170 [Fg t0,Uv t1] (ba r)):=⟨Ms⟩
end Go.Proofs.Dev
