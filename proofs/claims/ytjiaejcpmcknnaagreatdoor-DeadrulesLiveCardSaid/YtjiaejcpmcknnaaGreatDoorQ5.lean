/-
  Contracts of the functions: each answers as its plain partial function says.
-/
import Derived.Test.YtjiaejcpmcknnaaGreatDoorK
import Derived.Test.YtjiaejcpmcknnaaGreatDoorG
import Derived.Test.YtjiaejcpmcknnaaGreatDoorPD
import Derived.Test.YtjiaejcpmcknnaaGreatDoorH1
import Derived.Test.YtjiaejcpmcknnaaGreatDoorH2
import Derived.Test.YtjiaejcpmcknnaaGreatDoorQ0
import Derived.Test.YtjiaejcpmcknnaaGreatDoorQ1
import Derived.Test.YtjiaejcpmcknnaaGreatDoorQ2
import Derived.Test.YtjiaejcpmcknnaaGreatDoorQ3
set_option linter.all false
set_option maxHeartbeats 1000000
set_option maxRecDepth 10000
namespace Go.Proofs.Dev
open Go Go.Tm
instance {t0 t1 r}:Con (Yn t0 t1=some r) (Den Tryz.prog 66 [ab t0,aa t1] (ta r)):=⟨λh=>by
 refine dk 26 k66 ?_
 simp only[k66,Kf.of,zs,ze]
 unfold Yn at h
 exact pg trivial (.z 2 (.j 1 (λ(j2:Bool)=>⟨[.k 1,.p 13,.s (ba j2),.p 13],[.o 0,.o 1]⟩) (.b (.t [ok 0,ok 1]) (.t [ok 0,ok 1])) .o))⟩
instance {t0 t1 t2 r}:Con (cf t0 t1 t2=some r) (Den Tryz.prog 69 [ra t0,Vb t1,ka t2] (ka r)):=⟨λh=>by
 refine dk 66 k69 ?_
 simp only[k69,Kf.of,zs,ze]
 unfold cf at h
 exact pg (And.intro @Md.eq_1 @Ld.eq_1) (.b .o (.z 3 (.j 1 (λ(j5:Bool)=>⟨[.k 2,.p 1,.k 4,.p 6,.k 17,.s (ba j5),.p 38],[]⟩) (.b (.t []) (.t [])) (.b (.l 2 1 (λ(q:((List Int) × Int))=>⟨[.k 8,.p 1,.s (.own 0 0),.s (aa q.2),.p 19],[.n 1 ((q.1.map aa))]⟩) (λ(b13:(List Int))=>⟨[.k 9,.s (.own 0 0)],[.n 1 ((b13.map aa))]⟩) [on 1] (.b (.t [ov 0 1]) (.t [ok 0])) .o) (.l 2 1 (λ(q:((List Int) × Int))=>⟨[.k 7,.p 23,.k 16,.p 2,.s (aa q.2),.p 20],[.c 1 ((q.1.map aa))]⟩) (λ(b25:(List Int))=>⟨[.k 9,.p 21],[.c 1 ((b25.map aa))]⟩) [ok 1] (.b (.j 1 (λ(j22:(List Int))=>⟨[.k 7,.p 42],[.c 0 ((j22.map aa))]⟩) (.z 1 (.j 1 (λ(j19:Bool)=>⟨[.k 7,.p 42,.k 10,.s (ba j19),.p 9],[.o 0]⟩) (.b (.t [ok 0]) (.t [ok 0])) (.b (.t [ov 0 1]) (.t [ok 0])))) (.t [ok 0])) (.t [ok 0])) .o)))))⟩
instance {t0 t1 r}:Con (Jb t0 t1=some r) (Den Tryz.prog 77 [fh t0,aa t1] (aa r)):=⟨λh=>by
 refine dk 20 k77 ?_
 simp only[k77,Kf.of,zs,ze]
 unfold Jb at h
 exact pg trivial .o⟩
instance {t0 r}:Con (Ak t0=some r) (Den Tryz.prog 115 [Ya t0] (.tup [ka r.1,aa r.2])):=⟨λh=>by
 refine dk 14 bab ?_
 simp only[bab,Kf.of,zs,ze]
 unfold Ak at h
 exact pg trivial .o⟩
instance {t0 t1 r}:Con (db t0 t1=some r) (Den Tryz.prog 195 [La t0,ta t1] (ba r)):=⟨λh=>by
 refine dk 60 mac ?_
 simp only[mac,Kf.of,zs,ze]
 unfold db at h
 exact pg trivial (.z 3 (.j 1 (λ(j5:Bool)=>⟨[.k 2,.p 2,.k 4,.p 1,.s (ba j5),.p 52],[.o 0,.o 1]⟩) (.b (.t [ok 0,ok 1]) (.b (.t [ok 0,ok 1]) (.b (.t [ok 0,ok 1]) (.b (.t [ok 0,ok 1]) (.t [ok 0,ok 1]))))) (.b (.z 1 (.j 1 (λ(j10:Bool)=>⟨[.k 4,.s (ba j10)],[]⟩) (.b (.t []) (.t [])) .o)) (.j 1 (λ(j13:Bool)=>⟨[.k 2,.p 1,.k 5,.p 1,.k 25,.s (ba j13),.p 27],[.o 0]⟩) (.b (.t [ok 0]) (.b (.t [ok 0]) (.t [ok 0]))) (.b (.j 1 (λ(j16:Bool)=>⟨[.k 4,.s (ba j16),.p 3],[]⟩) (.b (.t []) (.t [])) .o) (.b (.j 1 (λ(j19:Bool)=>⟨[.k 4,.s (ba j19),.p 3],[]⟩) (.b (.t []) (.t [])) .o) .o))))))⟩
instance {t0 t1 r}:Con (Ej t0 t1=some r) (Den Tryz.prog 197 [La t0,ta t1] (.tup [ra r.1,ba r.2])):=⟨λh=>by
 refine dk 89 oac ?_
 simp only[oac,Kf.of,zs,ze]
 unfold Ej at h
 exact pg trivial (.z 2 (.j 2 (λ(q:(Int × Int))=>⟨[.k 2,.p 3,.k 1,.p 2],[.o 0,.o 1,.o 2,.h 3 [.g [.s (aa q.1),.s (aa q.2)]]]⟩) (.b (.t [ok 0,ok 1,ok 2,ok 3]) (.b (.t [ok 0,ok 1,ok 2,ok 3]) (.b (.t [ok 0,ok 1,ok 2,ok 3]) (.b (.t [ok 0,ok 1,ok 2,ok 3]) (.b (.t [ok 0,ok 1,ok 2,ok 3]) (.j 1 (λ(j13:Bool)=>⟨[.k 2,.p 3,.k 1,.p 2,.k 34,.s (ba j13),.p 48],[.o 0,.o 1,.o 2,.o 3]⟩) (.b (.t [ok 0,ok 1,ok 2,ok 3]) (.b (.t [ok 0,ok 1,ok 2,ok 3]) (.b (.t [ok 0,ok 1,ok 2,ok 3]) (.t [ok 0,ok 1,ok 2,ok 3])))) (.b (.t [ok 0,ok 1,ok 2,ok 3]) (.t [ok 0,ok 1,ok 2,ok 3])))))))) (.z 1 (.j 1 (λ(j30:Bool)=>⟨[.k 4,.p 3,.s (ba j30),.p 45],[.o 2,.o 3]⟩) (.b (.b (.b (.t [ok 2,ok 3]) (.t [ok 2,ok 3])) (.t [ok 2,ok 3])) (.j 1 (λ(j24:Bool)=>⟨[.k 4,.p 49,.k 5,.p 1,.k 13,.s (ba j24),.p 18],[.o 2,.o 3]⟩) (.b (.t [ok 2,ok 3]) (.t [ok 2,ok 3])) (.b (.b (.t [ok 0,ok 1]) (.t [ok 0,ok 1])) (.b (.b (.t [ok 0,ok 1]) (.t [ok 0,ok 1])) (.t [ok 0,ok 1]))))) .o))))⟩
theorem WD{t0:Int}{t1:GType}{t2:GType}{r:(GType×Bool)}(h:fj t0 t1 t2=some r):Den Tryz.prog 199 [aa t0,ra t1,ra t2] (.tup [ra r.1,ba r.2]):=by
 refine dk 105 qac ?_;simp only[qac,Kf.of,zs,ze];unfold fj at h;refine ss (rg ?_);(try simp only[zz]);refine ss (ss (rg ?_));(try simp only[zz]);refine bk ?_;refine jm h (λj2=>⟨aa t0::ds 3 (.ref 0 0 0 0::.ref 1 0 0 0::.ref 2 0 0 0::.dead::aa t0::ba j2::ds 98 []),[.live 2 0 [ra t1],.live 2 0 [ra t2],.live 2 0 [.agg [aa 0,aa 0]]]⟩) (λz2 h1=>?_) λj2 h1 h=>?_
 .refine ss (rg ?_);(try simp only[zz]);refine cd rfl ?_;(try simp only[zz]);refine gi h1 (λc1 h1=>?_) λc1 h1=>?_
  .have e3:=eT c1;refine sk ?_;(try simp only[zz,eq_true c1,e3]);cases h1;exact tz [ok 0,ok 1,ok 2]
  have e4:=eF c1;refine rg ?_;(try simp only[zz]);cases h1;exact tz [ok 0,ok 1,ok 2]
 refine cd rfl ?_;(try simp only[zz]);refine gi h (λc3 h=>?_) λc3 h=>?_
 .refine jm h (λj6=>⟨ds 6 (.ref 0 0 0 0::ba j6::ds 100 []),[.live 2 0 [ra t1]]⟩) (λz6 h5=>?_) λj6 h5 h=>?_
  .refine ay Rn [[],[],[],[],[],[],[],[],[],[]] (by kernel_rfl) ?_;(try simp only[zz,zy]);refine gi h5 (λc4 h5=>?_) λc4 h5=>?_
   .obtain⟨x5,a7,h5⟩:=bs h5;simp only[zz,eq_true c4,zy];refine lq (ts a7) ?_ (by simp only[zg,c3]);(try simp only[zz,eq_true c4,zy]);cases h5;exact tz [ok 2]
   (try simp only[zz,c4,zy]);cases h5;exact tz [ok 2]
  cases h;exact rt ez
 refine jm h (λj9=>⟨aa t0::ds 3 (.ref 0 0 0 0::.ref 1 0 0 0::.ref 2 0 0 0::.dead::aa t0::ds 12 (ba j9::ds 86 [])),[.live 2 0 [ra t1],.live 2 0 [ra t2],.live 2 0 [.agg [aa 0,aa 0]]]⟩) (λz9 h8=>?_) λj9 h8 h=>?_
 .refine ss (rg ?_);(try simp only[zz]);refine cd rfl ?_;(try simp only[zz]);refine gi h8 (λc7 h8=>?_) λc7 h8=>?_
  .have e10:=eT c7;refine sk ?_;(try simp only[zz,eq_true c7,e10]);cases h8;exact tz [ok 0,ok 1,ok 2]
  have e11:=eF c7;refine ss (rg ?_);(try simp only[zz]);refine cd rfl ?_;(try simp only[zz]);refine gi h8 (λc8 h8=>?_) λc8 h8=>?_
  .have e12:=eT c8;refine sk ?_;(try simp only[zz,eq_true c8,e12]);cases h8;exact tz [ok 0,ok 1,ok 2]
  have e13:=eF c8;refine rg ?_;(try simp only[zz]);cases h8;exact tz [ok 0,ok 1,ok 2]
 refine cd rfl ?_;(try simp only[zz]);refine gi h (λc10 h=>?_) λc10 h=>?_
 .refine ss (rg ?_);obtain⟨x11,a14,h⟩:=bs h;simp only[zz];refine cq (Mw a14) ?_ (by simp only[zg,c3,c10]);(try simp only[zz]);cases h;exact rt ez
 refine ss (rg ?_);(try simp only[zz]);refine cd rfl ?_;(try simp only[zz]);refine gi h (λc12 h=>?_) λc12 h=>?_
 .have e15:=eT c12;refine jm h (λj14=>⟨ds 6 (.ref 0 0 0 0::ba j14::ds 100 []),[.live 2 0 [ra t1]]⟩) (λz18 h17=>?_) λj14 h17 h=>?_
  .refine ay Rn [[],[],[],[],[],[],[],[],[],[6]] (by kernel_rfl) ?_;(try simp only[zz,zy]);refine gi h17 (λc13 h17=>?_) λc13 h17=>?_
   .have e19:=eT c13;(try simp only[zz,eq_true c13,e19,zy]);cases h17;exact tz [ok 2]
   have e20:=eF c13;(try simp only[zz,c13,e20,zy]);cases h17;exact tz [ok 2]
  cases h;exact rt ez
 have e16:=eF c12;refine jm h (λj16=>⟨ds 4 (.ref 0 0 0 0::.ref 1 0 0 0::.ref 2 0 0 0::.dead::aa t0::ds 35 (ba j16::ds 63 [])),[.live 2 0 [ra t1],.live 2 0 [ra t2],.live 2 0 [.agg [aa 0,aa 0]]]⟩) (λz22 h21=>?_) λj16 h21 h=>?_
 .refine ss (rg ?_);(try simp only[zz]);refine cd rfl ?_;(try simp only[zz]);refine gi h21 (λc15 h21=>?_) λc15 h21=>?_
  .have e23:=eT c15;refine sk ?_;(try simp only[zz,eq_true c15,e23]);cases h21;exact tz [ok 0,ok 1,ok 2]
  have e24:=eF c15;refine rg ?_;(try simp only[zz]);cases h21;exact tz [ok 0,ok 1,ok 2]
 refine cd rfl ?_;(try simp only[zz]);refine gi h (λc17 h=>?_) λc17 h=>?_
 .refine jm h (λj20=>⟨ds 6 (.ref 0 0 0 0::ba j20::ds 100 []),[.live 2 0 [ra t1]]⟩) (λz26 h25=>?_) λj20 h25 h=>?_
  .refine ay Rn [[],[],[],[],[],[],[],[],[],[]] (by kernel_rfl) ?_;(try simp only[zz,zy]);refine gi h25 (λc18 h25=>?_) λc18 h25=>?_
   .obtain⟨x19,a27,h25⟩:=bs h25;simp only[zz,eq_true c18,zy];refine lq (Kq a27) ?_ (by simp only[zg,c3,c10,e16,c17]);(try simp only[zz,eq_true c18,zy]);cases h25;exact tz [ok 2]
   (try simp only[zz,c18,zy]);cases h25;exact tz [ok 2]
  cases h;exact rt ez
 refine jm h (λj22=>⟨ds 4 (.ref 0 0 0 0::.ref 1 0 0 0::.ref 2 0 0 0::.dead::aa t0::ds 47 (ba j22::ds 51 [])),[.live 2 0 [ra t1],.live 2 0 [ra t2],.live 2 0 [.agg [aa 0,aa 0]]]⟩) (λz29 h28=>?_) λj22 h28 h=>?_
 .refine ss (rg ?_);(try simp only[zz]);refine cd rfl ?_;(try simp only[zz]);refine gi h28 (λc21 h28=>?_) λc21 h28=>?_
  .have e30:=eT c21;refine sk ?_;(try simp only[zz,eq_true c21,e30]);cases h28;exact tz [ok 0,ok 1,ok 2]
  have e31:=eF c21;refine rg ?_;(try simp only[zz]);cases h28;exact tz [ok 0,ok 1,ok 2]
 refine cd rfl ?_;(try simp only[zz]);refine gi h (λc23 h=>?_) λc23 h=>?_
 .refine ss (ay Rn [[],[],[],[],[1,2]] (by kernel_rfl) ?_);obtain⟨x24,a32,h⟩:=bs h;simp only[zz,zy];refine lq (Dj a32) ?_ (by simp only[zg,c3,c10,e16,c17,c23]);(try simp only[zz,zy]);cases h;exact rt ez
 refine jm h (λj26=>⟨ds 4 (.ref 0 0 0 0::.ref 1 0 0 0::.ref 2 0 0 0::.dead::aa t0::ds 54 (ba j26::ds 44 [])),[.live 2 0 [ra t1],.live 2 0 [ra t2],.live 2 0 [.agg [aa 0,aa 0]]]⟩) (λz34 h33=>?_) λj26 h33 h=>?_
 .refine ss (rg ?_);(try simp only[zz]);refine cd rfl ?_;(try simp only[zz]);refine gi h33 (λc25 h33=>?_) λc25 h33=>?_
  .have e35:=eT c25;refine sk ?_;(try simp only[zz,eq_true c25,e35]);cases h33;exact tz [ok 0,ok 1,ok 2]
  have e36:=eF c25;refine rg ?_;(try simp only[zz]);cases h33;exact tz [ok 0,ok 1,ok 2]
 refine cd rfl ?_;(try simp only[zz]);refine gi h (λc27 h=>?_) λc27 h=>?_
 .refine jm h (λq=>⟨ds 6 (.ref 0 0 0 0::ba q.2.2::ds 100 []),[.live 2 0 [.agg [aa q.1,aa q.2.1]]]⟩) (λz38 h37=>?_) λz38 h37 h=>?_
  .refine ay Rn [[],[],[],[],[],[],[],[],[],[]] (by kernel_rfl) ?_;obtain⟨x28,a39,h37⟩:=bs h37;simp only[zz,zy];refine lq (Dj a39) ?_ (by simp only[zg,c3,c10,e16,c17,c23,c27]);(try simp only[zz,zy]);refine gi h37 (λc29 h37=>?_) λc29 h37=>?_
   .obtain⟨x30,a40,h37⟩:=bs h37;simp only[zz,eq_true c29,zy];refine lq (Kq a40) ?_ (by simp only[zg,c3,c10,e16,c17,c23,c27]);(try simp only[zz,eq_true c29,zy]);cases h37;exact tz [ok 2]
   (try simp only[zz,c29,zy]);cases h37;exact tz [ok 2]
  obtain⟨j31,j32,j33⟩:=z38;dsimp only at h;cases h;exact rt ez
 refine jm h (λj35=>⟨ds 4 (.ref 0 0 0 0::.ref 1 0 0 0::.ref 2 0 0 0::.dead::aa t0::ds 66 (ba j35::ds 32 [])),[.live 2 0 [ra t1],.live 2 0 [ra t2],.live 2 0 [.agg [aa 0,aa 0]]]⟩) (λz42 h41=>?_) λj35 h41 h=>?_
 .refine ss (rg ?_);(try simp only[zz]);refine cd rfl ?_;(try simp only[zz]);refine gi h41 (λc34 h41=>?_) λc34 h41=>?_
  .have e43:=eT c34;refine sk ?_;(try simp only[zz,eq_true c34,e43]);cases h41;exact tz [ok 0,ok 1,ok 2]
  have e44:=eF c34;refine rg ?_;(try simp only[zz]);cases h41;exact tz [ok 0,ok 1,ok 2]
 refine cd rfl ?_;(try simp only[zz]);refine gi h (λc36 h=>?_) λc36 h=>?_
 .refine jm h (λj38=>⟨ds 6 (.ref 0 0 0 0::ba j38::ds 100 []),[.live 2 0 [ra t1]]⟩) (λz46 h45=>?_) λj38 h45 h=>?_
  .refine ay Rn [[],[],[],[],[],[],[],[],[],[6]] (by kernel_rfl) ?_;(try simp only[zz,zy]);refine gi h45 (λc37 h45=>?_) λc37 h45=>?_
   .have e47:=eT c37;(try simp only[zz,eq_true c37,e47,zy]);cases h45;exact tz [ok 2]
   have e48:=eF c37;(try simp only[zz,c37,e48,zy]);cases h45;exact tz [ok 2]
  cases h;exact rt ez
 refine jm h (λj40=>⟨ds 4 (.ref 0 0 0 0::.ref 1 0 0 0::.ref 2 0 0 0::ds 80 (ba j40::ds 20 [])),[.live 2 0 [ra t1],.live 2 0 [ra t2],.live 2 0 [.agg [aa 0,aa 0]]]⟩) (λz50 h49=>?_) λj40 h49 h=>?_
 .refine ss (rg ?_);(try simp only[zz]);refine cd rfl ?_;(try simp only[zz]);refine gi h49 (λc39 h49=>?_) λc39 h49=>?_
  .have e51:=eT c39;refine sk ?_;(try simp only[zz,eq_true c39,e51]);cases h49;exact tz [ok 0,ok 1,ok 2]
  have e52:=eF c39;refine rg ?_;(try simp only[zz]);cases h49;exact tz [ok 0,ok 1,ok 2]
 refine cd rfl ?_;(try simp only[zz]);refine gi h (λc41 h=>?_) λc41 h=>?_
 .refine jm h (λj43=>⟨ds 6 (.ref 0 0 0 0::ba j43::ds 100 []),[.live 2 0 [ra t1]]⟩) (λz54 h53=>?_) λj43 h53 h=>?_
  .refine ay Rn [[],[],[],[],[],[],[],[],[],[6]] (by kernel_rfl) ?_;(try simp only[zz,zy]);refine gi h53 (λc42 h53=>?_) λc42 h53=>?_
   .have e55:=eT c42;(try simp only[zz,eq_true c42,e55,zy]);cases h53;exact tz [ok 2]
   have e56:=eF c42;(try simp only[zz,c42,e56,zy]);cases h53;exact tz [ok 2]
  cases h;exact rt ez
 refine sk ?_;(try simp only[zz,c41]);refine jm h (λq=>⟨ds 6 (.ref 0 0 0 0::ba q.2.2::ds 100 []),[.live 2 0 [.agg [aa q.1,aa q.2.1]]]⟩) (λz58 h57=>?_) λz58 h57 h=>?_
 .refine ay Rn [[],[],[],[],[],[],[],[],[],[6]] (by kernel_rfl) ?_;obtain⟨x44,a59,h57⟩:=bs h57;simp only[zz,zy];refine lq (Dj a59) ?_ (by simp only[zg,c3,c10,e16,c17,c23,c27,c36,c41]);(try simp only[zz,zy]);refine gi h57 (λc45 h57=>?_) λc45 h57=>?_
  .have e60:=eT c45;(try simp only[zz,eq_true c45,e60,zy]);cases h57;exact tz [ok 2]
  have e61:=eF c45;(try simp only[zz,c45,e61,zy]);cases h57;exact tz [ok 2]
 obtain⟨j46,j47,j48⟩:=z58;dsimp only at h;cases h;exact rt ez
instance {t0 t1 t2 r}:Con (fj t0 t1 t2=some r) (Den Tryz.prog 199 [aa t0,ra t1,ra t2] (.tup [ra r.1,ba r.2])):=⟨WD⟩
instance {t0 t1 t2 r}:Con (tg t0 t1 t2=some r) (Den Tryz.prog 76 [ka t0,ka t1,Ar t2] (ka r)):=⟨λh=>by
 refine dk 45 k76 ?_
 simp only[k76,Kf.of,zs,ze]
 unfold tg at h
 exact pg @Zf.eq_1 (.l 2 1 (λ(q:((List Int) × Int))=>⟨[.k 2,.p 4,.k 1,.p 1,.s (aa q.2)],[.o 1,.c 0 ((q.1.map aa))]⟩) (λ(b18:(List Int))=>⟨[.k 7,.p 1],[.o 1,.c 0 ((b18.map aa))]⟩) [ok 1,ok 0] (.b (.j 1 (λ(j15:(List Int))=>⟨[.k 2,.p 16],[.o 0,.c 1 ((j15.map aa))]⟩) (.z 1 (.j 1 (λ(j11:Bool)=>⟨[.k 2,.p 16,.k 22,.s (ba j11),.p 7],[.o 0,.o 1]⟩) (.b (.t [ok 0,ok 1]) (.t [ok 0,ok 1])) (.b (.t [ok 0,ok 1]) (.t [ok 0,ok 1])))) (.t [ok 0,ok 1])) (.t [ok 0,ok 1])) .o)⟩
instance {t0 t1 t2 r}:Con (Ta t0 t1 t2=some r) (Den Tryz.prog 142 [La t0,Rj t1,ta t2] (.tup [ra r.1,aa r.2])):=⟨λh=>by
 refine dk 84 zab ?_
 simp only[zab,Kf.of,zs,ze]
 unfold Ta at h
 exact pg trivial (.z 2 (.j 1 (λ(j3:Bool)=>⟨[.k 1,.p 1,.k 1,.p 4,.k 11,.s (ba j3),.p 68],[.o 0,.o 1,.o 2]⟩) (.b (.t [ok 0,ok 1,ok 2]) (.t [ok 0,ok 1,ok 2])) (.b .o (.b .o (.b .o (.z 2 (.j 3 (λ(q:(Int × Int × Bool))=>⟨[.k 6,.p 3,.s (ba q.2.2),.p 8],[.o 2,.h 3 [.g [.s (aa q.1),.s (aa q.2.1)]]]⟩) (.b (.t [ok 2,ok 3]) (.b (.a [[],[],[],[],[],[],[],[],[],[]] (.t [ok 2,ok 3])) (.b (.a [[],[],[],[],[],[],[],[],[],[],[],[],[]] (.t [ok 2,ok 3])) (.b (.t [ok 2,ok 3]) (.t [ok 2,ok 3]))))) .o)))))))⟩
instance {t0 t1 r}:Con (Xn t0 t1=some r) (Den Tryz.prog 152 [Ya t0,aa t1] (ka r)):=⟨λh=>by
 refine dk 51 Jab ?_
 simp only[Jab,Kf.of,zs,ze]
 unfold Xn at h
 exact pg @Sj.eq_1 (.z 3 (.j 1 (λ(j4:Bool)=>⟨[.p 4,.k 1,.p 1,.k 20,.s (ba j4),.p 26],[]⟩) (.b (.b (.t []) (.t [])) (.t [])) (.b .o (.l 3 1 (λ(q:((List Int) × Int × Int))=>⟨[.k 5,.p 3,.s (aa q.2.1),.s (aa q.2.2),.p 16],[.c 0 ((q.1.map aa))]⟩) (λ(b19:(List Int))=>⟨[.k 7,.p 1],[.c 0 ((b19.map aa))]⟩) [ok 0] (.b (.t [ok 0]) (.t [ok 0])) .o))))⟩
instance {t0 t1 t2 r}:Con (We t0 t1 t2=some r) (Den Tryz.prog 32 [ka t0,ka t1,Ar t2] (aa r)):=⟨λh=>by
 refine dk 23 k32 ?_
 simp only[k32,Kf.of,zs,ze]
 unfold We at h
 exact pg trivial (.z 2 (.j 1 (λ(j3:Bool)=>⟨[.p 6,.k 11,.s (ba j3),.p 8],[]⟩) (.b (.t []) (.t [])) .o))⟩
instance {t0 t1 r}:Con (xn t0 t1=some r) (Den Tryz.prog 97 [Ya t0,ta t1] (.tup [ra r.1,aa r.2.1,aa r.2.2])):=⟨λh=>by
 refine dk 65 k97 ?_
 simp only[k97,Kf.of,zs,ze]
 unfold xn at h
 exact pg @Kl.eq_1 (.b .o (.l 2 1 (λ(q:((List GType) × Int))=>⟨[.p 1,.k 2,.p 2,.k 5,.s (.own 2 0),.s (aa q.2),.p 3],[.o 0,.o 1,.n 2 ((q.1.map ra))]⟩) (λ(b15:(List GType))=>⟨[.k 4,.p 1,.k 5,.s (.own 1 0)],[.o 1,.n 2 ((b15.map ra))]⟩) [ok 0,ok 1,on 2] (.b (.a [[],[],[],[],[],[],[],[],[],[],[],[],[],[]] (.b .o (.a [[],[],[],[2],[]] (.t [ok 0,ok 1,ov 2 2])))) (.t [ok 1,ok 2])) .o))⟩
instance {t0 t1 r}:Con (Uc t0 t1=some r) (Den Tryz.prog 109 [Ya t0,aa t1] (.tup [aa r.1,La r.2.1,ba r.2.2])):=⟨λh=>by
 refine dk 50 Vaa ?_
 simp only[Vaa,Kf.of,zs,ze]
 unfold Uc at h
 exact pg trivial (.b .o (.z 1 (.f ⟨[.p 52],[.o 0,.n 2 [],.n 2 []]⟩ [ok 0,on 2,on 2] (.g [[],[],[],[],[],[],[],[],[],[],[],[],[2,3,4,5,8,9,10,11],[2,3,4,5,8,9,10,11,12],[8,9,10,11]] [none,none,none,none,none,none,none,none,none,none,none,none,some 1,some 2,none] (.z 1 (.j 1 (λ(j9:Bool)=>⟨[.k 5,.p 1,.k 2,.p 2,.k 19,.s (ba j9),.p 22],[.o 0,.o 1,.o 2]⟩) (.b (.t [ok 0,ov 1 1,ov 2 1]) (.t [ok 0,ov 1 1,ov 2 1])) (.b .o (.j 1 (λ(j13:Bool)=>⟨[.k 5,.p 24,.k 11,.s (ba j13),.p 11],[.o 0,.o 1,.o 2]⟩) (.b (.t [ok 0,ok 1,ok 2]) (.t [ok 0,ok 1,ok 2])) .o))))))))⟩
end Go.Proofs.Dev
