/-
  Contracts of the functions: each answers as its plain partial function says.
-/
import Derived.Test.YtfanhhhgcabpnaaGreatDoorK
import Derived.Test.YtfanhhhgcabpnaaGreatDoorPD
import Derived.Test.YtfanhhhgcabpnaaGreatDoorW3
set_option linter.all false
set_option maxHeartbeats 1000000
set_option maxRecDepth 10000
namespace Go.Proofs.Dev
open Go Go.Tm
theorem same_SmallConfig_ok {t0:GPayConfig}{r:Bool}(h:same_SmallConfig t0=some r):Den Tryz.prog 8 [e_GPayConfig t0] (e_bool r):=by
 refine dk 7 k8 ?_;simp only [k8,Kf.of,zs,ze];unfold same_SmallConfig at h;refine ss (rg ?_);(try simp only [zz]);refine ss (rg ?_);(try simp only [zz]);cases h;exact rt ez
theorem law36_awake_ok {r:Bool}(h:law36_awake=some r):Den Tryz.prog 9 [] (e_bool r):=by
 unfold law36_awake at h;obtain rfl:=Option.some.inj h;exact awake_ok
theorem same_smallScope_ok {t0:GScope}{r:Bool}(h:same_smallScope t0=some r):Den Tryz.prog 23 [e_GScope t0] (e_bool r):=by
 refine dk 92 k23 ?_;simp only [k23,Kf.of,zs,ze];unfold same_smallScope at h;refine ss (rg ?_);(try simp only [zz]);refine ss ?_;refine jm h (fun j4=>⟨.dead::.ref 0 0 0 0::ds 26 (e_bool j4::ds 64 []),[.live 5 0 [e_GScope t0]]⟩) (fun z2 h1=>?_) fun j4 h1 h=>?_
 ·refine rg ?_;(try simp only [zz]);refine gi h1 (fun c1 h1=>?_) fun c1 h1=>?_
  ·(try simp only [zz,c1]);refine gi h1 (fun c2 h1=>?_) fun c2 h1=>?_
   ·(try simp only [zz,c1,c2]);refine gi h1 (fun c3 h1=>?_) fun c3 h1=>?_
    ·(try simp only [zz,c1,c2,c3]);cases h1;exact tz [ok 0]
    (try simp only [zz,c1,c2,c3]);cases h1;exact tz [ok 0]
   (try simp only [zz,c1,c2]);cases h1;exact tz [ok 0]
  (try simp only [zz,c1]);cases h1;exact tz [ok 0]
 refine cd rfl ?_;(try simp only [zz]);refine gi h (fun c5 h=>?_) fun c5 h=>?_
 ·refine ss (rg ?_);(try simp only [zz]);cases h;exact rt ez
 refine sk ?_;(try simp only [zz,c5]);refine ss (ss (rg ?_));(try simp only [zz]);obtain⟨y3,h4,h⟩:=bs h;refine lm h4 (fun s6=>⟨.dead::.ref 0 0 0 0::.dead::e_i64 s6::ds 89 [],[.live 5 0 [e_GScope t0]]⟩) (fun q=>⟨.dead::.ref 0 0 0 0::ds 91 [],[.live 5 0 [e_GScope t0]]⟩) (tz [ok 0]) ?_ ?_
 ·rintro s6 z5 h6 h7;simp only [same_smallScope_L5]at h6;refine ss (ss (rg ?_));(try simp only [zz]);refine cd rfl ?_;(try simp only [zz]);refine gi h6 (fun c7 h6=>?_) fun c7 h6=>?_
  ·refine sk ?_;(try simp only [zz,c7]);refine ss (bk (ss (rg ?_)));obtain⟨x8,f9,f10,h6⟩:=bI h6;(try simp only [zz,f9,f10]);refine cd rfl ?_;(try simp only [zz,f9,f10]);refine gi h6 (fun c9 h6=>?_) fun c9 h6=>?_
   ·refine ss (rg ?_);(try simp only [zz]);cases h6;cases h7 _ rfl;cases h;exact rt ez
   refine sk ?_;(try simp only [zz,f9,f10,c9]);refine rg ?_;(try simp only [zz]);cases h6;exact tz [ok 0]
  refine xt ?_;(try simp only [zz,c7]);cases h6;exact tz [ok 0]
 rintro ⟨⟩ rfl;dsimp only at h;(try simp only [zz]);refine ss (ss (rg ?_));(try simp only [zz]);obtain⟨y11,h12,h⟩:=bs h;refine lm h12 (fun s11=>⟨.dead::.ref 0 0 0 0::ds 2 (e_i64 s11::ds 88 []),[.live 5 0 [e_GScope t0]]⟩) (fun q=>⟨.dead::.ref 0 0 0 0::ds 91 [],[.live 5 0 [e_GScope t0]]⟩) (tz [ok 0]) ?_ ?_
 ·rintro s11 z13 h14 h15;simp only [same_smallScope_L4]at h14;refine ss (ss (rg ?_));(try simp only [zz]);refine cd rfl ?_;(try simp only [zz]);refine gi h14 (fun c12 h14=>?_) fun c12 h14=>?_
  ·refine sk ?_;(try simp only [zz,c12]);refine ss (bk (ss (rg ?_)));obtain⟨x13,f17,f18,h14⟩:=bI h14;(try simp only [zz,f17,f18]);refine cd rfl ?_;(try simp only [zz,f17,f18]);refine gi h14 (fun c14 h14=>?_) fun c14 h14=>?_
   ·refine ss (rg ?_);(try simp only [zz]);cases h14;cases h15 _ rfl;cases h;exact rt ez
   refine sk ?_;(try simp only [zz,f17,f18,c14]);refine rg ?_;(try simp only [zz]);cases h14;exact tz [ok 0]
  refine xt ?_;(try simp only [zz,c12]);cases h14;exact tz [ok 0]
 rintro ⟨⟩ rfl;dsimp only at h;(try simp only [zz]);refine ss (ss (rg ?_));(try simp only [zz]);obtain⟨y19,h20,h⟩:=bs h;refine lm h20 (fun s16=>⟨.dead::.ref 0 0 0 0::ds 3 (e_i64 s16::ds 87 []),[.live 5 0 [e_GScope t0]]⟩) (fun q=>⟨ds 93 [],[]⟩) (tz [ok 0]) ?_ ?_
 ·rintro s16 z21 h22 h23;simp only [same_smallScope_L3]at h22;refine ss (ss (rg ?_));(try simp only [zz]);refine cd rfl ?_;(try simp only [zz]);refine gi h22 (fun c17 h22=>?_) fun c17 h22=>?_
  ·refine sk ?_;(try simp only [zz,c17]);refine ss (bk (ss (rg ?_)));obtain⟨x18,f25,f26,h22⟩:=bI h22;(try simp only [zz,f25,f26]);refine jm h22 (fun j22=>⟨.dead::.ref 0 0 0 0::ds 3 (e_i64 s16::ds 86 (e_bool j22::[])),[.live 5 0 [e_GScope t0]]⟩) (fun z28 h27=>?_) fun j22 h27 h22=>?_
   ·refine rg ?_;(try simp only [zz]);refine gi h27 (fun c19 h27=>?_) fun c19 h27=>?_
    ·(try simp only [zz,c19]);refine gi h27 (fun c20 h27=>?_) fun c20 h27=>?_
     ·(try simp only [zz,c19,c20]);refine gi h27 (fun c21 h27=>?_) fun c21 h27=>?_
      ·(try simp only [zz,c19,c20,c21]);cases h27;exact tz [ok 0]
      (try simp only [zz,c19,c20,c21]);cases h27;exact tz [ok 0]
     (try simp only [zz,c19,c20]);cases h27;exact tz [ok 0]
    (try simp only [zz,c19]);cases h27;exact tz [ok 0]
   refine cd rfl ?_;(try simp only [zz]);refine gi h22 (fun c23 h22=>?_) fun c23 h22=>?_
   ·refine ss (rg ?_);(try simp only [zz]);cases h22;cases h23 _ rfl;cases h;exact rt ez
   refine sk ?_;(try simp only [zz,c23]);refine rg ?_;(try simp only [zz]);cases h22;exact tz [ok 0]
  refine xt ?_;(try simp only [zz,c17]);cases h22;exact tz []
 rintro ⟨⟩ rfl;dsimp only at h;(try simp only [zz]);refine ss (rg ?_);(try simp only [zz]);cases h;exact rt ez
theorem ref36_outside_ok {t0:Int}{t1:Int}{t2:Int}{r:Bool}(h:ref36_outside t0 t1 t2=some r):Den Tryz.prog 30 [e_i64 t0,e_i64 t1,e_i64 t2] (e_bool r):=by
 refine dk 12 k30 ?_;simp only [k30,Kf.of,zs,ze];unfold ref36_outside at h;refine ss (rg ?_);(try simp only [zz]);refine jm h (fun j2=>⟨ds 6 (e_bool j2::ds 8 []),[]⟩) (fun z2 h1=>?_) fun j2 h1 h=>?_
 ·refine rg ?_;(try simp only [zz]);refine gi h1 (fun c1 h1=>?_) fun c1 h1=>?_
  ·(try simp only [zz,c1]);cases h1;exact tz []
  (try simp only [zz,c1]);cases h1;exact tz []
 cases h;exact rt ez
theorem workday_validDate_ok {t0:Int}{r:Bool}(h:workday_validDate t0=some r):Den Tryz.prog 66 [e_i64 t0] (e_bool r):=by
 refine dk 8 k66 ?_;simp only [k66,Kf.of,zs,ze];unfold workday_validDate at h;refine ss (rg ?_);(try simp only [zz]);refine jm h (fun j2=>⟨ds 2 (e_bool j2::ds 6 []),[]⟩) (fun z2 h1=>?_) fun j2 h1 h=>?_
 ·refine rg ?_;(try simp only [zz]);refine gi h1 (fun c1 h1=>?_) fun c1 h1=>?_
  ·(try simp only [zz,c1]);cases h1;exact tz []
  (try simp only [zz,c1]);cases h1;exact tz []
 cases h;exact rt ez
theorem ref06_day_ok {t0:Int}{r:Bool}(h:ref06_day t0=some r):Den Tryz.prog 68 [e_i64 t0] (e_bool r):=by
 refine dk 8 k68 ?_;simp only [k68,Kf.of,zs,ze];unfold ref06_day at h;refine ss (rg ?_);(try simp only [zz]);refine jm h (fun j2=>⟨ds 2 (e_bool j2::ds 6 []),[]⟩) (fun z2 h1=>?_) fun j2 h1 h=>?_
 ·refine rg ?_;(try simp only [zz]);refine gi h1 (fun c1 h1=>?_) fun c1 h1=>?_
  ·(try simp only [zz,c1]);cases h1;exact tz []
  (try simp only [zz,c1]);cases h1;exact tz []
 cases h;exact rt ez
theorem ref05_Valid_ok {t0:GDateRange}{r:Bool}(h:ref05_Valid t0=some r):Den Tryz.prog 130 [e_GDateRange t0] (e_bool r):=by
 refine dk 17 k130 ?_;simp only [k130,Kf.of,zs,ze];unfold ref05_Valid at h;refine ss (rg ?_);(try simp only [zz]);refine jm h (fun j3=>⟨ds 2 (e_bool j3::ds 15 []),[]⟩) (fun z2 h1=>?_) fun j3 h1 h=>?_
 ·refine rg ?_;(try simp only [zz]);refine gi h1 (fun c1 h1=>?_) fun c1 h1=>?_
  ·(try simp only [zz,c1]);refine gi h1 (fun c2 h1=>?_) fun c2 h1=>?_
   ·(try simp only [zz,c1,c2]);cases h1;exact tz []
   (try simp only [zz,c1,c2]);cases h1;exact tz []
  (try simp only [zz,c1]);cases h1;exact tz []
 cases h;exact rt ez
theorem value_ValidType_ok {t0:GType}{t1:List GEnum}{r:Bool}(h:value_ValidType t0 t1=some r):Den Tryz.prog 146 [e_GType t0,e_s_GEnum t1] (e_bool r):=by
 refine dk 26 k146 ?_;simp only [k146,Kf.of,zs,ze];unfold value_ValidType at h;refine ss (rg ?_);(try simp only [zz]);refine ss (ss (rg ?_));(try simp only [zz]);refine bk ?_;refine jm h (fun j5=>⟨.dead::e_s_GEnum t1::.ref 0 0 0 0::ds 3 (e_i64 t0.Kind::e_bool j5::ds 20 []),[.live 2 0 [e_GType t0]]⟩) (fun z2 h1=>?_) fun j5 h1 h=>?_
 ·refine ss (rg ?_);(try simp only [zz]);refine cd rfl ?_;(try simp only [zz]);refine gi h1 (fun c1 h1=>?_) fun c1 h1=>?_
  ·have e3:=eT c1;refine sk ?_;(try simp only [zz,eq_true c1,e3]);cases h1;exact tz [ok 0]
  have e4:=eF c1;refine ss (rg ?_);(try simp only [zz]);refine cd rfl ?_;(try simp only [zz]);refine gi h1 (fun c2 h1=>?_) fun c2 h1=>?_
  ·have e5:=eT c2;refine sk ?_;(try simp only [zz,eq_true c2,e5]);cases h1;exact tz [ok 0]
  have e6:=eF c2;refine ss (rg ?_);(try simp only [zz]);refine cd rfl ?_;(try simp only [zz]);refine gi h1 (fun c3 h1=>?_) fun c3 h1=>?_
  ·have e7:=eT c3;refine sk ?_;(try simp only [zz,eq_true c3,e7]);cases h1;exact tz [ok 0]
  have e8:=eF c3;refine ss (rg ?_);(try simp only [zz]);refine cd rfl ?_;(try simp only [zz]);refine gi h1 (fun c4 h1=>?_) fun c4 h1=>?_
  ·have e9:=eT c4;refine sk ?_;(try simp only [zz,eq_true c4,e9]);cases h1;exact tz [ok 0]
  have e10:=eF c4;refine rg ?_;(try simp only [zz]);cases h1;exact tz [ok 0]
 refine cd rfl ?_;(try simp only [zz]);refine gi h (fun c6 h=>?_) fun c6 h=>?_
 ·refine ss (rg ?_);(try simp only [zz]);cases h;exact rt ez
 refine ss (rg ?_);(try simp only [zz]);refine cd rfl ?_;(try simp only [zz]);refine gi h (fun c7 h=>?_) fun c7 h=>?_
 ·have e11:=eT c7;refine jm h (fun j9=>⟨ds 4 (e_bool j9::ds 23 []),[]⟩) (fun z14 h13=>?_) fun j9 h13 h=>?_
  ·refine rg ?_;(try simp only [zz]);refine gi h13 (fun c8 h13=>?_) fun c8 h13=>?_
   ·(try simp only [zz,c8]);cases h13;exact tz []
   (try simp only [zz,c8]);cases h13;exact tz []
  cases h;exact rt ez
 have e12:=eF c7;refine sk ?_;(try simp only [zz,c7,e12]);refine ss (rg ?_);(try simp only [zz]);cases h;exact rt ez
theorem daterange_Valid_ok {t0:GDateRange}{r:Bool}(h:daterange_Valid t0=some r):Den Tryz.prog 163 [e_GDateRange t0] (e_bool r):=by
 refine dk 17 k163 ?_;simp only [k163,Kf.of,zs,ze];unfold daterange_Valid at h;refine ss (rg ?_);(try simp only [zz]);refine jm h (fun j3=>⟨ds 2 (e_bool j3::ds 15 []),[]⟩) (fun z2 h1=>?_) fun j3 h1 h=>?_
 ·refine rg ?_;(try simp only [zz]);refine gi h1 (fun c1 h1=>?_) fun c1 h1=>?_
  ·(try simp only [zz,c1]);refine gi h1 (fun c2 h1=>?_) fun c2 h1=>?_
   ·(try simp only [zz,c1,c2]);cases h1;exact tz []
   (try simp only [zz,c1,c2]);cases h1;exact tz []
  (try simp only [zz,c1]);cases h1;exact tz []
 cases h;exact rt ez
theorem table_first_api_Row_ok {t0:List GRow}{t1:(GRow→Option Bool)}{k1:Nat}{q1:List D}(hc1:idfrees q1=true) (hp1:∀x0 r,t1 x0=some r→Den Tryz.prog k1 ([e_GRow x0]++q1) (e_bool r)) {r:(Int×Bool)}(h:table_first_api_Row t0 t1=some r):Den Tryz.prog 164 [e_s_GRow t0,.fn k1 [] q1] (.tup [e_i64 r.1,e_bool r.2]):=by
 refine Den.at 18 k164.ok k164.nm (frC (frF hc1 frN)) rfl ?_;simp only [k164,Kf.of,zs,ze];unfold table_first_api_Row at h;refine ss (rg ?_);(try simp only [zz]);refine ss (ss (rg ?_));(try simp only [zz]);obtain⟨y1,h2,h⟩:=bs h;refine lm h2 (fun s1=>⟨.dead::.fn k1 [] q1::ds 6 (e_s_GRow t0::e_i64 (t0.length:Int)::e_i64 s1::ds 9 []),[]⟩) (fun q=>⟨ds 20 [],[]⟩) (tz [] (by simp only [zg,sqS_same hc1])) ?_ ?_
 ·rintro s1 z3 h4 h5;simp only [table_first_api_Row_L1]at h4;refine ss (rg ?_);(try simp only [zz]);refine ss (cd rfl ?_);(try simp only [zz]);refine gi h4 (fun c2 h4=>?_) fun c2 h4=>?_
  ·refine sk ?_;(try simp only [zz,c2]);refine ss (bk (ss (rg ?_)));obtain⟨x3,f7,f8,h4⟩:=bI h4;(try simp only [zz,f7,f8]);refine ss (rg ?_);obtain⟨x4,a9,h4⟩:=bs h4;simp only [zz];refine callX_c1 (hp1 _ _ a9) hc1 ?_ (by simp only [zg,sqS_same hc1]);(try simp only [zz]);refine cd rfl ?_;(try simp only [zz]);refine gi h4 (fun c5 h4=>?_) fun c5 h4=>?_
   ·refine ss (rg ?_);(try simp only [zz]);cases h4;cases h5 _ rfl;cases h;exact rt (er (by simp only [zz,zr];exact fq (by simp only [zg,sqS_same hc1,c5])))
   refine sk ?_;(try simp only [zz,c5]);refine rg ?_;(try simp only [zz]);cases h4;exact tz [] (by simp only [zg,sqS_same hc1,c5])
  refine xt ?_;(try simp only [zz,c2]);cases h4;exact tz [] (by simp only [zg,sqS_same hc1])
 rintro ⟨⟩ rfl;dsimp only at h;(try simp only [zz]);refine ss (rg ?_);(try simp only [zz]);cases h;exact rt (er (by simp only [zz,zr];exact fq (by simp only [zg,sqS_same hc1])))
theorem lexer_isLower_ok {t0:Int}{r:Bool}(h:lexer_isLower t0=some r):Den Tryz.prog 167 [e_u8 t0] (e_bool r):=by
 refine dk 8 k167 ?_;simp only [k167,Kf.of,zs,ze];unfold lexer_isLower at h;refine ss (rg ?_);(try simp only [zz]);refine jm h (fun j2=>⟨ds 2 (e_bool j2::ds 6 []),[]⟩) (fun z2 h1=>?_) fun j2 h1 h=>?_
 ·refine rg ?_;(try simp only [zz]);refine gi h1 (fun c1 h1=>?_) fun c1 h1=>?_
  ·(try simp only [zz,c1]);cases h1;exact tz []
  (try simp only [zz,c1]);cases h1;exact tz []
 cases h;exact rt ez
theorem lexer_reserved_ok {t0:ByteArray}{r:Bool}(h:lexer_reserved t0=some r):Den Tryz.prog 169 [e_str t0] (e_bool r):=by
 refine dk 59 k169 ?_;simp only [k169,Kf.of,zs,ze];unfold lexer_reserved at h;refine ss (rg ?_);(try simp only [zz]);refine ss (ss (rg ?_));(try simp only [zz]);refine bk ?_;refine jm h (fun j55=>⟨ds 4 (e_bool j55::ds 55 []),[]⟩) (fun z2 h1=>?_) fun j55 h1 h=>?_
 ·refine ss (rg ?_);(try simp only [zz]);refine cd rfl ?_;(try simp only [zz]);refine gi h1 (fun c1 h1=>?_) fun c1 h1=>?_
  ·refine sk ?_;(try simp only [zz,eq_true c1]);cases h1;exact tz []
  refine ss (rg ?_);(try simp only [zz]);refine cd rfl ?_;(try simp only [zz]);refine gi h1 (fun c2 h1=>?_) fun c2 h1=>?_
  ·refine sk ?_;(try simp only [zz,eq_true c2]);cases h1;exact tz []
  refine ss (rg ?_);(try simp only [zz]);refine cd rfl ?_;(try simp only [zz]);refine gi h1 (fun c3 h1=>?_) fun c3 h1=>?_
  ·refine sk ?_;(try simp only [zz,eq_true c3]);cases h1;exact tz []
  refine ss (rg ?_);(try simp only [zz]);refine cd rfl ?_;(try simp only [zz]);refine gi h1 (fun c4 h1=>?_) fun c4 h1=>?_
  ·refine sk ?_;(try simp only [zz,eq_true c4]);cases h1;exact tz []
  refine ss (rg ?_);(try simp only [zz]);refine cd rfl ?_;(try simp only [zz]);refine gi h1 (fun c5 h1=>?_) fun c5 h1=>?_
  ·refine sk ?_;(try simp only [zz,eq_true c5]);cases h1;exact tz []
  refine ss (rg ?_);(try simp only [zz]);refine cd rfl ?_;(try simp only [zz]);refine gi h1 (fun c6 h1=>?_) fun c6 h1=>?_
  ·refine sk ?_;(try simp only [zz,eq_true c6]);cases h1;exact tz []
  refine ss (rg ?_);(try simp only [zz]);refine cd rfl ?_;(try simp only [zz]);refine gi h1 (fun c7 h1=>?_) fun c7 h1=>?_
  ·refine sk ?_;(try simp only [zz,eq_true c7]);cases h1;exact tz []
  refine ss (rg ?_);(try simp only [zz]);refine cd rfl ?_;(try simp only [zz]);refine gi h1 (fun c8 h1=>?_) fun c8 h1=>?_
  ·refine sk ?_;(try simp only [zz,eq_true c8]);cases h1;exact tz []
  refine ss (rg ?_);(try simp only [zz]);refine cd rfl ?_;(try simp only [zz]);refine gi h1 (fun c9 h1=>?_) fun c9 h1=>?_
  ·refine sk ?_;(try simp only [zz,eq_true c9]);cases h1;exact tz []
  refine ss (rg ?_);(try simp only [zz]);refine cd rfl ?_;(try simp only [zz]);refine gi h1 (fun c10 h1=>?_) fun c10 h1=>?_
  ·refine sk ?_;(try simp only [zz,eq_true c10]);cases h1;exact tz []
  refine ss (rg ?_);(try simp only [zz]);refine cd rfl ?_;(try simp only [zz]);refine gi h1 (fun c11 h1=>?_) fun c11 h1=>?_
  ·refine sk ?_;(try simp only [zz,eq_true c11]);cases h1;exact tz []
  refine ss (rg ?_);(try simp only [zz]);refine cd rfl ?_;(try simp only [zz]);refine gi h1 (fun c12 h1=>?_) fun c12 h1=>?_
  ·refine sk ?_;(try simp only [zz,eq_true c12]);cases h1;exact tz []
  refine ss (rg ?_);(try simp only [zz]);refine cd rfl ?_;(try simp only [zz]);refine gi h1 (fun c13 h1=>?_) fun c13 h1=>?_
  ·refine sk ?_;(try simp only [zz,eq_true c13]);cases h1;exact tz []
  refine ss (rg ?_);(try simp only [zz]);refine cd rfl ?_;(try simp only [zz]);refine gi h1 (fun c14 h1=>?_) fun c14 h1=>?_
  ·refine sk ?_;(try simp only [zz,eq_true c14]);cases h1;exact tz []
  refine ss (rg ?_);(try simp only [zz]);refine cd rfl ?_;(try simp only [zz]);refine gi h1 (fun c15 h1=>?_) fun c15 h1=>?_
  ·refine sk ?_;(try simp only [zz,eq_true c15]);cases h1;exact tz []
  refine ss (rg ?_);(try simp only [zz]);refine cd rfl ?_;(try simp only [zz]);refine gi h1 (fun c16 h1=>?_) fun c16 h1=>?_
  ·refine sk ?_;(try simp only [zz,eq_true c16]);cases h1;exact tz []
  refine ss (rg ?_);(try simp only [zz]);refine cd rfl ?_;(try simp only [zz]);refine gi h1 (fun c17 h1=>?_) fun c17 h1=>?_
  ·refine sk ?_;(try simp only [zz,eq_true c17]);cases h1;exact tz []
  refine ss (rg ?_);(try simp only [zz]);refine cd rfl ?_;(try simp only [zz]);refine gi h1 (fun c18 h1=>?_) fun c18 h1=>?_
  ·refine sk ?_;(try simp only [zz,eq_true c18]);cases h1;exact tz []
  refine ss (rg ?_);(try simp only [zz]);refine cd rfl ?_;(try simp only [zz]);refine gi h1 (fun c19 h1=>?_) fun c19 h1=>?_
  ·refine sk ?_;(try simp only [zz,eq_true c19]);cases h1;exact tz []
  refine ss (rg ?_);(try simp only [zz]);refine cd rfl ?_;(try simp only [zz]);refine gi h1 (fun c20 h1=>?_) fun c20 h1=>?_
  ·refine sk ?_;(try simp only [zz,eq_true c20]);cases h1;exact tz []
  refine ss (rg ?_);(try simp only [zz]);refine cd rfl ?_;(try simp only [zz]);refine gi h1 (fun c21 h1=>?_) fun c21 h1=>?_
  ·refine sk ?_;(try simp only [zz,eq_true c21]);cases h1;exact tz []
  refine ss (rg ?_);(try simp only [zz]);refine cd rfl ?_;(try simp only [zz]);refine gi h1 (fun c22 h1=>?_) fun c22 h1=>?_
  ·refine sk ?_;(try simp only [zz,eq_true c22]);cases h1;exact tz []
  refine ss (rg ?_);(try simp only [zz]);refine cd rfl ?_;(try simp only [zz]);refine gi h1 (fun c23 h1=>?_) fun c23 h1=>?_
  ·refine sk ?_;(try simp only [zz,eq_true c23]);cases h1;exact tz []
  refine ss (rg ?_);(try simp only [zz]);refine cd rfl ?_;(try simp only [zz]);refine gi h1 (fun c24 h1=>?_) fun c24 h1=>?_
  ·refine sk ?_;(try simp only [zz,eq_true c24]);cases h1;exact tz []
  refine ss (rg ?_);(try simp only [zz]);refine cd rfl ?_;(try simp only [zz]);refine gi h1 (fun c25 h1=>?_) fun c25 h1=>?_
  ·refine sk ?_;(try simp only [zz,eq_true c25]);cases h1;exact tz []
  refine ss (rg ?_);(try simp only [zz]);refine cd rfl ?_;(try simp only [zz]);refine gi h1 (fun c26 h1=>?_) fun c26 h1=>?_
  ·refine sk ?_;(try simp only [zz,eq_true c26]);cases h1;exact tz []
  refine ss (rg ?_);(try simp only [zz]);refine cd rfl ?_;(try simp only [zz]);refine gi h1 (fun c27 h1=>?_) fun c27 h1=>?_
  ·refine sk ?_;(try simp only [zz,eq_true c27]);cases h1;exact tz []
  refine ss (rg ?_);(try simp only [zz]);refine cd rfl ?_;(try simp only [zz]);refine gi h1 (fun c28 h1=>?_) fun c28 h1=>?_
  ·refine sk ?_;(try simp only [zz,eq_true c28]);cases h1;exact tz []
  refine ss (rg ?_);(try simp only [zz]);refine cd rfl ?_;(try simp only [zz]);refine gi h1 (fun c29 h1=>?_) fun c29 h1=>?_
  ·refine sk ?_;(try simp only [zz,eq_true c29]);cases h1;exact tz []
  refine ss (rg ?_);(try simp only [zz]);refine cd rfl ?_;(try simp only [zz]);refine gi h1 (fun c30 h1=>?_) fun c30 h1=>?_
  ·refine sk ?_;(try simp only [zz,eq_true c30]);cases h1;exact tz []
  refine ss (rg ?_);(try simp only [zz]);refine cd rfl ?_;(try simp only [zz]);refine gi h1 (fun c31 h1=>?_) fun c31 h1=>?_
  ·refine sk ?_;(try simp only [zz,eq_true c31]);cases h1;exact tz []
  refine ss (rg ?_);(try simp only [zz]);refine cd rfl ?_;(try simp only [zz]);refine gi h1 (fun c32 h1=>?_) fun c32 h1=>?_
  ·refine sk ?_;(try simp only [zz,eq_true c32]);cases h1;exact tz []
  refine ss (rg ?_);(try simp only [zz]);refine cd rfl ?_;(try simp only [zz]);refine gi h1 (fun c33 h1=>?_) fun c33 h1=>?_
  ·refine sk ?_;(try simp only [zz,eq_true c33]);cases h1;exact tz []
  refine ss (rg ?_);(try simp only [zz]);refine cd rfl ?_;(try simp only [zz]);refine gi h1 (fun c34 h1=>?_) fun c34 h1=>?_
  ·refine sk ?_;(try simp only [zz,eq_true c34]);cases h1;exact tz []
  refine ss (rg ?_);(try simp only [zz]);refine cd rfl ?_;(try simp only [zz]);refine gi h1 (fun c35 h1=>?_) fun c35 h1=>?_
  ·refine sk ?_;(try simp only [zz,eq_true c35]);cases h1;exact tz []
  refine ss (rg ?_);(try simp only [zz]);refine cd rfl ?_;(try simp only [zz]);refine gi h1 (fun c36 h1=>?_) fun c36 h1=>?_
  ·refine sk ?_;(try simp only [zz,eq_true c36]);cases h1;exact tz []
  refine ss (rg ?_);(try simp only [zz]);refine cd rfl ?_;(try simp only [zz]);refine gi h1 (fun c37 h1=>?_) fun c37 h1=>?_
  ·refine sk ?_;(try simp only [zz,eq_true c37]);cases h1;exact tz []
  refine ss (rg ?_);(try simp only [zz]);refine cd rfl ?_;(try simp only [zz]);refine gi h1 (fun c38 h1=>?_) fun c38 h1=>?_
  ·refine sk ?_;(try simp only [zz,eq_true c38]);cases h1;exact tz []
  refine ss (rg ?_);(try simp only [zz]);refine cd rfl ?_;(try simp only [zz]);refine gi h1 (fun c39 h1=>?_) fun c39 h1=>?_
  ·refine sk ?_;(try simp only [zz,eq_true c39]);cases h1;exact tz []
  refine ss (rg ?_);(try simp only [zz]);refine cd rfl ?_;(try simp only [zz]);refine gi h1 (fun c40 h1=>?_) fun c40 h1=>?_
  ·refine sk ?_;(try simp only [zz,eq_true c40]);cases h1;exact tz []
  refine ss (rg ?_);(try simp only [zz]);refine cd rfl ?_;(try simp only [zz]);refine gi h1 (fun c41 h1=>?_) fun c41 h1=>?_
  ·refine sk ?_;(try simp only [zz,eq_true c41]);cases h1;exact tz []
  refine ss (rg ?_);(try simp only [zz]);refine cd rfl ?_;(try simp only [zz]);refine gi h1 (fun c42 h1=>?_) fun c42 h1=>?_
  ·refine sk ?_;(try simp only [zz,eq_true c42]);cases h1;exact tz []
  refine ss (rg ?_);(try simp only [zz]);refine cd rfl ?_;(try simp only [zz]);refine gi h1 (fun c43 h1=>?_) fun c43 h1=>?_
  ·refine sk ?_;(try simp only [zz,eq_true c43]);cases h1;exact tz []
  refine ss (rg ?_);(try simp only [zz]);refine cd rfl ?_;(try simp only [zz]);refine gi h1 (fun c44 h1=>?_) fun c44 h1=>?_
  ·refine sk ?_;(try simp only [zz,eq_true c44]);cases h1;exact tz []
  refine ss (rg ?_);(try simp only [zz]);refine cd rfl ?_;(try simp only [zz]);refine gi h1 (fun c45 h1=>?_) fun c45 h1=>?_
  ·refine sk ?_;(try simp only [zz,eq_true c45]);cases h1;exact tz []
  refine ss (rg ?_);(try simp only [zz]);refine cd rfl ?_;(try simp only [zz]);refine gi h1 (fun c46 h1=>?_) fun c46 h1=>?_
  ·refine sk ?_;(try simp only [zz,eq_true c46]);cases h1;exact tz []
  refine ss (rg ?_);(try simp only [zz]);refine cd rfl ?_;(try simp only [zz]);refine gi h1 (fun c47 h1=>?_) fun c47 h1=>?_
  ·refine sk ?_;(try simp only [zz,eq_true c47]);cases h1;exact tz []
  refine ss (rg ?_);(try simp only [zz]);refine cd rfl ?_;(try simp only [zz]);refine gi h1 (fun c48 h1=>?_) fun c48 h1=>?_
  ·refine sk ?_;(try simp only [zz,eq_true c48]);cases h1;exact tz []
  refine ss (rg ?_);(try simp only [zz]);refine cd rfl ?_;(try simp only [zz]);refine gi h1 (fun c49 h1=>?_) fun c49 h1=>?_
  ·refine sk ?_;(try simp only [zz,eq_true c49]);cases h1;exact tz []
  refine ss (rg ?_);(try simp only [zz]);refine cd rfl ?_;(try simp only [zz]);refine gi h1 (fun c50 h1=>?_) fun c50 h1=>?_
  ·refine sk ?_;(try simp only [zz,eq_true c50]);cases h1;exact tz []
  refine ss (rg ?_);(try simp only [zz]);refine cd rfl ?_;(try simp only [zz]);refine gi h1 (fun c51 h1=>?_) fun c51 h1=>?_
  ·refine sk ?_;(try simp only [zz,eq_true c51]);cases h1;exact tz []
  refine ss (rg ?_);(try simp only [zz]);refine cd rfl ?_;(try simp only [zz]);refine gi h1 (fun c52 h1=>?_) fun c52 h1=>?_
  ·refine sk ?_;(try simp only [zz,eq_true c52]);cases h1;exact tz []
  refine ss (rg ?_);(try simp only [zz]);refine cd rfl ?_;(try simp only [zz]);refine gi h1 (fun c53 h1=>?_) fun c53 h1=>?_
  ·refine sk ?_;(try simp only [zz,eq_true c53]);cases h1;exact tz []
  refine ss (rg ?_);(try simp only [zz]);refine cd rfl ?_;(try simp only [zz]);refine gi h1 (fun c54 h1=>?_) fun c54 h1=>?_
  ·refine sk ?_;(try simp only [zz,eq_true c54]);cases h1;exact tz []
  refine rg ?_;(try simp only [zz]);cases h1;exact tz []
 refine cd rfl ?_;(try simp only [zz]);refine gi h (fun c56 h=>?_) fun c56 h=>?_
 ·refine ss (rg ?_);(try simp only [zz]);cases h;exact rt ez
 refine sk ?_;(try simp only [zz,c56]);refine ss (rg ?_);(try simp only [zz]);cases h;exact rt ez
theorem law_hasEnum_c1_ok {t0:GEnum}{t1:ByteArray}{r:Bool}(h:law_hasEnum_c1 t0 t1=some r):Den Tryz.prog 171 [e_GEnum t0,e_p_str t1] (e_bool r):=by
 refine dk 6 k171 ?_;simp only [k171,Kf.of,zs,ze];unfold law_hasEnum_c1 at h;refine ss (rg ?_);(try simp only [zz]);refine ss (rg ?_);(try simp only [zz]);cases h;exact rt ez
theorem law_hasTable_c1_ok {t0:GTable}{t1:ByteArray}{r:Bool}(h:law_hasTable_c1 t0 t1=some r):Den Tryz.prog 173 [e_GTable t0,e_p_str t1] (e_bool r):=by
 refine dk 6 k173 ?_;simp only [k173,Kf.of,zs,ze];unfold law_hasTable_c1 at h;refine ss (rg ?_);(try simp only [zz]);refine ss (rg ?_);(try simp only [zz]);cases h;exact rt ez
theorem law_checkScope_c1_ok {t0:GScope}{t1:GScope}{r:Bool}(h:law_checkScope_c1 t0 t1=some r):Den Tryz.prog 175 [e_GScope t0,e_p_GScope t1] (e_bool r):=by
 refine dk 7 k175 ?_;simp only [k175,Kf.of,zs,ze];unfold law_checkScope_c1 at h;refine ss (rg ?_);(try simp only [zz]);refine ss (rg ?_);(try simp only [zz]);cases h;exact rt ez
theorem ref17_nameTaken_ok {t0:GLaw}{t1:Int}{t2:Int}{t3:ByteArray}{r:Bool}(h:ref17_nameTaken t0 t1 t2 t3=some r):Den Tryz.prog 182 [e_GLaw t0,e_i64 t1,e_i64 t2,e_str t3] (e_bool r):=by
 refine dk 84 k182 ?_;simp only [k182,Kf.of,zs,ze];unfold ref17_nameTaken at h;refine ss (rg ?_);(try simp only [zz]);refine ss (ss (rg ?_));(try simp only [zz]);obtain⟨y1,h2,h⟩:=bs h;refine lm h2 (fun s1=>⟨.dead::e_i64 t1::e_i64 t2::.v (.string t3)::.ref 0 0 0 0::ds 4 (e_i64 s1::ds 78 []),[.live 3 0 [e_GLaw t0]]⟩) (fun q=>⟨.dead::e_i64 t1::e_i64 t2::.v (.string t3)::.ref 0 0 0 0::ds 83 [],[.live 3 0 [e_GLaw t0]]⟩) (tz [ok 0]) ?_ ?_
 ·rintro s1 z3 h4 h5;simp only [ref17_nameTaken_L5]at h4;refine ss (ss (rg ?_));(try simp only [zz]);refine cd rfl ?_;(try simp only [zz]);refine gi h4 (fun c2 h4=>?_) fun c2 h4=>?_
  ·refine sk ?_;(try simp only [zz,c2]);refine ss (bk ?_);refine jm h4 (fun j7=>⟨.dead::e_i64 t1::e_i64 t2::.v (.string t3)::.ref 0 0 0 0::ds 4 (e_i64 s1::ds 25 (e_bool j7::ds 52 [])),[.live 3 0 [e_GLaw t0]]⟩) (fun z7 h6=>?_) fun j7 h6 h4=>?_
   ·refine rg ?_;(try simp only [zz]);refine gi h6 (fun c3 h6=>?_) fun c3 h6=>?_
    ·(try simp only [zz,c3]);refine gi h6 (fun c4 h6=>?_) fun c4 h6=>?_
     ·obtain⟨x5,f9,f10,h6⟩:=bI h6;(try simp only [zz,c3,c4,f9,f10]);cases h6;exact tz [ok 0]
     (try simp only [zz,c3,c4]);cases h6;exact tz [ok 0]
    obtain⟨x6,f12,f13,h6⟩:=bI h6;(try simp only [zz,c3,f12,f13]);cases h6;exact tz [ok 0]
   refine cd rfl ?_;(try simp only [zz]);refine gi h4 (fun c8 h4=>?_) fun c8 h4=>?_
   ·refine ss (rg ?_);(try simp only [zz]);cases h4;cases h5 _ rfl;cases h;exact rt ez
   refine sk ?_;(try simp only [zz,c8]);refine rg ?_;(try simp only [zz]);cases h4;exact tz [ok 0]
  refine xt ?_;(try simp only [zz,c2]);cases h4;exact tz [ok 0]
 rintro ⟨⟩ rfl;dsimp only at h;(try simp only [zz]);refine ss (ss (rg ?_));(try simp only [zz]);obtain⟨y14,h15,h⟩:=bs h;refine lm h15 (fun s10=>⟨.dead::e_i64 t1::e_i64 t2::.v (.string t3)::.ref 0 0 0 0::ds 5 (e_i64 s10::ds 77 []),[.live 3 0 [e_GLaw t0]]⟩) (fun q=>⟨.dead::e_i64 t1::e_i64 t2::.v (.string t3)::.ref 0 0 0 0::ds 83 [],[.live 3 0 [e_GLaw t0]]⟩) (tz [ok 0]) ?_ ?_
 ·rintro s10 z16 h17 h18;simp only [ref17_nameTaken_L4]at h17;refine ss (ss (rg ?_));(try simp only [zz]);refine cd rfl ?_;(try simp only [zz]);refine gi h17 (fun c11 h17=>?_) fun c11 h17=>?_
  ·refine sk ?_;(try simp only [zz,c11]);refine ss (bk ?_);refine jm h17 (fun j17=>⟨.dead::e_i64 t1::e_i64 t2::.v (.string t3)::.ref 0 0 0 0::ds 5 (e_i64 s10::ds 52 (e_bool j17::ds 24 [])),[.live 3 0 [e_GLaw t0]]⟩) (fun z20 h19=>?_) fun j17 h19 h17=>?_
   ·refine rg ?_;(try simp only [zz]);refine gi h19 (fun c12 h19=>?_) fun c12 h19=>?_
    ·(try simp only [zz,c12]);refine gi h19 (fun c13 h19=>?_) fun c13 h19=>?_
     ·have e21:=eT c13;(try simp only [zz,c12,eq_true c13,e21]);refine gi h19 (fun c14 h19=>?_) fun c14 h19=>?_
      ·obtain⟨x15,f24,f25,h19⟩:=bI h19;(try simp only [zz,c12,eq_true c13,e21,c14,f24,f25]);cases h19;exact tz [ok 0]
      (try simp only [zz,c12,eq_true c13,e21,c14]);cases h19;exact tz [ok 0]
     have e22:=eF c13;(try simp only [zz,c12,c13,e22]);cases h19;exact tz [ok 0]
    obtain⟨x16,f27,f28,h19⟩:=bI h19;(try simp only [zz,c12,f27,f28]);cases h19;exact tz [ok 0]
   refine cd rfl ?_;(try simp only [zz]);refine gi h17 (fun c18 h17=>?_) fun c18 h17=>?_
   ·refine ss (rg ?_);(try simp only [zz]);cases h17;cases h18 _ rfl;cases h;exact rt ez
   refine sk ?_;(try simp only [zz,c18]);refine rg ?_;(try simp only [zz]);cases h17;exact tz [ok 0]
  refine xt ?_;(try simp only [zz,c11]);cases h17;exact tz [ok 0]
 rintro ⟨⟩ rfl;dsimp only at h;(try simp only [zz]);refine ss (ss (rg ?_));(try simp only [zz]);obtain⟨y29,h30,h⟩:=bs h;refine lm h30 (fun s20=>⟨.dead::e_i64 t1::e_i64 t2::.v (.string t3)::.ref 0 0 0 0::ds 6 (e_i64 s20::ds 76 []),[.live 3 0 [e_GLaw t0]]⟩) (fun q=>⟨ds 88 [],[]⟩) (tz [ok 0]) ?_ ?_
 ·rintro s20 z31 h32 h33;simp only [ref17_nameTaken_L3]at h32;refine ss (ss (rg ?_));(try simp only [zz]);refine cd rfl ?_;(try simp only [zz]);refine gi h32 (fun c21 h32=>?_) fun c21 h32=>?_
  ·refine sk ?_;(try simp only [zz,c21]);refine ss (bk ?_);refine jm h32 (fun j25=>⟨.dead::e_i64 t1::e_i64 t2::.v (.string t3)::.ref 0 0 0 0::ds 6 (e_i64 s20::ds 75 (e_bool j25::[])),[.live 3 0 [e_GLaw t0]]⟩) (fun z35 h34=>?_) fun j25 h34 h32=>?_
   ·refine rg ?_;(try simp only [zz]);refine gi h34 (fun c22 h34=>?_) fun c22 h34=>?_
    ·have e36:=eT c22;(try simp only [zz,eq_true c22,e36]);refine gi h34 (fun c23 h34=>?_) fun c23 h34=>?_
     ·obtain⟨x24,f39,f40,h34⟩:=bI h34;(try simp only [zz,eq_true c22,e36,c23,f39,f40]);cases h34;exact tz [ok 0]
     (try simp only [zz,eq_true c22,e36,c23]);cases h34;exact tz [ok 0]
    have e37:=eF c22;(try simp only [zz,c22,e37]);cases h34;exact tz [ok 0]
   refine cd rfl ?_;(try simp only [zz]);refine gi h32 (fun c26 h32=>?_) fun c26 h32=>?_
   ·refine ss (rg ?_);(try simp only [zz]);cases h32;cases h33 _ rfl;cases h;exact rt ez
   refine sk ?_;(try simp only [zz,c26]);refine rg ?_;(try simp only [zz]);cases h32;exact tz [ok 0]
  refine xt ?_;(try simp only [zz,c21]);cases h32;exact tz []
 rintro ⟨⟩ rfl;dsimp only at h;(try simp only [zz]);refine ss (rg ?_);(try simp only [zz]);cases h;exact rt ez
theorem slices_Index_string_string_ok {t0:List ByteArray}{t1:ByteArray}{r:Int}(h:slices_Index_string_string t0 t1=some r):Den Tryz.prog 218 [e_s_str t0,e_str t1] (e_i64 r):=by
 refine dk 17 k218 ?_;simp only [k218,Kf.of,zs,ze];unfold slices_Index_string_string at h;refine ss (rg ?_);(try simp only [zz]);refine ss (ss (rg ?_));(try simp only [zz]);obtain⟨y1,h2,h⟩:=bs h;refine lm h2 (fun s1=>⟨e_s_str t0::.v (.string t1)::ds 5 (e_i64 (t0.length:Int)::e_i64 s1::ds 10 []),[]⟩) (fun q=>⟨ds 19 [],[]⟩) (tz []) ?_ ?_
 ·rintro s1 z3 h4 h5;simp only [slices_Index_string_string_L1]at h4;refine ss (rg ?_);(try simp only [zz]);refine ss (cd rfl ?_);(try simp only [zz]);refine gi h4 (fun c2 h4=>?_) fun c2 h4=>?_
  ·refine sk ?_;(try simp only [zz,c2]);refine ss (bk (ss (rg ?_)));(try simp only [zz]);refine ss (rg ?_);obtain⟨x3,f7,f8,h4⟩:=bI h4;(try simp only [zz,f7,f8]);refine cd rfl ?_;(try simp only [zz,f7,f8]);refine gi h4 (fun c4 h4=>?_) fun c4 h4=>?_
   ·refine ss (rg ?_);(try simp only [zz]);cases h4;cases h5 _ rfl;cases h;exact rt ez
   refine sk ?_;(try simp only [zz,f7,f8,c4]);refine rg ?_;(try simp only [zz]);cases h4;exact tz []
  refine xt ?_;(try simp only [zz,c2]);cases h4;exact tz []
 rintro ⟨⟩ rfl;dsimp only at h;(try simp only [zz]);refine ss (rg ?_);(try simp only [zz]);cases h;exact rt ez
theorem lexer_isDigit_ok {t0:Int}{r:Bool}(h:lexer_isDigit t0=some r):Den Tryz.prog 220 [e_u8 t0] (e_bool r):=by
 refine dk 8 k220 ?_;simp only [k220,Kf.of,zs,ze];unfold lexer_isDigit at h;refine ss (rg ?_);(try simp only [zz]);refine jm h (fun j2=>⟨ds 2 (e_bool j2::ds 6 []),[]⟩) (fun z2 h1=>?_) fun j2 h1 h=>?_
 ·refine rg ?_;(try simp only [zz]);refine gi h1 (fun c1 h1=>?_) fun c1 h1=>?_
  ·(try simp only [zz,c1]);cases h1;exact tz []
  (try simp only [zz,c1]);cases h1;exact tz []
 cases h;exact rt ez
theorem slices_IndexFunc_api_Enum_api_Enum_ok {t0:List GEnum}{t1:(GEnum→Option Bool)}{k1:Nat}{q1:List D}(hc1:idfrees q1=true) (hp1:∀x0 r,t1 x0=some r→Den Tryz.prog k1 ([e_GEnum x0]++q1) (e_bool r)) {r:Int}(h:slices_IndexFunc_api_Enum_api_Enum t0 t1=some r):Den Tryz.prog 221 [e_s_GEnum t0,.fn k1 [] q1] (e_i64 r):=by
 refine Den.at 17 k221.ok k221.nm (frC (frF hc1 frN)) rfl ?_;simp only [k221,Kf.of,zs,ze];unfold slices_IndexFunc_api_Enum_api_Enum at h;refine ss (rg ?_);(try simp only [zz]);refine ss (ss (rg ?_));(try simp only [zz]);obtain⟨y1,h2,h⟩:=bs h;refine lm h2 (fun s1=>⟨e_s_GEnum t0::.fn k1 [] q1::ds 5 (e_i64 (t0.length:Int)::e_i64 s1::ds 10 []),[]⟩) (fun q=>⟨ds 19 [],[]⟩) (tz [] (by simp only [zg,sqS_same hc1])) ?_ ?_
 ·rintro s1 z3 h4 h5;simp only [slices_IndexFunc_api_Enum_api_Enum_L1]at h4;refine ss (rg ?_);(try simp only [zz]);refine ss (cd rfl ?_);(try simp only [zz]);refine gi h4 (fun c2 h4=>?_) fun c2 h4=>?_
  ·refine sk ?_;(try simp only [zz,c2]);refine ss (bk (ss (rg ?_)));(try simp only [zz]);refine ss (rg ?_);obtain⟨x3,f7,f8,h4⟩:=bI h4;obtain⟨x4,a9,h4⟩:=bs h4;simp only [zz,f7,f8];refine callX_c1 (hp1 _ _ a9) hc1 ?_ (by simp only [zg,sqS_same hc1]);(try simp only [zz,f7,f8]);refine cd rfl ?_;(try simp only [zz,f7,f8]);refine gi h4 (fun c5 h4=>?_) fun c5 h4=>?_
   ·refine ss (rg ?_);(try simp only [zz]);cases h4;cases h5 _ rfl;cases h;exact rt (er (by simp only [zz,zr];exact fq (by simp only [zg,sqS_same hc1,c5])))
   refine sk ?_;(try simp only [zz,f7,f8,c5]);refine rg ?_;(try simp only [zz]);cases h4;exact tz [] (by simp only [zg,sqS_same hc1,c5])
  refine xt ?_;(try simp only [zz,c2]);cases h4;exact tz [] (by simp only [zg,sqS_same hc1])
 rintro ⟨⟩ rfl;dsimp only at h;(try simp only [zz]);refine ss (rg ?_);(try simp only [zz]);cases h;exact rt (er (by simp only [zz,zr];exact fq (by simp only [zg,sqS_same hc1])))
theorem slices_IndexFunc_api_Table_api_Table_ok {t0:List GTable}{t1:(GTable→Option Bool)}{k1:Nat}{q1:List D}(hc1:idfrees q1=true) (hp1:∀x0 r,t1 x0=some r→Den Tryz.prog k1 ([e_GTable x0]++q1) (e_bool r)) {r:Int}(h:slices_IndexFunc_api_Table_api_Table t0 t1=some r):Den Tryz.prog 222 [e_s_GTable t0,.fn k1 [] q1] (e_i64 r):=by
 refine Den.at 17 k222.ok k222.nm (frC (frF hc1 frN)) rfl ?_;simp only [k222,Kf.of,zs,ze];unfold slices_IndexFunc_api_Table_api_Table at h;refine ss (rg ?_);(try simp only [zz]);refine ss (ss (rg ?_));(try simp only [zz]);obtain⟨y1,h2,h⟩:=bs h;refine lm h2 (fun s1=>⟨e_s_GTable t0::.fn k1 [] q1::ds 5 (e_i64 (t0.length:Int)::e_i64 s1::ds 10 []),[]⟩) (fun q=>⟨ds 19 [],[]⟩) (tz [] (by simp only [zg,sqS_same hc1])) ?_ ?_
 ·rintro s1 z3 h4 h5;simp only [slices_IndexFunc_api_Table_api_Table_L1]at h4;refine ss (rg ?_);(try simp only [zz]);refine ss (cd rfl ?_);(try simp only [zz]);refine gi h4 (fun c2 h4=>?_) fun c2 h4=>?_
  ·refine sk ?_;(try simp only [zz,c2]);refine ss (bk (ss (rg ?_)));(try simp only [zz]);refine ss (rg ?_);obtain⟨x3,f7,f8,h4⟩:=bI h4;obtain⟨x4,a9,h4⟩:=bs h4;simp only [zz,f7,f8];refine callX_c1 (hp1 _ _ a9) hc1 ?_ (by simp only [zg,sqS_same hc1]);(try simp only [zz,f7,f8]);refine cd rfl ?_;(try simp only [zz,f7,f8]);refine gi h4 (fun c5 h4=>?_) fun c5 h4=>?_
   ·refine ss (rg ?_);(try simp only [zz]);cases h4;cases h5 _ rfl;cases h;exact rt (er (by simp only [zz,zr];exact fq (by simp only [zg,sqS_same hc1,c5])))
   refine sk ?_;(try simp only [zz,f7,f8,c5]);refine rg ?_;(try simp only [zz]);cases h4;exact tz [] (by simp only [zg,sqS_same hc1,c5])
  refine xt ?_;(try simp only [zz,c2]);cases h4;exact tz [] (by simp only [zg,sqS_same hc1])
 rintro ⟨⟩ rfl;dsimp only at h;(try simp only [zz]);refine ss (rg ?_);(try simp only [zz]);cases h;exact rt (er (by simp only [zz,zr];exact fq (by simp only [zg,sqS_same hc1])))
theorem slices_IndexFunc_api_Scope_api_Scope_ok {t0:List GScope}{t1:(GScope→Option Bool)}{k1:Nat}{q1:List D}(hc1:idfrees q1=true) (hp1:∀x0 r,t1 x0=some r→Den Tryz.prog k1 ([e_GScope x0]++q1) (e_bool r)) {r:Int}(h:slices_IndexFunc_api_Scope_api_Scope t0 t1=some r):Den Tryz.prog 223 [e_s_GScope t0,.fn k1 [] q1] (e_i64 r):=by
 refine Den.at 17 k223.ok k223.nm (frC (frF hc1 frN)) rfl ?_;simp only [k223,Kf.of,zs,ze];unfold slices_IndexFunc_api_Scope_api_Scope at h;refine ss (rg ?_);(try simp only [zz]);refine ss (ss (rg ?_));(try simp only [zz]);obtain⟨y1,h2,h⟩:=bs h;refine lm h2 (fun s1=>⟨e_s_GScope t0::.fn k1 [] q1::ds 5 (e_i64 (t0.length:Int)::e_i64 s1::ds 10 []),[]⟩) (fun q=>⟨ds 19 [],[]⟩) (tz [] (by simp only [zg,sqS_same hc1])) ?_ ?_
 ·rintro s1 z3 h4 h5;simp only [slices_IndexFunc_api_Scope_api_Scope_L1]at h4;refine ss (rg ?_);(try simp only [zz]);refine ss (cd rfl ?_);(try simp only [zz]);refine gi h4 (fun c2 h4=>?_) fun c2 h4=>?_
  ·refine sk ?_;(try simp only [zz,c2]);refine ss (bk (ss (rg ?_)));(try simp only [zz]);refine ss (rg ?_);obtain⟨x3,f7,f8,h4⟩:=bI h4;obtain⟨x4,a9,h4⟩:=bs h4;simp only [zz,f7,f8];refine callX_c1 (hp1 _ _ a9) hc1 ?_ (by simp only [zg,sqS_same hc1]);(try simp only [zz,f7,f8]);refine cd rfl ?_;(try simp only [zz,f7,f8]);refine gi h4 (fun c5 h4=>?_) fun c5 h4=>?_
   ·refine ss (rg ?_);(try simp only [zz]);cases h4;cases h5 _ rfl;cases h;exact rt (er (by simp only [zz,zr];exact fq (by simp only [zg,sqS_same hc1,c5])))
   refine sk ?_;(try simp only [zz,f7,f8,c5]);refine rg ?_;(try simp only [zz]);cases h4;exact tz [] (by simp only [zg,sqS_same hc1,c5])
  refine xt ?_;(try simp only [zz,c2]);cases h4;exact tz [] (by simp only [zg,sqS_same hc1])
 rintro ⟨⟩ rfl;dsimp only at h;(try simp only [zz]);refine ss (rg ?_);(try simp only [zz]);cases h;exact rt (er (by simp only [zz,zr];exact fq (by simp only [zg,sqS_same hc1])))
theorem law_checkField_c1_ok {t0:GField}{t1:GField}{r:Bool}(h:law_checkField_c1 t0 t1=some r):Den Tryz.prog 224 [e_GField t0,e_p_GField t1] (e_bool r):=by
 refine dk 7 k224 ?_;simp only [k224,Kf.of,zs,ze];unfold law_checkField_c1 at h;refine ss (rg ?_);(try simp only [zz]);refine ss (rg ?_);(try simp only [zz]);cases h;exact rt ez
theorem law_fieldTypes_ok {t0:List GField}{r:List GType}(h:law_fieldTypes t0=some r):Den Tryz.prog 226 [e_s_GField t0] (e_s_GType r):=by
 refine dk 18 k226 ?_;simp only [k226,Kf.of,zs,ze];unfold law_fieldTypes at h;refine ss (rg ?_);(try simp only [zz]);refine ss (rg ?_);(try simp only [zz]);refine ss (ss (rg ?_));(try simp only [zz]);obtain⟨y1,h2,h⟩:=bs h;refine lm h2 (fun q=>⟨ds 3 (.own 0 0::ds 2 (e_s_GField t0::e_i64 (t0.length:Int)::e_i64 q.2::ds 10 [])),[.live 2 0 (q.1.map e_GType)]⟩) (fun b8=>⟨ds 3 (.own 0 0::ds 15 []),[.live 2 0 (b8.map e_GType)]⟩) (tz [on 2]) ?_ ?_
 ·rintro ⟨s1,s2⟩ z3 h4 h5;simp only [law_fieldTypes_L1]at h4;refine ss (rg ?_);(try simp only [zz]);refine ss (cd rfl ?_);(try simp only [zz]);refine gi h4 (fun c3 h4=>?_) fun c3 h4=>?_
  ·refine sk ?_;(try simp only [zz,c3]);refine ss (bk (ss (rg ?_)));obtain⟨x4,f7,f8,h4⟩:=bI h4;(try simp only [zz,f7,f8]);refine rg ?_;obtain⟨x5,a9,h4⟩:=bs h4;obtain⟨f10,f11⟩:=app_f (e:=e_GType) a9;(try simp only [zz]at f10 f11);(try simp only [zz,f10,f11]);refine rg ?_;(try simp only [zz]);cases h4;exact tz [ov 0 1]
  refine xt ?_;(try simp only [zz,c3]);cases h4;exact tz [ok 0]
 rintro b8 rfl;dsimp only at h;(try simp only [zz]);refine ss (rg ?_);(try simp only [zz]);cases h;exact rt ez
theorem law_checkRule_c1_ok {t0:GRule}{t1:GRule}{r:Bool}(h:law_checkRule_c1 t0 t1=some r):Den Tryz.prog 228 [e_GRule t0,e_p_GRule t1] (e_bool r):=by
 refine dk 7 k228 ?_;simp only [k228,Kf.of,zs,ze];unfold law_checkRule_c1 at h;refine ss (rg ?_);(try simp only [zz]);refine ss (rg ?_);(try simp only [zz]);cases h;exact rt ez
theorem slices_Index_int_int_ok {t0:List Int}{t1:Int}{r:Int}(h:slices_Index_int_int t0 t1=some r):Den Tryz.prog 231 [e_s_i64 t0,e_i64 t1] (e_i64 r):=by
 refine dk 17 k231 ?_;simp only [k231,Kf.of,zs,ze];unfold slices_Index_int_int at h;refine ss (rg ?_);(try simp only [zz]);refine ss (ss (rg ?_));(try simp only [zz]);obtain⟨y1,h2,h⟩:=bs h;refine lm h2 (fun s1=>⟨e_s_i64 t0::e_i64 t1::ds 5 (e_i64 (t0.length:Int)::e_i64 s1::ds 10 []),[]⟩) (fun q=>⟨ds 19 [],[]⟩) (tz []) ?_ ?_
 ·rintro s1 z3 h4 h5;simp only [slices_Index_int_int_L1]at h4;refine ss (rg ?_);(try simp only [zz]);refine ss (cd rfl ?_);(try simp only [zz]);refine gi h4 (fun c2 h4=>?_) fun c2 h4=>?_
  ·refine sk ?_;(try simp only [zz,c2]);refine ss (bk (ss (rg ?_)));(try simp only [zz]);refine ss (rg ?_);obtain⟨x3,f7,f8,h4⟩:=bI h4;(try simp only [zz,f7,f8]);refine cd rfl ?_;(try simp only [zz,f7,f8]);refine gi h4 (fun c4 h4=>?_) fun c4 h4=>?_
   ·have e9:=eT c4;refine ss (rg ?_);(try simp only [zz]);cases h4;cases h5 _ rfl;cases h;exact rt ez
   have e10:=eF c4;refine sk ?_;(try simp only [zz,f7,f8,c4,e10]);refine rg ?_;(try simp only [zz]);cases h4;exact tz []
  refine xt ?_;(try simp only [zz,c2]);cases h4;exact tz []
 rintro ⟨⟩ rfl;dsimp only at h;(try simp only [zz]);refine ss (rg ?_);(try simp only [zz]);cases h;exact rt ez
theorem deps_reachedP_ok {t0:(List (List Int))}{t1:Int}{r:List Int}(h:deps_reachedP t0 t1=some r):Den Tryz.prog 232 [e_s_s_i64 t0,e_i64 t1] (e_s_i64 r):=by
 refine dk 60 k232 ?_;simp only [k232,Kf.of,zs,ze];unfold deps_reachedP at h;refine ss (rg ?_);(try simp only [zz]);refine ss (rg ?_);obtain⟨x1,a1,h⟩:=bs h;obtain⟨f2,f3,f4,f5,f6⟩:=mks_f (e:=e_bool) a1;(try simp only [zz]at f5 f6);(try simp only [zz,f2,f3,f4,f5,f6]);refine ss (rg ?_);(try simp only [zz]);refine ss ?_;obtain⟨y7,h8,h⟩:=bs h;refine lm h8 (fun q=>⟨e_s_s_i64 t0::ds 4 (.own 0 0::.own 1 0::ds 55 []),[.live 1 0 (q.1.map e_bool),.live 1 0 (q.2.map e_i64)]⟩) (fun b26=>⟨ds 5 (.own 0 0::ds 56 []),[.live 1 0 (b26.map e_bool)]⟩) (tz [ok 0,ok 1]) ?_ ?_
 ·rintro ⟨s2,s3⟩ z9 h10 h11;simp only [deps_reachedP_L7]at h10;refine ss (ss (rg ?_));(try simp only [zz]);refine cd rfl ?_;(try simp only [zz]);refine gi h10 (fun c4 h10=>?_) fun c4 h10=>?_
  ·refine sk ?_;(try simp only [zz,c4]);refine bk (ss (rg ?_));obtain⟨x5,f13,f14,f15,h10⟩:=bO h10;(try simp only [zz,f13,f14,f15]);refine ss (rg ?_);obtain⟨x6,a16,h10⟩:=bs h10;obtain⟨f17,f18,f19⟩:=front_f (e:=e_i64) a16;(try simp only [zz]at f19);(try simp only [zz,f17,f18,f19]);refine ss (rg ?_);obtain⟨x7,f21,f22,h10⟩:=bI h10;(try simp only [zz,f21,f22]);obtain⟨y23,h24,h10⟩:=bs h10;refine lm h24 (fun q=>⟨e_s_s_i64 t0::ds 4 (.own 0 0::.own 1 0::ds 22 (e_s_i64 x7::e_i64 (x7.length:Int)::e_i64 q.2.2::ds 30 [])),[.live 1 0 (q.1.map e_bool),.live 1 0 (q.2.1.map e_i64)]⟩) (fun q=>⟨e_s_s_i64 t0::ds 4 (.own 0 0::.own 1 0::ds 55 []),[.live 1 0 (q.1.map e_bool),.live 1 0 (q.2.map e_i64)]⟩) (tz [ok 0,ov 1 1]) ?_ ?_
   ·rintro ⟨s8,s9,s10⟩ z25 h26 h27;simp only [deps_reachedP_L4]at h26;refine ss (rg ?_);(try simp only [zz]);refine ss (cd rfl ?_);(try simp only [zz]);refine gi h26 (fun c11 h26=>?_) fun c11 h26=>?_
    ·refine sk ?_;(try simp only [zz,c11]);refine jm h26 (fun q=>⟨e_s_s_i64 t0::ds 4 (.own 0 0::.own 1 0::ds 22 (e_s_i64 x7::e_i64 (x7.length:Int)::e_i64 s10::ds 30 [])),[.live 1 0 (q.1.map e_bool),.live 1 0 (q.2.map e_i64)]⟩) (fun z29 h28=>?_) fun z29 h28 h26=>?_
     ·refine bk (ss (rg ?_));obtain⟨x12,f31,f32,h28⟩:=bI h28;(try simp only [zz,f31,f32]);refine ss (rg ?_);obtain⟨x13,f34,f35,f36,h28⟩:=bO h28;(try simp only [zz,f34,f35,f36]);refine cd rfl ?_;(try simp only [zz,f34,f35,f36]);refine gi h28 (fun c14 h28=>?_) fun c14 h28=>?_
      ·refine ss (rg ?_);obtain⟨x15,a37,h28⟩:=bs h28;obtain⟨f38,f39⟩:=put_f (e:=e_bool) a37;(try simp only [zz]at f39);(try simp only [zz,f34,f35,f36,f38,f39]);refine rg ?_;obtain⟨x16,a40,h28⟩:=bs h28;obtain⟨f41,f42⟩:=app_f (e:=e_i64) a40;(try simp only [zz]at f41 f42);(try simp only [zz,f41,f42]);cases h28;exact tz [ok 0,ov 1 1]
      refine sk ?_;(try simp only [zz,f34,f35,f36,c14]);cases h28;exact tz [ok 0,ok 1]
     obtain⟨j17,j18⟩:=z29;dsimp only at h26;refine rg ?_;(try simp only [zz]);cases h26;exact tz [ok 0,ok 1]
    refine xt ?_;(try simp only [zz,c11]);cases h26;exact tz [ok 0,ok 1]
   rintro ⟨b22,b23⟩ rfl;dsimp only at h10;(try simp only [zz]);cases h10;exact tz [ok 0,ok 1]
  refine xt ?_;(try simp only [zz,c4]);cases h10;exact tz [ok 0]
 rintro b26 rfl;dsimp only at h;(try simp only [zz]);refine ss (rg ?_);(try simp only [zz]);refine ss (ss (rg ?_));(try simp only [zz]);obtain⟨y43,h44,h⟩:=bs h;refine lm h44 (fun q=>⟨ds 10 (.own 0 0::ds 37 (.own 1 0::e_i64 (b26.length:Int)::e_i64 q.2::ds 11 [])),[.live 1 0 (q.1.map e_i64),.live 1 0 (b26.map e_bool)]⟩) (fun b36=>⟨ds 10 (.own 0 0::ds 51 []),[.live 1 0 (b36.map e_i64)]⟩) (tz [on 1,ok 0]) ?_ ?_
 ·rintro ⟨s27,s28⟩ z45 h46 h47;simp only [deps_reachedP_L6]at h46;refine ss (rg ?_);(try simp only [zz]);refine ss (cd rfl ?_);(try simp only [zz]);refine gi h46 (fun c29 h46=>?_) fun c29 h46=>?_
  ·refine sk ?_;(try simp only [zz,c29]);refine jm h46 (fun j33=>⟨ds 10 (.own 0 0::ds 37 (.own 1 0::e_i64 (b26.length:Int)::e_i64 s28::ds 11 [])),[.live 1 0 (j33.map e_i64),.live 1 0 (b26.map e_bool)]⟩) (fun z49 h48=>?_) fun j33 h48 h46=>?_
   ·refine bk (ss (rg ?_));obtain⟨x30,f51,f52,f53,h48⟩:=bO h48;(try simp only [zz,f51,f52,f53]);refine ss (rg ?_);(try simp only [zz]);refine cd rfl ?_;(try simp only [zz]);refine gi h48 (fun c31 h48=>?_) fun c31 h48=>?_
    ·refine rg ?_;obtain⟨x32,a54,h48⟩:=bs h48;obtain⟨f55,f56⟩:=app_f (e:=e_i64) a54;(try simp only [zz]at f55 f56);(try simp only [zz,f55,f56]);cases h48;exact tz [ov 0 1,ok 1]
    refine sk ?_;(try simp only [zz,c31]);cases h48;exact tz [ok 0,ok 1]
   refine rg ?_;(try simp only [zz]);cases h46;exact tz [ok 0,ok 1]
  refine xt ?_;(try simp only [zz,c29]);cases h46;exact tz [ok 0]
 rintro b36 rfl;dsimp only at h;(try simp only [zz]);refine ss (rg ?_);(try simp only [zz]);cases h;exact rt ez
theorem deps_reached_ok {t0:(List (List Int))}{t1:Int}{r:List Int}(h:deps_reached t0 t1=some r):Den Tryz.prog 232 [e_s_s_i64 t0,e_i64 t1] (e_s_i64 r):=deps_reachedP_ok (reached_P h)
theorem ref08_lower_ok {t0:Int}{r:Bool}(h:ref08_lower t0=some r):Den Tryz.prog 234 [e_u8 t0] (e_bool r):=by
 refine dk 8 k234 ?_;simp only [k234,Kf.of,zs,ze];unfold ref08_lower at h;refine ss (rg ?_);(try simp only [zz]);refine jm h (fun j2=>⟨ds 2 (e_bool j2::ds 6 []),[]⟩) (fun z2 h1=>?_) fun j2 h1 h=>?_
 ·refine rg ?_;(try simp only [zz]);refine gi h1 (fun c1 h1=>?_) fun c1 h1=>?_
  ·(try simp only [zz,c1]);cases h1;exact tz []
  (try simp only [zz,c1]);cases h1;exact tz []
 cases h;exact rt ez
theorem ref08_Reserved_ok {r:List ByteArray}(h:ref08_Reserved=some r):Den Tryz.prog 236 [] (e_s_str r):=by
 refine dk 2 k236 ?_;simp only [k236,Kf.of,zs,ze];unfold ref08_Reserved at h;refine ss (rg ?_);(try simp only [zz]);refine ss (rg ?_);(try simp only [zz]);cases h;exact rt ez
theorem ref09_ValidType_ok {t0:GType}{t1:List GEnum}{r:Bool}(h:ref09_ValidType t0 t1=some r):Den Tryz.prog 237 [e_GType t0,e_s_GEnum t1] (e_bool r):=by
 refine dk 29 k237 ?_;simp only [k237,Kf.of,zs,ze];unfold ref09_ValidType at h;refine ss (rg ?_);(try simp only [zz]);refine ss (ss (rg ?_));(try simp only [zz]);refine cd rfl ?_;(try simp only [zz]);refine gi h (fun c1 h=>?_) fun c1 h=>?_
 ·have e1:=eT c1;refine jm h (fun j3=>⟨ds 4 (e_bool j3::ds 26 []),[]⟩) (fun z4 h3=>?_) fun j3 h3 h=>?_
  ·refine rg ?_;(try simp only [zz]);refine gi h3 (fun c2 h3=>?_) fun c2 h3=>?_
   ·(try simp only [zz,c2]);cases h3;exact tz []
   (try simp only [zz,c2]);cases h3;exact tz []
  cases h;exact rt ez
 have e2:=eF c1;refine sk ?_;(try simp only [zz,c1,e2]);refine jm h (fun j6=>⟨ds 4 (e_bool j6::ds 26 []),[]⟩) (fun z6 h5=>?_) fun j6 h5 h=>?_
 ·refine rg ?_;(try simp only [zz]);refine gi h5 (fun c4 h5=>?_) fun c4 h5=>?_
  ·(try simp only [zz,c4]);refine gi h5 (fun c5 h5=>?_) fun c5 h5=>?_
   ·(try simp only [zz,c4,c5]);cases h5;exact tz []
   (try simp only [zz,c4,c5]);cases h5;exact tz []
  (try simp only [zz,c4]);cases h5;exact tz []
 cases h;exact rt ez
theorem ref17_hasField_ok {t0:List GField}{t1:Int}{t2:ByteArray}{r:Bool}(h:ref17_hasField t0 t1 t2=some r):Den Tryz.prog 240 [e_s_GField t0,e_i64 t1,e_str t2] (e_bool r):=by
 refine dk 23 k240 ?_;simp only [k240,Kf.of,zs,ze];unfold ref17_hasField at h;refine ss (rg ?_);(try simp only [zz]);refine ss (ss (rg ?_));(try simp only [zz]);obtain⟨y1,h2,h⟩:=bs h;refine lm h2 (fun s1=>⟨e_s_GField t0::e_i64 t1::.v (.string t2)::ds 4 (e_i64 s1::ds 18 []),[]⟩) (fun q=>⟨ds 26 [],[]⟩) (tz []) ?_ ?_
 ·rintro s1 z3 h4 h5;simp only [ref17_hasField_L1]at h4;refine ss ?_;refine jm h4 (fun j3=>⟨e_s_GField t0::e_i64 t1::.v (.string t2)::ds 4 (e_i64 s1::ds 8 (e_bool j3::ds 9 [])),[]⟩) (fun z7 h6=>?_) fun j3 h6 h4=>?_
  ·refine rg ?_;(try simp only [zz]);refine gi h6 (fun c2 h6=>?_) fun c2 h6=>?_
   ·(try simp only [zz,c2]);cases h6;exact tz []
   (try simp only [zz,c2]);cases h6;exact tz []
  refine cd rfl ?_;(try simp only [zz]);refine gi h4 (fun c4 h4=>?_) fun c4 h4=>?_
  ·refine sk ?_;(try simp only [zz,c4]);refine ss (bk (ss (rg ?_)));obtain⟨x5,f9,f10,h4⟩:=bI h4;(try simp only [zz,f9,f10]);refine cd rfl ?_;(try simp only [zz,f9,f10]);refine gi h4 (fun c6 h4=>?_) fun c6 h4=>?_
   ·refine ss (rg ?_);(try simp only [zz]);cases h4;cases h5 _ rfl;cases h;exact rt ez
   refine sk ?_;(try simp only [zz,f9,f10,c6]);refine rg ?_;(try simp only [zz]);cases h4;exact tz []
  refine xt ?_;(try simp only [zz,c4]);cases h4;exact tz []
 rintro ⟨⟩ rfl;dsimp only at h;(try simp only [zz]);refine ss (rg ?_);(try simp only [zz]);cases h;exact rt ez
theorem ref17_plainText_ok {t0:ByteArray}{r:Bool}(h:ref17_plainText t0=some r):Den Tryz.prog 241 [e_str t0] (e_bool r):=by
 refine dk 28 k241 ?_;simp only [k241,Kf.of,zs,ze];unfold ref17_plainText at h;refine ss (rg ?_);(try simp only [zz]);refine ss (ss (rg ?_));(try simp only [zz]);obtain⟨y1,h2,h⟩:=bs h;refine lm h2 (fun s1=>⟨.v (.string t0)::ds 2 (e_i64 s1::ds 25 []),[]⟩) (fun q=>⟨.v (.string t0)::ds 28 [],[]⟩) (tz []) ?_ ?_
 ·rintro s1 z3 h4 h5;simp only [ref17_plainText_L1]at h4;refine ss (ss (rg ?_));(try simp only [zz]);refine cd rfl ?_;(try simp only [zz]);refine gi h4 (fun c2 h4=>?_) fun c2 h4=>?_
  ·refine sk ?_;(try simp only [zz,c2]);refine ss (bk ?_);refine jm h4 (fun j6=>⟨.v (.string t0)::ds 2 (e_i64 s1::ds 21 (e_bool j6::ds 3 [])),[]⟩) (fun z7 h6=>?_) fun j6 h6 h4=>?_
   ·refine rg ?_;obtain⟨x3,a8,h6⟩:=bs h6;(try simp only [zz,a8]);refine gi h6 (fun c4 h6=>?_) fun c4 h6=>?_
    ·(try simp only [zz,a8,c4]);refine gi h6 (fun c5 h6=>?_) fun c5 h6=>?_
     ·(try simp only [zz,a8,c4,c5]);cases h6;exact tz []
     (try simp only [zz,a8,c4,c5]);cases h6;exact tz []
    (try simp only [zz,a8,c4]);cases h6;exact tz []
   refine cd rfl ?_;(try simp only [zz]);refine gi h4 (fun c7 h4=>?_) fun c7 h4=>?_
   ·refine ss (rg ?_);(try simp only [zz]);cases h4;cases h5 _ rfl;cases h;exact rt ez
   refine sk ?_;(try simp only [zz,c7]);refine rg ?_;(try simp only [zz]);cases h4;exact tz []
  refine xt ?_;(try simp only [zz,c2]);cases h4;exact tz []
 rintro ⟨⟩ rfl;dsimp only at h;(try simp only [zz]);refine ss (rg ?_);(try simp only [zz]);cases h;exact rt ez
theorem ref16_insert_ok {t0:List Int}{t1:Int}{r:List Int}(h:ref16_insert t0 t1=some r):Den Tryz.prog 245 [e_s_i64 t0,e_i64 t1] (e_s_i64 r):=by
 refine dk 46 k245 ?_;simp only [k245,Kf.of,zs,ze];unfold ref16_insert at h;refine ss (rg ?_);(try simp only [zz]);refine ss (rg ?_);(try simp only [zz]);refine ss (rg ?_);(try simp only [zz]);refine ss (ss (rg ?_));(try simp only [zz]);obtain⟨y1,h2,h⟩:=bs h;refine lm h2 (fun q=>⟨e_s_i64 t0::e_i64 t1::ds 3 (.own 0 0::e_bool q.2.1::e_i64 q.2.2::ds 40 []),[.live 1 0 (q.1.map e_i64)]⟩) (fun q=>⟨.dead::e_i64 t1::ds 3 (.own 0 0::e_bool q.2::ds 41 []),[.live 1 0 (q.1.map e_i64)]⟩) (tz [on 1]) ?_ ?_
 ·rintro ⟨s1,s2,s3⟩ z3 h4 h5;simp only [ref16_insert_L1]at h4;refine ss (ss (rg ?_));(try simp only [zz]);refine cd rfl ?_;(try simp only [zz]);refine gi h4 (fun c4 h4=>?_) fun c4 h4=>?_
  ·refine sk ?_;(try simp only [zz,c4]);refine ss (bk ?_);refine jm h4 (fun q=>⟨e_s_i64 t0::e_i64 t1::ds 3 (.own 0 0::e_bool q.2::e_i64 s3::ds 40 []),[.live 1 0 (q.1.map e_i64)]⟩) (fun z7 h6=>?_) fun z7 h6 h4=>?_
   ·refine jm h6 (fun j7=>⟨e_s_i64 t0::e_i64 t1::ds 3 (.own 0 0::e_bool s2::e_i64 s3::ds 15 (e_bool j7::ds 24 [])),[.live 1 0 (s1.map e_i64)]⟩) (fun z9 h8=>?_) fun j7 h8 h6=>?_
    ·refine rg ?_;(try simp only [zz]);refine gi h8 (fun c5 h8=>?_) fun c5 h8=>?_
     ·obtain⟨x6,f11,f12,h8⟩:=bI h8;(try simp only [zz,c5,f11,f12]);cases h8;exact tz [ok 0]
     (try simp only [zz,c5]);cases h8;exact tz [ok 0]
    refine cd rfl ?_;(try simp only [zz]);refine gi h6 (fun c8 h6=>?_) fun c8 h6=>?_
    ·refine jm h6 (fun j12=>⟨e_s_i64 t0::e_i64 t1::ds 3 (.own 0 0::.dead::e_i64 s3::ds 40 []),[.live 1 0 (j12.map e_i64)]⟩) (fun z14 h13=>?_) fun j12 h13 h6=>?_
     ·refine ss (rg ?_);obtain⟨x9,f16,f17,h13⟩:=bI h13;(try simp only [zz,f16,f17]);refine cd rfl ?_;(try simp only [zz,f16,f17]);refine gi h13 (fun c10 h13=>?_) fun c10 h13=>?_
      ·refine rg ?_;obtain⟨x11,a18,h13⟩:=bs h13;obtain⟨f19,f20⟩:=app_f (e:=e_i64) a18;(try simp only [zz]at f19 f20);(try simp only [zz,f19,f20]);cases h13;exact tz [ov 0 1]
      refine sk ?_;(try simp only [zz,f16,f17,c10]);cases h13;exact tz [ok 0]
     refine rg ?_;(try simp only [zz]);cases h6;exact tz [ok 0]
    refine sk ?_;(try simp only [zz,c8]);cases h6;exact tz [ok 0]
   obtain⟨j13,j14⟩:=z7;dsimp only at h4;refine rg ?_;obtain⟨x15,f22,f23,h4⟩:=bI h4;obtain⟨x16,a24,h4⟩:=bs h4;obtain⟨f25,f26⟩:=app_f (e:=e_i64) a24;(try simp only [zz]at f25 f26);(try simp only [zz,f22,f23,f25,f26]);refine rg ?_;(try simp only [zz]);cases h4;exact tz [ov 0 1]
  refine xt ?_;(try simp only [zz,c4]);cases h4;exact tz [ok 0]
 rintro ⟨b20,b21⟩ rfl;dsimp only at h;(try simp only [zz]);refine jm h (fun j24=>⟨ds 5 (.own 0 0::ds 42 []),[.live 1 0 (j24.map e_i64)]⟩) (fun z28 h27=>?_) fun j24 h27 h=>?_
 ·refine ss (rg ?_);(try simp only [zz]);refine cd rfl ?_;(try simp only [zz]);refine gi h27 (fun c22 h27=>?_) fun c22 h27=>?_
  ·refine rg ?_;obtain⟨x23,a29,h27⟩:=bs h27;obtain⟨f30,f31⟩:=app_f (e:=e_i64) a29;(try simp only [zz]at f30 f31);(try simp only [zz,f30,f31]);cases h27;exact tz [ov 0 1]
  refine sk ?_;(try simp only [zz,c22]);cases h27;exact tz [ok 0]
 refine ss (rg ?_);(try simp only [zz]);cases h;exact rt ez
theorem slices_IndexFunc_api_Field_api_Field_ok {t0:List GField}{t1:(GField→Option Bool)}{k1:Nat}{q1:List D}(hc1:idfrees q1=true) (hp1:∀x0 r,t1 x0=some r→Den Tryz.prog k1 ([e_GField x0]++q1) (e_bool r)) {r:Int}(h:slices_IndexFunc_api_Field_api_Field t0 t1=some r):Den Tryz.prog 263 [e_s_GField t0,.fn k1 [] q1] (e_i64 r):=by
 refine Den.at 17 k263.ok k263.nm (frC (frF hc1 frN)) rfl ?_;simp only [k263,Kf.of,zs,ze];unfold slices_IndexFunc_api_Field_api_Field at h;refine ss (rg ?_);(try simp only [zz]);refine ss (ss (rg ?_));(try simp only [zz]);obtain⟨y1,h2,h⟩:=bs h;refine lm h2 (fun s1=>⟨e_s_GField t0::.fn k1 [] q1::ds 5 (e_i64 (t0.length:Int)::e_i64 s1::ds 10 []),[]⟩) (fun q=>⟨ds 19 [],[]⟩) (tz [] (by simp only [zg,sqS_same hc1])) ?_ ?_
 ·rintro s1 z3 h4 h5;simp only [slices_IndexFunc_api_Field_api_Field_L1]at h4;refine ss (rg ?_);(try simp only [zz]);refine ss (cd rfl ?_);(try simp only [zz]);refine gi h4 (fun c2 h4=>?_) fun c2 h4=>?_
  ·refine sk ?_;(try simp only [zz,c2]);refine ss (bk (ss (rg ?_)));(try simp only [zz]);refine ss (rg ?_);obtain⟨x3,f7,f8,h4⟩:=bI h4;obtain⟨x4,a9,h4⟩:=bs h4;simp only [zz,f7,f8];refine callX_c1 (hp1 _ _ a9) hc1 ?_ (by simp only [zg,sqS_same hc1]);(try simp only [zz,f7,f8]);refine cd rfl ?_;(try simp only [zz,f7,f8]);refine gi h4 (fun c5 h4=>?_) fun c5 h4=>?_
   ·refine ss (rg ?_);(try simp only [zz]);cases h4;cases h5 _ rfl;cases h;exact rt (er (by simp only [zz,zr];exact fq (by simp only [zg,sqS_same hc1,c5])))
   refine sk ?_;(try simp only [zz,f7,f8,c5]);refine rg ?_;(try simp only [zz]);cases h4;exact tz [] (by simp only [zg,sqS_same hc1,c5])
  refine xt ?_;(try simp only [zz,c2]);cases h4;exact tz [] (by simp only [zg,sqS_same hc1])
 rintro ⟨⟩ rfl;dsimp only at h;(try simp only [zz]);refine ss (rg ?_);(try simp only [zz]);cases h;exact rt (er (by simp only [zz,zr];exact fq (by simp only [zg,sqS_same hc1])))
theorem slices_IndexFunc_api_Rule_api_Rule_ok {t0:List GRule}{t1:(GRule→Option Bool)}{k1:Nat}{q1:List D}(hc1:idfrees q1=true) (hp1:∀x0 r,t1 x0=some r→Den Tryz.prog k1 ([e_GRule x0]++q1) (e_bool r)) {r:Int}(h:slices_IndexFunc_api_Rule_api_Rule t0 t1=some r):Den Tryz.prog 264 [e_s_GRule t0,.fn k1 [] q1] (e_i64 r):=by
 refine Den.at 17 k264.ok k264.nm (frC (frF hc1 frN)) rfl ?_;simp only [k264,Kf.of,zs,ze];unfold slices_IndexFunc_api_Rule_api_Rule at h;refine ss (rg ?_);(try simp only [zz]);refine ss (ss (rg ?_));(try simp only [zz]);obtain⟨y1,h2,h⟩:=bs h;refine lm h2 (fun s1=>⟨e_s_GRule t0::.fn k1 [] q1::ds 5 (e_i64 (t0.length:Int)::e_i64 s1::ds 10 []),[]⟩) (fun q=>⟨ds 19 [],[]⟩) (tz [] (by simp only [zg,sqS_same hc1])) ?_ ?_
 ·rintro s1 z3 h4 h5;simp only [slices_IndexFunc_api_Rule_api_Rule_L1]at h4;refine ss (rg ?_);(try simp only [zz]);refine ss (cd rfl ?_);(try simp only [zz]);refine gi h4 (fun c2 h4=>?_) fun c2 h4=>?_
  ·refine sk ?_;(try simp only [zz,c2]);refine ss (bk (ss (rg ?_)));(try simp only [zz]);refine ss (rg ?_);obtain⟨x3,f7,f8,h4⟩:=bI h4;obtain⟨x4,a9,h4⟩:=bs h4;simp only [zz,f7,f8];refine callX_c1 (hp1 _ _ a9) hc1 ?_ (by simp only [zg,sqS_same hc1]);(try simp only [zz,f7,f8]);refine cd rfl ?_;(try simp only [zz,f7,f8]);refine gi h4 (fun c5 h4=>?_) fun c5 h4=>?_
   ·refine ss (rg ?_);(try simp only [zz]);cases h4;cases h5 _ rfl;cases h;exact rt (er (by simp only [zz,zr];exact fq (by simp only [zg,sqS_same hc1,c5])))
   refine sk ?_;(try simp only [zz,f7,f8,c5]);refine rg ?_;(try simp only [zz]);cases h4;exact tz [] (by simp only [zg,sqS_same hc1,c5])
  refine xt ?_;(try simp only [zz,c2]);cases h4;exact tz [] (by simp only [zg,sqS_same hc1])
 rintro ⟨⟩ rfl;dsimp only at h;(try simp only [zz]);refine ss (rg ?_);(try simp only [zz]);cases h;exact rt (er (by simp only [zz,zr];exact fq (by simp only [zg,sqS_same hc1])))
theorem ref08_digit_ok {t0:Int}{r:Bool}(h:ref08_digit t0=some r):Den Tryz.prog 268 [e_u8 t0] (e_bool r):=by
 refine dk 8 k268 ?_;simp only [k268,Kf.of,zs,ze];unfold ref08_digit at h;refine ss (rg ?_);(try simp only [zz]);refine jm h (fun j2=>⟨ds 2 (e_bool j2::ds 6 []),[]⟩) (fun z2 h1=>?_) fun j2 h1 h=>?_
 ·refine rg ?_;(try simp only [zz]);refine gi h1 (fun c1 h1=>?_) fun c1 h1=>?_
  ·(try simp only [zz,c1]);cases h1;exact tz []
  (try simp only [zz,c1]);cases h1;exact tz []
 cases h;exact rt ez
theorem ref17_fieldTypes_ok {t0:List GField}{r:List GType}(h:ref17_fieldTypes t0=some r):Den Tryz.prog 270 [e_s_GField t0] (e_s_GType r):=by
 refine dk 19 k270 ?_;simp only [k270,Kf.of,zs,ze];unfold ref17_fieldTypes at h;refine ss (rg ?_);(try simp only [zz]);refine ss (rg ?_);(try simp only [zz]);refine ss (ss (rg ?_));(try simp only [zz]);obtain⟨y1,h2,h⟩:=bs h;refine lm h2 (fun q=>⟨e_s_GField t0::ds 2 (.own 0 0::e_i64 q.2::ds 15 []),[.live 2 0 (q.1.map e_GType)]⟩) (fun b8=>⟨ds 3 (.own 0 0::ds 16 []),[.live 2 0 (b8.map e_GType)]⟩) (tz [on 2]) ?_ ?_
 ·rintro ⟨s1,s2⟩ z3 h4 h5;simp only [ref17_fieldTypes_L1]at h4;refine ss (ss (rg ?_));(try simp only [zz]);refine cd rfl ?_;(try simp only [zz]);refine gi h4 (fun c3 h4=>?_) fun c3 h4=>?_
  ·refine sk ?_;(try simp only [zz,c3]);refine ss (bk (rg ?_));obtain⟨x4,f7,f8,h4⟩:=bI h4;obtain⟨x5,a9,h4⟩:=bs h4;obtain⟨f10,f11⟩:=app_f (e:=e_GType) a9;(try simp only [zz]at f10 f11);(try simp only [zz,f7,f8,f10,f11]);refine rg ?_;(try simp only [zz]);cases h4;exact tz [ov 0 1]
  refine xt ?_;(try simp only [zz,c3]);cases h4;exact tz [ok 0]
 rintro b8 rfl;dsimp only at h;(try simp only [zz]);refine ss (rg ?_);(try simp only [zz]);cases h;exact rt ez
theorem ref16_is_ok {t0:GScope}{t1:Int}{r:Bool}(h:ref16_is t0 t1=some r):Den Tryz.prog 272 [e_GScope t0,e_i64 t1] (e_bool r):=by
 refine dk 12 k272 ?_;simp only [k272,Kf.of,zs,ze];unfold ref16_is at h;refine ss (rg ?_);(try simp only [zz]);refine jm h (fun j2=>⟨ds 4 (e_bool j2::ds 9 []),[]⟩) (fun z2 h1=>?_) fun j2 h1 h=>?_
 ·refine rg ?_;(try simp only [zz]);refine gi h1 (fun c1 h1=>?_) fun c1 h1=>?_
  ·(try simp only [zz,c1]);cases h1;exact tz []
  (try simp only [zz,c1]);cases h1;exact tz []
 cases h;exact rt ez
theorem expr_UsesN_ok {t0:Int}{r:Bool}(h:expr_UsesN t0=some r):Den Tryz.prog 288 [e_i64 t0] (e_bool r):=by
 refine dk 21 k288 ?_;simp only [k288,Kf.of,zs,ze];unfold expr_UsesN at h;refine ss (rg ?_);(try simp only [zz]);refine ss (ss (rg ?_));(try simp only [zz]);refine bk ?_;refine jm h (fun j17=>⟨ds 4 (e_bool j17::ds 17 []),[]⟩) (fun z2 h1=>?_) fun j17 h1 h=>?_
 ·refine ss (rg ?_);(try simp only [zz]);refine cd rfl ?_;(try simp only [zz]);refine gi h1 (fun c1 h1=>?_) fun c1 h1=>?_
  ·have e3:=eT c1;refine sk ?_;(try simp only [zz,eq_true c1,e3]);cases h1;exact tz []
  have e4:=eF c1;refine ss (rg ?_);(try simp only [zz]);refine cd rfl ?_;(try simp only [zz]);refine gi h1 (fun c2 h1=>?_) fun c2 h1=>?_
  ·have e5:=eT c2;refine sk ?_;(try simp only [zz,eq_true c2,e5]);cases h1;exact tz []
  have e6:=eF c2;refine ss (rg ?_);(try simp only [zz]);refine cd rfl ?_;(try simp only [zz]);refine gi h1 (fun c3 h1=>?_) fun c3 h1=>?_
  ·have e7:=eT c3;refine sk ?_;(try simp only [zz,eq_true c3,e7]);cases h1;exact tz []
  have e8:=eF c3;refine ss (rg ?_);(try simp only [zz]);refine cd rfl ?_;(try simp only [zz]);refine gi h1 (fun c4 h1=>?_) fun c4 h1=>?_
  ·have e9:=eT c4;refine sk ?_;(try simp only [zz,eq_true c4,e9]);cases h1;exact tz []
  have e10:=eF c4;refine ss (rg ?_);(try simp only [zz]);refine cd rfl ?_;(try simp only [zz]);refine gi h1 (fun c5 h1=>?_) fun c5 h1=>?_
  ·have e11:=eT c5;refine sk ?_;(try simp only [zz,eq_true c5,e11]);cases h1;exact tz []
  have e12:=eF c5;refine ss (rg ?_);(try simp only [zz]);refine cd rfl ?_;(try simp only [zz]);refine gi h1 (fun c6 h1=>?_) fun c6 h1=>?_
  ·have e13:=eT c6;refine sk ?_;(try simp only [zz,eq_true c6,e13]);cases h1;exact tz []
  have e14:=eF c6;refine ss (rg ?_);(try simp only [zz]);refine cd rfl ?_;(try simp only [zz]);refine gi h1 (fun c7 h1=>?_) fun c7 h1=>?_
  ·have e15:=eT c7;refine sk ?_;(try simp only [zz,eq_true c7,e15]);cases h1;exact tz []
  have e16:=eF c7;refine ss (rg ?_);(try simp only [zz]);refine cd rfl ?_;(try simp only [zz]);refine gi h1 (fun c8 h1=>?_) fun c8 h1=>?_
  ·have e17:=eT c8;refine sk ?_;(try simp only [zz,eq_true c8,e17]);cases h1;exact tz []
  have e18:=eF c8;refine ss (rg ?_);(try simp only [zz]);refine cd rfl ?_;(try simp only [zz]);refine gi h1 (fun c9 h1=>?_) fun c9 h1=>?_
  ·have e19:=eT c9;refine sk ?_;(try simp only [zz,eq_true c9,e19]);cases h1;exact tz []
  have e20:=eF c9;refine ss (rg ?_);(try simp only [zz]);refine cd rfl ?_;(try simp only [zz]);refine gi h1 (fun c10 h1=>?_) fun c10 h1=>?_
  ·have e21:=eT c10;refine sk ?_;(try simp only [zz,eq_true c10,e21]);cases h1;exact tz []
  have e22:=eF c10;refine ss (rg ?_);(try simp only [zz]);refine cd rfl ?_;(try simp only [zz]);refine gi h1 (fun c11 h1=>?_) fun c11 h1=>?_
  ·have e23:=eT c11;refine sk ?_;(try simp only [zz,eq_true c11,e23]);cases h1;exact tz []
  have e24:=eF c11;refine ss (rg ?_);(try simp only [zz]);refine cd rfl ?_;(try simp only [zz]);refine gi h1 (fun c12 h1=>?_) fun c12 h1=>?_
  ·have e25:=eT c12;refine sk ?_;(try simp only [zz,eq_true c12,e25]);cases h1;exact tz []
  have e26:=eF c12;refine ss (rg ?_);(try simp only [zz]);refine cd rfl ?_;(try simp only [zz]);refine gi h1 (fun c13 h1=>?_) fun c13 h1=>?_
  ·have e27:=eT c13;refine sk ?_;(try simp only [zz,eq_true c13,e27]);cases h1;exact tz []
  have e28:=eF c13;refine ss (rg ?_);(try simp only [zz]);refine cd rfl ?_;(try simp only [zz]);refine gi h1 (fun c14 h1=>?_) fun c14 h1=>?_
  ·have e29:=eT c14;refine sk ?_;(try simp only [zz,eq_true c14,e29]);cases h1;exact tz []
  have e30:=eF c14;refine ss (rg ?_);(try simp only [zz]);refine cd rfl ?_;(try simp only [zz]);refine gi h1 (fun c15 h1=>?_) fun c15 h1=>?_
  ·have e31:=eT c15;refine sk ?_;(try simp only [zz,eq_true c15,e31]);cases h1;exact tz []
  have e32:=eF c15;refine ss (rg ?_);(try simp only [zz]);refine cd rfl ?_;(try simp only [zz]);refine gi h1 (fun c16 h1=>?_) fun c16 h1=>?_
  ·have e33:=eT c16;refine sk ?_;(try simp only [zz,eq_true c16,e33]);cases h1;exact tz []
  have e34:=eF c16;refine rg ?_;(try simp only [zz]);cases h1;exact tz []
 refine cd rfl ?_;(try simp only [zz]);refine gi h (fun c18 h=>?_) fun c18 h=>?_
 ·refine ss (rg ?_);(try simp only [zz]);cases h;exact rt ez
 refine sk ?_;(try simp only [zz,c18]);refine ss (rg ?_);(try simp only [zz]);cases h;exact rt ez
theorem expr_Arity_ok {t0:Int}{r:Int}(h:expr_Arity t0=some r):Den Tryz.prog 289 [e_i64 t0] (e_i64 r):=by
 refine dk 46 k289 ?_;simp only [k289,Kf.of,zs,ze];unfold expr_Arity at h;refine ss (rg ?_);(try simp only [zz]);refine ss (ss (rg ?_));(try simp only [zz]);refine bk ?_;refine jm h (fun j14=>⟨ds 3 (e_i64 t0::e_bool j14::ds 42 []),[]⟩) (fun z2 h1=>?_) fun j14 h1 h=>?_
 ·refine ss (rg ?_);(try simp only [zz]);refine cd rfl ?_;(try simp only [zz]);refine gi h1 (fun c1 h1=>?_) fun c1 h1=>?_
  ·have e3:=eT c1;refine sk ?_;(try simp only [zz,eq_true c1,e3]);cases h1;exact tz []
  have e4:=eF c1;refine ss (rg ?_);(try simp only [zz]);refine cd rfl ?_;(try simp only [zz]);refine gi h1 (fun c2 h1=>?_) fun c2 h1=>?_
  ·have e5:=eT c2;refine sk ?_;(try simp only [zz,eq_true c2,e5]);cases h1;exact tz []
  have e6:=eF c2;refine ss (rg ?_);(try simp only [zz]);refine cd rfl ?_;(try simp only [zz]);refine gi h1 (fun c3 h1=>?_) fun c3 h1=>?_
  ·have e7:=eT c3;refine sk ?_;(try simp only [zz,eq_true c3,e7]);cases h1;exact tz []
  have e8:=eF c3;refine ss (rg ?_);(try simp only [zz]);refine cd rfl ?_;(try simp only [zz]);refine gi h1 (fun c4 h1=>?_) fun c4 h1=>?_
  ·have e9:=eT c4;refine sk ?_;(try simp only [zz,eq_true c4,e9]);cases h1;exact tz []
  have e10:=eF c4;refine ss (rg ?_);(try simp only [zz]);refine cd rfl ?_;(try simp only [zz]);refine gi h1 (fun c5 h1=>?_) fun c5 h1=>?_
  ·have e11:=eT c5;refine sk ?_;(try simp only [zz,eq_true c5,e11]);cases h1;exact tz []
  have e12:=eF c5;refine ss (rg ?_);(try simp only [zz]);refine cd rfl ?_;(try simp only [zz]);refine gi h1 (fun c6 h1=>?_) fun c6 h1=>?_
  ·have e13:=eT c6;refine sk ?_;(try simp only [zz,eq_true c6,e13]);cases h1;exact tz []
  have e14:=eF c6;refine ss (rg ?_);(try simp only [zz]);refine cd rfl ?_;(try simp only [zz]);refine gi h1 (fun c7 h1=>?_) fun c7 h1=>?_
  ·have e15:=eT c7;refine sk ?_;(try simp only [zz,eq_true c7,e15]);cases h1;exact tz []
  have e16:=eF c7;refine ss (rg ?_);(try simp only [zz]);refine cd rfl ?_;(try simp only [zz]);refine gi h1 (fun c8 h1=>?_) fun c8 h1=>?_
  ·have e17:=eT c8;refine sk ?_;(try simp only [zz,eq_true c8,e17]);cases h1;exact tz []
  have e18:=eF c8;refine ss (rg ?_);(try simp only [zz]);refine cd rfl ?_;(try simp only [zz]);refine gi h1 (fun c9 h1=>?_) fun c9 h1=>?_
  ·have e19:=eT c9;refine sk ?_;(try simp only [zz,eq_true c9,e19]);cases h1;exact tz []
  have e20:=eF c9;refine ss (rg ?_);(try simp only [zz]);refine cd rfl ?_;(try simp only [zz]);refine gi h1 (fun c10 h1=>?_) fun c10 h1=>?_
  ·have e21:=eT c10;refine sk ?_;(try simp only [zz,eq_true c10,e21]);cases h1;exact tz []
  have e22:=eF c10;refine ss (rg ?_);(try simp only [zz]);refine cd rfl ?_;(try simp only [zz]);refine gi h1 (fun c11 h1=>?_) fun c11 h1=>?_
  ·have e23:=eT c11;refine sk ?_;(try simp only [zz,eq_true c11,e23]);cases h1;exact tz []
  have e24:=eF c11;refine ss (rg ?_);(try simp only [zz]);refine cd rfl ?_;(try simp only [zz]);refine gi h1 (fun c12 h1=>?_) fun c12 h1=>?_
  ·have e25:=eT c12;refine sk ?_;(try simp only [zz,eq_true c12,e25]);cases h1;exact tz []
  have e26:=eF c12;refine ss (rg ?_);(try simp only [zz]);refine cd rfl ?_;(try simp only [zz]);refine gi h1 (fun c13 h1=>?_) fun c13 h1=>?_
  ·have e27:=eT c13;refine sk ?_;(try simp only [zz,eq_true c13,e27]);cases h1;exact tz []
  have e28:=eF c13;refine rg ?_;(try simp only [zz]);cases h1;exact tz []
 refine cd rfl ?_;(try simp only [zz]);refine gi h (fun c15 h=>?_) fun c15 h=>?_
 ·refine ss (rg ?_);(try simp only [zz]);cases h;exact rt ez
 refine jm h (fun j21=>⟨ds 3 (e_i64 t0::ds 15 (e_bool j21::ds 27 [])),[]⟩) (fun z30 h29=>?_) fun j21 h29 h=>?_
 ·refine ss (rg ?_);(try simp only [zz]);refine cd rfl ?_;(try simp only [zz]);refine gi h29 (fun c16 h29=>?_) fun c16 h29=>?_
  ·have e31:=eT c16;refine sk ?_;(try simp only [zz,eq_true c16,e31]);cases h29;exact tz []
  have e32:=eF c16;refine ss (rg ?_);(try simp only [zz]);refine cd rfl ?_;(try simp only [zz]);refine gi h29 (fun c17 h29=>?_) fun c17 h29=>?_
  ·have e33:=eT c17;refine sk ?_;(try simp only [zz,eq_true c17,e33]);cases h29;exact tz []
  have e34:=eF c17;refine ss (rg ?_);(try simp only [zz]);refine cd rfl ?_;(try simp only [zz]);refine gi h29 (fun c18 h29=>?_) fun c18 h29=>?_
  ·have e35:=eT c18;refine sk ?_;(try simp only [zz,eq_true c18,e35]);cases h29;exact tz []
  have e36:=eF c18;refine ss (rg ?_);(try simp only [zz]);refine cd rfl ?_;(try simp only [zz]);refine gi h29 (fun c19 h29=>?_) fun c19 h29=>?_
  ·have e37:=eT c19;refine sk ?_;(try simp only [zz,eq_true c19,e37]);cases h29;exact tz []
  have e38:=eF c19;refine ss (rg ?_);(try simp only [zz]);refine cd rfl ?_;(try simp only [zz]);refine gi h29 (fun c20 h29=>?_) fun c20 h29=>?_
  ·have e39:=eT c20;refine sk ?_;(try simp only [zz,eq_true c20,e39]);cases h29;exact tz []
  have e40:=eF c20;refine rg ?_;(try simp only [zz]);cases h29;exact tz []
 refine cd rfl ?_;(try simp only [zz]);refine gi h (fun c22 h=>?_) fun c22 h=>?_
 ·refine ss (rg ?_);(try simp only [zz]);cases h;exact rt ez
 refine jm h (fun j40=>⟨ds 3 (e_i64 t0::ds 22 (e_bool j40::ds 20 [])),[]⟩) (fun z42 h41=>?_) fun j40 h41 h=>?_
 ·refine ss (rg ?_);(try simp only [zz]);refine cd rfl ?_;(try simp only [zz]);refine gi h41 (fun c23 h41=>?_) fun c23 h41=>?_
  ·have e43:=eT c23;refine sk ?_;(try simp only [zz,eq_true c23,e43]);cases h41;exact tz []
  have e44:=eF c23;refine ss (rg ?_);(try simp only [zz]);refine cd rfl ?_;(try simp only [zz]);refine gi h41 (fun c24 h41=>?_) fun c24 h41=>?_
  ·have e45:=eT c24;refine sk ?_;(try simp only [zz,eq_true c24,e45]);cases h41;exact tz []
  have e46:=eF c24;refine ss (rg ?_);(try simp only [zz]);refine cd rfl ?_;(try simp only [zz]);refine gi h41 (fun c25 h41=>?_) fun c25 h41=>?_
  ·have e47:=eT c25;refine sk ?_;(try simp only [zz,eq_true c25,e47]);cases h41;exact tz []
  have e48:=eF c25;refine ss (rg ?_);(try simp only [zz]);refine cd rfl ?_;(try simp only [zz]);refine gi h41 (fun c26 h41=>?_) fun c26 h41=>?_
  ·have e49:=eT c26;refine sk ?_;(try simp only [zz,eq_true c26,e49]);cases h41;exact tz []
  have e50:=eF c26;refine ss (rg ?_);(try simp only [zz]);refine cd rfl ?_;(try simp only [zz]);refine gi h41 (fun c27 h41=>?_) fun c27 h41=>?_
  ·have e51:=eT c27;refine sk ?_;(try simp only [zz,eq_true c27,e51]);cases h41;exact tz []
  have e52:=eF c27;refine ss (rg ?_);(try simp only [zz]);refine cd rfl ?_;(try simp only [zz]);refine gi h41 (fun c28 h41=>?_) fun c28 h41=>?_
  ·have e53:=eT c28;refine sk ?_;(try simp only [zz,eq_true c28,e53]);cases h41;exact tz []
  have e54:=eF c28;refine ss (rg ?_);(try simp only [zz]);refine cd rfl ?_;(try simp only [zz]);refine gi h41 (fun c29 h41=>?_) fun c29 h41=>?_
  ·have e55:=eT c29;refine sk ?_;(try simp only [zz,eq_true c29,e55]);cases h41;exact tz []
  have e56:=eF c29;refine ss (rg ?_);(try simp only [zz]);refine cd rfl ?_;(try simp only [zz]);refine gi h41 (fun c30 h41=>?_) fun c30 h41=>?_
  ·have e57:=eT c30;refine sk ?_;(try simp only [zz,eq_true c30,e57]);cases h41;exact tz []
  have e58:=eF c30;refine ss (rg ?_);(try simp only [zz]);refine cd rfl ?_;(try simp only [zz]);refine gi h41 (fun c31 h41=>?_) fun c31 h41=>?_
  ·have e59:=eT c31;refine sk ?_;(try simp only [zz,eq_true c31,e59]);cases h41;exact tz []
  have e60:=eF c31;refine ss (rg ?_);(try simp only [zz]);refine cd rfl ?_;(try simp only [zz]);refine gi h41 (fun c32 h41=>?_) fun c32 h41=>?_
  ·have e61:=eT c32;refine sk ?_;(try simp only [zz,eq_true c32,e61]);cases h41;exact tz []
  have e62:=eF c32;refine ss (rg ?_);(try simp only [zz]);refine cd rfl ?_;(try simp only [zz]);refine gi h41 (fun c33 h41=>?_) fun c33 h41=>?_
  ·have e63:=eT c33;refine sk ?_;(try simp only [zz,eq_true c33,e63]);cases h41;exact tz []
  have e64:=eF c33;refine ss (rg ?_);(try simp only [zz]);refine cd rfl ?_;(try simp only [zz]);refine gi h41 (fun c34 h41=>?_) fun c34 h41=>?_
  ·have e65:=eT c34;refine sk ?_;(try simp only [zz,eq_true c34,e65]);cases h41;exact tz []
  have e66:=eF c34;refine ss (rg ?_);(try simp only [zz]);refine cd rfl ?_;(try simp only [zz]);refine gi h41 (fun c35 h41=>?_) fun c35 h41=>?_
  ·have e67:=eT c35;refine sk ?_;(try simp only [zz,eq_true c35,e67]);cases h41;exact tz []
  have e68:=eF c35;refine ss (rg ?_);(try simp only [zz]);refine cd rfl ?_;(try simp only [zz]);refine gi h41 (fun c36 h41=>?_) fun c36 h41=>?_
  ·have e69:=eT c36;refine sk ?_;(try simp only [zz,eq_true c36,e69]);cases h41;exact tz []
  have e70:=eF c36;refine ss (rg ?_);(try simp only [zz]);refine cd rfl ?_;(try simp only [zz]);refine gi h41 (fun c37 h41=>?_) fun c37 h41=>?_
  ·have e71:=eT c37;refine sk ?_;(try simp only [zz,eq_true c37,e71]);cases h41;exact tz []
  have e72:=eF c37;refine ss (rg ?_);(try simp only [zz]);refine cd rfl ?_;(try simp only [zz]);refine gi h41 (fun c38 h41=>?_) fun c38 h41=>?_
  ·have e73:=eT c38;refine sk ?_;(try simp only [zz,eq_true c38,e73]);cases h41;exact tz []
  have e74:=eF c38;refine ss (rg ?_);(try simp only [zz]);refine cd rfl ?_;(try simp only [zz]);refine gi h41 (fun c39 h41=>?_) fun c39 h41=>?_
  ·have e75:=eT c39;refine sk ?_;(try simp only [zz,eq_true c39,e75]);cases h41;exact tz []
  have e76:=eF c39;refine rg ?_;(try simp only [zz]);cases h41;exact tz []
 refine cd rfl ?_;(try simp only [zz]);refine gi h (fun c41 h=>?_) fun c41 h=>?_
 ·refine ss (rg ?_);(try simp only [zz]);cases h;exact rt ez
 refine ss (rg ?_);(try simp only [zz]);refine cd rfl ?_;(try simp only [zz]);refine gi h (fun c42 h=>?_) fun c42 h=>?_
 ·have e77:=eT c42;refine ss (rg ?_);(try simp only [zz]);cases h;exact rt ez
 have e78:=eF c42;refine sk ?_;(try simp only [zz,c42,e78]);refine ss (rg ?_);(try simp only [zz]);cases h;exact rt ez
end Go.Proofs.Dev
