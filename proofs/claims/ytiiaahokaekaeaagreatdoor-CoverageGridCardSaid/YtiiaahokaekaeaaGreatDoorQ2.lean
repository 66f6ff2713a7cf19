/-
  Contracts of the functions: each answers as its plain partial function says.
-/
import Derived.Test.YtiiaahokaekaeaaGreatDoorK
import Derived.Test.YtiiaahokaekaeaaGreatDoorPC
import Derived.Test.YtiiaahokaekaeaaGreatDoorQ1
set_option linter.all false
set_option maxHeartbeats 1000000
set_option maxRecDepth 10000
namespace Go.Proofs.Dev
open Go Go.Tm
theorem slices_ContainsFunc_api_Field_api_Field_ok {t0:List GField}{t1:(GField→Option Bool)}{k1:Nat}{q1:List D}(hc1:idfrees q1=true) (hp1:∀x0 r,t1 x0=some r→Den Tryz.prog k1 ([e_GField x0]++q1) (e_bool r)) {r:Bool}(h:slices_ContainsFunc_api_Field_api_Field t0 t1=some r):Den Tryz.prog 214 [e_s_GField t0,.fn k1 [] q1] (e_bool r):=by
 refine Den.at 7 k214.ok k214.nm (frC (frF hc1 frN)) rfl ?_;simp only [k214,Kf.of,zs,ze];unfold slices_ContainsFunc_api_Field_api_Field at h;refine ss (rg ?_);simp only [zz];refine ss (rg ?_);obtain⟨x1,a1,h⟩:=bs h;simp only [zz];refine cq (slices_IndexFunc_api_Field_api_Field_ok hc1 hp1 a1) ?_ (by simp only [zg,sqS_same hc1]);simp only [zz];cases h;exact rt (er (by simp only [zz,zr];exact fq (by simp only [zg,sqS_same hc1])))
theorem slices_ContainsFunc_api_Rule_api_Rule_ok {t0:List GRule}{t1:(GRule→Option Bool)}{k1:Nat}{q1:List D}(hc1:idfrees q1=true) (hp1:∀x0 r,t1 x0=some r→Den Tryz.prog k1 ([e_GRule x0]++q1) (e_bool r)) {r:Bool}(h:slices_ContainsFunc_api_Rule_api_Rule t0 t1=some r):Den Tryz.prog 215 [e_s_GRule t0,.fn k1 [] q1] (e_bool r):=by
 refine Den.at 7 k215.ok k215.nm (frC (frF hc1 frN)) rfl ?_;simp only [k215,Kf.of,zs,ze];unfold slices_ContainsFunc_api_Rule_api_Rule at h;refine ss (rg ?_);simp only [zz];refine ss (rg ?_);obtain⟨x1,a1,h⟩:=bs h;simp only [zz];refine cq (slices_IndexFunc_api_Rule_api_Rule_ok hc1 hp1 a1) ?_ (by simp only [zg,sqS_same hc1]);simp only [zz];cases h;exact rt (er (by simp only [zz,zr];exact fq (by simp only [zg,sqS_same hc1])))
theorem law_validSource_ok {t0:ByteArray}{r:Bool}(h:law_validSource t0=some r):Den Tryz.prog 217 [e_str t0] (e_bool r):=by
 refine dk 26 k217 ?_;simp only [k217,Kf.of,zs,ze];unfold law_validSource at h;refine ss (rg ?_);simp only [zz];refine ss ?_;refine jm h (fun j3=>⟨.v (.string t0)::ds 9 (e_bool j3::ds 16 []),[]⟩) (fun z2 h1=>?_) fun j3 h1 h=>?_
 ·refine rg ?_;simp only [zz];refine gi h1 (fun c1 h1=>?_) fun c1 h1=>?_
  ·obtain⟨x2,a3,h1⟩:=bs h1;simp only [zz,c1];refine cq (strings_Contains_ok a3) ?_ (by simp only [zg]);simp only [zz,c1];cases h1;exact tz []
  simp only [zz,c1];cases h1;exact tz []
 refine cd rfl ?_;simp only [zz];refine gi h (fun c4 h=>?_) fun c4 h=>?_
 ·refine ss (rg ?_);simp only [zz];cases h;exact rt ez
 refine sk ?_;simp only [zz,c4];refine ss (ss (rg ?_));simp only [zz];obtain⟨y4,h5,h⟩:=bs h;refine lm h5 (fun s5=>⟨.v (.string t0)::ds 11 (e_i64 (t0.size:Int)::e_i64 s5::ds 13 []),[]⟩) (fun q=>⟨ds 27 [],[]⟩) (tz []) ?_ ?_
 ·rintro s5 z6 h7 h8;simp only [law_validSource_L1]at h7;refine ss (rg ?_);simp only [zz];refine ss (cd rfl ?_);simp only [zz];refine gi h7 (fun c6 h7=>?_) fun c6 h7=>?_
  ·refine sk ?_;simp only [zz,c6];refine ss (bk (ss (rg ?_)));simp only [zz];refine jm h7 (fun j9=>⟨.v (.string t0)::ds 11 (e_i64 (t0.size:Int)::e_i64 s5::ds 11 (e_bool j9::.dead::[])),[]⟩) (fun z10 h9=>?_) fun j9 h9 h7=>?_
   ·refine rg ?_;obtain⟨x7,a11,h9⟩:=bs h9;simp only [zz,a11];refine gi h9 (fun c8 h9=>?_) fun c8 h9=>?_
    ·simp only [zz,a11,c8];cases h9;exact tz []
    simp only [zz,a11,c8];cases h9;exact tz []
   refine cd rfl ?_;simp only [zz];refine gi h7 (fun c10 h7=>?_) fun c10 h7=>?_
   ·refine ss (rg ?_);simp only [zz];cases h7;cases h8 _ rfl;cases h;exact rt ez
   refine sk ?_;simp only [zz,c10];refine rg ?_;simp only [zz];cases h7;exact tz []
  refine xt ?_;simp only [zz,c6];cases h7;exact tz []
 rintro ⟨⟩ rfl;dsimp only at h;simp only [zz];refine ss (rg ?_);simp only [zz];cases h;exact rt ez
theorem ref05_Intersect_ok {t0:GDateRange}{t1:GDateRange}{r:(GDateRange×Bool)}(h:ref05_Intersect t0 t1=some r):Den Tryz.prog 232 [e_GDateRange t0,e_GDateRange t1] (.tup [e_GDateRange r.1,e_bool r.2]):=by
 refine dk 32 k232 ?_;simp only [k232,Kf.of,zs,ze];unfold ref05_Intersect at h;refine ss (rg ?_);simp only [zz];refine ss ?_;refine jm h (fun j4=>⟨ds 2 (.ref 0 0 0 0::.ref 1 0 0 0::.ref 2 0 0 0::ds 9 (e_bool j4::ds 19 [])),[.live 2 0 [e_GDateRange t0],.live 2 0 [e_GDateRange t1],.live 2 0 [.agg [e_i64 0,e_i64 0]]]⟩) (fun z2 h1=>?_) fun j4 h1 h=>?_
 ·refine rg ?_;obtain⟨x1,a3,h1⟩:=bs h1;simp only [zz];refine cq (ref05_Valid_ok a3) ?_ (by simp only [zg]);simp only [zz];refine gi h1 (fun c2 h1=>?_) fun c2 h1=>?_
  ·obtain⟨x3,a4,h1⟩:=bs h1;simp only [zz,c2];refine cq (ref05_Valid_ok a4) ?_ (by simp only [zg,c2]);simp only [zz,c2];cases h1;exact tz [ok 0,ok 1,ok 2]
  simp only [zz,c2];cases h1;exact tz [ok 0,ok 1,ok 2]
 refine cd rfl ?_;simp only [zz];refine gi h (fun c5 h=>?_) fun c5 h=>?_
 ·refine ss (rg ?_);simp only [zz];cases h;exact rt ez
 refine sk ?_;simp only [zz,c5];refine ss (rg ?_);simp only [zz];refine ss (ss (rg ?_));simp only [zz];refine cd rfl ?_;simp only [zz];refine gi h (fun c6 h=>?_) fun c6 h=>?_
 ·refine ss (rg ?_);simp only [zz];cases h;exact rt ez
 refine sk ?_;simp only [zz,c6];refine ss (rg ?_);simp only [zz];cases h;exact rt ez
theorem ref10_References_ok {t0:List GNode}{r:((List Int)×(List Int)×(List Int))}(h:ref10_References t0=some r):Den Tryz.prog 234 [e_s_GNode t0] (.tup [e_s_i64 r.1,e_s_i64 r.2.1,e_s_i64 r.2.2]):=by
 refine dk 54 k234 ?_;simp only [k234,Kf.of,zs,ze];unfold ref10_References at h;refine ss (rg ?_);simp only [zz];refine ss (rg ?_);simp only [zz];refine ss (ss (rg ?_));simp only [zz];obtain⟨y1,h2,h⟩:=bs h;refine lm h2 (fun q=>⟨e_s_GNode t0::ds 4 (e_s_i64 q.1::e_s_i64 q.2.1::e_s_i64 q.2.2.1::e_i64 q.2.2.2::ds 46 []),[]⟩) (fun q=>⟨ds 5 (e_s_i64 q.1::e_s_i64 q.2.1::e_s_i64 q.2.2::ds 47 []),[]⟩) (tz []) ?_ ?_
 ·rintro ⟨s1,s2,s3,s4⟩ z3 h4 h5;simp only [ref10_References_L1]at h4;refine ss (ss (rg ?_));simp only [zz];refine cd rfl ?_;simp only [zz];refine gi h4 (fun c5 h4=>?_) fun c5 h4=>?_
  ·refine sk ?_;simp only [zz,c5];refine jm h4 (fun q=>⟨e_s_GNode t0::ds 4 (e_s_i64 q.1::e_s_i64 q.2.1::e_s_i64 q.2.2::e_i64 s4::ds 46 []),[]⟩) (fun z7 h6=>?_) fun z7 h6 h4=>?_
   ·refine bk (ss (rg ?_));obtain⟨x6,f9,f10,h6⟩:=bI h6;simp only [zz,f9,f10];refine jm h6 (fun j9=>⟨e_s_GNode t0::ds 4 (e_s_i64 j9::e_s_i64 s2::e_s_i64 s3::e_i64 s4::e_i64 x6.Op::ds 45 []),[]⟩) (fun z12 h11=>?_) fun j9 h11 h6=>?_
    ·refine ss (rg ?_);simp only [zz];refine cd rfl ?_;simp only [zz];refine gi h11 (fun c7 h11=>?_) fun c7 h11=>?_
     ·have e13:=eT c7;refine rg ?_;obtain⟨x8,a15,h11⟩:=bs h11;simp only [zz,f9,f10];refine cq (ref10_insert_ok a15) ?_ (by simp only [zg,e13]);simp only [zz,f9,f10];cases h11;exact tz []
     have e14:=eF c7;refine sk ?_;simp only [zz,c7,e14];cases h11;exact tz []
    refine jm h6 (fun j12=>⟨e_s_GNode t0::ds 4 (e_s_i64 j9::e_s_i64 j12::e_s_i64 s3::e_i64 s4::e_i64 x6.Op::ds 45 []),[]⟩) (fun z17 h16=>?_) fun j12 h16 h6=>?_
    ·refine ss (rg ?_);simp only [zz];refine cd rfl ?_;simp only [zz];refine gi h16 (fun c10 h16=>?_) fun c10 h16=>?_
     ·have e18:=eT c10;refine rg ?_;obtain⟨x11,a20,h16⟩:=bs h16;simp only [zz,f9,f10];refine cq (ref10_insert_ok a20) ?_ (by simp only [zg,e18]);simp only [zz,f9,f10];cases h16;exact tz []
     have e19:=eF c10;refine sk ?_;simp only [zz,c10,e19];cases h16;exact tz []
    refine jm h6 (fun j14=>⟨e_s_GNode t0::ds 4 (e_s_i64 j9::e_s_i64 j12::e_s_i64 s3::e_i64 s4::ds 35 (e_bool j14::ds 10 [])),[]⟩) (fun z22 h21=>?_) fun j14 h21 h6=>?_
    ·refine rg ?_;simp only [zz];refine gi h21 (fun c13 h21=>?_) fun c13 h21=>?_
     ·simp only [zz,c13];cases h21;exact tz []
     simp only [zz,c13];cases h21;exact tz []
    refine cd rfl ?_;simp only [zz];refine gi h6 (fun c15 h6=>?_) fun c15 h6=>?_
    ·refine rg ?_;obtain⟨x16,a23,h6⟩:=bs h6;simp only [zz,f9,f10];refine cq (ref10_insert_ok a23) ?_ (by simp only [zg,c15]);simp only [zz,f9,f10];cases h6;exact tz []
    refine sk ?_;simp only [zz,c15];cases h6;exact tz []
   obtain⟨j17,j18,j19⟩:=z7;dsimp only at h4;refine rg ?_;simp only [zz];cases h4;exact tz []
  refine xt ?_;simp only [zz,c5];cases h4;exact tz []
 rintro ⟨b24,b25,b26⟩ rfl;dsimp only at h;simp only [zz];refine ss (rg ?_);simp only [zz];cases h;exact rt ez
theorem ref10_ordered_ok {t0:Int}{r:Bool}(h:ref10_ordered t0=some r):Den Tryz.prog 236 [e_i64 t0] (e_bool r):=by
 refine dk 8 k236 ?_;simp only [k236,Kf.of,zs,ze];unfold ref10_ordered at h;refine ss (rg ?_);simp only [zz];refine jm h (fun j3=>⟨ds 2 (e_bool j3::ds 6 []),[]⟩) (fun z2 h1=>?_) fun j3 h1 h=>?_
 ·refine rg ?_;obtain⟨x1,a3,h1⟩:=bs h1;simp only [zz];refine cq (ref10_number_ok a3) ?_ (by simp only [zg]);simp only [zz];refine gi h1 (fun c2 h1=>?_) fun c2 h1=>?_
  ·simp only [zz,c2];cases h1;exact tz []
  simp only [zz,c2];cases h1;exact tz []
 cases h;exact rt ez
theorem ref10_scaled_ok {t0:Int}{t1:Int}{t2:Int}{r:(GType×Bool)}(h:ref10_scaled t0 t1 t2=some r):Den Tryz.prog 238 [e_i64 t0,e_i64 t1,e_i64 t2] (.tup [e_GType r.1,e_bool r.2]):=by
 refine dk 53 k238 ?_;simp only [k238,Kf.of,zs,ze];unfold ref10_scaled at h;refine ss (rg ?_);simp only [zz];refine ss (ss (rg ?_));simp only [zz];refine bk (ss (rg ?_));simp only [zz];refine cd rfl ?_;simp only [zz];refine gi h (fun c1 h=>?_) fun c1 h=>?_
 ·have e1:=eT c1;refine jm h (fun q=>⟨ds 6 (.ref 0 0 0 0::e_bool q.2.2::ds 48 []),[.live 2 0 [.agg [e_i64 q.1,e_i64 q.2.1]]]⟩) (fun z4 h3=>?_) fun z4 h3 h=>?_
  ·refine rg ?_;obtain⟨x2,a5,h3⟩:=bs h3;simp only [zz];refine cq (ref10_kind_ok a5) ?_ (by simp only [zg,e1]);simp only [zz];refine gi h3 (fun c3 h3=>?_) fun c3 h3=>?_
   ·have e6:=eT c3;simp only [zz,eq_true c3,e6];refine gi h3 (fun c4 h3=>?_) fun c4 h3=>?_
    ·have e8:=eF c4;simp only [zz,eq_true c3,e6,c4,e8];cases h3;exact tz [ok 0]
    have e9:=eD c4;simp only [zz,eq_true c3,e6,c4,e9];cases h3;exact tz [ok 0]
   have e7:=eF c3;simp only [zz,c3,e7];cases h3;exact tz [ok 0]
  obtain⟨j5,j6,j7⟩:=z4;dsimp only at h;cases h;exact rt ez
 have e2:=eF c1;refine ss (rg ?_);simp only [zz];refine cd rfl ?_;simp only [zz];refine gi h (fun c8 h=>?_) fun c8 h=>?_
 ·have e10:=eT c8;refine jm h (fun q=>⟨ds 6 (.ref 0 0 0 0::e_bool q.2.2::ds 48 []),[.live 2 0 [.agg [e_i64 q.1,e_i64 q.2.1]]]⟩) (fun z13 h12=>?_) fun z13 h12 h=>?_
  ·refine rg ?_;obtain⟨x9,a14,h12⟩:=bs h12;simp only [zz];refine cq (ref10_kind_ok a14) ?_ (by simp only [zg,e2,e10]);simp only [zz];refine gi h12 (fun c10 h12=>?_) fun c10 h12=>?_
   ·have e15:=eT c10;simp only [zz,eq_true c10,e15];refine gi h12 (fun c11 h12=>?_) fun c11 h12=>?_
    ·have e17:=eF c11;simp only [zz,eq_true c10,e15,c11,e17];cases h12;exact tz [ok 0]
    have e18:=eD c11;simp only [zz,eq_true c10,e15,c11,e18];cases h12;exact tz [ok 0]
   have e16:=eF c10;simp only [zz,c10,e16];cases h12;exact tz [ok 0]
  obtain⟨j12,j13,j14⟩:=z13;dsimp only at h;cases h;exact rt ez
 have e11:=eF c8;refine sk ?_;simp only [zz,c8,e11];refine ss ?_;refine jm h (fun j16=>⟨.dead::e_i64 t1::e_i64 t2::ds 3 (.ref 0 0 0 0::ds 35 (e_bool j16::ds 13 [])),[.live 2 0 [.agg [e_i64 0,e_i64 0]]]⟩) (fun z20 h19=>?_) fun j16 h19 h=>?_
 ·refine rg ?_;simp only [zz];refine gi h19 (fun c15 h19=>?_) fun c15 h19=>?_
  ·have e21:=eT c15;simp only [zz,eq_true c15,e21];cases h19;exact tz [ok 0]
  have e22:=eF c15;simp only [zz,c15,e22];cases h19;exact tz [ok 0]
 refine cd rfl ?_;simp only [zz];refine gi h (fun c17 h=>?_) fun c17 h=>?_
 ·refine ss (rg ?_);obtain⟨x18,a23,h⟩:=bs h;simp only [zz];refine cq (ref10_kind_ok a23) ?_ (by simp only [zg,e2,e11,c17]);simp only [zz];cases h;exact rt ez
 refine sk ?_;simp only [zz,c17];refine jm h (fun q=>⟨ds 6 (.ref 0 0 0 0::e_bool q.2.2::ds 48 []),[.live 2 0 [.agg [e_i64 q.1,e_i64 q.2.1]]]⟩) (fun z25 h24=>?_) fun z25 h24 h=>?_
 ·refine rg ?_;obtain⟨x19,a26,h24⟩:=bs h24;simp only [zz];refine cq (ref10_kind_ok a26) ?_ (by simp only [zg,e2,e11,c17]);simp only [zz];refine gi h24 (fun c20 h24=>?_) fun c20 h24=>?_
  ·have e27:=eT c20;simp only [zz,eq_true c20,e27];refine gi h24 (fun c21 h24=>?_) fun c21 h24=>?_
   ·have e29:=eF c21;simp only [zz,eq_true c20,e27,c21,e29];cases h24;exact tz [ok 0]
   have e30:=eD c21;simp only [zz,eq_true c20,e27,c21,e30];cases h24;exact tz [ok 0]
  have e28:=eF c20;simp only [zz,c20,e28];cases h24;exact tz [ok 0]
 obtain⟨j22,j23,j24⟩:=z25;dsimp only at h;cases h;exact rt ez
theorem daterange_hasDate_ok {t0:GDateRange}{r:Bool}(h:daterange_hasDate t0=some r):Den Tryz.prog 253 [e_GDateRange t0] (e_bool r):=by
 refine dk 11 k253 ?_;simp only [k253,Kf.of,zs,ze];unfold daterange_hasDate at h;refine ss (rg ?_);simp only [zz];refine jm h (fun j3=>⟨ds 2 (e_bool j3::ds 9 []),[]⟩) (fun z2 h1=>?_) fun j3 h1 h=>?_
 ·refine rg ?_;obtain⟨x1,a3,h1⟩:=bs h1;simp only [zz];refine cq (daterange_Valid_ok a3) ?_ (by simp only [zg]);simp only [zz];refine gi h1 (fun c2 h1=>?_) fun c2 h1=>?_
  ·simp only [zz,c2];cases h1;exact tz []
  simp only [zz,c2];cases h1;exact tz []
 cases h;exact rt ez
theorem deps_sortedSet_c {t0:List Int}{r:List Int}(h:deps_sortedSet t0=some r):DenC Tryz.prog 258 [] [] 1 (t0.map e_i64) (e_s_i64 r):=by
 refine DenC.at 6 k258.ok k258.nm frN frN (Fr.l _) rfl ?_;simp only [k258,Kf.of,zs,ze];unfold deps_sortedSet at h;refine ss (rg ?_);simp only [zz];refine ss (rg ?_);obtain⟨x1,a1,h⟩:=bs h;simp only [zz];refine callX_W (slices_Sort_int_int_w a1) rfl rfl ?_;simp only [zz];refine ss (rg ?_);obtain⟨x2,a2,h⟩:=bs h;simp only [zz];refine callX_C (slices_Compact_int_int_c a2) rfl rfl ?_;simp only [zz];cases h;exact rt ez
theorem expr_distinct_c {t0:List Int}{r:List Int}(h:expr_distinct t0=some r):DenC Tryz.prog 314 [] [] 1 (t0.map e_i64) (e_s_i64 r):=by
 refine DenC.at 6 k314.ok k314.nm frN frN (Fr.l _) rfl ?_;simp only [k314,Kf.of,zs,ze];unfold expr_distinct at h;refine ss (rg ?_);simp only [zz];refine ss (rg ?_);obtain⟨x1,a1,h⟩:=bs h;simp only [zz];refine callX_W (slices_Sort_int_int_w a1) rfl rfl ?_;simp only [zz];refine ss (rg ?_);obtain⟨x2,a2,h⟩:=bs h;simp only [zz];refine callX_C (slices_Compact_int_int_c a2) rfl rfl ?_;simp only [zz];cases h;exact rt ez
theorem law_Signature_ok {t0:GLaw}{t1:Int}{r:GSignature}(h:law_Signature t0 t1=some r):Den Tryz.prog 27 [e_GLaw t0,e_i64 t1] (e_GSignature r):=by
 refine dk 26 k27 ?_;simp only [k27,Kf.of,zs,ze];unfold law_Signature at h;refine ss (rg ?_);simp only [zz];refine ss ?_;refine jm h (fun j2=>⟨.dead::e_i64 t1::.ref 0 0 0 0::.dead::.ref 1 0 0 0::ds 9 (e_bool j2::ds 13 []),[.live 3 0 [e_GLaw t0],.live 6 0 [.agg [.v (.slice none 0 0),.v (.slice none 0 0),.v (.slice none 0 0),.v (.slice none 0 0),.v (.slice none 0 0),e_bool false]]]⟩) (fun z2 h1=>?_) fun j2 h1 h=>?_
 ·refine rg ?_;simp only [zz];refine gi h1 (fun c1 h1=>?_) fun c1 h1=>?_
  ·simp only [zz,c1];cases h1;exact tz [ok 0,ok 1]
  simp only [zz,c1];cases h1;exact tz [ok 0,ok 1]
 refine cd rfl ?_;simp only [zz];refine gi h (fun c3 h=>?_) fun c3 h=>?_
 ·refine ss (rg ?_);simp only [zz];cases h;exact rt ez
 refine sk ?_;simp only [zz,c3];refine ss (rg ?_);obtain⟨x4,a3,h⟩:=bs h;simp only [zz];refine cq (law_sharedSignature_ok a3) ?_ (by simp only [zg,c3]);simp only [zz];refine ss (rg ?_);obtain⟨x5,a4,h⟩:=bs h;simp only [zz];refine cq (law_cloneEnums_ok a4) ?_ (by simp only [zg,c3]);simp only [zz];refine ss (rg ?_);obtain⟨x6,a5,h⟩:=bs h;simp only [zz];refine cq (law_cloneTables_ok a5) ?_ (by simp only [zg,c3]);simp only [zz];refine ss (rg ?_);simp only [zz];cases h;exact rt ez
theorem coverage_refersTo_ok {t0:(List (List GNode))}{t1:Int}{r:Bool}(h:coverage_refersTo t0 t1=some r):Den Tryz.prog 29 [e_s_s_GNode t0,e_i64 t1] (e_bool r):=by
 refine dk 16 k29 ?_;simp only [k29,Kf.of,zs,ze];unfold coverage_refersTo at h;refine ss (rg ?_);(try simp only [zz]);refine ss (ss (rg ?_));(try simp only [zz]);obtain⟨y1,h2,h⟩:=bs h;refine lm h2 (fun s1=>⟨.dead::e_i64 t1::ds 5 (e_s_s_GNode t0::e_i64 (t0.length:Int)::e_i64 s1::ds 8 []),[]⟩) (fun q=>⟨ds 18 [],[]⟩) (tz []) ?_ ?_
 ·rintro s1 z3 h4 h5;simp only [coverage_refersTo_L1]at h4;refine ss (rg ?_);(try simp only [zz]);refine ss (cd rfl ?_);(try simp only [zz]);refine gi h4 (fun c2 h4=>?_) fun c2 h4=>?_
  ·refine sk ?_;(try simp only [zz,c2]);refine ss (bk (ss (rg ?_)));obtain⟨x3,f7,f8,h4⟩:=bI h4;(try simp only [zz,f7,f8]);refine ss (rg ?_);obtain⟨x4,a9,h4⟩:=bs h4;simp only [zz];refine cq (slices_Contains_api_Node_api_Node_ok a9) ?_ (by simp only [zg]);(try simp only [zz]);refine cd rfl ?_;(try simp only [zz]);refine gi h4 (fun c5 h4=>?_) fun c5 h4=>?_
   ·refine ss (rg ?_);(try simp only [zz]);cases h4;cases h5 _ rfl;cases h;exact rt ez
   refine sk ?_;(try simp only [zz,c5]);refine rg ?_;(try simp only [zz]);cases h4;exact tz []
  refine xt ?_;(try simp only [zz,c2]);cases h4;exact tz []
 rintro ⟨⟩ rfl;dsimp only at h;(try simp only [zz]);refine ss (rg ?_);(try simp only [zz]);cases h;exact rt ez
theorem cells_Representatives_ok {t0:GType}{t1:List GEnum}{t2:List Int}{r:List Int}(h:cells_Representatives t0 t1 t2=some r):Den Tryz.prog 30 [e_GType t0,e_s_GEnum t1,e_s_i64 t2] (e_s_i64 r):=by
 refine dk 66 k30 ?_;simp only [k30,Kf.of,zs,ze];unfold cells_Representatives at h;refine ss (rg ?_);simp only [zz];refine ss (ss (rg ?_));obtain⟨x1,a1,h⟩:=bs h;simp only [zz];refine cq (value_ValidType_ok a1) ?_ (by simp only [zg]);simp only [zz];refine cd rfl ?_;simp only [zz];refine gi h (fun c2 h=>?_) fun c2 h=>?_
 ·refine ss (rg ?_);simp only [zz];cases h;exact rt ez
 refine sk ?_;simp only [zz,c2];refine ss (rg ?_);obtain⟨x3,a2,h⟩:=bs h;simp only [zz];refine cq (value_Bounds_ok a2) ?_ (by simp only [zg,c2]);simp only [zz];refine ss (rg ?_);simp only [zz];refine ss ?_;refine jm h (fun j5=>⟨ds 2 (e_s_i64 t2::ds 4 (e_i64 x3.1::e_i64 x3.2::.v (.slice none 0 0)::ds 20 (e_bool j5::ds 38 []))),[]⟩) (fun z4 h3=>?_) fun j5 h3 h=>?_
 ·refine rg ?_;simp only [zz];refine gi h3 (fun c4 h3=>?_) fun c4 h3=>?_
  ·have e5:=eF c4;simp only [zz,c4,e5];cases h3;exact tz []
  have e6:=eD c4;simp only [zz,c4,e6];cases h3;exact tz []
 refine cd rfl ?_;simp only [zz];refine gi h (fun c6 h=>?_) fun c6 h=>?_
 ·refine ss (ss (rg ?_));simp only [zz];obtain⟨y7,h8,h⟩:=bs h;refine lm h8 (fun q=>⟨ds 8 (e_i64 x3.2::.own 0 0::e_i64 q.2::ds 58 []),[.live 1 0 (q.1.map e_i64)]⟩) (fun b13=>⟨ds 9 (.own 0 0::ds 59 []),[.live 1 0 (b13.map e_i64)]⟩) (tz [on 1]) ?_ ?_
  ·rintro ⟨s7,s8⟩ z9 h10 h11;simp only [cells_Representatives_L3]at h10;refine ss (ss (rg ?_));simp only [zz];refine cd rfl ?_;simp only [zz];refine gi h10 (fun c9 h10=>?_) fun c9 h10=>?_
   ·refine sk ?_;simp only [zz,c9];refine ss (bk (rg ?_));obtain⟨x10,a12,h10⟩:=bs h10;obtain⟨f13,f14⟩:=app_f (e:=e_i64) a12;(try simp only [zz]at f13 f14);simp only [zz,f13,f14];refine rg ?_;simp only [zz];cases h10;exact tz [ov 0 1]
   refine xt ?_;simp only [zz,c9];cases h10;exact tz [ok 0]
  rintro b13 rfl;dsimp only at h;simp only [zz];refine ss (rg ?_);simp only [zz];cases h;exact rt ez
 refine sk ?_;simp only [zz,c6];refine ss (rg ?_);have f15:(1:Nat)*8≤2 ^ 47:=by decide
 simp only [zz,f15];refine ss (ss (rg ?_));simp only [zz];obtain⟨y16,h17,h⟩:=bs h;refine lm h17 (fun q=>⟨ds 7 (e_i64 x3.1::e_i64 x3.2::.own 0 0::ds 36 (e_s_i64 t2::e_i64 (t2.length:Int)::e_i64 q.2::ds 20 [])),[.live 1 0 (q.1.map e_i64)]⟩) (fun b25=>⟨ds 9 (.own 0 0::ds 59 []),[.live 1 0 (b25.map e_i64)]⟩) (tz [ok 1]) ?_ ?_
 ·rintro ⟨s14,s15⟩ z18 h19 h20;simp only [cells_Representatives_L5]at h19;refine ss (rg ?_);simp only [zz];refine ss (cd rfl ?_);simp only [zz];refine gi h19 (fun c16 h19=>?_) fun c16 h19=>?_
  ·refine sk ?_;simp only [zz,c16];refine jm h19 (fun j22=>⟨ds 7 (e_i64 x3.1::e_i64 x3.2::.own 0 0::ds 36 (e_s_i64 t2::e_i64 (t2.length:Int)::e_i64 s15::ds 20 [])),[.live 1 0 (j22.map e_i64)]⟩) (fun z22 h21=>?_) fun j22 h21 h19=>?_
   ·refine bk (ss (rg ?_));obtain⟨x17,f24,f25,h21⟩:=bI h21;simp only [zz,f24,f25];refine jm h21 (fun j19=>⟨ds 7 (e_i64 x3.1::e_i64 x3.2::.own 0 0::ds 2 (e_i64 x17::ds 33 (e_s_i64 t2::e_i64 (t2.length:Int)::e_i64 s15::ds 10 (e_bool j19::ds 9 [])))),[.live 1 0 (s14.map e_i64)]⟩) (fun z27 h26=>?_) fun j19 h26 h21=>?_
    ·refine rg ?_;simp only [zz];refine gi h26 (fun c18 h26=>?_) fun c18 h26=>?_
     ·simp only [zz,c18];cases h26;exact tz [ok 0]
     simp only [zz,c18];cases h26;exact tz [ok 0]
    refine cd rfl ?_;simp only [zz];refine gi h21 (fun c20 h21=>?_) fun c20 h21=>?_
    ·refine rg ?_;obtain⟨x21,a28,h21⟩:=bs h21;obtain⟨f29,f30⟩:=app_f (e:=e_i64) a28;(try simp only [zz]at f29 f30);simp only [zz,f29,f30];cases h21;exact tz [ov 0 1]
    refine sk ?_;simp only [zz,c20];cases h21;exact tz [ok 0]
   refine rg ?_;simp only [zz];cases h19;exact tz [ok 0]
  refine xt ?_;simp only [zz,c16];cases h19;exact tz [ok 0]
 rintro b25 rfl;dsimp only at h;simp only [zz];refine ss (rg ?_);obtain⟨x26,a31,h⟩:=bs h;simp only [zz];refine callX_W (slices_Sort_int_int_w a31) rfl rfl ?_;simp only [zz];refine ss (rg ?_);obtain⟨x27,a32,h⟩:=bs h;simp only [zz];refine callX_C (slices_Compact_int_int_c a32) rfl rfl ?_;simp only [zz];cases h;exact rt ez
theorem ref23_Representatives_ok {t0:GType}{t1:List GEnum}{t2:List Int}{r:List Int}(h:ref23_Representatives t0 t1 t2=some r):Den Tryz.prog 38 [e_GType t0,e_s_GEnum t1,e_s_i64 t2] (e_s_i64 r):=by
 refine dk 68 k38 ?_;simp only [k38,Kf.of,zs,ze];unfold ref23_Representatives at h;refine ss (rg ?_);simp only [zz];refine ss (rg ?_);obtain⟨x1,a1,h⟩:=bs h;simp only [zz];refine cq (ref09_Bounds_ok a1) ?_ (by simp only [zg]);simp only [zz];refine ss (ss (rg ?_));simp only [zz];refine cd rfl ?_;simp only [zz];refine gi h (fun c2 h=>?_) fun c2 h=>?_
 ·refine ss (rg ?_);simp only [zz];cases h;exact rt ez
 refine sk ?_;simp only [zz,c2];refine ss (rg ?_);simp only [zz];refine ss ?_;refine jm h (fun j4=>⟨ds 2 (e_s_i64 t2::ds 4 (e_i64 x1.1::e_i64 x1.2::.v (.slice none 0 0)::ds 18 (e_bool j4::ds 42 []))),[]⟩) (fun z3 h2=>?_) fun j4 h2 h=>?_
 ·refine rg ?_;simp only [zz];refine gi h2 (fun c3 h2=>?_) fun c3 h2=>?_
  ·have e4:=eF c3;simp only [zz,c3,e4];cases h2;exact tz []
  have e5:=eD c3;simp only [zz,c3,e5];cases h2;exact tz []
 refine cd rfl ?_;simp only [zz];refine gi h (fun c5 h=>?_) fun c5 h=>?_
 ·refine ss (ss (rg ?_));simp only [zz];obtain⟨y6,h7,h⟩:=bs h;refine lm h7 (fun q=>⟨ds 8 (e_i64 x1.2::.own 0 0::e_i64 q.2::ds 60 []),[.live 1 0 (q.1.map e_i64)]⟩) (fun b12=>⟨ds 9 (.own 0 0::ds 61 []),[.live 1 0 (b12.map e_i64)]⟩) (tz [on 1]) ?_ ?_
  ·rintro ⟨s6,s7⟩ z8 h9 h10;simp only [ref23_Representatives_L3]at h9;refine ss (ss (rg ?_));simp only [zz];refine cd rfl ?_;simp only [zz];refine gi h9 (fun c8 h9=>?_) fun c8 h9=>?_
   ·refine sk ?_;simp only [zz,c8];refine ss (bk (rg ?_));obtain⟨x9,a11,h9⟩:=bs h9;obtain⟨f12,f13⟩:=app_f (e:=e_i64) a11;(try simp only [zz]at f12 f13);simp only [zz,f12,f13];refine rg ?_;simp only [zz];cases h9;exact tz [ov 0 1]
   refine xt ?_;simp only [zz,c8];cases h9;exact tz [ok 0]
  rintro b12 rfl;dsimp only at h;simp only [zz];refine ss (rg ?_);simp only [zz];cases h;exact rt ez
 refine sk ?_;simp only [zz,c5];refine ss (rg ?_);have f14:(1:Nat)*8≤2 ^ 47:=by decide
 simp only [zz,f14];refine ss (ss (rg ?_));simp only [zz];obtain⟨y15,h16,h⟩:=bs h;refine lm h16 (fun q=>⟨ds 2 (e_s_i64 t2::ds 4 (e_i64 x1.1::e_i64 x1.2::e_s_i64 q.1::.dead::e_i64 q.2::ds 59 [])),[]⟩) (fun b25=>⟨ds 9 (e_s_i64 b25::ds 61 []),[]⟩) (tz []) ?_ ?_
 ·rintro ⟨s13,s14⟩ z17 h18 h19;simp only [ref23_Representatives_L5]at h18;refine ss (ss (rg ?_));simp only [zz];refine cd rfl ?_;simp only [zz];refine gi h18 (fun c15 h18=>?_) fun c15 h18=>?_
  ·refine sk ?_;simp only [zz,c15];refine jm h18 (fun j22=>⟨ds 2 (e_s_i64 t2::ds 4 (e_i64 x1.1::e_i64 x1.2::e_s_i64 j22::.dead::e_i64 s14::ds 59 [])),[]⟩) (fun z21 h20=>?_) fun j22 h20 h18=>?_
   ·refine bk ?_;refine jm h20 (fun j18=>⟨ds 2 (e_s_i64 t2::ds 4 (e_i64 x1.1::e_i64 x1.2::e_s_i64 s13::.dead::e_i64 s14::ds 51 (e_bool j18::ds 7 []))),[]⟩) (fun z23 h22=>?_) fun j18 h22 h20=>?_
    ·refine rg ?_;obtain⟨x16,f25,f26,h22⟩:=bI h22;simp only [zz,f25,f26];refine gi h22 (fun c17 h22=>?_) fun c17 h22=>?_
     ·simp only [zz,f25,f26,c17];cases h22;exact tz []
     simp only [zz,f25,f26,c17];cases h22;exact tz []
    refine cd rfl ?_;simp only [zz];refine gi h20 (fun c19 h20=>?_) fun c19 h20=>?_
    ·refine rg ?_;obtain⟨x20,f28,f29,h20⟩:=bI h20;obtain⟨x21,a30,h20⟩:=bs h20;simp only [zz,f28,f29];refine cq (ref05_Insert_ok a30) ?_ (by simp only [zg,c5,c19]);simp only [zz,f28,f29];cases h20;exact tz []
    refine sk ?_;simp only [zz,c19];cases h20;exact tz []
   refine rg ?_;simp only [zz];cases h18;exact tz []
  refine xt ?_;simp only [zz,c15];cases h18;exact tz []
 rintro b25 rfl;dsimp only at h;simp only [zz];refine ss (rg ?_);simp only [zz];cases h;exact rt ez
theorem ref15_RulesOn_ok {t0:GScope}{t1:Int}{t2:Int}{r:List Int}(h:ref15_RulesOn t0 t1 t2=some r):Den Tryz.prog 62 [e_GScope t0,e_i64 t1,e_i64 t2] (e_s_i64 r):=by
 refine dk 36 k62 ?_;simp only [k62,Kf.of,zs,ze];unfold ref15_RulesOn at h;refine ss (rg ?_);simp only [zz];refine ss (rg ?_);simp only [zz];refine ss (ss (rg ?_));simp only [zz];obtain⟨y1,h2,h⟩:=bs h;refine lm h2 (fun q=>⟨.dead::e_i64 t1::e_i64 t2::.ref 0 0 0 0::ds 3 (.own 1 0::e_i64 q.2::ds 30 []),[.live 5 0 [e_GScope t0],.live 1 0 (q.1.map e_i64)]⟩) (fun b13=>⟨ds 7 (.own 0 0::ds 31 []),[.live 1 0 (b13.map e_i64)]⟩) (tz [ok 0,on 1]) ?_ ?_
 ·rintro ⟨s1,s2⟩ z3 h4 h5;simp only [ref15_RulesOn_L1]at h4;refine ss (ss (rg ?_));simp only [zz];refine cd rfl ?_;simp only [zz];refine gi h4 (fun c3 h4=>?_) fun c3 h4=>?_
  ·refine sk ?_;simp only [zz,c3];refine jm h4 (fun j10=>⟨.dead::e_i64 t1::e_i64 t2::.ref 0 0 0 0::ds 3 (.own 1 0::e_i64 s2::ds 30 []),[.live 5 0 [e_GScope t0],.live 1 0 (j10.map e_i64)]⟩) (fun z7 h6=>?_) fun j10 h6 h4=>?_
   ·refine bk ?_;refine jm h6 (fun j7=>⟨.dead::e_i64 t1::e_i64 t2::.ref 0 0 0 0::ds 3 (.own 1 0::e_i64 s2::ds 24 (e_bool j7::ds 5 [])),[.live 5 0 [e_GScope t0],.live 1 0 (s1.map e_i64)]⟩) (fun z9 h8=>?_) fun j7 h8 h6=>?_
    ·refine rg ?_;obtain⟨x4,f11,f12,h8⟩:=bI h8;simp only [zz,f11,f12];refine gi h8 (fun c5 h8=>?_) fun c5 h8=>?_
     ·have e13:=eT c5;obtain⟨x6,a15,h8⟩:=bs h8;simp only [zz,f11,f12,eq_true c5,e13];refine cq (ref05_Contains_ok a15) ?_ (by simp only [zg,e13]);simp only [zz,f11,f12,eq_true c5,e13];cases h8;exact tz [ok 0,ok 1]
     have e14:=eF c5;simp only [zz,f11,f12,c5,e14];cases h8;exact tz [ok 0,ok 1]
    refine cd rfl ?_;simp only [zz];refine gi h6 (fun c8 h6=>?_) fun c8 h6=>?_
    ·refine rg ?_;obtain⟨x9,a16,h6⟩:=bs h6;obtain⟨f17,f18⟩:=app_f (e:=e_i64) a16;(try simp only [zz]at f17 f18);simp only [zz,f17,f18];cases h6;exact tz [ok 0,ov 1 1]
    refine sk ?_;simp only [zz,c8];cases h6;exact tz [ok 0,ok 1]
   refine rg ?_;simp only [zz];cases h4;exact tz [ok 0,ok 1]
  refine xt ?_;simp only [zz,c3];cases h4;exact tz [ok 1]
 rintro b13 rfl;dsimp only at h;simp only [zz];refine ss (rg ?_);simp only [zz];cases h;exact rt ez
theorem expr_Starts_ok {t0:List GNode}{r:((List Int)×Int)}(h:expr_Starts t0=some r):Den Tryz.prog 81 [e_s_GNode t0] (.tup [e_s_i64 r.1,e_i64 r.2]):=by
 refine dk 14 k81 ?_;simp only [k81,Kf.of,zs,ze];unfold expr_Starts at h;refine ss (rg ?_);simp only [zz];refine ss (rg ?_);obtain⟨x1,a1,h⟩:=bs h;simp only [zz];refine cq (expr_structure_ok a1) ?_ (by simp only [zg]);simp only [zz];refine ss (rg ?_);simp only [zz];cases h;exact rt ez
theorem lexer_IsIdentifier_ok {t0:ByteArray}{r:Bool}(h:lexer_IsIdentifier t0=some r):Den Tryz.prog 111 [e_str t0] (e_bool r):=by
 refine dk 26 k111 ?_;simp only [k111,Kf.of,zs,ze];unfold lexer_IsIdentifier at h;refine ss (rg ?_);simp only [zz];refine jm h (fun j9=>⟨ds 2 (e_bool j9::ds 24 []),[]⟩) (fun z2 h1=>?_) fun j9 h1 h=>?_
 ·refine rg ?_;simp only [zz];refine gi h1 (fun c1 h1=>?_) fun c1 h1=>?_
  ·obtain⟨x2,a3,h1⟩:=bs h1;obtain⟨x3,a5,h1⟩:=bs h1;simp only [zz,c1,a3];refine cq (lexer_isLower_ok a5) ?_ (by simp only [zg]);simp only [zz,c1,a3];refine gi h1 (fun c4 h1=>?_) fun c4 h1=>?_
   ·obtain⟨x5,a6,h1⟩:=bs h1;simp only [zz,c1,a3,c4];refine cq (lexer_nameLength_ok a6) ?_ (by simp only [zg,c4]);simp only [zz,c1,a3,c4];refine gi h1 (fun c6 h1=>?_) fun c6 h1=>?_
    ·have e7:=eT c6;simp only [zz,c1,a3,c4,eq_true c6,e7];refine gi h1 (fun c7 h1=>?_) fun c7 h1=>?_
     ·obtain⟨x8,a9,h1⟩:=bs h1;simp only [zz,c1,a3,c4,eq_true c6,e7,c7];refine cq (lexer_reserved_ok a9) ?_ (by simp only [zg,c4,e7]);simp only [zz,c1,a3,c4,eq_true c6,e7,c7];cases h1;exact tz []
     simp only [zz,c1,a3,c4,eq_true c6,e7,c7];cases h1;exact tz []
    have e8:=eF c6;simp only [zz,c1,a3,c4,c6,e8];cases h1;exact tz []
   simp only [zz,c1,a3,c4];cases h1;exact tz []
  simp only [zz,c1];cases h1;exact tz []
 cases h;exact rt ez
theorem law_hasEnum_ok {t0:List GEnum}{t1:ByteArray}{r:Bool}(h:law_hasEnum t0 t1=some r):Den Tryz.prog 112 [e_s_GEnum t0,e_str t1] (e_bool r):=by
 refine dk 6 k112 ?_;simp only [k112,Kf.of,zs,ze];unfold law_hasEnum at h;refine ss (rg ?_);simp only [zz];refine ss (rg ?_);obtain⟨x1,a1,h⟩:=bs h;simp only [zz];refine cv (slices_ContainsFunc_api_Enum_api_Enum_ok (q1:=[e_p_str t1]) (frC frN) (fun x900 _ hb=>law_hasEnum_c1_ok hb) a1) ?_ rfl (by simp only [zg]);simp only [zz];cases h;exact rt ez
theorem law_hasTable_ok {t0:List GTable}{t1:ByteArray}{r:Bool}(h:law_hasTable t0 t1=some r):Den Tryz.prog 113 [e_s_GTable t0,e_str t1] (e_bool r):=by
 refine dk 6 k113 ?_;simp only [k113,Kf.of,zs,ze];unfold law_hasTable at h;refine ss (rg ?_);simp only [zz];refine ss (rg ?_);obtain⟨x1,a1,h⟩:=bs h;simp only [zz];refine cv (slices_ContainsFunc_api_Table_api_Table_ok (q1:=[e_p_str t1]) (frC frN) (fun x900 _ hb=>law_hasTable_c1_ok hb) a1) ?_ rfl (by simp only [zg]);simp only [zz];cases h;exact rt ez
theorem effective_RulesOn_c1_ok {t0:GRule}{t1:Int}{t2:Int}{r:Bool}(h:effective_RulesOn_c1 t0 t1 t2=some r):Den Tryz.prog 115 [e_GRule t0,e_p_i64 t1,e_p_i64 t2] (e_bool r):=by
 refine dk 12 k115 ?_;simp only [k115,Kf.of,zs,ze];unfold effective_RulesOn_c1 at h;refine ss (rg ?_);simp only [zz];refine jm h (fun j3=>⟨ds 4 (e_bool j3::ds 10 []),[]⟩) (fun z2 h1=>?_) fun j3 h1 h=>?_
 ·refine rg ?_;simp only [zz];refine gi h1 (fun c1 h1=>?_) fun c1 h1=>?_
  ·have e3:=eT c1;obtain⟨x2,a5,h1⟩:=bs h1;simp only [zz,eq_true c1,e3];refine cq (daterange_Contains_ok a5) ?_ (by simp only [zg,e3]);simp only [zz,eq_true c1,e3];cases h1;exact tz []
  have e4:=eF c1;simp only [zz,c1,e4];cases h1;exact tz []
 cases h;exact rt ez
theorem ref08_IsIdentifier_ok {t0:ByteArray}{r:Bool}(h:ref08_IsIdentifier t0=some r):Den Tryz.prog 127 [e_str t0] (e_bool r):=by
 refine dk 43 k127 ?_;simp only [k127,Kf.of,zs,ze];unfold ref08_IsIdentifier at h;refine ss (rg ?_);simp only [zz];refine ss ?_;refine jm h (fun j5=>⟨.v (.string t0)::ds 18 (e_bool j5::ds 24 []),[]⟩) (fun z2 h1=>?_) fun j5 h1 h=>?_
 ·refine rg ?_;simp only [zz];refine gi h1 (fun c1 h1=>?_) fun c1 h1=>?_
  ·have e3:=eF c1;simp only [zz,c1,e3];refine gi h1 (fun c2 h1=>?_) fun c2 h1=>?_
   ·obtain⟨x3,a5,h1⟩:=bs h1;obtain⟨x4,a7,h1⟩:=bs h1;simp only [zz,c1,e3,c2,a5];refine cq (ref08_lower_ok a7) ?_ (by simp only [zg,e3]);simp only [zz,c1,e3,c2,a5];cases h1;exact tz []
   simp only [zz,c1,e3,c2];cases h1;exact tz []
  have e4:=eD c1;simp only [zz,c1,e4];cases h1;exact tz []
 refine cd rfl ?_;simp only [zz];refine gi h (fun c6 h=>?_) fun c6 h=>?_
 ·refine ss (rg ?_);simp only [zz];cases h;exact rt ez
 refine sk ?_;simp only [zz,c6];refine ss (ss (rg ?_));simp only [zz];obtain⟨y8,h9,h⟩:=bs h;refine lm h9 (fun s7=>⟨.v (.string t0)::ds 2 (e_i64 s7::ds 40 []),[]⟩) (fun q=>⟨.v (.string t0)::ds 43 [],[]⟩) (tz []) ?_ ?_
 ·rintro s7 z10 h11 h12;simp only [ref08_IsIdentifier_L3]at h11;refine ss (ss (rg ?_));simp only [zz];refine cd rfl ?_;simp only [zz];refine gi h11 (fun c8 h11=>?_) fun c8 h11=>?_
  ·refine sk ?_;simp only [zz,c8];refine ss (bk (ss (rg ?_)));obtain⟨x9,a13,h11⟩:=bs h11;obtain⟨x10,a15,h11⟩:=bs h11;simp only [zz,a13];refine cq (ref08_word_ok a15) ?_ (by simp only [zg,c6]);simp only [zz,a13];refine cd rfl ?_;simp only [zz,a13];refine gi h11 (fun c11 h11=>?_) fun c11 h11=>?_
   ·refine ss (rg ?_);simp only [zz];cases h11;cases h12 _ rfl;cases h;exact rt ez
   refine sk ?_;simp only [zz,a13,c11];refine rg ?_;simp only [zz];cases h11;exact tz []
  refine xt ?_;simp only [zz,c8];cases h11;exact tz []
 rintro ⟨⟩ rfl;dsimp only at h;simp only [zz];refine ss (rg ?_);obtain⟨x13,a16,h⟩:=bs h;simp only [zz];refine cq (ref08_Reserved_ok a16) ?_ (by simp only [zg,c6]);simp only [zz];refine ss (ss (rg ?_));simp only [zz];obtain⟨y17,h18,h⟩:=bs h;refine lm h18 (fun s14=>⟨.v (.string t0)::ds 3 (e_s_str x13::e_i64 s14::ds 38 []),[]⟩) (fun q=>⟨ds 44 [],[]⟩) (tz []) ?_ ?_
 ·rintro s14 z19 h20 h21;simp only [ref08_IsIdentifier_L2]at h20;refine ss (ss (rg ?_));simp only [zz];refine cd rfl ?_;simp only [zz];refine gi h20 (fun c15 h20=>?_) fun c15 h20=>?_
  ·refine sk ?_;simp only [zz,c15];refine ss (bk (ss (rg ?_)));obtain⟨x16,f23,f24,h20⟩:=bI h20;simp only [zz,f23,f24];refine cd rfl ?_;simp only [zz,f23,f24];refine gi h20 (fun c17 h20=>?_) fun c17 h20=>?_
   ·refine ss (rg ?_);simp only [zz];cases h20;cases h21 _ rfl;cases h;exact rt ez
   refine sk ?_;simp only [zz,f23,f24,c17];refine rg ?_;simp only [zz];cases h20;exact tz []
  refine xt ?_;simp only [zz,c15];cases h20;exact tz []
 rintro ⟨⟩ rfl;dsimp only at h;simp only [zz];refine ss (rg ?_);simp only [zz];cases h;exact rt ez
theorem ref10_Operands_ok {t0:List GNode}{t1:Int}{r:List Int}(h:ref10_Operands t0 t1=some r):Den Tryz.prog 136 [e_s_GNode t0,e_i64 t1] (e_s_i64 r):=by
 refine dk 54 k136 ?_;simp only [k136,Kf.of,zs,ze];unfold ref10_Operands at h;refine ss (rg ?_);simp only [zz];refine ss (rg ?_);obtain⟨x1,a1,h⟩:=bs h;simp only [zz];refine cq (ref10_structure_ok a1) ?_ (by simp only [zg]);simp only [zz];refine ss ?_;refine jm h (fun j4=>⟨e_s_GNode t0::e_i64 t1::ds 3 (e_s_i64 x1.1::ds 23 (e_bool j4::ds 26 [])),[]⟩) (fun z3 h2=>?_) fun j4 h2 h=>?_
 ·refine rg ?_;simp only [zz];refine gi h2 (fun c2 h2=>?_) fun c2 h2=>?_
  ·have e4:=nF c2;simp only [zz,eq_true c2,e4];refine gi h2 (fun c3 h2=>?_) fun c3 h2=>?_
   ·simp only [zz,eq_true c2,e4,c3];cases h2;exact tz []
   simp only [zz,eq_true c2,e4,c3];cases h2;exact tz []
  have e5:=nT c2;simp only [zz,c2,e5];cases h2;exact tz []
 refine cd rfl ?_;simp only [zz];refine gi h (fun c5 h=>?_) fun c5 h=>?_
 ·refine ss (rg ?_);simp only [zz];cases h;exact rt ez
 refine sk ?_;simp only [zz,c5];refine ss (rg ?_);obtain⟨x6,f7,f8,h⟩:=bI h;obtain⟨x7,a9,h⟩:=bs h;simp only [zz,f7,f8];refine cq (ref10_Arity_ok a9) ?_ (by simp only [zg,c5]);simp only [zz,f7,f8];refine ss (rg ?_);obtain⟨x8,a10,h⟩:=bs h;obtain⟨f11,f12,f13,f14,f15⟩:=mks_f (e:=e_i64) a10;(try simp only [zz]at f14 f15);simp only [zz,f11,f12,f13,f14,f15];refine ss (rg ?_);simp only [zz];refine ss (ss (rg ?_));simp only [zz];obtain⟨y16,h17,h⟩:=bs h;refine lm h17 (fun q=>⟨ds 5 (e_s_i64 x1.1::ds 3 (.own 0 0::e_i64 q.2.1::e_i64 q.2.2::ds 44 [])),[.live 1 0 (q.1.map e_i64)]⟩) (fun b19=>⟨ds 9 (.own 0 0::ds 46 []),[.live 1 0 (b19.map e_i64)]⟩) (tz [ok 0]) ?_ ?_
 ·rintro ⟨s9,s10,s11⟩ z18 h19 h20;simp only [ref10_Operands_L1]at h19;refine ss (ss (rg ?_));simp only [zz];refine cd rfl ?_;simp only [zz];refine gi h19 (fun c12 h19=>?_) fun c12 h19=>?_
  ·refine sk ?_;simp only [zz,c12];refine ss (bk (ss (rg ?_)));obtain⟨x13,f22,f23,f24,h19⟩:=bO h19;obtain⟨x14,a25,h19⟩:=bs h19;obtain⟨f26,f27⟩:=put_f (e:=e_i64) a25;(try simp only [zz]at f27);simp only [zz,f22,f23,f24,f26,f27];refine rg ?_;obtain⟨x15,f29,f30,h19⟩:=bI h19;simp only [zz,f29,f30];refine rg ?_;simp only [zz];cases h19;exact tz [ok 0]
  refine xt ?_;simp only [zz,c12];cases h19;exact tz [ok 0]
 rintro b19 rfl;dsimp only at h;simp only [zz];refine ss (rg ?_);simp only [zz];cases h;exact rt ez
theorem expr_literalType_ok {t0:Int}{t1:Int}{t2:GSignature}{r:(GType×Int)}(h:expr_literalType t0 t1 t2=some r):Den Tryz.prog 165 [e_i64 t0,e_i64 t1,e_GSignature t2] (.tup [e_GType r.1,e_i64 r.2]):=by
 refine dk 27 k165 ?_;simp only [k165,Kf.of,zs,ze];unfold expr_literalType at h;refine ss (rg ?_);simp only [zz];refine ss (rg ?_);simp only [zz];refine ss (ss (rg ?_));obtain⟨x1,a1,h⟩:=bs h;simp only [zz];refine cq (value_Bounds_ok a1) ?_ (by simp only [zg]);simp only [zz];refine jm h (fun j3=>⟨ds 6 (.ref 0 0 0 0::.dead::.ref 1 0 0 0::ds 18 (e_bool j3::ds 2 [])),[.live 2 0 [.agg [e_i64 0,e_i64 0]],.live 2 0 [.agg [e_i64 t1,e_i64 0]]]⟩) (fun z3 h2=>?_) fun j3 h2 h=>?_
 ·refine rg ?_;simp only [zz];refine gi h2 (fun c2 h2=>?_) fun c2 h2=>?_
  ·simp only [zz,c2];cases h2;exact tz [ok 1,ok 2]
  simp only [zz,c2];cases h2;exact tz [ok 1,ok 2]
 refine cd rfl ?_;simp only [zz];refine gi h (fun c4 h=>?_) fun c4 h=>?_
 ·refine ss (rg ?_);simp only [zz];cases h;exact rt ez
 refine sk ?_;simp only [zz,c4];refine ss (rg ?_);simp only [zz];cases h;exact rt ez
theorem expr_memberType_ok {t0:GNode}{t1:GSignature}{r:(GType×Int)}(h:expr_memberType t0 t1=some r):Den Tryz.prog 169 [e_GNode t0,e_GSignature t1] (.tup [e_GType r.1,e_i64 r.2]):=by
 refine dk 60 k169 ?_;simp only [k169,Kf.of,zs,ze];unfold expr_memberType at h;refine ss (rg ?_);simp only [zz];refine ss (ss (rg ?_));simp only [zz];refine cd rfl ?_;simp only [zz];refine gi h (fun c1 h=>?_) fun c1 h=>?_
 ·refine ss (rg ?_);simp only [zz];cases h;exact rt ez
 refine sk ?_;simp only [zz,c1];refine ss (ss (rg ?_));simp only [zz];refine cd rfl ?_;simp only [zz];refine gi h (fun c2 h=>?_) fun c2 h=>?_
 ·have e1:=eT c2;refine ss (rg ?_);simp only [zz];cases h;exact rt ez
 have e2:=eF c2;refine sk ?_;simp only [zz,c2,e2];refine ss (rg ?_);obtain⟨x3,a3,h⟩:=bs h;simp only [zz];refine cq (expr_listedType_ok a3) ?_ (by simp only [zg,c1,e2]);simp only [zz];refine ss (ss (rg ?_));simp only [zz];refine cd rfl ?_;simp only [zz];refine gi h (fun c4 h=>?_) fun c4 h=>?_
 ·have e4:=nT c4;refine ss (rg ?_);simp only [zz];cases h;exact rt ez
 have e5:=nD c4;refine sk ?_;simp only [zz,c4,e5];refine ss (rg ?_);simp only [zz];refine jm h (fun j13=>⟨ds 4 (.ref 0 0 0 0::.dead::.ref 1 0 0 0::.dead::e_bool j13::ds 53 []),[.live 2 0 [.agg [e_i64 0,e_i64 0]],.live 2 0 [e_GType x3.1]]⟩) (fun z7 h6=>?_) fun j13 h6 h=>?_
 ·refine ss (rg ?_);simp only [zz];refine bk (ss (rg ?_));simp only [zz];refine cd rfl ?_;simp only [zz];refine gi h6 (fun c5 h6=>?_) fun c5 h6=>?_
  ·have e8:=eT c5;refine rg ?_;simp only [zz];refine gi h6 (fun c6 h6=>?_) fun c6 h6=>?_
   ·have e10:=eF c6;simp only [zz,c6,e10];cases h6;exact tz [ok 2,ok 3]
   have e11:=eD c6;simp only [zz,c6,e11];cases h6;exact tz [ok 2,ok 3]
  have e9:=eF c5;refine jm h6 (fun j8=>⟨ds 4 (.ref 0 0 0 0::.dead::.ref 1 0 0 0::.dead::e_bool false::ds 22 (e_i64 t0.Op::ds 10 (e_bool j8::ds 19 []))),[.live 2 0 [.agg [e_i64 0,e_i64 0]],.live 2 0 [e_GType x3.1]]⟩) (fun z13 h12=>?_) fun j8 h12 h6=>?_
  ·refine ss (rg ?_);simp only [zz];refine cd rfl ?_;simp only [zz];refine gi h12 (fun c7 h12=>?_) fun c7 h12=>?_
   ·have e14:=eT c7;refine sk ?_;simp only [zz,eq_true c7,e14];cases h12;exact tz [ok 2,ok 3]
   have e15:=eF c7;refine rg ?_;simp only [zz];cases h12;exact tz [ok 2,ok 3]
  refine cd rfl ?_;simp only [zz];refine gi h6 (fun c9 h6=>?_) fun c9 h6=>?_
  ·refine rg ?_;simp only [zz];cases h6;exact tz [ok 0,ok 1]
  refine ss (rg ?_);simp only [zz];refine cd rfl ?_;simp only [zz];refine gi h6 (fun c10 h6=>?_) fun c10 h6=>?_
  ·have e16:=eT c10;refine rg ?_;obtain⟨x11,a18,h6⟩:=bs h6;simp only [zz];refine cq (expr_isNumber_ok a18) ?_ (by simp only [zg,c1,e2,e5,e9,c9,e16]);simp only [zz];refine gi h6 (fun c12 h6=>?_) fun c12 h6=>?_
   ·simp only [zz,c12];cases h6;exact tz [ok 0,ok 1]
   simp only [zz,c12];cases h6;exact tz [ok 0,ok 1]
  have e17:=eF c10;refine sk ?_;simp only [zz,c10,e17];cases h6;exact tz [ok 0,ok 1]
 refine ss (ss (rg ?_));simp only [zz];refine cd rfl ?_;simp only [zz];refine gi h (fun c14 h=>?_) fun c14 h=>?_
 ·refine ss (rg ?_);simp only [zz];cases h;exact rt ez
 refine sk ?_;simp only [zz,c14];refine ss (rg ?_);simp only [zz];cases h;exact rt ez
theorem ref12_conflict_ok {t0:GRow}{t1:GRow}{r:Bool}(h:ref12_conflict t0 t1=some r):Den Tryz.prog 187 [e_GRow t0,e_GRow t1] (e_bool r):=by
 refine dk 27 k187 ?_;simp only [k187,Kf.of,zs,ze];unfold ref12_conflict at h;refine ss (rg ?_);simp only [zz];refine ss (rg ?_);obtain⟨x1,a1,h⟩:=bs h;simp only [zz];refine cq (ref05_Intersect_ok a1) ?_ (by simp only [zg]);simp only [zz];refine jm h (fun j3=>⟨ds 4 (e_bool j3::ds 24 []),[]⟩) (fun z3 h2=>?_) fun j3 h2 h=>?_
 ·refine rg ?_;simp only [zz];refine gi h2 (fun c2 h2=>?_) fun c2 h2=>?_
  ·simp only [zz,c2];cases h2;exact tz []
  simp only [zz,c2];cases h2;exact tz []
 cases h;exact rt ez
theorem ref16_Direct_ok {t0:GScope}{t1:Int}{r:List Int}(h:ref16_Direct t0 t1=some r):Den Tryz.prog 191 [e_GScope t0,e_i64 t1] (e_s_i64 r):=by
 refine dk 91 k191 ?_;simp only [k191,Kf.of,zs,ze];unfold ref16_Direct at h;refine ss (rg ?_);(try simp only [zz]);refine ss (rg ?_);(try simp only [zz]);refine ss (ss (rg ?_));obtain⟨x1,a1,h⟩:=bs h;simp only [zz];refine cq (ref16_is_ok a1) ?_ (by simp only [zg]);(try simp only [zz]);refine cd rfl ?_;(try simp only [zz]);refine gi h (fun c2 h=>?_) fun c2 h=>?_
 ·refine ss (rg ?_);(try simp only [zz]);cases h;exact rt ez
 refine sk ?_;(try simp only [zz,c2]);refine ss (ss (rg ?_));(try simp only [zz]);obtain⟨y2,h3,h⟩:=bs h;refine lm h3 (fun q=>⟨.dead::e_i64 t1::.ref 0 0 0 0::ds 2 (e_s_i64 q.1::e_i64 q.2::ds 86 []),[.live 5 0 [e_GScope t0]]⟩) (fun b35=>⟨ds 5 (e_s_i64 b35::ds 87 []),[]⟩) (tz [ok 0]) ?_ ?_
 ·rintro ⟨s3,s4⟩ z4 h5 h6;simp only [ref16_Direct_L13]at h5;refine ss (ss (rg ?_));(try simp only [zz]);refine cd rfl ?_;(try simp only [zz]);refine gi h5 (fun c5 h5=>?_) fun c5 h5=>?_
  ·refine sk ?_;(try simp only [zz,c5]);refine jm h5 (fun j32=>⟨.dead::e_i64 t1::.ref 0 0 0 0::ds 2 (e_s_i64 j32::e_i64 s4::ds 86 []),[.live 5 0 [e_GScope t0]]⟩) (fun z8 h7=>?_) fun j32 h7 h5=>?_
   ·refine bk (ss (ss (rg ?_)));obtain⟨x6,f10,f11,h7⟩:=bI h7;(try simp only [zz,f10,f11]);refine cd rfl ?_;(try simp only [zz,f10,f11]);refine gi h7 (fun c7 h7=>?_) fun c7 h7=>?_
    ·have e12:=nT c7;refine xt ?_;(try simp only [zz,f10,f11,c7,e12]);cases h7;exact tz [ok 0]
    have e13:=nD c7;refine sk ?_;(try simp only [zz,f10,f11,c7,e13]);refine ss (rg ?_);obtain⟨x8,a14,h7⟩:=bs h7;simp only [zz,f10,f11];refine cq (ref10_References_ok a14) ?_ (by simp only [zg,c2,e13]);(try simp only [zz,f10,f11]);refine ss (rg ?_);obtain⟨x9,a15,h7⟩:=bs h7;simp only [zz,f10,f11];refine cq (ref10_References_ok a15) ?_ (by simp only [zg,c2,e13]);(try simp only [zz,f10,f11]);refine ss (ss (rg ?_));(try simp only [zz]);obtain⟨y16,h17,h7⟩:=bs h7;refine lm h17 (fun q=>⟨.dead::e_i64 t1::.ref 0 0 0 0::ds 2 (e_s_i64 q.1::e_i64 s4::.dead::e_s_i64 x8.2.1::ds 2 (e_s_i64 x9.2.1::.dead::e_i64 q.2::ds 79 [])),[.live 5 0 [e_GScope t0]]⟩) (fun b20=>⟨.dead::e_i64 t1::.ref 0 0 0 0::ds 2 (e_s_i64 b20::e_i64 s4::ds 4 (e_s_i64 x9.2.1::ds 81 [])),[.live 5 0 [e_GScope t0]]⟩) (tz [ok 0]) ?_ ?_
    ·rintro ⟨s10,s11⟩ z18 h19 h20;simp only [ref16_Direct_L12]at h19;refine ss (ss (rg ?_));(try simp only [zz]);refine cd rfl ?_;(try simp only [zz]);refine gi h19 (fun c12 h19=>?_) fun c12 h19=>?_
     ·refine sk ?_;(try simp only [zz,c12]);refine jm h19 (fun j17=>⟨.dead::e_i64 t1::.ref 0 0 0 0::ds 2 (e_s_i64 j17::e_i64 s4::.dead::e_s_i64 x8.2.1::ds 2 (e_s_i64 x9.2.1::.dead::e_i64 s11::ds 79 [])),[.live 5 0 [e_GScope t0]]⟩) (fun z22 h21=>?_) fun j17 h21 h19=>?_
      ·refine bk (ss (dy hmix ?_));obtain⟨x13,f24,f25,h21⟩:=bI h21;obtain⟨x14,a26,h21⟩:=bs h21;simp only [zz,f24,f25,zy];refine cq (ref16_is_ok a26) ?_ (by simp only [zg,c2,e13]);(try simp only [zz,f24,f25,zy]);refine cd rfl ?_;(try simp only [zz,f24,f25]);refine gi h21 (fun c15 h21=>?_) fun c15 h21=>?_
       ·refine rg ?_;obtain⟨x16,a27,h21⟩:=bs h21;simp only [zz,f24,f25];refine cq (ref16_insert_ok a27) ?_ (by simp only [zg,c2,e13,c15]);(try simp only [zz,f24,f25]);cases h21;exact tz [ok 0]
       refine sk ?_;(try simp only [zz,f24,f25,c15]);cases h21;exact tz [ok 0]
      refine rg ?_;(try simp only [zz]);cases h19;exact tz [ok 0]
     refine xt ?_;(try simp only [zz,c12]);cases h19;exact tz [ok 0]
    rintro b20 rfl;dsimp only at h7;(try simp only [zz]);refine ss (rg ?_);(try simp only [zz]);obtain⟨y28,h29,h7⟩:=bs h7;refine lm h29 (fun q=>⟨.dead::e_i64 t1::.ref 0 0 0 0::ds 2 (e_s_i64 q.1::e_i64 s4::ds 4 (e_s_i64 x9.2.1::ds 2 (e_i64 q.2::ds 78 []))),[.live 5 0 [e_GScope t0]]⟩) (fun b31=>⟨.dead::e_i64 t1::.ref 0 0 0 0::ds 2 (e_s_i64 b31::e_i64 s4::ds 86 []),[.live 5 0 [e_GScope t0]]⟩) (tz [ok 0]) ?_ ?_
    ·rintro ⟨s21,s22⟩ z30 h31 h32;simp only [ref16_Direct_L11]at h31;refine ss (ss (rg ?_));(try simp only [zz]);refine cd rfl ?_;(try simp only [zz]);refine gi h31 (fun c23 h31=>?_) fun c23 h31=>?_
     ·refine sk ?_;(try simp only [zz,c23]);refine jm h31 (fun j28=>⟨.dead::e_i64 t1::.ref 0 0 0 0::ds 2 (e_s_i64 j28::e_i64 s4::ds 4 (e_s_i64 x9.2.1::ds 2 (e_i64 s22::ds 78 []))),[.live 5 0 [e_GScope t0]]⟩) (fun z34 h33=>?_) fun j28 h33 h31=>?_
      ·refine bk (ss (dy hmix ?_));obtain⟨x24,f36,f37,h33⟩:=bI h33;obtain⟨x25,a38,h33⟩:=bs h33;simp only [zz,f36,f37,zy];refine cq (ref16_is_ok a38) ?_ (by simp only [zg,c2,e13]);(try simp only [zz,f36,f37,zy]);refine cd rfl ?_;(try simp only [zz,f36,f37]);refine gi h33 (fun c26 h33=>?_) fun c26 h33=>?_
       ·refine rg ?_;obtain⟨x27,a39,h33⟩:=bs h33;simp only [zz,f36,f37];refine cq (ref16_insert_ok a39) ?_ (by simp only [zg,c2,e13,c26]);(try simp only [zz,f36,f37]);cases h33;exact tz [ok 0]
       refine sk ?_;(try simp only [zz,f36,f37,c26]);cases h33;exact tz [ok 0]
      refine rg ?_;(try simp only [zz]);cases h31;exact tz [ok 0]
     refine xt ?_;(try simp only [zz,c23]);cases h31;exact tz [ok 0]
    rintro b31 rfl;dsimp only at h7;(try simp only [zz]);cases h7;exact tz [ok 0]
   refine rg ?_;(try simp only [zz]);cases h5;exact tz [ok 0]
  refine xt ?_;(try simp only [zz,c5]);cases h5;exact tz []
 rintro b35 rfl;dsimp only at h;(try simp only [zz]);refine ss (rg ?_);(try simp only [zz]);cases h;exact rt ez
theorem ref10_ranged_ok {t0:GNode}{t1:GSignature}{r:Bool}(h:ref10_ranged t0 t1=some r):Den Tryz.prog 194 [e_GNode t0,e_GSignature t1] (e_bool r):=by
 refine dk 60 k194 ?_;simp only [k194,Kf.of,zs,ze];unfold ref10_ranged at h;refine ss (rg ?_);simp only [zz];refine ss (ss (rg ?_));simp only [zz];refine bk ?_;refine jm h (fun j5=>⟨ds 2 (.ref 0 0 0 0::.ref 1 0 0 0::ds 4 (e_i64 t0.Op::e_bool j5::ds 52 [])),[.live 2 0 [e_GNode t0],.live 6 0 [e_GSignature t1]]⟩) (fun z2 h1=>?_) fun j5 h1 h=>?_
 ·refine ss (rg ?_);simp only [zz];refine cd rfl ?_;simp only [zz];refine gi h1 (fun c1 h1=>?_) fun c1 h1=>?_
  ·have e3:=eT c1;refine sk ?_;simp only [zz,eq_true c1,e3];cases h1;exact tz [ok 0,ok 1]
  have e4:=eF c1;refine ss (rg ?_);simp only [zz];refine cd rfl ?_;simp only [zz];refine gi h1 (fun c2 h1=>?_) fun c2 h1=>?_
  ·have e5:=eT c2;refine sk ?_;simp only [zz,eq_true c2,e5];cases h1;exact tz [ok 0,ok 1]
  have e6:=eF c2;refine ss (rg ?_);simp only [zz];refine cd rfl ?_;simp only [zz];refine gi h1 (fun c3 h1=>?_) fun c3 h1=>?_
  ·have e7:=eT c3;refine sk ?_;simp only [zz,eq_true c3,e7];cases h1;exact tz [ok 0,ok 1]
  have e8:=eF c3;refine ss (rg ?_);simp only [zz];refine cd rfl ?_;simp only [zz];refine gi h1 (fun c4 h1=>?_) fun c4 h1=>?_
  ·have e9:=eT c4;refine sk ?_;simp only [zz,eq_true c4,e9];cases h1;exact tz [ok 0,ok 1]
  have e10:=eF c4;refine rg ?_;simp only [zz];cases h1;exact tz [ok 0,ok 1]
 refine cd rfl ?_;simp only [zz];refine gi h (fun c6 h=>?_) fun c6 h=>?_
 ·refine ss (dy hmix ?_);obtain⟨x7,a11,h⟩:=bs h;simp only [zz,zy];refine lq (ref10_kind_ok a11) ?_ (by simp only [zg,c6]);obtain⟨x8,a12,h⟩:=bs h;simp only [zz,zy];refine lq (ref09_Bounds_ok a12) ?_ (by simp only [zg,c6]);simp only [zz,zy];refine jm h (fun j10=>⟨ds 4 (e_bool j10::ds 57 []),[]⟩) (fun z14 h13=>?_) fun j10 h13 h=>?_
  ·refine rg ?_;simp only [zz];refine gi h13 (fun c9 h13=>?_) fun c9 h13=>?_
   ·simp only [zz,c9];cases h13;exact tz []
   simp only [zz,c9];cases h13;exact tz []
  cases h;exact rt ez
 refine jm h (fun j13=>⟨ds 2 (.ref 0 0 0 0::ds 5 (e_i64 t0.Op::ds 25 (e_bool j13::ds 27 []))),[.live 2 0 [e_GNode t0]]⟩) (fun z16 h15=>?_) fun j13 h15 h=>?_
 ·refine ss (rg ?_);simp only [zz];refine cd rfl ?_;simp only [zz];refine gi h15 (fun c11 h15=>?_) fun c11 h15=>?_
  ·have e17:=eT c11;refine sk ?_;simp only [zz,eq_true c11,e17];cases h15;exact tz [ok 0]
  have e18:=eF c11;refine ss (rg ?_);simp only [zz];refine cd rfl ?_;simp only [zz];refine gi h15 (fun c12 h15=>?_) fun c12 h15=>?_
  ·have e19:=eT c12;refine sk ?_;simp only [zz,eq_true c12,e19];cases h15;exact tz [ok 0]
  have e20:=eF c12;refine rg ?_;simp only [zz];cases h15;exact tz [ok 0]
 refine cd rfl ?_;simp only [zz];refine gi h (fun c14 h=>?_) fun c14 h=>?_
 ·refine jm h (fun j16=>⟨ds 4 (e_bool j16::ds 57 []),[]⟩) (fun z22 h21=>?_) fun j16 h21 h=>?_
  ·refine rg ?_;simp only [zz];refine gi h21 (fun c15 h21=>?_) fun c15 h21=>?_
   ·simp only [zz,c15];cases h21;exact tz []
   simp only [zz,c15];cases h21;exact tz []
  cases h;exact rt ez
 refine ss (rg ?_);simp only [zz];refine cd rfl ?_;simp only [zz];refine gi h (fun c17 h=>?_) fun c17 h=>?_
 ·have e23:=eT c17;refine jm h (fun j19=>⟨ds 4 (e_bool j19::ds 57 []),[]⟩) (fun z26 h25=>?_) fun j19 h25 h=>?_
  ·refine rg ?_;simp only [zz];refine gi h25 (fun c18 h25=>?_) fun c18 h25=>?_
   ·simp only [zz,c18,Int.reduceEq,Int.reduceNeg];cases h25;exact tz []
   simp only [zz,c18];cases h25;exact tz []
  cases h;exact rt ez
 have e24:=eF c17;refine ss (rg ?_);simp only [zz];refine cd rfl ?_;simp only [zz];refine gi h (fun c20 h=>?_) fun c20 h=>?_
 ·have e27:=eT c20;refine ss (rg ?_);simp only [zz];cases h;exact rt ez
 have e28:=eF c20;refine sk ?_;simp only [zz,c20,e28];refine ss (rg ?_);simp only [zz];cases h;exact rt ez
theorem ref10_leaf_ok {t0:GNode}{t1:GSignature}{r:(GType×Bool)}(h:ref10_leaf t0 t1=some r):Den Tryz.prog 196 [e_GNode t0,e_GSignature t1] (.tup [e_GType r.1,e_bool r.2]):=by
 refine dk 89 k196 ?_;simp only [k196,Kf.of,zs,ze];unfold ref10_leaf at h;refine ss (rg ?_);simp only [zz];refine ss (rg ?_);simp only [zz];refine jm h (fun q=>⟨ds 2 (.ref 0 0 0 0::.ref 1 0 0 0::.ref 2 0 0 0::.dead::.ref 3 0 0 0::ds 84 []),[.live 2 0 [e_GNode t0],.live 6 0 [e_GSignature t1],.live 2 0 [.agg [e_i64 0,e_i64 0]],.live 2 0 [.agg [e_i64 q.1,e_i64 q.2]]]⟩) (fun z2 h1=>?_) fun z2 h1 h=>?_
 ·refine ss (rg ?_);simp only [zz];refine bk (ss (rg ?_));simp only [zz];refine cd rfl ?_;simp only [zz];refine gi h1 (fun c1 h1=>?_) fun c1 h1=>?_
  ·have e3:=eT c1;refine rg ?_;simp only [zz,Int.reduceEq,Int.reduceNeg];cases h1;exact tz [ok 0,ok 1,ok 2,ok 3]
  have e4:=eF c1;refine ss (rg ?_);simp only [zz];refine cd rfl ?_;simp only [zz];refine gi h1 (fun c2 h1=>?_) fun c2 h1=>?_
  ·have e5:=eT c2;refine rg ?_;obtain⟨x3,f8,f9,h1⟩:=bI h1;simp only [zz,f8,f9];cases h1;exact tz [ok 0,ok 1,ok 2,ok 3]
  have e6:=eF c2;refine ss (rg ?_);simp only [zz];refine cd rfl ?_;simp only [zz];refine gi h1 (fun c4 h1=>?_) fun c4 h1=>?_
  ·have e10:=eT c4;refine rg ?_;obtain⟨x5,f13,f14,h1⟩:=bI h1;simp only [zz,f13,f14];cases h1;exact tz [ok 0,ok 1,ok 2,ok 3]
  have e11:=eF c4;refine ss (rg ?_);simp only [zz];refine cd rfl ?_;simp only [zz];refine gi h1 (fun c6 h1=>?_) fun c6 h1=>?_
  ·have e15:=eT c6;refine rg ?_;obtain⟨x7,a17,h1⟩:=bs h1;simp only [zz];refine cq (ref10_kind_ok a17) ?_ (by simp only [zg,e4,e6,e11,e15]);simp only [zz];cases h1;exact tz [ok 0,ok 1,ok 2,ok 3]
  have e16:=eF c6;refine ss (rg ?_);simp only [zz];refine cd rfl ?_;simp only [zz];refine gi h1 (fun c8 h1=>?_) fun c8 h1=>?_
  ·have e18:=eT c8;refine rg ?_;obtain⟨x9,a20,h1⟩:=bs h1;simp only [zz];refine cq (ref10_kind_ok a20) ?_ (by simp only [zg,e4,e6,e11,e16,e18]);simp only [zz];cases h1;exact tz [ok 0,ok 1,ok 2,ok 3]
  have e19:=eF c8;refine jm h1 (fun j13=>⟨ds 2 (.ref 0 0 0 0::.ref 1 0 0 0::.ref 2 0 0 0::.dead::.ref 3 0 0 0::ds 35 (e_bool j13::ds 48 [])),[.live 2 0 [e_GNode t0],.live 6 0 [e_GSignature t1],.live 2 0 [.agg [e_i64 0,e_i64 0]],.live 2 0 [.agg [e_i64 0,e_i64 0]]]⟩) (fun z22 h21=>?_) fun j13 h21 h1=>?_
  ·refine ss (rg ?_);simp only [zz];refine cd rfl ?_;simp only [zz];refine gi h21 (fun c10 h21=>?_) fun c10 h21=>?_
   ·have e23:=eT c10;refine sk ?_;simp only [zz,eq_true c10,e23];cases h21;exact tz [ok 0,ok 1,ok 2,ok 3]
   have e24:=eF c10;refine ss (rg ?_);simp only [zz];refine cd rfl ?_;simp only [zz];refine gi h21 (fun c11 h21=>?_) fun c11 h21=>?_
   ·have e25:=eT c11;refine sk ?_;simp only [zz,eq_true c11,e25];cases h21;exact tz [ok 0,ok 1,ok 2,ok 3]
   have e26:=eF c11;refine ss (rg ?_);simp only [zz];refine cd rfl ?_;simp only [zz];refine gi h21 (fun c12 h21=>?_) fun c12 h21=>?_
   ·have e27:=eT c12;refine sk ?_;simp only [zz,eq_true c12,e27];cases h21;exact tz [ok 0,ok 1,ok 2,ok 3]
   have e28:=eF c12;refine rg ?_;simp only [zz];cases h21;exact tz [ok 0,ok 1,ok 2,ok 3]
  refine cd rfl ?_;simp only [zz];refine gi h1 (fun c14 h1=>?_) fun c14 h1=>?_
  ·refine rg ?_;obtain⟨x15,f30,f31,h1⟩:=bI h1;simp only [zz,f30,f31];cases h1;exact tz [ok 0,ok 1,ok 2,ok 3]
  refine rg ?_;obtain⟨x16,a32,h1⟩:=bs h1;simp only [zz];refine cq (ref10_kind_ok a32) ?_ (by simp only [zg,e4,e6,e11,e16,e19,c14]);simp only [zz];cases h1;exact tz [ok 0,ok 1,ok 2,ok 3]
 obtain⟨j17,j18⟩:=z2;dsimp only at h;refine ss (rg ?_);obtain⟨x19,a33,h⟩:=bs h;simp only [zz];refine cq (ref09_ValidType_ok a33) ?_ (by simp only [zg]);simp only [zz];refine jm h (fun j30=>⟨ds 4 (.ref 0 0 0 0::.dead::.ref 1 0 0 0::e_bool j30::ds 83 []),[.live 2 0 [.agg [e_i64 0,e_i64 0]],.live 2 0 [.agg [e_i64 j17,e_i64 j18]]]⟩) (fun z35 h34=>?_) fun j30 h34 h=>?_
 ·refine ss (rg ?_);simp only [zz];refine bk (ss (rg ?_));simp only [zz];refine cd rfl ?_;simp only [zz];refine gi h34 (fun c20 h34=>?_) fun c20 h34=>?_
  ·have e36:=eT c20;refine rg ?_;simp only [zz];refine gi h34 (fun c21 h34=>?_) fun c21 h34=>?_
   ·simp only [zz,c21];refine gi h34 (fun c22 h34=>?_) fun c22 h34=>?_
    ·have e38:=eF c22;simp only [zz,c21,c22,e38];cases h34;exact tz [ok 2,ok 3]
    have e39:=eD c22;simp only [zz,c21,c22,e39];cases h34;exact tz [ok 2,ok 3]
   simp only [zz,c21];cases h34;exact tz [ok 2,ok 3]
  have e37:=eF c20;refine jm h34 (fun j24=>⟨ds 4 (.ref 0 0 0 0::.dead::.ref 1 0 0 0::e_bool x19::ds 50 (e_i64 t0.Op::ds 13 (e_bool j24::ds 18 []))),[.live 2 0 [.agg [e_i64 0,e_i64 0]],.live 2 0 [.agg [e_i64 j17,e_i64 j18]]]⟩) (fun z41 h40=>?_) fun j24 h40 h34=>?_
  ·refine ss (rg ?_);simp only [zz];refine cd rfl ?_;simp only [zz];refine gi h40 (fun c23 h40=>?_) fun c23 h40=>?_
   ·have e42:=eT c23;refine sk ?_;simp only [zz,eq_true c23,e42];cases h40;exact tz [ok 2,ok 3]
   have e43:=eF c23;refine rg ?_;simp only [zz];cases h40;exact tz [ok 2,ok 3]
  refine cd rfl ?_;simp only [zz];refine gi h34 (fun c25 h34=>?_) fun c25 h34=>?_
  ·refine rg ?_;simp only [zz];refine gi h34 (fun c26 h34=>?_) fun c26 h34=>?_
   ·simp only [zz,c26];cases h34;exact tz [ok 0,ok 1]
   simp only [zz,c26];cases h34;exact tz [ok 0,ok 1]
  refine ss (rg ?_);simp only [zz];refine cd rfl ?_;simp only [zz];refine gi h34 (fun c27 h34=>?_) fun c27 h34=>?_
  ·have e44:=eT c27;refine rg ?_;simp only [zz];refine gi h34 (fun c28 h34=>?_) fun c28 h34=>?_
   ·obtain⟨x29,a46,h34⟩:=bs h34;simp only [zz,c28];refine cq (ref10_ordered_ok a46) ?_ (by simp only [zg,e37,c25,e44,c28]);simp only [zz,c28];cases h34;exact tz [ok 0,ok 1]
   simp only [zz,c28];cases h34;exact tz [ok 0,ok 1]
  have e45:=eF c27;refine sk ?_;simp only [zz,c27,e45];cases h34;exact tz [ok 0,ok 1]
 refine ss (rg ?_);simp only [zz];cases h;exact rt ez
theorem ref10_double_ok {t0:Int}{t1:GType}{t2:GType}{r:(GType×Bool)}(h:ref10_double t0 t1 t2=some r):Den Tryz.prog 198 [e_i64 t0,e_GType t1,e_GType t2] (.tup [e_GType r.1,e_bool r.2]):=by
 refine dk 105 k198 ?_;simp only [k198,Kf.of,zs,ze];unfold ref10_double at h;refine ss (rg ?_);simp only [zz];refine ss (ss (rg ?_));simp only [zz];refine bk ?_;refine jm h (fun j2=>⟨e_i64 t0::ds 3 (.ref 0 0 0 0::.ref 1 0 0 0::.ref 2 0 0 0::.dead::e_i64 t0::e_bool j2::ds 98 []),[.live 2 0 [e_GType t1],.live 2 0 [e_GType t2],.live 2 0 [.agg [e_i64 0,e_i64 0]]]⟩) (fun z2 h1=>?_) fun j2 h1 h=>?_
 ·refine ss (rg ?_);simp only [zz];refine cd rfl ?_;simp only [zz];refine gi h1 (fun c1 h1=>?_) fun c1 h1=>?_
  ·have e3:=eT c1;refine sk ?_;simp only [zz,eq_true c1,e3];cases h1;exact tz [ok 0,ok 1,ok 2]
  have e4:=eF c1;refine rg ?_;simp only [zz];cases h1;exact tz [ok 0,ok 1,ok 2]
 refine cd rfl ?_;simp only [zz];refine gi h (fun c3 h=>?_) fun c3 h=>?_
 ·refine jm h (fun j6=>⟨ds 6 (.ref 0 0 0 0::e_bool j6::ds 100 []),[.live 2 0 [e_GType t1]]⟩) (fun z6 h5=>?_) fun j6 h5 h=>?_
  ·refine ay hmix [[],[],[],[],[],[],[],[],[],[]] (by kernel_rfl) ?_;simp only [zz,zy];refine gi h5 (fun c4 h5=>?_) fun c4 h5=>?_
   ·obtain⟨x5,a7,h5⟩:=bs h5;simp only [zz,eq_true c4,zy];refine lq (ref10_number_ok a7) ?_ (by simp only [zg,c3]);simp only [zz,eq_true c4,zy];cases h5;exact tz [ok 2]
   simp only [zz,c4,zy];cases h5;exact tz [ok 2]
  cases h;exact rt ez
 refine jm h (fun j9=>⟨e_i64 t0::ds 3 (.ref 0 0 0 0::.ref 1 0 0 0::.ref 2 0 0 0::.dead::e_i64 t0::ds 12 (e_bool j9::ds 86 [])),[.live 2 0 [e_GType t1],.live 2 0 [e_GType t2],.live 2 0 [.agg [e_i64 0,e_i64 0]]]⟩) (fun z9 h8=>?_) fun j9 h8 h=>?_
 ·refine ss (rg ?_);simp only [zz];refine cd rfl ?_;simp only [zz];refine gi h8 (fun c7 h8=>?_) fun c7 h8=>?_
  ·have e10:=eT c7;refine sk ?_;simp only [zz,eq_true c7,e10];cases h8;exact tz [ok 0,ok 1,ok 2]
  have e11:=eF c7;refine ss (rg ?_);simp only [zz];refine cd rfl ?_;simp only [zz];refine gi h8 (fun c8 h8=>?_) fun c8 h8=>?_
  ·have e12:=eT c8;refine sk ?_;simp only [zz,eq_true c8,e12];cases h8;exact tz [ok 0,ok 1,ok 2]
  have e13:=eF c8;refine rg ?_;simp only [zz];cases h8;exact tz [ok 0,ok 1,ok 2]
 refine cd rfl ?_;simp only [zz];refine gi h (fun c10 h=>?_) fun c10 h=>?_
 ·refine ss (rg ?_);obtain⟨x11,a14,h⟩:=bs h;simp only [zz];refine cq (ref10_scaled_ok a14) ?_ (by simp only [zg,c3,c10]);simp only [zz];cases h;exact rt ez
 refine ss (rg ?_);simp only [zz];refine cd rfl ?_;simp only [zz];refine gi h (fun c12 h=>?_) fun c12 h=>?_
 ·have e15:=eT c12;refine jm h (fun j14=>⟨ds 6 (.ref 0 0 0 0::e_bool j14::ds 100 []),[.live 2 0 [e_GType t1]]⟩) (fun z18 h17=>?_) fun j14 h17 h=>?_
  ·refine ay hmix [[],[],[],[],[],[],[],[],[],[6]] (by kernel_rfl) ?_;simp only [zz,zy];refine gi h17 (fun c13 h17=>?_) fun c13 h17=>?_
   ·have e19:=eT c13;simp only [zz,eq_true c13,e19,zy];cases h17;exact tz [ok 2]
   have e20:=eF c13;simp only [zz,c13,e20,zy];cases h17;exact tz [ok 2]
  cases h;exact rt ez
 have e16:=eF c12;refine jm h (fun j16=>⟨ds 4 (.ref 0 0 0 0::.ref 1 0 0 0::.ref 2 0 0 0::.dead::e_i64 t0::ds 35 (e_bool j16::ds 63 [])),[.live 2 0 [e_GType t1],.live 2 0 [e_GType t2],.live 2 0 [.agg [e_i64 0,e_i64 0]]]⟩) (fun z22 h21=>?_) fun j16 h21 h=>?_
 ·refine ss (rg ?_);simp only [zz];refine cd rfl ?_;simp only [zz];refine gi h21 (fun c15 h21=>?_) fun c15 h21=>?_
  ·have e23:=eT c15;refine sk ?_;simp only [zz,eq_true c15,e23];cases h21;exact tz [ok 0,ok 1,ok 2]
  have e24:=eF c15;refine rg ?_;simp only [zz];cases h21;exact tz [ok 0,ok 1,ok 2]
 refine cd rfl ?_;simp only [zz];refine gi h (fun c17 h=>?_) fun c17 h=>?_
 ·refine jm h (fun j20=>⟨ds 6 (.ref 0 0 0 0::e_bool j20::ds 100 []),[.live 2 0 [e_GType t1]]⟩) (fun z26 h25=>?_) fun j20 h25 h=>?_
  ·refine ay hmix [[],[],[],[],[],[],[],[],[],[]] (by kernel_rfl) ?_;simp only [zz,zy];refine gi h25 (fun c18 h25=>?_) fun c18 h25=>?_
   ·obtain⟨x19,a27,h25⟩:=bs h25;simp only [zz,eq_true c18,zy];refine lq (ref10_ordered_ok a27) ?_ (by simp only [zg,c3,c10,e16,c17]);simp only [zz,eq_true c18,zy];cases h25;exact tz [ok 2]
   simp only [zz,c18,zy];cases h25;exact tz [ok 2]
  cases h;exact rt ez
 refine jm h (fun j22=>⟨ds 4 (.ref 0 0 0 0::.ref 1 0 0 0::.ref 2 0 0 0::.dead::e_i64 t0::ds 47 (e_bool j22::ds 51 [])),[.live 2 0 [e_GType t1],.live 2 0 [e_GType t2],.live 2 0 [.agg [e_i64 0,e_i64 0]]]⟩) (fun z29 h28=>?_) fun j22 h28 h=>?_
 ·refine ss (rg ?_);simp only [zz];refine cd rfl ?_;simp only [zz];refine gi h28 (fun c21 h28=>?_) fun c21 h28=>?_
  ·have e30:=eT c21;refine sk ?_;simp only [zz,eq_true c21,e30];cases h28;exact tz [ok 0,ok 1,ok 2]
  have e31:=eF c21;refine rg ?_;simp only [zz];cases h28;exact tz [ok 0,ok 1,ok 2]
 refine cd rfl ?_;simp only [zz];refine gi h (fun c23 h=>?_) fun c23 h=>?_
 ·refine ss (ay hmix [[],[],[],[],[1,2]] (by kernel_rfl) ?_);obtain⟨x24,a32,h⟩:=bs h;simp only [zz,zy];refine lq (ref10_kind_ok a32) ?_ (by simp only [zg,c3,c10,e16,c17,c23]);simp only [zz,zy];cases h;exact rt ez
 refine jm h (fun j26=>⟨ds 4 (.ref 0 0 0 0::.ref 1 0 0 0::.ref 2 0 0 0::.dead::e_i64 t0::ds 54 (e_bool j26::ds 44 [])),[.live 2 0 [e_GType t1],.live 2 0 [e_GType t2],.live 2 0 [.agg [e_i64 0,e_i64 0]]]⟩) (fun z34 h33=>?_) fun j26 h33 h=>?_
 ·refine ss (rg ?_);simp only [zz];refine cd rfl ?_;simp only [zz];refine gi h33 (fun c25 h33=>?_) fun c25 h33=>?_
  ·have e35:=eT c25;refine sk ?_;simp only [zz,eq_true c25,e35];cases h33;exact tz [ok 0,ok 1,ok 2]
  have e36:=eF c25;refine rg ?_;simp only [zz];cases h33;exact tz [ok 0,ok 1,ok 2]
 refine cd rfl ?_;simp only [zz];refine gi h (fun c27 h=>?_) fun c27 h=>?_
 ·refine jm h (fun q=>⟨ds 6 (.ref 0 0 0 0::e_bool q.2.2::ds 100 []),[.live 2 0 [.agg [e_i64 q.1,e_i64 q.2.1]]]⟩) (fun z38 h37=>?_) fun z38 h37 h=>?_
  ·refine ay hmix [[],[],[],[],[],[],[],[],[],[]] (by kernel_rfl) ?_;obtain⟨x28,a39,h37⟩:=bs h37;simp only [zz,zy];refine lq (ref10_kind_ok a39) ?_ (by simp only [zg,c3,c10,e16,c17,c23,c27]);simp only [zz,zy];refine gi h37 (fun c29 h37=>?_) fun c29 h37=>?_
   ·obtain⟨x30,a40,h37⟩:=bs h37;simp only [zz,eq_true c29,zy];refine lq (ref10_ordered_ok a40) ?_ (by simp only [zg,c3,c10,e16,c17,c23,c27]);simp only [zz,eq_true c29,zy];cases h37;exact tz [ok 2]
   simp only [zz,c29,zy];cases h37;exact tz [ok 2]
  obtain⟨j31,j32,j33⟩:=z38;dsimp only at h;cases h;exact rt ez
 refine jm h (fun j35=>⟨ds 4 (.ref 0 0 0 0::.ref 1 0 0 0::.ref 2 0 0 0::.dead::e_i64 t0::ds 66 (e_bool j35::ds 32 [])),[.live 2 0 [e_GType t1],.live 2 0 [e_GType t2],.live 2 0 [.agg [e_i64 0,e_i64 0]]]⟩) (fun z42 h41=>?_) fun j35 h41 h=>?_
 ·refine ss (rg ?_);simp only [zz];refine cd rfl ?_;simp only [zz];refine gi h41 (fun c34 h41=>?_) fun c34 h41=>?_
  ·have e43:=eT c34;refine sk ?_;simp only [zz,eq_true c34,e43];cases h41;exact tz [ok 0,ok 1,ok 2]
  have e44:=eF c34;refine rg ?_;simp only [zz];cases h41;exact tz [ok 0,ok 1,ok 2]
 refine cd rfl ?_;simp only [zz];refine gi h (fun c36 h=>?_) fun c36 h=>?_
 ·refine jm h (fun j38=>⟨ds 6 (.ref 0 0 0 0::e_bool j38::ds 100 []),[.live 2 0 [e_GType t1]]⟩) (fun z46 h45=>?_) fun j38 h45 h=>?_
  ·refine ay hmix [[],[],[],[],[],[],[],[],[],[6]] (by kernel_rfl) ?_;simp only [zz,zy];refine gi h45 (fun c37 h45=>?_) fun c37 h45=>?_
   ·have e47:=eT c37;simp only [zz,eq_true c37,e47,zy];cases h45;exact tz [ok 2]
   have e48:=eF c37;simp only [zz,c37,e48,zy];cases h45;exact tz [ok 2]
  cases h;exact rt ez
 refine jm h (fun j40=>⟨ds 4 (.ref 0 0 0 0::.ref 1 0 0 0::.ref 2 0 0 0::ds 80 (e_bool j40::ds 20 [])),[.live 2 0 [e_GType t1],.live 2 0 [e_GType t2],.live 2 0 [.agg [e_i64 0,e_i64 0]]]⟩) (fun z50 h49=>?_) fun j40 h49 h=>?_
 ·refine ss (rg ?_);simp only [zz];refine cd rfl ?_;simp only [zz];refine gi h49 (fun c39 h49=>?_) fun c39 h49=>?_
  ·have e51:=eT c39;refine sk ?_;simp only [zz,eq_true c39,e51];cases h49;exact tz [ok 0,ok 1,ok 2]
  have e52:=eF c39;refine rg ?_;simp only [zz];cases h49;exact tz [ok 0,ok 1,ok 2]
 refine cd rfl ?_;simp only [zz];refine gi h (fun c41 h=>?_) fun c41 h=>?_
 ·refine jm h (fun j43=>⟨ds 6 (.ref 0 0 0 0::e_bool j43::ds 100 []),[.live 2 0 [e_GType t1]]⟩) (fun z54 h53=>?_) fun j43 h53 h=>?_
  ·refine ay hmix [[],[],[],[],[],[],[],[],[],[6]] (by kernel_rfl) ?_;simp only [zz,zy];refine gi h53 (fun c42 h53=>?_) fun c42 h53=>?_
   ·have e55:=eT c42;simp only [zz,eq_true c42,e55,zy];cases h53;exact tz [ok 2]
   have e56:=eF c42;simp only [zz,c42,e56,zy];cases h53;exact tz [ok 2]
  cases h;exact rt ez
 refine sk ?_;simp only [zz,c41];refine jm h (fun q=>⟨ds 6 (.ref 0 0 0 0::e_bool q.2.2::ds 100 []),[.live 2 0 [.agg [e_i64 q.1,e_i64 q.2.1]]]⟩) (fun z58 h57=>?_) fun z58 h57 h=>?_
 ·refine ay hmix [[],[],[],[],[],[],[],[],[],[6]] (by kernel_rfl) ?_;obtain⟨x44,a59,h57⟩:=bs h57;simp only [zz,zy];refine lq (ref10_kind_ok a59) ?_ (by simp only [zg,c3,c10,e16,c17,c23,c27,c36,c41]);simp only [zz,zy];refine gi h57 (fun c45 h57=>?_) fun c45 h57=>?_
  ·have e60:=eT c45;simp only [zz,eq_true c45,e60,zy];cases h57;exact tz [ok 2]
  have e61:=eF c45;simp only [zz,c45,e61,zy];cases h57;exact tz [ok 2]
 obtain⟨j46,j47,j48⟩:=z58;dsimp only at h;cases h;exact rt ez
theorem daterange_Intersect_ok {t0:GDateRange}{t1:GDateRange}{r:(GDateRange×Bool)}(h:daterange_Intersect t0 t1=some r):Den Tryz.prog 208 [e_GDateRange t0,e_GDateRange t1] (.tup [e_GDateRange r.1,e_bool r.2]):=by
 refine dk 32 k208 ?_;simp only [k208,Kf.of,zs,ze];unfold daterange_Intersect at h;refine ss (rg ?_);simp only [zz];refine ss ?_;refine jm h (fun j4=>⟨ds 2 (.ref 0 0 0 0::.ref 1 0 0 0::.ref 2 0 0 0::ds 9 (e_bool j4::ds 19 [])),[.live 2 0 [e_GDateRange t0],.live 2 0 [e_GDateRange t1],.live 2 0 [.agg [e_i64 0,e_i64 0]]]⟩) (fun z2 h1=>?_) fun j4 h1 h=>?_
 ·refine rg ?_;obtain⟨x1,a3,h1⟩:=bs h1;simp only [zz];refine cq (daterange_hasDate_ok a3) ?_ (by simp only [zg]);simp only [zz];refine gi h1 (fun c2 h1=>?_) fun c2 h1=>?_
  ·obtain⟨x3,a4,h1⟩:=bs h1;simp only [zz,c2];refine cq (daterange_hasDate_ok a4) ?_ (by simp only [zg,c2]);simp only [zz,c2];cases h1;exact tz [ok 0,ok 1,ok 2]
  simp only [zz,c2];cases h1;exact tz [ok 0,ok 1,ok 2]
 refine cd rfl ?_;simp only [zz];refine gi h (fun c5 h=>?_) fun c5 h=>?_
 ·refine ss (rg ?_);simp only [zz];cases h;exact rt ez
 refine sk ?_;simp only [zz,c5];refine ss (rg ?_);simp only [zz];refine ss (ss (rg ?_));simp only [zz];refine cd rfl ?_;simp only [zz];refine gi h (fun c6 h=>?_) fun c6 h=>?_
 ·refine ss (rg ?_);simp only [zz];cases h;exact rt ez
 refine sk ?_;simp only [zz,c6];refine ss (rg ?_);simp only [zz];cases h;exact rt ez
theorem ref09_In_ok {t0:Int}{t1:GType}{t2:List GEnum}{r:Bool}(h:ref09_In t0 t1 t2=some r):Den Tryz.prog 231 [e_i64 t0,e_GType t1,e_s_GEnum t2] (e_bool r):=by
 refine dk 20 k231 ?_;simp only [k231,Kf.of,zs,ze];unfold ref09_In at h;refine ss (rg ?_);simp only [zz];refine ss (rg ?_);obtain⟨x1,a1,h⟩:=bs h;simp only [zz];refine cq (ref09_Bounds_ok a1) ?_ (by simp only [zg]);simp only [zz];refine jm h (fun j3=>⟨ds 6 (e_bool j3::ds 16 []),[]⟩) (fun z3 h2=>?_) fun j3 h2 h=>?_
 ·refine rg ?_;simp only [zz];refine gi h2 (fun c2 h2=>?_) fun c2 h2=>?_
  ·simp only [zz,c2];cases h2;exact tz []
  simp only [zz,c2];cases h2;exact tz []
 cases h;exact rt ez
theorem expr_References_ok {t0:List GNode}{r:((List Int)×(List Int)×(List Int))}(h:expr_References t0=some r):Den Tryz.prog 287 [e_s_GNode t0] (.tup [e_s_i64 r.1,e_s_i64 r.2.1,e_s_i64 r.2.2]):=by
 refine dk 48 k287 ?_;simp only [k287,Kf.of,zs,ze];unfold expr_References at h;refine ss (rg ?_);simp only [zz];refine ss (rg ?_);simp only [zz];refine ss (ss (rg ?_));simp only [zz];obtain⟨y1,h2,h⟩:=bs h;refine lm h2 (fun q=>⟨ds 5 (.own 0 0::.own 1 0::.own 2 0::ds 2 (e_s_GNode t0::e_i64 (t0.length:Int)::e_i64 q.2.2.2::ds 36 [])),[.live 1 0 (q.1.map e_i64),.live 1 0 (q.2.1.map e_i64),.live 1 0 (q.2.2.1.map e_i64)]⟩) (fun q=>⟨ds 5 (.own 0 0::.own 1 0::.own 2 0::ds 41 []),[.live 1 0 (q.1.map e_i64),.live 1 0 (q.2.1.map e_i64),.live 1 0 (q.2.2.map e_i64)]⟩) (tz [on 1,on 1,on 1]) ?_ ?_
 ·rintro ⟨s1,s2,s3,s4⟩ z3 h4 h5;simp only [expr_References_L1]at h4;refine ss (rg ?_);simp only [zz];refine ss (cd rfl ?_);simp only [zz];refine gi h4 (fun c5 h4=>?_) fun c5 h4=>?_
  ·refine sk ?_;simp only [zz,c5];refine jm h4 (fun q=>⟨ds 5 (.own 0 0::.own 1 0::.own 2 0::ds 2 (e_s_GNode t0::e_i64 (t0.length:Int)::e_i64 s4::ds 36 [])),[.live 1 0 (q.1.map e_i64),.live 1 0 (q.2.1.map e_i64),.live 1 0 (q.2.2.map e_i64)]⟩) (fun z7 h6=>?_) fun z7 h6 h4=>?_
   ·refine bk (ss (rg ?_));obtain⟨x6,f9,f10,h6⟩:=bI h6;simp only [zz,f9,f10];refine ss (rg ?_);simp only [zz];refine bk (ss (rg ?_));simp only [zz];refine cd rfl ?_;simp only [zz];refine gi h6 (fun c7 h6=>?_) fun c7 h6=>?_
    ·have e11:=eT c7;refine rg ?_;obtain⟨x8,a13,h6⟩:=bs h6;obtain⟨f14,f15⟩:=app_f (e:=e_i64) a13;(try simp only [zz]at f14 f15);simp only [zz,f14,f15];cases h6;exact tz [ov 0 1,ok 1,ok 2]
    have e12:=eF c7;refine ss (rg ?_);simp only [zz];refine cd rfl ?_;simp only [zz];refine gi h6 (fun c9 h6=>?_) fun c9 h6=>?_
    ·have e16:=eT c9;refine rg ?_;obtain⟨x10,a18,h6⟩:=bs h6;obtain⟨f19,f20⟩:=app_f (e:=e_i64) a18;(try simp only [zz]at f19 f20);simp only [zz,f19,f20];cases h6;exact tz [ok 0,ov 1 1,ok 2]
    have e17:=eF c9;refine jm h6 (fun j14=>⟨ds 5 (.own 0 0::.own 1 0::.own 2 0::.dead::.ref 3 0 0 0::e_s_GNode t0::e_i64 (t0.length:Int)::e_i64 s4::ds 19 (e_bool j14::ds 16 [])),[.live 1 0 (s1.map e_i64),.live 1 0 (s2.map e_i64),.live 1 0 (s3.map e_i64),.live 2 0 [e_GNode x6]]⟩) (fun z22 h21=>?_) fun j14 h21 h6=>?_
    ·refine ss (rg ?_);simp only [zz];refine cd rfl ?_;simp only [zz];refine gi h21 (fun c11 h21=>?_) fun c11 h21=>?_
     ·have e23:=eT c11;refine sk ?_;simp only [zz,eq_true c11,e23];cases h21;exact tz [ok 0,ok 1,ok 2,ok 3]
     have e24:=eF c11;refine ss (rg ?_);simp only [zz];refine cd rfl ?_;simp only [zz];refine gi h21 (fun c12 h21=>?_) fun c12 h21=>?_
     ·have e25:=eT c12;refine sk ?_;simp only [zz,eq_true c12,e25];cases h21;exact tz [ok 0,ok 1,ok 2,ok 3]
     have e26:=eF c12;refine ss (rg ?_);simp only [zz];refine cd rfl ?_;simp only [zz];refine gi h21 (fun c13 h21=>?_) fun c13 h21=>?_
     ·have e27:=eT c13;refine sk ?_;simp only [zz,eq_true c13,e27];cases h21;exact tz [ok 0,ok 1,ok 2,ok 3]
     have e28:=eF c13;refine rg ?_;simp only [zz];cases h21;exact tz [ok 0,ok 1,ok 2,ok 3]
    refine cd rfl ?_;simp only [zz];refine gi h6 (fun c15 h6=>?_) fun c15 h6=>?_
    ·refine rg ?_;obtain⟨x16,a29,h6⟩:=bs h6;obtain⟨f30,f31⟩:=app_f (e:=e_i64) a29;(try simp only [zz]at f30 f31);simp only [zz,f30,f31];cases h6;exact tz [ok 0,ok 1,ov 2 1]
    refine sk ?_;simp only [zz,c15];cases h6;exact tz [ok 0,ok 1,ok 2]
   obtain⟨j17,j18,j19⟩:=z7;dsimp only at h4;refine rg ?_;simp only [zz];cases h4;exact tz [ok 0,ok 1,ok 2]
  refine xt ?_;simp only [zz,c5];cases h4;exact tz [ok 0,ok 1,ok 2]
 rintro ⟨b24,b25,b26⟩ rfl;dsimp only at h;simp only [zz];refine ss (rg ?_);obtain⟨x27,a32,h⟩:=bs h;simp only [zz];refine callX_C (expr_distinct_c a32) rfl rfl ?_;obtain⟨x28,a33,h⟩:=bs h;simp only [zz];refine callX_C (expr_distinct_c a33) rfl rfl ?_;obtain⟨x29,a34,h⟩:=bs h;simp only [zz];refine callX_C (expr_distinct_c a34) rfl rfl ?_;simp only [zz];cases h;exact rt ez
theorem ref24_guards_ok {t0:GScope}{t1:Int}{t2:Int}{r:(List (List GNode))}(h:ref24_guards t0 t1 t2=some r):Den Tryz.prog 34 [e_GScope t0,e_i64 t1,e_i64 t2] (e_s_s_GNode r):=by
 refine dk 41 k34 ?_;simp only [k34,Kf.of,zs,ze];unfold ref24_guards at h;refine ss (rg ?_);simp only [zz];refine ss (rg ?_);simp only [zz];refine ss (rg ?_);obtain⟨x1,a1,h⟩:=bs h;simp only [zz];refine cq (ref15_RulesOn_ok a1) ?_ (by simp only [zg]);simp only [zz];refine ss (ss (rg ?_));simp only [zz];obtain⟨y2,h3,h⟩:=bs h;refine lm h3 (fun q=>⟨ds 3 (.ref 0 0 0 0::ds 3 (.own 1 0::e_s_i64 x1::e_i64 q.2::ds 34 [])),[.live 5 0 [e_GScope t0],.live 1 0 (q.1.map e_s_GNode)]⟩) (fun b12=>⟨ds 7 (.own 0 0::ds 36 []),[.live 1 0 (b12.map e_s_GNode)]⟩) (tz [ok 0,on 1]) ?_ ?_
 ·rintro ⟨s2,s3⟩ z4 h5 h6;simp only [ref24_guards_L1]at h5;refine ss (ss (rg ?_));simp only [zz];refine cd rfl ?_;simp only [zz];refine gi h5 (fun c4 h5=>?_) fun c4 h5=>?_
  ·refine sk ?_;simp only [zz,c4];refine jm h5 (fun j9=>⟨ds 3 (.ref 0 0 0 0::ds 3 (.own 1 0::e_s_i64 x1::e_i64 s3::ds 34 [])),[.live 5 0 [e_GScope t0],.live 1 0 (j9.map e_s_GNode)]⟩) (fun z8 h7=>?_) fun j9 h7 h5=>?_
   ·refine bk (ss (dy hmix ?_));obtain⟨x5,f10,f11,h7⟩:=bI h7;obtain⟨x6,f13,f14,h7⟩:=bI h7;simp only [zz,f10,f11,f13,f14,zy];refine cd rfl ?_;simp only [zz,f10,f11,f13,f14];refine gi h7 (fun c7 h7=>?_) fun c7 h7=>?_
    ·refine dy hmix ?_;obtain⟨x8,a15,h7⟩:=bs h7;obtain⟨f16,f17⟩:=app_f (e:=e_s_GNode) a15;(try simp only [zz]at f16 f17);simp only [zz,f10,f11,f13,f14,f16,f17,zy];cases h7;exact tz [ok 0,ov 1 1]
    refine sk ?_;simp only [zz,f10,f11,f13,f14,c7];cases h7;exact tz [ok 0,ok 1]
   refine rg ?_;simp only [zz];cases h5;exact tz [ok 0,ok 1]
  refine xt ?_;simp only [zz,c4];cases h5;exact tz [ok 1]
 rintro b12 rfl;dsimp only at h;simp only [zz];refine ss (rg ?_);simp only [zz];cases h;exact rt ez
theorem effective_RulesOn_ok {t0:GScope}{t1:Int}{t2:Int}{r:List Int}(h:effective_RulesOn t0 t1 t2=some r):Den Tryz.prog 68 [e_GScope t0,e_i64 t1,e_i64 t2] (e_s_i64 r):=by
 refine dk 14 k68 ?_;simp only [k68,Kf.of,zs,ze];unfold effective_RulesOn at h;refine ss (rg ?_);simp only [zz];refine ss (T.tells (S:=⟨e_GScope t0::e_i64 t1::e_i64 t2::.ref 0 0 0 0::.pt (e_i64 t1)::.pt (e_i64 t2)::.v (.slice none 0 0)::ds 10 [],[.live 5 0 [e_GScope t0]]⟩) (Tells.q [(some 0,0,0)] rfl (by decide) (by simp only [zq,ze])) ?_);refine rg ?_;obtain⟨x1,a1,h⟩:=bs h;simp only [zz];refine cq (effective_remaining_ok (q1:=[e_p_i64 t1,e_p_i64 t2]) (frC (frC frN)) (fun x900 _ hb=>effective_RulesOn_c1_ok hb) a1) ?_ (by simp only [zg]);simp only [zz];refine ss (rg ?_);simp only [zz];cases h;exact rt ez
theorem ref17_enumError_ok {t0:GLaw}{t1:Int}{r:GLawError}(h:ref17_enumError t0 t1=some r):Den Tryz.prog 82 [e_GLaw t0,e_i64 t1] (e_GLawError r):=by
 refine dk 78 k82 ?_;simp only [k82,Kf.of,zs,ze];unfold ref17_enumError at h;refine ss (rg ?_);(try simp only [zz]);refine ss (rg ?_);obtain⟨x1,f2,f3,h⟩:=bI h;(try simp only [zz,f2,f3]);refine ss (rg ?_);(try simp only [zz]);refine ss (ss (rg ?_));obtain⟨x2,a4,h⟩:=bs h;simp only [zz];refine cq (ref08_IsIdentifier_ok a4) ?_ (by simp only [zg]);(try simp only [zz]);refine cd rfl ?_;(try simp only [zz]);refine gi h (fun c3 h=>?_) fun c3 h=>?_
 ·refine ss (rg ?_);(try simp only [zz]);refine ss (rg ?_);(try simp only [zz]);cases h;exact rt ez
 refine sk ?_;(try simp only [zz,c3]);refine ss (ss (rg ?_));obtain⟨x4,a5,h⟩:=bs h;simp only [zz];refine cq (ref17_nameTaken_ok a5) ?_ (by simp only [zg,c3]);(try simp only [zz]);refine cd rfl ?_;(try simp only [zz]);refine gi h (fun c5 h=>?_) fun c5 h=>?_
 ·refine ss (rg ?_);(try simp only [zz]);refine ss (rg ?_);(try simp only [zz]);cases h;exact rt ez
 refine sk ?_;(try simp only [zz,c5]);refine ss (ss (rg ?_));(try simp only [zz]);refine cd rfl ?_;(try simp only [zz]);refine gi h (fun c6 h=>?_) fun c6 h=>?_
 ·have e6:=eT c6;refine ss (rg ?_);(try simp only [zz]);refine ss (rg ?_);(try simp only [zz]);cases h;exact rt ez
 have e7:=eF c6;refine sk ?_;(try simp only [zz,c6,e7]);refine ss (ss (rg ?_));(try simp only [zz]);refine cd rfl ?_;(try simp only [zz]);refine gi h (fun c7 h=>?_) fun c7 h=>?_
 ·refine ss (rg ?_);(try simp only [zz]);refine ss (rg ?_);(try simp only [zz]);refine ss (rg ?_);(try simp only [zz]);cases h;exact rt ez
 refine sk ?_;(try simp only [zz,c7]);refine ss (ss (rg ?_));(try simp only [zz]);obtain⟨y8,h9,h⟩:=bs h;refine lm h9 (fun q=>⟨ds 4 (.ref 0 0 0 0::.ref 1 0 0 0::.ref 2 0 0 0::e_i64 q.2::ds 72 []),[.live 4 0 [.agg [e_i64 0,e_i64 0,e_i64 0,e_i64 0]],.live 2 0 [e_GEnum x1],.live 4 0 [.agg [e_i64 0,e_i64 1,e_i64 t1,e_i64 q.1]]]⟩) (fun q=>⟨ds 4 (.ref 0 0 0 0::ds 75 []),[.live 4 0 [.agg [e_i64 0,e_i64 0,e_i64 0,e_i64 0]]]⟩) (tz [ok 1,ok 2,ok 3]) ?_ ?_
 ·rintro ⟨s8,s9⟩ z10 h11 h12;simp only [ref17_enumError_L9]at h11;refine ss (ss (rg ?_));(try simp only [zz]);refine cd rfl ?_;(try simp only [zz]);refine gi h11 (fun c10 h11=>?_) fun c10 h11=>?_
  ·refine sk ?_;(try simp only [zz,c10]);refine ss (bk (ss (rg ?_)));(try simp only [zz]);refine ss (ss (rg ?_));obtain⟨x11,f14,f15,h11⟩:=bI h11;obtain⟨x12,a16,h11⟩:=bs h11;simp only [zz,f14,f15];refine cq (ref08_IsIdentifier_ok a16) ?_ (by simp only [zg,c3,c5,e7]);(try simp only [zz,f14,f15]);refine cd rfl ?_;(try simp only [zz,f14,f15]);refine gi h11 (fun c13 h11=>?_) fun c13 h11=>?_
   ·refine ss (rg ?_);(try simp only [zz]);refine ss (rg ?_);(try simp only [zz]);cases h11;cases h12 _ rfl;cases h;exact rt ez
   refine sk ?_;(try simp only [zz,f14,f15,c13]);refine ss (rg ?_);(try simp only [zz]);obtain⟨y17,h18,h11⟩:=bs h11;refine lm h18 (fun s14=>⟨ds 4 (.ref 0 0 0 0::.ref 1 0 0 0::.ref 2 0 0 0::e_i64 s9::e_i64 s14::ds 71 []),[.live 4 0 [.agg [e_i64 0,e_i64 0,e_i64 0,e_i64 0]],.live 2 0 [e_GEnum x1],.live 4 0 [.agg [e_i64 0,e_i64 1,e_i64 t1,e_i64 (wrapF .i64 (100+s9))]]]⟩) (fun q=>⟨ds 4 (.ref 0 0 0 0::.ref 1 0 0 0::.ref 2 0 0 0::e_i64 s9::ds 72 []),[.live 4 0 [.agg [e_i64 0,e_i64 0,e_i64 0,e_i64 0]],.live 2 0 [e_GEnum x1],.live 4 0 [.agg [e_i64 0,e_i64 1,e_i64 t1,e_i64 (wrapF .i64 (100+s9))]]]⟩) (tz [ok 0,ok 1,ok 2]) ?_ ?_
   ·rintro s14 z19 h20 h21;simp only [ref17_enumError_L8]at h20;refine ss (ss (rg ?_));(try simp only [zz]);refine cd rfl ?_;(try simp only [zz]);refine gi h20 (fun c15 h20=>?_) fun c15 h20=>?_
    ·refine sk ?_;(try simp only [zz,c15]);refine ss (bk (ss (dy hmix ?_)));obtain⟨x16,f23,f24,h20⟩:=bI h20;(try simp only [zz,f23,f24,f14,f15,zy]);refine cd rfl ?_;(try simp only [zz,f23,f24,f14,f15]);refine gi h20 (fun c17 h20=>?_) fun c17 h20=>?_
     ·refine ss (rg ?_);(try simp only [zz]);refine ss (rg ?_);(try simp only [zz]);cases h20;cases h21 _ rfl;cases h11;cases h12 _ rfl;cases h;exact rt ez
     refine sk ?_;(try simp only [zz,f23,f24,f14,f15,c17]);refine rg ?_;(try simp only [zz]);cases h20;exact tz [ok 0,ok 1,ok 2]
    refine xt ?_;(try simp only [zz,c15]);cases h20;exact tz [ok 0,ok 1,ok 2]
   rintro ⟨⟩ rfl;dsimp only at h11;(try simp only [zz]);refine rg ?_;(try simp only [zz]);cases h11;exact tz [ok 0,ok 1,ok 2]
  refine xt ?_;(try simp only [zz,c10]);cases h11;exact tz [ok 0]
 rintro ⟨⟩ rfl;dsimp only at h;(try simp only [zz]);refine ss (rg ?_);(try simp only [zz]);cases h;exact rt ez
theorem ref23_simple_ok {t0:List GNode}{t1:Int}{r:(GNode×GNode×Bool)}(h:ref23_simple t0 t1=some r):Den Tryz.prog 88 [e_s_GNode t0,e_i64 t1] (.tup [e_GNode r.1,e_GNode r.2.1,e_bool r.2.2]):=by
 refine dk 59 k88 ?_;simp only [k88,Kf.of,zs,ze];unfold ref23_simple at h;refine ss (rg ?_);simp only [zz];refine ss (rg ?_);obtain⟨x1,a1,h⟩:=bs h;simp only [zz];refine cq (ref10_Operands_ok a1) ?_ (by simp only [zg]);simp only [zz];refine ss ?_;refine jm h (fun j5=>⟨e_s_GNode t0::ds 3 (.ref 0 0 0 0::.ref 1 0 0 0::.dead::e_s_i64 x1::ds 16 (e_bool j5::ds 36 [])),[.live 2 0 [.agg [e_i64 0,e_i64 0]],.live 2 0 [.agg [e_i64 0,e_i64 0]]]⟩) (fun z3 h2=>?_) fun j5 h2 h=>?_
 ·refine rg ?_;obtain⟨x2,f5,f6,h2⟩:=bI h2;obtain⟨x3,a7,h2⟩:=bs h2;simp only [zz,f5,f6];refine cq (ref23_comparison_ok a7) ?_ (by simp only [zg]);simp only [zz,f5,f6];refine gi h2 (fun c4 h2=>?_) fun c4 h2=>?_
  ·simp only [zz,f5,f6,c4];cases h2;exact tz [ok 0,ok 1]
  simp only [zz,f5,f6,c4];cases h2;exact tz [ok 0,ok 1]
 refine cd rfl ?_;simp only [zz];refine gi h (fun c6 h=>?_) fun c6 h=>?_
 ·refine ss (rg ?_);simp only [zz];cases h;exact rt ez
 refine sk ?_;simp only [zz,c6];refine ss (T.tells (S:=⟨e_s_GNode t0::ds 3 (.ref 0 0 0 0::.ref 1 0 0 0::.dead::e_s_i64 x1::ds 16 (e_bool false::ds 36 [])),[.live 2 0 [.agg [e_i64 0,e_i64 0]],.live 2 0 [.agg [e_i64 0,e_i64 0]],.live 2 0 [],.live 2 0 []]⟩) (Tells.q [(some 0,0,0),(some 1,0,0),(none,2,0),(none,2,0)] rfl (by decide) (by simp only [zq,ze])) ?_);refine ao hmix [[],[],[],[],[],[],[],[],[],[],[],[],[2,3,4,5,8,9,10,11],[2,3,4,5,8,9,10,11,12],[8,9,10,11]] [none,none,none,none,none,none,none,none,none,none,none,none,some 2,some 3,none] (by kernel_rfl) rfl ?_;obtain⟨x7,f9,f10,h⟩:=bI h;obtain⟨x8,f12,f13,h⟩:=bI h;obtain⟨x9,f15,f16,h⟩:=bI h;obtain⟨x10,f18,f19,h⟩:=bI h;simp only [zz,f9,f10,f12,f13,f15,f16,f18,f19,zy,zo];refine ss ?_;refine jm h (fun j13=>⟨ds 4 (.ref 0 0 0 0::.ref 1 0 0 0::ds 2 (.ref 2 0 0 0::.ref 3 0 0 0::ds 36 (e_bool j13::ds 14 []))),[.live 2 0 [.agg [e_i64 0,e_i64 0]],.live 2 0 [.agg [e_i64 0,e_i64 0]],.live 2 0 [e_GNode x8],.live 2 0 [e_GNode x10]]⟩) (fun z21 h20=>?_) fun j13 h20 h=>?_
 ·refine rg ?_;simp only [zz];refine gi h20 (fun c11 h20=>?_) fun c11 h20=>?_
  ·have e22:=eT c11;obtain⟨x12,a24,h20⟩:=bs h20;simp only [zz,eq_true c11,e22];refine cq (ref23_literal_ok a24) ?_ (by simp only [zg,c6,e22]);simp only [zz,eq_true c11,e22];cases h20;exact tz [ok 0,ok 1,ov 2 1,ov 3 1]
  have e23:=eF c11;simp only [zz,c11,e23];cases h20;exact tz [ok 0,ok 1,ov 2 1,ov 3 1]
 refine cd rfl ?_;simp only [zz];refine gi h (fun c14 h=>?_) fun c14 h=>?_
 ·refine ss (ay hmix [[],[],[1]] (by kernel_rfl) ?_);simp only [zz,zy];cases h;exact rt ez
 refine sk ?_;simp only [zz,c14];refine ss ?_;refine jm h (fun j17=>⟨ds 4 (.ref 0 0 0 0::.ref 1 0 0 0::ds 2 (.ref 2 0 0 0::.ref 3 0 0 0::ds 46 (e_bool j17::ds 4 []))),[.live 2 0 [.agg [e_i64 0,e_i64 0]],.live 2 0 [.agg [e_i64 0,e_i64 0]],.live 2 0 [e_GNode x8],.live 2 0 [e_GNode x10]]⟩) (fun z26 h25=>?_) fun j17 h25 h=>?_
 ·refine rg ?_;simp only [zz];refine gi h25 (fun c15 h25=>?_) fun c15 h25=>?_
  ·have e27:=eT c15;obtain⟨x16,a29,h25⟩:=bs h25;simp only [zz,eq_true c15,e27];refine cq (ref23_literal_ok a29) ?_ (by simp only [zg,c6,c14,e27]);simp only [zz,eq_true c15,e27];cases h25;exact tz [ok 0,ok 1,ok 2,ok 3]
  have e28:=eF c15;simp only [zz,c15,e28];cases h25;exact tz [ok 0,ok 1,ok 2,ok 3]
 refine cd rfl ?_;simp only [zz];refine gi h (fun c18 h=>?_) fun c18 h=>?_
 ·refine ss (ay hmix [[],[],[1]] (by kernel_rfl) ?_);simp only [zz,zy];cases h;exact rt ez
 refine sk ?_;simp only [zz,c18];refine ss (rg ?_);simp only [zz];cases h;exact rt ez
end Go.Proofs.Dev
