/-
  Contracts of the functions: each answers as its plain partial function says.
-/
import Derived.Test.YtfanhhhgcabpnaaGreatDoorK
import Derived.Test.YtfanhhhgcabpnaaGreatDoorPD
import Derived.Test.YtfanhhhgcabpnaaGreatDoorQ2
set_option linter.all false
set_option maxHeartbeats 1000000
set_option maxRecDepth 10000
namespace Go.Proofs.Dev
open Go Go.Tm
theorem table_conflict_ok {t0:GRow}{t1:GRow}{r:Bool}(h:table_conflict t0 t1=some r):Den Tryz.prog 166 [e_GRow t0,e_GRow t1] (e_bool r):=by
 refine dk 27 k166 ?_;simp only [k166,Kf.of,zs,ze];unfold table_conflict at h;refine ss (rg ?_);(try simp only [zz]);refine ss (rg ?_);obtain⟨x1,a1,h⟩:=bs h;simp only [zz];refine cq (daterange_Intersect_ok a1) ?_ (by simp only [zg]);(try simp only [zz]);refine jm h (fun j3=>⟨ds 4 (e_bool j3::ds 24 []),[]⟩) (fun z3 h2=>?_) fun j3 h2 h=>?_
 ·refine rg ?_;(try simp only [zz]);refine gi h2 (fun c2 h2=>?_) fun c2 h2=>?_
  ·(try simp only [zz,c2]);cases h2;exact tz []
  (try simp only [zz,c2]);cases h2;exact tz []
 cases h;exact rt ez
theorem law_checkField_ok {t0:GLaw}{t1:GField}{t2:List GField}{t3:List GField}{r:Int}(h:law_checkField t0 t1 t2 t3=some r):Den Tryz.prog 176 [e_GLaw t0,e_GField t1,e_s_GField t2,e_s_GField t3] (e_i64 r):=by
 refine dk 28 k176 ?_;simp only [k176,Kf.of,zs,ze];unfold law_checkField at h;refine ss (rg ?_);(try simp only [zz]);refine ss (rg ?_);(try simp only [zz]);refine ss (bk (ss (rg ?_)));obtain⟨x1,a1,h⟩:=bs h;simp only [zz];refine cq (lexer_IsIdentifier_ok a1) ?_ (by simp only [zg]);(try simp only [zz]);refine cd rfl ?_;(try simp only [zz]);refine gi h (fun c2 h=>?_) fun c2 h=>?_
 ·refine ss (rg ?_);(try simp only [zz]);cases h;exact rt ez
 refine jm h (fun j6=>⟨ds 4 (.ref 0 0 0 0::.ref 1 0 0 0::ds 10 (e_bool j6::ds 15 [])),[.live 3 0 [e_GLaw t0],.live 3 0 [e_GField t1]]⟩) (fun z3 h2=>?_) fun j6 h2 h=>?_
 ·refine rg ?_;obtain⟨x3,a4,h2⟩:=bs h2;simp only [zz];refine cv (slices_ContainsFunc_api_Field_api_Field_ok (q1:=[e_p_GField t1]) (frC frN) (fun x900 _ hb=>law_checkField_c1_ok hb) a4) ?_ rfl (by simp only [zg,c2]);(try simp only [zz]);refine gi h2 (fun c4 h2=>?_) fun c4 h2=>?_
  ·obtain⟨x5,a5,h2⟩:=bs h2;simp only [zz,c4];refine cv (slices_ContainsFunc_api_Field_api_Field_ok (q1:=[e_p_GField t1]) (frC frN) (fun x900 _ hb=>law_checkField_c1_ok hb) a5) ?_ rfl (by simp only [zg,c2,c4]);(try simp only [zz,c4]);cases h2;exact tz [ok 0,ok 1]
  (try simp only [zz,c4]);cases h2;exact tz [ok 0,ok 1]
 refine cd rfl ?_;(try simp only [zz]);refine gi h (fun c7 h=>?_) fun c7 h=>?_
 ·refine ss (rg ?_);(try simp only [zz]);cases h;exact rt ez
 refine ss (rg ?_);obtain⟨x8,a6,h⟩:=bs h;simp only [zz];refine cq (value_ValidType_ok a6) ?_ (by simp only [zg,c2,c7]);(try simp only [zz]);refine cd rfl ?_;(try simp only [zz]);refine gi h (fun c9 h=>?_) fun c9 h=>?_
 ·refine ss (rg ?_);(try simp only [zz]);cases h;exact rt ez
 refine sk ?_;(try simp only [zz,c9]);refine ss (rg ?_);(try simp only [zz]);cases h;exact rt ez
theorem ref17_fieldError_ok {t0:GLaw}{t1:Int}{r:GLawError}(h:ref17_fieldError t0 t1=some r):Den Tryz.prog 184 [e_GLaw t0,e_i64 t1] (e_GLawError r):=by
 refine dk 120 k184 ?_;simp only [k184,Kf.of,zs,ze];unfold ref17_fieldError at h;refine ss (rg ?_);(try simp only [zz]);refine ss (rg ?_);obtain⟨x1,f2,f3,h⟩:=bI h;(try simp only [zz,f2,f3]);refine ss (ss (rg ?_));(try simp only [zz]);obtain⟨y4,h5,h⟩:=bs h;refine lm h5 (fun s2=>⟨.dead::e_i64 t1::.ref 0 0 0 0::.dead::.ref 1 0 0 0::.ref 2 0 0 0::e_i64 s2::ds 115 [],[.live 3 0 [e_GLaw t0],.live 4 0 [.agg [e_i64 0,e_i64 0,e_i64 0,e_i64 0]],.live 5 0 [e_GScope x1]]⟩) (fun q=>⟨.dead::e_i64 t1::.ref 0 0 0 0::.dead::.ref 1 0 0 0::.ref 2 0 0 0::ds 116 [],[.live 3 0 [e_GLaw t0],.live 4 0 [.agg [e_i64 0,e_i64 0,e_i64 0,e_i64 0]],.live 5 0 [e_GScope x1]]⟩) (tz [ok 0,ok 1,ok 2]) ?_ ?_
 ·rintro s2 z6 h7 h8;simp only [ref17_fieldError_L3]at h7;refine ss (ss (rg ?_));(try simp only [zz]);refine cd rfl ?_;(try simp only [zz]);refine gi h7 (fun c3 h7=>?_) fun c3 h7=>?_
  ·refine sk ?_;(try simp only [zz,c3]);refine ss (bk (ss (rg ?_)));(try simp only [zz]);refine jm h7 (fun j11=>⟨.dead::e_i64 t1::.ref 0 0 0 0::.dead::.ref 1 0 0 0::.ref 2 0 0 0::e_i64 s2::.ref 3 0 0 0::ds 114 [],[.live 3 0 [e_GLaw t0],.live 4 0 [.agg [e_i64 0,e_i64 0,e_i64 0,e_i64 0]],.live 5 0 [e_GScope x1],.live 4 0 [.agg [e_i64 j11,e_i64 3,e_i64 t1,e_i64 (wrapF .i64 (100+s2))]]]⟩) (fun z10 h9=>?_) fun j11 h9 h7=>?_
   ·refine ss (rg ?_);obtain⟨x4,f12,f13,h9⟩:=bI h9;obtain⟨x5,a14,h9⟩:=bs h9;simp only [zz,f12,f13];refine cq (ref08_IsIdentifier_ok a14) ?_ (by simp only [zg]);(try simp only [zz,f12,f13]);refine cd rfl ?_;(try simp only [zz,f12,f13]);refine gi h9 (fun c6 h9=>?_) fun c6 h9=>?_
    ·refine rg ?_;(try simp only [zz]);cases h9;exact tz [ok 0,ok 1,ok 2,ok 3]
    refine ss (dy hmix ?_);obtain⟨x7,a15,h9⟩:=bs h9;simp only [zz,f12,f13,zy];refine cq (ref17_hasField_ok a15) ?_ (by simp only [zg,c6]);(try simp only [zz,f12,f13,zy]);refine cd rfl ?_;(try simp only [zz,f12,f13]);refine gi h9 (fun c8 h9=>?_) fun c8 h9=>?_
    ·refine rg ?_;(try simp only [zz]);cases h9;exact tz [ok 0,ok 1,ok 2,ok 3]
    refine ss (dy hmix ?_);obtain⟨x9,a16,h9⟩:=bs h9;simp only [zz,f12,f13,zy];refine cq (ref09_ValidType_ok a16) ?_ (by simp only [zg,c6,c8]);(try simp only [zz,f12,f13,zy]);refine cd rfl ?_;(try simp only [zz,f12,f13]);refine gi h9 (fun c10 h9=>?_) fun c10 h9=>?_
    ·refine rg ?_;(try simp only [zz]);cases h9;exact tz [ok 0,ok 1,ok 2,ok 3]
    refine sk ?_;(try simp only [zz,f12,f13,c10]);cases h9;exact tz [ok 0,ok 1,ok 2,ok 3]
   refine ss (rg ?_);(try simp only [zz]);refine cd rfl ?_;(try simp only [zz]);refine gi h7 (fun c12 h7=>?_) fun c12 h7=>?_
   ·have e17:=nT c12;refine ss (rg ?_);(try simp only [zz]);cases h7;cases h8 _ rfl;cases h;exact rt ez
   have e18:=nD c12;refine sk ?_;(try simp only [zz,c12,e18]);refine rg ?_;(try simp only [zz]);cases h7;exact tz [ok 0,ok 1,ok 2]
  refine xt ?_;(try simp only [zz,c3]);cases h7;exact tz [ok 0,ok 1,ok 2]
 rintro ⟨⟩ rfl;dsimp only at h;(try simp only [zz]);refine ss (ss (rg ?_));(try simp only [zz]);obtain⟨y19,h20,h⟩:=bs h;refine lm h20 (fun s14=>⟨.dead::e_i64 t1::.ref 0 0 0 0::.dead::.ref 1 0 0 0::.ref 2 0 0 0::ds 2 (e_i64 s14::ds 113 []),[.live 3 0 [e_GLaw t0],.live 4 0 [.agg [e_i64 0,e_i64 0,e_i64 0,e_i64 0]],.live 5 0 [e_GScope x1]]⟩) (fun q=>⟨ds 4 (.ref 0 0 0 0::ds 117 []),[.live 4 0 [.agg [e_i64 0,e_i64 0,e_i64 0,e_i64 0]]]⟩) (tz [ok 0,ok 1,ok 2]) ?_ ?_
 ·rintro s14 z21 h22 h23;simp only [ref17_fieldError_L2]at h22;refine ss (ss (rg ?_));(try simp only [zz]);refine cd rfl ?_;(try simp only [zz]);refine gi h22 (fun c15 h22=>?_) fun c15 h22=>?_
  ·refine sk ?_;(try simp only [zz,c15]);refine ss (bk (ss (rg ?_)));(try simp only [zz]);refine jm h22 (fun j26=>⟨.dead::e_i64 t1::.ref 0 0 0 0::.dead::.ref 1 0 0 0::.ref 2 0 0 0::ds 2 (e_i64 s14::.ref 3 0 0 0::ds 112 []),[.live 3 0 [e_GLaw t0],.live 4 0 [.agg [e_i64 0,e_i64 0,e_i64 0,e_i64 0]],.live 5 0 [e_GScope x1],.live 4 0 [.agg [e_i64 j26,e_i64 3,e_i64 t1,e_i64 (wrapF .i64 (200+s14))]]]⟩) (fun z25 h24=>?_) fun j26 h24 h22=>?_
   ·refine ss (rg ?_);obtain⟨x16,f27,f28,h24⟩:=bI h24;obtain⟨x17,a29,h24⟩:=bs h24;simp only [zz,f27,f28];refine cq (ref08_IsIdentifier_ok a29) ?_ (by simp only [zg]);(try simp only [zz,f27,f28]);refine cd rfl ?_;(try simp only [zz,f27,f28]);refine gi h24 (fun c18 h24=>?_) fun c18 h24=>?_
    ·refine rg ?_;(try simp only [zz]);cases h24;exact tz [ok 0,ok 1,ok 2,ok 3]
    refine jm h24 (fun j22=>⟨.dead::e_i64 t1::.ref 0 0 0 0::.dead::.ref 1 0 0 0::.ref 2 0 0 0::ds 2 (e_i64 s14::.ref 3 0 0 0::ds 94 (e_bool j22::ds 17 [])),[.live 3 0 [e_GLaw t0],.live 4 0 [.agg [e_i64 0,e_i64 0,e_i64 0,e_i64 0]],.live 5 0 [e_GScope x1],.live 4 0 [.agg [e_i64 0,e_i64 3,e_i64 t1,e_i64 (wrapF .i64 (200+s14))]]]⟩) (fun z31 h30=>?_) fun j22 h30 h24=>?_
    ·refine dy hmix ?_;obtain⟨x19,a32,h30⟩:=bs h30;simp only [zz,f27,f28,zy];refine lq (ref17_hasField_ok a32) ?_ (by simp only [zg,c18]);(try simp only [zz,f27,f28,zy]);refine gi h30 (fun c20 h30=>?_) fun c20 h30=>?_
     ·obtain⟨x21,a33,h30⟩:=bs h30;simp only [zz,f27,f28,c20,zy];refine cq (ref17_hasField_ok a33) ?_ (by simp only [zg,c18,c20]);(try simp only [zz,f27,f28,c20,zy]);cases h30;exact tz [ok 0,ok 1,ok 2,ok 3]
     (try simp only [zz,f27,f28,c20,zy]);cases h30;exact tz [ok 0,ok 1,ok 2,ok 3]
    refine cd rfl ?_;(try simp only [zz]);refine gi h24 (fun c23 h24=>?_) fun c23 h24=>?_
    ·refine rg ?_;(try simp only [zz]);cases h24;exact tz [ok 0,ok 1,ok 2,ok 3]
    refine ss (dy hmix ?_);obtain⟨x24,a34,h24⟩:=bs h24;simp only [zz,f27,f28,zy];refine cq (ref09_ValidType_ok a34) ?_ (by simp only [zg,c18,c23]);(try simp only [zz,f27,f28,zy]);refine cd rfl ?_;(try simp only [zz,f27,f28]);refine gi h24 (fun c25 h24=>?_) fun c25 h24=>?_
    ·refine rg ?_;(try simp only [zz]);cases h24;exact tz [ok 0,ok 1,ok 2,ok 3]
    refine sk ?_;(try simp only [zz,f27,f28,c25]);cases h24;exact tz [ok 0,ok 1,ok 2,ok 3]
   refine ss (rg ?_);(try simp only [zz]);refine cd rfl ?_;(try simp only [zz]);refine gi h22 (fun c27 h22=>?_) fun c27 h22=>?_
   ·have e35:=nT c27;refine ss (rg ?_);(try simp only [zz]);cases h22;cases h23 _ rfl;cases h;exact rt ez
   have e36:=nD c27;refine sk ?_;(try simp only [zz,c27,e36]);refine rg ?_;(try simp only [zz]);cases h22;exact tz [ok 0,ok 1,ok 2]
  refine xt ?_;(try simp only [zz,c15]);cases h22;exact tz [ok 1]
 rintro ⟨⟩ rfl;dsimp only at h;(try simp only [zz]);refine ss (rg ?_);(try simp only [zz]);cases h;exact rt ez
theorem ref16_Transitive_ok {t0:GScope}{t1:Int}{r:List Int}(h:ref16_Transitive t0 t1=some r):Den Tryz.prog 186 [e_GScope t0,e_i64 t1] (e_s_i64 r):=by
 refine dk 45 k186 ?_;simp only [k186,Kf.of,zs,ze];unfold ref16_Transitive at h;refine ss (rg ?_);(try simp only [zz]);refine ss (rg ?_);obtain⟨x1,a1,h⟩:=bs h;simp only [zz];refine cq (ref16_Direct_ok a1) ?_ (by simp only [zg]);(try simp only [zz]);refine ss (ss (rg ?_));(try simp only [zz]);obtain⟨y2,h3,h⟩:=bs h;refine lm h3 (fun q=>⟨ds 2 (.ref 0 0 0 0::ds 2 (e_s_i64 q.1::e_i64 q.2::ds 40 [])),[.live 5 0 [e_GScope t0]]⟩) (fun b23=>⟨ds 5 (e_s_i64 b23::ds 41 []),[]⟩) (tz [ok 0]) ?_ ?_
 ·rintro ⟨s2,s3⟩ z4 h5 h6;simp only [ref16_Transitive_L41]at h5;refine ss (ss (rg ?_));(try simp only [zz]);refine cd rfl ?_;(try simp only [zz]);refine gi h5 (fun c4 h5=>?_) fun c4 h5=>?_
  ·refine sk ?_;(try simp only [zz,c4]);refine ss (bk (ss (rg ?_)));(try simp only [zz]);refine ss (rg ?_);(try simp only [zz]);obtain⟨y7,h8,h5⟩:=bs h5;refine lm h8 (fun q=>⟨ds 2 (.ref 0 0 0 0::ds 2 (e_s_i64 q.1::e_i64 s3::e_s_i64 s2::e_i64 q.2::ds 38 [])),[.live 5 0 [e_GScope t0]]⟩) (fun b20=>⟨ds 2 (.ref 0 0 0 0::ds 2 (e_s_i64 b20::e_i64 s3::ds 40 [])),[.live 5 0 [e_GScope t0]]⟩) (tz [ok 0]) ?_ ?_
   ·rintro ⟨s5,s6⟩ z9 h10 h11;simp only [ref16_Transitive_L40]at h10;refine ss (ss (rg ?_));(try simp only [zz]);refine cd rfl ?_;(try simp only [zz]);refine gi h10 (fun c7 h10=>?_) fun c7 h10=>?_
    ·refine sk ?_;(try simp only [zz,c7]);refine ss (bk (ss (dy hmix ?_)));obtain⟨x8,f13,f14,h10⟩:=bI h10;obtain⟨x9,a15,h10⟩:=bs h10;simp only [zz,f13,f14,zy];refine cq (ref16_Direct_ok a15) ?_ (by simp only [zg]);(try simp only [zz,f13,f14,zy]);refine ss (rg ?_);(try simp only [zz]);obtain⟨y16,h17,h10⟩:=bs h10;refine lm h17 (fun q=>⟨ds 2 (.ref 0 0 0 0::ds 2 (e_s_i64 q.1::e_i64 s3::e_s_i64 s2::e_i64 s6::e_s_i64 x9::e_i64 q.2::ds 36 [])),[.live 5 0 [e_GScope t0]]⟩) (fun b17=>⟨ds 2 (.ref 0 0 0 0::ds 2 (e_s_i64 b17::e_i64 s3::e_s_i64 s2::e_i64 s6::ds 38 [])),[.live 5 0 [e_GScope t0]]⟩) (tz [ok 0]) ?_ ?_
     ·rintro ⟨s10,s11⟩ z18 h19 h20;simp only [ref16_Transitive_L39]at h19;refine ss (ss (rg ?_));(try simp only [zz]);refine cd rfl ?_;(try simp only [zz]);refine gi h19 (fun c12 h19=>?_) fun c12 h19=>?_
      ·refine sk ?_;(try simp only [zz,c12]);refine ss (bk (rg ?_));obtain⟨x13,f22,f23,h19⟩:=bI h19;obtain⟨x14,a24,h19⟩:=bs h19;simp only [zz,f22,f23];refine cq (ref16_insert_ok a24) ?_ (by simp only [zg]);(try simp only [zz,f22,f23]);refine rg ?_;(try simp only [zz]);cases h19;exact tz [ok 0]
      refine xt ?_;(try simp only [zz,c12]);cases h19;exact tz [ok 0]
     rintro b17 rfl;dsimp only at h10;(try simp only [zz]);refine rg ?_;(try simp only [zz]);cases h10;exact tz [ok 0]
    refine xt ?_;(try simp only [zz,c7]);cases h10;exact tz [ok 0]
   rintro b20 rfl;dsimp only at h5;(try simp only [zz]);refine rg ?_;(try simp only [zz]);cases h5;exact tz [ok 0]
  refine xt ?_;(try simp only [zz,c4]);cases h5;exact tz []
 rintro b23 rfl;dsimp only at h;(try simp only [zz]);refine ss (rg ?_);(try simp only [zz]);cases h;exact rt ez
theorem ref12_wrong_ok {t0:GRow}{t1:GTable}{t2:List GEnum}{r:Bool}(h:ref12_wrong t0 t1 t2=some r):Den Tryz.prog 238 [e_GRow t0,e_GTable t1,e_s_GEnum t2] (e_bool r):=by
 refine dk 50 k238 ?_;simp only [k238,Kf.of,zs,ze];unfold ref12_wrong at h;refine ss (rg ?_);(try simp only [zz]);refine ss ?_;refine jm h (fun j4=>⟨ds 2 (e_s_GEnum t2::.ref 0 0 0 0::.ref 1 0 0 0::ds 21 (e_bool j4::ds 26 [])),[.live 5 0 [e_GRow t0],.live 6 0 [e_GTable t1]]⟩) (fun z2 h1=>?_) fun j4 h1 h=>?_
 ·refine rg ?_;obtain⟨x1,a3,h1⟩:=bs h1;simp only [zz];refine cq (ref05_Valid_ok a3) ?_ (by simp only [zg]);(try simp only [zz]);refine gi h1 (fun c2 h1=>?_) fun c2 h1=>?_
  ·(try simp only [zz,c2]);refine gi h1 (fun c3 h1=>?_) fun c3 h1=>?_
   ·have e4:=eF c3;(try simp only [zz,c2,c3,e4]);cases h1;exact tz [ok 0,ok 1]
   have e5:=eD c3;(try simp only [zz,c2,c3,e5]);cases h1;exact tz [ok 0,ok 1]
  (try simp only [zz,c2]);cases h1;exact tz [ok 0,ok 1]
 refine cd rfl ?_;(try simp only [zz]);refine gi h (fun c5 h=>?_) fun c5 h=>?_
 ·refine ss (rg ?_);(try simp only [zz]);cases h;exact rt ez
 refine sk ?_;(try simp only [zz,c5]);refine jm h (fun j11=>⟨ds 6 (e_bool j11::ds 46 []),[]⟩) (fun z7 h6=>?_) fun j11 h6 h=>?_
 ·refine rg ?_;obtain⟨x6,a8,h6⟩:=bs h6;simp only [zz];refine cq (ref09_In_ok a8) ?_ (by simp only [zg,c5]);(try simp only [zz]);refine gi h6 (fun c7 h6=>?_) fun c7 h6=>?_
  ·obtain⟨x8,a9,h6⟩:=bs h6;simp only [zz,c7];refine cq (ref09_In_ok a9) ?_ (by simp only [zg,c5,c7]);(try simp only [zz,c7]);refine gi h6 (fun c9 h6=>?_) fun c9 h6=>?_
   ·obtain⟨x10,a10,h6⟩:=bs h6;simp only [zz,c7,c9];refine cq (ref09_In_ok a10) ?_ (by simp only [zg,c5,c7,c9]);(try simp only [zz,c7,c9]);cases h6;exact tz []
   (try simp only [zz,c7,c9]);cases h6;exact tz []
  (try simp only [zz,c7]);cases h6;exact tz []
 cases h;exact rt ez
theorem deps_definitionsOf_ok {t0:GRule}{t1:Int}{r:List Int}(h:deps_definitionsOf t0 t1=some r):Den Tryz.prog 267 [e_GRule t0,e_i64 t1] (e_s_i64 r):=by
 refine dk 65 k267 ?_;simp only [k267,Kf.of,zs,ze];unfold deps_definitionsOf at h;refine ss (rg ?_);(try simp only [zz]);refine ss (rg ?_);(try simp only [zz]);refine ss (rg ?_);obtain⟨x1,a1,h⟩:=bs h;simp only [zz];refine cq (expr_References_ok a1) ?_ (by simp only [zg]);(try simp only [zz]);refine ss (rg ?_);obtain⟨x2,a2,h⟩:=bs h;simp only [zz];refine cq (expr_References_ok a2) ?_ (by simp only [zg]);(try simp only [zz]);refine ss (ss (rg ?_));(try simp only [zz]);obtain⟨y3,h4,h⟩:=bs h;refine lm h4 (fun q=>⟨.dead::e_i64 t1::ds 3 (.own 0 0::ds 4 (e_s_i64 x2.2.1::ds 19 (e_s_i64 x1.2.1::e_i64 (x1.2.1.length:Int)::e_i64 q.2::ds 34 []))),[.live 1 0 (q.1.map e_i64)]⟩) (fun b14=>⟨.dead::e_i64 t1::ds 3 (.own 0 0::ds 4 (e_s_i64 x2.2.1::ds 56 [])),[.live 1 0 (b14.map e_i64)]⟩) (tz [on 1]) ?_ ?_
 ·rintro ⟨s3,s4⟩ z5 h6 h7;simp only [deps_definitionsOf_L3]at h6;refine ss (rg ?_);(try simp only [zz]);refine ss (cd rfl ?_);(try simp only [zz]);refine gi h6 (fun c5 h6=>?_) fun c5 h6=>?_
  ·refine sk ?_;(try simp only [zz,c5]);refine jm h6 (fun j11=>⟨.dead::e_i64 t1::ds 3 (.own 0 0::ds 4 (e_s_i64 x2.2.1::ds 19 (e_s_i64 x1.2.1::e_i64 (x1.2.1.length:Int)::e_i64 s4::ds 34 []))),[.live 1 0 (j11.map e_i64)]⟩) (fun z9 h8=>?_) fun j11 h8 h6=>?_
   ·refine bk (ss (rg ?_));obtain⟨x6,f11,f12,h8⟩:=bI h8;(try simp only [zz,f11,f12]);refine jm h8 (fun j8=>⟨.dead::e_i64 t1::ds 3 (.own 0 0::ds 4 (e_s_i64 x2.2.1::ds 2 (e_i64 x6::ds 16 (e_s_i64 x1.2.1::e_i64 (x1.2.1.length:Int)::e_i64 s4::ds 9 (e_bool j8::ds 24 []))))),[.live 1 0 (s3.map e_i64)]⟩) (fun z14 h13=>?_) fun j8 h13 h8=>?_
    ·refine rg ?_;(try simp only [zz]);refine gi h13 (fun c7 h13=>?_) fun c7 h13=>?_
     ·(try simp only [zz,c7]);cases h13;exact tz [ok 0]
     (try simp only [zz,c7]);cases h13;exact tz [ok 0]
    refine cd rfl ?_;(try simp only [zz]);refine gi h8 (fun c9 h8=>?_) fun c9 h8=>?_
    ·refine rg ?_;obtain⟨x10,a15,h8⟩:=bs h8;obtain⟨f16,f17⟩:=app_f (e:=e_i64) a15;(try simp only [zz]at f16 f17);(try simp only [zz,f16,f17]);cases h8;exact tz [ov 0 1]
    refine sk ?_;(try simp only [zz,c9]);cases h8;exact tz [ok 0]
   refine rg ?_;(try simp only [zz]);cases h6;exact tz [ok 0]
  refine xt ?_;(try simp only [zz,c5]);cases h6;exact tz [ok 0]
 rintro b14 rfl;dsimp only at h;(try simp only [zz]);refine ss (ss (rg ?_));(try simp only [zz]);obtain⟨y18,h19,h⟩:=bs h;refine lm h19 (fun q=>⟨.dead::e_i64 t1::ds 3 (.own 0 0::ds 42 (e_s_i64 x2.2.1::e_i64 (x2.2.1.length:Int)::e_i64 q.2::ds 16 [])),[.live 1 0 (q.1.map e_i64)]⟩) (fun b26=>⟨ds 5 (.own 0 0::ds 61 []),[.live 1 0 (b26.map e_i64)]⟩) (tz [ok 0]) ?_ ?_
 ·rintro ⟨s15,s16⟩ z20 h21 h22;simp only [deps_definitionsOf_L2]at h21;refine ss (rg ?_);(try simp only [zz]);refine ss (cd rfl ?_);(try simp only [zz]);refine gi h21 (fun c17 h21=>?_) fun c17 h21=>?_
  ·refine sk ?_;(try simp only [zz,c17]);refine jm h21 (fun j23=>⟨.dead::e_i64 t1::ds 3 (.own 0 0::ds 42 (e_s_i64 x2.2.1::e_i64 (x2.2.1.length:Int)::e_i64 s16::ds 16 [])),[.live 1 0 (j23.map e_i64)]⟩) (fun z24 h23=>?_) fun j23 h23 h21=>?_
   ·refine bk (ss (rg ?_));obtain⟨x18,f26,f27,h23⟩:=bI h23;(try simp only [zz,f26,f27]);refine jm h23 (fun j20=>⟨.dead::e_i64 t1::ds 3 (.own 0 0::ds 9 (e_i64 x18::ds 32 (e_s_i64 x2.2.1::e_i64 (x2.2.1.length:Int)::e_i64 s16::ds 9 (e_bool j20::ds 6 [])))),[.live 1 0 (s15.map e_i64)]⟩) (fun z29 h28=>?_) fun j20 h28 h23=>?_
    ·refine rg ?_;(try simp only [zz]);refine gi h28 (fun c19 h28=>?_) fun c19 h28=>?_
     ·(try simp only [zz,c19]);cases h28;exact tz [ok 0]
     (try simp only [zz,c19]);cases h28;exact tz [ok 0]
    refine cd rfl ?_;(try simp only [zz]);refine gi h23 (fun c21 h23=>?_) fun c21 h23=>?_
    ·refine rg ?_;obtain⟨x22,a30,h23⟩:=bs h23;obtain⟨f31,f32⟩:=app_f (e:=e_i64) a30;(try simp only [zz]at f31 f32);(try simp only [zz,f31,f32]);cases h23;exact tz [ov 0 1]
    refine sk ?_;(try simp only [zz,c21]);cases h23;exact tz [ok 0]
   refine rg ?_;(try simp only [zz]);cases h21;exact tz [ok 0]
  refine xt ?_;(try simp only [zz,c17]);cases h21;exact tz [ok 0]
 rintro b26 rfl;dsimp only at h;(try simp only [zz]);refine ss (rg ?_);(try simp only [zz]);cases h;exact rt ez
theorem expr_nodeType_ok {t0:GNode}{t1:List GType}{t2:GSignature}{r:(GType×Int)}(h:expr_nodeType t0 t1 t2=some r):Den Tryz.prog 290 [e_GNode t0,e_s_GType t1,e_GSignature t2] (.tup [e_GType r.1,e_i64 r.2]):=by
 refine dk 122 k290 ?_;simp only [k290,Kf.of,zs,ze];unfold expr_nodeType at h;refine ss (rg ?_);(try simp only [zz]);obtain⟨z2,h1,h⟩:=bs h;refine tj (fun(q:Unit)=>⟨.dead::e_s_GType t1::.dead::.ref 0 0 0 0::ds 2 (.ref 1 0 0 0::ds 118 []),[.live 2 0 [e_GNode t0],.live 2 0 [.agg [e_i64 0,e_i64 0]]]⟩) z2 ?_ ?_
 ·refine ss (rg ?_);(try simp only [zz]);refine bk (ss (rg ?_));(try simp only [zz]);refine cd rfl ?_;(try simp only [zz]);refine gi h1 (fun c1 h1=>?_) fun c1 h1=>?_
  ·have e3:=eT c1;refine ss (rg ?_);obtain⟨x2,a5,h1⟩:=bs h1;simp only [zz];refine cq (expr_literalType_ok a5) ?_ (by simp only [zg,e3]);(try simp only [zz]);cases h1;cases h;exact rt ez
  have e4:=eF c1;refine ss (rg ?_);(try simp only [zz]);refine cd rfl ?_;(try simp only [zz]);refine gi h1 (fun c3 h1=>?_) fun c3 h1=>?_
  ·have e6:=eT c3;refine ss (rg ?_);obtain⟨x4,a8,h1⟩:=bs h1;simp only [zz];refine cq (expr_literalType_ok a8) ?_ (by simp only [zg,e4,e6]);(try simp only [zz]);cases h1;cases h;exact rt ez
  have e7:=eF c3;refine ss (rg ?_);(try simp only [zz]);refine cd rfl ?_;(try simp only [zz]);refine gi h1 (fun c5 h1=>?_) fun c5 h1=>?_
  ·have e9:=eT c5;refine ss (rg ?_);obtain⟨x6,a11,h1⟩:=bs h1;simp only [zz];refine cq (expr_literalType_ok a11) ?_ (by simp only [zg,e4,e7,e9]);(try simp only [zz]);cases h1;cases h;exact rt ez
  have e10:=eF c5;refine ss (rg ?_);(try simp only [zz]);refine cd rfl ?_;(try simp only [zz]);refine gi h1 (fun c7 h1=>?_) fun c7 h1=>?_
  ·have e12:=eT c7;refine ss (rg ?_);obtain⟨x8,a14,h1⟩:=bs h1;simp only [zz];refine cq (expr_literalType_ok a14) ?_ (by simp only [zg,e4,e7,e10,e12]);(try simp only [zz]);cases h1;cases h;exact rt ez
  have e13:=eF c7;refine ss (rg ?_);(try simp only [zz]);refine cd rfl ?_;(try simp only [zz]);refine gi h1 (fun c9 h1=>?_) fun c9 h1=>?_
  ·have e15:=eT c9;refine ss (rg ?_);obtain⟨x10,a17,h1⟩:=bs h1;simp only [zz];refine cq (expr_literalType_ok a17) ?_ (by simp only [zg,e4,e7,e10,e13,e15]);(try simp only [zz]);cases h1;cases h;exact rt ez
  have e16:=eF c9;refine ss (rg ?_);(try simp only [zz]);refine cd rfl ?_;(try simp only [zz]);refine gi h1 (fun c11 h1=>?_) fun c11 h1=>?_
  ·have e18:=eT c11;refine ss (rg ?_);obtain⟨x12,a20,h1⟩:=bs h1;simp only [zz];refine cq (expr_enumType_ok a20) ?_ (by simp only [zg,e4,e7,e10,e13,e16,e18]);(try simp only [zz]);cases h1;cases h;exact rt ez
  have e19:=eF c11;refine ss (rg ?_);(try simp only [zz]);refine cd rfl ?_;(try simp only [zz]);refine gi h1 (fun c13 h1=>?_) fun c13 h1=>?_
  ·have e21:=eT c13;refine ss (rg ?_);obtain⟨x14,a23,h1⟩:=bs h1;simp only [zz];refine cq (expr_listedType_ok a23) ?_ (by simp only [zg,e4,e7,e10,e13,e16,e19,e21]);(try simp only [zz]);cases h1;cases h;exact rt ez
  have e22:=eF c13;refine ss (rg ?_);(try simp only [zz]);refine cd rfl ?_;(try simp only [zz]);refine gi h1 (fun c15 h1=>?_) fun c15 h1=>?_
  ·have e24:=eT c15;refine ss (rg ?_);obtain⟨x16,a26,h1⟩:=bs h1;simp only [zz];refine cq (expr_listedType_ok a26) ?_ (by simp only [zg,e4,e7,e10,e13,e16,e19,e22,e24]);(try simp only [zz]);cases h1;cases h;exact rt ez
  have e25:=eF c15;refine ss (rg ?_);(try simp only [zz]);refine cd rfl ?_;(try simp only [zz]);refine gi h1 (fun c17 h1=>?_) fun c17 h1=>?_
  ·have e27:=eT c17;refine ss (rg ?_);(try simp only [zz]);cases h1;cases h;exact rt ez
  have e28:=eF c17;refine jm h1 (fun j19=>⟨.dead::e_s_GType t1::.dead::.ref 0 0 0 0::.dead::.ref 1 0 0 0::.ref 2 0 0 0::ds 4 (e_i64 t0.Op::ds 71 (e_bool j19::ds 41 [])),[.live 2 0 [e_GNode t0],.live 6 0 [e_GSignature t2],.live 2 0 [.agg [e_i64 0,e_i64 0]]]⟩) (fun z30 h29=>?_) fun j19 h29 h1=>?_
  ·refine ss (rg ?_);(try simp only [zz]);refine cd rfl ?_;(try simp only [zz]);refine gi h29 (fun c18 h29=>?_) fun c18 h29=>?_
   ·have e31:=eT c18;refine sk ?_;(try simp only [zz,eq_true c18,e31]);cases h29;exact tz [ok 0,ok 1,ok 2]
   have e32:=eF c18;refine rg ?_;(try simp only [zz]);cases h29;exact tz [ok 0,ok 1,ok 2]
  refine cd rfl ?_;(try simp only [zz]);refine gi h1 (fun c20 h1=>?_) fun c20 h1=>?_
  ·refine ss (dy hmix ?_);obtain⟨x21,f34,f35,h1⟩:=bI h1;obtain⟨x22,a36,h1⟩:=bs h1;simp only [zz,f34,f35,zy];refine lq (expr_tableType_ok a36) ?_ (by simp only [zg,e4,e7,e10,e13,e16,e19,e22,e25,e28,c20]);(try simp only [zz,f34,f35,zy]);cases h1;cases h;exact rt ez
  refine jm h1 (fun j27=>⟨.dead::e_s_GType t1::.dead::.ref 0 0 0 0::.dead::.ref 1 0 0 0::.ref 2 0 0 0::ds 4 (e_i64 t0.Op::ds 82 (e_bool j27::ds 30 [])),[.live 2 0 [e_GNode t0],.live 6 0 [e_GSignature t2],.live 2 0 [.agg [e_i64 0,e_i64 0]]]⟩) (fun z38 h37=>?_) fun j27 h37 h1=>?_
  ·refine ss (rg ?_);(try simp only [zz]);refine cd rfl ?_;(try simp only [zz]);refine gi h37 (fun c23 h37=>?_) fun c23 h37=>?_
   ·have e39:=eT c23;refine sk ?_;(try simp only [zz,eq_true c23,e39]);cases h37;exact tz [ok 0,ok 1,ok 2]
   have e40:=eF c23;refine ss (rg ?_);(try simp only [zz]);refine cd rfl ?_;(try simp only [zz]);refine gi h37 (fun c24 h37=>?_) fun c24 h37=>?_
   ·have e41:=eT c24;refine sk ?_;(try simp only [zz,eq_true c24,e41]);cases h37;exact tz [ok 0,ok 1,ok 2]
   have e42:=eF c24;refine ss (rg ?_);(try simp only [zz]);refine cd rfl ?_;(try simp only [zz]);refine gi h37 (fun c25 h37=>?_) fun c25 h37=>?_
   ·have e43:=eT c25;refine sk ?_;(try simp only [zz,eq_true c25,e43]);cases h37;exact tz [ok 0,ok 1,ok 2]
   have e44:=eF c25;refine ss (rg ?_);(try simp only [zz]);refine cd rfl ?_;(try simp only [zz]);refine gi h37 (fun c26 h37=>?_) fun c26 h37=>?_
   ·have e45:=eT c26;refine sk ?_;(try simp only [zz,eq_true c26,e45]);cases h37;exact tz [ok 0,ok 1,ok 2]
   have e46:=eF c26;refine rg ?_;(try simp only [zz]);cases h37;exact tz [ok 0,ok 1,ok 2]
  refine cd rfl ?_;(try simp only [zz]);refine gi h1 (fun c28 h1=>?_) fun c28 h1=>?_
  ·refine ss (rg ?_);obtain⟨x29,a47,h1⟩:=bs h1;simp only [zz];refine cq (expr_memberType_ok a47) ?_ (by simp only [zg,e4,e7,e10,e13,e16,e19,e22,e25,e28,c20,c28]);(try simp only [zz]);cases h1;cases h;exact rt ez
  refine jm h1 (fun j32=>⟨.dead::e_s_GType t1::.dead::.ref 0 0 0 0::ds 2 (.ref 1 0 0 0::ds 98 (e_bool j32::ds 19 [])),[.live 2 0 [e_GNode t0],.live 2 0 [.agg [e_i64 0,e_i64 0]]]⟩) (fun z49 h48=>?_) fun j32 h48 h1=>?_
  ·refine ss (rg ?_);(try simp only [zz]);refine cd rfl ?_;(try simp only [zz]);refine gi h48 (fun c30 h48=>?_) fun c30 h48=>?_
   ·have e50:=eT c30;refine sk ?_;(try simp only [zz,eq_true c30,e50]);cases h48;exact tz [ok 0,ok 2]
   have e51:=eF c30;refine ss (rg ?_);(try simp only [zz]);refine cd rfl ?_;(try simp only [zz]);refine gi h48 (fun c31 h48=>?_) fun c31 h48=>?_
   ·have e52:=eT c31;refine sk ?_;(try simp only [zz,eq_true c31,e52]);cases h48;exact tz [ok 0,ok 2]
   have e53:=eF c31;refine rg ?_;(try simp only [zz]);cases h48;exact tz [ok 0,ok 2]
  refine cd rfl ?_;(try simp only [zz]);refine gi h1 (fun c33 h1=>?_) fun c33 h1=>?_
  ·refine ss (rg ?_);obtain⟨x34,a54,h1⟩:=bs h1;simp only [zz];refine cq (expr_validMode_ok a54) ?_ (by simp only [zg,e4,e7,e10,e13,e16,e19,e22,e25,e28,c20,c28,c33]);(try simp only [zz]);refine cd rfl ?_;(try simp only [zz]);refine gi h1 (fun c35 h1=>?_) fun c35 h1=>?_
   ·refine ss (rg ?_);(try simp only [zz]);cases h1;cases h;exact rt ez
   refine sk ?_;(try simp only [zz,c35]);cases h1;exact tz [ok 0,ok 1]
  refine sk ?_;(try simp only [zz,c33]);cases h1;exact tz [ok 0,ok 1]
 rintro ⟨⟩ rfl;dsimp only at h;refine ss (rg ?_);obtain⟨x36,a55,h⟩:=bs h;simp only [zz];refine cq (expr_resultType_ok a55) ?_ (by simp only [zg]);(try simp only [zz]);refine ss (ss (rg ?_));(try simp only [zz]);refine cd rfl ?_;(try simp only [zz]);refine gi h (fun c37 h=>?_) fun c37 h=>?_
 ·refine ss (rg ?_);(try simp only [zz]);cases h;exact rt ez
 refine sk ?_;(try simp only [zz,c37]);refine ss (rg ?_);(try simp only [zz]);cases h;exact rt ez
theorem ref10_Result_ok {t0:GNode}{t1:List GType}{t2:GSignature}{r:(GType×Int)}(h:ref10_Result t0 t1 t2=some r):Den Tryz.prog 293 [e_GNode t0,e_s_GType t1,e_GSignature t2] (.tup [e_GType r.1,e_i64 r.2]):=by
 refine dk 84 k293 ?_;simp only [k293,Kf.of,zs,ze];unfold ref10_Result at h;refine ss (rg ?_);(try simp only [zz]);refine ss ?_;refine jm h (fun j3=>⟨.dead::e_s_GType t1::.dead::.ref 0 0 0 0::.dead::.ref 1 0 0 0::.ref 2 0 0 0::ds 11 (e_bool j3::ds 68 []),[.live 2 0 [e_GNode t0],.live 6 0 [e_GSignature t2],.live 2 0 [.agg [e_i64 0,e_i64 0]]]⟩) (fun z2 h1=>?_) fun j3 h1 h=>?_
 ·refine rg ?_;(try simp only [zz]);refine gi h1 (fun c1 h1=>?_) fun c1 h1=>?_
  ·have e3:=nT c1;obtain⟨x2,a5,h1⟩:=bs h1;simp only [zz,c1,e3];refine cq (ref10_meaning_ok a5) ?_ (by simp only [zg,e3]);(try simp only [zz,c1,e3]);cases h1;exact tz [ok 0,ok 1,ok 2]
  have e4:=nD c1;(try simp only [zz,c1,e4]);cases h1;exact tz [ok 0,ok 1,ok 2]
 refine cd rfl ?_;(try simp only [zz]);refine gi h (fun c4 h=>?_) fun c4 h=>?_
 ·refine ss (rg ?_);(try simp only [zz]);cases h;exact rt ez
 refine sk ?_;(try simp only [zz,c4]);refine ss (ss (rg ?_));obtain⟨x5,a6,h⟩:=bs h;simp only [zz];refine cq (ref10_ranged_ok a6) ?_ (by simp only [zg,c4]);(try simp only [zz]);refine cd rfl ?_;(try simp only [zz]);refine gi h (fun c6 h=>?_) fun c6 h=>?_
 ·refine ss (rg ?_);(try simp only [zz]);cases h;exact rt ez
 refine sk ?_;(try simp only [zz,c6]);refine ss (ss (rg ?_));obtain⟨x7,a7,h⟩:=bs h;simp only [zz];refine cq (ref10_found_ok a7) ?_ (by simp only [zg,c4,c6]);(try simp only [zz]);refine cd rfl ?_;(try simp only [zz]);refine gi h (fun c8 h=>?_) fun c8 h=>?_
 ·refine ss (rg ?_);(try simp only [zz]);cases h;exact rt ez
 refine sk ?_;(try simp only [zz,c8]);refine ss (rg ?_);(try simp only [zz]);refine ss (rg ?_);(try simp only [zz]);refine jm h (fun q=>⟨ds 6 (.ref 0 0 0 0::.dead::.ref 1 0 0 0::e_bool q.2.2::ds 77 []),[.live 2 0 [.agg [e_i64 0,e_i64 0]],.live 2 0 [.agg [e_i64 q.1,e_i64 q.2.1]]]⟩) (fun z9 h8=>?_) fun z9 h8 h=>?_
 ·refine ss (rg ?_);(try simp only [zz]);refine bk (ss (rg ?_));(try simp only [zz]);refine cd rfl ?_;(try simp only [zz]);refine gi h8 (fun c9 h8=>?_) fun c9 h8=>?_
  ·have e10:=eT c9;refine rg ?_;obtain⟨x10,a12,h8⟩:=bs h8;simp only [zz];refine cq (ref10_leaf_ok a12) ?_ (by simp only [zg,c4,c6,c8,e10]);(try simp only [zz]);cases h8;exact tz [ok 2,ok 3]
  have e11:=eF c9;refine ss (rg ?_);(try simp only [zz]);refine cd rfl ?_;(try simp only [zz]);refine gi h8 (fun c11 h8=>?_) fun c11 h8=>?_
  ·have e13:=eT c11;refine ay hmix [[],[],[],[],[],[],[],[],[],[]] (by kernel_rfl) ?_;obtain⟨x12,f16,f17,h8⟩:=bI h8;obtain⟨x13,a18,h8⟩:=bs h8;simp only [zz,f16,f17,zy];refine lq (ref10_single_ok a18) ?_ (by simp only [zg,c4,c6,c8,e11,e13]);(try simp only [zz,f16,f17,zy]);cases h8;exact tz [ok 2,ok 3]
  have e14:=eF c11;refine ss (rg ?_);(try simp only [zz]);refine cd rfl ?_;(try simp only [zz]);refine gi h8 (fun c14 h8=>?_) fun c14 h8=>?_
  ·have e19:=eT c14;refine ay hmix [[],[],[],[],[],[],[],[],[],[],[],[],[]] (by kernel_rfl) ?_;obtain⟨x15,f22,f23,h8⟩:=bI h8;obtain⟨x16,f25,f26,h8⟩:=bI h8;obtain⟨x17,a27,h8⟩:=bs h8;simp only [zz,f22,f23,f25,f26,zy];refine lq (ref10_double_ok a27) ?_ (by simp only [zg,c4,c6,c8,e11,e14,e19]);(try simp only [zz,f22,f23,f25,f26,zy]);cases h8;exact tz [ok 2,ok 3]
  have e20:=eF c14;refine ss (rg ?_);obtain⟨x18,f29,f30,h8⟩:=bI h8;(try simp only [zz,f29,f30]);refine dy hmix ?_;obtain⟨x19,f32,f33,h8⟩:=bI h8;(try simp only [zz,f32,f33,zy]);refine gi h8 (fun c20 h8=>?_) fun c20 h8=>?_
  ·have e34:=eT c20;obtain⟨x21,f37,f38,h8⟩:=bI h8;(try simp only [zz,f32,f33,eq_true c20,e34,f29,f30,f37,f38,zy]);cases h8;exact tz [ok 2,ok 3]
  have e35:=eF c20;(try simp only [zz,f32,f33,c20,e35,zy]);cases h8;exact tz [ok 2,ok 3]
 obtain⟨j22,j23,j24⟩:=z9;dsimp only at h;refine ss (ss (rg ?_));(try simp only [zz]);refine cd rfl ?_;(try simp only [zz]);refine gi h (fun c25 h=>?_) fun c25 h=>?_
 ·refine ss (rg ?_);(try simp only [zz]);cases h;exact rt ez
 refine sk ?_;(try simp only [zz,c25]);refine ss (rg ?_);(try simp only [zz]);cases h;exact rt ez
theorem law_checkEnums_ok {t0:GLaw}{r:GLawError}(h:law_checkEnums t0=some r):Den Tryz.prog 63 [e_GLaw t0] (e_GLawError r):=by
 refine dk 34 k63 ?_;simp only [k63,Kf.of,zs,ze];unfold law_checkEnums at h;refine ss (rg ?_);(try simp only [zz]);refine ss (ss (rg ?_));(try simp only [zz]);refine cd rfl ?_;(try simp only [zz]);refine gi h (fun c1 h=>?_) fun c1 h=>?_
 ·refine ss (rg ?_);(try simp only [zz]);cases h;exact rt ez
 refine sk ?_;(try simp only [zz,c1]);refine ss (ss (rg ?_));(try simp only [zz]);obtain⟨y1,h2,h⟩:=bs h;refine lm h2 (fun s2=>⟨.dead::.ref 0 0 0 0::.ref 1 0 0 0::ds 10 (e_s_GEnum t0.Enums::e_i64 (t0.Enums.length:Int)::e_i64 s2::ds 19 []),[.live 3 0 [e_GLaw t0],.live 4 0 [.agg [e_i64 0,e_i64 0,e_i64 0,e_i64 0]]]⟩) (fun q=>⟨ds 2 (.ref 0 0 0 0::ds 32 []),[.live 4 0 [.agg [e_i64 0,e_i64 0,e_i64 0,e_i64 0]]]⟩) (tz [ok 0,ok 1]) ?_ ?_
 ·rintro s2 z3 h4 h5;simp only [law_checkEnums_L1]at h4;refine ss (rg ?_);(try simp only [zz]);refine ss (cd rfl ?_);(try simp only [zz]);refine gi h4 (fun c3 h4=>?_) fun c3 h4=>?_
  ·refine sk ?_;(try simp only [zz,c3]);refine ss (bk (ss (rg ?_)));obtain⟨x4,f7,f8,h4⟩:=bI h4;(try simp only [zz,f7,f8]);refine ss (rg ?_);obtain⟨x5,a9,h4⟩:=bs h4;simp only [zz];refine cq (law_checkEnum_ok a9) ?_ (by simp only [zg]);(try simp only [zz]);refine ss (rg ?_);(try simp only [zz]);refine cd rfl ?_;(try simp only [zz]);refine gi h4 (fun c6 h4=>?_) fun c6 h4=>?_
   ·have e10:=nT c6;refine ss (rg ?_);(try simp only [zz]);cases h4;cases h5 _ rfl;cases h;exact rt ez
   have e11:=nD c6;refine sk ?_;(try simp only [zz,c6,e11]);refine rg ?_;(try simp only [zz]);cases h4;exact tz [ok 0,ok 1]
  refine xt ?_;(try simp only [zz,c3]);cases h4;exact tz [ok 1]
 rintro ⟨⟩ rfl;dsimp only at h;(try simp only [zz]);refine ss (rg ?_);(try simp only [zz]);cases h;exact rt ez
theorem table_Validate_c1_ok {t0:GRow}{t1:GRow}{r:Bool}(h:table_Validate_c1 t0 t1=some r):Den Tryz.prog 165 [e_GRow t0,e_p_GRow t1] (e_bool r):=by
 refine dk 5 k165 ?_;simp only [k165,Kf.of,zs,ze];unfold table_Validate_c1 at h;refine ss (rg ?_);(try simp only [zz]);refine ss (rg ?_);obtain⟨x1,a1,h⟩:=bs h;simp only [zz];refine cq (table_conflict_ok a1) ?_ (by simp only [zg]);(try simp only [zz]);cases h;exact rt ez
theorem ref12_Validate_ok {t0:GTable}{t1:List GEnum}{r:(Int×Int)}(h:ref12_Validate t0 t1=some r):Den Tryz.prog 183 [e_GTable t0,e_s_GEnum t1] (.tup [e_i64 r.1,e_i64 r.2]):=by
 refine dk 55 k183 ?_;simp only [k183,Kf.of,zs,ze];unfold ref12_Validate at h;refine ss (rg ?_);(try simp only [zz]);refine ss (ss (rg ?_));(try simp only [zz]);refine cd rfl ?_;(try simp only [zz]);refine gi h (fun c1 h=>?_) fun c1 h=>?_
 ·refine ss (rg ?_);(try simp only [zz]);cases h;exact rt ez
 refine sk ?_;(try simp only [zz,c1]);refine ss ?_;refine jm h (fun j5=>⟨.dead::e_s_GEnum t1::.ref 0 0 0 0::ds 20 (e_bool j5::ds 33 []),[.live 6 0 [e_GTable t0]]⟩) (fun z2 h1=>?_) fun j5 h1 h=>?_
 ·refine rg ?_;obtain⟨x2,a3,h1⟩:=bs h1;simp only [zz];refine cq (ref09_ValidType_ok a3) ?_ (by simp only [zg]);(try simp only [zz]);refine gi h1 (fun c3 h1=>?_) fun c3 h1=>?_
  ·obtain⟨x4,a4,h1⟩:=bs h1;simp only [zz,c3];refine cq (ref09_ValidType_ok a4) ?_ (by simp only [zg,c3]);(try simp only [zz,c3]);cases h1;exact tz [ok 0]
  (try simp only [zz,c3]);cases h1;exact tz [ok 0]
 refine cd rfl ?_;(try simp only [zz]);refine gi h (fun c6 h=>?_) fun c6 h=>?_
 ·refine ss (rg ?_);(try simp only [zz]);cases h;exact rt ez
 refine sk ?_;(try simp only [zz,c6]);refine ss (ss (rg ?_));(try simp only [zz]);obtain⟨y5,h6,h⟩:=bs h;refine lm h6 (fun s7=>⟨.dead::e_s_GEnum t1::.ref 0 0 0 0::ds 3 (e_i64 s7::ds 50 []),[.live 6 0 [e_GTable t0]]⟩) (fun q=>⟨ds 57 [],[]⟩) (tz [ok 0]) ?_ ?_
 ·rintro s7 z7 h8 h9;simp only [ref12_Validate_L9]at h8;refine ss (ss (rg ?_));(try simp only [zz]);refine cd rfl ?_;(try simp only [zz]);refine gi h8 (fun c8 h8=>?_) fun c8 h8=>?_
  ·refine sk ?_;(try simp only [zz,c8]);refine ss (bk (ss (ss (dy hmix ?_))));obtain⟨x9,f11,f12,h8⟩:=bI h8;obtain⟨x10,a13,h8⟩:=bs h8;simp only [zz,f11,f12,zy];refine cq (ref12_wrong_ok a13) ?_ (by simp only [zg,c6]);(try simp only [zz,f11,f12,zy]);refine cd rfl ?_;(try simp only [zz,f11,f12]);refine gi h8 (fun c11 h8=>?_) fun c11 h8=>?_
   ·refine ss (rg ?_);(try simp only [zz]);cases h8;cases h9 _ rfl;cases h;exact rt ez
   refine sk ?_;(try simp only [zz,f11,f12,c11]);refine ss (rg ?_);(try simp only [zz]);obtain⟨y14,h15,h8⟩:=bs h8;refine lm h15 (fun s12=>⟨.dead::e_s_GEnum t1::.ref 0 0 0 0::ds 3 (e_i64 s7::e_i64 s12::ds 49 []),[.live 6 0 [e_GTable t0]]⟩) (fun q=>⟨.dead::e_s_GEnum t1::.ref 0 0 0 0::ds 3 (e_i64 s7::ds 50 []),[.live 6 0 [e_GTable t0]]⟩) (tz [ok 0]) ?_ ?_
   ·rintro s12 z16 h17 h18;simp only [ref12_Validate_L8]at h17;refine ss (ss (rg ?_));(try simp only [zz]);refine cd rfl ?_;(try simp only [zz]);refine gi h17 (fun c13 h17=>?_) fun c13 h17=>?_
    ·refine sk ?_;(try simp only [zz,c13]);refine ss (bk (ss (dy hmix ?_)));obtain⟨x14,f20,f21,h17⟩:=bI h17;obtain⟨x15,a22,h17⟩:=bs h17;simp only [zz,f20,f21,f11,f12,zy];refine cq (ref12_conflict_ok a22) ?_ (by simp only [zg,c6,c11]);(try simp only [zz,f20,f21,f11,f12,zy]);refine cd rfl ?_;(try simp only [zz,f20,f21,f11,f12]);refine gi h17 (fun c16 h17=>?_) fun c16 h17=>?_
     ·refine ss (rg ?_);(try simp only [zz]);cases h17;cases h18 _ rfl;cases h8;cases h9 _ rfl;cases h;exact rt ez
     refine sk ?_;(try simp only [zz,f20,f21,f11,f12,c16]);refine rg ?_;(try simp only [zz]);cases h17;exact tz [ok 0]
    refine xt ?_;(try simp only [zz,c13]);cases h17;exact tz [ok 0]
   rintro ⟨⟩ rfl;dsimp only at h8;(try simp only [zz]);refine rg ?_;(try simp only [zz]);cases h8;exact tz [ok 0]
  refine xt ?_;(try simp only [zz,c8]);cases h8;exact tz []
 rintro ⟨⟩ rfl;dsimp only at h;(try simp only [zz]);refine ss (rg ?_);(try simp only [zz]);cases h;exact rt ez
abbrev LL:=List (Nat×List Int)
def owns:Nat→LL→List D
 |_,[]=>[]
 |k,p::l=>.own k p.1::owns (k+1) l
def ents (L:LL):List Ent:=L.map fun p=>.live 1 p.1 (p.2.map e_i64)
def dOf (n:Nat) (r:GRule):List Int:=inR n (dfl isDef r.Guard)++inR n (dfl isDef r.Value)
def stL (n:Nat) (L:LL) (r:GRule):LL:=if 0≤r.Def∧r.Def<n then L.modify r.Def.toNat (fun p=>(p.1+1,p.2++dOf n r))else L
def sL (n:Nat) (rs:List GRule) (i:Nat):LL:=(rs.take i).foldl (stL n) (List.replicate n (0,[]))
theorem owns_len:∀{L:LL}{k:Nat},(owns k L).length=L.length
 |[],_=>rfl
 |p::l,k=>by simp only [owns,List.length_cons,owns_len (L:=l)]
theorem owns_app:∀{L M:LL}{k:Nat},owns k (L++M)=owns k L++owns (k+L.length) M
 |[],M,k=>by simp [owns]
 |p::l,M,k=>by
  simp only [List.cons_append,owns,owns_app (L:=l),List.length_cons];rw [show k+1+l.length=k+(l.length+1) by omega]
theorem owns_get:∀{L:LL}{k d:Nat},(owns k L)[d]?=L[d]?.map (fun p=>.own (k+d) p.1)
 |[],_,_=>by simp [owns]
 |p::l,k,0=>by simp [owns]
 |p::l,k,d+1=>by
  simp only [owns,List.getElem?_cons_succ,owns_get (L:=l)];rw [show k+1+d=k+(d+1) by omega]
theorem owns_set:∀{L:LL}{k d:Nat}{p:Nat×List Int},(owns k L).set d (.own (k+d) p.1)=owns k (L.set d p)
 |[],_,_,_=>by simp [owns]
 |q::l,k,0,p=>by simp [owns]
 |q::l,k,d+1,p=>by
  simp only [owns,List.set_cons_succ];rw [show k+(d+1)=k+1+d by omega,owns_set (L:=l)]
theorem owns_below:∀{L:LL}{k j:Nat},k+L.length≤j→belows j (owns k L)=true
 |[],_,_,_=>rfl
 |p::l,k,j,h=>by
  simp only [List.length_cons]at h;simp only [owns,belows,below,Bool.and_eq_true,decide_eq_true_eq];exact⟨by omega,owns_below (by omega)⟩
theorem ents_len {L:LL}:(ents L).length=L.length:=by simp [ents]
theorem ents_below {L:LL}{j:Nat}:(ents L).all (Ent.below j)=true:=by
 rw [List.all_eq_true];intro e he;obtain⟨p,-,rfl⟩:=List.mem_map.1 he;exact belows_free _ _ (Fr.l _)
theorem stL_len {n:Nat}{L:LL}{r:GRule}:(stL n L r).length=L.length:=by
 unfold stL;split<;>simp
theorem foldl_len {n:Nat}:∀{rs:List GRule}{L:LL},(rs.foldl (stL n) L).length=L.length
 |[],_=>rfl
 |r::rs,L=>by simp only [List.foldl_cons,foldl_len (rs:=rs),stL_len]
theorem sL_len {n:Nat}{rs:List GRule}{i:Nat}:(sL n rs i).length=n:=by unfold sL;rw [foldl_len];simp
theorem sL_succ {n:Nat}{rs:List GRule}{i:Nat}(h:i<rs.length):sL n rs (i+1)=stL n (sL n rs i) rs[i]:=by
 unfold sL;rw [List.take_add_one,List.getElem?_eq_getElem h,Option.toList_some,List.foldl_append];rfl
theorem inR_len {n:Int}{l:List Int}:(inR n l).length≤l.length:=List.length_filter_le _ _
theorem dOf_len {n:Nat}{r:GRule}(h:r.Guard.length≤1048576∧r.Value.length≤1048576):(dOf n r).length≤2097152:=by
 unfold dOf;have h1:=inR_len (n:=n) (l:=dfl isDef r.Guard);have h2:=inR_len (n:=n) (l:=dfl isDef r.Value);have h3:=dfl_len (p:=isDef) (e:=r.Guard);have h4:=dfl_len (p:=isDef) (e:=r.Value);simp only [List.length_append];omega
theorem sL_bound {n:Nat}{rs:List GRule}(hg:∀r∈rs,r.Guard.length≤1048576∧r.Value.length≤1048576):∀{i:Nat},i≤rs.length→∀p∈sL n rs i,p.2.length≤2097152*i:=by
 intro i
 induction i with
 |zero=>
  intro _ p hp;simp only [sL,List.take_zero,List.foldl_nil,List.mem_replicate]at hp;rw [hp.2];simp
 |succ i ih=>
  intro h p hp;have ih:=ih (Nat.le_of_succ_le h);have hD:=dOf_len (n:=n) (hg rs[i] (List.getElem_mem h));have hs:2097152*(i+1)=2097152*i+2097152:=Nat.mul_succ _ _;rw [sL_succ h]at hp;unfold stL at hp;split at hp
  ·obtain⟨d,hd,rfl⟩:=List.getElem_of_mem hp;have hd':d<(sL n rs i).length:=by simpa using hd
   have h1:=ih _ (List.getElem_mem hd');rw [List.getElem_modify];split
   ·simp only [List.length_append];omega
   ·omega
  ·have:=ih p hp;omega
theorem adopt_all (t:List D) (n:Nat):∀x,x≤n→adoptXs 1 0 x ⟨t,[.live 1 0 (List.replicate n (.v (.slice none 0 0)))]⟩=⟨t,.live 1 0 (owns 1 (List.replicate x (0,[]))++List.replicate (n-x) (.v (.slice none 0 0)))::ents (List.replicate x (0,[]))⟩
 |0,_=>by simp [adoptXs,owns,ents]
 |x+1,h=>by
  rw [adoptXs,adopt_all t n x (by omega)];unfold adoptX;simp only [List.getElem?_cons_zero];have hl:(owns 1 (List.replicate x ((0:Nat),([]:List Int)))).length=x:=by rw [owns_len];simp
  rw [List.getElem?_append_right (by omega),hl,Nat.sub_self,List.getElem?_replicate,if_pos (by omega)];simp only [List.set_cons_zero,List.length_cons,ents_len,List.length_replicate,List.cons_append,St.mk.injEq,true_and,List.cons.injEq,Ent.live.injEq];refine⟨?_,?_⟩
  ·rw [List.set_append,if_neg (by omega),hl,Nat.sub_self,List.replicate_succ' (n:=x),owns_app,List.append_assoc];congr 1;obtain⟨k,hk⟩:∃k,n-x=k+1:=⟨n-x-1,by omega⟩;rw [hk,List.replicate_succ,List.set_cons_zero,show n-(x+1)=k by omega,List.length_replicate];simp only [owns,List.cons_append,List.nil_append];rw [Nat.add_comm 1 x]
  ·rw [List.replicate_succ' (n:=x)];simp [ents]
theorem idfrees_rep {n:Nat}:idfrees (List.replicate n (.v (.slice none 0 0)))=true:=idfrees_iff.2 fun d hd=>by rw [List.eq_of_mem_replicate hd];rfl
def S1 (n:Nat) (rs:List GRule) (i:Nat):St:=⟨ds 3 (.own 0 0::ds 9 (e_s_GRule rs::e_i64 (rs.length:Int)::e_i64 (i:Int)::ds 42 [])),.live 1 0 (owns 1 (sL n rs i))::ents (sL n rs i)⟩
theorem S1_q {n:Nat}{rs:List GRule}{i:Nat}:S1 n rs i=⟨ds 3 (.own 0 0::ds 9 (e_s_GRule rs::e_i64 (rs.length:Int)::e_i64 (i:Int)::ds 42 [])),.live 1 0 (owns 1 (sL n rs i))::ents (sL n rs i)⟩:=Eq.trans rfl rfl
theorem set_concat {α:Type}{l:List α}{x y:α}:(l++[x]).set l.length y=l++[y]:=by simp
theorem neN_of:∀{a b:Nat},a≠b→neN a b=true
 |0,0,h=>(h rfl).elim
 |0,_+1,_=>rfl
 |_+1,0,_=>rfl
 |a+1,b+1,h=>neN_of (a:=a) (b:=b) fun e=>h (by rw [e])
theorem modify_set {α:Type}{f:α→α}:∀{l:List α}{d:Nat}{p:α},l[d]?=some p→l.modify d f=l.set d (f p)
 |[],_,_,h=>by simp at h
 |a::l,0,p,h=>by simp at h;subst h;simp
 |a::l,d+1,p,h=>by simp only [List.modify_succ_cons,List.set_cons_succ];rw [modify_set (by simpa using h)]
def A2 (L:LL) (j:Nat):List D:=(L.take j).map fun p=>e_s_i64 (dsort p.2)
def S2 (n:Nat) (L:LL) (j:Nat):St:=⟨ds 3 (.own 0 0::ds 40 (.own 0 0::e_i64 (n:Int)::e_i64 (j:Int)::ds 11 [])),.live 1 0 (A2 L j++owns (1+j) (L.drop j))::(List.replicate j .gone++ents (L.drop j))⟩
theorem S2_q {n:Nat}{L:LL}{j:Nat}:S2 n L j=⟨ds 3 (.own 0 0::ds 40 (.own 0 0::e_i64 (n:Int)::e_i64 (j:Int)::ds 11 [])),.live 1 0 (A2 L j++owns (1+j) (L.drop j))::(List.replicate j .gone++ents (L.drop j))⟩:=Eq.trans rfl rfl
theorem A2_free {L:LL}{j:Nat}:idfrees (A2 L j)=true:=by
 refine idfrees_iff.2 fun d hd=>?_;obtain⟨p,-,rfl⟩:=List.mem_map.1 hd;exact Fr.h _
theorem S2_fit {n:Nat}{L:LL}{j:Nat}(h:L.length=n) (hj:j≤n):Fit 0 (S2 n L j):=by
 refine⟨Nat.zero_le _,?_,?_⟩
 ·simp only [S2,ds_succ,ds_zero,belows,below,List.length_cons,Bool.and_true,Bool.true_and,Bool.and_eq_true,decide_eq_true_eq];exact⟨by omega,by omega,below_free _ _ (Fr.h _),below_free _ _ (Fr.h _)⟩
 ·simp only [S2,List.all_cons,List.all_append,Bool.and_eq_true];refine⟨?_,?_,ents_below⟩
  ·refine belowsA (belows_free _ _ A2_free) (owns_below ?_);simp only [List.length_cons,List.length_append,List.length_replicate,ents_len,List.length_drop];omega
  ·rw [List.all_eq_true];intro e he;rw [List.eq_of_mem_replicate he];rfl
theorem mid_get {α:Type}{A B:List α}{x:α}{j:Nat}(h:A.length=j):(A++x::B)[j]?=some x:=by subst h;simp
theorem mid_set {α:Type}{A B:List α}{x y:α}{j:Nat}(h:A.length=j):(A++x::B).set j y=A++y::B:=by subst h;simp
theorem S1_fit {n:Nat}{rs:List GRule}{i:Nat}:Fit 0 (S1 n rs i):=by
 refine⟨Nat.zero_le _,?_,?_⟩
 ·simp only [S1,ds_succ,ds_zero,belows,below,List.length_cons,Bool.and_true,Bool.true_and,Bool.and_eq_true,decide_eq_true_eq];exact⟨by omega,below_free _ _ (Fr.h _),below_free _ _ (Fr.h _),below_free _ _ (Fr.h _)⟩
 ·simp only [S1,List.all_cons,Bool.and_eq_true];refine⟨?_,ents_below⟩;exact owns_below (by simp only [List.length_cons,ents_len];omega)
theorem allD_T {t0:GScope}(hd:t0.Defs.length≤1048576) (hr:t0.Rules.length≤1048576) (hg:∀r∈t0.Rules,r.Guard.length≤1048576∧r.Value.length≤1048576) :
 Den Tryz.prog 233 [e_GScope t0] (e_s_s_i64 ((sL t0.Defs.length t0.Rules t0.Rules.length).map fun p=>dsort p.2)):=by
 refine dk 57 k233 ?_;simp only [k233,Kf.of,zs,ze];refine ss (rg ?_);have hm:mks 24 ([]:List Int) (t0.Defs.length:Int) (t0.Defs.length:Int)=some (List.replicate t0.Defs.length []):=by
  unfold mks;rw [if_pos ⟨by omega,by omega,by omega,by simp;omega⟩];simp
 obtain⟨f2,f3,f4,f5,f6⟩:=mks_f (e:=e_s_i64) hm;(try simp only [zz]);refine ss (rg ?_);(try simp only [zz]at f5 f6);(try simp only [zz,f2,f3,f4,f5]);refine ss (ss (rg ?_));(try simp only [zz,f2,f3,f4,f5]);refine tl (S:=⟨ds 3 (.own 0 0::ds 9 (e_s_GRule t0.Rules::e_i64 (t0.Rules.length:Int)::e_i64 0::ds 42 [])),[.live 1 0 (List.replicate t0.Defs.length (.v (.slice none 0 0)))]⟩) (tq [ok 1] (by simp only [zg,sqS_same idfrees_rep])) ?_;refine adoptXs_T (S:=1) (id:=0) (x:=t0.Defs.length) ?_;rw [adopt_all _ _ _ (Nat.le_refl _),Nat.sub_self,List.replicate_zero,List.append_nil];refine T.blkI t0.Rules.length (S1 t0.Defs.length t0.Rules) (At.same _ _ _ (Subs.refl' _)) (fun i _=>S1_fit) (fun i hi=>?_) stab_S ?_
 ·rw [S1_q];refine ss (rg ?_);simp only [zz];refine ss (cd rfl ?_);simp only [zz];refine gP.mk (fun hc=>?_) (fun hc=>?_)
  ·have hi:i<t0.Rules.length:=by omega
   refine sk ?_;simp only [zz];obtain⟨r,hr1⟩:∃r,r=t0.Rules[i]:=⟨_,rfl⟩;have hidx:idx t0.Rules (i:Int)=some r:=by rw [hr1];simp [idx,hi]
   have g2:t0.Rules[i]?=some r:=by rw [hr1];exact List.getElem?_eq_getElem hi
   have hrg:=hg r (by rw [hr1];exact List.getElem_mem hi);have hL:(sL t0.Defs.length t0.Rules i).length=t0.Defs.length:=sL_len;have hLs:sL t0.Defs.length t0.Rules (i+1)=stL t0.Defs.length (sL t0.Defs.length t0.Rules i) r:=by rw [sL_succ hi,hr1]
   have hLb:=sL_bound (n:=t0.Defs.length) hg (i:=i) (by omega);generalize hLL:sL t0.Defs.length t0.Rules i=L at hL hLs hLb⊢;obtain⟨E,hE⟩:∃E,E=ents L:=⟨_,rfl⟩;have hEl:E.length=L.length:=by rw [hE,ents_len]
   rw [←hE];refine ss (bk (ss (rg ?_)));simp only [zz,g2,List.getElem?_concat_length,set_concat];refine ss (rg ?_);have hol:(owns 1 L).length=t0.Defs.length:=by rw [owns_len,hL]
   have hw:wrapF .i64 ((i:Int)+1)=((i+1:Nat):Int):=by rw [wrapI ⟨by omega,by omega⟩];omega
   have skipped:¬(0≤r.Def∧r.Def<(t0.Defs.length:Int))→sL t0.Defs.length t0.Rules (i+1)=L:=fun h=>by rw [hLs];exact if_neg h
   by_cases h0:0≤r.Def
   ·by_cases h1:r.Def<(t0.Defs.length:Int)
    ·simp only [zz,g2,List.getElem?_concat_length,set_concat,hol,h0,h1];refine cd rfl ?_;simp only [zz];have hdl:r.Def.toNat<L.length:=by rw [hL];omega
     obtain⟨p,hp⟩:∃p,L[r.Def.toNat]?=some p:=⟨_,List.getElem?_eq_getElem hdl⟩;have hEd:r.Def.toNat<E.length:=by rw [hEl];exact hdl
     have k0:r.Def.toNat<t0.Defs.length:=by omega
     have k1:(owns 1 L)[r.Def.toNat]?=some (.own (r.Def.toNat+1) p.1):=by rw [owns_get,hp,Option.map_some,Nat.add_comm]
     have k2:∀y,(E++[y])[r.Def.toNat]?=some (.live 1 p.1 (p.2.map e_i64)):=fun y=>by
      rw [List.getElem?_append_left hEd,hE];unfold ents;rw [List.getElem?_map,hp];rfl
     have k3:∀y e,(E++[y]).set r.Def.toNat e=E.set r.Def.toNat e++[y]:=fun y e=>by rw [List.set_append,if_pos hEd]
     have k4:∀e,(owns 1 L).set r.Def.toNat e=(owns 1 L).set r.Def.toNat e:=fun e=>rfl;have hpb:=hLb p (List.mem_of_getElem? hp);have hDb:=dOf_len (n:=t0.Defs.length) hrg;have k5:(p.2.length+(dOf t0.Defs.length r).length)*8≤2 ^ 47:=by
      have:2097152*i≤2097152*1048576:=Nat.mul_le_mul_left _ (by omega);omega
     have k6:neN (E.length+1) (r.Def.toNat+1)=true:=neN_of (by omega);refine ay hmix [[],[],[],[],[],[],[],[],[],[],[],[],[2]] (by kernel_rfl) ?_;simp only [zz,zy,hol,h0,h1,k0,k1,k2,k3,k6,List.getElem?_concat_length,set_concat];have hdef:deps_definitionsOf r (t0.Defs.length:Int)=some (dOf t0.Defs.length r):=deps_definitionsOf_s hrg _;refine lq (deps_definitionsOf_ok hdef) ?_ (by simp only [zg]);(try simp only [zz]at k5);simp only [zz,zy,hol,h0,h1,k0,k1,k2,k3,k5,k6,List.getElem?_concat_length,set_concat];refine⟨k6,rg ?_⟩;simp only [zz,KI_normal,hw];refine⟨hi,?_⟩;have hst:stL t0.Defs.length L r=L.set r.Def.toNat (p.1+1,p.2++dOf t0.Defs.length r):=by
      unfold stL;rw [if_pos ⟨h0,h1⟩,modify_set hp]
     have e1:(owns 1 L).set r.Def.toNat (.own (r.Def.toNat+1) (p.1+1))=owns 1 (sL t0.Defs.length t0.Rules (i+1)):=by
      rw [hLs,hst,←owns_set,Nat.add_comm 1]
     have e2:E.set r.Def.toNat (.live 1 (p.1+1) (p.2.map e_i64++(dOf t0.Defs.length r).map e_i64))=ents (sL t0.Defs.length t0.Rules (i+1)):=by
      rw [hLs,hst,hE];unfold ents;rw [List.map_set,List.map_append]
     rw [S1_q,e1,e2,←List.cons_append];exact At.mk _ _ _ _ (by repeat (first|exact Subs.refl' _|refine Subs.cons (Sub.refl _) ?_|refine Subs.cons (Sub.toDead _) ?_))
    ·simp only [zz,g2,List.getElem?_concat_length,set_concat,hol,h0,h1];refine cd rfl ?_;simp only [zz];refine sk ?_;simp only [zz];refine rg ?_;simp only [zz,KI_normal,hw];refine⟨hi,?_⟩;rw [S1_q,skipped (fun h=>h1 h.2),←hE,←List.cons_append];exact At.mk _ _ _ _ (by repeat (first|exact Subs.refl' _|refine Subs.cons (Sub.refl _) ?_|refine Subs.cons (Sub.toDead _) ?_))
   ·simp only [zz,g2,List.getElem?_concat_length,set_concat,hol,h0];refine cd rfl ?_;simp only [zz];refine sk ?_;simp only [zz];refine rg ?_;simp only [zz,KI_normal,hw];refine⟨hi,?_⟩;rw [S1_q,skipped (fun h=>h0 h.1),←hE,←List.cons_append];exact At.mk _ _ _ _ (by repeat (first|exact Subs.refl' _|refine Subs.cons (Sub.refl _) ?_|refine Subs.cons (Sub.toDead _) ?_))
  ·refine xt ?_;simp only [zz,KI_exit];have hi:i=t0.Rules.length:=by omega
   subst hi;exact⟨rfl,At.same _ _ _ (by repeat (first|exact Subs.refl' _|refine Subs.cons (Sub.refl _) ?_|refine Subs.cons (Sub.toDead _) ?_))⟩
 ·simp only [zz];rw [S1_q];have hL:(sL t0.Defs.length t0.Rules t0.Rules.length).length=t0.Defs.length:=sL_len;have hLb:=sL_bound (n:=t0.Defs.length) hg (i:=t0.Rules.length) (Nat.le_refl _);generalize sL t0.Defs.length t0.Rules t0.Rules.length=L at hL hLb⊢;have hol:(owns 1 L).length=t0.Defs.length:=by rw [owns_len,hL]
  refine ss (ss (rg ?_));simp only [zz,hol];refine T.blkI t0.Defs.length (S2 t0.Defs.length L) ?_ (fun j hj=>S2_fit hL hj) (fun j hj=>?_) stab_S ?_
  ·rw [S2_q];exact At.same _ _ _ (by repeat (first|exact Subs.refl' _|refine Subs.cons (Sub.refl _) ?_|refine Subs.cons (Sub.toDead _) ?_))
  ·rw [S2_q];refine ss (rg ?_);simp only [zz];refine ss (cd rfl ?_);simp only [zz];refine gP.mk (fun hc=>?_) (fun hc=>?_)
   ·have hj:j<t0.Defs.length:=by omega
    have hjL:j<L.length:=by omega
    obtain⟨p,hp⟩:∃p,p=L[j]:=⟨_,rfl⟩;have hdr:L.drop j=p::L.drop (j+1):=by rw [hp];exact List.drop_eq_getElem_cons hjL
    have hpb:=hLb p (by rw [hp];exact List.getElem_mem hjL);have hsort:deps_sortedSet p.2=some (dsort p.2):=deps_sortedSet_s (by
     have:2097152*t0.Rules.length≤2097152*1048576:=Nat.mul_le_mul_left _ (by omega);omega)
    have hA:(A2 L j).length=j:=by unfold A2;rw [List.length_map,List.length_take];omega
    have hG:(List.replicate j Ent.gone).length=j:=by simp
    rw [hdr];simp only [owns,ents,List.map_cons];obtain⟨B,hB⟩:∃B,B=owns (1+j+1) (L.drop (j+1)):=⟨_,rfl⟩;obtain⟨F,hF⟩:∃F,F=ents (L.drop (j+1)):=⟨_,rfl⟩;have hF':(L.drop (j+1)).map (fun p=>Ent.live 1 p.1 (p.2.map e_i64))=F:=by rw [hF];rfl
    rw [←hB,hF',Nat.add_comm 1 j];have hBl:(A2 L j++.own (j+1) p.1::B).length=t0.Defs.length:=by
     rw [List.length_append,List.length_cons,hA,hB,owns_len,List.length_drop];omega
    refine sk ?_;simp only [zz];refine ss (bk (ss (rg ?_)));simp only [zz,hBl,hj,mid_get hA,mid_set hA];refine rg ?_;simp only [zz,hBl,hj,mid_get hA,mid_set hA];refine callX_C (deps_sortedSet_c hsort) rfl (by simp only [List.getElem?_cons_succ];exact mid_get hG) ?_;simp only [zz,hBl,hj,mid_get hA,mid_set hA,mid_set hG];refine rg ?_;have hw:wrapF .i64 ((j:Int)+1)=((j+1:Nat):Int):=by rw [wrapI ⟨by omega,by omega⟩];omega
    simp only [zz,KI_normal,hw];refine⟨hj,?_⟩;have hA1:A2 L (j+1)=A2 L j++[e_s_i64 (dsort p.2)]:=by
     unfold A2;rw [List.take_add_one,List.getElem?_eq_getElem hjL,←hp,Option.toList_some,List.map_append];rfl
    have e1:A2 L j++.sl 1 ((dsort p.2).map e_i64)::B=A2 L (j+1)++owns (1+(j+1)) (L.drop (j+1)):=by
     rw [hA1,List.append_assoc,hB,show 1+j+1=1+(j+1) by omega];rfl
    have e2:List.replicate j Ent.gone++Ent.gone::F=List.replicate (j+1) Ent.gone++ents (L.drop (j+1)):=by
     rw [List.replicate_succ' (n:=j),List.append_assoc,hF];rfl
    rw [S2_q,e1,e2];exact At.same _ _ _ (by repeat (first|exact Subs.refl' _|refine Subs.cons (Sub.refl _) ?_|refine Subs.cons (Sub.toDead _) ?_))
   ·refine xt ?_;simp only [zz,KI_exit];have hj:j=t0.Defs.length:=by omega
    subst hj;exact⟨rfl,At.same _ _ _ (by repeat (first|exact Subs.refl' _|refine Subs.cons (Sub.refl _) ?_|refine Subs.cons (Sub.toDead _) ?_))⟩
  ·simp only [zz];rw [S2_q,←hL,List.drop_length];have hA:A2 L L.length=(L.map fun p=>dsort p.2).map e_s_i64:=by unfold A2;rw [List.take_length,List.map_map];rfl
   rw [hA];simp only [owns,List.append_nil];refine T.trim 1 (Nat.zero_le _) (by simp) ?_ ?_ ?_
   ·simp only [ds_succ,ds_zero,belows,below,Bool.and_true,Bool.true_and,Bool.and_eq_true,decide_eq_true_eq];exact⟨by omega,by omega,below_free _ _ (Fr.h _),below_free _ _ (Fr.h _)⟩
   ·simp only [List.take_succ_cons,List.take_zero,List.all_cons,List.all_nil,Bool.and_true];exact belows_free _ _ (Fr.l _)
   simp only [List.take_succ_cons,List.take_zero];refine ss (rg ?_);simp only [zz];exact rt (er (by simp only [zz,zr];exact fq (by simp only [zg])))
theorem sL_snd {n:Nat}{rs:List GRule}:∀i,i≤rs.length→∀d,d<n→((sL n rs i)[d]?).map (·.2)=some ((((rs.take i).filter fun(r:GRule)=>r.Def==(d:Int)).map (dOf n)).flatten)
 |0,_,d,hd=>by simp [sL,hd]
 |i+1,h,d,hd=>by
  have ih:=sL_snd (n:=n) (rs:=rs) i (by omega) d hd;rw [sL_succ h,List.take_add_one,List.getElem?_eq_getElem h,Option.toList_some,List.filter_append,List.map_append,List.flatten_append];unfold stL;split
  ·rename_i hc;rw [List.getElem?_modify];by_cases hrd:rs[i].Def.toNat=d
   ·have he:rs[i].Def=(d:Int):=by omega
    simp only [if_pos hrd,Option.map_eq_map]
    cases hx:(sL n rs i)[d]? with
    |none=>rw [hx]at ih;cases ih
    |some p=>
     rw [hx]at ih;simp only [Option.map_some,Option.some.injEq]at ih;simp [he,ih]
   ·have he:(rs[i].Def==(d:Int))=false:=by
     rw [beq_eq_false_iff_ne];intro he;exact hrd (by rw [he];simp)
    simp only [if_neg hrd,Option.map_eq_map,Option.map_id'];simp [he,ih]
  ·rename_i hc;have he:(rs[i].Def==(d:Int))=false:=by
    rw [beq_eq_false_iff_ne];intro he;exact hc (by omega)
   simp [he,ih]
theorem sL_allD {t0:GScope}:((sL t0.Defs.length t0.Rules t0.Rules.length).map fun p=>dsort p.2)=allD t0:=by
 apply List.ext_getElem?;intro d;unfold allD;rw [List.getElem?_map,List.getElem?_map];by_cases hd:d<t0.Defs.length
 ·have h:=sL_snd (n:=t0.Defs.length) (rs:=t0.Rules) t0.Rules.length (Nat.le_refl _) d hd;rw [List.take_length]at h;rw [List.getElem?_range hd,Option.map_some]
  cases hx:(sL t0.Defs.length t0.Rules t0.Rules.length)[d]? with
  |none=>rw [hx]at h;cases h
  |some p=>
   rw [hx]at h;simp only [Option.map_some,Option.some.injEq]at h⊢;rw [h];rfl
 ·rw [List.getElem?_eq_none (by rw [sL_len];omega),List.getElem?_eq_none (by simp;omega)];rfl
theorem deps_allDirect_ok {t0:GScope}{r:List (List Int)}(h:deps_allDirect t0=some r):Den Tryz.prog 233 [e_GScope t0] (e_s_s_i64 r):=by
 have h':=h;unfold deps_allDirect at h';split at h'
 ·rename_i hc;obtain⟨h1,h2,h3⟩:=hc;have hs:=deps_allDirect_s ⟨h1,h2,h3⟩;rw [h]at hs;obtain rfl:=Option.some.inj hs;have:=allD_T h1 h2 h3;rwa [sL_allD]at this
 ·cases h'
theorem expr_TypeOf_ok {t0:List GNode}{t1:GSignature}{r:(GType×Int×Int)}(h:expr_TypeOf t0 t1=some r):Den Tryz.prog 266 [e_s_GNode t0,e_GSignature t1] (.tup [e_GType r.1,e_i64 r.2.1,e_i64 r.2.2]):=by
 refine dk 73 k266 ?_;simp only [k266,Kf.of,zs,ze];unfold expr_TypeOf at h;refine ss (rg ?_);(try simp only [zz]);refine ss (rg ?_);obtain⟨x1,a1,h⟩:=bs h;simp only [zz];refine cq (expr_structure_ok a1) ?_ (by simp only [zg]);(try simp only [zz]);refine ss (ss (rg ?_));(try simp only [zz]);refine cd rfl ?_;(try simp only [zz]);refine gi h (fun c2 h=>?_) fun c2 h=>?_
 ·have e2:=nT c2;refine ss (rg ?_);(try simp only [zz]);cases h;exact rt ez
 have e3:=nD c2;refine sk ?_;(try simp only [zz,c2,e3]);refine ss (rg ?_);(try simp only [zz]);refine ss (ss (rg ?_));(try simp only [zz]);obtain⟨y4,h5,h⟩:=bs h;refine lm h5 (fun q=>⟨ds 3 (.ref 0 0 0 0::.ref 1 0 0 0::ds 5 (.own 2 0::ds 16 (e_s_GNode t0::e_i64 (t0.length:Int)::e_i64 q.2::ds 45 []))),[.live 6 0 [e_GSignature t1],.live 2 0 [.agg [e_i64 0,e_i64 0]],.live 2 0 (q.1.map e_GType)]⟩) (fun b19=>⟨ds 4 (.ref 0 0 0 0::ds 5 (.own 1 0::ds 64 [])),[.live 2 0 [.agg [e_i64 0,e_i64 0]],.live 2 0 (b19.map e_GType)]⟩) (tz [ok 0,ok 1,on 2]) ?_ ?_
 ·rintro ⟨s3,s4⟩ z6 h7 h8;simp only [expr_TypeOf_L1]at h7;refine ss (rg ?_);(try simp only [zz]);refine ss (cd rfl ?_);(try simp only [zz]);refine gi h7 (fun c5 h7=>?_) fun c5 h7=>?_
  ·refine sk ?_;(try simp only [zz,c5]);refine ss (bk (ss (rg ?_)));obtain⟨x6,f10,f11,h7⟩:=bI h7;(try simp only [zz,f10,f11]);refine ss ?_;refine jm h7 (fun j9=>⟨ds 3 (.ref 0 0 0 0::.ref 1 0 0 0::ds 5 (.own 2 0::e_i64 s4::.ref 3 0 0 0::ds 14 (e_s_GNode t0::e_i64 (t0.length:Int)::e_i64 s4::ds 12 (e_bool j9::ds 32 [])))),[.live 6 0 [e_GSignature t1],.live 2 0 [.agg [e_i64 0,e_i64 0]],.live 2 0 (s3.map e_GType),.live 2 0 [e_GNode x6]]⟩) (fun z13 h12=>?_) fun j9 h12 h7=>?_
   ·refine rg ?_;(try simp only [zz]);refine gi h12 (fun c7 h12=>?_) fun c7 h12=>?_
    ·have e14:=nT c7;obtain⟨x8,a16,h12⟩:=bs h12;simp only [zz,c7,e14];refine cq (expr_UsesN_ok a16) ?_ (by simp only [zg,e3,e14]);(try simp only [zz,c7,e14]);cases h12;exact tz [ok 0,ok 1,ok 2,ok 3]
    have e15:=nD c7;(try simp only [zz,c7,e15]);cases h12;exact tz [ok 0,ok 1,ok 2,ok 3]
   refine cd rfl ?_;(try simp only [zz]);refine gi h7 (fun c10 h7=>?_) fun c10 h7=>?_
   ·refine ss (rg ?_);(try simp only [zz]);cases h7;cases h8 _ rfl;cases h;exact rt ez
   refine sk ?_;(try simp only [zz,c10]);refine ss (rg ?_);obtain⟨x11,a17,h7⟩:=bs h7;simp only [zz];refine cq (expr_Arity_ok a17) ?_ (by simp only [zg,e3,c10]);(try simp only [zz]);refine ss (ay hmix [[],[],[],[],[],[],[],[],[],[],[]] (by kernel_rfl) ?_);obtain⟨x12,a18,h7⟩:=bs h7;obtain⟨f19,f20,f21,f22,f23⟩:=subl_o (e:=e_GType) a18;(try simp only [zz]at f23);obtain⟨x13,a24,h7⟩:=bs h7;simp only [zz,f19,f20,f21,f22,f23,zy];refine lv (expr_nodeType_ok a24) ?_ rfl rfl rfl (by simp only [zg,e3,c10,zy,f19,f20,f21,f22,f23]);(try simp only [zz,f19,f20,f21,f22,f23,zy]);refine ss (ss (rg ?_));(try simp only [zz]);refine cd rfl ?_;(try simp only [zz]);refine gi h7 (fun c14 h7=>?_) fun c14 h7=>?_
   ·have e25:=nT c14;refine ss (rg ?_);(try simp only [zz]);cases h7;cases h8 _ rfl;cases h;exact rt ez
   have e26:=nD c14;refine sk ?_;(try simp only [zz,c14,e26]);refine ay hmix [[],[],[],[2],[]] (by kernel_rfl) ?_;obtain⟨x15,a27,h7⟩:=bs h7;obtain⟨f28,f29,f30⟩:=trunc_f (e:=e_GType) a27;(try simp only [zz]at f30);obtain⟨x16,a31,h7⟩:=bs h7;obtain⟨f32,f33⟩:=app_f (e:=e_GType) a31;(try simp only [zz]at f32 f33);(try simp only [zz,f28,f29,f30,f32,f33,zy]);refine rg ?_;(try simp only [zz]);cases h7;exact tz [ok 0,ok 1,ov 2 2]
  refine xt ?_;(try simp only [zz,c5]);cases h7;exact tz [ok 1,ok 2]
 rintro b19 rfl;dsimp only at h;(try simp only [zz]);refine ss (rg ?_);obtain⟨x20,f35,f36,f37,h⟩:=bO h;(try simp only [zz,f35,f36,f37]);cases h;exact rt ez
theorem ref10_TypeOf_ok {t0:List GNode}{t1:GSignature}{r:(GType×Int×Int)}(h:ref10_TypeOf t0 t1=some r):Den Tryz.prog 271 [e_s_GNode t0,e_GSignature t1] (.tup [e_GType r.1,e_i64 r.2.1,e_i64 r.2.2]):=by
 refine dk 65 k271 ?_;simp only [k271,Kf.of,zs,ze];unfold ref10_TypeOf at h;refine ss (rg ?_);(try simp only [zz]);refine ss (rg ?_);obtain⟨x1,a1,h⟩:=bs h;simp only [zz];refine cq (ref10_structure_ok a1) ?_ (by simp only [zg]);(try simp only [zz]);refine ss (ss (rg ?_));(try simp only [zz]);refine cd rfl ?_;(try simp only [zz]);refine gi h (fun c2 h=>?_) fun c2 h=>?_
 ·have e2:=nT c2;refine ss (rg ?_);(try simp only [zz]);cases h;exact rt ez
 have e3:=nD c2;refine sk ?_;(try simp only [zz,c2,e3]);refine ss (rg ?_);(try simp only [zz]);refine ss (ss (rg ?_));(try simp only [zz]);obtain⟨y4,h5,h⟩:=bs h;refine lm h5 (fun q=>⟨e_s_GNode t0::ds 2 (.ref 0 0 0 0::.ref 1 0 0 0::ds 5 (.own 2 0::e_i64 q.2::ds 55 [])),[.live 6 0 [e_GSignature t1],.live 2 0 [.agg [e_i64 0,e_i64 0]],.live 2 0 (q.1.map e_GType)]⟩) (fun b15=>⟨ds 4 (.ref 0 0 0 0::ds 5 (.own 1 0::ds 56 [])),[.live 2 0 [.agg [e_i64 0,e_i64 0]],.live 2 0 (b15.map e_GType)]⟩) (tz [ok 0,ok 1,on 2]) ?_ ?_
 ·rintro ⟨s3,s4⟩ z6 h7 h8;simp only [ref10_TypeOf_L1]at h7;refine ss (ss (rg ?_));(try simp only [zz]);refine cd rfl ?_;(try simp only [zz]);refine gi h7 (fun c5 h7=>?_) fun c5 h7=>?_
  ·refine sk ?_;(try simp only [zz,c5]);refine ss (bk (ss (rg ?_)));obtain⟨x6,f10,f11,h7⟩:=bI h7;obtain⟨x7,a12,h7⟩:=bs h7;simp only [zz,f10,f11];refine cq (ref10_Arity_ok a12) ?_ (by simp only [zg,e3]);(try simp only [zz,f10,f11]);refine ss (ay hmix [[],[],[],[],[],[],[],[],[],[],[],[],[],[]] (by kernel_rfl) ?_);obtain⟨x8,a13,h7⟩:=bs h7;obtain⟨f14,f15,f16,f17,f18⟩:=subl_o (e:=e_GType) a13;(try simp only [zz]at f18);obtain⟨x9,a19,h7⟩:=bs h7;simp only [zz,f10,f11,f14,f15,f16,f17,f18,zy];refine lv (ref10_Result_ok a19) ?_ rfl rfl rfl (by simp only [zg,e3,zy,f10,f11,f14,f15,f16,f17,f18]);(try simp only [zz,f10,f11,f14,f15,f16,f17,f18,zy]);refine ss (ss (rg ?_));(try simp only [zz]);refine cd rfl ?_;(try simp only [zz]);refine gi h7 (fun c10 h7=>?_) fun c10 h7=>?_
   ·have e20:=nT c10;refine ss (rg ?_);(try simp only [zz]);cases h7;cases h8 _ rfl;cases h;exact rt ez
   have e21:=nD c10;refine sk ?_;(try simp only [zz,c10,e21]);refine ay hmix [[],[],[],[2],[]] (by kernel_rfl) ?_;obtain⟨x11,a22,h7⟩:=bs h7;obtain⟨f23,f24,f25⟩:=trunc_f (e:=e_GType) a22;(try simp only [zz]at f25);obtain⟨x12,a26,h7⟩:=bs h7;obtain⟨f27,f28⟩:=app_f (e:=e_GType) a26;(try simp only [zz]at f27 f28);(try simp only [zz,f23,f24,f25,f27,f28,zy]);refine rg ?_;(try simp only [zz]);cases h7;exact tz [ok 0,ok 1,ov 2 2]
  refine xt ?_;(try simp only [zz,c5]);cases h7;exact tz [ok 1,ok 2]
 rintro b15 rfl;dsimp only at h;(try simp only [zz]);refine ss (rg ?_);obtain⟨x16,f30,f31,f32,h⟩:=bO h;(try simp only [zz,f30,f31,f32]);cases h;exact rt ez
theorem table_Validate_ok {t0:GTable}{t1:List GEnum}{r:(Int×Int)}(h:table_Validate t0 t1=some r):Den Tryz.prog 109 [e_GTable t0,e_s_GEnum t1] (.tup [e_i64 r.1,e_i64 r.2]):=by
 refine dk 119 k109 ?_;simp only [k109,Kf.of,zs,ze];unfold table_Validate at h;refine ss (rg ?_);(try simp only [zz]);refine ss (ss (rg ?_));(try simp only [zz]);refine cd rfl ?_;(try simp only [zz]);refine gi h (fun c1 h=>?_) fun c1 h=>?_
 ·refine ss (rg ?_);(try simp only [zz]);cases h;exact rt ez
 refine sk ?_;(try simp only [zz,c1]);refine ss ?_;refine jm h (fun j5=>⟨.dead::e_s_GEnum t1::.ref 0 0 0 0::ds 26 (e_bool j5::ds 91 []),[.live 6 0 [e_GTable t0]]⟩) (fun z2 h1=>?_) fun j5 h1 h=>?_
 ·refine rg ?_;obtain⟨x2,a3,h1⟩:=bs h1;simp only [zz];refine cq (value_ValidType_ok a3) ?_ (by simp only [zg]);(try simp only [zz]);refine gi h1 (fun c3 h1=>?_) fun c3 h1=>?_
  ·obtain⟨x4,a4,h1⟩:=bs h1;simp only [zz,c3];refine cq (value_ValidType_ok a4) ?_ (by simp only [zg,c3]);(try simp only [zz,c3]);cases h1;exact tz [ok 0]
  (try simp only [zz,c3]);cases h1;exact tz [ok 0]
 refine cd rfl ?_;(try simp only [zz]);refine gi h (fun c6 h=>?_) fun c6 h=>?_
 ·refine ss (rg ?_);(try simp only [zz]);cases h;exact rt ez
 refine sk ?_;(try simp only [zz,c6]);refine ss (rg ?_);obtain⟨x7,a5,h⟩:=bs h;simp only [zz];refine cq (value_Bounds_ok a5) ?_ (by simp only [zg,c6]);(try simp only [zz]);refine ss (rg ?_);obtain⟨x8,a6,h⟩:=bs h;simp only [zz];refine cq (value_Bounds_ok a6) ?_ (by simp only [zg,c6]);(try simp only [zz]);refine ss (ss (rg ?_));(try simp only [zz]);obtain⟨y7,h8,h⟩:=bs h;refine lm h8 (fun s9=>⟨ds 2 (.ref 0 0 0 0::ds 3 (e_i64 x7.1::e_i64 x7.2::e_i64 x8.1::e_i64 x8.2::ds 35 (e_s_GRow t0.Rows::e_i64 (t0.Rows.length:Int)::e_i64 s9::ds 73 []))),[.live 6 0 [e_GTable t0]]⟩) (fun q=>⟨ds 121 [],[]⟩) (tz [ok 0]) ?_ ?_
 ·rintro s9 z9 h10 h11;simp only [table_Validate_L1]at h10;refine ss (rg ?_);(try simp only [zz]);refine ss (cd rfl ?_);(try simp only [zz]);refine gi h10 (fun c10 h10=>?_) fun c10 h10=>?_
  ·refine sk ?_;(try simp only [zz,c10]);refine ss (bk (ss (rg ?_)));obtain⟨x11,f13,f14,h10⟩:=bI h10;(try simp only [zz,f13,f14]);refine ss ?_;refine jm h10 (fun j15=>⟨ds 2 (.ref 0 0 0 0::ds 3 (e_i64 x7.1::e_i64 x7.2::e_i64 x8.1::e_i64 x8.2::e_i64 s9::.ref 1 0 0 0::ds 33 (e_s_GRow t0.Rows::e_i64 (t0.Rows.length:Int)::e_i64 s9::ds 23 (e_bool j15::ds 49 [])))),[.live 6 0 [e_GTable t0],.live 5 0 [e_GRow x11]]⟩) (fun z16 h15=>?_) fun j15 h15 h10=>?_
   ·refine rg ?_;obtain⟨x12,a17,h15⟩:=bs h15;simp only [zz];refine cq (daterange_Valid_ok a17) ?_ (by simp only [zg,c6]);(try simp only [zz]);refine gi h15 (fun c13 h15=>?_) fun c13 h15=>?_
    ·(try simp only [zz,c13]);refine gi h15 (fun c14 h15=>?_) fun c14 h15=>?_
     ·have e18:=eF c14;(try simp only [zz,c13,c14,e18]);cases h15;exact tz [ok 0,ok 1]
     have e19:=eD c14;(try simp only [zz,c13,c14,e19]);cases h15;exact tz [ok 0,ok 1]
    (try simp only [zz,c13]);cases h15;exact tz [ok 0,ok 1]
   refine cd rfl ?_;(try simp only [zz]);refine gi h10 (fun c16 h10=>?_) fun c16 h10=>?_
   ·refine ss (rg ?_);(try simp only [zz]);cases h10;cases h11 _ rfl;cases h;exact rt ez
   refine sk ?_;(try simp only [zz,c16]);refine ss ?_;refine jm h10 (fun j20=>⟨ds 2 (.ref 0 0 0 0::ds 3 (e_i64 x7.1::e_i64 x7.2::e_i64 x8.1::e_i64 x8.2::e_i64 s9::.ref 1 0 0 0::ds 33 (e_s_GRow t0.Rows::e_i64 (t0.Rows.length:Int)::e_i64 s9::ds 48 (e_bool j20::ds 24 [])))),[.live 6 0 [e_GTable t0],.live 5 0 [e_GRow x11]]⟩) (fun z21 h20=>?_) fun j20 h20 h10=>?_
   ·refine rg ?_;(try simp only [zz]);refine gi h20 (fun c17 h20=>?_) fun c17 h20=>?_
    ·(try simp only [zz,c17]);refine gi h20 (fun c18 h20=>?_) fun c18 h20=>?_
     ·(try simp only [zz,c17,c18]);refine gi h20 (fun c19 h20=>?_) fun c19 h20=>?_
      ·(try simp only [zz,c17,c18,c19]);cases h20;exact tz [ok 0,ok 1]
      (try simp only [zz,c17,c18,c19]);cases h20;exact tz [ok 0,ok 1]
     (try simp only [zz,c17,c18]);cases h20;exact tz [ok 0,ok 1]
    (try simp only [zz,c17]);cases h20;exact tz [ok 0,ok 1]
   refine cd rfl ?_;(try simp only [zz]);refine gi h10 (fun c21 h10=>?_) fun c21 h10=>?_
   ·refine ss (rg ?_);(try simp only [zz]);cases h10;cases h11 _ rfl;cases h;exact rt ez
   refine sk ?_;(try simp only [zz,c21]);refine ss ?_;refine jm h10 (fun j23=>⟨ds 2 (.ref 0 0 0 0::ds 3 (e_i64 x7.1::e_i64 x7.2::e_i64 x8.1::e_i64 x8.2::e_i64 s9::.ref 1 0 0 0::ds 33 (e_s_GRow t0.Rows::e_i64 (t0.Rows.length:Int)::e_i64 s9::ds 59 (e_bool j23::ds 13 [])))),[.live 6 0 [e_GTable t0],.live 5 0 [e_GRow x11]]⟩) (fun z23 h22=>?_) fun j23 h22 h10=>?_
   ·refine rg ?_;(try simp only [zz]);refine gi h22 (fun c22 h22=>?_) fun c22 h22=>?_
    ·(try simp only [zz,c22]);cases h22;exact tz [ok 0,ok 1]
    (try simp only [zz,c22]);cases h22;exact tz [ok 0,ok 1]
   refine cd rfl ?_;(try simp only [zz]);refine gi h10 (fun c24 h10=>?_) fun c24 h10=>?_
   ·refine ss (rg ?_);(try simp only [zz]);cases h10;cases h11 _ rfl;cases h;exact rt ez
   refine sk ?_;(try simp only [zz,c24]);refine ss (rg ?_);obtain⟨x25,a24,h10⟩:=bs h10;obtain⟨f25,f26,f27⟩:=subh_f (e:=e_GRow) a24;(try simp only [zz]at f27);obtain⟨x26,a28,h10⟩:=bs h10;simp only [zz,f25,f26,f27];refine cv (table_first_api_Row_ok (q1:=[e_p_GRow x11]) (frC frN) (fun x900 _ hb=>table_Validate_c1_ok hb) a28) ?_ rfl (by simp only [zg,c6,c16,c21,c24,f25,f26,f27]);(try simp only [zz,f25,f26,f27]);refine ss (rg ?_);(try simp only [zz]);refine cd rfl ?_;(try simp only [zz]);refine gi h10 (fun c27 h10=>?_) fun c27 h10=>?_
   ·refine ss (rg ?_);(try simp only [zz]);cases h10;cases h11 _ rfl;cases h;exact rt ez
   refine sk ?_;(try simp only [zz,c27]);refine rg ?_;(try simp only [zz]);cases h10;exact tz [ok 0]
  refine xt ?_;(try simp only [zz,c10]);cases h10;exact tz []
 rintro ⟨⟩ rfl;dsimp only at h;(try simp only [zz]);refine ss (rg ?_);(try simp only [zz]);cases h;exact rt ez
end Go.Proofs.Dev
