/-
  Contracts of the functions: each answers as its plain partial function says.
-/
import Derived.Test.YtfanhhhgcabpnaaGreatDoorK
import Derived.Test.YtfanhhhgcabpnaaGreatDoorPD
import Derived.Test.YtfanhhhgcabpnaaGreatDoorQ3
set_option linter.all false
set_option maxHeartbeats 1000000
set_option maxRecDepth 10000
namespace Go.Proofs.Dev
open Go Go.Tm
theorem ref17_tableError_ok {t0:GLaw}{t1:Int}{r:GLawError}(h:ref17_tableError t0 t1=some r):Den Tryz.prog 115 [e_GLaw t0,e_i64 t1] (e_GLawError r):=by
 refine dk 45 k115 ?_;simp only [k115,Kf.of,zs,ze];unfold ref17_tableError at h;refine ss (rg ?_);(try simp only [zz]);refine ss (rg ?_);obtain⟨x1,f2,f3,h⟩:=bI h;(try simp only [zz,f2,f3]);refine ss (rg ?_);(try simp only [zz]);refine ss (ss (rg ?_));obtain⟨x2,a4,h⟩:=bs h;simp only [zz];refine cq (ref08_IsIdentifier_ok a4) ?_ (by simp only [zg]);(try simp only [zz]);refine cd rfl ?_;(try simp only [zz]);refine gi h (fun c3 h=>?_) fun c3 h=>?_
 ·refine ss (rg ?_);(try simp only [zz]);refine ss (rg ?_);(try simp only [zz]);cases h;exact rt ez
 refine sk ?_;(try simp only [zz,c3]);refine ss (ss (rg ?_));obtain⟨x4,a5,h⟩:=bs h;simp only [zz];refine cq (ref17_nameTaken_ok a5) ?_ (by simp only [zg,c3]);(try simp only [zz]);refine cd rfl ?_;(try simp only [zz]);refine gi h (fun c5 h=>?_) fun c5 h=>?_
 ·refine ss (rg ?_);(try simp only [zz]);refine ss (rg ?_);(try simp only [zz]);cases h;exact rt ez
 refine sk ?_;(try simp only [zz,c5]);refine ss (rg ?_);obtain⟨x6,a6,h⟩:=bs h;simp only [zz];refine cq (ref12_Validate_ok a6) ?_ (by simp only [zg,c3,c5]);(try simp only [zz]);refine ss (ss (rg ?_));(try simp only [zz]);refine cd rfl ?_;(try simp only [zz]);refine gi h (fun c7 h=>?_) fun c7 h=>?_
 ·have e7:=eT c7;refine ss (rg ?_);(try simp only [zz]);cases h;exact rt ez
 have e8:=eF c7;refine sk ?_;(try simp only [zz,c7,e8]);refine ss (rg ?_);(try simp only [zz]);refine jm h (fun j9=>⟨ds 4 (.ref 0 0 0 0::.dead::.ref 1 0 0 0::ds 40 []),[.live 4 0 [.agg [e_i64 0,e_i64 0,e_i64 0,e_i64 0]],.live 4 0 [.agg [e_i64 x6.2,e_i64 2,e_i64 t1,e_i64 j9]]]⟩) (fun z10 h9=>?_) fun j9 h9 h=>?_
 ·refine ss (rg ?_);(try simp only [zz]);refine cd rfl ?_;(try simp only [zz]);refine gi h9 (fun c8 h9=>?_) fun c8 h9=>?_
  ·refine rg ?_;(try simp only [zz]);cases h9;exact tz [ok 1,ok 3]
  refine sk ?_;(try simp only [zz,c8]);cases h9;exact tz [ok 1,ok 3]
 refine ss (rg ?_);(try simp only [zz]);cases h;exact rt ez
theorem deps_Transitive_ok {t0:GScope}{t1:Int}{r:List Int}(h:deps_Transitive t0 t1=some r):Den Tryz.prog 180 [e_GScope t0,e_i64 t1] (e_s_i64 r):=by
 refine dk 16 k180 ?_;simp only [k180,Kf.of,zs,ze];unfold deps_Transitive at h;refine ss (rg ?_);(try simp only [zz]);refine ss ?_;refine jm h (fun j2=>⟨.dead::e_i64 t1::.ref 0 0 0 0::ds 10 (e_bool j2::ds 4 []),[.live 5 0 [e_GScope t0]]⟩) (fun z2 h1=>?_) fun j2 h1 h=>?_
 ·refine rg ?_;(try simp only [zz]);refine gi h1 (fun c1 h1=>?_) fun c1 h1=>?_
  ·(try simp only [zz,c1]);cases h1;exact tz [ok 0]
  (try simp only [zz,c1]);cases h1;exact tz [ok 0]
 refine cd rfl ?_;(try simp only [zz]);refine gi h (fun c3 h=>?_) fun c3 h=>?_
 ·refine ss (rg ?_);(try simp only [zz]);cases h;exact rt ez
 refine sk ?_;(try simp only [zz,c3]);refine ss (rg ?_);obtain⟨x4,a3,h⟩:=bs h;simp only [zz];refine cq (deps_allDirect_ok a3) ?_ (by simp only [zg,c3]);obtain⟨x5,a4,h⟩:=bs h;simp only [zz];refine cq (deps_reached_ok a4) ?_ (by simp only [zg,c3]);(try simp only [zz]);cases h;exact rt ez
theorem law_checkType_ok {t0:List GNode}{t1:GSignature}{t2:GType}{r:Int}(h:law_checkType t0 t1 t2=some r):Den Tryz.prog 230 [e_s_GNode t0,e_GSignature t1,e_GType t2] (e_i64 r):=by
 refine dk 20 k230 ?_;simp only [k230,Kf.of,zs,ze];unfold law_checkType at h;refine ss (rg ?_);(try simp only [zz]);refine ss (rg ?_);obtain⟨x1,a1,h⟩:=bs h;simp only [zz];refine cq (expr_TypeOf_ok a1) ?_ (by simp only [zg]);(try simp only [zz]);refine ss (ss (rg ?_));(try simp only [zz]);refine cd rfl ?_;(try simp only [zz]);refine gi h (fun c2 h=>?_) fun c2 h=>?_
 ·have e2:=nT c2;refine ss (rg ?_);(try simp only [zz]);cases h;exact rt ez
 have e3:=nD c2;refine sk ?_;(try simp only [zz,c2,e3]);refine ss (ss (rg ?_));(try simp only [zz]);refine cd rfl ?_;(try simp only [zz]);refine gP.ite h (by rw [Bool.eq_false_iff];simp only [ne_eq,Bool.and_eq_true,beq_iff_eq,decide_eq_true_eq]) (fun c3 h=>?_) fun c3 h=>?_
 ·refine ss (rg ?_);(try simp only [zz]);cases h;exact rt ez
 refine sk ?_;(try simp only [zz,c3]);refine ss (rg ?_);(try simp only [zz]);cases h;exact rt ez
theorem ref17_exprError_ok {t0:List GNode}{t1:GSignature}{t2:GType}{r:Int}(h:ref17_exprError t0 t1 t2=some r):Den Tryz.prog 243 [e_s_GNode t0,e_GSignature t1,e_GType t2] (e_i64 r):=by
 refine dk 20 k243 ?_;simp only [k243,Kf.of,zs,ze];unfold ref17_exprError at h;refine ss (rg ?_);(try simp only [zz]);refine ss (rg ?_);obtain⟨x1,a1,h⟩:=bs h;simp only [zz];refine cq (ref10_TypeOf_ok a1) ?_ (by simp only [zg]);(try simp only [zz]);refine ss (ss (rg ?_));(try simp only [zz]);refine cd rfl ?_;(try simp only [zz]);refine gi h (fun c2 h=>?_) fun c2 h=>?_
 ·have e2:=nT c2;refine ss (rg ?_);(try simp only [zz]);cases h;exact rt ez
 have e3:=nD c2;refine sk ?_;(try simp only [zz,c2,e3]);refine ss (ss (rg ?_));(try simp only [zz]);refine cd rfl ?_;(try simp only [zz]);refine gP.ite h (by rw [Bool.eq_false_iff];simp only [ne_eq,Bool.and_eq_true,beq_iff_eq,decide_eq_true_eq]) (fun c3 h=>?_) fun c3 h=>?_
 ·refine ss (rg ?_);(try simp only [zz]);cases h;exact rt ez
 refine sk ?_;(try simp only [zz,c3]);refine ss (rg ?_);(try simp only [zz]);cases h;exact rt ez
theorem law_checkTables_ok {t0:GLaw}{r:GLawError}(h:law_checkTables t0=some r):Den Tryz.prog 64 [e_GLaw t0] (e_GLawError r):=by
 refine dk 67 k64 ?_;simp only [k64,Kf.of,zs,ze];unfold law_checkTables at h;refine ss (rg ?_);(try simp only [zz]);refine ss (ss (rg ?_));(try simp only [zz]);refine cd rfl ?_;(try simp only [zz]);refine gi h (fun c1 h=>?_) fun c1 h=>?_
 ·refine ss (rg ?_);(try simp only [zz]);cases h;exact rt ez
 refine sk ?_;(try simp only [zz,c1]);refine ss (ss (rg ?_));(try simp only [zz]);obtain⟨y1,h2,h⟩:=bs h;refine lm h2 (fun s2=>⟨.dead::.ref 0 0 0 0::.ref 1 0 0 0::ds 11 (e_s_GTable t0.Tables::e_i64 (t0.Tables.length:Int)::e_i64 s2::ds 51 []),[.live 3 0 [e_GLaw t0],.live 4 0 [.agg [e_i64 0,e_i64 0,e_i64 0,e_i64 0]]]⟩) (fun q=>⟨ds 2 (.ref 0 0 0 0::ds 65 []),[.live 4 0 [.agg [e_i64 0,e_i64 0,e_i64 0,e_i64 0]]]⟩) (tz [ok 0,ok 1]) ?_ ?_
 ·rintro s2 z3 h4 h5;simp only [law_checkTables_L1]at h4;refine ss (rg ?_);(try simp only [zz]);refine ss (cd rfl ?_);(try simp only [zz]);refine gi h4 (fun c3 h4=>?_) fun c3 h4=>?_
  ·refine sk ?_;(try simp only [zz,c3]);refine ss (bk (ss (rg ?_)));obtain⟨x4,f7,f8,h4⟩:=bI h4;(try simp only [zz,f7,f8]);refine ss (rg ?_);(try simp only [zz]);refine ss (rg ?_);obtain⟨x5,a9,h4⟩:=bs h4;simp only [zz];refine cq (table_Validate_ok a9) ?_ (by simp only [zg]);(try simp only [zz]);refine jm h4 (fun q=>⟨.dead::.ref 0 0 0 0::.ref 1 0 0 0::ds 2 (.ref 2 0 0 0::ds 8 (e_s_GTable t0.Tables::e_i64 (t0.Tables.length:Int)::e_i64 s2::ds 51 [])),[.live 3 0 [e_GLaw t0],.live 4 0 [.agg [e_i64 0,e_i64 0,e_i64 0,e_i64 0]],.live 4 0 [.agg [e_i64 q.1,e_i64 2,e_i64 s2,e_i64 q.2]]]⟩) (fun z11 h10=>?_) fun z11 h10 h4=>?_
   ·refine bk (ss (rg ?_));obtain⟨x6,a12,h10⟩:=bs h10;simp only [zz];refine cq (lexer_IsIdentifier_ok a12) ?_ (by simp only [zg]);(try simp only [zz]);refine cd rfl ?_;(try simp only [zz]);refine gi h10 (fun c7 h10=>?_) fun c7 h10=>?_
    ·refine rg ?_;(try simp only [zz]);cases h10;exact tz [ok 0,ok 1,ok 3]
    refine jm h10 (fun j12=>⟨.dead::.ref 0 0 0 0::.ref 1 0 0 0::ds 2 (.ref 2 0 0 0::e_i64 x5.1::e_i64 x5.2::ds 6 (e_s_GTable t0.Tables::e_i64 (t0.Tables.length:Int)::e_i64 s2::ds 19 (e_bool j12::ds 31 []))),[.live 3 0 [e_GLaw t0],.live 4 0 [.agg [e_i64 0,e_i64 0,e_i64 0,e_i64 0]],.live 4 0 [.agg [e_i64 0,e_i64 2,e_i64 s2,e_i64 0]]]⟩) (fun z14 h13=>?_) fun j12 h13 h10=>?_
    ·refine dy hmix ?_;obtain⟨x8,a15,h13⟩:=bs h13;simp only [zz,zy];refine lq (law_hasEnum_ok a15) ?_ (by simp only [zg,c7]);(try simp only [zz,zy]);refine gi h13 (fun c9 h13=>?_) fun c9 h13=>?_
     ·obtain⟨x10,a16,h13⟩:=bs h13;obtain⟨f17,f18,f19⟩:=subh_f (e:=e_GTable) a16;(try simp only [zz]at f19);obtain⟨x11,a20,h13⟩:=bs h13;simp only [zz,c9,f17,f18,f19,zy];refine cq (law_hasTable_ok a20) ?_ (by simp only [zg,c7,c9]);(try simp only [zz,c9,f17,f18,f19,zy]);cases h13;exact tz [ok 0,ok 1,ok 3]
     (try simp only [zz,c9,zy]);cases h13;exact tz [ok 0,ok 1,ok 3]
    refine cd rfl ?_;(try simp only [zz]);refine gi h10 (fun c13 h10=>?_) fun c13 h10=>?_
    ·refine rg ?_;(try simp only [zz]);cases h10;exact tz [ok 0,ok 1,ok 2]
    refine ss (rg ?_);(try simp only [zz]);refine cd rfl ?_;(try simp only [zz]);refine gi h10 (fun c14 h10=>?_) fun c14 h10=>?_
    ·have e21:=nT c14;refine ss (rg ?_);(try simp only [zz]);refine ss (rg ?_);(try simp only [zz]);refine cd rfl ?_;(try simp only [zz]);refine gi h10 (fun c15 h10=>?_) fun c15 h10=>?_
     ·have e23:=nT c15;refine rg ?_;(try simp only [zz]);cases h10;exact tz [ok 0,ok 1,ok 2]
     have e24:=nD c15;refine sk ?_;(try simp only [zz,c15,e24]);cases h10;exact tz [ok 0,ok 1,ok 2]
    have e22:=nD c14;refine sk ?_;(try simp only [zz,c14,e22]);cases h10;exact tz [ok 0,ok 1,ok 2]
   obtain⟨j16,j17⟩:=z11;dsimp only at h4;refine ss (rg ?_);(try simp only [zz]);refine cd rfl ?_;(try simp only [zz]);refine gi h4 (fun c18 h4=>?_) fun c18 h4=>?_
   ·have e25:=nT c18;refine ss (rg ?_);(try simp only [zz]);cases h4;cases h5 _ rfl;cases h;exact rt ez
   have e26:=nD c18;refine sk ?_;(try simp only [zz,c18,e26]);refine rg ?_;(try simp only [zz]);cases h4;exact tz [ok 0,ok 1]
  refine xt ?_;(try simp only [zz,c3]);cases h4;exact tz [ok 1]
 rintro ⟨⟩ rfl;dsimp only at h;(try simp only [zz]);refine ss (rg ?_);(try simp only [zz]);cases h;exact rt ez
theorem law_checkRule_ok {t0:GScope}{t1:Int}{t2:GSignature}{r:Int}(h:law_checkRule t0 t1 t2=some r):Den Tryz.prog 178 [e_GScope t0,e_i64 t1,e_GSignature t2] (e_i64 r):=by
 refine dk 142 k178 ?_;simp only [k178,Kf.of,zs,ze];unfold law_checkRule at h;refine ss (rg ?_);(try simp only [zz]);refine ss (rg ?_);obtain⟨x1,f2,f3,h⟩:=bI h;(try simp only [zz,f2,f3]);refine ss (rg ?_);(try simp only [zz]);refine ss (ss (rg ?_));obtain⟨x2,a4,h⟩:=bs h;obtain⟨f5,f6,f7⟩:=subh_f (e:=e_GRule) a4;(try simp only [zz]at f7);(try simp only [zz,f5,f6,f7]);obtain⟨y8,h9,h⟩:=bs h;refine lm h9 (fun q=>⟨.dead::e_i64 t1::.dead::.ref 0 0 0 0::.dead::.ref 1 0 0 0::.dead::.ref 2 0 0 0::e_i64 q.1::ds 11 (e_s_GRule x2::e_i64 (x2.length:Int)::e_i64 q.2::ds 122 []),[.live 5 0 [e_GScope t0],.live 6 0 [e_GSignature t2],.live 9 0 [e_GRule x1]]⟩) (fun b11=>⟨.dead::e_i64 t1::.dead::.ref 0 0 0 0::.dead::.ref 1 0 0 0::.dead::.ref 2 0 0 0::e_i64 b11::ds 136 [],[.live 5 0 [e_GScope t0],.live 6 0 [e_GSignature t2],.live 9 0 [e_GRule x1]]⟩) (tz [ok 0,ok 1,ok 2]) ?_ ?_
 ·rintro ⟨s3,s4⟩ z10 h11 h12;simp only [law_checkRule_L1]at h11;refine ss (rg ?_);(try simp only [zz]);refine ss (cd rfl ?_);(try simp only [zz]);refine gi h11 (fun c5 h11=>?_) fun c5 h11=>?_
  ·refine sk ?_;(try simp only [zz,c5]);refine jm h11 (fun j8=>⟨.dead::e_i64 t1::.dead::.ref 0 0 0 0::.dead::.ref 1 0 0 0::.dead::.ref 2 0 0 0::e_i64 j8::ds 11 (e_s_GRule x2::e_i64 (x2.length:Int)::e_i64 s4::ds 122 []),[.live 5 0 [e_GScope t0],.live 6 0 [e_GSignature t2],.live 9 0 [e_GRule x1]]⟩) (fun z14 h13=>?_) fun j8 h13 h11=>?_
   ·refine bk (ss (rg ?_));obtain⟨x6,f16,f17,h13⟩:=bI h13;(try simp only [zz,f16,f17]);refine ss (rg ?_);(try simp only [zz]);refine cd rfl ?_;(try simp only [zz]);refine gi h13 (fun c7 h13=>?_) fun c7 h13=>?_
    ·have e18:=eT c7;refine rg ?_;(try simp only [zz]);cases h13;exact tz [ok 0,ok 1,ok 2]
    have e19:=eF c7;refine sk ?_;(try simp only [zz,c7,e19]);cases h13;exact tz [ok 0,ok 1,ok 2]
   refine rg ?_;(try simp only [zz]);cases h11;exact tz [ok 0,ok 1,ok 2]
  refine xt ?_;(try simp only [zz,c5]);cases h11;exact tz [ok 0,ok 1,ok 2]
 rintro b11 rfl;dsimp only at h;(try simp only [zz]);refine ss (bk (ss (rg ?_)));obtain⟨x12,a20,h⟩:=bs h;simp only [zz];refine cq (lexer_IsIdentifier_ok a20) ?_ (by simp only [zg]);(try simp only [zz]);refine cd rfl ?_;(try simp only [zz]);refine gi h (fun c13 h=>?_) fun c13 h=>?_
 ·refine ss (rg ?_);(try simp only [zz]);cases h;exact rt ez
 refine ss (rg ?_);obtain⟨x14,a21,h⟩:=bs h;obtain⟨f22,f23,f24⟩:=subh_f (e:=e_GRule) a21;(try simp only [zz]at f24);obtain⟨x15,a25,h⟩:=bs h;simp only [zz,f22,f23,f24];refine cv (slices_ContainsFunc_api_Rule_api_Rule_ok (q1:=[e_p_GRule x1]) (frC frN) (fun x900 _ hb=>law_checkRule_c1_ok hb) a25) ?_ rfl (by simp only [zg,c13,f22,f23,f24]);(try simp only [zz,f22,f23,f24]);refine cd rfl ?_;(try simp only [zz,f22,f23,f24]);refine gi h (fun c16 h=>?_) fun c16 h=>?_
 ·refine ss (rg ?_);(try simp only [zz]);cases h;exact rt ez
 refine jm h (fun j18=>⟨.dead::e_i64 t1::.dead::.ref 0 0 0 0::.dead::.ref 1 0 0 0::.dead::.ref 2 0 0 0::e_i64 b11::ds 37 (e_bool j18::ds 98 []),[.live 5 0 [e_GScope t0],.live 6 0 [e_GSignature t2],.live 9 0 [e_GRule x1]]⟩) (fun z27 h26=>?_) fun j18 h26 h=>?_
 ·refine rg ?_;(try simp only [zz]);refine gi h26 (fun c17 h26=>?_) fun c17 h26=>?_
  ·(try simp only [zz,c17]);cases h26;exact tz [ok 0,ok 1,ok 2]
  (try simp only [zz,c17]);cases h26;exact tz [ok 0,ok 1,ok 2]
 refine cd rfl ?_;(try simp only [zz]);refine gi h (fun c19 h=>?_) fun c19 h=>?_
 ·refine ss (rg ?_);(try simp only [zz]);cases h;exact rt ez
 refine jm h (fun j24=>⟨ds 3 (.ref 0 0 0 0::.dead::.ref 1 0 0 0::.dead::.ref 2 0 0 0::e_i64 b11::ds 49 (e_bool j24::ds 86 [])),[.live 5 0 [e_GScope t0],.live 6 0 [e_GSignature t2],.live 9 0 [e_GRule x1]]⟩) (fun z29 h28=>?_) fun j24 h28 h=>?_
 ·refine dy hmix ?_;(try simp only [zz,zy]);refine gi h28 (fun c20 h28=>?_) fun c20 h28=>?_
  ·have e30:=nT c20;(try simp only [zz,c20,e30,zy]);refine gi h28 (fun c21 h28=>?_) fun c21 h28=>?_
   ·(try simp only [zz,c20,e30,c21,zy]);refine gi h28 (fun c22 h28=>?_) fun c22 h28=>?_
    ·obtain⟨x23,f33,f34,h28⟩:=bI h28;(try simp only [zz,c20,e30,c21,c22,f33,f34,zy]);cases h28;exact tz [ok 0,ok 1,ok 2]
    (try simp only [zz,c20,e30,c21,c22,zy]);cases h28;exact tz [ok 0,ok 1,ok 2]
   (try simp only [zz,c20,e30,c21,zy]);cases h28;exact tz [ok 0,ok 1,ok 2]
  have e31:=nD c20;(try simp only [zz,c20,e31,zy]);cases h28;exact tz [ok 0,ok 1,ok 2]
 refine cd rfl ?_;(try simp only [zz]);refine gi h (fun c25 h=>?_) fun c25 h=>?_
 ·refine ss (rg ?_);(try simp only [zz]);cases h;exact rt ez
 refine jm h (fun j27=>⟨ds 3 (.ref 0 0 0 0::.dead::.ref 1 0 0 0::.dead::.ref 2 0 0 0::e_i64 b11::ds 76 (e_bool j27::ds 59 [])),[.live 5 0 [e_GScope t0],.live 6 0 [e_GSignature t2],.live 9 0 [e_GRule x1]]⟩) (fun z36 h35=>?_) fun j27 h35 h=>?_
 ·refine rg ?_;(try simp only [zz]);refine gi h35 (fun c26 h35=>?_) fun c26 h35=>?_
  ·(try simp only [zz,c26]);cases h35;exact tz [ok 0,ok 1,ok 2]
  (try simp only [zz,c26]);cases h35;exact tz [ok 0,ok 1,ok 2]
 refine cd rfl ?_;(try simp only [zz]);refine gi h (fun c28 h=>?_) fun c28 h=>?_
 ·refine ss (rg ?_);(try simp only [zz]);cases h;exact rt ez
 refine jm h (fun j31=>⟨ds 3 (.ref 0 0 0 0::.dead::.ref 1 0 0 0::.dead::.ref 2 0 0 0::e_i64 b11::ds 85 (e_bool j31::ds 50 [])),[.live 5 0 [e_GScope t0],.live 6 0 [e_GSignature t2],.live 9 0 [e_GRule x1]]⟩) (fun z38 h37=>?_) fun j31 h37 h=>?_
 ·refine rg ?_;(try simp only [zz]);refine gi h37 (fun c29 h37=>?_) fun c29 h37=>?_
  ·(try simp only [zz,c29]);refine gi h37 (fun c30 h37=>?_) fun c30 h37=>?_
   ·(try simp only [zz,c29,c30]);cases h37;exact tz [ok 0,ok 1,ok 2]
   (try simp only [zz,c29,c30]);cases h37;exact tz [ok 0,ok 1,ok 2]
  (try simp only [zz,c29]);cases h37;exact tz [ok 0,ok 1,ok 2]
 refine cd rfl ?_;(try simp only [zz]);refine gi h (fun c32 h=>?_) fun c32 h=>?_
 ·refine ss (rg ?_);(try simp only [zz]);cases h;exact rt ez
 refine ss (rg ?_);(try simp only [zz]);refine cd rfl ?_;(try simp only [zz]);refine gi h (fun c33 h=>?_) fun c33 h=>?_
 ·refine ss (rg ?_);(try simp only [zz]);cases h;exact rt ez
 refine ss (rg ?_);obtain⟨x34,a39,h⟩:=bs h;simp only [zz];refine cq (law_validSource_ok a39) ?_ (by simp only [zg,c13,c16,c19,c25,c28,c32]);(try simp only [zz]);refine cd rfl ?_;(try simp only [zz]);refine gi h (fun c35 h=>?_) fun c35 h=>?_
 ·refine ss (rg ?_);(try simp only [zz]);cases h;exact rt ez
 refine sk ?_;(try simp only [zz,c35]);obtain⟨z41,h40,h⟩:=bs h;refine tj (fun(q:Unit)=>⟨ds 3 (.ref 0 0 0 0::.dead::.ref 1 0 0 0::.dead::.ref 2 0 0 0::ds 137 []),[.live 5 0 [e_GScope t0],.live 6 0 [e_GSignature t2],.live 9 0 [e_GRule x1]]⟩) z41 ?_ ?_
 ·refine ss (rg ?_);(try simp only [zz]);refine cd rfl ?_;(try simp only [zz]);refine gi h40 (fun c36 h40=>?_) fun c36 h40=>?_
  ·refine ss (rg ?_);obtain⟨x37,a42,h40⟩:=bs h40;simp only [zz];refine cq (law_checkType_ok a42) ?_ (by simp only [zg,c13,c16,c19,c25,c28,c32,c35]);(try simp only [zz]);refine ss (rg ?_);(try simp only [zz]);refine cd rfl ?_;(try simp only [zz]);refine gi h40 (fun c38 h40=>?_) fun c38 h40=>?_
   ·have e43:=nT c38;refine ss (rg ?_);(try simp only [zz]);cases h40;cases h;exact rt ez
   have e44:=nD c38;refine sk ?_;(try simp only [zz,c38,e44]);cases h40;exact tz [ok 0,ok 1,ok 2]
  refine sk ?_;(try simp only [zz,c36]);cases h40;exact tz [ok 0,ok 1,ok 2]
 rintro ⟨⟩ rfl;dsimp only at h;refine ss (dy hmix ?_);obtain⟨x39,f46,f47,h⟩:=bI h;obtain⟨x40,a48,h⟩:=bs h;simp only [zz,f46,f47,zy];refine cq (law_checkType_ok a48) ?_ (by simp only [zg,c13,c16,c19,c25,c28,c32,c35]);(try simp only [zz,f46,f47,zy]);cases h;exact rt ez
theorem ref17_ruleError_ok {t0:GLaw}{t1:Int}{t2:Int}{r:Int}(h:ref17_ruleError t0 t1 t2=some r):Den Tryz.prog 185 [e_GLaw t0,e_i64 t1,e_i64 t2] (e_i64 r):=by
 refine dk 141 k185 ?_;simp only [k185,Kf.of,zs,ze];unfold ref17_ruleError at h;refine ss (rg ?_);(try simp only [zz]);refine ss (rg ?_);obtain⟨x1,f2,f3,h⟩:=bI h;(try simp only [zz,f2,f3]);refine ss (rg ?_);obtain⟨x2,f5,f6,h⟩:=bI h;(try simp only [zz,f5,f6]);refine ss (ss (rg ?_));obtain⟨x3,a7,h⟩:=bs h;simp only [zz];refine cq (ref08_IsIdentifier_ok a7) ?_ (by simp only [zg]);(try simp only [zz]);refine cd rfl ?_;(try simp only [zz]);refine gi h (fun c4 h=>?_) fun c4 h=>?_
 ·refine ss (rg ?_);(try simp only [zz]);cases h;exact rt ez
 refine sk ?_;(try simp only [zz,c4]);refine ss (rg ?_);(try simp only [zz]);refine ss (ss (rg ?_));(try simp only [zz]);obtain⟨y8,h9,h⟩:=bs h;refine lm h9 (fun q=>⟨.dead::e_i64 t1::e_i64 t2::.ref 0 0 0 0::ds 3 (.ref 1 0 0 0::.ref 2 0 0 0::e_i64 q.1::e_i64 q.2::ds 133 []),[.live 3 0 [e_GLaw t0],.live 5 0 [e_GScope x1],.live 9 0 [e_GRule x2]]⟩) (fun b14=>⟨.dead::e_i64 t1::e_i64 t2::.ref 0 0 0 0::ds 3 (.ref 1 0 0 0::.ref 2 0 0 0::e_i64 b14::ds 134 []),[.live 3 0 [e_GLaw t0],.live 5 0 [e_GScope x1],.live 9 0 [e_GRule x2]]⟩) (tz [ok 0,ok 1,ok 2]) ?_ ?_
 ·rintro ⟨s5,s6⟩ z10 h11 h12;simp only [ref17_ruleError_L1]at h11;refine ss (ss (rg ?_));(try simp only [zz]);refine cd rfl ?_;(try simp only [zz]);refine gi h11 (fun c7 h11=>?_) fun c7 h11=>?_
  ·refine sk ?_;(try simp only [zz,c7]);obtain⟨z14,h13,h11⟩:=bs h11;refine tj (fun(j11:Int)=>⟨.dead::e_i64 t1::e_i64 t2::.ref 0 0 0 0::ds 3 (.ref 1 0 0 0::.ref 2 0 0 0::e_i64 j11::e_i64 s6::ds 133 []),[.live 3 0 [e_GLaw t0],.live 5 0 [e_GScope x1],.live 9 0 [e_GRule x2]]⟩) z14 ?_ ?_
   ·refine bk (ss (ss (dy hmix ?_)));obtain⟨x8,f16,f17,h13⟩:=bI h13;(try simp only [zz,f16,f17,zy]);refine cd rfl ?_;(try simp only [zz,f16,f17]);refine gi h13 (fun c9 h13=>?_) fun c9 h13=>?_
    ·refine ss (rg ?_);(try simp only [zz]);cases h13;cases h11;cases h12 _ rfl;cases h;exact rt ez
    refine sk ?_;(try simp only [zz,f16,f17,c9]);refine ss (dy hmix ?_);(try simp only [zz,f16,f17,zy]);refine cd rfl ?_;(try simp only [zz,f16,f17]);refine gi h13 (fun c10 h13=>?_) fun c10 h13=>?_
    ·have e18:=eT c10;refine rg ?_;(try simp only [zz]);cases h13;exact tz [ok 0,ok 1,ok 2]
    have e19:=eF c10;refine sk ?_;(try simp only [zz,f16,f17,c10,e19]);cases h13;exact tz [ok 0,ok 1,ok 2]
   rintro j11 rfl;dsimp only at h11;refine rg ?_;(try simp only [zz]);cases h11;exact tz [ok 0,ok 1,ok 2]
  refine xt ?_;(try simp only [zz,c7]);cases h11;exact tz [ok 0,ok 1,ok 2]
 rintro b14 rfl;dsimp only at h;(try simp only [zz]);refine ss ?_;refine jm h (fun j16=>⟨.dead::e_i64 t1::e_i64 t2::.ref 0 0 0 0::ds 3 (.ref 1 0 0 0::.ref 2 0 0 0::e_i64 b14::ds 52 (e_bool j16::ds 81 [])),[.live 3 0 [e_GLaw t0],.live 5 0 [e_GScope x1],.live 9 0 [e_GRule x2]]⟩) (fun z21 h20=>?_) fun j16 h20 h=>?_
 ·refine rg ?_;(try simp only [zz]);refine gi h20 (fun c15 h20=>?_) fun c15 h20=>?_
  ·(try simp only [zz,c15]);cases h20;exact tz [ok 0,ok 1,ok 2]
  (try simp only [zz,c15]);cases h20;exact tz [ok 0,ok 1,ok 2]
 refine cd rfl ?_;(try simp only [zz]);refine gi h (fun c17 h=>?_) fun c17 h=>?_
 ·refine ss (rg ?_);(try simp only [zz]);cases h;exact rt ez
 refine sk ?_;(try simp only [zz,c17]);refine ss ?_;refine jm h (fun j22=>⟨.dead::e_i64 t1::.dead::.ref 0 0 0 0::ds 3 (.ref 1 0 0 0::.ref 2 0 0 0::e_i64 b14::ds 78 (e_bool j22::ds 55 [])),[.live 3 0 [e_GLaw t0],.live 5 0 [e_GScope x1],.live 9 0 [e_GRule x2]]⟩) (fun z23 h22=>?_) fun j22 h22 h=>?_
 ·refine dy hmix ?_;(try simp only [zz,zy]);refine gi h22 (fun c18 h22=>?_) fun c18 h22=>?_
  ·have e24:=nT c18;(try simp only [zz,c18,e24,zy]);refine gi h22 (fun c19 h22=>?_) fun c19 h22=>?_
   ·(try simp only [zz,c18,e24,c19,zy]);refine gi h22 (fun c20 h22=>?_) fun c20 h22=>?_
    ·obtain⟨x21,f27,f28,h22⟩:=bI h22;(try simp only [zz,c18,e24,c19,c20,f27,f28,zy]);cases h22;exact tz [ok 0,ok 1,ok 2]
    (try simp only [zz,c18,e24,c19,c20,zy]);cases h22;exact tz [ok 0,ok 1,ok 2]
   (try simp only [zz,c18,e24,c19,zy]);cases h22;exact tz [ok 0,ok 1,ok 2]
  have e25:=nD c18;(try simp only [zz,c18,e25,zy]);cases h22;exact tz [ok 0,ok 1,ok 2]
 refine cd rfl ?_;(try simp only [zz]);refine gi h (fun c23 h=>?_) fun c23 h=>?_
 ·refine ss (rg ?_);(try simp only [zz]);cases h;exact rt ez
 refine sk ?_;(try simp only [zz,c23]);refine ss ?_;refine jm h (fun j28=>⟨.dead::e_i64 t1::.dead::.ref 0 0 0 0::ds 3 (.ref 1 0 0 0::.ref 2 0 0 0::e_i64 b14::ds 101 (e_bool j28::ds 32 [])),[.live 3 0 [e_GLaw t0],.live 5 0 [e_GScope x1],.live 9 0 [e_GRule x2]]⟩) (fun z30 h29=>?_) fun j28 h29 h=>?_
 ·refine rg ?_;(try simp only [zz]);refine gi h29 (fun c24 h29=>?_) fun c24 h29=>?_
  ·(try simp only [zz,c24]);refine gi h29 (fun c25 h29=>?_) fun c25 h29=>?_
   ·obtain⟨x26,a31,h29⟩:=bs h29;simp only [zz,c24,c25];refine cq (ref05_Valid_ok a31) ?_ (by simp only [zg,c4,c17,c23]);(try simp only [zz,c24,c25]);refine gi h29 (fun c27 h29=>?_) fun c27 h29=>?_
    ·(try simp only [zz,c24,c25,c27]);cases h29;exact tz [ok 0,ok 1,ok 2]
    (try simp only [zz,c24,c25,c27]);cases h29;exact tz [ok 0,ok 1,ok 2]
   (try simp only [zz,c24,c25]);cases h29;exact tz [ok 0,ok 1,ok 2]
  (try simp only [zz,c24]);cases h29;exact tz [ok 0,ok 1,ok 2]
 refine cd rfl ?_;(try simp only [zz]);refine gi h (fun c29 h=>?_) fun c29 h=>?_
 ·refine ss (rg ?_);(try simp only [zz]);cases h;exact rt ez
 refine sk ?_;(try simp only [zz,c29]);refine ss (ss (rg ?_));(try simp only [zz]);refine cd rfl ?_;(try simp only [zz]);refine gi h (fun c30 h=>?_) fun c30 h=>?_
 ·refine ss (rg ?_);(try simp only [zz]);cases h;exact rt ez
 refine sk ?_;(try simp only [zz,c30]);refine ss (ss (rg ?_));obtain⟨x31,a32,h⟩:=bs h;simp only [zz];refine cq (ref17_plainText_ok a32) ?_ (by simp only [zg,c4,c17,c23,c29]);(try simp only [zz]);refine cd rfl ?_;(try simp only [zz]);refine gi h (fun c32 h=>?_) fun c32 h=>?_
 ·refine ss (rg ?_);(try simp only [zz]);cases h;exact rt ez
 refine sk ?_;(try simp only [zz,c32]);refine ss (rg ?_);obtain⟨x33,a33,h⟩:=bs h;simp only [zz];refine cq (ref17_Signature_ok a33) ?_ (by simp only [zg,c4,c17,c23,c29,c32]);(try simp only [zz]);obtain⟨z35,h34,h⟩:=bs h;refine tj (fun(q:Unit)=>⟨ds 7 (.ref 0 0 0 0::.ref 1 0 0 0::ds 2 (.ref 2 0 0 0::ds 132 [])),[.live 5 0 [e_GScope x1],.live 9 0 [e_GRule x2],.live 6 0 [e_GSignature x33]]⟩) z35 ?_ ?_
 ·refine ss (rg ?_);(try simp only [zz]);refine cd rfl ?_;(try simp only [zz]);refine gi h34 (fun c34 h34=>?_) fun c34 h34=>?_
  ·refine ss (rg ?_);obtain⟨x35,a36,h34⟩:=bs h34;simp only [zz];refine cq (ref17_exprError_ok a36) ?_ (by simp only [zg,c4,c17,c23,c29,c32]);(try simp only [zz]);refine ss (rg ?_);(try simp only [zz]);refine cd rfl ?_;(try simp only [zz]);refine gi h34 (fun c36 h34=>?_) fun c36 h34=>?_
   ·have e37:=nT c36;refine ss (rg ?_);(try simp only [zz]);cases h34;cases h;exact rt ez
   have e38:=nD c36;refine sk ?_;(try simp only [zz,c36,e38]);cases h34;exact tz [ok 1,ok 2,ok 3]
  refine sk ?_;(try simp only [zz,c34]);cases h34;exact tz [ok 1,ok 2,ok 3]
 rintro ⟨⟩ rfl;dsimp only at h;refine ss (dy hmix ?_);obtain⟨x37,f40,f41,h⟩:=bI h;obtain⟨x38,a42,h⟩:=bs h;simp only [zz,f40,f41,zy];refine cq (ref17_exprError_ok a42) ?_ (by simp only [zg,c4,c17,c23,c29,c32]);(try simp only [zz,f40,f41,zy]);cases h;exact rt ez
theorem law_checkScope_ok {t0:GLaw}{t1:Int}{r:(Int×Int)}(h:law_checkScope t0 t1=some r):Den Tryz.prog 113 [e_GLaw t0,e_i64 t1] (.tup [e_i64 r.1,e_i64 r.2]):=by
 refine dk 161 k113 ?_;simp only [k113,Kf.of,zs,ze];unfold law_checkScope at h;refine ss (rg ?_);(try simp only [zz]);refine ss (rg ?_);obtain⟨x1,f2,f3,h⟩:=bI h;(try simp only [zz,f2,f3]);refine ss (rg ?_);obtain⟨x2,a4,h⟩:=bs h;obtain⟨f5,f6,f7⟩:=subh_f (e:=e_GScope) a4;(try simp only [zz]at f7);(try simp only [zz,f5,f6,f7]);refine jm h (fun j8=>⟨.dead::e_i64 t1::.ref 0 0 0 0::ds 3 (.ref 1 0 0 0::e_s_GScope x2::e_bool j8::ds 154 []),[.live 3 0 [e_GLaw t0],.live 5 0 [e_GScope x1]]⟩) (fun z9 h8=>?_) fun j8 h8 h=>?_
 ·refine rg ?_;obtain⟨x3,a10,h8⟩:=bs h8;simp only [zz];refine cq (law_hasEnum_ok a10) ?_ (by simp only [zg]);(try simp only [zz]);refine gi h8 (fun c4 h8=>?_) fun c4 h8=>?_
  ·obtain⟨x5,a11,h8⟩:=bs h8;simp only [zz,c4];refine cq (law_hasTable_ok a11) ?_ (by simp only [zg,c4]);(try simp only [zz,c4]);refine gi h8 (fun c6 h8=>?_) fun c6 h8=>?_
   ·obtain⟨x7,a12,h8⟩:=bs h8;simp only [zz,c4,c6];refine cv (slices_ContainsFunc_api_Scope_api_Scope_ok (q1:=[e_p_GScope x1]) (frC frN) (fun x900 _ hb=>law_checkScope_c1_ok hb) a12) ?_ rfl (by simp only [zg,c4,c6]);(try simp only [zz,c4,c6]);cases h8;exact tz [ok 0,ok 1]
   (try simp only [zz,c4,c6]);cases h8;exact tz [ok 0,ok 1]
  (try simp only [zz,c4]);cases h8;exact tz [ok 0,ok 1]
 refine ss (bk (ss (rg ?_)));obtain⟨x9,a13,h⟩:=bs h;simp only [zz];refine cq (lexer_IsIdentifier_ok a13) ?_ (by simp only [zg]);(try simp only [zz]);refine cd rfl ?_;(try simp only [zz]);refine gi h (fun c10 h=>?_) fun c10 h=>?_
 ·refine ss (rg ?_);(try simp only [zz]);cases h;exact rt ez
 refine ss (rg ?_);(try simp only [zz]);refine cd rfl ?_;(try simp only [zz]);refine gi h (fun c11 h=>?_) fun c11 h=>?_
 ·refine ss (rg ?_);(try simp only [zz]);cases h;exact rt ez
 refine jm h (fun j16=>⟨.dead::e_i64 t1::.ref 0 0 0 0::ds 3 (.ref 1 0 0 0::ds 45 (e_bool j16::ds 110 [])),[.live 3 0 [e_GLaw t0],.live 5 0 [e_GScope x1]]⟩) (fun z15 h14=>?_) fun j16 h14 h=>?_
 ·refine rg ?_;(try simp only [zz]);refine gi h14 (fun c12 h14=>?_) fun c12 h14=>?_
  ·have e16:=nT c12;(try simp only [zz,c12,e16]);refine gi h14 (fun c13 h14=>?_) fun c13 h14=>?_
   ·(try simp only [zz,c12,e16,c13]);refine gi h14 (fun c14 h14=>?_) fun c14 h14=>?_
    ·obtain⟨x15,f19,f20,h14⟩:=bI h14;(try simp only [zz,c12,e16,c13,c14,f19,f20]);cases h14;exact tz [ok 0,ok 1]
    (try simp only [zz,c12,e16,c13,c14]);cases h14;exact tz [ok 0,ok 1]
   (try simp only [zz,c12,e16,c13]);cases h14;exact tz [ok 0,ok 1]
  have e17:=nD c12;(try simp only [zz,c12,e17]);cases h14;exact tz [ok 0,ok 1]
 refine cd rfl ?_;(try simp only [zz]);refine gi h (fun c17 h=>?_) fun c17 h=>?_
 ·refine ss (rg ?_);(try simp only [zz]);cases h;exact rt ez
 refine ss (rg ?_);(try simp only [zz]);refine cd rfl ?_;(try simp only [zz]);refine gi h (fun c18 h=>?_) fun c18 h=>?_
 ·refine ss (rg ?_);(try simp only [zz]);cases h;exact rt ez
 refine ss (rg ?_);(try simp only [zz]);refine cd rfl ?_;(try simp only [zz]);refine gi h (fun c19 h=>?_) fun c19 h=>?_
 ·refine ss (rg ?_);(try simp only [zz]);cases h;exact rt ez
 refine sk ?_;(try simp only [zz,c19]);refine ss (ss (rg ?_));(try simp only [zz]);obtain⟨y21,h22,h⟩:=bs h;refine lm h22 (fun s20=>⟨.dead::e_i64 t1::.ref 0 0 0 0::ds 3 (.ref 1 0 0 0::ds 80 (e_s_GField x1.Inputs::e_i64 (x1.Inputs.length:Int)::e_i64 s20::ds 73 [])),[.live 3 0 [e_GLaw t0],.live 5 0 [e_GScope x1]]⟩) (fun q=>⟨.dead::e_i64 t1::.ref 0 0 0 0::ds 3 (.ref 1 0 0 0::ds 156 []),[.live 3 0 [e_GLaw t0],.live 5 0 [e_GScope x1]]⟩) (tz [ok 0,ok 1]) ?_ ?_
 ·rintro s20 z23 h24 h25;simp only [law_checkScope_L7]at h24;refine ss (rg ?_);(try simp only [zz]);refine ss (cd rfl ?_);(try simp only [zz]);refine gi h24 (fun c21 h24=>?_) fun c21 h24=>?_
  ·refine sk ?_;(try simp only [zz,c21]);refine ss (bk (ss (rg ?_)));obtain⟨x22,f27,f28,h24⟩:=bI h24;(try simp only [zz,f27,f28]);refine ss (dy hmix ?_);obtain⟨x23,a29,h24⟩:=bs h24;obtain⟨f30,f31,f32⟩:=subh_f (e:=e_GField) a29;(try simp only [zz]at f32);obtain⟨x24,a33,h24⟩:=bs h24;simp only [zz,f30,f31,f32,zy];refine cq (law_checkField_ok a33) ?_ (by simp only [zg,c10,c11,c17]);(try simp only [zz,f30,f31,f32,zy]);refine ss (rg ?_);(try simp only [zz]);refine cd rfl ?_;(try simp only [zz]);refine gi h24 (fun c25 h24=>?_) fun c25 h24=>?_
   ·have e34:=nT c25;refine ss (rg ?_);(try simp only [zz]);cases h24;cases h25 _ rfl;cases h;exact rt ez
   have e35:=nD c25;refine sk ?_;(try simp only [zz,c25,e35]);refine rg ?_;(try simp only [zz]);cases h24;exact tz [ok 0,ok 1]
  refine xt ?_;(try simp only [zz,c21]);cases h24;exact tz [ok 0,ok 1]
 rintro ⟨⟩ rfl;dsimp only at h;(try simp only [zz]);refine ss (ss (rg ?_));(try simp only [zz]);obtain⟨y36,h37,h⟩:=bs h;refine lm h37 (fun s27=>⟨.dead::e_i64 t1::.ref 0 0 0 0::ds 3 (.ref 1 0 0 0::ds 101 (e_s_GField x1.Defs::e_i64 (x1.Defs.length:Int)::e_i64 s27::ds 52 [])),[.live 3 0 [e_GLaw t0],.live 5 0 [e_GScope x1]]⟩) (fun q=>⟨.dead::e_i64 t1::.ref 0 0 0 0::ds 3 (.ref 1 0 0 0::ds 156 []),[.live 3 0 [e_GLaw t0],.live 5 0 [e_GScope x1]]⟩) (tz [ok 0,ok 1]) ?_ ?_
 ·rintro s27 z38 h39 h40;simp only [law_checkScope_L6]at h39;refine ss (rg ?_);(try simp only [zz]);refine ss (cd rfl ?_);(try simp only [zz]);refine gi h39 (fun c28 h39=>?_) fun c28 h39=>?_
  ·refine sk ?_;(try simp only [zz,c28]);refine ss (bk (ss (rg ?_)));obtain⟨x29,f42,f43,h39⟩:=bI h39;(try simp only [zz,f42,f43]);refine ss (dy hmix ?_);obtain⟨x30,a44,h39⟩:=bs h39;obtain⟨f45,f46,f47⟩:=subh_f (e:=e_GField) a44;(try simp only [zz]at f47);obtain⟨x31,a48,h39⟩:=bs h39;simp only [zz,f45,f46,f47,zy];refine cq (law_checkField_ok a48) ?_ (by simp only [zg,c10,c11,c17]);(try simp only [zz,f45,f46,f47,zy]);refine ss (rg ?_);(try simp only [zz]);refine cd rfl ?_;(try simp only [zz]);refine gi h39 (fun c32 h39=>?_) fun c32 h39=>?_
   ·have e49:=nT c32;refine ss (rg ?_);(try simp only [zz]);cases h39;cases h40 _ rfl;cases h;exact rt ez
   have e50:=nD c32;refine sk ?_;(try simp only [zz,c32,e50]);refine rg ?_;(try simp only [zz]);cases h39;exact tz [ok 0,ok 1]
  refine xt ?_;(try simp only [zz,c28]);cases h39;exact tz [ok 0,ok 1]
 rintro ⟨⟩ rfl;dsimp only at h;(try simp only [zz]);refine ss (rg ?_);obtain⟨x34,a51,h⟩:=bs h;simp only [zz];refine cq (law_sharedSignature_ok a51) ?_ (by simp only [zg,c10,c11,c17]);(try simp only [zz]);refine ss (ss (rg ?_));(try simp only [zz]);obtain⟨y52,h53,h⟩:=bs h;refine lm h53 (fun s35=>⟨ds 6 (.ref 0 0 0 0::ds 8 (.ref 1 0 0 0::ds 119 (e_i64 (x1.Rules.length:Int)::e_i64 s35::ds 26 []))),[.live 5 0 [e_GScope x1],.live 6 0 [e_GSignature x34]]⟩) (fun q=>⟨ds 6 (.ref 0 0 0 0::ds 156 []),[.live 5 0 [e_GScope x1]]⟩) (tz [ok 1,ok 2]) ?_ ?_
 ·rintro s35 z54 h55 h56;simp only [law_checkScope_L5]at h55;refine ss (rg ?_);(try simp only [zz]);refine ss (cd rfl ?_);(try simp only [zz]);refine gi h55 (fun c36 h55=>?_) fun c36 h55=>?_
  ·refine sk ?_;(try simp only [zz,c36]);refine ss (bk (ss (rg ?_)));(try simp only [zz]);refine ss (rg ?_);obtain⟨x37,a57,h55⟩:=bs h55;simp only [zz];refine cq (law_checkRule_ok a57) ?_ (by simp only [zg,c10,c11,c17]);(try simp only [zz]);refine ss (rg ?_);(try simp only [zz]);refine cd rfl ?_;(try simp only [zz]);refine gi h55 (fun c38 h55=>?_) fun c38 h55=>?_
   ·have e58:=nT c38;refine ss (rg ?_);(try simp only [zz]);cases h55;cases h56 _ rfl;cases h;exact rt ez
   have e59:=nD c38;refine sk ?_;(try simp only [zz,c38,e59]);refine rg ?_;(try simp only [zz]);cases h55;exact tz [ok 0,ok 1]
  refine xt ?_;(try simp only [zz,c36]);cases h55;exact tz [ok 0]
 rintro ⟨⟩ rfl;dsimp only at h;(try simp only [zz]);refine ss (ss (rg ?_));(try simp only [zz]);obtain⟨y60,h61,h⟩:=bs h;refine lm h61 (fun s40=>⟨ds 6 (.ref 0 0 0 0::ds 144 (e_i64 (x1.Defs.length:Int)::e_i64 s40::ds 10 [])),[.live 5 0 [e_GScope x1]]⟩) (fun q=>⟨ds 163 [],[]⟩) (tz [ok 0]) ?_ ?_
 ·rintro s40 z62 h63 h64;simp only [law_checkScope_L4]at h63;refine ss (rg ?_);(try simp only [zz]);refine ss (cd rfl ?_);(try simp only [zz]);refine gi h63 (fun c41 h63=>?_) fun c41 h63=>?_
  ·refine sk ?_;(try simp only [zz,c41]);refine ss (bk (ss (rg ?_)));(try simp only [zz]);refine ss (rg ?_);obtain⟨x42,a65,h63⟩:=bs h63;simp only [zz];refine cq (deps_Transitive_ok a65) ?_ (by simp only [zg,c10,c11,c17]);obtain⟨x43,a66,h63⟩:=bs h63;simp only [zz];refine cq (slices_Contains_int_int_ok a66) ?_ (by simp only [zg,c10,c11,c17]);(try simp only [zz]);refine cd rfl ?_;(try simp only [zz]);refine gi h63 (fun c44 h63=>?_) fun c44 h63=>?_
   ·refine ss (rg ?_);(try simp only [zz]);cases h63;cases h64 _ rfl;cases h;exact rt ez
   refine sk ?_;(try simp only [zz,c44]);refine rg ?_;(try simp only [zz]);cases h63;exact tz [ok 0]
  refine xt ?_;(try simp only [zz,c41]);cases h63;exact tz []
 rintro ⟨⟩ rfl;dsimp only at h;(try simp only [zz]);refine ss (rg ?_);(try simp only [zz]);cases h;exact rt ez
theorem ref17_scopeError_ok {t0:GLaw}{t1:Int}{r:GLawError}(h:ref17_scopeError t0 t1=some r):Den Tryz.prog 116 [e_GLaw t0,e_i64 t1] (e_GLawError r):=by
 refine dk 123 k116 ?_;simp only [k116,Kf.of,zs,ze];unfold ref17_scopeError at h;refine ss (rg ?_);(try simp only [zz]);refine ss (rg ?_);obtain⟨x1,f2,f3,h⟩:=bI h;(try simp only [zz,f2,f3]);refine ss (rg ?_);(try simp only [zz]);refine ss (ss (rg ?_));obtain⟨x2,a4,h⟩:=bs h;simp only [zz];refine cq (ref08_IsIdentifier_ok a4) ?_ (by simp only [zg]);(try simp only [zz]);refine cd rfl ?_;(try simp only [zz]);refine gi h (fun c3 h=>?_) fun c3 h=>?_
 ·refine ss (rg ?_);(try simp only [zz]);refine ss (rg ?_);(try simp only [zz]);cases h;exact rt ez
 refine sk ?_;(try simp only [zz,c3]);refine ss (ss (rg ?_));obtain⟨x4,a5,h⟩:=bs h;simp only [zz];refine cq (ref17_nameTaken_ok a5) ?_ (by simp only [zg,c3]);(try simp only [zz]);refine cd rfl ?_;(try simp only [zz]);refine gi h (fun c5 h=>?_) fun c5 h=>?_
 ·refine ss (rg ?_);(try simp only [zz]);refine ss (rg ?_);(try simp only [zz]);cases h;exact rt ez
 refine sk ?_;(try simp only [zz,c5]);refine ss ?_;refine jm h (fun j10=>⟨.dead::e_i64 t1::.ref 0 0 0 0::.dead::.ref 1 0 0 0::.ref 2 0 0 0::.ref 3 0 0 0::ds 49 (e_bool j10::ds 68 []),[.live 3 0 [e_GLaw t0],.live 4 0 [.agg [e_i64 0,e_i64 0,e_i64 0,e_i64 0]],.live 5 0 [e_GScope x1],.live 4 0 [.agg [e_i64 0,e_i64 3,e_i64 t1,e_i64 0]]]⟩) (fun z7 h6=>?_) fun j10 h6 h=>?_
 ·refine rg ?_;(try simp only [zz]);refine gi h6 (fun c6 h6=>?_) fun c6 h6=>?_
  ·have e8:=nT c6;(try simp only [zz,c6,e8]);refine gi h6 (fun c7 h6=>?_) fun c7 h6=>?_
   ·(try simp only [zz,c6,e8,c7]);refine gi h6 (fun c8 h6=>?_) fun c8 h6=>?_
    ·obtain⟨x9,f11,f12,h6⟩:=bI h6;(try simp only [zz,c6,e8,c7,c8,f11,f12]);cases h6;exact tz [ok 0,ok 1,ok 2,ok 3]
    (try simp only [zz,c6,e8,c7,c8]);cases h6;exact tz [ok 0,ok 1,ok 2,ok 3]
   (try simp only [zz,c6,e8,c7]);cases h6;exact tz [ok 0,ok 1,ok 2,ok 3]
  have e9:=nD c6;(try simp only [zz,c6,e9]);cases h6;exact tz [ok 0,ok 1,ok 2,ok 3]
 refine cd rfl ?_;(try simp only [zz]);refine gi h (fun c11 h=>?_) fun c11 h=>?_
 ·refine ss (rg ?_);(try simp only [zz]);refine ss (rg ?_);(try simp only [zz]);cases h;exact rt ez
 refine sk ?_;(try simp only [zz,c11]);refine ss (ss (rg ?_));(try simp only [zz]);refine cd rfl ?_;(try simp only [zz]);refine gi h (fun c12 h=>?_) fun c12 h=>?_
 ·refine ss (rg ?_);(try simp only [zz]);refine ss (rg ?_);(try simp only [zz]);refine ss (rg ?_);(try simp only [zz]);cases h;exact rt ez
 refine sk ?_;(try simp only [zz,c12]);refine ss (ss (rg ?_));(try simp only [zz]);refine cd rfl ?_;(try simp only [zz]);refine gi h (fun c13 h=>?_) fun c13 h=>?_
 ·refine ss (rg ?_);(try simp only [zz]);refine ss (rg ?_);(try simp only [zz]);refine ss (rg ?_);(try simp only [zz]);cases h;exact rt ez
 refine sk ?_;(try simp only [zz,c13]);refine ss (rg ?_);obtain⟨x14,a13,h⟩:=bs h;simp only [zz];refine cq (ref17_fieldError_ok a13) ?_ (by simp only [zg,c3,c5,c11]);(try simp only [zz]);refine ss (ss (rg ?_));(try simp only [zz]);refine cd rfl ?_;(try simp only [zz]);refine gi h (fun c15 h=>?_) fun c15 h=>?_
 ·have e14:=nT c15;refine ss (rg ?_);(try simp only [zz]);cases h;exact rt ez
 have e15:=nD c15;refine sk ?_;(try simp only [zz,c15,e15]);refine ss (ss (rg ?_));(try simp only [zz]);obtain⟨y16,h17,h⟩:=bs h;refine lm h17 (fun s16=>⟨.dead::e_i64 t1::.ref 0 0 0 0::.dead::.ref 1 0 0 0::.ref 2 0 0 0::ds 2 (e_i64 s16::ds 116 []),[.live 3 0 [e_GLaw t0],.live 4 0 [.agg [e_i64 0,e_i64 0,e_i64 0,e_i64 0]],.live 5 0 [e_GScope x1]]⟩) (fun q=>⟨.dead::e_i64 t1::ds 2 (.ref 0 0 0 0::.ref 1 0 0 0::ds 119 []),[.live 4 0 [.agg [e_i64 0,e_i64 0,e_i64 0,e_i64 0]],.live 5 0 [e_GScope x1]]⟩) (tz [ok 0,ok 1,ok 2]) ?_ ?_
 ·rintro s16 z18 h19 h20;simp only [ref17_scopeError_L11]at h19;refine ss (ss (rg ?_));(try simp only [zz]);refine cd rfl ?_;(try simp only [zz]);refine gi h19 (fun c17 h19=>?_) fun c17 h19=>?_
  ·refine sk ?_;(try simp only [zz,c17]);refine ss (bk (ss (rg ?_)));obtain⟨x18,a21,h19⟩:=bs h19;simp only [zz];refine cq (ref17_ruleError_ok a21) ?_ (by simp only [zg,c3,c5,c11,e15]);(try simp only [zz]);refine ss (rg ?_);(try simp only [zz]);refine cd rfl ?_;(try simp only [zz]);refine gi h19 (fun c19 h19=>?_) fun c19 h19=>?_
   ·have e22:=nT c19;refine ss (rg ?_);(try simp only [zz]);cases h19;cases h20 _ rfl;cases h;exact rt ez
   have e23:=nD c19;refine sk ?_;(try simp only [zz,c19,e23]);refine rg ?_;(try simp only [zz]);cases h19;exact tz [ok 0,ok 1,ok 2]
  refine xt ?_;(try simp only [zz,c17]);cases h19;exact tz [ok 1,ok 2]
 rintro ⟨⟩ rfl;dsimp only at h;(try simp only [zz]);refine ss (ss (rg ?_));(try simp only [zz]);obtain⟨y24,h25,h⟩:=bs h;refine lm h25 (fun s21=>⟨.dead::e_i64 t1::ds 2 (.ref 0 0 0 0::.ref 1 0 0 0::ds 4 (e_i64 s21::ds 114 [])),[.live 4 0 [.agg [e_i64 0,e_i64 0,e_i64 0,e_i64 0]],.live 5 0 [e_GScope x1]]⟩) (fun q=>⟨ds 4 (.ref 0 0 0 0::ds 120 []),[.live 4 0 [.agg [e_i64 0,e_i64 0,e_i64 0,e_i64 0]]]⟩) (tz [ok 0,ok 1]) ?_ ?_
 ·rintro s21 z26 h27 h28;simp only [ref17_scopeError_L10]at h27;refine ss (ss (rg ?_));(try simp only [zz]);refine cd rfl ?_;(try simp only [zz]);refine gi h27 (fun c22 h27=>?_) fun c22 h27=>?_
  ·refine sk ?_;(try simp only [zz,c22]);refine ss (bk (ss (rg ?_)));obtain⟨x23,a29,h27⟩:=bs h27;simp only [zz];refine cq (ref16_Transitive_ok a29) ?_ (by simp only [zg,c3,c5,c11,e15]);(try simp only [zz]);refine ss (rg ?_);(try simp only [zz]);obtain⟨y30,h31,h27⟩:=bs h27;refine lm h31 (fun s24=>⟨.dead::e_i64 t1::ds 2 (.ref 0 0 0 0::.ref 1 0 0 0::ds 4 (e_i64 s21::e_s_i64 x23::e_i64 s24::ds 112 [])),[.live 4 0 [.agg [e_i64 0,e_i64 0,e_i64 0,e_i64 0]],.live 5 0 [e_GScope x1]]⟩) (fun q=>⟨.dead::e_i64 t1::ds 2 (.ref 0 0 0 0::.ref 1 0 0 0::ds 4 (e_i64 s21::ds 114 [])),[.live 4 0 [.agg [e_i64 0,e_i64 0,e_i64 0,e_i64 0]],.live 5 0 [e_GScope x1]]⟩) (tz [ok 0,ok 1]) ?_ ?_
   ·rintro s24 z32 h33 h34;simp only [ref17_scopeError_L9]at h33;refine ss (ss (rg ?_));(try simp only [zz]);refine cd rfl ?_;(try simp only [zz]);refine gi h33 (fun c25 h33=>?_) fun c25 h33=>?_
    ·refine sk ?_;(try simp only [zz,c25]);refine ss (bk (ss (rg ?_)));obtain⟨x26,f36,f37,h33⟩:=bI h33;(try simp only [zz,f36,f37]);refine cd rfl ?_;(try simp only [zz,f36,f37]);refine gi h33 (fun c27 h33=>?_) fun c27 h33=>?_
     ·have e38:=eT c27;refine ss (rg ?_);(try simp only [zz]);cases h33;cases h34 _ rfl;cases h27;cases h28 _ rfl;cases h;exact rt ez
     have e39:=eF c27;refine sk ?_;(try simp only [zz,f36,f37,c27,e39]);refine rg ?_;(try simp only [zz]);cases h33;exact tz [ok 0,ok 1]
    refine xt ?_;(try simp only [zz,c25]);cases h33;exact tz [ok 0,ok 1]
   rintro ⟨⟩ rfl;dsimp only at h27;(try simp only [zz]);refine rg ?_;(try simp only [zz]);cases h27;exact tz [ok 0,ok 1]
  refine xt ?_;(try simp only [zz,c22]);cases h27;exact tz [ok 0]
 rintro ⟨⟩ rfl;dsimp only at h;(try simp only [zz]);refine ss (rg ?_);(try simp only [zz]);cases h;exact rt ez
theorem law_checkScopes_ok {t0:GLaw}{r:GLawError}(h:law_checkScopes t0=some r):Den Tryz.prog 65 [e_GLaw t0] (e_GLawError r):=by
 refine dk 30 k65 ?_;simp only [k65,Kf.of,zs,ze];unfold law_checkScopes at h;refine ss (rg ?_);(try simp only [zz]);refine ss (ss (rg ?_));(try simp only [zz]);refine cd rfl ?_;(try simp only [zz]);refine gi h (fun c1 h=>?_) fun c1 h=>?_
 ·refine ss (rg ?_);(try simp only [zz]);cases h;exact rt ez
 refine sk ?_;(try simp only [zz,c1]);refine ss (ss (rg ?_));(try simp only [zz]);obtain⟨y1,h2,h⟩:=bs h;refine lm h2 (fun s2=>⟨.dead::.ref 0 0 0 0::.ref 1 0 0 0::ds 10 (e_i64 (t0.Scopes.length:Int)::e_i64 s2::ds 16 []),[.live 3 0 [e_GLaw t0],.live 4 0 [.agg [e_i64 0,e_i64 0,e_i64 0,e_i64 0]]]⟩) (fun q=>⟨ds 2 (.ref 0 0 0 0::ds 28 []),[.live 4 0 [.agg [e_i64 0,e_i64 0,e_i64 0,e_i64 0]]]⟩) (tz [ok 0,ok 1]) ?_ ?_
 ·rintro s2 z3 h4 h5;simp only [law_checkScopes_L1]at h4;refine ss (rg ?_);(try simp only [zz]);refine ss (cd rfl ?_);(try simp only [zz]);refine gi h4 (fun c3 h4=>?_) fun c3 h4=>?_
  ·refine sk ?_;(try simp only [zz,c3]);refine ss (bk (ss (rg ?_)));(try simp only [zz]);refine ss (rg ?_);obtain⟨x4,a6,h4⟩:=bs h4;simp only [zz];refine cq (law_checkScope_ok a6) ?_ (by simp only [zg]);(try simp only [zz]);refine ss (rg ?_);(try simp only [zz]);refine cd rfl ?_;(try simp only [zz]);refine gi h4 (fun c5 h4=>?_) fun c5 h4=>?_
   ·have e7:=nT c5;refine ss (rg ?_);(try simp only [zz]);cases h4;cases h5 _ rfl;cases h;exact rt ez
   have e8:=nD c5;refine sk ?_;(try simp only [zz,c5,e8]);refine rg ?_;(try simp only [zz]);cases h4;exact tz [ok 0,ok 1]
  refine xt ?_;(try simp only [zz,c3]);cases h4;exact tz [ok 1]
 rintro ⟨⟩ rfl;dsimp only at h;(try simp only [zz]);refine ss (rg ?_);(try simp only [zz]);cases h;exact rt ez
theorem ref17_Validate_ok {t0:GLaw}{r:GLawError}(h:ref17_Validate t0=some r):Den Tryz.prog 67 [e_GLaw t0] (e_GLawError r):=by
 refine dk 66 k67 ?_;simp only [k67,Kf.of,zs,ze];unfold ref17_Validate at h;refine ss (rg ?_);(try simp only [zz]);refine ss (ss (rg ?_));(try simp only [zz]);refine cd rfl ?_;(try simp only [zz]);refine gi h (fun c1 h=>?_) fun c1 h=>?_
 ·refine ss (rg ?_);(try simp only [zz]);cases h;exact rt ez
 refine sk ?_;(try simp only [zz,c1]);refine ss (ss (rg ?_));(try simp only [zz]);obtain⟨y1,h2,h⟩:=bs h;refine lm h2 (fun s2=>⟨.dead::.ref 0 0 0 0::.ref 1 0 0 0::e_i64 s2::ds 63 [],[.live 3 0 [e_GLaw t0],.live 4 0 [.agg [e_i64 0,e_i64 0,e_i64 0,e_i64 0]]]⟩) (fun q=>⟨.dead::.ref 0 0 0 0::.ref 1 0 0 0::ds 64 [],[.live 3 0 [e_GLaw t0],.live 4 0 [.agg [e_i64 0,e_i64 0,e_i64 0,e_i64 0]]]⟩) (tz [ok 0,ok 1]) ?_ ?_
 ·rintro s2 z3 h4 h5;simp only [ref17_Validate_L5]at h4;refine ss (ss (rg ?_));(try simp only [zz]);refine cd rfl ?_;(try simp only [zz]);refine gi h4 (fun c3 h4=>?_) fun c3 h4=>?_
  ·refine sk ?_;(try simp only [zz,c3]);refine ss (bk (ss (rg ?_)));obtain⟨x4,a6,h4⟩:=bs h4;simp only [zz];refine cq (ref17_enumError_ok a6) ?_ (by simp only [zg]);(try simp only [zz]);refine ss (rg ?_);(try simp only [zz]);refine cd rfl ?_;(try simp only [zz]);refine gi h4 (fun c5 h4=>?_) fun c5 h4=>?_
   ·have e7:=nT c5;refine ss (rg ?_);(try simp only [zz]);cases h4;cases h5 _ rfl;cases h;exact rt ez
   have e8:=nD c5;refine sk ?_;(try simp only [zz,c5,e8]);refine rg ?_;(try simp only [zz]);cases h4;exact tz [ok 0,ok 1]
  refine xt ?_;(try simp only [zz,c3]);cases h4;exact tz [ok 0,ok 1]
 rintro ⟨⟩ rfl;dsimp only at h;(try simp only [zz]);refine ss (ss (rg ?_));(try simp only [zz]);refine cd rfl ?_;(try simp only [zz]);refine gi h (fun c7 h=>?_) fun c7 h=>?_
 ·refine ss (rg ?_);(try simp only [zz]);cases h;exact rt ez
 refine sk ?_;(try simp only [zz,c7]);refine ss (ss (rg ?_));(try simp only [zz]);obtain⟨y9,h10,h⟩:=bs h;refine lm h10 (fun s8=>⟨.dead::.ref 0 0 0 0::.ref 1 0 0 0::ds 2 (e_i64 s8::ds 61 []),[.live 3 0 [e_GLaw t0],.live 4 0 [.agg [e_i64 0,e_i64 0,e_i64 0,e_i64 0]]]⟩) (fun q=>⟨.dead::.ref 0 0 0 0::.ref 1 0 0 0::ds 64 [],[.live 3 0 [e_GLaw t0],.live 4 0 [.agg [e_i64 0,e_i64 0,e_i64 0,e_i64 0]]]⟩) (tz [ok 0,ok 1]) ?_ ?_
 ·rintro s8 z11 h12 h13;simp only [ref17_Validate_L4]at h12;refine ss (ss (rg ?_));(try simp only [zz]);refine cd rfl ?_;(try simp only [zz]);refine gi h12 (fun c9 h12=>?_) fun c9 h12=>?_
  ·refine sk ?_;(try simp only [zz,c9]);refine ss (bk (ss (rg ?_)));obtain⟨x10,a14,h12⟩:=bs h12;simp only [zz];refine cq (ref17_tableError_ok a14) ?_ (by simp only [zg]);(try simp only [zz]);refine ss (rg ?_);(try simp only [zz]);refine cd rfl ?_;(try simp only [zz]);refine gi h12 (fun c11 h12=>?_) fun c11 h12=>?_
   ·have e15:=nT c11;refine ss (rg ?_);(try simp only [zz]);cases h12;cases h13 _ rfl;cases h;exact rt ez
   have e16:=nD c11;refine sk ?_;(try simp only [zz,c11,e16]);refine rg ?_;(try simp only [zz]);cases h12;exact tz [ok 0,ok 1]
  refine xt ?_;(try simp only [zz,c9]);cases h12;exact tz [ok 0,ok 1]
 rintro ⟨⟩ rfl;dsimp only at h;(try simp only [zz]);refine ss (ss (rg ?_));(try simp only [zz]);refine cd rfl ?_;(try simp only [zz]);refine gi h (fun c13 h=>?_) fun c13 h=>?_
 ·refine ss (rg ?_);(try simp only [zz]);cases h;exact rt ez
 refine sk ?_;(try simp only [zz,c13]);refine ss (ss (rg ?_));(try simp only [zz]);obtain⟨y17,h18,h⟩:=bs h;refine lm h18 (fun s14=>⟨.dead::.ref 0 0 0 0::.ref 1 0 0 0::ds 4 (e_i64 s14::ds 59 []),[.live 3 0 [e_GLaw t0],.live 4 0 [.agg [e_i64 0,e_i64 0,e_i64 0,e_i64 0]]]⟩) (fun q=>⟨ds 2 (.ref 0 0 0 0::ds 64 []),[.live 4 0 [.agg [e_i64 0,e_i64 0,e_i64 0,e_i64 0]]]⟩) (tz [ok 0,ok 1]) ?_ ?_
 ·rintro s14 z19 h20 h21;simp only [ref17_Validate_L3]at h20;refine ss (ss (rg ?_));(try simp only [zz]);refine cd rfl ?_;(try simp only [zz]);refine gi h20 (fun c15 h20=>?_) fun c15 h20=>?_
  ·refine sk ?_;(try simp only [zz,c15]);refine ss (bk (ss (rg ?_)));obtain⟨x16,a22,h20⟩:=bs h20;simp only [zz];refine cq (ref17_scopeError_ok a22) ?_ (by simp only [zg]);(try simp only [zz]);refine ss (rg ?_);(try simp only [zz]);refine cd rfl ?_;(try simp only [zz]);refine gi h20 (fun c17 h20=>?_) fun c17 h20=>?_
   ·have e23:=nT c17;refine ss (rg ?_);(try simp only [zz]);cases h20;cases h21 _ rfl;cases h;exact rt ez
   have e24:=nD c17;refine sk ?_;(try simp only [zz,c17,e24]);refine rg ?_;(try simp only [zz]);cases h20;exact tz [ok 0,ok 1]
  refine xt ?_;(try simp only [zz,c15]);cases h20;exact tz [ok 1]
 rintro ⟨⟩ rfl;dsimp only at h;(try simp only [zz]);refine ss (rg ?_);(try simp only [zz]);cases h;exact rt ez
theorem law_Validate_ok {t0:GLaw}{r:GLawError}(h:law_Validate t0=some r):Den Tryz.prog 27 [e_GLaw t0] (e_GLawError r):=by
 refine dk 18 k27 ?_;simp only [k27,Kf.of,zs,ze];unfold law_Validate at h;refine ss (rg ?_);(try simp only [zz]);refine ss (ss (rg ?_));obtain⟨x1,a1,h⟩:=bs h;simp only [zz];refine cq (law_checkEnums_ok a1) ?_ (by simp only [zg]);(try simp only [zz]);refine ss (rg ?_);(try simp only [zz]);refine cd rfl ?_;(try simp only [zz]);refine gi h (fun c2 h=>?_) fun c2 h=>?_
 ·have e2:=nT c2;refine ss (rg ?_);(try simp only [zz]);cases h;exact rt ez
 have e3:=nD c2;refine sk ?_;(try simp only [zz,c2,e3]);refine ss (ss (rg ?_));obtain⟨x3,a4,h⟩:=bs h;simp only [zz];refine cq (law_checkTables_ok a4) ?_ (by simp only [zg,e3]);(try simp only [zz]);refine ss (rg ?_);(try simp only [zz]);refine cd rfl ?_;(try simp only [zz]);refine gi h (fun c4 h=>?_) fun c4 h=>?_
 ·have e5:=nT c4;refine ss (rg ?_);(try simp only [zz]);cases h;exact rt ez
 have e6:=nD c4;refine sk ?_;(try simp only [zz,c4,e6]);refine ss (rg ?_);obtain⟨x5,a7,h⟩:=bs h;simp only [zz];refine cq (law_checkScopes_ok a7) ?_ (by simp only [zg,e3,e6]);(try simp only [zz]);cases h;exact rt ez
theorem ref17_IsValid_ok {t0:GLaw}{r:Bool}(h:ref17_IsValid t0=some r):Den Tryz.prog 29 [e_GLaw t0] (e_bool r):=by
 refine dk 6 k29 ?_;simp only [k29,Kf.of,zs,ze];unfold ref17_IsValid at h;refine ss (rg ?_);(try simp only [zz]);refine ss (rg ?_);obtain⟨x1,a1,h⟩:=bs h;simp only [zz];refine cq (ref17_Validate_ok a1) ?_ (by simp only [zg]);(try simp only [zz]);cases h;exact rt ez
theorem award_ValidateConfig_ok {t0:GLaw}{t1:Int}{t2:GPayConfig}{r:Int}(h:award_ValidateConfig t0 t1 t2=some r):Den Tryz.prog 10 [e_GLaw t0,e_i64 t1,e_GPayConfig t2] (e_i64 r):=by
 refine dk 102 k10 ?_;simp only [k10,Kf.of,zs,ze];unfold award_ValidateConfig at h;refine ss (rg ?_);(try simp only [zz]);refine ss (ss (rg ?_));obtain⟨x1,a1,h⟩:=bs h;simp only [zz];refine cq (law_Validate_ok a1) ?_ (by simp only [zg]);(try simp only [zz]);refine cd rfl ?_;(try simp only [zz]);refine gP.ite h (by rw [Bool.eq_false_iff];simp only [ne_eq,Bool.and_eq_true,beq_iff_eq,decide_eq_true_eq]) (fun c2 h=>?_) fun c2 h=>?_
 ·refine ss (rg ?_);(try simp only [zz]);cases h;exact rt ez
 refine sk ?_;(try simp only [zz,c2]);refine ss ?_;refine jm h (fun j7=>⟨.dead::e_i64 t1::.dead::.ref 0 0 0 0::.dead::.ref 1 0 0 0::ds 30 (e_bool j7::ds 68 []),[.live 3 0 [e_GLaw t0],.live 9 0 [e_GPayConfig t2]]⟩) (fun z3 h2=>?_) fun j7 h2 h=>?_
 ·refine dy hmix ?_;(try simp only [zz,zy]);refine gi h2 (fun c3 h2=>?_) fun c3 h2=>?_
  ·(try simp only [zz,c3,zy]);refine gi h2 (fun c4 h2=>?_) fun c4 h2=>?_
   ·(try simp only [zz,c3,c4,zy]);refine gi h2 (fun c5 h2=>?_) fun c5 h2=>?_
    ·obtain⟨x6,f5,f6,h2⟩:=bI h2;(try simp only [zz,c3,c4,c5,f5,f6,zy]);cases h2;exact tz [ok 0,ok 1]
    (try simp only [zz,c3,c4,c5,zy]);cases h2;exact tz [ok 0,ok 1]
   (try simp only [zz,c3,c4,zy]);cases h2;exact tz [ok 0,ok 1]
  (try simp only [zz,c3,zy]);cases h2;exact tz [ok 0,ok 1]
 refine cd rfl ?_;(try simp only [zz]);refine gi h (fun c8 h=>?_) fun c8 h=>?_
 ·refine ss (rg ?_);(try simp only [zz]);cases h;exact rt ez
 refine sk ?_;(try simp only [zz,c8]);refine ss (ss (dy hmix ?_));obtain⟨x9,f8,f9,h⟩:=bI h;obtain⟨x10,f11,f12,h⟩:=bI h;(try simp only [zz,f8,f9,f11,f12,zy]);refine cd rfl ?_;(try simp only [zz,f8,f9,f11,f12]);refine gP.ite h (by rw [Bool.eq_false_iff];simp only [ne_eq,Bool.and_eq_true,beq_iff_eq,decide_eq_true_eq]) (fun c11 h=>?_) fun c11 h=>?_
 ·refine ss (rg ?_);(try simp only [zz]);cases h;exact rt ez
 refine sk ?_;(try simp only [zz,f8,f9,f11,f12,c11]);refine ss ?_;refine jm h (fun j15=>⟨ds 5 (.ref 0 0 0 0::ds 57 (e_bool j15::ds 41 [])),[.live 9 0 [e_GPayConfig t2]]⟩) (fun z14 h13=>?_) fun j15 h13 h=>?_
 ·refine rg ?_;(try simp only [zz]);refine gi h13 (fun c12 h13=>?_) fun c12 h13=>?_
  ·(try simp only [zz,c12]);refine gi h13 (fun c13 h13=>?_) fun c13 h13=>?_
   ·obtain⟨x14,a15,h13⟩:=bs h13;simp only [zz,c12,c13];refine cq (workday_Valid_ok a15) ?_ (by simp only [zg,c8]);(try simp only [zz,c12,c13]);cases h13;exact tz [ok 1]
   (try simp only [zz,c12,c13]);cases h13;exact tz [ok 1]
  (try simp only [zz,c12]);cases h13;exact tz [ok 1]
 refine cd rfl ?_;(try simp only [zz]);refine gi h (fun c16 h=>?_) fun c16 h=>?_
 ·refine ss (rg ?_);(try simp only [zz]);cases h;exact rt ez
 refine sk ?_;(try simp only [zz,c16]);refine ss (bk ?_);refine jm h (fun j30=>⟨ds 64 (e_bool j30::ds 40 []),[]⟩) (fun z17 h16=>?_) fun j30 h16 h=>?_
 ·refine jm h16 (fun j18=>⟨ds 5 (.ref 0 0 0 0::ds 58 (e_bool j18::ds 40 [])),[.live 9 0 [e_GPayConfig t2]]⟩) (fun z19 h18=>?_) fun j18 h18 h16=>?_
  ·refine rg ?_;(try simp only [zz]);refine gi h18 (fun c17 h18=>?_) fun c17 h18=>?_
   ·(try simp only [zz,c17]);cases h18;exact tz [ok 0]
   (try simp only [zz,c17]);cases h18;exact tz [ok 0]
  refine cd rfl ?_;(try simp only [zz]);refine gi h16 (fun c19 h16=>?_) fun c19 h16=>?_
  ·refine sk ?_;(try simp only [zz,c19]);cases h16;exact tz []
  refine jm h16 (fun j21=>⟨ds 5 (.ref 0 0 0 0::ds 58 (e_bool j21::ds 40 [])),[.live 9 0 [e_GPayConfig t2]]⟩) (fun z21 h20=>?_) fun j21 h20 h16=>?_
  ·refine rg ?_;(try simp only [zz]);refine gi h20 (fun c20 h20=>?_) fun c20 h20=>?_
   ·(try simp only [zz,c20]);cases h20;exact tz [ok 0]
   (try simp only [zz,c20]);cases h20;exact tz [ok 0]
  refine cd rfl ?_;(try simp only [zz]);refine gi h16 (fun c22 h16=>?_) fun c22 h16=>?_
  ·refine sk ?_;(try simp only [zz,c22]);cases h16;exact tz []
  refine jm h16 (fun j24=>⟨ds 5 (.ref 0 0 0 0::ds 58 (e_bool j24::ds 40 [])),[.live 9 0 [e_GPayConfig t2]]⟩) (fun z23 h22=>?_) fun j24 h22 h16=>?_
  ·refine rg ?_;(try simp only [zz]);refine gi h22 (fun c23 h22=>?_) fun c23 h22=>?_
   ·(try simp only [zz,c23]);cases h22;exact tz [ok 0]
   (try simp only [zz,c23]);cases h22;exact tz [ok 0]
  refine cd rfl ?_;(try simp only [zz]);refine gi h16 (fun c25 h16=>?_) fun c25 h16=>?_
  ·refine sk ?_;(try simp only [zz,c25]);cases h16;exact tz []
  refine jm h16 (fun j27=>⟨ds 5 (.ref 0 0 0 0::ds 58 (e_bool j27::ds 40 [])),[.live 9 0 [e_GPayConfig t2]]⟩) (fun z25 h24=>?_) fun j27 h24 h16=>?_
  ·refine rg ?_;(try simp only [zz]);refine gi h24 (fun c26 h24=>?_) fun c26 h24=>?_
   ·(try simp only [zz,c26]);cases h24;exact tz [ok 0]
   (try simp only [zz,c26]);cases h24;exact tz [ok 0]
  refine cd rfl ?_;(try simp only [zz]);refine gi h16 (fun c28 h16=>?_) fun c28 h16=>?_
  ·refine sk ?_;(try simp only [zz,c28]);cases h16;exact tz []
  refine rg ?_;(try simp only [zz]);refine gi h16 (fun c29 h16=>?_) fun c29 h16=>?_
  ·(try simp only [zz,c29]);cases h16;exact tz []
  (try simp only [zz,c29]);cases h16;exact tz []
 refine cd rfl ?_;(try simp only [zz]);refine gi h (fun c31 h=>?_) fun c31 h=>?_
 ·refine ss (rg ?_);(try simp only [zz]);cases h;exact rt ez
 refine sk ?_;(try simp only [zz,c31]);refine ss (rg ?_);(try simp only [zz]);cases h;exact rt ez
theorem ref36_ValidateConfig_ok {t0:GLaw}{t1:Int}{t2:GPayConfig}{r:Int}(h:ref36_ValidateConfig t0 t1 t2=some r):Den Tryz.prog 11 [e_GLaw t0,e_i64 t1,e_GPayConfig t2] (e_i64 r):=by
 refine dk 78 k11 ?_;simp only [k11,Kf.of,zs,ze];unfold ref36_ValidateConfig at h;refine ss (rg ?_);(try simp only [zz]);refine ss (ss (rg ?_));obtain⟨x1,a1,h⟩:=bs h;simp only [zz];refine cq (ref17_IsValid_ok a1) ?_ (by simp only [zg]);(try simp only [zz]);refine cd rfl ?_;(try simp only [zz]);refine gi h (fun c2 h=>?_) fun c2 h=>?_
 ·refine ss (rg ?_);(try simp only [zz]);cases h;exact rt ez
 refine sk ?_;(try simp only [zz,c2]);refine ss ?_;refine jm h (fun j7=>⟨.dead::e_i64 t1::.dead::.ref 0 0 0 0::.dead::.ref 1 0 0 0::ds 29 (e_bool j7::ds 45 []),[.live 3 0 [e_GLaw t0],.live 9 0 [e_GPayConfig t2]]⟩) (fun z3 h2=>?_) fun j7 h2 h=>?_
 ·refine dy hmix ?_;(try simp only [zz,zy]);refine gi h2 (fun c3 h2=>?_) fun c3 h2=>?_
  ·(try simp only [zz,c3,zy]);refine gi h2 (fun c4 h2=>?_) fun c4 h2=>?_
   ·(try simp only [zz,c3,c4,zy]);refine gi h2 (fun c5 h2=>?_) fun c5 h2=>?_
    ·obtain⟨x6,f5,f6,h2⟩:=bI h2;(try simp only [zz,c3,c4,c5,f5,f6,zy]);cases h2;exact tz [ok 0,ok 1]
    (try simp only [zz,c3,c4,c5,zy]);cases h2;exact tz [ok 0,ok 1]
   (try simp only [zz,c3,c4,zy]);cases h2;exact tz [ok 0,ok 1]
  (try simp only [zz,c3,zy]);cases h2;exact tz [ok 0,ok 1]
 refine cd rfl ?_;(try simp only [zz]);refine gi h (fun c8 h=>?_) fun c8 h=>?_
 ·refine ss (rg ?_);(try simp only [zz]);cases h;exact rt ez
 refine sk ?_;(try simp only [zz,c8]);refine ss (ss (dy hmix ?_));obtain⟨x9,f8,f9,h⟩:=bI h;obtain⟨x10,f11,f12,h⟩:=bI h;(try simp only [zz,f8,f9,f11,f12,zy]);refine cd rfl ?_;(try simp only [zz,f8,f9,f11,f12]);refine gi h (fun c11 h=>?_) fun c11 h=>?_
 ·have e13:=nT c11;refine ss (rg ?_);(try simp only [zz]);cases h;exact rt ez
 have e14:=nD c11;refine sk ?_;(try simp only [zz,f8,f9,f11,f12,c11,e14]);refine ss ?_;refine jm h (fun j15=>⟨ds 5 (.ref 0 0 0 0::ds 51 (e_bool j15::ds 23 [])),[.live 9 0 [e_GPayConfig t2]]⟩) (fun z16 h15=>?_) fun j15 h15 h=>?_
 ·refine rg ?_;obtain⟨x12,a17,h15⟩:=bs h15;simp only [zz];refine cq (ref36_outside_ok a17) ?_ (by simp only [zg,c2,c8,e14]);(try simp only [zz]);refine gi h15 (fun c13 h15=>?_) fun c13 h15=>?_
  ·obtain⟨x14,a18,h15⟩:=bs h15;simp only [zz,c13];refine cq (ref06_Valid_ok a18) ?_ (by simp only [zg,c2,c8,e14,c13]);(try simp only [zz,c13]);cases h15;exact tz [ok 1]
  (try simp only [zz,c13]);cases h15;exact tz [ok 1]
 refine cd rfl ?_;(try simp only [zz]);refine gi h (fun c16 h=>?_) fun c16 h=>?_
 ·refine ss (rg ?_);(try simp only [zz]);cases h;exact rt ez
 refine sk ?_;(try simp only [zz,c16]);refine ss ?_;refine jm h (fun j26=>⟨ds 80 (e_bool j26::[]),[]⟩) (fun z20 h19=>?_) fun j26 h19 h=>?_
 ·refine rg ?_;obtain⟨x17,a21,h19⟩:=bs h19;simp only [zz];refine cq (ref36_outside_ok a21) ?_ (by simp only [zg,c2,c8,e14,c16]);(try simp only [zz]);refine gi h19 (fun c18 h19=>?_) fun c18 h19=>?_
  ·obtain⟨x19,a22,h19⟩:=bs h19;simp only [zz,c18];refine cq (ref36_outside_ok a22) ?_ (by simp only [zg,c2,c8,e14,c16,c18]);(try simp only [zz,c18]);refine gi h19 (fun c20 h19=>?_) fun c20 h19=>?_
   ·obtain⟨x21,a23,h19⟩:=bs h19;simp only [zz,c18,c20];refine cq (ref36_outside_ok a23) ?_ (by simp only [zg,c2,c8,e14,c16,c18,c20]);(try simp only [zz,c18,c20]);refine gi h19 (fun c22 h19=>?_) fun c22 h19=>?_
    ·obtain⟨x23,a24,h19⟩:=bs h19;simp only [zz,c18,c20,c22];refine cq (ref36_outside_ok a24) ?_ (by simp only [zg,c2,c8,e14,c16,c18,c20,c22]);(try simp only [zz,c18,c20,c22]);refine gi h19 (fun c24 h19=>?_) fun c24 h19=>?_
     ·obtain⟨x25,a25,h19⟩:=bs h19;simp only [zz,c18,c20,c22,c24];refine cq (ref36_outside_ok a25) ?_ (by simp only [zg,c2,c8,e14,c16,c18,c20,c22,c24]);(try simp only [zz,c18,c20,c22,c24]);cases h19;exact tz []
     (try simp only [zz,c18,c20,c22,c24]);cases h19;exact tz []
    (try simp only [zz,c18,c20,c22]);cases h19;exact tz []
   (try simp only [zz,c18,c20]);cases h19;exact tz []
  (try simp only [zz,c18]);cases h19;exact tz []
 refine cd rfl ?_;(try simp only [zz]);refine gi h (fun c27 h=>?_) fun c27 h=>?_
 ·refine ss (rg ?_);(try simp only [zz]);cases h;exact rt ez
 refine sk ?_;(try simp only [zz,c27]);refine ss (rg ?_);(try simp only [zz]);cases h;exact rt ez
theorem law36_AwardConfig_ok {t0:GLaw}{t1:Int}{t2:GPayConfig}{r:Bool}(h:law36_AwardConfig t0 t1 t2=some r):Den Tryz.prog 3 [e_GLaw t0,e_i64 t1,e_GPayConfig t2] (e_bool r):=by
 refine dk 25 k3 ?_;simp only [k3,Kf.of,zs,ze];unfold law36_AwardConfig at h;refine ss (rg ?_);(try simp only [zz]);refine ss ?_;refine jm h (fun j4=>⟨.dead::e_i64 t1::.dead::.ref 0 0 0 0::.dead::.ref 1 0 0 0::ds 8 (e_bool j4::ds 13 []),[.live 3 0 [e_GLaw t0],.live 9 0 [e_GPayConfig t2]]⟩) (fun z2 h1=>?_) fun j4 h1 h=>?_
 ·refine rg ?_;obtain⟨x1,a3,h1⟩:=bs h1;simp only [zz];refine cq (same_SmallLaw_ok a3) ?_ (by simp only [zg]);(try simp only [zz]);refine gi h1 (fun c2 h1=>?_) fun c2 h1=>?_
  ·obtain⟨x3,a4,h1⟩:=bs h1;simp only [zz,c2];refine cq (same_SmallConfig_ok a4) ?_ (by simp only [zg,c2]);(try simp only [zz,c2]);cases h1;exact tz [ok 0,ok 1]
  (try simp only [zz,c2]);cases h1;exact tz [ok 0,ok 1]
 refine cd rfl ?_;(try simp only [zz]);refine gi h (fun c5 h=>?_) fun c5 h=>?_
 ·refine ss (rg ?_);obtain⟨x6,a5,h⟩:=bs h;simp only [zz];refine cq (law36_awake_ok a5) ?_ (by simp only [zg,c5]);(try simp only [zz]);cases h;exact rt ez
 refine sk ?_;(try simp only [zz,c5]);refine jm h (fun j11=>⟨ds 6 (e_bool j11::ds 21 []),[]⟩) (fun z7 h6=>?_) fun j11 h6 h=>?_
 ·refine dy hmix ?_;obtain⟨x7,a8,h6⟩:=bs h6;simp only [zz,zy];refine lq (award_ValidateConfig_ok a8) ?_ (by simp only [zg,c5]);obtain⟨x8,a9,h6⟩:=bs h6;simp only [zz,zy];refine cq (ref36_ValidateConfig_ok a9) ?_ (by simp only [zg,c5]);(try simp only [zz,zy]);refine gi h6 (fun c9 h6=>?_) fun c9 h6=>?_
  ·have e10:=eT c9;obtain⟨x10,a12,h6⟩:=bs h6;simp only [zz,eq_true c9,e10,zy];refine cq (law36_awake_ok a12) ?_ (by simp only [zg,c5,e10]);(try simp only [zz,eq_true c9,e10,zy]);cases h6;exact tz []
  have e11:=eF c9;(try simp only [zz,c9,e11,zy]);cases h6;exact tz []
 cases h;exact rt ez
end Go.Proofs.Dev
