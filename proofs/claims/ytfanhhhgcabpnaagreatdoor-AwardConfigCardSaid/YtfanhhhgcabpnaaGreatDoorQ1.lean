/-
  Contracts of the functions: each answers as its plain partial function says.
-/
import Derived.Test.YtfanhhhgcabpnaaGreatDoorK
import Derived.Test.YtfanhhhgcabpnaaGreatDoorPD
import Derived.Test.YtfanhhhgcabpnaaGreatDoorQ0
set_option linter.all false
set_option maxHeartbeats 1000000
set_option maxRecDepth 10000
namespace Go.Proofs.Dev
open Go Go.Tm
theorem ref10_Arity_ok {t0:Int}{r:Int}(h:ref10_Arity t0=some r):Den Tryz.prog 292 [e_i64 t0] (e_i64 r):=by
 refine dk 32 k292 ?_;simp only [k292,Kf.of,zs,ze];unfold ref10_Arity at h;refine ss (rg ?_);(try simp only [zz]);refine ss ?_;refine jm h (fun j5=>⟨e_i64 t0::ds 15 (e_bool j5::ds 16 []),[]⟩) (fun z2 h1=>?_) fun j5 h1 h=>?_
 ·refine rg ?_;(try simp only [zz]);refine gi h1 (fun c1 h1=>?_) fun c1 h1=>?_
  ·(try simp only [zz,c1]);refine gi h1 (fun c2 h1=>?_) fun c2 h1=>?_
   ·(try simp only [zz,c1,c2]);refine gi h1 (fun c3 h1=>?_) fun c3 h1=>?_
    ·(try simp only [zz,c1,c2,c3]);cases h1;exact tz []
    (try simp only [zz,c1,c2,c3]);cases h1;exact tz []
   (try simp only [zz,c1,c2]);cases h1;exact tz []
  (try simp only [zz,c1]);refine gi h1 (fun c4 h1=>?_) fun c4 h1=>?_
  ·(try simp only [zz,c1,c4]);cases h1;exact tz []
  (try simp only [zz,c1,c4]);cases h1;exact tz []
 refine cd rfl ?_;(try simp only [zz]);refine gi h (fun c6 h=>?_) fun c6 h=>?_
 ·refine ss (rg ?_);(try simp only [zz]);cases h;exact rt ez
 refine sk ?_;(try simp only [zz,c6]);refine ss (ss (rg ?_));(try simp only [zz]);refine bk ?_;refine jm h (fun j12=>⟨e_i64 t0::ds 16 (e_i64 t0::e_bool j12::ds 14 []),[]⟩) (fun z4 h3=>?_) fun j12 h3 h=>?_
 ·refine ss (rg ?_);(try simp only [zz]);refine cd rfl ?_;(try simp only [zz]);refine gi h3 (fun c7 h3=>?_) fun c7 h3=>?_
  ·have e5:=eT c7;refine sk ?_;(try simp only [zz,eq_true c7,e5]);cases h3;exact tz []
  have e6:=eF c7;refine ss (rg ?_);(try simp only [zz]);refine cd rfl ?_;(try simp only [zz]);refine gi h3 (fun c8 h3=>?_) fun c8 h3=>?_
  ·have e7:=eT c8;refine sk ?_;(try simp only [zz,eq_true c8,e7]);cases h3;exact tz []
  have e8:=eF c8;refine ss (rg ?_);(try simp only [zz]);refine cd rfl ?_;(try simp only [zz]);refine gi h3 (fun c9 h3=>?_) fun c9 h3=>?_
  ·have e9:=eT c9;refine sk ?_;(try simp only [zz,eq_true c9,e9]);cases h3;exact tz []
  have e10:=eF c9;refine ss (rg ?_);(try simp only [zz]);refine cd rfl ?_;(try simp only [zz]);refine gi h3 (fun c10 h3=>?_) fun c10 h3=>?_
  ·have e11:=eT c10;refine sk ?_;(try simp only [zz,eq_true c10,e11]);cases h3;exact tz []
  have e12:=eF c10;refine ss (rg ?_);(try simp only [zz]);refine cd rfl ?_;(try simp only [zz]);refine gi h3 (fun c11 h3=>?_) fun c11 h3=>?_
  ·have e13:=eT c11;refine sk ?_;(try simp only [zz,eq_true c11,e13]);cases h3;exact tz []
  have e14:=eF c11;refine rg ?_;(try simp only [zz]);cases h3;exact tz []
 refine cd rfl ?_;(try simp only [zz]);refine gi h (fun c13 h=>?_) fun c13 h=>?_
 ·refine ss (rg ?_);(try simp only [zz]);cases h;exact rt ez
 refine ss (rg ?_);(try simp only [zz]);refine cd rfl ?_;(try simp only [zz]);refine gi h (fun c14 h=>?_) fun c14 h=>?_
 ·have e15:=eT c14;refine ss (rg ?_);(try simp only [zz]);cases h;exact rt ez
 have e16:=eF c14;refine sk ?_;(try simp only [zz,c14,e16]);refine ss ?_;refine jm h (fun j16=>⟨ds 32 (e_bool j16::[]),[]⟩) (fun z18 h17=>?_) fun j16 h17 h=>?_
 ·refine rg ?_;(try simp only [zz]);refine gi h17 (fun c15 h17=>?_) fun c15 h17=>?_
  ·(try simp only [zz,c15]);cases h17;exact tz []
  (try simp only [zz,c15]);cases h17;exact tz []
 refine cd rfl ?_;(try simp only [zz]);refine gi h (fun c17 h=>?_) fun c17 h=>?_
 ·refine ss (rg ?_);(try simp only [zz]);cases h;exact rt ez
 refine sk ?_;(try simp only [zz,c17]);refine ss (rg ?_);(try simp only [zz]);cases h;exact rt ez
theorem ref10_insert_ok {t0:List Int}{t1:Int}{r:List Int}(h:ref10_insert t0 t1=some r):Den Tryz.prog 294 [e_s_i64 t0,e_i64 t1] (e_s_i64 r):=by
 refine dk 46 k294 ?_;simp only [k294,Kf.of,zs,ze];unfold ref10_insert at h;refine ss (rg ?_);(try simp only [zz]);refine ss (rg ?_);(try simp only [zz]);refine ss (rg ?_);(try simp only [zz]);refine ss (ss (rg ?_));(try simp only [zz]);obtain⟨y1,h2,h⟩:=bs h;refine lm h2 (fun q=>⟨e_s_i64 t0::e_i64 t1::ds 3 (.own 0 0::e_bool q.2.1::e_i64 q.2.2::ds 40 []),[.live 1 0 (q.1.map e_i64)]⟩) (fun q=>⟨.dead::e_i64 t1::ds 3 (.own 0 0::e_bool q.2::ds 41 []),[.live 1 0 (q.1.map e_i64)]⟩) (tz [on 1]) ?_ ?_
 ·rintro ⟨s1,s2,s3⟩ z3 h4 h5;simp only [ref10_insert_L1]at h4;refine ss (ss (rg ?_));(try simp only [zz]);refine cd rfl ?_;(try simp only [zz]);refine gi h4 (fun c4 h4=>?_) fun c4 h4=>?_
  ·refine sk ?_;(try simp only [zz,c4]);refine ss (bk ?_);refine jm h4 (fun q=>⟨e_s_i64 t0::e_i64 t1::ds 3 (.own 0 0::e_bool q.2::e_i64 s3::ds 40 []),[.live 1 0 (q.1.map e_i64)]⟩) (fun z7 h6=>?_) fun z7 h6 h4=>?_
   ·refine jm h6 (fun j7=>⟨e_s_i64 t0::e_i64 t1::ds 3 (.own 0 0::e_bool s2::e_i64 s3::ds 15 (e_bool j7::ds 24 [])),[.live 1 0 (s1.map e_i64)]⟩) (fun z9 h8=>?_) fun j7 h8 h6=>?_
    ·refine rg ?_;(try simp only [zz]);refine gi h8 (fun c5 h8=>?_) fun c5 h8=>?_
     ·obtain⟨x6,f11,f12,h8⟩:=bI h8;(try simp only [zz,c5,f11,f12]);cases h8;exact tz [ok 0]
     (try simp only [zz,c5]);cases h8;exact tz [ok 0]
    refine cd rfl ?_;(try simp only [zz]);refine gi h6 (fun c8 h6=>?_) fun c8 h6=>?_
    ·refine jm h6 (fun j12=>⟨e_s_i64 t0::e_i64 t1::ds 3 (.own 0 0::.dead::e_i64 s3::ds 40 []),[.live 1 0 (j12.map e_i64)]⟩) (fun z14 h13=>?_) fun j12 h13 h6=>?_
     ·refine ss (rg ?_);obtain⟨x9,f16,f17,h13⟩:=bI h13;(try simp only [zz,f16,f17]);refine cd rfl ?_;(try simp only [zz,f16,f17]);refine gi h13 (fun c10 h13=>?_) fun c10 h13=>?_
      ·refine rg ?_;obtain⟨x11,a18,h13⟩:=bs h13;obtain⟨f19,f20⟩:=app_f (e:=e_i64) a18;(try simp only [zz]at f19 f20);(try simp only [zz,f19,f20]);cases h13;exact tz [ov 0 1]
      refine sk ?_;(try simp only [zz,f16,f17,c10]);cases h13;exact tz [ok 0]
     refine rg ?_;(try simp only [zz]);cases h6;exact tz [ok 0]
    refine sk ?_;(try simp only [zz,c8]);cases h6;exact tz [ok 0]
   obtain⟨j13,j14⟩:=z7;dsimp only at h4;refine rg ?_;obtain⟨x15,f22,f23,h4⟩:=bI h4;obtain⟨x16,a24,h4⟩:=bs h4;obtain⟨f25,f26⟩:=app_f (e:=e_i64) a24;(try simp only [zz]at f25 f26);(try simp only [zz,f22,f23,f25,f26]);refine rg ?_;(try simp only [zz]);cases h4;exact tz [ov 0 1]
  refine xt ?_;(try simp only [zz,c4]);cases h4;exact tz [ok 0]
 rintro ⟨b20,b21⟩ rfl;dsimp only at h;(try simp only [zz]);refine jm h (fun j24=>⟨ds 5 (.own 0 0::ds 42 []),[.live 1 0 (j24.map e_i64)]⟩) (fun z28 h27=>?_) fun j24 h27 h=>?_
 ·refine ss (rg ?_);(try simp only [zz]);refine cd rfl ?_;(try simp only [zz]);refine gi h27 (fun c22 h27=>?_) fun c22 h27=>?_
  ·refine rg ?_;obtain⟨x23,a29,h27⟩:=bs h27;obtain⟨f30,f31⟩:=app_f (e:=e_i64) a29;(try simp only [zz]at f30 f31);(try simp only [zz,f30,f31]);cases h27;exact tz [ov 0 1]
  refine sk ?_;(try simp only [zz,c22]);cases h27;exact tz [ok 0]
 refine ss (rg ?_);(try simp only [zz]);cases h;exact rt ez
theorem expr_enumType_ok {t0:Int}{t1:GSignature}{r:(GType×Int)}(h:expr_enumType t0 t1=some r):Den Tryz.prog 309 [e_i64 t0,e_GSignature t1] (.tup [e_GType r.1,e_i64 r.2]):=by
 refine dk 32 k309 ?_;simp only [k309,Kf.of,zs,ze];unfold expr_enumType at h;refine ss (rg ?_);(try simp only [zz]);refine ss (ss (rg ?_));(try simp only [zz]);refine cd rfl ?_;(try simp only [zz]);refine gi h (fun c1 h=>?_) fun c1 h=>?_
 ·refine ss (rg ?_);(try simp only [zz]);cases h;exact rt ez
 refine sk ?_;(try simp only [zz,c1]);refine ss (rg ?_);(try simp only [zz,Int.reduceEq,Int.reduceNeg,Int.reduceEq,Int.reduceNeg]);refine ss ?_;refine jm h (fun j4=>⟨ds 4 (.ref 0 0 0 0::.dead::e_i64 (wrapF .i64 (Int.tdiv t0 16))::ds 23 (e_bool j4::ds 3 [])),[.live 2 0 [.agg [e_i64 0,e_i64 0]]]⟩) (fun z2 h1=>?_) fun j4 h1 h=>?_
 ·refine rg ?_;(try simp only [zz]);refine gi h1 (fun c2 h1=>?_) fun c2 h1=>?_
  ·obtain⟨x3,f4,f5,h1⟩:=bI h1;(try simp only [zz,c2,f4,f5]);cases h1;exact tz [ok 1]
  (try simp only [zz,c2]);cases h1;exact tz [ok 1]
 refine cd rfl ?_;(try simp only [zz]);refine gi h (fun c5 h=>?_) fun c5 h=>?_
 ·refine ss (rg ?_);(try simp only [zz]);cases h;exact rt ez
 refine sk ?_;(try simp only [zz,c5]);refine ss (rg ?_);(try simp only [zz]);cases h;exact rt ez
theorem expr_validMode_ok {t0:Int}{r:Bool}(h:expr_validMode t0=some r):Den Tryz.prog 313 [e_i64 t0] (e_bool r):=by
 refine dk 8 k313 ?_;simp only [k313,Kf.of,zs,ze];unfold expr_validMode at h;refine ss (rg ?_);(try simp only [zz]);refine jm h (fun j2=>⟨ds 2 (e_bool j2::ds 6 []),[]⟩) (fun z2 h1=>?_) fun j2 h1 h=>?_
 ·refine rg ?_;(try simp only [zz]);refine gi h1 (fun c1 h1=>?_) fun c1 h1=>?_
  ·(try simp only [zz,c1]);cases h1;exact tz []
  (try simp only [zz,c1]);cases h1;exact tz []
 cases h;exact rt ez
theorem ref10_meaning_ok {t0:Int}{r:Bool}(h:ref10_meaning t0=some r):Den Tryz.prog 315 [e_i64 t0] (e_bool r):=by
 refine dk 34 k315 ?_;simp only [k315,Kf.of,zs,ze];unfold ref10_meaning at h;refine ss (rg ?_);(try simp only [zz]);refine ss ?_;refine jm h (fun j5=>⟨e_i64 t0::ds 15 (e_bool j5::ds 18 []),[]⟩) (fun z2 h1=>?_) fun j5 h1 h=>?_
 ·refine rg ?_;(try simp only [zz]);refine gi h1 (fun c1 h1=>?_) fun c1 h1=>?_
  ·(try simp only [zz,c1]);refine gi h1 (fun c2 h1=>?_) fun c2 h1=>?_
   ·(try simp only [zz,c1,c2]);refine gi h1 (fun c3 h1=>?_) fun c3 h1=>?_
    ·(try simp only [zz,c1,c2,c3]);cases h1;exact tz []
    (try simp only [zz,c1,c2,c3]);cases h1;exact tz []
   (try simp only [zz,c1,c2]);cases h1;exact tz []
  (try simp only [zz,c1]);refine gi h1 (fun c4 h1=>?_) fun c4 h1=>?_
  ·(try simp only [zz,c1,c4]);cases h1;exact tz []
  (try simp only [zz,c1,c4]);cases h1;exact tz []
 refine cd rfl ?_;(try simp only [zz]);refine gi h (fun c6 h=>?_) fun c6 h=>?_
 ·refine ss (rg ?_);(try simp only [zz]);cases h;exact rt ez
 refine sk ?_;(try simp only [zz,c6]);refine jm h (fun j11=>⟨ds 2 (e_bool j11::ds 32 []),[]⟩) (fun z4 h3=>?_) fun j11 h3 h=>?_
 ·refine rg ?_;(try simp only [zz]);refine gi h3 (fun c7 h3=>?_) fun c7 h3=>?_
  ·have e5:=eF c7;(try simp only [zz,c7,e5]);refine gi h3 (fun c8 h3=>?_) fun c8 h3=>?_
   ·have e7:=eF c8;(try simp only [zz,c7,e5,c8,e7]);refine gi h3 (fun c9 h3=>?_) fun c9 h3=>?_
    ·have e9:=eF c9;(try simp only [zz,c7,e5,c8,e7,c9,e9]);refine gi h3 (fun c10 h3=>?_) fun c10 h3=>?_
     ·have e11:=eF c10;(try simp only [zz,c7,e5,c8,e7,c9,e9,c10,e11]);cases h3;exact tz []
     have e12:=eD c10;(try simp only [zz,c7,e5,c8,e7,c9,e9,c10,e12]);cases h3;exact tz []
    have e10:=eD c9;(try simp only [zz,c7,e5,c8,e7,c9,e10]);cases h3;exact tz []
   have e8:=eD c8;(try simp only [zz,c7,e5,c8,e8]);cases h3;exact tz []
  have e6:=eD c7;(try simp only [zz,c7,e6]);cases h3;exact tz []
 cases h;exact rt ez
theorem ref10_found_ok {t0:GNode}{t1:GSignature}{r:Bool}(h:ref10_found t0 t1=some r):Den Tryz.prog 317 [e_GNode t0,e_GSignature t1] (e_bool r):=by
 refine dk 101 k317 ?_;simp only [k317,Kf.of,zs,ze];unfold ref10_found at h;refine ss (rg ?_);(try simp only [zz]);refine ss (ss (rg ?_));(try simp only [zz]);refine bk (ss (rg ?_));(try simp only [zz]);refine cd rfl ?_;(try simp only [zz]);refine gi h (fun c1 h=>?_) fun c1 h=>?_
 ·have e1:=eT c1;refine jm h (fun j4=>⟨ds 4 (e_bool j4::ds 98 []),[]⟩) (fun z4 h3=>?_) fun j4 h3 h=>?_
  ·refine dy hmix ?_;(try simp only [zz,zy,Int.reduceEq,Int.reduceNeg]);refine gi h3 (fun c2 h3=>?_) fun c2 h3=>?_
   ·obtain⟨x3,f6,f7,h3⟩:=bI h3;(try simp only [zz,c2,f6,f7,zy,Int.reduceEq,Int.reduceNeg,Int.reduceEq,Int.reduceNeg]);cases h3;exact tz []
   (try simp only [zz,c2,zy]);cases h3;exact tz []
  cases h;exact rt ez
 have e2:=eF c1;refine ss (rg ?_);(try simp only [zz]);refine cd rfl ?_;(try simp only [zz]);refine gi h (fun c5 h=>?_) fun c5 h=>?_
 ·have e8:=eT c5;refine jm h (fun j7=>⟨ds 4 (e_bool j7::ds 98 []),[]⟩) (fun z11 h10=>?_) fun j7 h10 h=>?_
  ·refine rg ?_;(try simp only [zz]);refine gi h10 (fun c6 h10=>?_) fun c6 h10=>?_
   ·(try simp only [zz,c6]);cases h10;exact tz []
   (try simp only [zz,c6]);cases h10;exact tz []
  cases h;exact rt ez
 have e9:=eF c5;refine ss (rg ?_);(try simp only [zz]);refine cd rfl ?_;(try simp only [zz]);refine gi h (fun c8 h=>?_) fun c8 h=>?_
 ·have e12:=eT c8;refine jm h (fun j10=>⟨ds 4 (e_bool j10::ds 98 []),[]⟩) (fun z15 h14=>?_) fun j10 h14 h=>?_
  ·refine rg ?_;(try simp only [zz]);refine gi h14 (fun c9 h14=>?_) fun c9 h14=>?_
   ·(try simp only [zz,c9]);cases h14;exact tz []
   (try simp only [zz,c9]);cases h14;exact tz []
  cases h;exact rt ez
 have e13:=eF c8;refine ss (rg ?_);(try simp only [zz]);refine cd rfl ?_;(try simp only [zz]);refine gi h (fun c11 h=>?_) fun c11 h=>?_
 ·have e16:=eT c11;refine jm h (fun j13=>⟨ds 4 (e_bool j13::ds 98 []),[]⟩) (fun z19 h18=>?_) fun j13 h18 h=>?_
  ·refine rg ?_;(try simp only [zz]);refine gi h18 (fun c12 h18=>?_) fun c12 h18=>?_
   ·(try simp only [zz,c12]);cases h18;exact tz []
   (try simp only [zz,c12]);cases h18;exact tz []
  cases h;exact rt ez
 have e17:=eF c11;refine ss (rg ?_);(try simp only [zz]);refine cd rfl ?_;(try simp only [zz]);refine gi h (fun c14 h=>?_) fun c14 h=>?_
 ·have e20:=eT c14;refine ss (rg ?_);(try simp only [zz,Int.reduceEq,Int.reduceNeg]);cases h;exact rt ez
 have e21:=eF c14;refine ss (rg ?_);(try simp only [zz]);refine cd rfl ?_;(try simp only [zz]);refine gi h (fun c15 h=>?_) fun c15 h=>?_
 ·have e22:=eT c15;refine ss (rg ?_);(try simp only [zz]);cases h;exact rt ez
 have e23:=eF c15;refine jm h (fun j19=>⟨ds 2 (.ref 0 0 0 0::.ref 1 0 0 0::ds 79 (e_bool j19::ds 19 [])),[.live 2 0 [e_GNode t0],.live 6 0 [e_GSignature t1]]⟩) (fun z25 h24=>?_) fun j19 h24 h=>?_
 ·refine ss (rg ?_);(try simp only [zz]);refine cd rfl ?_;(try simp only [zz]);refine gi h24 (fun c16 h24=>?_) fun c16 h24=>?_
  ·have e26:=eT c16;refine sk ?_;(try simp only [zz,eq_true c16,e26]);cases h24;exact tz [ok 0,ok 1]
  have e27:=eF c16;refine ss (rg ?_);(try simp only [zz]);refine cd rfl ?_;(try simp only [zz]);refine gi h24 (fun c17 h24=>?_) fun c17 h24=>?_
  ·have e28:=eT c17;refine sk ?_;(try simp only [zz,eq_true c17,e28]);cases h24;exact tz [ok 0,ok 1]
  have e29:=eF c17;refine ss (rg ?_);(try simp only [zz]);refine cd rfl ?_;(try simp only [zz]);refine gi h24 (fun c18 h24=>?_) fun c18 h24=>?_
  ·have e30:=eT c18;refine sk ?_;(try simp only [zz,eq_true c18,e30]);cases h24;exact tz [ok 0,ok 1]
  have e31:=eF c18;refine rg ?_;(try simp only [zz]);cases h24;exact tz [ok 0,ok 1]
 refine cd rfl ?_;(try simp only [zz]);refine gi h (fun c20 h=>?_) fun c20 h=>?_
 ·refine jm h (fun j23=>⟨ds 4 (e_bool j23::ds 98 []),[]⟩) (fun z33 h32=>?_) fun j23 h32 h=>?_
  ·refine rg ?_;(try simp only [zz]);refine gi h32 (fun c21 h32=>?_) fun c21 h32=>?_
   ·(try simp only [zz,c21]);refine gi h32 (fun c22 h32=>?_) fun c22 h32=>?_
    ·(try simp only [zz,c21,c22]);cases h32;exact tz []
    (try simp only [zz,c21,c22]);cases h32;exact tz []
   (try simp only [zz,c21]);cases h32;exact tz []
  cases h;exact rt ez
 refine sk ?_;(try simp only [zz,c20]);refine ss (rg ?_);(try simp only [zz]);cases h;exact rt ez
theorem expr_isNumber_ok {t0:Int}{r:Bool}(h:expr_isNumber t0=some r):Den Tryz.prog 336 [e_i64 t0] (e_bool r):=by
 refine dk 12 k336 ?_;simp only [k336,Kf.of,zs,ze];unfold expr_isNumber at h;refine ss (rg ?_);(try simp only [zz]);refine jm h (fun j3=>⟨ds 2 (e_bool j3::ds 10 []),[]⟩) (fun z2 h1=>?_) fun j3 h1 h=>?_
 ·refine rg ?_;(try simp only [zz]);refine gi h1 (fun c1 h1=>?_) fun c1 h1=>?_
  ·have e3:=eF c1;(try simp only [zz,c1,e3]);refine gi h1 (fun c2 h1=>?_) fun c2 h1=>?_
   ·have e5:=eF c2;(try simp only [zz,c1,e3,c2,e5]);cases h1;exact tz []
   have e6:=eD c2;(try simp only [zz,c1,e3,c2,e6]);cases h1;exact tz []
  have e4:=eD c1;(try simp only [zz,c1,e4]);cases h1;exact tz []
 cases h;exact rt ez
theorem expr_productType_ok {t0:Int}{t1:Int}{t2:Int}{r:(GType×Bool)}(h:expr_productType t0 t1 t2=some r):Den Tryz.prog 337 [e_i64 t0,e_i64 t1,e_i64 t2] (.tup [e_GType r.1,e_bool r.2]):=by
 refine dk 44 k337 ?_;simp only [k337,Kf.of,zs,ze];unfold expr_productType at h;refine ss (rg ?_);(try simp only [zz]);refine ss (bk (ss (rg ?_)));(try simp only [zz]);refine cd rfl ?_;(try simp only [zz]);refine gi h (fun c1 h=>?_) fun c1 h=>?_
 ·have e1:=eT c1;refine jm h (fun j4=>⟨ds 6 (.ref 0 0 0 0::e_bool j4::ds 39 []),[.live 2 0 [.agg [e_i64 t1,e_i64 0]]]⟩) (fun z4 h3=>?_) fun j4 h3 h=>?_
  ·refine rg ?_;(try simp only [zz]);refine gi h3 (fun c2 h3=>?_) fun c2 h3=>?_
   ·have e5:=eT c2;(try simp only [zz,eq_true c2,e5]);refine gi h3 (fun c3 h3=>?_) fun c3 h3=>?_
    ·have e7:=eF c3;(try simp only [zz,eq_true c2,e5,c3,e7]);cases h3;exact tz [ok 0]
    have e8:=eD c3;(try simp only [zz,eq_true c2,e5,c3,e8]);cases h3;exact tz [ok 0]
   have e6:=eF c2;(try simp only [zz,c2,e6]);cases h3;exact tz [ok 0]
  cases h;exact rt ez
 have e2:=eF c1;refine ss (rg ?_);(try simp only [zz]);refine cd rfl ?_;(try simp only [zz]);refine gi h (fun c5 h=>?_) fun c5 h=>?_
 ·have e9:=eT c5;refine jm h (fun j7=>⟨ds 6 (.ref 0 0 0 0::e_bool j7::ds 39 []),[.live 2 0 [.agg [e_i64 t1,e_i64 0]]]⟩) (fun z12 h11=>?_) fun j7 h11 h=>?_
  ·refine rg ?_;(try simp only [zz]);refine gi h11 (fun c6 h11=>?_) fun c6 h11=>?_
   ·have e13:=eF c6;(try simp only [zz,c6,e13]);cases h11;exact tz [ok 0]
   have e14:=eD c6;(try simp only [zz,c6,e14]);cases h11;exact tz [ok 0]
  cases h;exact rt ez
 have e10:=eF c5;refine jm h (fun j10=>⟨ds 6 (.ref 0 0 0 0::ds 27 (e_bool j10::ds 12 [])),[.live 2 0 [.agg [e_i64 0,e_i64 0]]]⟩) (fun z16 h15=>?_) fun j10 h15 h=>?_
 ·refine rg ?_;(try simp only [zz]);refine gi h15 (fun c8 h15=>?_) fun c8 h15=>?_
  ·have e17:=eT c8;(try simp only [zz,eq_true c8,e17]);refine gi h15 (fun c9 h15=>?_) fun c9 h15=>?_
   ·have e19:=eT c9;(try simp only [zz,eq_true c8,e17,eq_true c9,e19]);cases h15;exact tz [ok 0]
   have e20:=eF c9;(try simp only [zz,eq_true c8,e17,c9,e20]);cases h15;exact tz [ok 0]
  have e18:=eF c8;(try simp only [zz,c8,e18]);cases h15;exact tz [ok 0]
 refine cd rfl ?_;(try simp only [zz]);refine gi h (fun c11 h=>?_) fun c11 h=>?_
 ·refine ss (rg ?_);(try simp only [zz]);cases h;exact rt ez
 refine sk ?_;(try simp only [zz,c11]);refine ss (rg ?_);(try simp only [zz]);cases h;exact rt ez
theorem ref10_kind_ok {t0:Int}{r:GType}(h:ref10_kind t0=some r):Den Tryz.prog 338 [e_i64 t0] (e_GType r):=by
 refine dk 4 k338 ?_;simp only [k338,Kf.of,zs,ze];unfold ref10_kind at h;refine ss (rg ?_);(try simp only [zz]);refine ss (rg ?_);(try simp only [zz]);cases h;exact rt ez
theorem ref10_number_ok {t0:Int}{r:Bool}(h:ref10_number t0=some r):Den Tryz.prog 340 [e_i64 t0] (e_bool r):=by
 refine dk 12 k340 ?_;simp only [k340,Kf.of,zs,ze];unfold ref10_number at h;refine ss (rg ?_);(try simp only [zz]);refine jm h (fun j3=>⟨ds 2 (e_bool j3::ds 10 []),[]⟩) (fun z2 h1=>?_) fun j3 h1 h=>?_
 ·refine rg ?_;(try simp only [zz]);refine gi h1 (fun c1 h1=>?_) fun c1 h1=>?_
  ·have e3:=eF c1;(try simp only [zz,c1,e3]);refine gi h1 (fun c2 h1=>?_) fun c2 h1=>?_
   ·have e5:=eF c2;(try simp only [zz,c1,e3,c2,e5]);cases h1;exact tz []
   have e6:=eD c2;(try simp only [zz,c1,e3,c2,e6]);cases h1;exact tz []
  have e4:=eD c1;(try simp only [zz,c1,e4]);cases h1;exact tz []
 cases h;exact rt ez
theorem same_SmallLaw_ok {t0:GLaw}{r:Bool}(h:same_SmallLaw t0=some r):Den Tryz.prog 7 [e_GLaw t0] (e_bool r):=by
 refine dk 126 k7 ?_;simp only [k7,Kf.of,zs,ze];unfold same_SmallLaw at h;refine ss (rg ?_);(try simp only [zz]);refine ss ?_;refine jm h (fun j3=>⟨.dead::.ref 0 0 0 0::ds 22 (e_bool j3::ds 102 []),[.live 3 0 [e_GLaw t0]]⟩) (fun z2 h1=>?_) fun j3 h1 h=>?_
 ·refine rg ?_;(try simp only [zz]);refine gi h1 (fun c1 h1=>?_) fun c1 h1=>?_
  ·(try simp only [zz,c1]);refine gi h1 (fun c2 h1=>?_) fun c2 h1=>?_
   ·(try simp only [zz,c1,c2]);cases h1;exact tz [ok 0]
   (try simp only [zz,c1,c2]);cases h1;exact tz [ok 0]
  (try simp only [zz,c1]);cases h1;exact tz [ok 0]
 refine cd rfl ?_;(try simp only [zz]);refine gi h (fun c4 h=>?_) fun c4 h=>?_
 ·refine ss (rg ?_);(try simp only [zz]);cases h;exact rt ez
 refine sk ?_;(try simp only [zz,c4]);refine ss (rg ?_);(try simp only [zz]);refine ss (rg ?_);(try simp only [zz]);refine ss (ss (rg ?_));(try simp only [zz]);obtain⟨y3,h4,h⟩:=bs h;refine lm h4 (fun s5=>⟨.dead::.ref 0 0 0 0::.dead::e_i64 0::e_i64 0::e_i64 s5::ds 121 [],[.live 3 0 [e_GLaw t0]]⟩) (fun q=>⟨.dead::.ref 0 0 0 0::.dead::e_i64 0::e_i64 0::ds 122 [],[.live 3 0 [e_GLaw t0]]⟩) (tz [ok 0]) ?_ ?_
 ·rintro s5 z5 h6 h7;simp only [same_SmallLaw_L13]at h6;refine ss (ss (rg ?_));(try simp only [zz]);refine cd rfl ?_;(try simp only [zz]);refine gi h6 (fun c6 h6=>?_) fun c6 h6=>?_
  ·refine sk ?_;(try simp only [zz,c6]);refine ss (bk (ss ?_));refine jm h6 (fun j9=>⟨.dead::.ref 0 0 0 0::.dead::e_i64 0::e_i64 0::e_i64 s5::ds 43 (e_bool j9::ds 77 []),[.live 3 0 [e_GLaw t0]]⟩) (fun z9 h8=>?_) fun j9 h8 h6=>?_
   ·refine rg ?_;obtain⟨x7,f11,f12,h8⟩:=bI h8;(try simp only [zz,f11,f12]);refine gi h8 (fun c8 h8=>?_) fun c8 h8=>?_
    ·(try simp only [zz,f11,f12,c8]);cases h8;exact tz [ok 0]
    (try simp only [zz,f11,f12,c8]);cases h8;exact tz [ok 0]
   refine cd rfl ?_;(try simp only [zz]);refine gi h6 (fun c10 h6=>?_) fun c10 h6=>?_
   ·refine ss (rg ?_);(try simp only [zz]);cases h6;cases h7 _ rfl;cases h;exact rt ez
   refine sk ?_;(try simp only [zz,c10]);refine ss (rg ?_);(try simp only [zz]);obtain⟨y13,h14,h6⟩:=bs h6;refine lm h14 (fun s11=>⟨.dead::.ref 0 0 0 0::.dead::e_i64 0::e_i64 0::e_i64 s5::e_i64 s11::ds 120 [],[.live 3 0 [e_GLaw t0]]⟩) (fun q=>⟨.dead::.ref 0 0 0 0::.dead::e_i64 0::e_i64 0::e_i64 s5::ds 121 [],[.live 3 0 [e_GLaw t0]]⟩) (tz [ok 0]) ?_ ?_
   ·rintro s11 z15 h16 h17;simp only [same_SmallLaw_L8]at h16;refine ss (ss (rg ?_));obtain⟨x12,f19,f20,h16⟩:=bI h16;(try simp only [zz,f19,f20]);refine cd rfl ?_;(try simp only [zz,f19,f20]);refine gi h16 (fun c13 h16=>?_) fun c13 h16=>?_
    ·refine sk ?_;(try simp only [zz,f19,f20,c13]);refine ss (bk (ss (rg ?_)));obtain⟨x14,f22,f23,h16⟩:=bI h16;(try simp only [zz,f19,f20,f22,f23]);refine cd rfl ?_;(try simp only [zz,f19,f20,f22,f23]);refine gi h16 (fun c15 h16=>?_) fun c15 h16=>?_
     ·refine ss (rg ?_);(try simp only [zz]);cases h16;cases h17 _ rfl;cases h6;cases h7 _ rfl;cases h;exact rt ez
     refine sk ?_;(try simp only [zz,f19,f20,f22,f23,c15]);refine rg ?_;(try simp only [zz]);cases h16;exact tz [ok 0]
    refine xt ?_;(try simp only [zz,f19,f20,c13]);cases h16;exact tz [ok 0]
   rintro ⟨⟩ rfl;dsimp only at h6;(try simp only [zz]);refine rg ?_;(try simp only [zz]);cases h6;exact tz [ok 0]
  refine xt ?_;(try simp only [zz,c6]);cases h6;exact tz [ok 0]
 rintro ⟨⟩ rfl;dsimp only at h;(try simp only [zz]);refine ss (ss (rg ?_));(try simp only [zz]);obtain⟨y24,h25,h⟩:=bs h;refine lm h25 (fun q=>⟨.dead::.ref 0 0 0 0::.dead::e_i64 q.1::e_i64 0::ds 2 (e_i64 q.2::ds 119 []),[.live 3 0 [e_GLaw t0]]⟩) (fun q=>⟨.dead::.ref 0 0 0 0::ds 2 (e_i64 0::ds 122 []),[.live 3 0 [e_GLaw t0]]⟩) (tz [ok 0]) ?_ ?_
 ·rintro ⟨s18,s19⟩ z26 h27 h28;simp only [same_SmallLaw_L12]at h27;refine ss (ss (rg ?_));(try simp only [zz]);refine cd rfl ?_;(try simp only [zz]);refine gi h27 (fun c20 h27=>?_) fun c20 h27=>?_
  ·refine sk ?_;(try simp only [zz,c20]);refine ss (bk (ss (rg ?_)));obtain⟨x21,f30,f31,h27⟩:=bI h27;(try simp only [zz,f30,f31]);refine jm h27 (fun j23=>⟨.dead::.ref 0 0 0 0::.dead::e_i64 (wrapF .i64 (s18+(x21.Rows.length:Int)))::e_i64 0::ds 2 (e_i64 s19::ds 91 (e_bool j23::ds 27 [])),[.live 3 0 [e_GLaw t0]]⟩) (fun z33 h32=>?_) fun j23 h32 h27=>?_
   ·refine rg ?_;(try simp only [zz,f30,f31]);refine gi h32 (fun c22 h32=>?_) fun c22 h32=>?_
    ·(try simp only [zz,f30,f31,c22]);cases h32;exact tz [ok 0]
    (try simp only [zz,f30,f31,c22]);cases h32;exact tz [ok 0]
   refine cd rfl ?_;(try simp only [zz]);refine gi h27 (fun c24 h27=>?_) fun c24 h27=>?_
   ·refine ss (rg ?_);(try simp only [zz]);cases h27;cases h28 _ rfl;cases h;exact rt ez
   refine sk ?_;(try simp only [zz,c24]);refine rg ?_;(try simp only [zz]);cases h27;exact tz [ok 0]
  refine xt ?_;(try simp only [zz,c20]);cases h27;exact tz [ok 0]
 rintro ⟨⟩ rfl;dsimp only at h;(try simp only [zz]);refine ss (ss (rg ?_));(try simp only [zz]);obtain⟨y34,h35,h⟩:=bs h;refine lm h35 (fun q=>⟨.dead::.ref 0 0 0 0::ds 2 (e_i64 q.1::ds 3 (e_i64 q.2::ds 118 [])),[.live 3 0 [e_GLaw t0]]⟩) (fun q=>⟨ds 127 [],[]⟩) (tz [ok 0]) ?_ ?_
 ·rintro ⟨s27,s28⟩ z36 h37 h38;simp only [same_SmallLaw_L11]at h37;refine ss (ss (rg ?_));(try simp only [zz]);refine cd rfl ?_;(try simp only [zz]);refine gi h37 (fun c29 h37=>?_) fun c29 h37=>?_
  ·refine sk ?_;(try simp only [zz,c29]);refine ss (bk (ss (rg ?_)));obtain⟨x30,f40,f41,h37⟩:=bI h37;(try simp only [zz,f40,f41]);refine jm h37 (fun j33=>⟨.dead::.ref 0 0 0 0::ds 2 (e_i64 (wrapF .i64 (s27+(x30.Rules.length:Int)))::ds 3 (e_i64 s28::ds 117 (e_bool j33::[]))),[.live 3 0 [e_GLaw t0]]⟩) (fun z43 h42=>?_) fun j33 h42 h37=>?_
   ·refine rg ?_;(try simp only [zz]);refine gi h42 (fun c31 h42=>?_) fun c31 h42=>?_
    ·obtain⟨x32,a44,h42⟩:=bs h42;simp only [zz,c31,f40,f41];refine cq (same_smallScope_ok a44) ?_ (by simp only [zg,c4]);(try simp only [zz,c31,f40,f41]);cases h42;exact tz [ok 0]
    (try simp only [zz,c31]);cases h42;exact tz [ok 0]
   refine cd rfl ?_;(try simp only [zz]);refine gi h37 (fun c34 h37=>?_) fun c34 h37=>?_
   ·refine ss (rg ?_);(try simp only [zz]);cases h37;cases h38 _ rfl;cases h;exact rt ez
   refine sk ?_;(try simp only [zz,c34]);refine rg ?_;(try simp only [zz]);cases h37;exact tz [ok 0]
  refine xt ?_;(try simp only [zz,c29]);cases h37;exact tz []
 rintro ⟨⟩ rfl;dsimp only at h;(try simp only [zz]);refine ss (rg ?_);(try simp only [zz]);cases h;exact rt ez
theorem workday_Valid_ok {t0:GCalendar}{r:Bool}(h:workday_Valid t0=some r):Den Tryz.prog 28 [e_GCalendar t0] (e_bool r):=by
 refine dk 44 k28 ?_;simp only [k28,Kf.of,zs,ze];unfold workday_Valid at h;refine ss (rg ?_);(try simp only [zz]);refine ss ?_;refine jm h (fun j3=>⟨.dead::.ref 0 0 0 0::ds 16 (e_bool j3::ds 26 []),[.live 2 0 [e_GCalendar t0]]⟩) (fun z2 h1=>?_) fun j3 h1 h=>?_
 ·refine rg ?_;(try simp only [zz]);refine gi h1 (fun c1 h1=>?_) fun c1 h1=>?_
  ·(try simp only [zz,c1]);refine gi h1 (fun c2 h1=>?_) fun c2 h1=>?_
   ·(try simp only [zz,c1,c2]);cases h1;exact tz [ok 0]
   (try simp only [zz,c1,c2]);cases h1;exact tz [ok 0]
  (try simp only [zz,c1]);cases h1;exact tz [ok 0]
 refine cd rfl ?_;(try simp only [zz]);refine gi h (fun c4 h=>?_) fun c4 h=>?_
 ·refine ss (rg ?_);(try simp only [zz]);cases h;exact rt ez
 refine sk ?_;(try simp only [zz,c4]);refine ss (ss (rg ?_));(try simp only [zz]);obtain⟨y3,h4,h⟩:=bs h;refine lm h4 (fun s5=>⟨.dead::.ref 0 0 0 0::ds 18 (e_s_i64 t0.Holidays::e_i64 (t0.Holidays.length:Int)::e_i64 s5::ds 22 []),[.live 2 0 [e_GCalendar t0]]⟩) (fun q=>⟨ds 45 [],[]⟩) (tz [ok 0]) ?_ ?_
 ·rintro s5 z5 h6 h7;simp only [workday_Valid_L1]at h6;refine ss (rg ?_);(try simp only [zz]);refine ss (cd rfl ?_);(try simp only [zz]);refine gi h6 (fun c6 h6=>?_) fun c6 h6=>?_
  ·refine sk ?_;(try simp only [zz,c6]);refine ss (bk (ss (rg ?_)));obtain⟨x7,f9,f10,h6⟩:=bI h6;(try simp only [zz,f9,f10]);refine jm h6 (fun j12=>⟨.dead::.ref 0 0 0 0::ds 18 (e_s_i64 t0.Holidays::e_i64 (t0.Holidays.length:Int)::e_i64 s5::ds 20 (e_bool j12::.dead::[])),[.live 2 0 [e_GCalendar t0]]⟩) (fun z12 h11=>?_) fun j12 h11 h6=>?_
   ·refine rg ?_;obtain⟨x8,a13,h11⟩:=bs h11;simp only [zz];refine cq (workday_validDate_ok a13) ?_ (by simp only [zg,c4]);(try simp only [zz]);refine gi h11 (fun c9 h11=>?_) fun c9 h11=>?_
    ·(try simp only [zz,c9]);refine gi h11 (fun c10 h11=>?_) fun c10 h11=>?_
     ·obtain⟨x11,f15,f16,h11⟩:=bI h11;(try simp only [zz,c9,c10,f15,f16]);cases h11;exact tz [ok 0]
     (try simp only [zz,c9,c10]);cases h11;exact tz [ok 0]
    (try simp only [zz,c9]);cases h11;exact tz [ok 0]
   refine cd rfl ?_;(try simp only [zz]);refine gi h6 (fun c13 h6=>?_) fun c13 h6=>?_
   ·refine ss (rg ?_);(try simp only [zz]);cases h6;cases h7 _ rfl;cases h;exact rt ez
   refine sk ?_;(try simp only [zz,c13]);refine rg ?_;(try simp only [zz]);cases h6;exact tz [ok 0]
  refine xt ?_;(try simp only [zz,c6]);cases h6;exact tz []
 rintro ⟨⟩ rfl;dsimp only at h;(try simp only [zz]);refine ss (rg ?_);(try simp only [zz]);cases h;exact rt ez
theorem ref06_Valid_ok {t0:GCalendar}{r:Bool}(h:ref06_Valid t0=some r):Den Tryz.prog 31 [e_GCalendar t0] (e_bool r):=by
 refine dk 49 k31 ?_;simp only [k31,Kf.of,zs,ze];unfold ref06_Valid at h;refine ss (rg ?_);(try simp only [zz]);refine ss ?_;refine jm h (fun j3=>⟨.dead::.ref 0 0 0 0::ds 15 (e_bool j3::ds 32 []),[.live 2 0 [e_GCalendar t0]]⟩) (fun z2 h1=>?_) fun j3 h1 h=>?_
 ·refine rg ?_;(try simp only [zz]);refine gi h1 (fun c1 h1=>?_) fun c1 h1=>?_
  ·(try simp only [zz,c1]);refine gi h1 (fun c2 h1=>?_) fun c2 h1=>?_
   ·(try simp only [zz,c1,c2]);cases h1;exact tz [ok 0]
   (try simp only [zz,c1,c2]);cases h1;exact tz [ok 0]
  (try simp only [zz,c1]);cases h1;exact tz [ok 0]
 refine cd rfl ?_;(try simp only [zz]);refine gi h (fun c4 h=>?_) fun c4 h=>?_
 ·refine ss (rg ?_);(try simp only [zz]);cases h;exact rt ez
 refine sk ?_;(try simp only [zz,c4]);refine ss (ss (rg ?_));(try simp only [zz]);obtain⟨y3,h4,h⟩:=bs h;refine lm h4 (fun s5=>⟨.dead::.ref 0 0 0 0::.dead::e_i64 s5::ds 46 [],[.live 2 0 [e_GCalendar t0]]⟩) (fun q=>⟨ds 50 [],[]⟩) (tz [ok 0]) ?_ ?_
 ·rintro s5 z5 h6 h7;simp only [ref06_Valid_L1]at h6;refine ss (ss (rg ?_));(try simp only [zz]);refine cd rfl ?_;(try simp only [zz]);refine gi h6 (fun c6 h6=>?_) fun c6 h6=>?_
  ·refine sk ?_;(try simp only [zz,c6]);refine ss (bk ?_);refine jm h6 (fun j12=>⟨.dead::.ref 0 0 0 0::.dead::e_i64 s5::ds 45 (e_bool j12::[]),[.live 2 0 [e_GCalendar t0]]⟩) (fun z9 h8=>?_) fun j12 h8 h6=>?_
   ·refine dy hmix ?_;obtain⟨x7,f11,f12,h8⟩:=bI h8;obtain⟨x8,a13,h8⟩:=bs h8;simp only [zz,f11,f12,zy];refine lq (ref06_day_ok a13) ?_ (by simp only [zg,c4]);(try simp only [zz,f11,f12,zy]);refine gi h8 (fun c9 h8=>?_) fun c9 h8=>?_
    ·(try simp only [zz,f11,f12,c9,zy]);refine gi h8 (fun c10 h8=>?_) fun c10 h8=>?_
     ·obtain⟨x11,f15,f16,h8⟩:=bI h8;(try simp only [zz,f11,f12,c9,c10,f15,f16,zy]);cases h8;exact tz [ok 0]
     (try simp only [zz,f11,f12,c9,c10,zy]);cases h8;exact tz [ok 0]
    (try simp only [zz,f11,f12,c9,zy]);cases h8;exact tz [ok 0]
   refine cd rfl ?_;(try simp only [zz]);refine gi h6 (fun c13 h6=>?_) fun c13 h6=>?_
   ·refine ss (rg ?_);(try simp only [zz]);cases h6;cases h7 _ rfl;cases h;exact rt ez
   refine sk ?_;(try simp only [zz,c13]);refine rg ?_;(try simp only [zz]);cases h6;exact tz [ok 0]
  refine xt ?_;(try simp only [zz,c6]);cases h6;exact tz []
 rintro ⟨⟩ rfl;dsimp only at h;(try simp only [zz]);refine ss (rg ?_);(try simp only [zz]);cases h;exact rt ez
theorem value_Bounds_ok {t0:GType}{t1:List GEnum}{r:(Int×Int)}(h:value_Bounds t0 t1=some r):Den Tryz.prog 96 [e_GType t0,e_s_GEnum t1] (.tup [e_i64 r.1,e_i64 r.2]):=by
 refine dk 28 k96 ?_;simp only [k96,Kf.of,zs,ze];unfold value_Bounds at h;refine ss (rg ?_);(try simp only [zz]);refine ss (ss (rg ?_));obtain⟨x1,a1,h⟩:=bs h;simp only [zz];refine cq (value_ValidType_ok a1) ?_ (by simp only [zg]);(try simp only [zz]);refine cd rfl ?_;(try simp only [zz]);refine gi h (fun c2 h=>?_) fun c2 h=>?_
 ·refine ss (rg ?_);(try simp only [zz]);cases h;exact rt ez
 refine sk ?_;(try simp only [zz,c2]);refine ss (ss (rg ?_));(try simp only [zz]);refine bk (ss (rg ?_));(try simp only [zz]);refine cd rfl ?_;(try simp only [zz]);refine gi h (fun c3 h=>?_) fun c3 h=>?_
 ·have e2:=eT c3;refine ss (rg ?_);(try simp only [zz]);cases h;exact rt ez
 have e3:=eF c3;refine ss (rg ?_);(try simp only [zz]);refine cd rfl ?_;(try simp only [zz]);refine gi h (fun c4 h=>?_) fun c4 h=>?_
 ·have e4:=eT c4;refine ss (rg ?_);(try simp only [zz]);cases h;exact rt ez
 have e5:=eF c4;refine ss (rg ?_);(try simp only [zz]);refine cd rfl ?_;(try simp only [zz]);refine gi h (fun c5 h=>?_) fun c5 h=>?_
 ·have e6:=eT c5;refine ss (rg ?_);(try simp only [zz]);cases h;exact rt ez
 have e7:=eF c5;refine ss (rg ?_);(try simp only [zz]);refine cd rfl ?_;(try simp only [zz]);refine gi h (fun c6 h=>?_) fun c6 h=>?_
 ·have e8:=eT c6;refine ss (rg ?_);(try simp only [zz]);cases h;exact rt ez
 have e9:=eF c6;refine ss (rg ?_);(try simp only [zz]);refine cd rfl ?_;(try simp only [zz]);refine gi h (fun c7 h=>?_) fun c7 h=>?_
 ·have e10:=eT c7;refine ss (rg ?_);(try simp only [zz]);cases h;exact rt ez
 have e11:=eF c7;refine sk ?_;(try simp only [zz,c7,e11]);refine ss (dy hmix ?_);obtain⟨x8,f13,f14,h⟩:=bI h;(try simp only [zz,f13,f14,zy]);cases h;exact rt ez
theorem slices_Contains_string_string_ok {t0:List ByteArray}{t1:ByteArray}{r:Bool}(h:slices_Contains_string_string t0 t1=some r):Den Tryz.prog 162 [e_s_str t0,e_str t1] (e_bool r):=by
 refine dk 7 k162 ?_;simp only [k162,Kf.of,zs,ze];unfold slices_Contains_string_string at h;refine ss (rg ?_);(try simp only [zz]);refine ss (rg ?_);obtain⟨x1,a1,h⟩:=bs h;simp only [zz];refine cq (slices_Index_string_string_ok a1) ?_ (by simp only [zg]);(try simp only [zz]);cases h;exact rt ez
theorem lexer_nameLength_ok {t0:ByteArray}{r:Int}(h:lexer_nameLength t0=some r):Den Tryz.prog 168 [e_str t0] (e_i64 r):=by
 refine dk 28 k168 ?_;simp only [k168,Kf.of,zs,ze];unfold lexer_nameLength at h;refine ss (rg ?_);(try simp only [zz]);refine ss (rg ?_);(try simp only [zz]);refine ss ?_;obtain⟨y1,h2,h⟩:=bs h;refine lm h2 (fun s1=>⟨.v (.string t0)::ds 2 (e_i64 s1::ds 25 []),[]⟩) (fun b11=>⟨ds 3 (e_i64 b11::ds 25 []),[]⟩) (tz []) ?_ ?_
 ·rintro s1 z3 h4 h5;simp only [lexer_nameLength_L1]at h4;refine ss ?_;refine jm h4 (fun j8=>⟨.v (.string t0)::ds 2 (e_i64 s1::ds 21 (e_bool j8::ds 3 [])),[]⟩) (fun z7 h6=>?_) fun j8 h6 h4=>?_
  ·refine rg ?_;(try simp only [zz]);refine gi h6 (fun c2 h6=>?_) fun c2 h6=>?_
   ·obtain⟨x3,a8,h6⟩:=bs h6;obtain⟨x4,a10,h6⟩:=bs h6;simp only [zz,c2,a8];refine cq (lexer_isLower_ok a10) ?_ (by simp only [zg]);(try simp only [zz,c2,a8]);refine gi h6 (fun c5 h6=>?_) fun c5 h6=>?_
    ·obtain⟨x6,a11,h6⟩:=bs h6;simp only [zz,c2,a8,c5];refine cq (lexer_isDigit_ok a11) ?_ (by simp only [zg,c5]);(try simp only [zz,c2,a8,c5]);refine gi h6 (fun c7 h6=>?_) fun c7 h6=>?_
     ·(try simp only [zz,c2,a8,c5,c7]);cases h6;exact tz []
     (try simp only [zz,c2,a8,c5,c7]);cases h6;exact tz []
    (try simp only [zz,c2,a8,c5]);cases h6;exact tz []
   (try simp only [zz,c2]);cases h6;exact tz []
  refine cd rfl ?_;(try simp only [zz]);refine gi h4 (fun c9 h4=>?_) fun c9 h4=>?_
  ·refine sk ?_;(try simp only [zz,c9]);refine bk (rg ?_);(try simp only [zz]);cases h4;exact tz []
  refine xt ?_;(try simp only [zz,c9]);cases h4;exact tz []
 rintro b11 rfl;dsimp only at h;(try simp only [zz]);refine ss (rg ?_);(try simp only [zz]);cases h;exact rt ez
theorem slices_ContainsFunc_api_Enum_api_Enum_ok {t0:List GEnum}{t1:(GEnum→Option Bool)}{k1:Nat}{q1:List D}(hc1:idfrees q1=true) (hp1:∀x0 r,t1 x0=some r→Den Tryz.prog k1 ([e_GEnum x0]++q1) (e_bool r)) {r:Bool}(h:slices_ContainsFunc_api_Enum_api_Enum t0 t1=some r):Den Tryz.prog 170 [e_s_GEnum t0,.fn k1 [] q1] (e_bool r):=by
 refine Den.at 7 k170.ok k170.nm (frC (frF hc1 frN)) rfl ?_;simp only [k170,Kf.of,zs,ze];unfold slices_ContainsFunc_api_Enum_api_Enum at h;refine ss (rg ?_);(try simp only [zz]);refine ss (rg ?_);obtain⟨x1,a1,h⟩:=bs h;simp only [zz];refine cq (slices_IndexFunc_api_Enum_api_Enum_ok hc1 hp1 a1) ?_ (by simp only [zg,sqS_same hc1]);(try simp only [zz]);cases h;exact rt (er (by simp only [zz,zr];exact fq (by simp only [zg,sqS_same hc1])))
theorem slices_ContainsFunc_api_Table_api_Table_ok {t0:List GTable}{t1:(GTable→Option Bool)}{k1:Nat}{q1:List D}(hc1:idfrees q1=true) (hp1:∀x0 r,t1 x0=some r→Den Tryz.prog k1 ([e_GTable x0]++q1) (e_bool r)) {r:Bool}(h:slices_ContainsFunc_api_Table_api_Table t0 t1=some r):Den Tryz.prog 172 [e_s_GTable t0,.fn k1 [] q1] (e_bool r):=by
 refine Den.at 7 k172.ok k172.nm (frC (frF hc1 frN)) rfl ?_;simp only [k172,Kf.of,zs,ze];unfold slices_ContainsFunc_api_Table_api_Table at h;refine ss (rg ?_);(try simp only [zz]);refine ss (rg ?_);obtain⟨x1,a1,h⟩:=bs h;simp only [zz];refine cq (slices_IndexFunc_api_Table_api_Table_ok hc1 hp1 a1) ?_ (by simp only [zg,sqS_same hc1]);(try simp only [zz]);cases h;exact rt (er (by simp only [zz,zr];exact fq (by simp only [zg,sqS_same hc1])))
theorem slices_ContainsFunc_api_Scope_api_Scope_ok {t0:List GScope}{t1:(GScope→Option Bool)}{k1:Nat}{q1:List D}(hc1:idfrees q1=true) (hp1:∀x0 r,t1 x0=some r→Den Tryz.prog k1 ([e_GScope x0]++q1) (e_bool r)) {r:Bool}(h:slices_ContainsFunc_api_Scope_api_Scope t0 t1=some r):Den Tryz.prog 174 [e_s_GScope t0,.fn k1 [] q1] (e_bool r):=by
 refine Den.at 7 k174.ok k174.nm (frC (frF hc1 frN)) rfl ?_;simp only [k174,Kf.of,zs,ze];unfold slices_ContainsFunc_api_Scope_api_Scope at h;refine ss (rg ?_);(try simp only [zz]);refine ss (rg ?_);obtain⟨x1,a1,h⟩:=bs h;simp only [zz];refine cq (slices_IndexFunc_api_Scope_api_Scope_ok hc1 hp1 a1) ?_ (by simp only [zg,sqS_same hc1]);(try simp only [zz]);cases h;exact rt (er (by simp only [zz,zr];exact fq (by simp only [zg,sqS_same hc1])))
theorem law_sharedSignature_ok {t0:GLaw}{t1:Int}{r:GSignature}(h:law_sharedSignature t0 t1=some r):Den Tryz.prog 177 [e_GLaw t0,e_i64 t1] (e_GSignature r):=by
 refine dk 43 k177 ?_;simp only [k177,Kf.of,zs,ze];unfold law_sharedSignature at h;refine ss (rg ?_);(try simp only [zz]);refine ss (rg ?_);obtain⟨x1,f2,f3,h⟩:=bI h;(try simp only [zz,f2,f3]);refine ss (dy hmix ?_);obtain⟨x2,a4,h⟩:=bs h;simp only [zz,zy];refine lq (law_fieldTypes_ok a4) ?_ (by simp only [zg]);obtain⟨x3,a5,h⟩:=bs h;simp only [zz,zy];refine lq (law_fieldTypes_ok a5) ?_ (by simp only [zg]);(try simp only [zz,zy]);refine jm h (fun q=>⟨ds 4 (.ref 0 0 0 0::.dead::.ref 1 0 0 0::ds 38 []),[.live 6 0 [.agg [.v (.slice none 0 0),.v (.slice none 0 0),.v (.slice none 0 0),.v (.slice none 0 0),.v (.slice none 0 0),e_bool false]],.live 6 0 [.agg [e_s_GEnum t0.Enums,e_s_GTable t0.Tables,e_s_GType x2,e_s_GType x3,e_s_GType q.1,e_bool q.2]]]⟩) (fun z7 h6=>?_) fun z7 h6 h=>?_
 ·refine jm h6 (fun j5=>⟨ds 2 (.ref 0 0 0 0::.dead::.ref 1 0 0 0::.ref 2 0 0 0::.ref 3 0 0 0::ds 26 (e_bool j5::ds 11 [])),[.live 3 0 [e_GLaw t0],.live 6 0 [.agg [.v (.slice none 0 0),.v (.slice none 0 0),.v (.slice none 0 0),.v (.slice none 0 0),.v (.slice none 0 0),e_bool false]],.live 5 0 [e_GScope x1],.live 6 0 [.agg [e_s_GEnum t0.Enums,e_s_GTable t0.Tables,e_s_GType x2,e_s_GType x3,.v (.slice none 0 0),e_bool false]]]⟩) (fun z9 h8=>?_) fun j5 h8 h6=>?_
  ·refine rg ?_;(try simp only [zz]);refine gi h8 (fun c4 h8=>?_) fun c4 h8=>?_
   ·(try simp only [zz,c4]);cases h8;exact tz [ok 0,ok 1,ok 2,ok 3]
   (try simp only [zz,c4]);cases h8;exact tz [ok 0,ok 1,ok 2,ok 3]
  refine cd rfl ?_;(try simp only [zz]);refine gi h6 (fun c6 h6=>?_) fun c6 h6=>?_
  ·refine ss (rg ?_);obtain⟨x7,f11,f12,h6⟩:=bI h6;obtain⟨x8,a13,h6⟩:=bs h6;simp only [zz,f11,f12];refine cq (law_fieldTypes_ok a13) ?_ (by simp only [zg,c6]);(try simp only [zz,f11,f12]);refine rg ?_;(try simp only [zz]);cases h6;exact tz [ok 1,ok 3]
  refine sk ?_;(try simp only [zz,c6]);cases h6;exact tz [ok 1,ok 3]
 obtain⟨j9,j10⟩:=z7;dsimp only at h;refine ss (rg ?_);(try simp only [zz]);cases h;exact rt ez
theorem slices_Contains_int_int_ok {t0:List Int}{t1:Int}{r:Bool}(h:slices_Contains_int_int t0 t1=some r):Den Tryz.prog 179 [e_s_i64 t0,e_i64 t1] (e_bool r):=by
 refine dk 7 k179 ?_;simp only [k179,Kf.of,zs,ze];unfold slices_Contains_int_int at h;refine ss (rg ?_);(try simp only [zz]);refine ss (rg ?_);obtain⟨x1,a1,h⟩:=bs h;simp only [zz];refine cq (slices_Index_int_int_ok a1) ?_ (by simp only [zg]);(try simp only [zz]);cases h;exact rt ez
theorem daterange_hasDate_ok {t0:GDateRange}{r:Bool}(h:daterange_hasDate t0=some r):Den Tryz.prog 190 [e_GDateRange t0] (e_bool r):=by
 refine dk 11 k190 ?_;simp only [k190,Kf.of,zs,ze];unfold daterange_hasDate at h;refine ss (rg ?_);(try simp only [zz]);refine jm h (fun j3=>⟨ds 2 (e_bool j3::ds 9 []),[]⟩) (fun z2 h1=>?_) fun j3 h1 h=>?_
 ·refine rg ?_;obtain⟨x1,a3,h1⟩:=bs h1;simp only [zz];refine cq (daterange_Valid_ok a3) ?_ (by simp only [zg]);(try simp only [zz]);refine gi h1 (fun c2 h1=>?_) fun c2 h1=>?_
  ·(try simp only [zz,c2]);cases h1;exact tz []
  (try simp only [zz,c2]);cases h1;exact tz []
 cases h;exact rt ez
theorem ref09_Bounds_ok {t0:GType}{t1:List GEnum}{r:(Int×Int)}(h:ref09_Bounds t0 t1=some r):Den Tryz.prog 212 [e_GType t0,e_s_GEnum t1] (.tup [e_i64 r.1,e_i64 r.2]):=by
 refine dk 28 k212 ?_;simp only [k212,Kf.of,zs,ze];unfold ref09_Bounds at h;refine ss (rg ?_);(try simp only [zz]);refine ss (ss (rg ?_));obtain⟨x1,a1,h⟩:=bs h;simp only [zz];refine cq (ref09_ValidType_ok a1) ?_ (by simp only [zg]);(try simp only [zz]);refine cd rfl ?_;(try simp only [zz]);refine gi h (fun c2 h=>?_) fun c2 h=>?_
 ·refine ss (rg ?_);(try simp only [zz]);cases h;exact rt ez
 refine sk ?_;(try simp only [zz,c2]);refine ss (ss (rg ?_));(try simp only [zz]);refine bk (ss (rg ?_));(try simp only [zz]);refine cd rfl ?_;(try simp only [zz]);refine gi h (fun c3 h=>?_) fun c3 h=>?_
 ·have e2:=eT c3;refine ss (rg ?_);(try simp only [zz]);cases h;exact rt ez
 have e3:=eF c3;refine ss (rg ?_);(try simp only [zz]);refine cd rfl ?_;(try simp only [zz]);refine gi h (fun c4 h=>?_) fun c4 h=>?_
 ·have e4:=eT c4;refine ss (rg ?_);(try simp only [zz]);cases h;exact rt ez
 have e5:=eF c4;refine ss (rg ?_);(try simp only [zz]);refine cd rfl ?_;(try simp only [zz]);refine gi h (fun c5 h=>?_) fun c5 h=>?_
 ·have e6:=eT c5;refine ss (rg ?_);(try simp only [zz]);cases h;exact rt ez
 have e7:=eF c5;refine ss (rg ?_);(try simp only [zz]);refine cd rfl ?_;(try simp only [zz]);refine gi h (fun c6 h=>?_) fun c6 h=>?_
 ·have e8:=eT c6;refine ss (rg ?_);(try simp only [zz]);cases h;exact rt ez
 have e9:=eF c6;refine ss (rg ?_);(try simp only [zz]);refine cd rfl ?_;(try simp only [zz]);refine gi h (fun c7 h=>?_) fun c7 h=>?_
 ·have e10:=eT c7;refine ss (rg ?_);(try simp only [zz]);cases h;exact rt ez
 have e11:=eF c7;refine sk ?_;(try simp only [zz,c7,e11]);refine ss (dy hmix ?_);obtain⟨x8,f13,f14,h⟩:=bI h;(try simp only [zz,f13,f14,zy]);cases h;exact rt ez
theorem slices_ContainsFunc_api_Field_api_Field_ok {t0:List GField}{t1:(GField→Option Bool)}{k1:Nat}{q1:List D}(hc1:idfrees q1=true) (hp1:∀x0 r,t1 x0=some r→Den Tryz.prog k1 ([e_GField x0]++q1) (e_bool r)) {r:Bool}(h:slices_ContainsFunc_api_Field_api_Field t0 t1=some r):Den Tryz.prog 225 [e_s_GField t0,.fn k1 [] q1] (e_bool r):=by
 refine Den.at 7 k225.ok k225.nm (frC (frF hc1 frN)) rfl ?_;simp only [k225,Kf.of,zs,ze];unfold slices_ContainsFunc_api_Field_api_Field at h;refine ss (rg ?_);(try simp only [zz]);refine ss (rg ?_);obtain⟨x1,a1,h⟩:=bs h;simp only [zz];refine cq (slices_IndexFunc_api_Field_api_Field_ok hc1 hp1 a1) ?_ (by simp only [zg,sqS_same hc1]);(try simp only [zz]);cases h;exact rt (er (by simp only [zz,zr];exact fq (by simp only [zg,sqS_same hc1])))
theorem slices_ContainsFunc_api_Rule_api_Rule_ok {t0:List GRule}{t1:(GRule→Option Bool)}{k1:Nat}{q1:List D}(hc1:idfrees q1=true) (hp1:∀x0 r,t1 x0=some r→Den Tryz.prog k1 ([e_GRule x0]++q1) (e_bool r)) {r:Bool}(h:slices_ContainsFunc_api_Rule_api_Rule t0 t1=some r):Den Tryz.prog 227 [e_s_GRule t0,.fn k1 [] q1] (e_bool r):=by
 refine Den.at 7 k227.ok k227.nm (frC (frF hc1 frN)) rfl ?_;simp only [k227,Kf.of,zs,ze];unfold slices_ContainsFunc_api_Rule_api_Rule at h;refine ss (rg ?_);(try simp only [zz]);refine ss (rg ?_);obtain⟨x1,a1,h⟩:=bs h;simp only [zz];refine cq (slices_IndexFunc_api_Rule_api_Rule_ok hc1 hp1 a1) ?_ (by simp only [zg,sqS_same hc1]);(try simp only [zz]);cases h;exact rt (er (by simp only [zz,zr];exact fq (by simp only [zg,sqS_same hc1])))
theorem law_validSource_ok {t0:ByteArray}{r:Bool}(h:law_validSource t0=some r):Den Tryz.prog 229 [e_str t0] (e_bool r):=by
 refine dk 26 k229 ?_;simp only [k229,Kf.of,zs,ze];unfold law_validSource at h;refine ss (rg ?_);(try simp only [zz]);refine ss ?_;refine jm h (fun j3=>⟨.v (.string t0)::ds 9 (e_bool j3::ds 16 []),[]⟩) (fun z2 h1=>?_) fun j3 h1 h=>?_
 ·refine rg ?_;(try simp only [zz]);refine gi h1 (fun c1 h1=>?_) fun c1 h1=>?_
  ·obtain⟨x2,a3,h1⟩:=bs h1;simp only [zz,c1];refine cq (strings_Contains_ok a3) ?_ (by simp only [zg]);(try simp only [zz,c1]);cases h1;exact tz []
  (try simp only [zz,c1]);cases h1;exact tz []
 refine cd rfl ?_;(try simp only [zz]);refine gi h (fun c4 h=>?_) fun c4 h=>?_
 ·refine ss (rg ?_);(try simp only [zz]);cases h;exact rt ez
 refine sk ?_;(try simp only [zz,c4]);refine ss (ss (rg ?_));(try simp only [zz]);obtain⟨y4,h5,h⟩:=bs h;refine lm h5 (fun s5=>⟨.v (.string t0)::ds 11 (e_i64 (t0.size:Int)::e_i64 s5::ds 13 []),[]⟩) (fun q=>⟨ds 27 [],[]⟩) (tz []) ?_ ?_
 ·rintro s5 z6 h7 h8;simp only [law_validSource_L1]at h7;refine ss (rg ?_);(try simp only [zz]);refine ss (cd rfl ?_);(try simp only [zz]);refine gi h7 (fun c6 h7=>?_) fun c6 h7=>?_
  ·refine sk ?_;(try simp only [zz,c6]);refine ss (bk (ss (rg ?_)));(try simp only [zz]);refine jm h7 (fun j9=>⟨.v (.string t0)::ds 11 (e_i64 (t0.size:Int)::e_i64 s5::ds 11 (e_bool j9::.dead::[])),[]⟩) (fun z10 h9=>?_) fun j9 h9 h7=>?_
   ·refine rg ?_;obtain⟨x7,a11,h9⟩:=bs h9;(try simp only [zz,a11]);refine gi h9 (fun c8 h9=>?_) fun c8 h9=>?_
    ·(try simp only [zz,a11,c8]);cases h9;exact tz []
    (try simp only [zz,a11,c8]);cases h9;exact tz []
   refine cd rfl ?_;(try simp only [zz]);refine gi h7 (fun c10 h7=>?_) fun c10 h7=>?_
   ·refine ss (rg ?_);(try simp only [zz]);cases h7;cases h8 _ rfl;cases h;exact rt ez
   refine sk ?_;(try simp only [zz,c10]);refine rg ?_;(try simp only [zz]);cases h7;exact tz []
  refine xt ?_;(try simp only [zz,c6]);cases h7;exact tz []
 rintro ⟨⟩ rfl;dsimp only at h;(try simp only [zz]);refine ss (rg ?_);(try simp only [zz]);cases h;exact rt ez
theorem ref08_word_ok {t0:Int}{r:Bool}(h:ref08_word t0=some r):Den Tryz.prog 235 [e_u8 t0] (e_bool r):=by
 refine dk 12 k235 ?_;simp only [k235,Kf.of,zs,ze];unfold ref08_word at h;refine ss (rg ?_);(try simp only [zz]);refine jm h (fun j5=>⟨ds 2 (e_bool j5::ds 10 []),[]⟩) (fun z2 h1=>?_) fun j5 h1 h=>?_
 ·refine rg ?_;obtain⟨x1,a3,h1⟩:=bs h1;simp only [zz];refine cq (ref08_lower_ok a3) ?_ (by simp only [zg]);(try simp only [zz]);refine gi h1 (fun c2 h1=>?_) fun c2 h1=>?_
  ·obtain⟨x3,a4,h1⟩:=bs h1;simp only [zz,c2];refine cq (ref08_digit_ok a4) ?_ (by simp only [zg,c2]);(try simp only [zz,c2]);refine gi h1 (fun c4 h1=>?_) fun c4 h1=>?_
   ·(try simp only [zz,c2,c4]);cases h1;exact tz []
   (try simp only [zz,c2,c4]);cases h1;exact tz []
  (try simp only [zz,c2]);cases h1;exact tz []
 cases h;exact rt ez
theorem ref17_Signature_ok {t0:GLaw}{t1:Int}{r:GSignature}(h:ref17_Signature t0 t1=some r):Den Tryz.prog 242 [e_GLaw t0,e_i64 t1] (e_GSignature r):=by
 refine dk 53 k242 ?_;simp only [k242,Kf.of,zs,ze];unfold ref17_Signature at h;refine ss (rg ?_);(try simp only [zz]);refine ss ?_;refine jm h (fun j2=>⟨.dead::e_i64 t1::.ref 0 0 0 0::.dead::.ref 1 0 0 0::ds 10 (e_bool j2::ds 39 []),[.live 3 0 [e_GLaw t0],.live 6 0 [.agg [.v (.slice none 0 0),.v (.slice none 0 0),.v (.slice none 0 0),.v (.slice none 0 0),.v (.slice none 0 0),e_bool false]]]⟩) (fun z2 h1=>?_) fun j2 h1 h=>?_
 ·refine rg ?_;(try simp only [zz]);refine gi h1 (fun c1 h1=>?_) fun c1 h1=>?_
  ·(try simp only [zz,c1]);cases h1;exact tz [ok 0,ok 1]
  (try simp only [zz,c1]);cases h1;exact tz [ok 0,ok 1]
 refine cd rfl ?_;(try simp only [zz]);refine gi h (fun c3 h=>?_) fun c3 h=>?_
 ·refine ss (rg ?_);(try simp only [zz]);cases h;exact rt ez
 refine sk ?_;(try simp only [zz,c3]);refine ss (rg ?_);obtain⟨x4,f4,f5,h⟩:=bI h;(try simp only [zz,f4,f5]);refine ss (dy hmix ?_);obtain⟨x5,a6,h⟩:=bs h;simp only [zz,zy];refine lq (ref17_fieldTypes_ok a6) ?_ (by simp only [zg,c3]);obtain⟨x6,a7,h⟩:=bs h;simp only [zz,zy];refine lq (ref17_fieldTypes_ok a7) ?_ (by simp only [zg,c3]);(try simp only [zz,zy]);refine jm h (fun q=>⟨ds 4 (.ref 0 0 0 0::.dead::.ref 1 0 0 0::ds 48 []),[.live 6 0 [.agg [.v (.slice none 0 0),.v (.slice none 0 0),.v (.slice none 0 0),.v (.slice none 0 0),.v (.slice none 0 0),e_bool false]],.live 6 0 [.agg [e_s_GEnum t0.Enums,e_s_GTable t0.Tables,e_s_GType x5,e_s_GType x6,e_s_GType q.1,e_bool q.2]]]⟩) (fun z9 h8=>?_) fun z9 h8 h=>?_
 ·refine jm h8 (fun j8=>⟨ds 2 (.ref 0 0 0 0::.dead::.ref 1 0 0 0::.ref 2 0 0 0::.ref 3 0 0 0::ds 36 (e_bool j8::ds 11 [])),[.live 3 0 [e_GLaw t0],.live 6 0 [.agg [.v (.slice none 0 0),.v (.slice none 0 0),.v (.slice none 0 0),.v (.slice none 0 0),.v (.slice none 0 0),e_bool false]],.live 5 0 [e_GScope x4],.live 6 0 [.agg [e_s_GEnum t0.Enums,e_s_GTable t0.Tables,e_s_GType x5,e_s_GType x6,.v (.slice none 0 0),e_bool false]]]⟩) (fun z11 h10=>?_) fun j8 h10 h8=>?_
  ·refine rg ?_;(try simp only [zz]);refine gi h10 (fun c7 h10=>?_) fun c7 h10=>?_
   ·(try simp only [zz,c7]);cases h10;exact tz [ok 0,ok 1,ok 2,ok 3]
   (try simp only [zz,c7]);cases h10;exact tz [ok 0,ok 1,ok 2,ok 3]
  refine cd rfl ?_;(try simp only [zz]);refine gi h8 (fun c9 h8=>?_) fun c9 h8=>?_
  ·refine ss (rg ?_);obtain⟨x10,f13,f14,h8⟩:=bI h8;obtain⟨x11,a15,h8⟩:=bs h8;simp only [zz,f13,f14];refine cq (ref17_fieldTypes_ok a15) ?_ (by simp only [zg,c3,c9]);(try simp only [zz,f13,f14]);refine rg ?_;(try simp only [zz]);cases h8;exact tz [ok 1,ok 3]
  refine sk ?_;(try simp only [zz,c9]);cases h8;exact tz [ok 1,ok 3]
 obtain⟨j12,j13⟩:=z9;dsimp only at h;refine ss (rg ?_);(try simp only [zz]);cases h;exact rt ez
theorem deps_sortedSet_c {t0:List Int}{r:List Int}(h:deps_sortedSet t0=some r):DenC Tryz.prog 259 [] [] 1 (t0.map e_i64) (e_s_i64 r):=by
 refine DenC.at 6 k259.ok k259.nm frN frN (Fr.l _) rfl ?_;simp only [k259,Kf.of,zs,ze];unfold deps_sortedSet at h;refine ss (rg ?_);(try simp only [zz]);refine ss (rg ?_);obtain⟨x1,a1,h⟩:=bs h;simp only [zz];refine callX_W (slices_Sort_int_int_w a1) rfl rfl ?_;(try simp only [zz]);refine ss (rg ?_);obtain⟨x2,a2,h⟩:=bs h;simp only [zz];refine callX_C (slices_Compact_int_int_c a2) rfl rfl ?_;(try simp only [zz]);cases h;exact rt ez
theorem ref05_Intersect_ok {t0:GDateRange}{t1:GDateRange}{r:(GDateRange×Bool)}(h:ref05_Intersect t0 t1=some r):Den Tryz.prog 269 [e_GDateRange t0,e_GDateRange t1] (.tup [e_GDateRange r.1,e_bool r.2]):=by
 refine dk 32 k269 ?_;simp only [k269,Kf.of,zs,ze];unfold ref05_Intersect at h;refine ss (rg ?_);(try simp only [zz]);refine ss ?_;refine jm h (fun j4=>⟨ds 2 (.ref 0 0 0 0::.ref 1 0 0 0::.ref 2 0 0 0::ds 9 (e_bool j4::ds 19 [])),[.live 2 0 [e_GDateRange t0],.live 2 0 [e_GDateRange t1],.live 2 0 [.agg [e_i64 0,e_i64 0]]]⟩) (fun z2 h1=>?_) fun j4 h1 h=>?_
 ·refine rg ?_;obtain⟨x1,a3,h1⟩:=bs h1;simp only [zz];refine cq (ref05_Valid_ok a3) ?_ (by simp only [zg]);(try simp only [zz]);refine gi h1 (fun c2 h1=>?_) fun c2 h1=>?_
  ·obtain⟨x3,a4,h1⟩:=bs h1;simp only [zz,c2];refine cq (ref05_Valid_ok a4) ?_ (by simp only [zg,c2]);(try simp only [zz,c2]);cases h1;exact tz [ok 0,ok 1,ok 2]
  (try simp only [zz,c2]);cases h1;exact tz [ok 0,ok 1,ok 2]
 refine cd rfl ?_;(try simp only [zz]);refine gi h (fun c5 h=>?_) fun c5 h=>?_
 ·refine ss (rg ?_);(try simp only [zz]);cases h;exact rt ez
 refine sk ?_;(try simp only [zz,c5]);refine ss (rg ?_);(try simp only [zz]);refine ss (ss (rg ?_));(try simp only [zz]);refine cd rfl ?_;(try simp only [zz]);refine gi h (fun c6 h=>?_) fun c6 h=>?_
 ·refine ss (rg ?_);(try simp only [zz]);cases h;exact rt ez
 refine sk ?_;(try simp only [zz,c6]);refine ss (rg ?_);(try simp only [zz]);cases h;exact rt ez
theorem ref10_References_ok {t0:List GNode}{r:((List Int)×(List Int)×(List Int))}(h:ref10_References t0=some r):Den Tryz.prog 273 [e_s_GNode t0] (.tup [e_s_i64 r.1,e_s_i64 r.2.1,e_s_i64 r.2.2]):=by
 refine dk 54 k273 ?_;simp only [k273,Kf.of,zs,ze];unfold ref10_References at h;refine ss (rg ?_);(try simp only [zz]);refine ss (rg ?_);(try simp only [zz]);refine ss (ss (rg ?_));(try simp only [zz]);obtain⟨y1,h2,h⟩:=bs h;refine lm h2 (fun q=>⟨e_s_GNode t0::ds 4 (e_s_i64 q.1::e_s_i64 q.2.1::e_s_i64 q.2.2.1::e_i64 q.2.2.2::ds 46 []),[]⟩) (fun q=>⟨ds 5 (e_s_i64 q.1::e_s_i64 q.2.1::e_s_i64 q.2.2::ds 47 []),[]⟩) (tz []) ?_ ?_
 ·rintro ⟨s1,s2,s3,s4⟩ z3 h4 h5;simp only [ref10_References_L1]at h4;refine ss (ss (rg ?_));(try simp only [zz]);refine cd rfl ?_;(try simp only [zz]);refine gi h4 (fun c5 h4=>?_) fun c5 h4=>?_
  ·refine sk ?_;(try simp only [zz,c5]);refine jm h4 (fun q=>⟨e_s_GNode t0::ds 4 (e_s_i64 q.1::e_s_i64 q.2.1::e_s_i64 q.2.2::e_i64 s4::ds 46 []),[]⟩) (fun z7 h6=>?_) fun z7 h6 h4=>?_
   ·refine bk (ss (rg ?_));obtain⟨x6,f9,f10,h6⟩:=bI h6;(try simp only [zz,f9,f10]);refine jm h6 (fun j9=>⟨e_s_GNode t0::ds 4 (e_s_i64 j9::e_s_i64 s2::e_s_i64 s3::e_i64 s4::e_i64 x6.Op::ds 45 []),[]⟩) (fun z12 h11=>?_) fun j9 h11 h6=>?_
    ·refine ss (rg ?_);(try simp only [zz]);refine cd rfl ?_;(try simp only [zz]);refine gi h11 (fun c7 h11=>?_) fun c7 h11=>?_
     ·have e13:=eT c7;refine rg ?_;obtain⟨x8,a15,h11⟩:=bs h11;simp only [zz,f9,f10];refine cq (ref10_insert_ok a15) ?_ (by simp only [zg,e13]);(try simp only [zz,f9,f10]);cases h11;exact tz []
     have e14:=eF c7;refine sk ?_;(try simp only [zz,c7,e14]);cases h11;exact tz []
    refine jm h6 (fun j12=>⟨e_s_GNode t0::ds 4 (e_s_i64 j9::e_s_i64 j12::e_s_i64 s3::e_i64 s4::e_i64 x6.Op::ds 45 []),[]⟩) (fun z17 h16=>?_) fun j12 h16 h6=>?_
    ·refine ss (rg ?_);(try simp only [zz]);refine cd rfl ?_;(try simp only [zz]);refine gi h16 (fun c10 h16=>?_) fun c10 h16=>?_
     ·have e18:=eT c10;refine rg ?_;obtain⟨x11,a20,h16⟩:=bs h16;simp only [zz,f9,f10];refine cq (ref10_insert_ok a20) ?_ (by simp only [zg,e18]);(try simp only [zz,f9,f10]);cases h16;exact tz []
     have e19:=eF c10;refine sk ?_;(try simp only [zz,c10,e19]);cases h16;exact tz []
    refine jm h6 (fun j14=>⟨e_s_GNode t0::ds 4 (e_s_i64 j9::e_s_i64 j12::e_s_i64 s3::e_i64 s4::ds 35 (e_bool j14::ds 10 [])),[]⟩) (fun z22 h21=>?_) fun j14 h21 h6=>?_
    ·refine rg ?_;(try simp only [zz]);refine gi h21 (fun c13 h21=>?_) fun c13 h21=>?_
     ·(try simp only [zz,c13]);cases h21;exact tz []
     (try simp only [zz,c13]);cases h21;exact tz []
    refine cd rfl ?_;(try simp only [zz]);refine gi h6 (fun c15 h6=>?_) fun c15 h6=>?_
    ·refine rg ?_;obtain⟨x16,a23,h6⟩:=bs h6;simp only [zz,f9,f10];refine cq (ref10_insert_ok a23) ?_ (by simp only [zg,c15]);(try simp only [zz,f9,f10]);cases h6;exact tz []
    refine sk ?_;(try simp only [zz,c15]);cases h6;exact tz []
   obtain⟨j17,j18,j19⟩:=z7;dsimp only at h4;refine rg ?_;(try simp only [zz]);cases h4;exact tz []
  refine xt ?_;(try simp only [zz,c5]);cases h4;exact tz []
 rintro ⟨b24,b25,b26⟩ rfl;dsimp only at h;(try simp only [zz]);refine ss (rg ?_);(try simp only [zz]);cases h;exact rt ez
theorem expr_distinct_c {t0:List Int}{r:List Int}(h:expr_distinct t0=some r):DenC Tryz.prog 278 [] [] 1 (t0.map e_i64) (e_s_i64 r):=by
 refine DenC.at 6 k278.ok k278.nm frN frN (Fr.l _) rfl ?_;simp only [k278,Kf.of,zs,ze];unfold expr_distinct at h;refine ss (rg ?_);(try simp only [zz]);refine ss (rg ?_);obtain⟨x1,a1,h⟩:=bs h;simp only [zz];refine callX_W (slices_Sort_int_int_w a1) rfl rfl ?_;(try simp only [zz]);refine ss (rg ?_);obtain⟨x2,a2,h⟩:=bs h;simp only [zz];refine callX_C (slices_Compact_int_int_c a2) rfl rfl ?_;(try simp only [zz]);cases h;exact rt ez
theorem expr_structure_ok {t0:List GNode}{r:((List Int)×Int×Int)}(h:expr_structure t0=some r):Den Tryz.prog 287 [e_s_GNode t0] (.tup [e_s_i64 r.1,e_i64 r.2.1,e_i64 r.2.2]):=by
 refine dk 75 k287 ?_;simp only [k287,Kf.of,zs,ze];unfold expr_structure at h;refine ss (rg ?_);(try simp only [zz]);refine ss (ss (rg ?_));(try simp only [zz]);refine cd rfl ?_;(try simp only [zz]);refine gi h (fun c1 h=>?_) fun c1 h=>?_
 ·refine ss (rg ?_);(try simp only [zz]);cases h;exact rt ez
 refine sk ?_;(try simp only [zz,c1]);refine ss (ss (rg ?_));(try simp only [zz]);refine cd rfl ?_;(try simp only [zz]);refine gi h (fun c2 h=>?_) fun c2 h=>?_
 ·have e1:=eT c2;refine ss (rg ?_);(try simp only [zz]);cases h;exact rt ez
 have e2:=eF c2;refine sk ?_;(try simp only [zz,c2,e2]);refine ss (rg ?_);obtain⟨x3,a3,h⟩:=bs h;obtain⟨f4,f5,f6,f7,f8⟩:=mks_f (e:=e_i64) a3;(try simp only [zz]at f7 f8);(try simp only [zz,f4,f5,f6,f7,f8]);refine ss (rg ?_);(try simp only [zz]);refine ss (ss (rg ?_));(try simp only [zz]);obtain⟨y9,h10,h⟩:=bs h;refine lm h10 (fun q=>⟨e_s_GNode t0::ds 4 (.own 0 0::.own 1 0::ds 12 (e_s_GNode t0::e_i64 (t0.length:Int)::e_i64 q.2.2::ds 54 [])),[.live 1 0 (q.1.map e_i64),.live 1 0 (q.2.1.map e_i64)]⟩) (fun q=>⟨e_s_GNode t0::ds 4 (.own 0 0::.own 1 0::ds 69 []),[.live 1 0 (q.1.map e_i64),.live 1 0 (q.2.map e_i64)]⟩) (tz [ok 0,on 1]) ?_ ?_
 ·rintro ⟨s4,s5,s6⟩ z11 h12 h13;simp only [expr_structure_L1]at h12;refine ss (rg ?_);(try simp only [zz]);refine ss (cd rfl ?_);(try simp only [zz]);refine gi h12 (fun c7 h12=>?_) fun c7 h12=>?_
  ·refine sk ?_;(try simp only [zz,c7]);refine ss (bk (ss (rg ?_)));obtain⟨x8,f15,f16,h12⟩:=bI h12;(try simp only [zz,f15,f16]);refine ss (rg ?_);obtain⟨x9,a17,h12⟩:=bs h12;simp only [zz];refine cq (expr_Arity_ok a17) ?_ (by simp only [zg,e2]);(try simp only [zz]);refine ss (ss (rg ?_));(try simp only [zz]);refine cd rfl ?_;(try simp only [zz]);refine gi h12 (fun c10 h12=>?_) fun c10 h12=>?_
   ·refine ss (rg ?_);(try simp only [zz]);cases h12;cases h13 _ rfl;cases h;exact rt ez
   refine sk ?_;(try simp only [zz,c10]);refine ss (ss (rg ?_));(try simp only [zz]);refine cd rfl ?_;(try simp only [zz]);refine gi h12 (fun c11 h12=>?_) fun c11 h12=>?_
   ·refine ss (rg ?_);(try simp only [zz]);cases h12;cases h13 _ rfl;cases h;exact rt ez
   refine sk ?_;(try simp only [zz,c11]);refine ss (rg ?_);obtain⟨x12,f19,f20,f21,h12⟩:=bO h12;obtain⟨x13,a22,h12⟩:=bs h12;obtain⟨f23,f24⟩:=put_f (e:=e_i64) a22;(try simp only [zz]at f24);(try simp only [zz,f19,f20,f21,f23,f24]);refine jm h12 (fun j18=>⟨e_s_GNode t0::ds 4 (.own 0 0::.own 1 0::e_i64 s6::.dead::e_i64 x9::ds 9 (e_s_GNode t0::e_i64 (t0.length:Int)::e_i64 s6::ds 54 [])),[.live 1 0 (j18.map e_i64),.live 1 0 (s5.map e_i64)]⟩) (fun z26 h25=>?_) fun j18 h25 h12=>?_
   ·refine ss (rg ?_);(try simp only [zz]);refine cd rfl ?_;(try simp only [zz]);refine gi h25 (fun c14 h25=>?_) fun c14 h25=>?_
    ·refine rg ?_;obtain⟨x15,f28,f29,f30,h25⟩:=bO h25;obtain⟨x16,f32,f33,f34,h25⟩:=bO h25;obtain⟨x17,a35,h25⟩:=bs h25;obtain⟨f36,f37⟩:=put_f (e:=e_i64) a35;(try simp only [zz]at f37);(try simp only [zz,f28,f29,f30,f32,f33,f34,f36,f37]);cases h25;exact tz [ok 0,ok 1]
    refine sk ?_;(try simp only [zz,c14]);cases h25;exact tz [ok 0,ok 1]
   refine ss (ay hmix [[],[],[],[],[],[],[],[],[5],[5],[]] (by kernel_rfl) ?_);obtain⟨x19,a38,h12⟩:=bs h12;obtain⟨f39,f40,f41⟩:=trunc_f (e:=e_i64) a38;(try simp only [zz]at f41);obtain⟨x20,f43,f44,f45,h12⟩:=bO h12;obtain⟨x21,a46,h12⟩:=bs h12;obtain⟨f47,f48⟩:=app_f (e:=e_i64) a46;(try simp only [zz]at f47 f48);(try simp only [zz,f39,f40,f41,f43,f44,f45,f47,f48,zy]);refine ss (rg ?_);(try simp only [zz]);refine cd rfl ?_;(try simp only [zz]);refine gi h12 (fun c22 h12=>?_) fun c22 h12=>?_
   ·refine ss (rg ?_);(try simp only [zz]);cases h12;cases h13 _ rfl;cases h;exact rt ez
   refine sk ?_;(try simp only [zz,c22]);refine rg ?_;(try simp only [zz]);cases h12;exact tz [ok 0,ov 1 2]
  refine xt ?_;(try simp only [zz,c7]);cases h12;exact tz [ok 0,ok 1]
 rintro ⟨b26,b27⟩ rfl;dsimp only at h;(try simp only [zz]);refine ss (ss (rg ?_));(try simp only [zz]);refine cd rfl ?_;(try simp only [zz]);refine gi h (fun c28 h=>?_) fun c28 h=>?_
 ·refine ss (rg ?_);(try simp only [zz]);cases h;exact rt ez
 refine sk ?_;(try simp only [zz,c28]);refine ss (rg ?_);(try simp only [zz]);cases h;exact rt ez
theorem ref10_structure_ok {t0:List GNode}{r:((List Int)×Int×Int)}(h:ref10_structure t0=some r):Den Tryz.prog 291 [e_s_GNode t0] (.tup [e_s_i64 r.1,e_i64 r.2.1,e_i64 r.2.2]):=by
 refine dk 69 k291 ?_;simp only [k291,Kf.of,zs,ze];unfold ref10_structure at h;refine ss (rg ?_);(try simp only [zz]);refine ss (ss (rg ?_));(try simp only [zz]);refine cd rfl ?_;(try simp only [zz]);refine gi h (fun c1 h=>?_) fun c1 h=>?_
 ·refine ss (rg ?_);(try simp only [zz]);cases h;exact rt ez
 refine sk ?_;(try simp only [zz,c1]);refine ss (ss (rg ?_));(try simp only [zz]);refine cd rfl ?_;(try simp only [zz]);refine gi h (fun c2 h=>?_) fun c2 h=>?_
 ·have e1:=eT c2;refine ss (rg ?_);(try simp only [zz]);cases h;exact rt ez
 have e2:=eF c2;refine sk ?_;(try simp only [zz,c2,e2]);refine ss (rg ?_);(try simp only [zz]);refine ss (ss (rg ?_));(try simp only [zz]);obtain⟨y3,h4,h⟩:=bs h;refine lm h4 (fun q=>⟨e_s_GNode t0::ds 4 (.own 0 0::.own 1 0::e_i64 q.2.2::ds 62 []),[.live 1 0 (q.1.map e_i64),.live 1 0 (q.2.1.map e_i64)]⟩) (fun q=>⟨e_s_GNode t0::ds 4 (.own 0 0::.own 1 0::ds 63 []),[.live 1 0 (q.1.map e_i64),.live 1 0 (q.2.map e_i64)]⟩) (tz [on 1,on 1]) ?_ ?_
 ·rintro ⟨s3,s4,s5⟩ z5 h6 h7;simp only [ref10_structure_L1]at h6;refine ss (ss (rg ?_));(try simp only [zz]);refine cd rfl ?_;(try simp only [zz]);refine gi h6 (fun c6 h6=>?_) fun c6 h6=>?_
  ·refine sk ?_;(try simp only [zz,c6]);refine ss (bk (ss (rg ?_)));obtain⟨x7,f9,f10,h6⟩:=bI h6;obtain⟨x8,a11,h6⟩:=bs h6;simp only [zz,f9,f10];refine cq (ref10_Arity_ok a11) ?_ (by simp only [zg,e2]);(try simp only [zz,f9,f10]);refine ss (ss (rg ?_));(try simp only [zz]);refine cd rfl ?_;(try simp only [zz]);refine gi h6 (fun c9 h6=>?_) fun c9 h6=>?_
   ·refine ss (rg ?_);(try simp only [zz]);cases h6;cases h7 _ rfl;cases h;exact rt ez
   refine sk ?_;(try simp only [zz,c9]);refine ss (ss (rg ?_));(try simp only [zz]);refine cd rfl ?_;(try simp only [zz]);refine gi h6 (fun c10 h6=>?_) fun c10 h6=>?_
   ·refine ss (rg ?_);(try simp only [zz]);cases h6;cases h7 _ rfl;cases h;exact rt ez
   refine sk ?_;(try simp only [zz,c10]);refine ss (rg ?_);(try simp only [zz]);refine jm h6 (fun q=>⟨e_s_GNode t0::ds 4 (.own 0 0::.own 1 0::e_i64 s5::.dead::e_i64 q.2::ds 60 []),[.live 1 0 (s3.map e_i64),.live 1 0 (q.1.map e_i64)]⟩) (fun z13 h12=>?_) fun z13 h12 h6=>?_
   ·refine ss (rg ?_);(try simp only [zz]);refine cd rfl ?_;(try simp only [zz]);refine gi h12 (fun c11 h12=>?_) fun c11 h12=>?_
    ·refine ss (rg ?_);obtain⟨x12,f15,f16,f17,h12⟩:=bO h12;(try simp only [zz,f15,f16,f17]);refine rg ?_;obtain⟨x13,a18,h12⟩:=bs h12;obtain⟨f19,f20,f21⟩:=trunc_f (e:=e_i64) a18;(try simp only [zz]at f21);(try simp only [zz,f19,f20,f21]);cases h12;exact tz [ok 0,ov 1 1]
    refine sk ?_;(try simp only [zz,c11]);cases h12;exact tz [ok 0,ok 1]
   obtain⟨j14,j15⟩:=z13;dsimp only at h6;refine ss (rg ?_);obtain⟨x16,a22,h6⟩:=bs h6;obtain⟨f23,f24⟩:=app_f (e:=e_i64) a22;(try simp only [zz]at f23 f24);(try simp only [zz,f23,f24]);refine ss (rg ?_);obtain⟨x17,a25,h6⟩:=bs h6;obtain⟨f26,f27⟩:=app_f (e:=e_i64) a25;(try simp only [zz]at f26 f27);(try simp only [zz,f26,f27]);refine ss (rg ?_);(try simp only [zz]);refine cd rfl ?_;(try simp only [zz]);refine gi h6 (fun c18 h6=>?_) fun c18 h6=>?_
   ·refine ss (rg ?_);(try simp only [zz]);cases h6;cases h7 _ rfl;cases h;exact rt ez
   refine sk ?_;(try simp only [zz,c18]);refine rg ?_;(try simp only [zz]);cases h6;exact tz [ov 0 1,ov 1 1]
  refine xt ?_;(try simp only [zz,c6]);cases h6;exact tz [ok 0,ok 1]
 rintro ⟨b22,b23⟩ rfl;dsimp only at h;(try simp only [zz]);refine ss (ss (rg ?_));(try simp only [zz]);refine cd rfl ?_;(try simp only [zz]);refine gi h (fun c24 h=>?_) fun c24 h=>?_
 ·refine ss (rg ?_);(try simp only [zz]);cases h;exact rt ez
 refine sk ?_;(try simp only [zz,c24]);refine ss (rg ?_);(try simp only [zz]);cases h;exact rt ez
theorem expr_listedType_ok {t0:Int}{t1:List GType}{t2:GSignature}{r:(GType×Int)}(h:expr_listedType t0 t1 t2=some r):Den Tryz.prog 310 [e_i64 t0,e_s_GType t1,e_GSignature t2] (.tup [e_GType r.1,e_i64 r.2]):=by
 refine dk 27 k310 ?_;simp only [k310,Kf.of,zs,ze];unfold expr_listedType at h;refine ss (rg ?_);(try simp only [zz]);refine ss ?_;refine jm h (fun j2=>⟨e_i64 t0::e_s_GType t1::ds 3 (.ref 0 0 0 0::.ref 1 0 0 0::ds 8 (e_bool j2::ds 14 [])),[.live 6 0 [e_GSignature t2],.live 2 0 [.agg [e_i64 0,e_i64 0]]]⟩) (fun z2 h1=>?_) fun j2 h1 h=>?_
 ·refine rg ?_;(try simp only [zz]);refine gi h1 (fun c1 h1=>?_) fun c1 h1=>?_
  ·(try simp only [zz,c1]);cases h1;exact tz [ok 0,ok 1]
  (try simp only [zz,c1]);cases h1;exact tz [ok 0,ok 1]
 refine cd rfl ?_;(try simp only [zz]);refine gi h (fun c3 h=>?_) fun c3 h=>?_
 ·refine ss (rg ?_);(try simp only [zz]);cases h;exact rt ez
 refine sk ?_;(try simp only [zz,c3]);refine ss (ss (dy hmix ?_));obtain⟨x4,f4,f5,h⟩:=bI h;obtain⟨x5,a6,h⟩:=bs h;simp only [zz,f4,f5,zy];refine cq (value_ValidType_ok a6) ?_ (by simp only [zg,c3]);(try simp only [zz,f4,f5,zy]);refine cd rfl ?_;(try simp only [zz,f4,f5]);refine gi h (fun c6 h=>?_) fun c6 h=>?_
 ·refine ss (rg ?_);(try simp only [zz]);cases h;exact rt ez
 refine sk ?_;(try simp only [zz,f4,f5,c6]);refine ss (rg ?_);(try simp only [zz,f4,f5]);cases h;exact rt ez
theorem expr_tableType_ok {t0:GNode}{t1:GType}{t2:GSignature}{r:(GType×Int)}(h:expr_tableType t0 t1 t2=some r):Den Tryz.prog 311 [e_GNode t0,e_GType t1,e_GSignature t2] (.tup [e_GType r.1,e_i64 r.2]):=by
 refine dk 81 k311 ?_;simp only [k311,Kf.of,zs,ze];unfold expr_tableType at h;refine ss (rg ?_);(try simp only [zz]);refine ss (rg ?_);(try simp only [zz]);obtain⟨z2,h1,h⟩:=bs h;refine tj (fun(j6:Int)=>⟨ds 3 (.ref 0 0 0 0::.ref 1 0 0 0::.ref 2 0 0 0::.ref 3 0 0 0::.dead::e_i64 j6::ds 75 []),[.live 2 0 [e_GNode t0],.live 2 0 [e_GType t1],.live 6 0 [e_GSignature t2],.live 2 0 [.agg [e_i64 0,e_i64 0]]]⟩) z2 ?_ ?_
 ·refine ss (rg ?_);(try simp only [zz]);refine cd rfl ?_;(try simp only [zz]);refine gi h1 (fun c1 h1=>?_) fun c1 h1=>?_
  ·have e3:=eT c1;refine ss ?_;refine jm h1 (fun j4=>⟨ds 3 (.ref 0 0 0 0::.ref 1 0 0 0::.ref 2 0 0 0::.ref 3 0 0 0::ds 18 (e_bool j4::ds 58 [])),[.live 2 0 [e_GNode t0],.live 2 0 [e_GType t1],.live 6 0 [e_GSignature t2],.live 2 0 [.agg [e_i64 0,e_i64 0]]]⟩) (fun z6 h5=>?_) fun j4 h5 h1=>?_
   ·refine rg ?_;(try simp only [zz]);refine gi h5 (fun c2 h5=>?_) fun c2 h5=>?_
    ·obtain⟨x3,a7,h5⟩:=bs h5;simp only [zz,c2,Int.reduceEq,Int.reduceNeg];refine cq (expr_validMode_ok a7) ?_ (by simp only [zg,e3]);(try simp only [zz,c2]);cases h5;exact tz [ok 0,ok 1,ok 2,ok 3]
    (try simp only [zz,c2]);cases h5;exact tz [ok 0,ok 1,ok 2,ok 3]
   refine cd rfl ?_;(try simp only [zz]);refine gi h1 (fun c5 h1=>?_) fun c5 h1=>?_
   ·refine ss (rg ?_);(try simp only [zz]);cases h1;cases h;exact rt ez
   refine sk ?_;(try simp only [zz,c5]);refine rg ?_;(try simp only [zz,Int.reduceEq,Int.reduceNeg]);cases h1;exact tz [ok 0,ok 1,ok 2,ok 3]
  have e4:=eF c1;refine sk ?_;(try simp only [zz,c1,e4]);cases h1;exact tz [ok 0,ok 1,ok 2,ok 3]
 rintro j6 rfl;dsimp only at h;refine ss ?_;refine jm h (fun j8=>⟨ds 3 (.ref 0 0 0 0::.ref 1 0 0 0::.ref 2 0 0 0::.ref 3 0 0 0::.dead::e_i64 j6::ds 29 (e_bool j8::ds 45 [])),[.live 2 0 [e_GNode t0],.live 2 0 [e_GType t1],.live 6 0 [e_GSignature t2],.live 2 0 [.agg [e_i64 0,e_i64 0]]]⟩) (fun z9 h8=>?_) fun j8 h8 h=>?_
 ·refine rg ?_;(try simp only [zz]);refine gi h8 (fun c7 h8=>?_) fun c7 h8=>?_
  ·(try simp only [zz,c7]);cases h8;exact tz [ok 0,ok 1,ok 2,ok 3]
  (try simp only [zz,c7]);cases h8;exact tz [ok 0,ok 1,ok 2,ok 3]
 refine cd rfl ?_;(try simp only [zz]);refine gi h (fun c9 h=>?_) fun c9 h=>?_
 ·refine ss (rg ?_);(try simp only [zz]);cases h;exact rt ez
 refine sk ?_;(try simp only [zz,c9]);refine ss (T.tells (S:=⟨ds 3 (.ref 0 0 0 0::.ref 1 0 0 0::.ref 2 0 0 0::.ref 3 0 0 0::.dead::e_i64 j6::ds 29 (e_bool false::ds 45 [])),[.live 2 0 [e_GNode t0],.live 2 0 [e_GType t1],.live 6 0 [e_GSignature t2],.live 2 0 [.agg [e_i64 0,e_i64 0]],.live 2 0 [],.live 2 0 []]⟩) (Tells.q [(some 0,0,0),(some 1,0,0),(some 2,0,0),(some 3,0,0),(none,2,0),(none,2,0)] rfl (by decide) (by simp only [zq,ze])) ?_);refine ao hmix [[],[],[],[],[],[],[],[],[],[],[],[],[1,3,5,7,9,11],[1,3,5,7,9,11,12],[7,9,11]] [none,none,none,none,none,none,none,none,none,none,none,none,some 4,some 5,none] (by kernel_rfl) rfl ?_;obtain⟨x10,f11,f12,h⟩:=bI h;(try simp only [zz,f11,f12,zy,zo]);refine ss ?_;refine jm h (fun j15=>⟨ds 3 (.ref 0 0 0 0::ds 2 (.ref 1 0 0 0::ds 2 (.ref 2 0 0 0::.ref 3 0 0 0::ds 57 (e_bool j15::ds 15 [])))),[.live 2 0 [e_GNode t0],.live 2 0 [.agg [e_i64 0,e_i64 0]],.live 2 0 [.agg [e_i64 x10.Key.Kind,e_i64 x10.Key.Enum]],.live 2 0 [.agg [e_i64 x10.Value.Kind,e_i64 x10.Value.Enum]]]⟩) (fun z14 h13=>?_) fun j15 h13 h=>?_
 ·refine rg ?_;obtain⟨x11,a15,h13⟩:=bs h13;simp only [zz];refine cq (value_ValidType_ok a15) ?_ (by simp only [zg,c9]);(try simp only [zz]);refine gi h13 (fun c12 h13=>?_) fun c12 h13=>?_
  ·obtain⟨x13,a16,h13⟩:=bs h13;simp only [zz,c12];refine cq (value_ValidType_ok a16) ?_ (by simp only [zg,c9,c12]);(try simp only [zz,c12]);refine gi h13 (fun c14 h13=>?_) fun c14 h13=>?_
   ·(try simp only [zz,c12,c14]);cases h13;exact tz [ok 0,ok 3,ov 4 1,ov 5 1]
   (try simp only [zz,c12,c14]);cases h13;exact tz [ok 0,ok 3,ov 4 1,ov 5 1]
  (try simp only [zz,c12]);cases h13;exact tz [ok 0,ok 3,ov 4 1,ov 5 1]
 refine cd rfl ?_;(try simp only [zz]);refine gi h (fun c16 h=>?_) fun c16 h=>?_
 ·refine ss (rg ?_);(try simp only [zz]);cases h;exact rt ez
 refine sk ?_;(try simp only [zz,c16]);refine ss (ss (rg ?_));(try simp only [zz]);refine cd rfl ?_;(try simp only [zz]);refine gi h (fun c17 h=>?_) fun c17 h=>?_
 ·have e17:=eT c17;refine ss ?_;refine jm h (fun j19=>⟨ds 6 (.ref 0 0 0 0::ds 2 (.ref 1 0 0 0::ds 70 (e_bool j19::ds 3 []))),[.live 2 0 [.agg [e_i64 0,e_i64 0]],.live 2 0 [.agg [e_i64 x10.Key.Kind,e_i64 x10.Key.Enum]]]⟩) (fun z20 h19=>?_) fun j19 h19 h=>?_
  ·refine rg ?_;(try simp only [zz]);refine gi h19 (fun c18 h19=>?_) fun c18 h19=>?_
   ·have e21:=nF c18;(try simp only [zz,eq_true c18,e21]);cases h19;exact tz [ok 1,ok 2]
   have e22:=nT c18;(try simp only [zz,c18,e22]);cases h19;exact tz [ok 1,ok 2]
  refine cd rfl ?_;(try simp only [zz]);refine gi h (fun c20 h=>?_) fun c20 h=>?_
  ·refine ss (rg ?_);(try simp only [zz]);cases h;exact rt ez
  refine sk ?_;(try simp only [zz,c20]);refine ss (rg ?_);(try simp only [zz]);cases h;exact rt ez
 have e18:=eF c17;refine sk ?_;(try simp only [zz,c17,e18]);refine ss (rg ?_);(try simp only [zz]);cases h;exact rt ez
end Go.Proofs.Dev
