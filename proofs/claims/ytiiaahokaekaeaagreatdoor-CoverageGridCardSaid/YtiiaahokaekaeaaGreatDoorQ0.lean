/-
  Contracts of the functions: each answers as its plain partial function says.
-/
import Derived.Test.YtiiaahokaekaeaaGreatDoorK
import Derived.Test.YtiiaahokaekaeaaGreatDoorPC
import Derived.Test.YtiiaahokaekaeaaGreatDoorW3
set_option linter.all false
set_option maxHeartbeats 1000000
set_option maxRecDepth 10000
namespace Go.Proofs.Dev
open Go Go.Tm
theorem law24_awake_ok {r:Bool}(h:law24_awake=some r):Den Tryz.prog 8 [] (e_bool r):=by
 unfold law24_awake at h;obtain rfl:=Option.some.inj h;exact awake_ok
theorem same_Ints_ok {t0:List Int}{t1:List Int}{r:Bool}(h:same_Ints t0 t1=some r):Den Tryz.prog 20 [e_s_i64 t0,e_s_i64 t1] (e_bool r):=by
 refine dk 30 k20 ?_;simp only [k20,Kf.of,zs,ze];unfold same_Ints at h;refine ss (rg ?_);simp only [zz];refine ss (ss (rg ?_));simp only [zz];refine cd rfl ?_;simp only [zz];refine gi h (fun c1 h=>?_) fun c1 h=>?_
 ·have e1:=nT c1;refine ss (rg ?_);simp only [zz];cases h;exact rt ez
 have e2:=nD c1;refine sk ?_;simp only [zz,c1,e2];refine ss (ss (rg ?_));simp only [zz];obtain⟨y3,h4,h⟩:=bs h;refine lm h4 (fun s2=>⟨e_s_i64 t0::e_s_i64 t1::ds 3 (e_i64 s2::ds 26 []),[]⟩) (fun q=>⟨ds 32 [],[]⟩) (tz []) ?_ ?_
 ·rintro s2 z5 h6 h7;simp only [same_Ints_L1]at h6;refine ss ?_;refine jm h6 (fun j4=>⟨e_s_i64 t0::e_s_i64 t1::ds 3 (e_i64 s2::ds 14 (e_bool j4::ds 11 [])),[]⟩) (fun z9 h8=>?_) fun j4 h8 h6=>?_
  ·refine rg ?_;simp only [zz];refine gi h8 (fun c3 h8=>?_) fun c3 h8=>?_
   ·simp only [zz,c3];cases h8;exact tz []
   simp only [zz,c3];cases h8;exact tz []
  refine cd rfl ?_;simp only [zz];refine gi h6 (fun c5 h6=>?_) fun c5 h6=>?_
  ·refine sk ?_;simp only [zz,c5];refine ss (bk (ss (dy hmix ?_)));obtain⟨x6,f11,f12,h6⟩:=bI h6;obtain⟨x7,f14,f15,h6⟩:=bI h6;simp only [zz,f11,f12,f14,f15,zy];refine cd rfl ?_;simp only [zz,f11,f12,f14,f15];refine gi h6 (fun c8 h6=>?_) fun c8 h6=>?_
   ·have e16:=nT c8;refine ss (rg ?_);simp only [zz];cases h6;cases h7 _ rfl;cases h;exact rt ez
   have e17:=nD c8;refine sk ?_;simp only [zz,f11,f12,f14,f15,c8,e17];refine rg ?_;simp only [zz];cases h6;exact tz []
  refine xt ?_;simp only [zz,c5];cases h6;exact tz []
 rintro ⟨⟩ rfl;dsimp only at h;simp only [zz];refine ss (rg ?_);simp only [zz];cases h;exact rt ez
theorem same_smallScope_ok {t0:GScope}{r:Bool}(h:same_smallScope t0=some r):Den Tryz.prog 23 [e_GScope t0] (e_bool r):=by
 refine dk 92 k23 ?_;simp only [k23,Kf.of,zs,ze];unfold same_smallScope at h;refine ss (rg ?_);simp only [zz];refine ss ?_;refine jm h (fun j4=>⟨.dead::.ref 0 0 0 0::ds 26 (e_bool j4::ds 64 []),[.live 5 0 [e_GScope t0]]⟩) (fun z2 h1=>?_) fun j4 h1 h=>?_
 ·refine rg ?_;simp only [zz];refine gi h1 (fun c1 h1=>?_) fun c1 h1=>?_
  ·simp only [zz,c1];refine gi h1 (fun c2 h1=>?_) fun c2 h1=>?_
   ·simp only [zz,c1,c2];refine gi h1 (fun c3 h1=>?_) fun c3 h1=>?_
    ·simp only [zz,c1,c2,c3];cases h1;exact tz [ok 0]
    simp only [zz,c1,c2,c3];cases h1;exact tz [ok 0]
   simp only [zz,c1,c2];cases h1;exact tz [ok 0]
  simp only [zz,c1];cases h1;exact tz [ok 0]
 refine cd rfl ?_;simp only [zz];refine gi h (fun c5 h=>?_) fun c5 h=>?_
 ·refine ss (rg ?_);simp only [zz];cases h;exact rt ez
 refine sk ?_;simp only [zz,c5];refine ss (ss (rg ?_));simp only [zz];obtain⟨y3,h4,h⟩:=bs h;refine lm h4 (fun s6=>⟨.dead::.ref 0 0 0 0::.dead::e_i64 s6::ds 89 [],[.live 5 0 [e_GScope t0]]⟩) (fun q=>⟨.dead::.ref 0 0 0 0::ds 91 [],[.live 5 0 [e_GScope t0]]⟩) (tz [ok 0]) ?_ ?_
 ·rintro s6 z5 h6 h7;simp only [same_smallScope_L5]at h6;refine ss (ss (rg ?_));simp only [zz];refine cd rfl ?_;simp only [zz];refine gi h6 (fun c7 h6=>?_) fun c7 h6=>?_
  ·refine sk ?_;simp only [zz,c7];refine ss (bk (ss (rg ?_)));obtain⟨x8,f9,f10,h6⟩:=bI h6;simp only [zz,f9,f10];refine cd rfl ?_;simp only [zz,f9,f10];refine gi h6 (fun c9 h6=>?_) fun c9 h6=>?_
   ·refine ss (rg ?_);simp only [zz];cases h6;cases h7 _ rfl;cases h;exact rt ez
   refine sk ?_;simp only [zz,f9,f10,c9];refine rg ?_;simp only [zz];cases h6;exact tz [ok 0]
  refine xt ?_;simp only [zz,c7];cases h6;exact tz [ok 0]
 rintro ⟨⟩ rfl;dsimp only at h;simp only [zz];refine ss (ss (rg ?_));simp only [zz];obtain⟨y11,h12,h⟩:=bs h;refine lm h12 (fun s11=>⟨.dead::.ref 0 0 0 0::ds 2 (e_i64 s11::ds 88 []),[.live 5 0 [e_GScope t0]]⟩) (fun q=>⟨.dead::.ref 0 0 0 0::ds 91 [],[.live 5 0 [e_GScope t0]]⟩) (tz [ok 0]) ?_ ?_
 ·rintro s11 z13 h14 h15;simp only [same_smallScope_L4]at h14;refine ss (ss (rg ?_));simp only [zz];refine cd rfl ?_;simp only [zz];refine gi h14 (fun c12 h14=>?_) fun c12 h14=>?_
  ·refine sk ?_;simp only [zz,c12];refine ss (bk (ss (rg ?_)));obtain⟨x13,f17,f18,h14⟩:=bI h14;simp only [zz,f17,f18];refine cd rfl ?_;simp only [zz,f17,f18];refine gi h14 (fun c14 h14=>?_) fun c14 h14=>?_
   ·refine ss (rg ?_);simp only [zz];cases h14;cases h15 _ rfl;cases h;exact rt ez
   refine sk ?_;simp only [zz,f17,f18,c14];refine rg ?_;simp only [zz];cases h14;exact tz [ok 0]
  refine xt ?_;simp only [zz,c12];cases h14;exact tz [ok 0]
 rintro ⟨⟩ rfl;dsimp only at h;simp only [zz];refine ss (ss (rg ?_));simp only [zz];obtain⟨y19,h20,h⟩:=bs h;refine lm h20 (fun s16=>⟨.dead::.ref 0 0 0 0::ds 3 (e_i64 s16::ds 87 []),[.live 5 0 [e_GScope t0]]⟩) (fun q=>⟨ds 93 [],[]⟩) (tz [ok 0]) ?_ ?_
 ·rintro s16 z21 h22 h23;simp only [same_smallScope_L3]at h22;refine ss (ss (rg ?_));simp only [zz];refine cd rfl ?_;simp only [zz];refine gi h22 (fun c17 h22=>?_) fun c17 h22=>?_
  ·refine sk ?_;simp only [zz,c17];refine ss (bk (ss (rg ?_)));obtain⟨x18,f25,f26,h22⟩:=bI h22;simp only [zz,f25,f26];refine jm h22 (fun j22=>⟨.dead::.ref 0 0 0 0::ds 3 (e_i64 s16::ds 86 (e_bool j22::[])),[.live 5 0 [e_GScope t0]]⟩) (fun z28 h27=>?_) fun j22 h27 h22=>?_
   ·refine rg ?_;simp only [zz];refine gi h27 (fun c19 h27=>?_) fun c19 h27=>?_
    ·simp only [zz,c19];refine gi h27 (fun c20 h27=>?_) fun c20 h27=>?_
     ·simp only [zz,c19,c20];refine gi h27 (fun c21 h27=>?_) fun c21 h27=>?_
      ·simp only [zz,c19,c20,c21];cases h27;exact tz [ok 0]
      simp only [zz,c19,c20,c21];cases h27;exact tz [ok 0]
     simp only [zz,c19,c20];cases h27;exact tz [ok 0]
    simp only [zz,c19];cases h27;exact tz [ok 0]
   refine cd rfl ?_;simp only [zz];refine gi h22 (fun c23 h22=>?_) fun c23 h22=>?_
   ·refine ss (rg ?_);simp only [zz];cases h22;cases h23 _ rfl;cases h;exact rt ez
   refine sk ?_;simp only [zz,c23];refine rg ?_;simp only [zz];cases h22;exact tz [ok 0]
  refine xt ?_;simp only [zz,c17];cases h22;exact tz []
 rintro ⟨⟩ rfl;dsimp only at h;simp only [zz];refine ss (rg ?_);simp only [zz];cases h;exact rt ez
theorem cells_Count_ok {t0:(List (List Int))}{r:Int}(h:cells_Count t0=some r):Den Tryz.prog 32 [e_s_s_i64 t0] (e_i64 r):=by
 refine dk 23 k32 ?_;simp only [k32,Kf.of,zs,ze];unfold cells_Count at h;refine ss (rg ?_);simp only [zz];refine ss (rg ?_);simp only [zz];refine ss (ss (rg ?_));simp only [zz];obtain⟨y1,h2,h⟩:=bs h;refine lm h2 (fun q=>⟨ds 3 (e_i64 q.1::ds 2 (e_s_s_i64 t0::e_i64 (t0.length:Int)::e_i64 q.2::ds 15 [])),[]⟩) (fun b10=>⟨ds 3 (e_i64 b10::ds 20 []),[]⟩) (tz []) ?_ ?_
 ·rintro ⟨s1,s2⟩ z3 h4 h5;simp only [cells_Count_L1]at h4;refine ss (rg ?_);simp only [zz];refine ss (cd rfl ?_);simp only [zz];refine gi h4 (fun c3 h4=>?_) fun c3 h4=>?_
  ·refine sk ?_;simp only [zz,c3];obtain⟨z7,h6,h4⟩:=bs h4;refine tj (fun(j7:Int)=>⟨ds 3 (e_i64 j7::ds 2 (e_s_s_i64 t0::e_i64 (t0.length:Int)::e_i64 s2::ds 15 [])),[]⟩) z7 ?_ ?_
   ·refine bk (ss (rg ?_));obtain⟨x4,f9,f10,h6⟩:=bI h6;simp only [zz,f9,f10];refine ss (ss (rg ?_));simp only [zz];refine cd rfl ?_;simp only [zz];refine gi h6 (fun c5 h6=>?_) fun c5 h6=>?_
    ·have e11:=eT c5;refine ss (rg ?_);simp only [zz];cases h6;cases h4;cases h5 _ rfl;cases h;exact rt ez
    have e12:=eF c5;refine sk ?_;simp only [zz,c5,e12];refine ss (rg ?_);simp only [zz];refine cd rfl ?_;simp only [zz];refine gi h6 (fun c6 h6=>?_) fun c6 h6=>?_
    ·refine rg ?_;simp only [zz];cases h6;exact tz []
    refine sk ?_;simp only [zz,c6];cases h6;exact tz []
   rintro j7 rfl;dsimp only at h4;refine rg ?_;simp only [zz];cases h4;exact tz []
  refine xt ?_;simp only [zz,c3];cases h4;exact tz []
 rintro b10 rfl;dsimp only at h;simp only [zz];refine ss (rg ?_);simp only [zz];cases h;exact rt ez
theorem ref24_refers_ok {t0:(List (List GNode))}{t1:Int}{r:Bool}(h:ref24_refers t0 t1=some r):Den Tryz.prog 37 [e_s_s_GNode t0,e_i64 t1] (e_bool r):=by
 refine dk 41 k37 ?_;simp only [k37,Kf.of,zs,ze];unfold ref24_refers at h;refine ss (rg ?_);simp only [zz];refine ss (ss (rg ?_));simp only [zz];obtain⟨y1,h2,h⟩:=bs h;refine lm h2 (fun s1=>⟨e_s_s_GNode t0::e_i64 t1::ds 3 (e_i64 s1::ds 37 []),[]⟩) (fun q=>⟨ds 43 [],[]⟩) (tz []) ?_ ?_
 ·rintro s1 z3 h4 h5;simp only [ref24_refers_L9]at h4;refine ss (ss (rg ?_));simp only [zz];refine cd rfl ?_;simp only [zz];refine gi h4 (fun c2 h4=>?_) fun c2 h4=>?_
  ·refine sk ?_;simp only [zz,c2];refine ss (bk (ss (rg ?_)));simp only [zz];obtain⟨y6,h7,h4⟩:=bs h4;refine lm h7 (fun s3=>⟨e_s_s_GNode t0::e_i64 t1::ds 3 (e_i64 s1::e_i64 s3::ds 36 []),[]⟩) (fun q=>⟨e_s_s_GNode t0::e_i64 t1::ds 3 (e_i64 s1::ds 37 []),[]⟩) (tz []) ?_ ?_
   ·rintro s3 z8 h9 h10;simp only [ref24_refers_L8]at h9;refine ss (ss (rg ?_));obtain⟨x4,f12,f13,h9⟩:=bI h9;simp only [zz,f12,f13];refine cd rfl ?_;simp only [zz,f12,f13];refine gi h9 (fun c5 h9=>?_) fun c5 h9=>?_
    ·refine sk ?_;simp only [zz,f12,f13,c5];refine ss (bk ?_);refine jm h9 (fun j8=>⟨e_s_s_GNode t0::e_i64 t1::ds 3 (e_i64 s1::e_i64 s3::ds 35 (e_bool j8::[])),[]⟩) (fun z15 h14=>?_) fun j8 h14 h9=>?_
     ·refine rg ?_;obtain⟨x6,f17,f18,h14⟩:=bI h14;simp only [zz,f12,f13,f17,f18];refine gi h14 (fun c7 h14=>?_) fun c7 h14=>?_
      ·have e19:=eT c7;simp only [zz,f12,f13,f17,f18,eq_true c7,e19];cases h14;exact tz []
      have e20:=eF c7;simp only [zz,f12,f13,f17,f18,c7,e20];cases h14;exact tz []
     refine cd rfl ?_;simp only [zz];refine gi h9 (fun c9 h9=>?_) fun c9 h9=>?_
     ·refine ss (rg ?_);simp only [zz];cases h9;cases h10 _ rfl;cases h4;cases h5 _ rfl;cases h;exact rt ez
     refine sk ?_;simp only [zz,c9];refine rg ?_;simp only [zz];cases h9;exact tz []
    refine xt ?_;simp only [zz,f12,f13,c5];cases h9;exact tz []
   rintro ⟨⟩ rfl;dsimp only at h4;simp only [zz];refine rg ?_;simp only [zz];cases h4;exact tz []
  refine xt ?_;simp only [zz,c2];cases h4;exact tz []
 rintro ⟨⟩ rfl;dsimp only at h;simp only [zz];refine ss (rg ?_);simp only [zz];cases h;exact rt ez
theorem ref23_Count_ok {t0:(List (List Int))}{r:Int}(h:ref23_Count t0=some r):Den Tryz.prog 40 [e_s_s_i64 t0] (e_i64 r):=by
 refine dk 36 k40 ?_;simp only [k40,Kf.of,zs,ze];unfold ref23_Count at h;refine ss (rg ?_);simp only [zz];refine ss (rg ?_);simp only [zz];refine ss (ss (rg ?_));simp only [zz];obtain⟨y1,h2,h⟩:=bs h;refine lm h2 (fun s1=>⟨e_s_s_i64 t0::ds 2 (e_i64 1::e_i64 s1::ds 32 []),[]⟩) (fun q=>⟨e_s_s_i64 t0::ds 2 (e_i64 1::ds 33 []),[]⟩) (tz []) ?_ ?_
 ·rintro s1 z3 h4 h5;simp only [ref23_Count_L3]at h4;refine ss (ss (rg ?_));simp only [zz];refine cd rfl ?_;simp only [zz];refine gi h4 (fun c2 h4=>?_) fun c2 h4=>?_
  ·refine sk ?_;simp only [zz,c2];refine ss (bk (ss (rg ?_)));obtain⟨x3,f7,f8,h4⟩:=bI h4;simp only [zz,f7,f8];refine cd rfl ?_;simp only [zz,f7,f8];refine gi h4 (fun c4 h4=>?_) fun c4 h4=>?_
   ·have e9:=eT c4;refine ss (rg ?_);simp only [zz];cases h4;cases h5 _ rfl;cases h;exact rt ez
   have e10:=eF c4;refine sk ?_;simp only [zz,f7,f8,c4,e10];refine rg ?_;simp only [zz];cases h4;exact tz []
  refine xt ?_;simp only [zz,c2];cases h4;exact tz []
 rintro ⟨⟩ rfl;dsimp only at h;simp only [zz];refine ss (ss (rg ?_));simp only [zz];obtain⟨y11,h12,h⟩:=bs h;refine lm h12 (fun q=>⟨e_s_s_i64 t0::ds 2 (e_i64 q.1::.dead::e_i64 q.2::ds 31 []),[]⟩) (fun b14=>⟨ds 3 (e_i64 b14::ds 33 []),[]⟩) (tz []) ?_ ?_
 ·rintro ⟨s6,s7⟩ z13 h14 h15;simp only [ref23_Count_L2]at h14;refine ss ?_;refine jm h14 (fun j9=>⟨e_s_s_i64 t0::ds 2 (e_i64 s6::.dead::e_i64 s7::ds 19 (e_bool j9::ds 11 [])),[]⟩) (fun z17 h16=>?_) fun j9 h16 h14=>?_
  ·refine rg ?_;simp only [zz];refine gi h16 (fun c8 h16=>?_) fun c8 h16=>?_
   ·simp only [zz,c8];cases h16;exact tz []
   simp only [zz,c8];cases h16;exact tz []
  refine cd rfl ?_;simp only [zz];refine gi h14 (fun c10 h14=>?_) fun c10 h14=>?_
  ·refine sk ?_;simp only [zz,c10];refine ss (bk (rg ?_));obtain⟨x11,f19,f20,h14⟩:=bI h14;simp only [zz,f19,f20];refine rg ?_;simp only [zz];cases h14;exact tz []
  refine xt ?_;simp only [zz,c10];cases h14;exact tz []
 rintro b14 rfl;dsimp only at h;simp only [zz];refine ss (rg ?_);simp only [zz];cases h;exact rt ez
theorem cells_isLiteral_ok {t0:GNode}{r:Bool}(h:cells_isLiteral t0=some r):Den Tryz.prog 73 [e_GNode t0] (e_bool r):=by
 refine dk 10 k73 ?_;simp only [k73,Kf.of,zs,ze];unfold cells_isLiteral at h;refine ss (rg ?_);simp only [zz];refine ss (ss (rg ?_));simp only [zz];refine bk ?_;refine jm h (fun j5=>⟨ds 5 (e_bool j5::ds 5 []),[]⟩) (fun z2 h1=>?_) fun j5 h1 h=>?_
 ·refine ss (rg ?_);simp only [zz];refine cd rfl ?_;simp only [zz];refine gi h1 (fun c1 h1=>?_) fun c1 h1=>?_
  ·have e3:=eT c1;refine sk ?_;simp only [zz,eq_true c1,e3];cases h1;exact tz []
  have e4:=eF c1;refine ss (rg ?_);simp only [zz];refine cd rfl ?_;simp only [zz];refine gi h1 (fun c2 h1=>?_) fun c2 h1=>?_
  ·have e5:=eT c2;refine sk ?_;simp only [zz,eq_true c2,e5];cases h1;exact tz []
  have e6:=eF c2;refine ss (rg ?_);simp only [zz];refine cd rfl ?_;simp only [zz];refine gi h1 (fun c3 h1=>?_) fun c3 h1=>?_
  ·have e7:=eT c3;refine sk ?_;simp only [zz,eq_true c3,e7];cases h1;exact tz []
  have e8:=eF c3;refine ss (rg ?_);simp only [zz];refine cd rfl ?_;simp only [zz];refine gi h1 (fun c4 h1=>?_) fun c4 h1=>?_
  ·have e9:=eT c4;refine sk ?_;simp only [zz,eq_true c4,e9];cases h1;exact tz []
  have e10:=eF c4;refine rg ?_;simp only [zz];cases h1;exact tz []
 refine cd rfl ?_;simp only [zz];refine gi h (fun c6 h=>?_) fun c6 h=>?_
 ·refine ss (rg ?_);simp only [zz];cases h;exact rt ez
 refine sk ?_;simp only [zz,c6];refine ss (rg ?_);simp only [zz];cases h;exact rt ez
theorem cells_isComparison_ok {t0:GNode}{r:Bool}(h:cells_isComparison t0=some r):Den Tryz.prog 74 [e_GNode t0] (e_bool r):=by
 refine dk 9 k74 ?_;simp only [k74,Kf.of,zs,ze];unfold cells_isComparison at h;refine ss (rg ?_);simp only [zz];refine ss (ss (rg ?_));simp only [zz];refine bk ?_;refine jm h (fun j4=>⟨ds 5 (e_bool j4::ds 4 []),[]⟩) (fun z2 h1=>?_) fun j4 h1 h=>?_
 ·refine ss (rg ?_);simp only [zz];refine cd rfl ?_;simp only [zz];refine gi h1 (fun c1 h1=>?_) fun c1 h1=>?_
  ·have e3:=eT c1;refine sk ?_;simp only [zz,eq_true c1,e3];cases h1;exact tz []
  have e4:=eF c1;refine ss (rg ?_);simp only [zz];refine cd rfl ?_;simp only [zz];refine gi h1 (fun c2 h1=>?_) fun c2 h1=>?_
  ·have e5:=eT c2;refine sk ?_;simp only [zz,eq_true c2,e5];cases h1;exact tz []
  have e6:=eF c2;refine ss (rg ?_);simp only [zz];refine cd rfl ?_;simp only [zz];refine gi h1 (fun c3 h1=>?_) fun c3 h1=>?_
  ·have e7:=eT c3;refine sk ?_;simp only [zz,eq_true c3,e7];cases h1;exact tz []
  have e8:=eF c3;refine rg ?_;simp only [zz];cases h1;exact tz []
 refine cd rfl ?_;simp only [zz];refine gi h (fun c5 h=>?_) fun c5 h=>?_
 ·refine ss (rg ?_);simp only [zz];cases h;exact rt ez
 refine sk ?_;simp only [zz,c5];refine ss (rg ?_);simp only [zz];cases h;exact rt ez
theorem value_ValidType_ok {t0:GType}{t1:List GEnum}{r:Bool}(h:value_ValidType t0 t1=some r):Den Tryz.prog 77 [e_GType t0,e_s_GEnum t1] (e_bool r):=by
 refine dk 26 k77 ?_;simp only [k77,Kf.of,zs,ze];unfold value_ValidType at h;refine ss (rg ?_);simp only [zz];refine ss (ss (rg ?_));simp only [zz];refine bk ?_;refine jm h (fun j5=>⟨.dead::e_s_GEnum t1::.ref 0 0 0 0::ds 3 (e_i64 t0.Kind::e_bool j5::ds 20 []),[.live 2 0 [e_GType t0]]⟩) (fun z2 h1=>?_) fun j5 h1 h=>?_
 ·refine ss (rg ?_);simp only [zz];refine cd rfl ?_;simp only [zz];refine gi h1 (fun c1 h1=>?_) fun c1 h1=>?_
  ·have e3:=eT c1;refine sk ?_;simp only [zz,eq_true c1,e3];cases h1;exact tz [ok 0]
  have e4:=eF c1;refine ss (rg ?_);simp only [zz];refine cd rfl ?_;simp only [zz];refine gi h1 (fun c2 h1=>?_) fun c2 h1=>?_
  ·have e5:=eT c2;refine sk ?_;simp only [zz,eq_true c2,e5];cases h1;exact tz [ok 0]
  have e6:=eF c2;refine ss (rg ?_);simp only [zz];refine cd rfl ?_;simp only [zz];refine gi h1 (fun c3 h1=>?_) fun c3 h1=>?_
  ·have e7:=eT c3;refine sk ?_;simp only [zz,eq_true c3,e7];cases h1;exact tz [ok 0]
  have e8:=eF c3;refine ss (rg ?_);simp only [zz];refine cd rfl ?_;simp only [zz];refine gi h1 (fun c4 h1=>?_) fun c4 h1=>?_
  ·have e9:=eT c4;refine sk ?_;simp only [zz,eq_true c4,e9];cases h1;exact tz [ok 0]
  have e10:=eF c4;refine rg ?_;simp only [zz];cases h1;exact tz [ok 0]
 refine cd rfl ?_;simp only [zz];refine gi h (fun c6 h=>?_) fun c6 h=>?_
 ·refine ss (rg ?_);simp only [zz];cases h;exact rt ez
 refine ss (rg ?_);simp only [zz];refine cd rfl ?_;simp only [zz];refine gi h (fun c7 h=>?_) fun c7 h=>?_
 ·have e11:=eT c7;refine jm h (fun j9=>⟨ds 4 (e_bool j9::ds 23 []),[]⟩) (fun z14 h13=>?_) fun j9 h13 h=>?_
  ·refine rg ?_;simp only [zz];refine gi h13 (fun c8 h13=>?_) fun c8 h13=>?_
   ·simp only [zz,c8];cases h13;exact tz []
   simp only [zz,c8];cases h13;exact tz []
  cases h;exact rt ez
 have e12:=eF c7;refine sk ?_;simp only [zz,c7,e12];refine ss (rg ?_);simp only [zz];cases h;exact rt ez
theorem ref17_fieldTypes_ok {t0:List GField}{r:List GType}(h:ref17_fieldTypes t0=some r):Den Tryz.prog 85 [e_s_GField t0] (e_s_GType r):=by
 refine dk 19 k85 ?_;simp only [k85,Kf.of,zs,ze];unfold ref17_fieldTypes at h;refine ss (rg ?_);simp only [zz];refine ss (rg ?_);simp only [zz];refine ss (ss (rg ?_));simp only [zz];obtain⟨y1,h2,h⟩:=bs h;refine lm h2 (fun q=>⟨e_s_GField t0::ds 2 (.own 0 0::e_i64 q.2::ds 15 []),[.live 2 0 (q.1.map e_GType)]⟩) (fun b8=>⟨ds 3 (.own 0 0::ds 16 []),[.live 2 0 (b8.map e_GType)]⟩) (tz [on 2]) ?_ ?_
 ·rintro ⟨s1,s2⟩ z3 h4 h5;simp only [ref17_fieldTypes_L1]at h4;refine ss (ss (rg ?_));simp only [zz];refine cd rfl ?_;simp only [zz];refine gi h4 (fun c3 h4=>?_) fun c3 h4=>?_
  ·refine sk ?_;simp only [zz,c3];refine ss (bk (rg ?_));obtain⟨x4,f7,f8,h4⟩:=bI h4;obtain⟨x5,a9,h4⟩:=bs h4;obtain⟨f10,f11⟩:=app_f (e:=e_GType) a9;(try simp only [zz]at f10 f11);simp only [zz,f7,f8,f10,f11];refine rg ?_;simp only [zz];cases h4;exact tz [ov 0 1]
  refine xt ?_;simp only [zz,c3];cases h4;exact tz [ok 0]
 rintro b8 rfl;dsimp only at h;simp only [zz];refine ss (rg ?_);simp only [zz];cases h;exact rt ez
theorem ref23_comparison_ok {t0:Int}{r:Bool}(h:ref23_comparison t0=some r):Den Tryz.prog 87 [e_i64 t0] (e_bool r):=by
 refine dk 8 k87 ?_;simp only [k87,Kf.of,zs,ze];unfold ref23_comparison at h;refine ss (rg ?_);simp only [zz];refine jm h (fun j2=>⟨ds 2 (e_bool j2::ds 6 []),[]⟩) (fun z2 h1=>?_) fun j2 h1 h=>?_
 ·refine rg ?_;simp only [zz];refine gi h1 (fun c1 h1=>?_) fun c1 h1=>?_
  ·simp only [zz,c1];cases h1;exact tz []
  simp only [zz,c1];cases h1;exact tz []
 cases h;exact rt ez
theorem ref23_literal_ok {t0:Int}{r:Bool}(h:ref23_literal t0=some r):Den Tryz.prog 89 [e_i64 t0] (e_bool r):=by
 refine dk 8 k89 ?_;simp only [k89,Kf.of,zs,ze];unfold ref23_literal at h;refine ss (rg ?_);simp only [zz];refine jm h (fun j2=>⟨ds 2 (e_bool j2::ds 6 []),[]⟩) (fun z2 h1=>?_) fun j2 h1 h=>?_
 ·refine rg ?_;simp only [zz];refine gi h1 (fun c1 h1=>?_) fun c1 h1=>?_
  ·simp only [zz,c1];cases h1;exact tz []
  simp only [zz,c1];cases h1;exact tz []
 cases h;exact rt ez
theorem ref05_Insert_ok {t0:List Int}{t1:Int}{r:List Int}(h:ref05_Insert t0 t1=some r):Den Tryz.prog 91 [e_s_i64 t0,e_i64 t1] (e_s_i64 r):=by
 refine dk 49 k91 ?_;simp only [k91,Kf.of,zs,ze];unfold ref05_Insert at h;refine ss (rg ?_);simp only [zz];refine ss (rg ?_);simp only [zz];refine ss (ss (rg ?_));simp only [zz];obtain⟨y1,h2,h⟩:=bs h;refine lm h2 (fun q=>⟨e_s_i64 t0::e_i64 t1::ds 3 (.own 0 0::e_i64 q.2::ds 44 []),[.live 1 0 (q.1.map e_i64)]⟩) (fun b10=>⟨e_s_i64 t0::e_i64 t1::ds 3 (.own 0 0::ds 45 []),[.live 1 0 (b10.map e_i64)]⟩) (tz [on 1]) ?_ ?_
 ·rintro ⟨s1,s2⟩ z3 h4 h5;simp only [ref05_Insert_L3]at h4;refine ss (ss (rg ?_));simp only [zz];refine cd rfl ?_;simp only [zz];refine gi h4 (fun c3 h4=>?_) fun c3 h4=>?_
  ·refine sk ?_;simp only [zz,c3];refine jm h4 (fun j7=>⟨e_s_i64 t0::e_i64 t1::ds 3 (.own 0 0::e_i64 s2::ds 44 []),[.live 1 0 (j7.map e_i64)]⟩) (fun z7 h6=>?_) fun j7 h6 h4=>?_
   ·refine bk (ss (rg ?_));obtain⟨x4,f9,f10,h6⟩:=bI h6;simp only [zz,f9,f10];refine cd rfl ?_;simp only [zz,f9,f10];refine gi h6 (fun c5 h6=>?_) fun c5 h6=>?_
    ·refine rg ?_;obtain⟨x6,a11,h6⟩:=bs h6;obtain⟨f12,f13⟩:=app_f (e:=e_i64) a11;(try simp only [zz]at f12 f13);simp only [zz,f9,f10,f12,f13];cases h6;exact tz [ov 0 1]
    refine sk ?_;simp only [zz,f9,f10,c5];cases h6;exact tz [ok 0]
   refine rg ?_;simp only [zz];cases h4;exact tz [ok 0]
  refine xt ?_;simp only [zz,c3];cases h4;exact tz [ok 0]
 rintro b10 rfl;dsimp only at h;simp only [zz];refine ss (rg ?_);obtain⟨x11,a14,h⟩:=bs h;obtain⟨f15,f16⟩:=app_f (e:=e_i64) a14;(try simp only [zz]at f15 f16);simp only [zz,f15,f16];refine ss (ss (rg ?_));simp only [zz];obtain⟨y17,h18,h⟩:=bs h;refine lm h18 (fun q=>⟨e_s_i64 t0::e_i64 t1::ds 3 (.own 0 0::.dead::e_i64 q.2::ds 43 []),[.live 1 0 (q.1.map e_i64)]⟩) (fun b21=>⟨ds 5 (.own 0 0::ds 45 []),[.live 1 0 (b21.map e_i64)]⟩) (tz [ov 0 1]) ?_ ?_
 ·rintro ⟨s12,s13⟩ z19 h20 h21;simp only [ref05_Insert_L2]at h20;refine ss (ss (rg ?_));simp only [zz];refine cd rfl ?_;simp only [zz];refine gi h20 (fun c14 h20=>?_) fun c14 h20=>?_
  ·refine sk ?_;simp only [zz,c14];refine jm h20 (fun j18=>⟨e_s_i64 t0::e_i64 t1::ds 3 (.own 0 0::.dead::e_i64 s13::ds 43 []),[.live 1 0 (j18.map e_i64)]⟩) (fun z23 h22=>?_) fun j18 h22 h20=>?_
   ·refine bk (ss (rg ?_));obtain⟨x15,f25,f26,h22⟩:=bI h22;simp only [zz,f25,f26];refine cd rfl ?_;simp only [zz,f25,f26];refine gi h22 (fun c16 h22=>?_) fun c16 h22=>?_
    ·refine rg ?_;obtain⟨x17,a27,h22⟩:=bs h22;obtain⟨f28,f29⟩:=app_f (e:=e_i64) a27;(try simp only [zz]at f28 f29);simp only [zz,f25,f26,f28,f29];cases h22;exact tz [ov 0 1]
    refine sk ?_;simp only [zz,f25,f26,c16];cases h22;exact tz [ok 0]
   refine rg ?_;simp only [zz];cases h20;exact tz [ok 0]
  refine xt ?_;simp only [zz,c14];cases h20;exact tz [ok 0]
 rintro b21 rfl;dsimp only at h;simp only [zz];refine ss (rg ?_);simp only [zz];cases h;exact rt ez
theorem effective_remaining_ok {t0:List GRule}{t1:(GRule→Option Bool)}{k1:Nat}{q1:List D}(hc1:idfrees q1=true) (hp1:∀x0 r,t1 x0=some r→Den Tryz.prog k1 ([e_GRule x0]++q1) (e_bool r)) {r:((List Int)×(List Int))}(h:effective_remaining t0 t1=some r):Den Tryz.prog 92 [e_s_GRule t0,.fn k1 [] q1] (.tup [e_s_i64 r.1,e_s_i64 r.2]):=by
 refine Den.at 57 k92.ok k92.nm (frC (frF hc1 frN)) rfl ?_;simp only [k92,Kf.of,zs,ze];unfold effective_remaining at h;refine ss (rg ?_);(try simp only [zz]);refine ss (rg ?_);(try simp only [zz]);refine ss (rg ?_);obtain⟨x1,a1,h⟩:=bs h;obtain⟨f2,f3,f4,f5,f6⟩:=mks_f (e:=e_i64) a1;(try simp only [zz]at f5 f6);(try simp only [zz,f2,f3,f4,f5,f6]);refine ss (ss (rg ?_));(try simp only [zz]);obtain⟨y7,h8,h⟩:=bs h;refine lm h8 (fun q=>⟨.dead::.fn k1 [] q1::ds 4 (.own 0 0::.own 1 0::.own 2 0::ds 6 (e_s_GRule t0::e_i64 (t0.length:Int)::e_i64 q.2.2.2::ds 41 [])),[.live 1 0 (q.1.map e_i64),.live 1 0 (q.2.1.map e_i64),.live 1 0 (q.2.2.1.map e_i64)]⟩) (fun q=>⟨ds 6 (.own 0 0::.own 1 0::ds 51 []),[.live 1 0 (q.1.map e_i64),.live 1 0 (q.2.map e_i64)]⟩) (tz [on 1,on 1,ok 0] (by simp only [zg,sqS_same hc1])) ?_ ?_
 ·rintro ⟨s2,s3,s4,s5⟩ z9 h10 h11;simp only [effective_remaining_L1]at h10;refine ss (rg ?_);(try simp only [zz]);refine ss (cd rfl ?_);(try simp only [zz]);refine gi h10 (fun c6 h10=>?_) fun c6 h10=>?_
  ·refine sk ?_;(try simp only [zz,c6]);refine jm h10 (fun q=>⟨.dead::.fn k1 [] q1::ds 4 (.own 0 0::.own 1 0::.own 2 0::ds 6 (e_s_GRule t0::e_i64 (t0.length:Int)::e_i64 s5::ds 41 [])),[.live 1 0 (q.1.map e_i64),.live 1 0 (q.2.1.map e_i64),.live 1 0 (q.2.2.map e_i64)]⟩) (fun z13 h12=>?_) fun z13 h12 h10=>?_
   ·refine bk (ss (rg ?_));obtain⟨x7,f15,f16,h12⟩:=bI h12;(try simp only [zz,f15,f16]);refine ss (rg ?_);(try simp only [zz]);refine jm h12 (fun j12=>⟨.dead::.fn k1 [] q1::ds 4 (.own 0 0::.own 1 0::.own 2 0::e_i64 s5::.ref 3 0 0 0::e_i64 j12::ds 3 (e_s_GRule t0::e_i64 (t0.length:Int)::e_i64 s5::ds 41 [])),[.live 1 0 (s2.map e_i64),.live 1 0 (s3.map e_i64),.live 1 0 (s4.map e_i64),.live 9 0 [e_GRule x7]]⟩) (fun z18 h17=>?_) fun j12 h17 h12=>?_
    ·refine jm h17 (fun j9=>⟨.dead::.fn k1 [] q1::ds 4 (.own 0 0::.own 1 0::.own 2 0::e_i64 s5::.ref 3 0 0 0::e_i64 (-1)::ds 3 (e_s_GRule t0::e_i64 (t0.length:Int)::e_i64 s5::ds 12 (e_bool j9::ds 28 []))),[.live 1 0 (s2.map e_i64),.live 1 0 (s3.map e_i64),.live 1 0 (s4.map e_i64),.live 9 0 [e_GRule x7]]⟩) (fun z20 h19=>?_) fun j9 h19 h17=>?_
     ·refine rg ?_;(try simp only [zz]);refine gi h19 (fun c8 h19=>?_) fun c8 h19=>?_
      ·(try simp only [zz,c8]);cases h19;exact tz [ok 0,ok 1,ok 2,ok 3] (by simp only [zg,sqS_same hc1])
      (try simp only [zz,c8]);cases h19;exact tz [ok 0,ok 1,ok 2,ok 3] (by simp only [zg,sqS_same hc1])
     refine cd rfl ?_;(try simp only [zz]);refine gi h17 (fun c10 h17=>?_) fun c10 h17=>?_
     ·refine rg ?_;obtain⟨x11,f22,f23,f24,h17⟩:=bO h17;(try simp only [zz,f22,f23,f24]);cases h17;exact tz [ok 0,ok 1,ok 2,ok 3] (by simp only [zg,sqS_same hc1,c10])
     refine sk ?_;(try simp only [zz,c10]);cases h17;exact tz [ok 0,ok 1,ok 2,ok 3] (by simp only [zg,sqS_same hc1,c10])
    refine ss (rg ?_);obtain⟨x13,f26,f27,f28,h12⟩:=bO h12;obtain⟨x14,a29,h12⟩:=bs h12;obtain⟨f30,f31⟩:=put_f (e:=e_i64) a29;(try simp only [zz]at f31);(try simp only [zz,f26,f27,f28,f30,f31]);refine ss (rg ?_);obtain⟨x15,a32,h12⟩:=bs h12;simp only [zz];refine callX_c1 (hp1 _ _ a32) hc1 ?_ (by simp only [zg,sqS_same hc1]);(try simp only [zz]);refine cd rfl ?_;(try simp only [zz]);refine gi h12 (fun c16 h12=>?_) fun c16 h12=>?_
    ·refine ss (rg ?_);obtain⟨x17,f34,f35,f36,h12⟩:=bO h12;obtain⟨x18,a37,h12⟩:=bs h12;obtain⟨f38,f39⟩:=put_f (e:=e_i64) a37;(try simp only [zz]at f39);(try simp only [zz,f34,f35,f36,f38,f39]);refine ss (rg ?_);obtain⟨x19,a40,h12⟩:=bs h12;obtain⟨f41,f42⟩:=app_f (e:=e_i64) a40;(try simp only [zz]at f41 f42);(try simp only [zz,f41,f42]);refine rg ?_;obtain⟨x20,a43,h12⟩:=bs h12;obtain⟨f44,f45⟩:=app_f (e:=e_i64) a43;(try simp only [zz]at f44 f45);(try simp only [zz,f44,f45]);cases h12;exact tz [ov 0 1,ov 1 1,ok 2] (by simp only [zg,sqS_same hc1,c16])
    refine sk ?_;(try simp only [zz,c16]);cases h12;exact tz [ok 0,ok 1,ok 2] (by simp only [zg,sqS_same hc1,c16])
   obtain⟨j21,j22,j23⟩:=z13;dsimp only at h10;refine rg ?_;(try simp only [zz]);cases h10;exact tz [ok 0,ok 1,ok 2] (by simp only [zg,sqS_same hc1])
  refine xt ?_;(try simp only [zz,c6]);cases h10;exact tz [ok 0,ok 1] (by simp only [zg,sqS_same hc1])
 rintro ⟨b28,b29⟩ rfl;dsimp only at h;(try simp only [zz]);refine ss (rg ?_);(try simp only [zz]);cases h;exact rt (er (by simp only [zz,zr];exact fq (by simp only [zg,sqS_same hc1])))
theorem law_fieldTypes_ok {t0:List GField}{r:List GType}(h:law_fieldTypes t0=some r):Den Tryz.prog 116 [e_s_GField t0] (e_s_GType r):=by
 refine dk 18 k116 ?_;simp only [k116,Kf.of,zs,ze];unfold law_fieldTypes at h;refine ss (rg ?_);simp only [zz];refine ss (rg ?_);simp only [zz];refine ss (ss (rg ?_));simp only [zz];obtain⟨y1,h2,h⟩:=bs h;refine lm h2 (fun q=>⟨ds 3 (.own 0 0::ds 2 (e_s_GField t0::e_i64 (t0.length:Int)::e_i64 q.2::ds 10 [])),[.live 2 0 (q.1.map e_GType)]⟩) (fun b8=>⟨ds 3 (.own 0 0::ds 15 []),[.live 2 0 (b8.map e_GType)]⟩) (tz [on 2]) ?_ ?_
 ·rintro ⟨s1,s2⟩ z3 h4 h5;simp only [law_fieldTypes_L1]at h4;refine ss (rg ?_);simp only [zz];refine ss (cd rfl ?_);simp only [zz];refine gi h4 (fun c3 h4=>?_) fun c3 h4=>?_
  ·refine sk ?_;simp only [zz,c3];refine ss (bk (ss (rg ?_)));obtain⟨x4,f7,f8,h4⟩:=bI h4;simp only [zz,f7,f8];refine rg ?_;obtain⟨x5,a9,h4⟩:=bs h4;obtain⟨f10,f11⟩:=app_f (e:=e_GType) a9;(try simp only [zz]at f10 f11);simp only [zz,f10,f11];refine rg ?_;simp only [zz];cases h4;exact tz [ov 0 1]
  refine xt ?_;simp only [zz,c3];cases h4;exact tz [ok 0]
 rintro b8 rfl;dsimp only at h;simp only [zz];refine ss (rg ?_);simp only [zz];cases h;exact rt ez
theorem slices_Clone_string_string_ok {t0 r:List ByteArray}(h:slices_Clone_string_string t0=some r):Den Tryz.prog 117 [e_s_str t0] (e_s_str r):=by
 unfold slices_Clone_string_string at h;split at h
 ·rename_i hl;obtain rfl:=Option.some.inj h;refine dk 7 k117 ?_;simp only [k117,Kf.of,zs,ze];refine T.seqS ?_;refine T.rg ?_;simp only [zx,ze];refine T.seqS ?_;refine T.seqS ?_;refine T.nileq (i:=0) (S:=1) (l:=t0.map e_str) rfl (Fr.l _) (by simp) (by decide) (by decide) (by decide) ?_;intro b hb;have happ:app 16 ([]:List ByteArray) t0=some t0:=by unfold app;rw [if_pos (by simp;omega)];simp
  cases b with
  |true=>
   have hz:t0=[]:=by
    cases t0 with
    |nil=>rfl
    |cons x l=>exact absurd (hb (by simp)) (by simp)
   subst hz;simp only [zx,ze];refine T.cd rfl ?_;refine gP.mk (fun _=>?_) (fun h=>absurd rfl h);refine T.seqS ?_;refine T.rg ?_;simp only [zx,ze];exact T.ret <|EndF_ret' (by simp only [zx,ze,endF_some,ress_nil,ress_tmp,ress_cell];exact fin_q (by simp only [zq,ze]))
  |false=>
   simp only [zx,ze];refine T.cd rfl ?_;refine gP.mk (fun h=>by cases h) (fun _=>?_);refine T.skip ?_;simp only [zx,ze];refine T.seqS ?_;refine T.rg ?_;obtain⟨f1,f2⟩:=app_f (e:=e_str) happ;(try simp only [zx,ze]at f1 f2);simp only [zx,ze,f1,f2];exact T.ret <|EndF_ret' (by simp only [zx,ze,endF_some,ress_nil,ress_tmp,ress_cell];exact fin_q (by simp only [zq,ze]))
 ·cases h
theorem slices_Clone_api_Row_api_Row_ok {t0 r:List GRow}(h:slices_Clone_api_Row_api_Row t0=some r):Den Tryz.prog 118 [e_s_GRow t0] (e_s_GRow r):=by
 unfold slices_Clone_api_Row_api_Row at h;split at h
 ·rename_i hl;obtain rfl:=Option.some.inj h;refine dk 7 k118 ?_;simp only [k118,Kf.of,zs,ze];refine T.seqS ?_;refine T.rg ?_;simp only [zx,ze];refine T.seqS ?_;refine T.seqS ?_;refine T.nileq (i:=0) (S:=5) (l:=t0.map e_GRow) rfl (Fr.l _) (by simp) (by decide) (by decide) (by decide) ?_;intro b hb;have happ:app 40 ([]:List GRow) t0=some t0:=by unfold app;rw [if_pos (by simp;omega)];simp
  cases b with
  |true=>
   have hz:t0=[]:=by
    cases t0 with
    |nil=>rfl
    |cons x l=>exact absurd (hb (by simp)) (by simp)
   subst hz;simp only [zx,ze];refine T.cd rfl ?_;refine gP.mk (fun _=>?_) (fun h=>absurd rfl h);refine T.seqS ?_;refine T.rg ?_;simp only [zx,ze];exact T.ret <|EndF_ret' (by simp only [zx,ze,endF_some,ress_nil,ress_tmp,ress_cell];exact fin_q (by simp only [zq,ze]))
  |false=>
   simp only [zx,ze];refine T.cd rfl ?_;refine gP.mk (fun h=>by cases h) (fun _=>?_);refine T.skip ?_;simp only [zx,ze];refine T.seqS ?_;refine T.rg ?_;obtain⟨f1,f2⟩:=app_f (e:=e_GRow) happ;(try simp only [zx,ze]at f1 f2);simp only [zx,ze,f1,f2];exact T.ret <|EndF_ret' (by simp only [zx,ze,endF_some,ress_nil,ress_tmp,ress_cell];exact fin_q (by simp only [zq,ze]))
 ·cases h
theorem expr_UsesN_ok {t0:Int}{r:Bool}(h:expr_UsesN t0=some r):Den Tryz.prog 120 [e_i64 t0] (e_bool r):=by
 refine dk 21 k120 ?_;simp only [k120,Kf.of,zs,ze];unfold expr_UsesN at h;refine ss (rg ?_);simp only [zz];refine ss (ss (rg ?_));simp only [zz];refine bk ?_;refine jm h (fun j17=>⟨ds 4 (e_bool j17::ds 17 []),[]⟩) (fun z2 h1=>?_) fun j17 h1 h=>?_
 ·refine ss (rg ?_);simp only [zz];refine cd rfl ?_;simp only [zz];refine gi h1 (fun c1 h1=>?_) fun c1 h1=>?_
  ·have e3:=eT c1;refine sk ?_;simp only [zz,eq_true c1,e3];cases h1;exact tz []
  have e4:=eF c1;refine ss (rg ?_);simp only [zz];refine cd rfl ?_;simp only [zz];refine gi h1 (fun c2 h1=>?_) fun c2 h1=>?_
  ·have e5:=eT c2;refine sk ?_;simp only [zz,eq_true c2,e5];cases h1;exact tz []
  have e6:=eF c2;refine ss (rg ?_);simp only [zz];refine cd rfl ?_;simp only [zz];refine gi h1 (fun c3 h1=>?_) fun c3 h1=>?_
  ·have e7:=eT c3;refine sk ?_;simp only [zz,eq_true c3,e7];cases h1;exact tz []
  have e8:=eF c3;refine ss (rg ?_);simp only [zz];refine cd rfl ?_;simp only [zz];refine gi h1 (fun c4 h1=>?_) fun c4 h1=>?_
  ·have e9:=eT c4;refine sk ?_;simp only [zz,eq_true c4,e9];cases h1;exact tz []
  have e10:=eF c4;refine ss (rg ?_);simp only [zz];refine cd rfl ?_;simp only [zz];refine gi h1 (fun c5 h1=>?_) fun c5 h1=>?_
  ·have e11:=eT c5;refine sk ?_;simp only [zz,eq_true c5,e11];cases h1;exact tz []
  have e12:=eF c5;refine ss (rg ?_);simp only [zz];refine cd rfl ?_;simp only [zz];refine gi h1 (fun c6 h1=>?_) fun c6 h1=>?_
  ·have e13:=eT c6;refine sk ?_;simp only [zz,eq_true c6,e13];cases h1;exact tz []
  have e14:=eF c6;refine ss (rg ?_);simp only [zz];refine cd rfl ?_;simp only [zz];refine gi h1 (fun c7 h1=>?_) fun c7 h1=>?_
  ·have e15:=eT c7;refine sk ?_;simp only [zz,eq_true c7,e15];cases h1;exact tz []
  have e16:=eF c7;refine ss (rg ?_);simp only [zz];refine cd rfl ?_;simp only [zz];refine gi h1 (fun c8 h1=>?_) fun c8 h1=>?_
  ·have e17:=eT c8;refine sk ?_;simp only [zz,eq_true c8,e17];cases h1;exact tz []
  have e18:=eF c8;refine ss (rg ?_);simp only [zz];refine cd rfl ?_;simp only [zz];refine gi h1 (fun c9 h1=>?_) fun c9 h1=>?_
  ·have e19:=eT c9;refine sk ?_;simp only [zz,eq_true c9,e19];cases h1;exact tz []
  have e20:=eF c9;refine ss (rg ?_);simp only [zz];refine cd rfl ?_;simp only [zz];refine gi h1 (fun c10 h1=>?_) fun c10 h1=>?_
  ·have e21:=eT c10;refine sk ?_;simp only [zz,eq_true c10,e21];cases h1;exact tz []
  have e22:=eF c10;refine ss (rg ?_);simp only [zz];refine cd rfl ?_;simp only [zz];refine gi h1 (fun c11 h1=>?_) fun c11 h1=>?_
  ·have e23:=eT c11;refine sk ?_;simp only [zz,eq_true c11,e23];cases h1;exact tz []
  have e24:=eF c11;refine ss (rg ?_);simp only [zz];refine cd rfl ?_;simp only [zz];refine gi h1 (fun c12 h1=>?_) fun c12 h1=>?_
  ·have e25:=eT c12;refine sk ?_;simp only [zz,eq_true c12,e25];cases h1;exact tz []
  have e26:=eF c12;refine ss (rg ?_);simp only [zz];refine cd rfl ?_;simp only [zz];refine gi h1 (fun c13 h1=>?_) fun c13 h1=>?_
  ·have e27:=eT c13;refine sk ?_;simp only [zz,eq_true c13,e27];cases h1;exact tz []
  have e28:=eF c13;refine ss (rg ?_);simp only [zz];refine cd rfl ?_;simp only [zz];refine gi h1 (fun c14 h1=>?_) fun c14 h1=>?_
  ·have e29:=eT c14;refine sk ?_;simp only [zz,eq_true c14,e29];cases h1;exact tz []
  have e30:=eF c14;refine ss (rg ?_);simp only [zz];refine cd rfl ?_;simp only [zz];refine gi h1 (fun c15 h1=>?_) fun c15 h1=>?_
  ·have e31:=eT c15;refine sk ?_;simp only [zz,eq_true c15,e31];cases h1;exact tz []
  have e32:=eF c15;refine ss (rg ?_);simp only [zz];refine cd rfl ?_;simp only [zz];refine gi h1 (fun c16 h1=>?_) fun c16 h1=>?_
  ·have e33:=eT c16;refine sk ?_;simp only [zz,eq_true c16,e33];cases h1;exact tz []
  have e34:=eF c16;refine rg ?_;simp only [zz];cases h1;exact tz []
 refine cd rfl ?_;simp only [zz];refine gi h (fun c18 h=>?_) fun c18 h=>?_
 ·refine ss (rg ?_);simp only [zz];cases h;exact rt ez
 refine sk ?_;simp only [zz,c18];refine ss (rg ?_);simp only [zz];cases h;exact rt ez
theorem expr_Arity_ok {t0:Int}{r:Int}(h:expr_Arity t0=some r):Den Tryz.prog 121 [e_i64 t0] (e_i64 r):=by
 refine dk 46 k121 ?_;simp only [k121,Kf.of,zs,ze];unfold expr_Arity at h;refine ss (rg ?_);simp only [zz];refine ss (ss (rg ?_));simp only [zz];refine bk ?_;refine jm h (fun j14=>⟨ds 3 (e_i64 t0::e_bool j14::ds 42 []),[]⟩) (fun z2 h1=>?_) fun j14 h1 h=>?_
 ·refine ss (rg ?_);simp only [zz];refine cd rfl ?_;simp only [zz];refine gi h1 (fun c1 h1=>?_) fun c1 h1=>?_
  ·have e3:=eT c1;refine sk ?_;simp only [zz,eq_true c1,e3];cases h1;exact tz []
  have e4:=eF c1;refine ss (rg ?_);simp only [zz];refine cd rfl ?_;simp only [zz];refine gi h1 (fun c2 h1=>?_) fun c2 h1=>?_
  ·have e5:=eT c2;refine sk ?_;simp only [zz,eq_true c2,e5];cases h1;exact tz []
  have e6:=eF c2;refine ss (rg ?_);simp only [zz];refine cd rfl ?_;simp only [zz];refine gi h1 (fun c3 h1=>?_) fun c3 h1=>?_
  ·have e7:=eT c3;refine sk ?_;simp only [zz,eq_true c3,e7];cases h1;exact tz []
  have e8:=eF c3;refine ss (rg ?_);simp only [zz];refine cd rfl ?_;simp only [zz];refine gi h1 (fun c4 h1=>?_) fun c4 h1=>?_
  ·have e9:=eT c4;refine sk ?_;simp only [zz,eq_true c4,e9];cases h1;exact tz []
  have e10:=eF c4;refine ss (rg ?_);simp only [zz];refine cd rfl ?_;simp only [zz];refine gi h1 (fun c5 h1=>?_) fun c5 h1=>?_
  ·have e11:=eT c5;refine sk ?_;simp only [zz,eq_true c5,e11];cases h1;exact tz []
  have e12:=eF c5;refine ss (rg ?_);simp only [zz];refine cd rfl ?_;simp only [zz];refine gi h1 (fun c6 h1=>?_) fun c6 h1=>?_
  ·have e13:=eT c6;refine sk ?_;simp only [zz,eq_true c6,e13];cases h1;exact tz []
  have e14:=eF c6;refine ss (rg ?_);simp only [zz];refine cd rfl ?_;simp only [zz];refine gi h1 (fun c7 h1=>?_) fun c7 h1=>?_
  ·have e15:=eT c7;refine sk ?_;simp only [zz,eq_true c7,e15];cases h1;exact tz []
  have e16:=eF c7;refine ss (rg ?_);simp only [zz];refine cd rfl ?_;simp only [zz];refine gi h1 (fun c8 h1=>?_) fun c8 h1=>?_
  ·have e17:=eT c8;refine sk ?_;simp only [zz,eq_true c8,e17];cases h1;exact tz []
  have e18:=eF c8;refine ss (rg ?_);simp only [zz];refine cd rfl ?_;simp only [zz];refine gi h1 (fun c9 h1=>?_) fun c9 h1=>?_
  ·have e19:=eT c9;refine sk ?_;simp only [zz,eq_true c9,e19];cases h1;exact tz []
  have e20:=eF c9;refine ss (rg ?_);simp only [zz];refine cd rfl ?_;simp only [zz];refine gi h1 (fun c10 h1=>?_) fun c10 h1=>?_
  ·have e21:=eT c10;refine sk ?_;simp only [zz,eq_true c10,e21];cases h1;exact tz []
  have e22:=eF c10;refine ss (rg ?_);simp only [zz];refine cd rfl ?_;simp only [zz];refine gi h1 (fun c11 h1=>?_) fun c11 h1=>?_
  ·have e23:=eT c11;refine sk ?_;simp only [zz,eq_true c11,e23];cases h1;exact tz []
  have e24:=eF c11;refine ss (rg ?_);simp only [zz];refine cd rfl ?_;simp only [zz];refine gi h1 (fun c12 h1=>?_) fun c12 h1=>?_
  ·have e25:=eT c12;refine sk ?_;simp only [zz,eq_true c12,e25];cases h1;exact tz []
  have e26:=eF c12;refine ss (rg ?_);simp only [zz];refine cd rfl ?_;simp only [zz];refine gi h1 (fun c13 h1=>?_) fun c13 h1=>?_
  ·have e27:=eT c13;refine sk ?_;simp only [zz,eq_true c13,e27];cases h1;exact tz []
  have e28:=eF c13;refine rg ?_;simp only [zz];cases h1;exact tz []
 refine cd rfl ?_;simp only [zz];refine gi h (fun c15 h=>?_) fun c15 h=>?_
 ·refine ss (rg ?_);simp only [zz];cases h;exact rt ez
 refine jm h (fun j21=>⟨ds 3 (e_i64 t0::ds 15 (e_bool j21::ds 27 [])),[]⟩) (fun z30 h29=>?_) fun j21 h29 h=>?_
 ·refine ss (rg ?_);simp only [zz];refine cd rfl ?_;simp only [zz];refine gi h29 (fun c16 h29=>?_) fun c16 h29=>?_
  ·have e31:=eT c16;refine sk ?_;simp only [zz,eq_true c16,e31];cases h29;exact tz []
  have e32:=eF c16;refine ss (rg ?_);simp only [zz];refine cd rfl ?_;simp only [zz];refine gi h29 (fun c17 h29=>?_) fun c17 h29=>?_
  ·have e33:=eT c17;refine sk ?_;simp only [zz,eq_true c17,e33];cases h29;exact tz []
  have e34:=eF c17;refine ss (rg ?_);simp only [zz];refine cd rfl ?_;simp only [zz];refine gi h29 (fun c18 h29=>?_) fun c18 h29=>?_
  ·have e35:=eT c18;refine sk ?_;simp only [zz,eq_true c18,e35];cases h29;exact tz []
  have e36:=eF c18;refine ss (rg ?_);simp only [zz];refine cd rfl ?_;simp only [zz];refine gi h29 (fun c19 h29=>?_) fun c19 h29=>?_
  ·have e37:=eT c19;refine sk ?_;simp only [zz,eq_true c19,e37];cases h29;exact tz []
  have e38:=eF c19;refine ss (rg ?_);simp only [zz];refine cd rfl ?_;simp only [zz];refine gi h29 (fun c20 h29=>?_) fun c20 h29=>?_
  ·have e39:=eT c20;refine sk ?_;simp only [zz,eq_true c20,e39];cases h29;exact tz []
  have e40:=eF c20;refine rg ?_;simp only [zz];cases h29;exact tz []
 refine cd rfl ?_;simp only [zz];refine gi h (fun c22 h=>?_) fun c22 h=>?_
 ·refine ss (rg ?_);simp only [zz];cases h;exact rt ez
 refine jm h (fun j40=>⟨ds 3 (e_i64 t0::ds 22 (e_bool j40::ds 20 [])),[]⟩) (fun z42 h41=>?_) fun j40 h41 h=>?_
 ·refine ss (rg ?_);simp only [zz];refine cd rfl ?_;simp only [zz];refine gi h41 (fun c23 h41=>?_) fun c23 h41=>?_
  ·have e43:=eT c23;refine sk ?_;simp only [zz,eq_true c23,e43];cases h41;exact tz []
  have e44:=eF c23;refine ss (rg ?_);simp only [zz];refine cd rfl ?_;simp only [zz];refine gi h41 (fun c24 h41=>?_) fun c24 h41=>?_
  ·have e45:=eT c24;refine sk ?_;simp only [zz,eq_true c24,e45];cases h41;exact tz []
  have e46:=eF c24;refine ss (rg ?_);simp only [zz];refine cd rfl ?_;simp only [zz];refine gi h41 (fun c25 h41=>?_) fun c25 h41=>?_
  ·have e47:=eT c25;refine sk ?_;simp only [zz,eq_true c25,e47];cases h41;exact tz []
  have e48:=eF c25;refine ss (rg ?_);simp only [zz];refine cd rfl ?_;simp only [zz];refine gi h41 (fun c26 h41=>?_) fun c26 h41=>?_
  ·have e49:=eT c26;refine sk ?_;simp only [zz,eq_true c26,e49];cases h41;exact tz []
  have e50:=eF c26;refine ss (rg ?_);simp only [zz];refine cd rfl ?_;simp only [zz];refine gi h41 (fun c27 h41=>?_) fun c27 h41=>?_
  ·have e51:=eT c27;refine sk ?_;simp only [zz,eq_true c27,e51];cases h41;exact tz []
  have e52:=eF c27;refine ss (rg ?_);simp only [zz];refine cd rfl ?_;simp only [zz];refine gi h41 (fun c28 h41=>?_) fun c28 h41=>?_
  ·have e53:=eT c28;refine sk ?_;simp only [zz,eq_true c28,e53];cases h41;exact tz []
  have e54:=eF c28;refine ss (rg ?_);simp only [zz];refine cd rfl ?_;simp only [zz];refine gi h41 (fun c29 h41=>?_) fun c29 h41=>?_
  ·have e55:=eT c29;refine sk ?_;simp only [zz,eq_true c29,e55];cases h41;exact tz []
  have e56:=eF c29;refine ss (rg ?_);simp only [zz];refine cd rfl ?_;simp only [zz];refine gi h41 (fun c30 h41=>?_) fun c30 h41=>?_
  ·have e57:=eT c30;refine sk ?_;simp only [zz,eq_true c30,e57];cases h41;exact tz []
  have e58:=eF c30;refine ss (rg ?_);simp only [zz];refine cd rfl ?_;simp only [zz];refine gi h41 (fun c31 h41=>?_) fun c31 h41=>?_
  ·have e59:=eT c31;refine sk ?_;simp only [zz,eq_true c31,e59];cases h41;exact tz []
  have e60:=eF c31;refine ss (rg ?_);simp only [zz];refine cd rfl ?_;simp only [zz];refine gi h41 (fun c32 h41=>?_) fun c32 h41=>?_
  ·have e61:=eT c32;refine sk ?_;simp only [zz,eq_true c32,e61];cases h41;exact tz []
  have e62:=eF c32;refine ss (rg ?_);simp only [zz];refine cd rfl ?_;simp only [zz];refine gi h41 (fun c33 h41=>?_) fun c33 h41=>?_
  ·have e63:=eT c33;refine sk ?_;simp only [zz,eq_true c33,e63];cases h41;exact tz []
  have e64:=eF c33;refine ss (rg ?_);simp only [zz];refine cd rfl ?_;simp only [zz];refine gi h41 (fun c34 h41=>?_) fun c34 h41=>?_
  ·have e65:=eT c34;refine sk ?_;simp only [zz,eq_true c34,e65];cases h41;exact tz []
  have e66:=eF c34;refine ss (rg ?_);simp only [zz];refine cd rfl ?_;simp only [zz];refine gi h41 (fun c35 h41=>?_) fun c35 h41=>?_
  ·have e67:=eT c35;refine sk ?_;simp only [zz,eq_true c35,e67];cases h41;exact tz []
  have e68:=eF c35;refine ss (rg ?_);simp only [zz];refine cd rfl ?_;simp only [zz];refine gi h41 (fun c36 h41=>?_) fun c36 h41=>?_
  ·have e69:=eT c36;refine sk ?_;simp only [zz,eq_true c36,e69];cases h41;exact tz []
  have e70:=eF c36;refine ss (rg ?_);simp only [zz];refine cd rfl ?_;simp only [zz];refine gi h41 (fun c37 h41=>?_) fun c37 h41=>?_
  ·have e71:=eT c37;refine sk ?_;simp only [zz,eq_true c37,e71];cases h41;exact tz []
  have e72:=eF c37;refine ss (rg ?_);simp only [zz];refine cd rfl ?_;simp only [zz];refine gi h41 (fun c38 h41=>?_) fun c38 h41=>?_
  ·have e73:=eT c38;refine sk ?_;simp only [zz,eq_true c38,e73];cases h41;exact tz []
  have e74:=eF c38;refine ss (rg ?_);simp only [zz];refine cd rfl ?_;simp only [zz];refine gi h41 (fun c39 h41=>?_) fun c39 h41=>?_
  ·have e75:=eT c39;refine sk ?_;simp only [zz,eq_true c39,e75];cases h41;exact tz []
  have e76:=eF c39;refine rg ?_;simp only [zz];cases h41;exact tz []
 refine cd rfl ?_;simp only [zz];refine gi h (fun c41 h=>?_) fun c41 h=>?_
 ·refine ss (rg ?_);simp only [zz];cases h;exact rt ez
 refine ss (rg ?_);simp only [zz];refine cd rfl ?_;simp only [zz];refine gi h (fun c42 h=>?_) fun c42 h=>?_
 ·have e77:=eT c42;refine ss (rg ?_);simp only [zz];cases h;exact rt ez
 have e78:=eF c42;refine sk ?_;simp only [zz,c42,e78];refine ss (rg ?_);simp only [zz];cases h;exact rt ez
theorem slices_Index_api_Node_api_Node_ok {t0:List GNode}{t1:GNode}{r:Int}(h:slices_Index_api_Node_api_Node t0 t1=some r):Den Tryz.prog 124 [e_s_GNode t0,e_GNode t1] (e_i64 r):=by
 refine dk 17 k124 ?_;simp only [k124,Kf.of,zs,ze];unfold slices_Index_api_Node_api_Node at h;refine ss (rg ?_);simp only [zz];refine ss (ss (rg ?_));simp only [zz];obtain⟨y1,h2,h⟩:=bs h;refine lm h2 (fun s1=>⟨e_s_GNode t0::ds 2 (.ref 0 0 0 0::ds 3 (e_i64 (t0.length:Int)::e_i64 s1::ds 10 [])),[.live 2 0 [e_GNode t1]]⟩) (fun q=>⟨ds 19 [],[]⟩) (tz [ok 0]) ?_ ?_
 ·rintro s1 z3 h4 h5;simp only [slices_Index_api_Node_api_Node_L1]at h4;refine ss (rg ?_);simp only [zz];refine ss (cd rfl ?_);simp only [zz];refine gi h4 (fun c2 h4=>?_) fun c2 h4=>?_
  ·refine sk ?_;simp only [zz,c2];refine ss (bk (ss (rg ?_)));simp only [zz];refine ss (dy hmix ?_);obtain⟨x3,f7,f8,h4⟩:=bI h4;simp only [zz,f7,f8,zy];refine cd rfl ?_;simp only [zz,f7,f8];refine gi h4 (fun c4 h4=>?_) fun c4 h4=>?_
   ·refine ss (rg ?_);simp only [zz];cases h4;cases h5 _ rfl;cases h;exact rt ez
   refine sk ?_;simp only [zz,f7,f8,c4];refine rg ?_;simp only [zz];cases h4;exact tz [ok 0]
  refine xt ?_;simp only [zz,c2];cases h4;exact tz []
 rintro ⟨⟩ rfl;dsimp only at h;simp only [zz];refine ss (rg ?_);simp only [zz];cases h;exact rt ez
theorem ref17_nameTaken_ok {t0:GLaw}{t1:Int}{t2:Int}{t3:ByteArray}{r:Bool}(h:ref17_nameTaken t0 t1 t2 t3=some r):Den Tryz.prog 128 [e_GLaw t0,e_i64 t1,e_i64 t2,e_str t3] (e_bool r):=by
 refine dk 84 k128 ?_;simp only [k128,Kf.of,zs,ze];unfold ref17_nameTaken at h;refine ss (rg ?_);simp only [zz];refine ss (ss (rg ?_));simp only [zz];obtain⟨y1,h2,h⟩:=bs h;refine lm h2 (fun s1=>⟨.dead::e_i64 t1::e_i64 t2::.v (.string t3)::.ref 0 0 0 0::ds 4 (e_i64 s1::ds 78 []),[.live 3 0 [e_GLaw t0]]⟩) (fun q=>⟨.dead::e_i64 t1::e_i64 t2::.v (.string t3)::.ref 0 0 0 0::ds 83 [],[.live 3 0 [e_GLaw t0]]⟩) (tz [ok 0]) ?_ ?_
 ·rintro s1 z3 h4 h5;simp only [ref17_nameTaken_L5]at h4;refine ss (ss (rg ?_));simp only [zz];refine cd rfl ?_;simp only [zz];refine gi h4 (fun c2 h4=>?_) fun c2 h4=>?_
  ·refine sk ?_;simp only [zz,c2];refine ss (bk ?_);refine jm h4 (fun j7=>⟨.dead::e_i64 t1::e_i64 t2::.v (.string t3)::.ref 0 0 0 0::ds 4 (e_i64 s1::ds 25 (e_bool j7::ds 52 [])),[.live 3 0 [e_GLaw t0]]⟩) (fun z7 h6=>?_) fun j7 h6 h4=>?_
   ·refine rg ?_;simp only [zz];refine gi h6 (fun c3 h6=>?_) fun c3 h6=>?_
    ·simp only [zz,c3];refine gi h6 (fun c4 h6=>?_) fun c4 h6=>?_
     ·obtain⟨x5,f9,f10,h6⟩:=bI h6;simp only [zz,c3,c4,f9,f10];cases h6;exact tz [ok 0]
     simp only [zz,c3,c4];cases h6;exact tz [ok 0]
    obtain⟨x6,f12,f13,h6⟩:=bI h6;simp only [zz,c3,f12,f13];cases h6;exact tz [ok 0]
   refine cd rfl ?_;simp only [zz];refine gi h4 (fun c8 h4=>?_) fun c8 h4=>?_
   ·refine ss (rg ?_);simp only [zz];cases h4;cases h5 _ rfl;cases h;exact rt ez
   refine sk ?_;simp only [zz,c8];refine rg ?_;simp only [zz];cases h4;exact tz [ok 0]
  refine xt ?_;simp only [zz,c2];cases h4;exact tz [ok 0]
 rintro ⟨⟩ rfl;dsimp only at h;simp only [zz];refine ss (ss (rg ?_));simp only [zz];obtain⟨y14,h15,h⟩:=bs h;refine lm h15 (fun s10=>⟨.dead::e_i64 t1::e_i64 t2::.v (.string t3)::.ref 0 0 0 0::ds 5 (e_i64 s10::ds 77 []),[.live 3 0 [e_GLaw t0]]⟩) (fun q=>⟨.dead::e_i64 t1::e_i64 t2::.v (.string t3)::.ref 0 0 0 0::ds 83 [],[.live 3 0 [e_GLaw t0]]⟩) (tz [ok 0]) ?_ ?_
 ·rintro s10 z16 h17 h18;simp only [ref17_nameTaken_L4]at h17;refine ss (ss (rg ?_));simp only [zz];refine cd rfl ?_;simp only [zz];refine gi h17 (fun c11 h17=>?_) fun c11 h17=>?_
  ·refine sk ?_;simp only [zz,c11];refine ss (bk ?_);refine jm h17 (fun j17=>⟨.dead::e_i64 t1::e_i64 t2::.v (.string t3)::.ref 0 0 0 0::ds 5 (e_i64 s10::ds 52 (e_bool j17::ds 24 [])),[.live 3 0 [e_GLaw t0]]⟩) (fun z20 h19=>?_) fun j17 h19 h17=>?_
   ·refine rg ?_;simp only [zz];refine gi h19 (fun c12 h19=>?_) fun c12 h19=>?_
    ·simp only [zz,c12];refine gi h19 (fun c13 h19=>?_) fun c13 h19=>?_
     ·have e21:=eT c13;simp only [zz,c12,eq_true c13,e21];refine gi h19 (fun c14 h19=>?_) fun c14 h19=>?_
      ·obtain⟨x15,f24,f25,h19⟩:=bI h19;simp only [zz,c12,eq_true c13,e21,c14,f24,f25];cases h19;exact tz [ok 0]
      simp only [zz,c12,eq_true c13,e21,c14];cases h19;exact tz [ok 0]
     have e22:=eF c13;simp only [zz,c12,c13,e22];cases h19;exact tz [ok 0]
    obtain⟨x16,f27,f28,h19⟩:=bI h19;simp only [zz,c12,f27,f28];cases h19;exact tz [ok 0]
   refine cd rfl ?_;simp only [zz];refine gi h17 (fun c18 h17=>?_) fun c18 h17=>?_
   ·refine ss (rg ?_);simp only [zz];cases h17;cases h18 _ rfl;cases h;exact rt ez
   refine sk ?_;simp only [zz,c18];refine rg ?_;simp only [zz];cases h17;exact tz [ok 0]
  refine xt ?_;simp only [zz,c11];cases h17;exact tz [ok 0]
 rintro ⟨⟩ rfl;dsimp only at h;simp only [zz];refine ss (ss (rg ?_));simp only [zz];obtain⟨y29,h30,h⟩:=bs h;refine lm h30 (fun s20=>⟨.dead::e_i64 t1::e_i64 t2::.v (.string t3)::.ref 0 0 0 0::ds 6 (e_i64 s20::ds 76 []),[.live 3 0 [e_GLaw t0]]⟩) (fun q=>⟨ds 88 [],[]⟩) (tz [ok 0]) ?_ ?_
 ·rintro s20 z31 h32 h33;simp only [ref17_nameTaken_L3]at h32;refine ss (ss (rg ?_));simp only [zz];refine cd rfl ?_;simp only [zz];refine gi h32 (fun c21 h32=>?_) fun c21 h32=>?_
  ·refine sk ?_;simp only [zz,c21];refine ss (bk ?_);refine jm h32 (fun j25=>⟨.dead::e_i64 t1::e_i64 t2::.v (.string t3)::.ref 0 0 0 0::ds 6 (e_i64 s20::ds 75 (e_bool j25::[])),[.live 3 0 [e_GLaw t0]]⟩) (fun z35 h34=>?_) fun j25 h34 h32=>?_
   ·refine rg ?_;simp only [zz];refine gi h34 (fun c22 h34=>?_) fun c22 h34=>?_
    ·have e36:=eT c22;simp only [zz,eq_true c22,e36];refine gi h34 (fun c23 h34=>?_) fun c23 h34=>?_
     ·obtain⟨x24,f39,f40,h34⟩:=bI h34;simp only [zz,eq_true c22,e36,c23,f39,f40];cases h34;exact tz [ok 0]
     simp only [zz,eq_true c22,e36,c23];cases h34;exact tz [ok 0]
    have e37:=eF c22;simp only [zz,c22,e37];cases h34;exact tz [ok 0]
   refine cd rfl ?_;simp only [zz];refine gi h32 (fun c26 h32=>?_) fun c26 h32=>?_
   ·refine ss (rg ?_);simp only [zz];cases h32;cases h33 _ rfl;cases h;exact rt ez
   refine sk ?_;simp only [zz,c26];refine rg ?_;simp only [zz];cases h32;exact tz [ok 0]
  refine xt ?_;simp only [zz,c21];cases h32;exact tz []
 rintro ⟨⟩ rfl;dsimp only at h;simp only [zz];refine ss (rg ?_);simp only [zz];cases h;exact rt ez
theorem ref10_Arity_ok {t0:Int}{r:Int}(h:ref10_Arity t0=some r):Den Tryz.prog 134 [e_i64 t0] (e_i64 r):=by
 refine dk 32 k134 ?_;simp only [k134,Kf.of,zs,ze];unfold ref10_Arity at h;refine ss (rg ?_);simp only [zz];refine ss ?_;refine jm h (fun j5=>⟨e_i64 t0::ds 15 (e_bool j5::ds 16 []),[]⟩) (fun z2 h1=>?_) fun j5 h1 h=>?_
 ·refine rg ?_;simp only [zz];refine gi h1 (fun c1 h1=>?_) fun c1 h1=>?_
  ·simp only [zz,c1];refine gi h1 (fun c2 h1=>?_) fun c2 h1=>?_
   ·simp only [zz,c1,c2];refine gi h1 (fun c3 h1=>?_) fun c3 h1=>?_
    ·simp only [zz,c1,c2,c3];cases h1;exact tz []
    simp only [zz,c1,c2,c3];cases h1;exact tz []
   simp only [zz,c1,c2];cases h1;exact tz []
  simp only [zz,c1];refine gi h1 (fun c4 h1=>?_) fun c4 h1=>?_
  ·simp only [zz,c1,c4];cases h1;exact tz []
  simp only [zz,c1,c4];cases h1;exact tz []
 refine cd rfl ?_;simp only [zz];refine gi h (fun c6 h=>?_) fun c6 h=>?_
 ·refine ss (rg ?_);simp only [zz];cases h;exact rt ez
 refine sk ?_;simp only [zz,c6];refine ss (ss (rg ?_));simp only [zz];refine bk ?_;refine jm h (fun j12=>⟨e_i64 t0::ds 16 (e_i64 t0::e_bool j12::ds 14 []),[]⟩) (fun z4 h3=>?_) fun j12 h3 h=>?_
 ·refine ss (rg ?_);simp only [zz];refine cd rfl ?_;simp only [zz];refine gi h3 (fun c7 h3=>?_) fun c7 h3=>?_
  ·have e5:=eT c7;refine sk ?_;simp only [zz,eq_true c7,e5];cases h3;exact tz []
  have e6:=eF c7;refine ss (rg ?_);simp only [zz];refine cd rfl ?_;simp only [zz];refine gi h3 (fun c8 h3=>?_) fun c8 h3=>?_
  ·have e7:=eT c8;refine sk ?_;simp only [zz,eq_true c8,e7];cases h3;exact tz []
  have e8:=eF c8;refine ss (rg ?_);simp only [zz];refine cd rfl ?_;simp only [zz];refine gi h3 (fun c9 h3=>?_) fun c9 h3=>?_
  ·have e9:=eT c9;refine sk ?_;simp only [zz,eq_true c9,e9];cases h3;exact tz []
  have e10:=eF c9;refine ss (rg ?_);simp only [zz];refine cd rfl ?_;simp only [zz];refine gi h3 (fun c10 h3=>?_) fun c10 h3=>?_
  ·have e11:=eT c10;refine sk ?_;simp only [zz,eq_true c10,e11];cases h3;exact tz []
  have e12:=eF c10;refine ss (rg ?_);simp only [zz];refine cd rfl ?_;simp only [zz];refine gi h3 (fun c11 h3=>?_) fun c11 h3=>?_
  ·have e13:=eT c11;refine sk ?_;simp only [zz,eq_true c11,e13];cases h3;exact tz []
  have e14:=eF c11;refine rg ?_;simp only [zz];cases h3;exact tz []
 refine cd rfl ?_;simp only [zz];refine gi h (fun c13 h=>?_) fun c13 h=>?_
 ·refine ss (rg ?_);simp only [zz];cases h;exact rt ez
 refine ss (rg ?_);simp only [zz];refine cd rfl ?_;simp only [zz];refine gi h (fun c14 h=>?_) fun c14 h=>?_
 ·have e15:=eT c14;refine ss (rg ?_);simp only [zz];cases h;exact rt ez
 have e16:=eF c14;refine sk ?_;simp only [zz,c14,e16];refine ss ?_;refine jm h (fun j16=>⟨ds 32 (e_bool j16::[]),[]⟩) (fun z18 h17=>?_) fun j16 h17 h=>?_
 ·refine rg ?_;simp only [zz];refine gi h17 (fun c15 h17=>?_) fun c15 h17=>?_
  ·simp only [zz,c15];cases h17;exact tz []
  simp only [zz,c15];cases h17;exact tz []
 refine cd rfl ?_;simp only [zz];refine gi h (fun c17 h=>?_) fun c17 h=>?_
 ·refine ss (rg ?_);simp only [zz];cases h;exact rt ez
 refine sk ?_;simp only [zz,c17];refine ss (rg ?_);simp only [zz];cases h;exact rt ez
theorem ref09_ValidType_ok {t0:GType}{t1:List GEnum}{r:Bool}(h:ref09_ValidType t0 t1=some r):Den Tryz.prog 137 [e_GType t0,e_s_GEnum t1] (e_bool r):=by
 refine dk 29 k137 ?_;simp only [k137,Kf.of,zs,ze];unfold ref09_ValidType at h;refine ss (rg ?_);simp only [zz];refine ss (ss (rg ?_));simp only [zz];refine cd rfl ?_;simp only [zz];refine gi h (fun c1 h=>?_) fun c1 h=>?_
 ·have e1:=eT c1;refine jm h (fun j3=>⟨ds 4 (e_bool j3::ds 26 []),[]⟩) (fun z4 h3=>?_) fun j3 h3 h=>?_
  ·refine rg ?_;simp only [zz];refine gi h3 (fun c2 h3=>?_) fun c2 h3=>?_
   ·simp only [zz,c2];cases h3;exact tz []
   simp only [zz,c2];cases h3;exact tz []
  cases h;exact rt ez
 have e2:=eF c1;refine sk ?_;simp only [zz,c1,e2];refine jm h (fun j6=>⟨ds 4 (e_bool j6::ds 26 []),[]⟩) (fun z6 h5=>?_) fun j6 h5 h=>?_
 ·refine rg ?_;simp only [zz];refine gi h5 (fun c4 h5=>?_) fun c4 h5=>?_
  ·simp only [zz,c4];refine gi h5 (fun c5 h5=>?_) fun c5 h5=>?_
   ·simp only [zz,c4,c5];cases h5;exact tz []
   simp only [zz,c4,c5];cases h5;exact tz []
  simp only [zz,c4];cases h5;exact tz []
 cases h;exact rt ez
theorem daterange_Valid_ok {t0:GDateRange}{r:Bool}(h:daterange_Valid t0=some r):Den Tryz.prog 138 [e_GDateRange t0] (e_bool r):=by
 refine dk 17 k138 ?_;simp only [k138,Kf.of,zs,ze];unfold daterange_Valid at h;refine ss (rg ?_);simp only [zz];refine jm h (fun j3=>⟨ds 2 (e_bool j3::ds 15 []),[]⟩) (fun z2 h1=>?_) fun j3 h1 h=>?_
 ·refine rg ?_;simp only [zz];refine gi h1 (fun c1 h1=>?_) fun c1 h1=>?_
  ·simp only [zz,c1];refine gi h1 (fun c2 h1=>?_) fun c2 h1=>?_
   ·simp only [zz,c1,c2];cases h1;exact tz []
   simp only [zz,c1,c2];cases h1;exact tz []
  simp only [zz,c1];cases h1;exact tz []
 cases h;exact rt ez
theorem ref05_Valid_ok {t0:GDateRange}{r:Bool}(h:ref05_Valid t0=some r):Den Tryz.prog 147 [e_GDateRange t0] (e_bool r):=by
 refine dk 17 k147 ?_;simp only [k147,Kf.of,zs,ze];unfold ref05_Valid at h;refine ss (rg ?_);simp only [zz];refine jm h (fun j3=>⟨ds 2 (e_bool j3::ds 15 []),[]⟩) (fun z2 h1=>?_) fun j3 h1 h=>?_
 ·refine rg ?_;simp only [zz];refine gi h1 (fun c1 h1=>?_) fun c1 h1=>?_
  ·simp only [zz,c1];refine gi h1 (fun c2 h1=>?_) fun c2 h1=>?_
   ·simp only [zz,c1,c2];cases h1;exact tz []
   simp only [zz,c1,c2];cases h1;exact tz []
  simp only [zz,c1];cases h1;exact tz []
 cases h;exact rt ez
theorem table_first_api_Row_ok {t0:List GRow}{t1:(GRow→Option Bool)}{k1:Nat}{q1:List D}(hc1:idfrees q1=true) (hp1:∀x0 r,t1 x0=some r→Den Tryz.prog k1 ([e_GRow x0]++q1) (e_bool r)) {r:(Int×Bool)}(h:table_first_api_Row t0 t1=some r):Den Tryz.prog 149 [e_s_GRow t0,.fn k1 [] q1] (.tup [e_i64 r.1,e_bool r.2]):=by
 refine Den.at 18 k149.ok k149.nm (frC (frF hc1 frN)) rfl ?_;simp only [k149,Kf.of,zs,ze];unfold table_first_api_Row at h;refine ss (rg ?_);(try simp only [zz]);refine ss (ss (rg ?_));(try simp only [zz]);obtain⟨y1,h2,h⟩:=bs h;refine lm h2 (fun s1=>⟨.dead::.fn k1 [] q1::ds 6 (e_s_GRow t0::e_i64 (t0.length:Int)::e_i64 s1::ds 9 []),[]⟩) (fun q=>⟨ds 20 [],[]⟩) (tz [] (by simp only [zg,sqS_same hc1])) ?_ ?_
 ·rintro s1 z3 h4 h5;simp only [table_first_api_Row_L1]at h4;refine ss (rg ?_);(try simp only [zz]);refine ss (cd rfl ?_);(try simp only [zz]);refine gi h4 (fun c2 h4=>?_) fun c2 h4=>?_
  ·refine sk ?_;(try simp only [zz,c2]);refine ss (bk (ss (rg ?_)));obtain⟨x3,f7,f8,h4⟩:=bI h4;(try simp only [zz,f7,f8]);refine ss (rg ?_);obtain⟨x4,a9,h4⟩:=bs h4;simp only [zz];refine callX_c1 (hp1 _ _ a9) hc1 ?_ (by simp only [zg,sqS_same hc1]);(try simp only [zz]);refine cd rfl ?_;(try simp only [zz]);refine gi h4 (fun c5 h4=>?_) fun c5 h4=>?_
   ·refine ss (rg ?_);(try simp only [zz]);cases h4;cases h5 _ rfl;cases h;exact rt (er (by simp only [zz,zr];exact fq (by simp only [zg,sqS_same hc1,c5])))
   refine sk ?_;(try simp only [zz,c5]);refine rg ?_;(try simp only [zz]);cases h4;exact tz [] (by simp only [zg,sqS_same hc1,c5])
  refine xt ?_;(try simp only [zz,c2]);cases h4;exact tz [] (by simp only [zg,sqS_same hc1])
 rintro ⟨⟩ rfl;dsimp only at h;(try simp only [zz]);refine ss (rg ?_);(try simp only [zz]);cases h;exact rt (er (by simp only [zz,zr];exact fq (by simp only [zg,sqS_same hc1])))
theorem lexer_isLower_ok {t0:Int}{r:Bool}(h:lexer_isLower t0=some r):Den Tryz.prog 152 [e_u8 t0] (e_bool r):=by
 refine dk 8 k152 ?_;simp only [k152,Kf.of,zs,ze];unfold lexer_isLower at h;refine ss (rg ?_);simp only [zz];refine jm h (fun j2=>⟨ds 2 (e_bool j2::ds 6 []),[]⟩) (fun z2 h1=>?_) fun j2 h1 h=>?_
 ·refine rg ?_;simp only [zz];refine gi h1 (fun c1 h1=>?_) fun c1 h1=>?_
  ·simp only [zz,c1];cases h1;exact tz []
  simp only [zz,c1];cases h1;exact tz []
 cases h;exact rt ez
theorem lexer_reserved_ok {t0:ByteArray}{r:Bool}(h:lexer_reserved t0=some r):Den Tryz.prog 154 [e_str t0] (e_bool r):=by
 refine dk 59 k154 ?_;simp only [k154,Kf.of,zs,ze];unfold lexer_reserved at h;refine ss (rg ?_);simp only [zz];refine ss (ss (rg ?_));simp only [zz];refine bk ?_;refine jm h (fun j55=>⟨ds 4 (e_bool j55::ds 55 []),[]⟩) (fun z2 h1=>?_) fun j55 h1 h=>?_
 ·refine ss (rg ?_);simp only [zz];refine cd rfl ?_;simp only [zz];refine gi h1 (fun c1 h1=>?_) fun c1 h1=>?_
  ·refine sk ?_;simp only [zz,eq_true c1];cases h1;exact tz []
  refine ss (rg ?_);simp only [zz];refine cd rfl ?_;simp only [zz];refine gi h1 (fun c2 h1=>?_) fun c2 h1=>?_
  ·refine sk ?_;simp only [zz,eq_true c2];cases h1;exact tz []
  refine ss (rg ?_);simp only [zz];refine cd rfl ?_;simp only [zz];refine gi h1 (fun c3 h1=>?_) fun c3 h1=>?_
  ·refine sk ?_;simp only [zz,eq_true c3];cases h1;exact tz []
  refine ss (rg ?_);simp only [zz];refine cd rfl ?_;simp only [zz];refine gi h1 (fun c4 h1=>?_) fun c4 h1=>?_
  ·refine sk ?_;simp only [zz,eq_true c4];cases h1;exact tz []
  refine ss (rg ?_);simp only [zz];refine cd rfl ?_;simp only [zz];refine gi h1 (fun c5 h1=>?_) fun c5 h1=>?_
  ·refine sk ?_;simp only [zz,eq_true c5];cases h1;exact tz []
  refine ss (rg ?_);simp only [zz];refine cd rfl ?_;simp only [zz];refine gi h1 (fun c6 h1=>?_) fun c6 h1=>?_
  ·refine sk ?_;simp only [zz,eq_true c6];cases h1;exact tz []
  refine ss (rg ?_);simp only [zz];refine cd rfl ?_;simp only [zz];refine gi h1 (fun c7 h1=>?_) fun c7 h1=>?_
  ·refine sk ?_;simp only [zz,eq_true c7];cases h1;exact tz []
  refine ss (rg ?_);simp only [zz];refine cd rfl ?_;simp only [zz];refine gi h1 (fun c8 h1=>?_) fun c8 h1=>?_
  ·refine sk ?_;simp only [zz,eq_true c8];cases h1;exact tz []
  refine ss (rg ?_);simp only [zz];refine cd rfl ?_;simp only [zz];refine gi h1 (fun c9 h1=>?_) fun c9 h1=>?_
  ·refine sk ?_;simp only [zz,eq_true c9];cases h1;exact tz []
  refine ss (rg ?_);simp only [zz];refine cd rfl ?_;simp only [zz];refine gi h1 (fun c10 h1=>?_) fun c10 h1=>?_
  ·refine sk ?_;simp only [zz,eq_true c10];cases h1;exact tz []
  refine ss (rg ?_);simp only [zz];refine cd rfl ?_;simp only [zz];refine gi h1 (fun c11 h1=>?_) fun c11 h1=>?_
  ·refine sk ?_;simp only [zz,eq_true c11];cases h1;exact tz []
  refine ss (rg ?_);simp only [zz];refine cd rfl ?_;simp only [zz];refine gi h1 (fun c12 h1=>?_) fun c12 h1=>?_
  ·refine sk ?_;simp only [zz,eq_true c12];cases h1;exact tz []
  refine ss (rg ?_);simp only [zz];refine cd rfl ?_;simp only [zz];refine gi h1 (fun c13 h1=>?_) fun c13 h1=>?_
  ·refine sk ?_;simp only [zz,eq_true c13];cases h1;exact tz []
  refine ss (rg ?_);simp only [zz];refine cd rfl ?_;simp only [zz];refine gi h1 (fun c14 h1=>?_) fun c14 h1=>?_
  ·refine sk ?_;simp only [zz,eq_true c14];cases h1;exact tz []
  refine ss (rg ?_);simp only [zz];refine cd rfl ?_;simp only [zz];refine gi h1 (fun c15 h1=>?_) fun c15 h1=>?_
  ·refine sk ?_;simp only [zz,eq_true c15];cases h1;exact tz []
  refine ss (rg ?_);simp only [zz];refine cd rfl ?_;simp only [zz];refine gi h1 (fun c16 h1=>?_) fun c16 h1=>?_
  ·refine sk ?_;simp only [zz,eq_true c16];cases h1;exact tz []
  refine ss (rg ?_);simp only [zz];refine cd rfl ?_;simp only [zz];refine gi h1 (fun c17 h1=>?_) fun c17 h1=>?_
  ·refine sk ?_;simp only [zz,eq_true c17];cases h1;exact tz []
  refine ss (rg ?_);simp only [zz];refine cd rfl ?_;simp only [zz];refine gi h1 (fun c18 h1=>?_) fun c18 h1=>?_
  ·refine sk ?_;simp only [zz,eq_true c18];cases h1;exact tz []
  refine ss (rg ?_);simp only [zz];refine cd rfl ?_;simp only [zz];refine gi h1 (fun c19 h1=>?_) fun c19 h1=>?_
  ·refine sk ?_;simp only [zz,eq_true c19];cases h1;exact tz []
  refine ss (rg ?_);simp only [zz];refine cd rfl ?_;simp only [zz];refine gi h1 (fun c20 h1=>?_) fun c20 h1=>?_
  ·refine sk ?_;simp only [zz,eq_true c20];cases h1;exact tz []
  refine ss (rg ?_);simp only [zz];refine cd rfl ?_;simp only [zz];refine gi h1 (fun c21 h1=>?_) fun c21 h1=>?_
  ·refine sk ?_;simp only [zz,eq_true c21];cases h1;exact tz []
  refine ss (rg ?_);simp only [zz];refine cd rfl ?_;simp only [zz];refine gi h1 (fun c22 h1=>?_) fun c22 h1=>?_
  ·refine sk ?_;simp only [zz,eq_true c22];cases h1;exact tz []
  refine ss (rg ?_);simp only [zz];refine cd rfl ?_;simp only [zz];refine gi h1 (fun c23 h1=>?_) fun c23 h1=>?_
  ·refine sk ?_;simp only [zz,eq_true c23];cases h1;exact tz []
  refine ss (rg ?_);simp only [zz];refine cd rfl ?_;simp only [zz];refine gi h1 (fun c24 h1=>?_) fun c24 h1=>?_
  ·refine sk ?_;simp only [zz,eq_true c24];cases h1;exact tz []
  refine ss (rg ?_);simp only [zz];refine cd rfl ?_;simp only [zz];refine gi h1 (fun c25 h1=>?_) fun c25 h1=>?_
  ·refine sk ?_;simp only [zz,eq_true c25];cases h1;exact tz []
  refine ss (rg ?_);simp only [zz];refine cd rfl ?_;simp only [zz];refine gi h1 (fun c26 h1=>?_) fun c26 h1=>?_
  ·refine sk ?_;simp only [zz,eq_true c26];cases h1;exact tz []
  refine ss (rg ?_);simp only [zz];refine cd rfl ?_;simp only [zz];refine gi h1 (fun c27 h1=>?_) fun c27 h1=>?_
  ·refine sk ?_;simp only [zz,eq_true c27];cases h1;exact tz []
  refine ss (rg ?_);simp only [zz];refine cd rfl ?_;simp only [zz];refine gi h1 (fun c28 h1=>?_) fun c28 h1=>?_
  ·refine sk ?_;simp only [zz,eq_true c28];cases h1;exact tz []
  refine ss (rg ?_);simp only [zz];refine cd rfl ?_;simp only [zz];refine gi h1 (fun c29 h1=>?_) fun c29 h1=>?_
  ·refine sk ?_;simp only [zz,eq_true c29];cases h1;exact tz []
  refine ss (rg ?_);simp only [zz];refine cd rfl ?_;simp only [zz];refine gi h1 (fun c30 h1=>?_) fun c30 h1=>?_
  ·refine sk ?_;simp only [zz,eq_true c30];cases h1;exact tz []
  refine ss (rg ?_);simp only [zz];refine cd rfl ?_;simp only [zz];refine gi h1 (fun c31 h1=>?_) fun c31 h1=>?_
  ·refine sk ?_;simp only [zz,eq_true c31];cases h1;exact tz []
  refine ss (rg ?_);simp only [zz];refine cd rfl ?_;simp only [zz];refine gi h1 (fun c32 h1=>?_) fun c32 h1=>?_
  ·refine sk ?_;simp only [zz,eq_true c32];cases h1;exact tz []
  refine ss (rg ?_);simp only [zz];refine cd rfl ?_;simp only [zz];refine gi h1 (fun c33 h1=>?_) fun c33 h1=>?_
  ·refine sk ?_;simp only [zz,eq_true c33];cases h1;exact tz []
  refine ss (rg ?_);simp only [zz];refine cd rfl ?_;simp only [zz];refine gi h1 (fun c34 h1=>?_) fun c34 h1=>?_
  ·refine sk ?_;simp only [zz,eq_true c34];cases h1;exact tz []
  refine ss (rg ?_);simp only [zz];refine cd rfl ?_;simp only [zz];refine gi h1 (fun c35 h1=>?_) fun c35 h1=>?_
  ·refine sk ?_;simp only [zz,eq_true c35];cases h1;exact tz []
  refine ss (rg ?_);simp only [zz];refine cd rfl ?_;simp only [zz];refine gi h1 (fun c36 h1=>?_) fun c36 h1=>?_
  ·refine sk ?_;simp only [zz,eq_true c36];cases h1;exact tz []
  refine ss (rg ?_);simp only [zz];refine cd rfl ?_;simp only [zz];refine gi h1 (fun c37 h1=>?_) fun c37 h1=>?_
  ·refine sk ?_;simp only [zz,eq_true c37];cases h1;exact tz []
  refine ss (rg ?_);simp only [zz];refine cd rfl ?_;simp only [zz];refine gi h1 (fun c38 h1=>?_) fun c38 h1=>?_
  ·refine sk ?_;simp only [zz,eq_true c38];cases h1;exact tz []
  refine ss (rg ?_);simp only [zz];refine cd rfl ?_;simp only [zz];refine gi h1 (fun c39 h1=>?_) fun c39 h1=>?_
  ·refine sk ?_;simp only [zz,eq_true c39];cases h1;exact tz []
  refine ss (rg ?_);simp only [zz];refine cd rfl ?_;simp only [zz];refine gi h1 (fun c40 h1=>?_) fun c40 h1=>?_
  ·refine sk ?_;simp only [zz,eq_true c40];cases h1;exact tz []
  refine ss (rg ?_);simp only [zz];refine cd rfl ?_;simp only [zz];refine gi h1 (fun c41 h1=>?_) fun c41 h1=>?_
  ·refine sk ?_;simp only [zz,eq_true c41];cases h1;exact tz []
  refine ss (rg ?_);simp only [zz];refine cd rfl ?_;simp only [zz];refine gi h1 (fun c42 h1=>?_) fun c42 h1=>?_
  ·refine sk ?_;simp only [zz,eq_true c42];cases h1;exact tz []
  refine ss (rg ?_);simp only [zz];refine cd rfl ?_;simp only [zz];refine gi h1 (fun c43 h1=>?_) fun c43 h1=>?_
  ·refine sk ?_;simp only [zz,eq_true c43];cases h1;exact tz []
  refine ss (rg ?_);simp only [zz];refine cd rfl ?_;simp only [zz];refine gi h1 (fun c44 h1=>?_) fun c44 h1=>?_
  ·refine sk ?_;simp only [zz,eq_true c44];cases h1;exact tz []
  refine ss (rg ?_);simp only [zz];refine cd rfl ?_;simp only [zz];refine gi h1 (fun c45 h1=>?_) fun c45 h1=>?_
  ·refine sk ?_;simp only [zz,eq_true c45];cases h1;exact tz []
  refine ss (rg ?_);simp only [zz];refine cd rfl ?_;simp only [zz];refine gi h1 (fun c46 h1=>?_) fun c46 h1=>?_
  ·refine sk ?_;simp only [zz,eq_true c46];cases h1;exact tz []
  refine ss (rg ?_);simp only [zz];refine cd rfl ?_;simp only [zz];refine gi h1 (fun c47 h1=>?_) fun c47 h1=>?_
  ·refine sk ?_;simp only [zz,eq_true c47];cases h1;exact tz []
  refine ss (rg ?_);simp only [zz];refine cd rfl ?_;simp only [zz];refine gi h1 (fun c48 h1=>?_) fun c48 h1=>?_
  ·refine sk ?_;simp only [zz,eq_true c48];cases h1;exact tz []
  refine ss (rg ?_);simp only [zz];refine cd rfl ?_;simp only [zz];refine gi h1 (fun c49 h1=>?_) fun c49 h1=>?_
  ·refine sk ?_;simp only [zz,eq_true c49];cases h1;exact tz []
  refine ss (rg ?_);simp only [zz];refine cd rfl ?_;simp only [zz];refine gi h1 (fun c50 h1=>?_) fun c50 h1=>?_
  ·refine sk ?_;simp only [zz,eq_true c50];cases h1;exact tz []
  refine ss (rg ?_);simp only [zz];refine cd rfl ?_;simp only [zz];refine gi h1 (fun c51 h1=>?_) fun c51 h1=>?_
  ·refine sk ?_;simp only [zz,eq_true c51];cases h1;exact tz []
  refine ss (rg ?_);simp only [zz];refine cd rfl ?_;simp only [zz];refine gi h1 (fun c52 h1=>?_) fun c52 h1=>?_
  ·refine sk ?_;simp only [zz,eq_true c52];cases h1;exact tz []
  refine ss (rg ?_);simp only [zz];refine cd rfl ?_;simp only [zz];refine gi h1 (fun c53 h1=>?_) fun c53 h1=>?_
  ·refine sk ?_;simp only [zz,eq_true c53];cases h1;exact tz []
  refine ss (rg ?_);simp only [zz];refine cd rfl ?_;simp only [zz];refine gi h1 (fun c54 h1=>?_) fun c54 h1=>?_
  ·refine sk ?_;simp only [zz,eq_true c54];cases h1;exact tz []
  refine rg ?_;simp only [zz];cases h1;exact tz []
 refine cd rfl ?_;simp only [zz];refine gi h (fun c56 h=>?_) fun c56 h=>?_
 ·refine ss (rg ?_);simp only [zz];cases h;exact rt ez
 refine sk ?_;simp only [zz,c56];refine ss (rg ?_);simp only [zz];cases h;exact rt ez
theorem law_hasEnum_c1_ok {t0:GEnum}{t1:ByteArray}{r:Bool}(h:law_hasEnum_c1 t0 t1=some r):Den Tryz.prog 156 [e_GEnum t0,e_p_str t1] (e_bool r):=by
 refine dk 6 k156 ?_;simp only [k156,Kf.of,zs,ze];unfold law_hasEnum_c1 at h;refine ss (rg ?_);simp only [zz];refine ss (rg ?_);simp only [zz];cases h;exact rt ez
theorem law_hasTable_c1_ok {t0:GTable}{t1:ByteArray}{r:Bool}(h:law_hasTable_c1 t0 t1=some r):Den Tryz.prog 158 [e_GTable t0,e_p_str t1] (e_bool r):=by
 refine dk 6 k158 ?_;simp only [k158,Kf.of,zs,ze];unfold law_hasTable_c1 at h;refine ss (rg ?_);simp only [zz];refine ss (rg ?_);simp only [zz];cases h;exact rt ez
theorem law_checkScope_c1_ok {t0:GScope}{t1:GScope}{r:Bool}(h:law_checkScope_c1 t0 t1=some r):Den Tryz.prog 160 [e_GScope t0,e_p_GScope t1] (e_bool r):=by
 refine dk 7 k160 ?_;simp only [k160,Kf.of,zs,ze];unfold law_checkScope_c1 at h;refine ss (rg ?_);simp only [zz];refine ss (rg ?_);simp only [zz];cases h;exact rt ez
theorem expr_enumType_ok {t0:Int}{t1:GSignature}{r:(GType×Int)}(h:expr_enumType t0 t1=some r):Den Tryz.prog 166 [e_i64 t0,e_GSignature t1] (.tup [e_GType r.1,e_i64 r.2]):=by
 refine dk 32 k166 ?_;simp only [k166,Kf.of,zs,ze];unfold expr_enumType at h;refine ss (rg ?_);simp only [zz];refine ss (ss (rg ?_));simp only [zz];refine cd rfl ?_;simp only [zz];refine gi h (fun c1 h=>?_) fun c1 h=>?_
 ·refine ss (rg ?_);simp only [zz];cases h;exact rt ez
 refine sk ?_;simp only [zz,c1];refine ss (rg ?_);simp only [zz,Int.reduceEq,Int.reduceNeg,Int.reduceEq,Int.reduceNeg];refine ss ?_;refine jm h (fun j4=>⟨ds 4 (.ref 0 0 0 0::.dead::e_i64 (wrapF .i64 (Int.tdiv t0 16))::ds 23 (e_bool j4::ds 3 [])),[.live 2 0 [.agg [e_i64 0,e_i64 0]]]⟩) (fun z2 h1=>?_) fun j4 h1 h=>?_
 ·refine rg ?_;simp only [zz];refine gi h1 (fun c2 h1=>?_) fun c2 h1=>?_
  ·obtain⟨x3,f4,f5,h1⟩:=bI h1;simp only [zz,c2,f4,f5];cases h1;exact tz [ok 1]
  simp only [zz,c2];cases h1;exact tz [ok 1]
 refine cd rfl ?_;simp only [zz];refine gi h (fun c5 h=>?_) fun c5 h=>?_
 ·refine ss (rg ?_);simp only [zz];cases h;exact rt ez
 refine sk ?_;simp only [zz,c5];refine ss (rg ?_);simp only [zz];cases h;exact rt ez
theorem expr_validMode_ok {t0:Int}{r:Bool}(h:expr_validMode t0=some r):Den Tryz.prog 170 [e_i64 t0] (e_bool r):=by
 refine dk 8 k170 ?_;simp only [k170,Kf.of,zs,ze];unfold expr_validMode at h;refine ss (rg ?_);simp only [zz];refine jm h (fun j2=>⟨ds 2 (e_bool j2::ds 6 []),[]⟩) (fun z2 h1=>?_) fun j2 h1 h=>?_
 ·refine rg ?_;simp only [zz];refine gi h1 (fun c1 h1=>?_) fun c1 h1=>?_
  ·simp only [zz,c1];cases h1;exact tz []
  simp only [zz,c1];cases h1;exact tz []
 cases h;exact rt ez
theorem ref08_lower_ok {t0:Int}{r:Bool}(h:ref08_lower t0=some r):Den Tryz.prog 183 [e_u8 t0] (e_bool r):=by
 refine dk 8 k183 ?_;simp only [k183,Kf.of,zs,ze];unfold ref08_lower at h;refine ss (rg ?_);simp only [zz];refine jm h (fun j2=>⟨ds 2 (e_bool j2::ds 6 []),[]⟩) (fun z2 h1=>?_) fun j2 h1 h=>?_
 ·refine rg ?_;simp only [zz];refine gi h1 (fun c1 h1=>?_) fun c1 h1=>?_
  ·simp only [zz,c1];cases h1;exact tz []
  simp only [zz,c1];cases h1;exact tz []
 cases h;exact rt ez
theorem ref08_Reserved_ok {r:List ByteArray}(h:ref08_Reserved=some r):Den Tryz.prog 185 [] (e_s_str r):=by
 refine dk 2 k185 ?_;simp only [k185,Kf.of,zs,ze];unfold ref08_Reserved at h;refine ss (rg ?_);simp only [zz];refine ss (rg ?_);simp only [zz];cases h;exact rt ez
theorem ref17_hasField_ok {t0:List GField}{t1:Int}{t2:ByteArray}{r:Bool}(h:ref17_hasField t0 t1 t2=some r):Den Tryz.prog 188 [e_s_GField t0,e_i64 t1,e_str t2] (e_bool r):=by
 refine dk 23 k188 ?_;simp only [k188,Kf.of,zs,ze];unfold ref17_hasField at h;refine ss (rg ?_);simp only [zz];refine ss (ss (rg ?_));simp only [zz];obtain⟨y1,h2,h⟩:=bs h;refine lm h2 (fun s1=>⟨e_s_GField t0::e_i64 t1::.v (.string t2)::ds 4 (e_i64 s1::ds 18 []),[]⟩) (fun q=>⟨ds 26 [],[]⟩) (tz []) ?_ ?_
 ·rintro s1 z3 h4 h5;simp only [ref17_hasField_L1]at h4;refine ss ?_;refine jm h4 (fun j3=>⟨e_s_GField t0::e_i64 t1::.v (.string t2)::ds 4 (e_i64 s1::ds 8 (e_bool j3::ds 9 [])),[]⟩) (fun z7 h6=>?_) fun j3 h6 h4=>?_
  ·refine rg ?_;simp only [zz];refine gi h6 (fun c2 h6=>?_) fun c2 h6=>?_
   ·simp only [zz,c2];cases h6;exact tz []
   simp only [zz,c2];cases h6;exact tz []
  refine cd rfl ?_;simp only [zz];refine gi h4 (fun c4 h4=>?_) fun c4 h4=>?_
  ·refine sk ?_;simp only [zz,c4];refine ss (bk (ss (rg ?_)));obtain⟨x5,f9,f10,h4⟩:=bI h4;simp only [zz,f9,f10];refine cd rfl ?_;simp only [zz,f9,f10];refine gi h4 (fun c6 h4=>?_) fun c6 h4=>?_
   ·refine ss (rg ?_);simp only [zz];cases h4;cases h5 _ rfl;cases h;exact rt ez
   refine sk ?_;simp only [zz,f9,f10,c6];refine rg ?_;simp only [zz];cases h4;exact tz []
  refine xt ?_;simp only [zz,c4];cases h4;exact tz []
 rintro ⟨⟩ rfl;dsimp only at h;simp only [zz];refine ss (rg ?_);simp only [zz];cases h;exact rt ez
theorem ref17_plainText_ok {t0:ByteArray}{r:Bool}(h:ref17_plainText t0=some r):Den Tryz.prog 189 [e_str t0] (e_bool r):=by
 refine dk 28 k189 ?_;simp only [k189,Kf.of,zs,ze];unfold ref17_plainText at h;refine ss (rg ?_);simp only [zz];refine ss (ss (rg ?_));simp only [zz];obtain⟨y1,h2,h⟩:=bs h;refine lm h2 (fun s1=>⟨.v (.string t0)::ds 2 (e_i64 s1::ds 25 []),[]⟩) (fun q=>⟨.v (.string t0)::ds 28 [],[]⟩) (tz []) ?_ ?_
 ·rintro s1 z3 h4 h5;simp only [ref17_plainText_L1]at h4;refine ss (ss (rg ?_));simp only [zz];refine cd rfl ?_;simp only [zz];refine gi h4 (fun c2 h4=>?_) fun c2 h4=>?_
  ·refine sk ?_;simp only [zz,c2];refine ss (bk ?_);refine jm h4 (fun j6=>⟨.v (.string t0)::ds 2 (e_i64 s1::ds 21 (e_bool j6::ds 3 [])),[]⟩) (fun z7 h6=>?_) fun j6 h6 h4=>?_
   ·refine rg ?_;obtain⟨x3,a8,h6⟩:=bs h6;simp only [zz,a8];refine gi h6 (fun c4 h6=>?_) fun c4 h6=>?_
    ·simp only [zz,a8,c4];refine gi h6 (fun c5 h6=>?_) fun c5 h6=>?_
     ·simp only [zz,a8,c4,c5];cases h6;exact tz []
     simp only [zz,a8,c4,c5];cases h6;exact tz []
    simp only [zz,a8,c4];cases h6;exact tz []
   refine cd rfl ?_;simp only [zz];refine gi h4 (fun c7 h4=>?_) fun c7 h4=>?_
   ·refine ss (rg ?_);simp only [zz];cases h4;cases h5 _ rfl;cases h;exact rt ez
   refine sk ?_;simp only [zz,c7];refine rg ?_;simp only [zz];cases h4;exact tz []
  refine xt ?_;simp only [zz,c2];cases h4;exact tz []
 rintro ⟨⟩ rfl;dsimp only at h;simp only [zz];refine ss (rg ?_);simp only [zz];cases h;exact rt ez
theorem ref16_insert_ok {t0:List Int}{t1:Int}{r:List Int}(h:ref16_insert t0 t1=some r):Den Tryz.prog 192 [e_s_i64 t0,e_i64 t1] (e_s_i64 r):=by
 refine dk 46 k192 ?_;simp only [k192,Kf.of,zs,ze];unfold ref16_insert at h;refine ss (rg ?_);simp only [zz];refine ss (rg ?_);simp only [zz];refine ss (rg ?_);simp only [zz];refine ss (ss (rg ?_));simp only [zz];obtain⟨y1,h2,h⟩:=bs h;refine lm h2 (fun q=>⟨e_s_i64 t0::e_i64 t1::ds 3 (.own 0 0::e_bool q.2.1::e_i64 q.2.2::ds 40 []),[.live 1 0 (q.1.map e_i64)]⟩) (fun q=>⟨.dead::e_i64 t1::ds 3 (.own 0 0::e_bool q.2::ds 41 []),[.live 1 0 (q.1.map e_i64)]⟩) (tz [on 1]) ?_ ?_
 ·rintro ⟨s1,s2,s3⟩ z3 h4 h5;simp only [ref16_insert_L1]at h4;refine ss (ss (rg ?_));simp only [zz];refine cd rfl ?_;simp only [zz];refine gi h4 (fun c4 h4=>?_) fun c4 h4=>?_
  ·refine sk ?_;simp only [zz,c4];refine ss (bk ?_);refine jm h4 (fun q=>⟨e_s_i64 t0::e_i64 t1::ds 3 (.own 0 0::e_bool q.2::e_i64 s3::ds 40 []),[.live 1 0 (q.1.map e_i64)]⟩) (fun z7 h6=>?_) fun z7 h6 h4=>?_
   ·refine jm h6 (fun j7=>⟨e_s_i64 t0::e_i64 t1::ds 3 (.own 0 0::e_bool s2::e_i64 s3::ds 15 (e_bool j7::ds 24 [])),[.live 1 0 (s1.map e_i64)]⟩) (fun z9 h8=>?_) fun j7 h8 h6=>?_
    ·refine rg ?_;simp only [zz];refine gi h8 (fun c5 h8=>?_) fun c5 h8=>?_
     ·obtain⟨x6,f11,f12,h8⟩:=bI h8;simp only [zz,c5,f11,f12];cases h8;exact tz [ok 0]
     simp only [zz,c5];cases h8;exact tz [ok 0]
    refine cd rfl ?_;simp only [zz];refine gi h6 (fun c8 h6=>?_) fun c8 h6=>?_
    ·refine jm h6 (fun j12=>⟨e_s_i64 t0::e_i64 t1::ds 3 (.own 0 0::.dead::e_i64 s3::ds 40 []),[.live 1 0 (j12.map e_i64)]⟩) (fun z14 h13=>?_) fun j12 h13 h6=>?_
     ·refine ss (rg ?_);obtain⟨x9,f16,f17,h13⟩:=bI h13;simp only [zz,f16,f17];refine cd rfl ?_;simp only [zz,f16,f17];refine gi h13 (fun c10 h13=>?_) fun c10 h13=>?_
      ·refine rg ?_;obtain⟨x11,a18,h13⟩:=bs h13;obtain⟨f19,f20⟩:=app_f (e:=e_i64) a18;(try simp only [zz]at f19 f20);simp only [zz,f19,f20];cases h13;exact tz [ov 0 1]
      refine sk ?_;simp only [zz,f16,f17,c10];cases h13;exact tz [ok 0]
     refine rg ?_;simp only [zz];cases h6;exact tz [ok 0]
    refine sk ?_;simp only [zz,c8];cases h6;exact tz [ok 0]
   obtain⟨j13,j14⟩:=z7;dsimp only at h4;refine rg ?_;obtain⟨x15,f22,f23,h4⟩:=bI h4;obtain⟨x16,a24,h4⟩:=bs h4;obtain⟨f25,f26⟩:=app_f (e:=e_i64) a24;(try simp only [zz]at f25 f26);simp only [zz,f22,f23,f25,f26];refine rg ?_;simp only [zz];cases h4;exact tz [ov 0 1]
  refine xt ?_;simp only [zz,c4];cases h4;exact tz [ok 0]
 rintro ⟨b20,b21⟩ rfl;dsimp only at h;simp only [zz];refine jm h (fun j24=>⟨ds 5 (.own 0 0::ds 42 []),[.live 1 0 (j24.map e_i64)]⟩) (fun z28 h27=>?_) fun j24 h27 h=>?_
 ·refine ss (rg ?_);simp only [zz];refine cd rfl ?_;simp only [zz];refine gi h27 (fun c22 h27=>?_) fun c22 h27=>?_
  ·refine rg ?_;obtain⟨x23,a29,h27⟩:=bs h27;obtain⟨f30,f31⟩:=app_f (e:=e_i64) a29;(try simp only [zz]at f30 f31);simp only [zz,f30,f31];cases h27;exact tz [ov 0 1]
  refine sk ?_;simp only [zz,c22];cases h27;exact tz [ok 0]
 refine ss (rg ?_);simp only [zz];cases h;exact rt ez
theorem ref10_meaning_ok {t0:Int}{r:Bool}(h:ref10_meaning t0=some r):Den Tryz.prog 193 [e_i64 t0] (e_bool r):=by
 refine dk 34 k193 ?_;simp only [k193,Kf.of,zs,ze];unfold ref10_meaning at h;refine ss (rg ?_);simp only [zz];refine ss ?_;refine jm h (fun j5=>⟨e_i64 t0::ds 15 (e_bool j5::ds 18 []),[]⟩) (fun z2 h1=>?_) fun j5 h1 h=>?_
 ·refine rg ?_;simp only [zz];refine gi h1 (fun c1 h1=>?_) fun c1 h1=>?_
  ·simp only [zz,c1];refine gi h1 (fun c2 h1=>?_) fun c2 h1=>?_
   ·simp only [zz,c1,c2];refine gi h1 (fun c3 h1=>?_) fun c3 h1=>?_
    ·simp only [zz,c1,c2,c3];cases h1;exact tz []
    simp only [zz,c1,c2,c3];cases h1;exact tz []
   simp only [zz,c1,c2];cases h1;exact tz []
  simp only [zz,c1];refine gi h1 (fun c4 h1=>?_) fun c4 h1=>?_
  ·simp only [zz,c1,c4];cases h1;exact tz []
  simp only [zz,c1,c4];cases h1;exact tz []
 refine cd rfl ?_;simp only [zz];refine gi h (fun c6 h=>?_) fun c6 h=>?_
 ·refine ss (rg ?_);simp only [zz];cases h;exact rt ez
 refine sk ?_;simp only [zz,c6];refine jm h (fun j11=>⟨ds 2 (e_bool j11::ds 32 []),[]⟩) (fun z4 h3=>?_) fun j11 h3 h=>?_
 ·refine rg ?_;simp only [zz];refine gi h3 (fun c7 h3=>?_) fun c7 h3=>?_
  ·have e5:=eF c7;simp only [zz,c7,e5];refine gi h3 (fun c8 h3=>?_) fun c8 h3=>?_
   ·have e7:=eF c8;simp only [zz,c7,e5,c8,e7];refine gi h3 (fun c9 h3=>?_) fun c9 h3=>?_
    ·have e9:=eF c9;simp only [zz,c7,e5,c8,e7,c9,e9];refine gi h3 (fun c10 h3=>?_) fun c10 h3=>?_
     ·have e11:=eF c10;simp only [zz,c7,e5,c8,e7,c9,e9,c10,e11];cases h3;exact tz []
     have e12:=eD c10;simp only [zz,c7,e5,c8,e7,c9,e9,c10,e12];cases h3;exact tz []
    have e10:=eD c9;simp only [zz,c7,e5,c8,e7,c9,e10];cases h3;exact tz []
   have e8:=eD c8;simp only [zz,c7,e5,c8,e8];cases h3;exact tz []
  have e6:=eD c7;simp only [zz,c7,e6];cases h3;exact tz []
 cases h;exact rt ez
theorem ref10_found_ok {t0:GNode}{t1:GSignature}{r:Bool}(h:ref10_found t0 t1=some r):Den Tryz.prog 195 [e_GNode t0,e_GSignature t1] (e_bool r):=by
 refine dk 101 k195 ?_;simp only [k195,Kf.of,zs,ze];unfold ref10_found at h;refine ss (rg ?_);simp only [zz];refine ss (ss (rg ?_));simp only [zz];refine bk (ss (rg ?_));simp only [zz];refine cd rfl ?_;simp only [zz];refine gi h (fun c1 h=>?_) fun c1 h=>?_
 ·have e1:=eT c1;refine jm h (fun j4=>⟨ds 4 (e_bool j4::ds 98 []),[]⟩) (fun z4 h3=>?_) fun j4 h3 h=>?_
  ·refine dy hmix ?_;simp only [zz,zy,Int.reduceEq,Int.reduceNeg];refine gi h3 (fun c2 h3=>?_) fun c2 h3=>?_
   ·obtain⟨x3,f6,f7,h3⟩:=bI h3;simp only [zz,c2,f6,f7,zy,Int.reduceEq,Int.reduceNeg,Int.reduceEq,Int.reduceNeg];cases h3;exact tz []
   simp only [zz,c2,zy];cases h3;exact tz []
  cases h;exact rt ez
 have e2:=eF c1;refine ss (rg ?_);simp only [zz];refine cd rfl ?_;simp only [zz];refine gi h (fun c5 h=>?_) fun c5 h=>?_
 ·have e8:=eT c5;refine jm h (fun j7=>⟨ds 4 (e_bool j7::ds 98 []),[]⟩) (fun z11 h10=>?_) fun j7 h10 h=>?_
  ·refine rg ?_;simp only [zz];refine gi h10 (fun c6 h10=>?_) fun c6 h10=>?_
   ·simp only [zz,c6];cases h10;exact tz []
   simp only [zz,c6];cases h10;exact tz []
  cases h;exact rt ez
 have e9:=eF c5;refine ss (rg ?_);simp only [zz];refine cd rfl ?_;simp only [zz];refine gi h (fun c8 h=>?_) fun c8 h=>?_
 ·have e12:=eT c8;refine jm h (fun j10=>⟨ds 4 (e_bool j10::ds 98 []),[]⟩) (fun z15 h14=>?_) fun j10 h14 h=>?_
  ·refine rg ?_;simp only [zz];refine gi h14 (fun c9 h14=>?_) fun c9 h14=>?_
   ·simp only [zz,c9];cases h14;exact tz []
   simp only [zz,c9];cases h14;exact tz []
  cases h;exact rt ez
 have e13:=eF c8;refine ss (rg ?_);simp only [zz];refine cd rfl ?_;simp only [zz];refine gi h (fun c11 h=>?_) fun c11 h=>?_
 ·have e16:=eT c11;refine jm h (fun j13=>⟨ds 4 (e_bool j13::ds 98 []),[]⟩) (fun z19 h18=>?_) fun j13 h18 h=>?_
  ·refine rg ?_;simp only [zz];refine gi h18 (fun c12 h18=>?_) fun c12 h18=>?_
   ·simp only [zz,c12];cases h18;exact tz []
   simp only [zz,c12];cases h18;exact tz []
  cases h;exact rt ez
 have e17:=eF c11;refine ss (rg ?_);simp only [zz];refine cd rfl ?_;simp only [zz];refine gi h (fun c14 h=>?_) fun c14 h=>?_
 ·have e20:=eT c14;refine ss (rg ?_);simp only [zz,Int.reduceEq,Int.reduceNeg];cases h;exact rt ez
 have e21:=eF c14;refine ss (rg ?_);simp only [zz];refine cd rfl ?_;simp only [zz];refine gi h (fun c15 h=>?_) fun c15 h=>?_
 ·have e22:=eT c15;refine ss (rg ?_);simp only [zz];cases h;exact rt ez
 have e23:=eF c15;refine jm h (fun j19=>⟨ds 2 (.ref 0 0 0 0::.ref 1 0 0 0::ds 79 (e_bool j19::ds 19 [])),[.live 2 0 [e_GNode t0],.live 6 0 [e_GSignature t1]]⟩) (fun z25 h24=>?_) fun j19 h24 h=>?_
 ·refine ss (rg ?_);simp only [zz];refine cd rfl ?_;simp only [zz];refine gi h24 (fun c16 h24=>?_) fun c16 h24=>?_
  ·have e26:=eT c16;refine sk ?_;simp only [zz,eq_true c16,e26];cases h24;exact tz [ok 0,ok 1]
  have e27:=eF c16;refine ss (rg ?_);simp only [zz];refine cd rfl ?_;simp only [zz];refine gi h24 (fun c17 h24=>?_) fun c17 h24=>?_
  ·have e28:=eT c17;refine sk ?_;simp only [zz,eq_true c17,e28];cases h24;exact tz [ok 0,ok 1]
  have e29:=eF c17;refine ss (rg ?_);simp only [zz];refine cd rfl ?_;simp only [zz];refine gi h24 (fun c18 h24=>?_) fun c18 h24=>?_
  ·have e30:=eT c18;refine sk ?_;simp only [zz,eq_true c18,e30];cases h24;exact tz [ok 0,ok 1]
  have e31:=eF c18;refine rg ?_;simp only [zz];cases h24;exact tz [ok 0,ok 1]
 refine cd rfl ?_;simp only [zz];refine gi h (fun c20 h=>?_) fun c20 h=>?_
 ·refine jm h (fun j23=>⟨ds 4 (e_bool j23::ds 98 []),[]⟩) (fun z33 h32=>?_) fun j23 h32 h=>?_
  ·refine rg ?_;simp only [zz];refine gi h32 (fun c21 h32=>?_) fun c21 h32=>?_
   ·simp only [zz,c21];refine gi h32 (fun c22 h32=>?_) fun c22 h32=>?_
    ·simp only [zz,c21,c22];cases h32;exact tz []
    simp only [zz,c21,c22];cases h32;exact tz []
   simp only [zz,c21];cases h32;exact tz []
  cases h;exact rt ez
 refine sk ?_;simp only [zz,c20];refine ss (rg ?_);simp only [zz];cases h;exact rt ez
end Go.Proofs.Dev
