/-
  Contracts of the functions: each answers as its plain partial function says.
-/
import Derived.Test.YtfanhhhgcabpnaaGreatDoorK
import Derived.Test.YtfanhhhgcabpnaaGreatDoorPB
import Derived.Test.YtfanhhhgcabpnaaGreatDoorW4
set_option linter.all false
set_option maxHeartbeats 1000000
set_option maxRecDepth 10000
namespace Go.Proofs.Dev
open Go Go.Tm
theorem same_SmallHousehold_ok {t0:GHousehold}{r:Bool}(h:same_SmallHousehold t0=some r):Den Tryz.prog 12 [e_GHousehold t0] (e_bool r):=by
 refine dk 6 k12 ?_;simp only [k12,Kf.of,zs,ze];unfold same_SmallHousehold at h;refine ss (rg ?_);(try simp only [zz]);refine ss (rg ?_);(try simp only [zz]);cases h;exact rt ez
theorem law43_awake_ok {r:Bool}(h:law43_awake=some r):Den Tryz.prog 16 [] (e_bool r):=by
 unfold law43_awake at h;obtain rfl:=Option.some.inj h;exact awake_ok
theorem ref43_New_ok {t0:GHousehold}{r:GAccount}(h:ref43_New t0=some r):Den Tryz.prog 19 [e_GHousehold t0] (e_GAccount r):=by
 refine dk 30 k19 ?_;simp only [k19,Kf.of,zs,ze];unfold ref43_New at h;refine ss (rg ?_);(try simp only [zz]);refine ss (rg ?_);(try simp only [zz]);refine ss (ss (rg ?_));(try simp only [zz]);obtain⟨y1,h2,h⟩:=bs h;refine lm h2 (fun q=>⟨.dead::.ref 0 0 0 0::.ref 1 0 0 0::.ref 2 0 0 0::e_i64 q.2::ds 26 [],[.live 4 0 [e_GHousehold t0],.live 8 0 [.agg [e_i64 0,e_i64 0,e_i64 0,.v (.slice none 0 0),.v (.slice none 0 0),.v (.slice none 0 0),e_i64 0,e_i64 0]],.live 8 0 [.agg [e_i64 t0.Id,e_i64 t0.Scope,e_i64 t0.Members,e_s_GFact t0.Facts,.v (.slice none 0 0),.v (.slice none 0 0),e_i64 q.1,e_i64 (-1)]]]⟩) (fun b9=>⟨ds 2 (.ref 0 0 0 0::.ref 1 0 0 0::ds 27 []),[.live 8 0 [.agg [e_i64 0,e_i64 0,e_i64 0,.v (.slice none 0 0),.v (.slice none 0 0),.v (.slice none 0 0),e_i64 0,e_i64 0]],.live 8 0 [.agg [e_i64 t0.Id,e_i64 t0.Scope,e_i64 t0.Members,e_s_GFact t0.Facts,.v (.slice none 0 0),.v (.slice none 0 0),e_i64 b9,e_i64 (-1)]]]⟩) (tz [ok 0,ok 1,ok 2]) ?_ ?_
 ·rintro ⟨s1,s2⟩ z3 h4 h5;simp only [ref43_New_L1]at h4;refine ss (ss (rg ?_));(try simp only [zz]);refine cd rfl ?_;(try simp only [zz]);refine gi h4 (fun c3 h4=>?_) fun c3 h4=>?_
  ·refine sk ?_;(try simp only [zz,c3]);refine jm h4 (fun j6=>⟨.dead::.ref 0 0 0 0::.ref 1 0 0 0::.ref 2 0 0 0::e_i64 s2::ds 26 [],[.live 4 0 [e_GHousehold t0],.live 8 0 [.agg [e_i64 0,e_i64 0,e_i64 0,.v (.slice none 0 0),.v (.slice none 0 0),.v (.slice none 0 0),e_i64 0,e_i64 0]],.live 8 0 [.agg [e_i64 t0.Id,e_i64 t0.Scope,e_i64 t0.Members,e_s_GFact t0.Facts,.v (.slice none 0 0),.v (.slice none 0 0),e_i64 j6,e_i64 (-1)]]]⟩) (fun z7 h6=>?_) fun j6 h6 h4=>?_
   ·refine bk (ss (dy hmix ?_));obtain⟨x4,f9,f10,h6⟩:=bI h6;(try simp only [zz,f9,f10,zy]);refine cd rfl ?_;(try simp only [zz,f9,f10]);refine gi h6 (fun c5 h6=>?_) fun c5 h6=>?_
    ·refine rg ?_;(try simp only [zz,f9,f10]);cases h6;exact tz [ok 0,ok 1,ok 2]
    refine sk ?_;(try simp only [zz,f9,f10,c5]);cases h6;exact tz [ok 0,ok 1,ok 2]
   refine rg ?_;(try simp only [zz]);cases h4;exact tz [ok 0,ok 1,ok 2]
  refine xt ?_;(try simp only [zz,c3]);cases h4;exact tz [ok 1,ok 2]
 rintro b9 rfl;dsimp only at h;(try simp only [zz]);refine ss (rg ?_);(try simp only [zz]);cases h;exact rt ez
theorem same_Postings_ok {t0:List GPosting}{t1:List GPosting}{r:Bool}(h:same_Postings t0 t1=some r):Den Tryz.prog 40 [e_s_GPosting t0,e_s_GPosting t1] (e_bool r):=by
 refine dk 30 k40 ?_;simp only [k40,Kf.of,zs,ze];unfold same_Postings at h;refine ss (rg ?_);(try simp only [zz]);refine ss (ss (rg ?_));(try simp only [zz]);refine cd rfl ?_;(try simp only [zz]);refine gi h (fun c1 h=>?_) fun c1 h=>?_
 ·have e1:=nT c1;refine ss (rg ?_);(try simp only [zz]);cases h;exact rt ez
 have e2:=nD c1;refine sk ?_;(try simp only [zz,c1,e2]);refine ss (ss (rg ?_));(try simp only [zz]);obtain⟨y3,h4,h⟩:=bs h;refine lm h4 (fun s2=>⟨e_s_GPosting t0::e_s_GPosting t1::ds 3 (e_i64 s2::ds 26 []),[]⟩) (fun q=>⟨ds 32 [],[]⟩) (tz []) ?_ ?_
 ·rintro s2 z5 h6 h7;simp only [same_Postings_L1]at h6;refine ss ?_;refine jm h6 (fun j4=>⟨e_s_GPosting t0::e_s_GPosting t1::ds 3 (e_i64 s2::ds 14 (e_bool j4::ds 11 [])),[]⟩) (fun z9 h8=>?_) fun j4 h8 h6=>?_
  ·refine rg ?_;(try simp only [zz]);refine gi h8 (fun c3 h8=>?_) fun c3 h8=>?_
   ·(try simp only [zz,c3]);cases h8;exact tz []
   (try simp only [zz,c3]);cases h8;exact tz []
  refine cd rfl ?_;(try simp only [zz]);refine gi h6 (fun c5 h6=>?_) fun c5 h6=>?_
  ·refine sk ?_;(try simp only [zz,c5]);refine ss (bk (ss (dy hmix ?_)));obtain⟨x6,f11,f12,h6⟩:=bI h6;obtain⟨x7,f14,f15,h6⟩:=bI h6;(try simp only [zz,f11,f12,f14,f15,zy]);refine cd rfl ?_;(try simp only [zz,f11,f12,f14,f15]);refine gP.ite h6 (by rw [Bool.eq_false_iff];simp only [ne_eq,Bool.and_eq_true,beq_iff_eq,decide_eq_true_eq]) (fun c8 h6=>?_) fun c8 h6=>?_
   ·refine ss (rg ?_);(try simp only [zz]);cases h6;cases h7 _ rfl;cases h;exact rt ez
   refine sk ?_;(try simp only [zz,f11,f12,f14,f15,c8]);refine rg ?_;(try simp only [zz]);cases h6;exact tz []
  refine xt ?_;(try simp only [zz,c5]);cases h6;exact tz []
 rintro ⟨⟩ rfl;dsimp only at h;(try simp only [zz]);refine ss (rg ?_);(try simp only [zz]);cases h;exact rt ez
theorem same_Appeals_ok {t0:List GAppeal}{t1:List GAppeal}{r:Bool}(h:same_Appeals t0 t1=some r):Den Tryz.prog 42 [e_s_GAppeal t0,e_s_GAppeal t1] (e_bool r):=by
 refine dk 30 k42 ?_;simp only [k42,Kf.of,zs,ze];unfold same_Appeals at h;refine ss (rg ?_);(try simp only [zz]);refine ss (ss (rg ?_));(try simp only [zz]);refine cd rfl ?_;(try simp only [zz]);refine gi h (fun c1 h=>?_) fun c1 h=>?_
 ·have e1:=nT c1;refine ss (rg ?_);(try simp only [zz]);cases h;exact rt ez
 have e2:=nD c1;refine sk ?_;(try simp only [zz,c1,e2]);refine ss (ss (rg ?_));(try simp only [zz]);obtain⟨y3,h4,h⟩:=bs h;refine lm h4 (fun s2=>⟨e_s_GAppeal t0::e_s_GAppeal t1::ds 3 (e_i64 s2::ds 26 []),[]⟩) (fun q=>⟨ds 32 [],[]⟩) (tz []) ?_ ?_
 ·rintro s2 z5 h6 h7;simp only [same_Appeals_L1]at h6;refine ss ?_;refine jm h6 (fun j4=>⟨e_s_GAppeal t0::e_s_GAppeal t1::ds 3 (e_i64 s2::ds 14 (e_bool j4::ds 11 [])),[]⟩) (fun z9 h8=>?_) fun j4 h8 h6=>?_
  ·refine rg ?_;(try simp only [zz]);refine gi h8 (fun c3 h8=>?_) fun c3 h8=>?_
   ·(try simp only [zz,c3]);cases h8;exact tz []
   (try simp only [zz,c3]);cases h8;exact tz []
  refine cd rfl ?_;(try simp only [zz]);refine gi h6 (fun c5 h6=>?_) fun c5 h6=>?_
  ·refine sk ?_;(try simp only [zz,c5]);refine ss (bk (ss (dy hmix ?_)));obtain⟨x6,f11,f12,h6⟩:=bI h6;obtain⟨x7,f14,f15,h6⟩:=bI h6;(try simp only [zz,f11,f12,f14,f15,zy]);refine cd rfl ?_;(try simp only [zz,f11,f12,f14,f15]);refine gP.ite h6 (by rw [Bool.eq_false_iff];simp only [ne_eq,Bool.and_eq_true,beq_iff_eq,decide_eq_true_eq]) (fun c8 h6=>?_) fun c8 h6=>?_
   ·refine ss (rg ?_);(try simp only [zz]);cases h6;cases h7 _ rfl;cases h;exact rt ez
   refine sk ?_;(try simp only [zz,f11,f12,f14,f15,c8]);refine rg ?_;(try simp only [zz]);cases h6;exact tz []
  refine xt ?_;(try simp only [zz,c5]);cases h6;exact tz []
 rintro ⟨⟩ rfl;dsimp only at h;(try simp only [zz]);refine ss (rg ?_);(try simp only [zz]);cases h;exact rt ez
theorem slices_Clone_api_Fact_api_Fact_ok {t0 r:List GFact}(h:slices_Clone_api_Fact_api_Fact t0=some r):Den Tryz.prog 43 [e_s_GFact t0] (e_s_GFact r):=by
 unfold slices_Clone_api_Fact_api_Fact at h;split at h
 ·rename_i hl;obtain rfl:=Option.some.inj h;refine dk 7 k43 ?_;simp only [k43,Kf.of,zs,ze];refine T.seqS ?_;refine T.rg ?_;simp only [zx,ze];refine T.seqS ?_;refine T.seqS ?_;refine T.nileq (i:=0) (S:=9) (l:=t0.map e_GFact) rfl (Fr.l _) (by simp) (by decide) (by decide) (by decide) ?_;intro b hb;have happ:app 72 ([]:List GFact) t0=some t0:=by unfold app;rw [if_pos (by simp;omega)];simp
  cases b with
  |true=>
   have hz:t0=[]:=by
    cases t0 with
    |nil=>rfl
    |cons x l=>exact absurd (hb (by simp)) (by simp)
   subst hz;simp only [zx,ze];refine T.cd rfl ?_;refine gP.mk (fun _=>?_) (fun h=>absurd rfl h);refine T.seqS ?_;refine T.rg ?_;simp only [zx,ze];exact T.ret <|EndF_ret' (by simp only [zx,ze,endF_some,ress_nil,ress_tmp,ress_cell];exact fin_q (by simp only [zq,ze]))
  |false=>
   simp only [zx,ze];refine T.cd rfl ?_;refine gP.mk (fun h=>by cases h) (fun _=>?_);refine T.skip ?_;simp only [zx,ze];refine T.seqS ?_;refine T.rg ?_;obtain⟨f1,f2⟩:=app_f (e:=e_GFact) happ;(try simp only [zx,ze]at f1 f2);simp only [zx,ze,f1,f2];exact T.ret <|EndF_ret' (by simp only [zx,ze,endF_some,ress_nil,ress_tmp,ress_cell];exact fin_q (by simp only [zq,ze]))
 ·cases h
theorem same_Facts_ok {t0:List GFact}{t1:List GFact}{r:Bool}(h:same_Facts t0 t1=some r):Den Tryz.prog 93 [e_s_GFact t0,e_s_GFact t1] (e_bool r):=by
 refine dk 30 k93 ?_;simp only [k93,Kf.of,zs,ze];unfold same_Facts at h;refine ss (rg ?_);(try simp only [zz]);refine ss (ss (rg ?_));(try simp only [zz]);refine cd rfl ?_;(try simp only [zz]);refine gi h (fun c1 h=>?_) fun c1 h=>?_
 ·have e1:=nT c1;refine ss (rg ?_);(try simp only [zz]);cases h;exact rt ez
 have e2:=nD c1;refine sk ?_;(try simp only [zz,c1,e2]);refine ss (ss (rg ?_));(try simp only [zz]);obtain⟨y3,h4,h⟩:=bs h;refine lm h4 (fun s2=>⟨e_s_GFact t0::e_s_GFact t1::ds 3 (e_i64 s2::ds 26 []),[]⟩) (fun q=>⟨ds 32 [],[]⟩) (tz []) ?_ ?_
 ·rintro s2 z5 h6 h7;simp only [same_Facts_L1]at h6;refine ss ?_;refine jm h6 (fun j4=>⟨e_s_GFact t0::e_s_GFact t1::ds 3 (e_i64 s2::ds 14 (e_bool j4::ds 11 [])),[]⟩) (fun z9 h8=>?_) fun j4 h8 h6=>?_
  ·refine rg ?_;(try simp only [zz]);refine gi h8 (fun c3 h8=>?_) fun c3 h8=>?_
   ·(try simp only [zz,c3]);cases h8;exact tz []
   (try simp only [zz,c3]);cases h8;exact tz []
  refine cd rfl ?_;(try simp only [zz]);refine gi h6 (fun c5 h6=>?_) fun c5 h6=>?_
  ·refine sk ?_;(try simp only [zz,c5]);refine ss (bk (ss (dy hmix ?_)));obtain⟨x6,f11,f12,h6⟩:=bI h6;obtain⟨x7,f14,f15,h6⟩:=bI h6;(try simp only [zz,f11,f12,f14,f15,zy]);refine cd rfl ?_;(try simp only [zz,f11,f12,f14,f15]);refine gP.ite h6 (by rw [Bool.eq_false_iff];simp only [ne_eq,Bool.and_eq_true,beq_iff_eq,decide_eq_true_eq]) (fun c8 h6=>?_) fun c8 h6=>?_
   ·refine ss (rg ?_);(try simp only [zz]);cases h6;cases h7 _ rfl;cases h;exact rt ez
   refine sk ?_;(try simp only [zz,f11,f12,f14,f15,c8]);refine rg ?_;(try simp only [zz]);cases h6;exact tz []
  refine xt ?_;(try simp only [zz,c5]);cases h6;exact tz []
 rintro ⟨⟩ rfl;dsimp only at h;(try simp only [zz]);refine ss (rg ?_);(try simp only [zz]);cases h;exact rt ez
theorem account_New_ok {t0:GHousehold}{r:GAccount}(h:account_New t0=some r):Den Tryz.prog 18 [e_GHousehold t0] (e_GAccount r):=by
 refine dk 26 k18 ?_;simp only [k18,Kf.of,zs,ze];unfold account_New at h;refine ss (rg ?_);(try simp only [zz]);refine ss (rg ?_);obtain⟨x1,a1,h⟩:=bs h;simp only [zz];refine cq (slices_Clone_api_Fact_api_Fact_ok a1) ?_ (by simp only [zg]);(try simp only [zz]);refine ss (rg ?_);(try simp only [zz]);refine ss (ss (rg ?_));(try simp only [zz]);obtain⟨y2,h3,h⟩:=bs h;refine lm h3 (fun q=>⟨ds 2 (.ref 0 0 0 0::.ref 1 0 0 0::ds 9 (e_s_GFact x1::e_i64 (x1.length:Int)::e_i64 q.2::ds 11 [])),[.live 8 0 [.agg [e_i64 0,e_i64 0,e_i64 0,.v (.slice none 0 0),.v (.slice none 0 0),.v (.slice none 0 0),e_i64 0,e_i64 0]],.live 8 0 [.agg [e_i64 t0.Id,e_i64 t0.Scope,e_i64 t0.Members,e_s_GFact x1,.v (.slice none 0 0),.v (.slice none 0 0),e_i64 q.1,e_i64 (-1)]]]⟩) (fun b8=>⟨ds 2 (.ref 0 0 0 0::.ref 1 0 0 0::ds 23 []),[.live 8 0 [.agg [e_i64 0,e_i64 0,e_i64 0,.v (.slice none 0 0),.v (.slice none 0 0),.v (.slice none 0 0),e_i64 0,e_i64 0]],.live 8 0 [.agg [e_i64 t0.Id,e_i64 t0.Scope,e_i64 t0.Members,e_s_GFact x1,.v (.slice none 0 0),.v (.slice none 0 0),e_i64 b8,e_i64 (-1)]]]⟩) (tz [ok 1,ok 2]) ?_ ?_
 ·rintro ⟨s2,s3⟩ z4 h5 h6;simp only [account_New_L1]at h5;refine ss (rg ?_);(try simp only [zz]);refine ss (cd rfl ?_);(try simp only [zz]);refine gi h5 (fun c4 h5=>?_) fun c4 h5=>?_
  ·refine sk ?_;(try simp only [zz,c4]);refine ss (bk (ss (rg ?_)));obtain⟨x5,f8,f9,h5⟩:=bI h5;(try simp only [zz,f8,f9]);refine rg ?_;(try simp only [zz]);refine rg ?_;(try simp only [zz]);cases h5;exact tz [ok 0,ok 1]
  refine xt ?_;(try simp only [zz,c4]);cases h5;exact tz [ok 0,ok 1]
 rintro b8 rfl;dsimp only at h;(try simp only [zz]);refine ss (rg ?_);(try simp only [zz]);cases h;exact rt ez
theorem same_Household_ok {t0:GHousehold}{t1:GHousehold}{r:Bool}(h:same_Household t0 t1=some r):Den Tryz.prog 41 [e_GHousehold t0,e_GHousehold t1] (e_bool r):=by
 refine dk 29 k41 ?_;simp only [k41,Kf.of,zs,ze];unfold same_Household at h;refine ss (rg ?_);(try simp only [zz]);refine jm h (fun j5=>⟨ds 4 (e_bool j5::ds 26 []),[]⟩) (fun z2 h1=>?_) fun j5 h1 h=>?_
 ·refine rg ?_;(try simp only [zz]);refine gi h1 (fun c1 h1=>?_) fun c1 h1=>?_
  ·have e3:=eT c1;(try simp only [zz,eq_true c1,e3]);refine gi h1 (fun c2 h1=>?_) fun c2 h1=>?_
   ·have e5:=eT c2;(try simp only [zz,eq_true c1,e3,eq_true c2,e5]);refine gi h1 (fun c3 h1=>?_) fun c3 h1=>?_
    ·have e7:=eT c3;obtain⟨x4,a9,h1⟩:=bs h1;simp only [zz,eq_true c1,e3,eq_true c2,e5,eq_true c3,e7];refine cq (same_Facts_ok a9) ?_ (by simp only [zg,e3,e5,e7]);(try simp only [zz,eq_true c1,e3,eq_true c2,e5,eq_true c3,e7]);cases h1;exact tz []
    have e8:=eF c3;(try simp only [zz,eq_true c1,e3,eq_true c2,e5,c3,e8]);cases h1;exact tz []
   have e6:=eF c2;(try simp only [zz,eq_true c1,e3,c2,e6]);cases h1;exact tz []
  have e4:=eF c1;(try simp only [zz,c1,e4]);cases h1;exact tz []
 cases h;exact rt ez
theorem same_Account_ok {t0:GAccount}{t1:GAccount}{r:Bool}(h:same_Account t0 t1=some r):Den Tryz.prog 17 [e_GAccount t0,e_GAccount t1] (e_bool r):=by
 refine dk 36 k17 ?_;simp only [k17,Kf.of,zs,ze];unfold same_Account at h;refine ss (rg ?_);(try simp only [zz]);refine jm h (fun j8=>⟨ds 4 (e_bool j8::ds 33 []),[]⟩) (fun z2 h1=>?_) fun j8 h1 h=>?_
 ·refine rg ?_;obtain⟨x1,a3,h1⟩:=bs h1;simp only [zz];refine cq (same_Household_ok a3) ?_ (by simp only [zg]);(try simp only [zz]);refine gi h1 (fun c2 h1=>?_) fun c2 h1=>?_
  ·obtain⟨x3,a4,h1⟩:=bs h1;simp only [zz,c2];refine cq (same_Postings_ok a4) ?_ (by simp only [zg,c2]);(try simp only [zz,c2]);refine gi h1 (fun c4 h1=>?_) fun c4 h1=>?_
   ·obtain⟨x5,a5,h1⟩:=bs h1;simp only [zz,c2,c4];refine cq (same_Appeals_ok a5) ?_ (by simp only [zg,c2,c4]);(try simp only [zz,c2,c4]);refine gi h1 (fun c6 h1=>?_) fun c6 h1=>?_
    ·(try simp only [zz,c2,c4,c6]);refine gi h1 (fun c7 h1=>?_) fun c7 h1=>?_
     ·have e6:=eT c7;(try simp only [zz,c2,c4,c6,eq_true c7,e6]);cases h1;exact tz []
     have e7:=eF c7;(try simp only [zz,c2,c4,c6,c7,e7]);cases h1;exact tz []
    (try simp only [zz,c2,c4,c6]);cases h1;exact tz []
   (try simp only [zz,c2,c4]);cases h1;exact tz []
  (try simp only [zz,c2]);cases h1;exact tz []
 cases h;exact rt ez
theorem law43_AccountNew_ok {t0:GHousehold}{r:Bool}(h:law43_AccountNew t0=some r):Den Tryz.prog 5 [e_GHousehold t0] (e_bool r):=by
 refine dk 14 k5 ?_;simp only [k5,Kf.of,zs,ze];unfold law43_AccountNew at h;refine ss (rg ?_);(try simp only [zz]);refine ss (ss (rg ?_));obtain⟨x1,a1,h⟩:=bs h;simp only [zz];refine cq (same_SmallHousehold_ok a1) ?_ (by simp only [zg]);(try simp only [zz]);refine cd rfl ?_;(try simp only [zz]);refine gi h (fun c2 h=>?_) fun c2 h=>?_
 ·refine ss (rg ?_);obtain⟨x3,a2,h⟩:=bs h;simp only [zz];refine cq (law43_awake_ok a2) ?_ (by simp only [zg,c2]);(try simp only [zz]);cases h;exact rt ez
 refine sk ?_;(try simp only [zz,c2]);refine jm h (fun j9=>⟨ds 2 (e_bool j9::ds 12 []),[]⟩) (fun z4 h3=>?_) fun j9 h3 h=>?_
 ·refine dy hmix ?_;obtain⟨x4,a5,h3⟩:=bs h3;simp only [zz,zy];refine lq (account_New_ok a5) ?_ (by simp only [zg,c2]);obtain⟨x5,a6,h3⟩:=bs h3;simp only [zz,zy];refine cq (ref43_New_ok a6) ?_ (by simp only [zg,c2]);obtain⟨x6,a7,h3⟩:=bs h3;simp only [zz,zy];refine cq (same_Account_ok a7) ?_ (by simp only [zg,c2]);(try simp only [zz,zy]);refine gi h3 (fun c7 h3=>?_) fun c7 h3=>?_
  ·obtain⟨x8,a8,h3⟩:=bs h3;simp only [zz,c7,zy];refine cq (law43_awake_ok a8) ?_ (by simp only [zg,c2,c7]);(try simp only [zz,c7,zy]);cases h3;exact tz []
  (try simp only [zz,c7,zy]);cases h3;exact tz []
 cases h;exact rt ez
end Go.Proofs.Dev
