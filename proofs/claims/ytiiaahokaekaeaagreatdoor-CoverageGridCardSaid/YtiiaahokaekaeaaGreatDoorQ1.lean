/-
  Contracts of the functions: each answers as its plain partial function says.
-/
import Derived.Test.YtiiaahokaekaeaaGreatDoorK
import Derived.Test.YtiiaahokaekaeaaGreatDoorPC
import Derived.Test.YtiiaahokaekaeaaGreatDoorQ0
set_option linter.all false
set_option maxHeartbeats 1000000
set_option maxRecDepth 10000
namespace Go.Proofs.Dev
open Go Go.Tm
theorem slices_Index_string_string_ok {t0:List ByteArray}{t1:ByteArray}{r:Int}(h:slices_Index_string_string t0 t1=some r):Den Tryz.prog 207 [e_s_str t0,e_str t1] (e_i64 r):=by
 refine dk 17 k207 ?_;simp only [k207,Kf.of,zs,ze];unfold slices_Index_string_string at h;refine ss (rg ?_);simp only [zz];refine ss (ss (rg ?_));simp only [zz];obtain⟨y1,h2,h⟩:=bs h;refine lm h2 (fun s1=>⟨e_s_str t0::.v (.string t1)::ds 5 (e_i64 (t0.length:Int)::e_i64 s1::ds 10 []),[]⟩) (fun q=>⟨ds 19 [],[]⟩) (tz []) ?_ ?_
 ·rintro s1 z3 h4 h5;simp only [slices_Index_string_string_L1]at h4;refine ss (rg ?_);simp only [zz];refine ss (cd rfl ?_);simp only [zz];refine gi h4 (fun c2 h4=>?_) fun c2 h4=>?_
  ·refine sk ?_;simp only [zz,c2];refine ss (bk (ss (rg ?_)));simp only [zz];refine ss (rg ?_);obtain⟨x3,f7,f8,h4⟩:=bI h4;simp only [zz,f7,f8];refine cd rfl ?_;simp only [zz,f7,f8];refine gi h4 (fun c4 h4=>?_) fun c4 h4=>?_
   ·refine ss (rg ?_);simp only [zz];cases h4;cases h5 _ rfl;cases h;exact rt ez
   refine sk ?_;simp only [zz,f7,f8,c4];refine rg ?_;simp only [zz];cases h4;exact tz []
  refine xt ?_;simp only [zz,c2];cases h4;exact tz []
 rintro ⟨⟩ rfl;dsimp only at h;simp only [zz];refine ss (rg ?_);simp only [zz];cases h;exact rt ez
theorem lexer_isDigit_ok {t0:Int}{r:Bool}(h:lexer_isDigit t0=some r):Den Tryz.prog 209 [e_u8 t0] (e_bool r):=by
 refine dk 8 k209 ?_;simp only [k209,Kf.of,zs,ze];unfold lexer_isDigit at h;refine ss (rg ?_);simp only [zz];refine jm h (fun j2=>⟨ds 2 (e_bool j2::ds 6 []),[]⟩) (fun z2 h1=>?_) fun j2 h1 h=>?_
 ·refine rg ?_;simp only [zz];refine gi h1 (fun c1 h1=>?_) fun c1 h1=>?_
  ·simp only [zz,c1];cases h1;exact tz []
  simp only [zz,c1];cases h1;exact tz []
 cases h;exact rt ez
theorem slices_IndexFunc_api_Enum_api_Enum_ok {t0:List GEnum}{t1:(GEnum→Option Bool)}{k1:Nat}{q1:List D}(hc1:idfrees q1=true) (hp1:∀x0 r,t1 x0=some r→Den Tryz.prog k1 ([e_GEnum x0]++q1) (e_bool r)) {r:Int}(h:slices_IndexFunc_api_Enum_api_Enum t0 t1=some r):Den Tryz.prog 210 [e_s_GEnum t0,.fn k1 [] q1] (e_i64 r):=by
 refine Den.at 17 k210.ok k210.nm (frC (frF hc1 frN)) rfl ?_;simp only [k210,Kf.of,zs,ze];unfold slices_IndexFunc_api_Enum_api_Enum at h;refine ss (rg ?_);(try simp only [zz]);refine ss (ss (rg ?_));(try simp only [zz]);obtain⟨y1,h2,h⟩:=bs h;refine lm h2 (fun s1=>⟨e_s_GEnum t0::.fn k1 [] q1::ds 5 (e_i64 (t0.length:Int)::e_i64 s1::ds 10 []),[]⟩) (fun q=>⟨ds 19 [],[]⟩) (tz [] (by simp only [zg,sqS_same hc1])) ?_ ?_
 ·rintro s1 z3 h4 h5;simp only [slices_IndexFunc_api_Enum_api_Enum_L1]at h4;refine ss (rg ?_);(try simp only [zz]);refine ss (cd rfl ?_);(try simp only [zz]);refine gi h4 (fun c2 h4=>?_) fun c2 h4=>?_
  ·refine sk ?_;(try simp only [zz,c2]);refine ss (bk (ss (rg ?_)));(try simp only [zz]);refine ss (rg ?_);obtain⟨x3,f7,f8,h4⟩:=bI h4;obtain⟨x4,a9,h4⟩:=bs h4;simp only [zz,f7,f8];refine callX_c1 (hp1 _ _ a9) hc1 ?_ (by simp only [zg,sqS_same hc1]);(try simp only [zz,f7,f8]);refine cd rfl ?_;(try simp only [zz,f7,f8]);refine gi h4 (fun c5 h4=>?_) fun c5 h4=>?_
   ·refine ss (rg ?_);(try simp only [zz]);cases h4;cases h5 _ rfl;cases h;exact rt (er (by simp only [zz,zr];exact fq (by simp only [zg,sqS_same hc1,c5])))
   refine sk ?_;(try simp only [zz,f7,f8,c5]);refine rg ?_;(try simp only [zz]);cases h4;exact tz [] (by simp only [zg,sqS_same hc1,c5])
  refine xt ?_;(try simp only [zz,c2]);cases h4;exact tz [] (by simp only [zg,sqS_same hc1])
 rintro ⟨⟩ rfl;dsimp only at h;(try simp only [zz]);refine ss (rg ?_);(try simp only [zz]);cases h;exact rt (er (by simp only [zz,zr];exact fq (by simp only [zg,sqS_same hc1])))
theorem slices_IndexFunc_api_Table_api_Table_ok {t0:List GTable}{t1:(GTable→Option Bool)}{k1:Nat}{q1:List D}(hc1:idfrees q1=true) (hp1:∀x0 r,t1 x0=some r→Den Tryz.prog k1 ([e_GTable x0]++q1) (e_bool r)) {r:Int}(h:slices_IndexFunc_api_Table_api_Table t0 t1=some r):Den Tryz.prog 211 [e_s_GTable t0,.fn k1 [] q1] (e_i64 r):=by
 refine Den.at 17 k211.ok k211.nm (frC (frF hc1 frN)) rfl ?_;simp only [k211,Kf.of,zs,ze];unfold slices_IndexFunc_api_Table_api_Table at h;refine ss (rg ?_);(try simp only [zz]);refine ss (ss (rg ?_));(try simp only [zz]);obtain⟨y1,h2,h⟩:=bs h;refine lm h2 (fun s1=>⟨e_s_GTable t0::.fn k1 [] q1::ds 5 (e_i64 (t0.length:Int)::e_i64 s1::ds 10 []),[]⟩) (fun q=>⟨ds 19 [],[]⟩) (tz [] (by simp only [zg,sqS_same hc1])) ?_ ?_
 ·rintro s1 z3 h4 h5;simp only [slices_IndexFunc_api_Table_api_Table_L1]at h4;refine ss (rg ?_);(try simp only [zz]);refine ss (cd rfl ?_);(try simp only [zz]);refine gi h4 (fun c2 h4=>?_) fun c2 h4=>?_
  ·refine sk ?_;(try simp only [zz,c2]);refine ss (bk (ss (rg ?_)));(try simp only [zz]);refine ss (rg ?_);obtain⟨x3,f7,f8,h4⟩:=bI h4;obtain⟨x4,a9,h4⟩:=bs h4;simp only [zz,f7,f8];refine callX_c1 (hp1 _ _ a9) hc1 ?_ (by simp only [zg,sqS_same hc1]);(try simp only [zz,f7,f8]);refine cd rfl ?_;(try simp only [zz,f7,f8]);refine gi h4 (fun c5 h4=>?_) fun c5 h4=>?_
   ·refine ss (rg ?_);(try simp only [zz]);cases h4;cases h5 _ rfl;cases h;exact rt (er (by simp only [zz,zr];exact fq (by simp only [zg,sqS_same hc1,c5])))
   refine sk ?_;(try simp only [zz,f7,f8,c5]);refine rg ?_;(try simp only [zz]);cases h4;exact tz [] (by simp only [zg,sqS_same hc1,c5])
  refine xt ?_;(try simp only [zz,c2]);cases h4;exact tz [] (by simp only [zg,sqS_same hc1])
 rintro ⟨⟩ rfl;dsimp only at h;(try simp only [zz]);refine ss (rg ?_);(try simp only [zz]);cases h;exact rt (er (by simp only [zz,zr];exact fq (by simp only [zg,sqS_same hc1])))
theorem slices_IndexFunc_api_Scope_api_Scope_ok {t0:List GScope}{t1:(GScope→Option Bool)}{k1:Nat}{q1:List D}(hc1:idfrees q1=true) (hp1:∀x0 r,t1 x0=some r→Den Tryz.prog k1 ([e_GScope x0]++q1) (e_bool r)) {r:Int}(h:slices_IndexFunc_api_Scope_api_Scope t0 t1=some r):Den Tryz.prog 212 [e_s_GScope t0,.fn k1 [] q1] (e_i64 r):=by
 refine Den.at 17 k212.ok k212.nm (frC (frF hc1 frN)) rfl ?_;simp only [k212,Kf.of,zs,ze];unfold slices_IndexFunc_api_Scope_api_Scope at h;refine ss (rg ?_);(try simp only [zz]);refine ss (ss (rg ?_));(try simp only [zz]);obtain⟨y1,h2,h⟩:=bs h;refine lm h2 (fun s1=>⟨e_s_GScope t0::.fn k1 [] q1::ds 5 (e_i64 (t0.length:Int)::e_i64 s1::ds 10 []),[]⟩) (fun q=>⟨ds 19 [],[]⟩) (tz [] (by simp only [zg,sqS_same hc1])) ?_ ?_
 ·rintro s1 z3 h4 h5;simp only [slices_IndexFunc_api_Scope_api_Scope_L1]at h4;refine ss (rg ?_);(try simp only [zz]);refine ss (cd rfl ?_);(try simp only [zz]);refine gi h4 (fun c2 h4=>?_) fun c2 h4=>?_
  ·refine sk ?_;(try simp only [zz,c2]);refine ss (bk (ss (rg ?_)));(try simp only [zz]);refine ss (rg ?_);obtain⟨x3,f7,f8,h4⟩:=bI h4;obtain⟨x4,a9,h4⟩:=bs h4;simp only [zz,f7,f8];refine callX_c1 (hp1 _ _ a9) hc1 ?_ (by simp only [zg,sqS_same hc1]);(try simp only [zz,f7,f8]);refine cd rfl ?_;(try simp only [zz,f7,f8]);refine gi h4 (fun c5 h4=>?_) fun c5 h4=>?_
   ·refine ss (rg ?_);(try simp only [zz]);cases h4;cases h5 _ rfl;cases h;exact rt (er (by simp only [zz,zr];exact fq (by simp only [zg,sqS_same hc1,c5])))
   refine sk ?_;(try simp only [zz,f7,f8,c5]);refine rg ?_;(try simp only [zz]);cases h4;exact tz [] (by simp only [zg,sqS_same hc1,c5])
  refine xt ?_;(try simp only [zz,c2]);cases h4;exact tz [] (by simp only [zg,sqS_same hc1])
 rintro ⟨⟩ rfl;dsimp only at h;(try simp only [zz]);refine ss (rg ?_);(try simp only [zz]);cases h;exact rt (er (by simp only [zz,zr];exact fq (by simp only [zg,sqS_same hc1])))
theorem law_checkField_c1_ok {t0:GField}{t1:GField}{r:Bool}(h:law_checkField_c1 t0 t1=some r):Den Tryz.prog 213 [e_GField t0,e_p_GField t1] (e_bool r):=by
 refine dk 7 k213 ?_;simp only [k213,Kf.of,zs,ze];unfold law_checkField_c1 at h;refine ss (rg ?_);simp only [zz];refine ss (rg ?_);simp only [zz];cases h;exact rt ez
theorem law_checkRule_c1_ok {t0:GRule}{t1:GRule}{r:Bool}(h:law_checkRule_c1 t0 t1=some r):Den Tryz.prog 216 [e_GRule t0,e_p_GRule t1] (e_bool r):=by
 refine dk 7 k216 ?_;simp only [k216,Kf.of,zs,ze];unfold law_checkRule_c1 at h;refine ss (rg ?_);simp only [zz];refine ss (rg ?_);simp only [zz];cases h;exact rt ez
theorem slices_Index_int_int_ok {t0:List Int}{t1:Int}{r:Int}(h:slices_Index_int_int t0 t1=some r):Den Tryz.prog 219 [e_s_i64 t0,e_i64 t1] (e_i64 r):=by
 refine dk 17 k219 ?_;simp only [k219,Kf.of,zs,ze];unfold slices_Index_int_int at h;refine ss (rg ?_);simp only [zz];refine ss (ss (rg ?_));simp only [zz];obtain⟨y1,h2,h⟩:=bs h;refine lm h2 (fun s1=>⟨e_s_i64 t0::e_i64 t1::ds 5 (e_i64 (t0.length:Int)::e_i64 s1::ds 10 []),[]⟩) (fun q=>⟨ds 19 [],[]⟩) (tz []) ?_ ?_
 ·rintro s1 z3 h4 h5;simp only [slices_Index_int_int_L1]at h4;refine ss (rg ?_);simp only [zz];refine ss (cd rfl ?_);simp only [zz];refine gi h4 (fun c2 h4=>?_) fun c2 h4=>?_
  ·refine sk ?_;simp only [zz,c2];refine ss (bk (ss (rg ?_)));simp only [zz];refine ss (rg ?_);obtain⟨x3,f7,f8,h4⟩:=bI h4;simp only [zz,f7,f8];refine cd rfl ?_;simp only [zz,f7,f8];refine gi h4 (fun c4 h4=>?_) fun c4 h4=>?_
   ·have e9:=eT c4;refine ss (rg ?_);simp only [zz];cases h4;cases h5 _ rfl;cases h;exact rt ez
   have e10:=eF c4;refine sk ?_;simp only [zz,f7,f8,c4,e10];refine rg ?_;simp only [zz];cases h4;exact tz []
  refine xt ?_;simp only [zz,c2];cases h4;exact tz []
 rintro ⟨⟩ rfl;dsimp only at h;simp only [zz];refine ss (rg ?_);simp only [zz];cases h;exact rt ez
theorem deps_reachedP_ok {t0:(List (List Int))}{t1:Int}{r:List Int}(h:deps_reachedP t0 t1=some r):Den Tryz.prog 220 [e_s_s_i64 t0,e_i64 t1] (e_s_i64 r):=by
 refine dk 60 k220 ?_;simp only [k220,Kf.of,zs,ze];unfold deps_reachedP at h;refine ss (rg ?_);(try simp only [zz]);refine ss (rg ?_);obtain⟨x1,a1,h⟩:=bs h;obtain⟨f2,f3,f4,f5,f6⟩:=mks_f (e:=e_bool) a1;(try simp only [zz]at f5 f6);(try simp only [zz,f2,f3,f4,f5,f6]);refine ss (rg ?_);(try simp only [zz]);refine ss ?_;obtain⟨y7,h8,h⟩:=bs h;refine lc (fun(q:((List Bool)×(List Int)))=>⟨e_s_s_i64 t0::ds 4 (.own 0 0::.own 1 0::ds 55 []),[.live 1 0 (q.1.map e_bool),.live 1 0 (q.2.map e_i64)]⟩) (fun(b26:List Bool)=>⟨ds 5 (.own 0 0::ds 56 []),[.live 1 0 (b26.map e_bool)]⟩) _ _ h8 (tq [ok 0,ok 1] (by simp only [zg])) ?_ ?_
 ·rintro ⟨s2,s3⟩ z9 h10 h11;simp only [deps_reachedP_L7]at h10;refine ss (ss (rg ?_));(try simp only [zz]);refine cd rfl ?_;(try simp only [zz]);refine gi h10 (fun c4 h10=>?_) fun c4 h10=>?_
  ·refine sk ?_;(try simp only [zz,c4]);refine bk (ss (rg ?_));obtain⟨x5,a12,h10⟩:=bs h10;obtain⟨f13,f14,f15⟩:=idx_o a12;(try simp only [zz,f13,f14,f15]);refine ss (rg ?_);obtain⟨x6,a16,h10⟩:=bs h10;obtain⟨f17,f18,f19⟩:=front_f (e:=e_i64) a16;(try simp only [zz]at f19);(try simp only [zz,f17,f18,f19]);refine ss (rg ?_);obtain⟨x7,a20,h10⟩:=bs h10;obtain⟨f21,f22⟩:=idx_f a20;(try simp only [zz,f21,f22]);obtain⟨y23,h24,h10⟩:=bs h10;refine lc (fun(q:((List Bool)×(List Int)×Int))=>⟨e_s_s_i64 t0::ds 4 (.own 0 0::.own 1 0::ds 22 (e_s_i64 x7::e_i64 (x7.length:Int)::e_i64 q.2.2::ds 30 [])),[.live 1 0 (q.1.map e_bool),.live 1 0 (q.2.1.map e_i64)]⟩) (fun(q:((List Bool)×(List Int)))=>⟨e_s_s_i64 t0::ds 4 (.own 0 0::.own 1 0::ds 55 []),[.live 1 0 (q.1.map e_bool),.live 1 0 (q.2.map e_i64)]⟩) _ _ h24 (tq [ok 0,ov 1 1] (by simp only [zg])) ?_ ?_
   ·rintro ⟨s8,s9,s10⟩ z25 h26 h27;simp only [deps_reachedP_L4]at h26;refine ss (rg ?_);(try simp only [zz]);refine ss (cd rfl ?_);(try simp only [zz]);refine gi h26 (fun c11 h26=>?_) fun c11 h26=>?_
    ·refine sk ?_;(try simp only [zz,c11]);refine jn (fun(q:((List Bool)×(List Int)))=>⟨e_s_s_i64 t0::ds 4 (.own 0 0::.own 1 0::ds 22 (e_s_i64 x7::e_i64 (x7.length:Int)::e_i64 s10::ds 30 [])),[.live 1 0 (q.1.map e_bool),.live 1 0 (q.2.map e_i64)]⟩) h26 (fun z29 h28=>?_) fun z29 h28 h26=>?_
     ·refine bk (ss (rg ?_));obtain⟨x12,a30,h28⟩:=bs h28;obtain⟨f31,f32⟩:=idx_f a30;(try simp only [zz,f31,f32]);refine ss (rg ?_);obtain⟨x13,a33,h28⟩:=bs h28;obtain⟨f34,f35,f36⟩:=idx_o a33;(try simp only [zz,f34,f35,f36]);refine cd rfl ?_;(try simp only [zz,f34,f35,f36]);refine gi h28 (fun c14 h28=>?_) fun c14 h28=>?_
      ·refine ss (rg ?_);obtain⟨x15,a37,h28⟩:=bs h28;obtain⟨f38,f39⟩:=put_f (e:=e_bool) a37;(try simp only [zz]at f39);(try simp only [zz,f34,f35,f36,f38,f39]);refine rg ?_;obtain⟨x16,a40,h28⟩:=bs h28;obtain⟨f41,f42⟩:=app_f (e:=e_i64) a40;(try simp only [zz]at f41 f42);(try simp only [zz,f41,f42]);cases h28;exact tq [ok 0,ov 1 1] (by simp only [zg,c14])
      refine sk ?_;(try simp only [zz,f34,f35,f36,c14]);cases h28;exact tq [ok 0,ok 1] (by simp only [zg,c14])
     obtain⟨j17,j18⟩:=z29;dsimp only at h26;refine rg ?_;(try simp only [zz]);cases h26;exact tq [ok 0,ok 1] (by simp only [zg])
    refine xt ?_;(try simp only [zz,c11]);cases h26;exact tq [ok 0,ok 1] (by simp only [zg])
   rintro ⟨b22,b23⟩ rfl;dsimp only at h10;(try simp only [zz]);cases h10;exact tq [ok 0,ok 1] (by simp only [zg])
  refine xt ?_;(try simp only [zz,c4]);cases h10;exact tq [ok 0] (by simp only [zg])
 rintro b26 rfl;dsimp only at h;(try simp only [zz]);refine ss (rg ?_);(try simp only [zz]);refine ss (ss (rg ?_));(try simp only [zz]);obtain⟨y43,h44,h⟩:=bs h;refine lc (fun(q:((List Int)×Int))=>⟨ds 10 (.own 0 0::ds 37 (.own 1 0::e_i64 (b26.length:Int)::e_i64 q.2::ds 11 [])),[.live 1 0 (q.1.map e_i64),.live 1 0 (b26.map e_bool)]⟩) (fun(b36:List Int)=>⟨ds 10 (.own 0 0::ds 51 []),[.live 1 0 (b36.map e_i64)]⟩) _ _ h44 (tq [on 1,ok 0] (by simp only [zg])) ?_ ?_
 ·rintro ⟨s27,s28⟩ z45 h46 h47;simp only [deps_reachedP_L6]at h46;refine ss (rg ?_);(try simp only [zz]);refine ss (cd rfl ?_);(try simp only [zz]);refine gi h46 (fun c29 h46=>?_) fun c29 h46=>?_
  ·refine sk ?_;(try simp only [zz,c29]);refine jn (fun(j33:List Int)=>⟨ds 10 (.own 0 0::ds 37 (.own 1 0::e_i64 (b26.length:Int)::e_i64 s28::ds 11 [])),[.live 1 0 (j33.map e_i64),.live 1 0 (b26.map e_bool)]⟩) h46 (fun z49 h48=>?_) fun j33 h48 h46=>?_
   ·refine bk (ss (rg ?_));obtain⟨x30,a50,h48⟩:=bs h48;obtain⟨f51,f52,f53⟩:=idx_o a50;(try simp only [zz,f51,f52,f53]);refine ss (rg ?_);(try simp only [zz]);refine cd rfl ?_;(try simp only [zz]);refine gi h48 (fun c31 h48=>?_) fun c31 h48=>?_
    ·refine rg ?_;obtain⟨x32,a54,h48⟩:=bs h48;obtain⟨f55,f56⟩:=app_f (e:=e_i64) a54;(try simp only [zz]at f55 f56);(try simp only [zz,f55,f56]);cases h48;exact tq [ov 0 1,ok 1] (by simp only [zg,c31])
    refine sk ?_;(try simp only [zz,c31]);cases h48;exact tq [ok 0,ok 1] (by simp only [zg,c31])
   refine rg ?_;(try simp only [zz]);cases h46;exact tq [ok 0,ok 1] (by simp only [zg])
  refine xt ?_;(try simp only [zz,c29]);cases h46;exact tq [ok 0] (by simp only [zg])
 rintro b36 rfl;dsimp only at h;(try simp only [zz]);refine ss (rg ?_);(try simp only [zz]);cases h;exact rt (er (by simp only [zz,zr];exact fq (by simp only [zg])))
theorem deps_reached_ok {t0:(List (List Int))}{t1:Int}{r:List Int}(h:deps_reached t0 t1=some r):Den Tryz.prog 220 [e_s_s_i64 t0,e_i64 t1] (e_s_i64 r):=deps_reachedP_ok (reached_P h)
theorem expr_isNumber_ok {t0:Int}{r:Bool}(h:expr_isNumber t0=some r):Den Tryz.prog 222 [e_i64 t0] (e_bool r):=by
 refine dk 12 k222 ?_;simp only [k222,Kf.of,zs,ze];unfold expr_isNumber at h;refine ss (rg ?_);simp only [zz];refine jm h (fun j3=>⟨ds 2 (e_bool j3::ds 10 []),[]⟩) (fun z2 h1=>?_) fun j3 h1 h=>?_
 ·refine rg ?_;simp only [zz];refine gi h1 (fun c1 h1=>?_) fun c1 h1=>?_
  ·have e3:=eF c1;simp only [zz,c1,e3];refine gi h1 (fun c2 h1=>?_) fun c2 h1=>?_
   ·have e5:=eF c2;simp only [zz,c1,e3,c2,e5];cases h1;exact tz []
   have e6:=eD c2;simp only [zz,c1,e3,c2,e6];cases h1;exact tz []
  have e4:=eD c1;simp only [zz,c1,e4];cases h1;exact tz []
 cases h;exact rt ez
theorem expr_productType_ok {t0:Int}{t1:Int}{t2:Int}{r:(GType×Bool)}(h:expr_productType t0 t1 t2=some r):Den Tryz.prog 223 [e_i64 t0,e_i64 t1,e_i64 t2] (.tup [e_GType r.1,e_bool r.2]):=by
 refine dk 44 k223 ?_;simp only [k223,Kf.of,zs,ze];unfold expr_productType at h;refine ss (rg ?_);simp only [zz];refine ss (bk (ss (rg ?_)));simp only [zz];refine cd rfl ?_;simp only [zz];refine gi h (fun c1 h=>?_) fun c1 h=>?_
 ·have e1:=eT c1;refine jm h (fun j4=>⟨ds 6 (.ref 0 0 0 0::e_bool j4::ds 39 []),[.live 2 0 [.agg [e_i64 t1,e_i64 0]]]⟩) (fun z4 h3=>?_) fun j4 h3 h=>?_
  ·refine rg ?_;simp only [zz];refine gi h3 (fun c2 h3=>?_) fun c2 h3=>?_
   ·have e5:=eT c2;simp only [zz,eq_true c2,e5];refine gi h3 (fun c3 h3=>?_) fun c3 h3=>?_
    ·have e7:=eF c3;simp only [zz,eq_true c2,e5,c3,e7];cases h3;exact tz [ok 0]
    have e8:=eD c3;simp only [zz,eq_true c2,e5,c3,e8];cases h3;exact tz [ok 0]
   have e6:=eF c2;simp only [zz,c2,e6];cases h3;exact tz [ok 0]
  cases h;exact rt ez
 have e2:=eF c1;refine ss (rg ?_);simp only [zz];refine cd rfl ?_;simp only [zz];refine gi h (fun c5 h=>?_) fun c5 h=>?_
 ·have e9:=eT c5;refine jm h (fun j7=>⟨ds 6 (.ref 0 0 0 0::e_bool j7::ds 39 []),[.live 2 0 [.agg [e_i64 t1,e_i64 0]]]⟩) (fun z12 h11=>?_) fun j7 h11 h=>?_
  ·refine rg ?_;simp only [zz];refine gi h11 (fun c6 h11=>?_) fun c6 h11=>?_
   ·have e13:=eF c6;simp only [zz,c6,e13];cases h11;exact tz [ok 0]
   have e14:=eD c6;simp only [zz,c6,e14];cases h11;exact tz [ok 0]
  cases h;exact rt ez
 have e10:=eF c5;refine jm h (fun j10=>⟨ds 6 (.ref 0 0 0 0::ds 27 (e_bool j10::ds 12 [])),[.live 2 0 [.agg [e_i64 0,e_i64 0]]]⟩) (fun z16 h15=>?_) fun j10 h15 h=>?_
 ·refine rg ?_;simp only [zz];refine gi h15 (fun c8 h15=>?_) fun c8 h15=>?_
  ·have e17:=eT c8;simp only [zz,eq_true c8,e17];refine gi h15 (fun c9 h15=>?_) fun c9 h15=>?_
   ·have e19:=eT c9;simp only [zz,eq_true c8,e17,eq_true c9,e19];cases h15;exact tz [ok 0]
   have e20:=eF c9;simp only [zz,eq_true c8,e17,c9,e20];cases h15;exact tz [ok 0]
  have e18:=eF c8;simp only [zz,c8,e18];cases h15;exact tz [ok 0]
 refine cd rfl ?_;simp only [zz];refine gi h (fun c11 h=>?_) fun c11 h=>?_
 ·refine ss (rg ?_);simp only [zz];cases h;exact rt ez
 refine sk ?_;simp only [zz,c11];refine ss (rg ?_);simp only [zz];cases h;exact rt ez
theorem ref08_digit_ok {t0:Int}{r:Bool}(h:ref08_digit t0=some r):Den Tryz.prog 230 [e_u8 t0] (e_bool r):=by
 refine dk 8 k230 ?_;simp only [k230,Kf.of,zs,ze];unfold ref08_digit at h;refine ss (rg ?_);simp only [zz];refine jm h (fun j2=>⟨ds 2 (e_bool j2::ds 6 []),[]⟩) (fun z2 h1=>?_) fun j2 h1 h=>?_
 ·refine rg ?_;simp only [zz];refine gi h1 (fun c1 h1=>?_) fun c1 h1=>?_
  ·simp only [zz,c1];cases h1;exact tz []
  simp only [zz,c1];cases h1;exact tz []
 cases h;exact rt ez
theorem ref16_is_ok {t0:GScope}{t1:Int}{r:Bool}(h:ref16_is t0 t1=some r):Den Tryz.prog 233 [e_GScope t0,e_i64 t1] (e_bool r):=by
 refine dk 12 k233 ?_;simp only [k233,Kf.of,zs,ze];unfold ref16_is at h;refine ss (rg ?_);simp only [zz];refine jm h (fun j2=>⟨ds 4 (e_bool j2::ds 9 []),[]⟩) (fun z2 h1=>?_) fun j2 h1 h=>?_
 ·refine rg ?_;simp only [zz];refine gi h1 (fun c1 h1=>?_) fun c1 h1=>?_
  ·simp only [zz,c1];cases h1;exact tz []
  simp only [zz,c1];cases h1;exact tz []
 cases h;exact rt ez
theorem ref10_kind_ok {t0:Int}{r:GType}(h:ref10_kind t0=some r):Den Tryz.prog 235 [e_i64 t0] (e_GType r):=by
 refine dk 4 k235 ?_;simp only [k235,Kf.of,zs,ze];unfold ref10_kind at h;refine ss (rg ?_);simp only [zz];refine ss (rg ?_);simp only [zz];cases h;exact rt ez
theorem ref10_number_ok {t0:Int}{r:Bool}(h:ref10_number t0=some r):Den Tryz.prog 237 [e_i64 t0] (e_bool r):=by
 refine dk 12 k237 ?_;simp only [k237,Kf.of,zs,ze];unfold ref10_number at h;refine ss (rg ?_);simp only [zz];refine jm h (fun j3=>⟨ds 2 (e_bool j3::ds 10 []),[]⟩) (fun z2 h1=>?_) fun j3 h1 h=>?_
 ·refine rg ?_;simp only [zz];refine gi h1 (fun c1 h1=>?_) fun c1 h1=>?_
  ·have e3:=eF c1;simp only [zz,c1,e3];refine gi h1 (fun c2 h1=>?_) fun c2 h1=>?_
   ·have e5:=eF c2;simp only [zz,c1,e3,c2,e5];cases h1;exact tz []
   have e6:=eD c2;simp only [zz,c1,e3,c2,e6];cases h1;exact tz []
  have e4:=eD c1;simp only [zz,c1,e4];cases h1;exact tz []
 cases h;exact rt ez
theorem slices_IndexFunc_api_Field_api_Field_ok {t0:List GField}{t1:(GField→Option Bool)}{k1:Nat}{q1:List D}(hc1:idfrees q1=true) (hp1:∀x0 r,t1 x0=some r→Den Tryz.prog k1 ([e_GField x0]++q1) (e_bool r)) {r:Int}(h:slices_IndexFunc_api_Field_api_Field t0 t1=some r):Den Tryz.prog 254 [e_s_GField t0,.fn k1 [] q1] (e_i64 r):=by
 refine Den.at 17 k254.ok k254.nm (frC (frF hc1 frN)) rfl ?_;simp only [k254,Kf.of,zs,ze];unfold slices_IndexFunc_api_Field_api_Field at h;refine ss (rg ?_);(try simp only [zz]);refine ss (ss (rg ?_));(try simp only [zz]);obtain⟨y1,h2,h⟩:=bs h;refine lm h2 (fun s1=>⟨e_s_GField t0::.fn k1 [] q1::ds 5 (e_i64 (t0.length:Int)::e_i64 s1::ds 10 []),[]⟩) (fun q=>⟨ds 19 [],[]⟩) (tz [] (by simp only [zg,sqS_same hc1])) ?_ ?_
 ·rintro s1 z3 h4 h5;simp only [slices_IndexFunc_api_Field_api_Field_L1]at h4;refine ss (rg ?_);(try simp only [zz]);refine ss (cd rfl ?_);(try simp only [zz]);refine gi h4 (fun c2 h4=>?_) fun c2 h4=>?_
  ·refine sk ?_;(try simp only [zz,c2]);refine ss (bk (ss (rg ?_)));(try simp only [zz]);refine ss (rg ?_);obtain⟨x3,f7,f8,h4⟩:=bI h4;obtain⟨x4,a9,h4⟩:=bs h4;simp only [zz,f7,f8];refine callX_c1 (hp1 _ _ a9) hc1 ?_ (by simp only [zg,sqS_same hc1]);(try simp only [zz,f7,f8]);refine cd rfl ?_;(try simp only [zz,f7,f8]);refine gi h4 (fun c5 h4=>?_) fun c5 h4=>?_
   ·refine ss (rg ?_);(try simp only [zz]);cases h4;cases h5 _ rfl;cases h;exact rt (er (by simp only [zz,zr];exact fq (by simp only [zg,sqS_same hc1,c5])))
   refine sk ?_;(try simp only [zz,f7,f8,c5]);refine rg ?_;(try simp only [zz]);cases h4;exact tz [] (by simp only [zg,sqS_same hc1,c5])
  refine xt ?_;(try simp only [zz,c2]);cases h4;exact tz [] (by simp only [zg,sqS_same hc1])
 rintro ⟨⟩ rfl;dsimp only at h;(try simp only [zz]);refine ss (rg ?_);(try simp only [zz]);cases h;exact rt (er (by simp only [zz,zr];exact fq (by simp only [zg,sqS_same hc1])))
theorem slices_IndexFunc_api_Rule_api_Rule_ok {t0:List GRule}{t1:(GRule→Option Bool)}{k1:Nat}{q1:List D}(hc1:idfrees q1=true) (hp1:∀x0 r,t1 x0=some r→Den Tryz.prog k1 ([e_GRule x0]++q1) (e_bool r)) {r:Int}(h:slices_IndexFunc_api_Rule_api_Rule t0 t1=some r):Den Tryz.prog 255 [e_s_GRule t0,.fn k1 [] q1] (e_i64 r):=by
 refine Den.at 17 k255.ok k255.nm (frC (frF hc1 frN)) rfl ?_;simp only [k255,Kf.of,zs,ze];unfold slices_IndexFunc_api_Rule_api_Rule at h;refine ss (rg ?_);(try simp only [zz]);refine ss (ss (rg ?_));(try simp only [zz]);obtain⟨y1,h2,h⟩:=bs h;refine lm h2 (fun s1=>⟨e_s_GRule t0::.fn k1 [] q1::ds 5 (e_i64 (t0.length:Int)::e_i64 s1::ds 10 []),[]⟩) (fun q=>⟨ds 19 [],[]⟩) (tz [] (by simp only [zg,sqS_same hc1])) ?_ ?_
 ·rintro s1 z3 h4 h5;simp only [slices_IndexFunc_api_Rule_api_Rule_L1]at h4;refine ss (rg ?_);(try simp only [zz]);refine ss (cd rfl ?_);(try simp only [zz]);refine gi h4 (fun c2 h4=>?_) fun c2 h4=>?_
  ·refine sk ?_;(try simp only [zz,c2]);refine ss (bk (ss (rg ?_)));(try simp only [zz]);refine ss (rg ?_);obtain⟨x3,f7,f8,h4⟩:=bI h4;obtain⟨x4,a9,h4⟩:=bs h4;simp only [zz,f7,f8];refine callX_c1 (hp1 _ _ a9) hc1 ?_ (by simp only [zg,sqS_same hc1]);(try simp only [zz,f7,f8]);refine cd rfl ?_;(try simp only [zz,f7,f8]);refine gi h4 (fun c5 h4=>?_) fun c5 h4=>?_
   ·refine ss (rg ?_);(try simp only [zz]);cases h4;cases h5 _ rfl;cases h;exact rt (er (by simp only [zz,zr];exact fq (by simp only [zg,sqS_same hc1,c5])))
   refine sk ?_;(try simp only [zz,f7,f8,c5]);refine rg ?_;(try simp only [zz]);cases h4;exact tz [] (by simp only [zg,sqS_same hc1,c5])
  refine xt ?_;(try simp only [zz,c2]);cases h4;exact tz [] (by simp only [zg,sqS_same hc1])
 rintro ⟨⟩ rfl;dsimp only at h;(try simp only [zz]);refine ss (rg ?_);(try simp only [zz]);cases h;exact rt (er (by simp only [zz,zr];exact fq (by simp only [zg,sqS_same hc1])))
theorem ref10_insert_ok {t0:List Int}{t1:Int}{r:List Int}(h:ref10_insert t0 t1=some r):Den Tryz.prog 260 [e_s_i64 t0,e_i64 t1] (e_s_i64 r):=by
 refine dk 46 k260 ?_;simp only [k260,Kf.of,zs,ze];unfold ref10_insert at h;refine ss (rg ?_);simp only [zz];refine ss (rg ?_);simp only [zz];refine ss (rg ?_);simp only [zz];refine ss (ss (rg ?_));simp only [zz];obtain⟨y1,h2,h⟩:=bs h;refine lm h2 (fun q=>⟨e_s_i64 t0::e_i64 t1::ds 3 (.own 0 0::e_bool q.2.1::e_i64 q.2.2::ds 40 []),[.live 1 0 (q.1.map e_i64)]⟩) (fun q=>⟨.dead::e_i64 t1::ds 3 (.own 0 0::e_bool q.2::ds 41 []),[.live 1 0 (q.1.map e_i64)]⟩) (tz [on 1]) ?_ ?_
 ·rintro ⟨s1,s2,s3⟩ z3 h4 h5;simp only [ref10_insert_L1]at h4;refine ss (ss (rg ?_));simp only [zz];refine cd rfl ?_;simp only [zz];refine gi h4 (fun c4 h4=>?_) fun c4 h4=>?_
  ·refine sk ?_;simp only [zz,c4];refine ss (bk ?_);refine jm h4 (fun q=>⟨e_s_i64 t0::e_i64 t1::ds 3 (.own 0 0::e_bool q.2::e_i64 s3::ds 40 []),[.live 1 0 (q.1.map e_i64)]⟩) (fun z7 h6=>?_) fun z7 h6 h4=>?_
   ·refine jm h6 (fun j7=>⟨e_s_i64 t0::e_i64 t1::ds 3 (.own 0 0::e_bool s2::e_i64 s3::ds 15 (e_bool j7::ds 24 [])),[.live 1 0 (s1.map e_i64)]⟩) (fun z9 h8=>?_) fun j7 h8 h6=>?_
    ·refine rg ?_;simp only [zz];refine gi h8 (fun c5 h8=>?_) fun c5 h8=>?_
     ·obtain⟨x6,f11,f12,h8⟩:=bI h8;simp only [zz,c5,f11,f12];cases h8;exact tz [ok 0]
     simp only [zz,c5];cases h8;exact tz [ok 0]
    refine cd rfl ?_;simp only [zz];refine gi h6 (fun c8 h6=>?_) fun c8 h6=>?_
    ·refine jm h6 (fun j12=>⟨e_s_i64 t0::e_i64 t1::ds 3 (.own 0 0::.dead::e_i64 s3::ds 40 []),[.live 1 0 (j12.map e_i64)]⟩) (fun z14 h13=>?_) fun j12 h13 h6=>?_
     ·refine ss (rg ?_);obtain⟨x9,f16,f17,h13⟩:=bI h13;simp only [zz,f16,f17];refine cd rfl ?_;simp only [zz,f16,f17];refine gi h13 (fun c10 h13=>?_) fun c10 h13=>?_
      ·refine rg ?_;obtain⟨x11,a18,h13⟩:=bs h13;obtain⟨f19,f20⟩:=app_f (e:=e_i64) a18;(try simp only [zz]at f19 f20);simp only [zz,f19,f20];cases h13;exact tz [ov 0 1]
      refine sk ?_;simp only [zz,f16,f17,c10];cases h13;exact tz [ok 0]
     refine rg ?_;simp only [zz];cases h6;exact tz [ok 0]
    refine sk ?_;simp only [zz,c8];cases h6;exact tz [ok 0]
   obtain⟨j13,j14⟩:=z7;dsimp only at h4;refine rg ?_;obtain⟨x15,f22,f23,h4⟩:=bI h4;obtain⟨x16,a24,h4⟩:=bs h4;obtain⟨f25,f26⟩:=app_f (e:=e_i64) a24;(try simp only [zz]at f25 f26);simp only [zz,f22,f23,f25,f26];refine rg ?_;simp only [zz];cases h4;exact tz [ov 0 1]
  refine xt ?_;simp only [zz,c4];cases h4;exact tz [ok 0]
 rintro ⟨b20,b21⟩ rfl;dsimp only at h;simp only [zz];refine jm h (fun j24=>⟨ds 5 (.own 0 0::ds 42 []),[.live 1 0 (j24.map e_i64)]⟩) (fun z28 h27=>?_) fun j24 h27 h=>?_
 ·refine ss (rg ?_);simp only [zz];refine cd rfl ?_;simp only [zz];refine gi h27 (fun c22 h27=>?_) fun c22 h27=>?_
  ·refine rg ?_;obtain⟨x23,a29,h27⟩:=bs h27;obtain⟨f30,f31⟩:=app_f (e:=e_i64) a29;(try simp only [zz]at f30 f31);simp only [zz,f30,f31];cases h27;exact tz [ov 0 1]
  refine sk ?_;simp only [zz,c22];cases h27;exact tz [ok 0]
 refine ss (rg ?_);simp only [zz];cases h;exact rt ez
theorem same_SmallLaw_ok {t0:GLaw}{r:Bool}(h:same_SmallLaw t0=some r):Den Tryz.prog 7 [e_GLaw t0] (e_bool r):=by
 refine dk 126 k7 ?_;simp only [k7,Kf.of,zs,ze];unfold same_SmallLaw at h;refine ss (rg ?_);simp only [zz];refine ss ?_;refine jm h (fun j3=>⟨.dead::.ref 0 0 0 0::ds 22 (e_bool j3::ds 102 []),[.live 3 0 [e_GLaw t0]]⟩) (fun z2 h1=>?_) fun j3 h1 h=>?_
 ·refine rg ?_;simp only [zz];refine gi h1 (fun c1 h1=>?_) fun c1 h1=>?_
  ·simp only [zz,c1];refine gi h1 (fun c2 h1=>?_) fun c2 h1=>?_
   ·simp only [zz,c1,c2];cases h1;exact tz [ok 0]
   simp only [zz,c1,c2];cases h1;exact tz [ok 0]
  simp only [zz,c1];cases h1;exact tz [ok 0]
 refine cd rfl ?_;simp only [zz];refine gi h (fun c4 h=>?_) fun c4 h=>?_
 ·refine ss (rg ?_);simp only [zz];cases h;exact rt ez
 refine sk ?_;simp only [zz,c4];refine ss (rg ?_);simp only [zz];refine ss (rg ?_);simp only [zz];refine ss (ss (rg ?_));simp only [zz];obtain⟨y3,h4,h⟩:=bs h;refine lm h4 (fun s5=>⟨.dead::.ref 0 0 0 0::.dead::e_i64 0::e_i64 0::e_i64 s5::ds 121 [],[.live 3 0 [e_GLaw t0]]⟩) (fun q=>⟨.dead::.ref 0 0 0 0::.dead::e_i64 0::e_i64 0::ds 122 [],[.live 3 0 [e_GLaw t0]]⟩) (tz [ok 0]) ?_ ?_
 ·rintro s5 z5 h6 h7;simp only [same_SmallLaw_L13]at h6;refine ss (ss (rg ?_));simp only [zz];refine cd rfl ?_;simp only [zz];refine gi h6 (fun c6 h6=>?_) fun c6 h6=>?_
  ·refine sk ?_;simp only [zz,c6];refine ss (bk (ss ?_));refine jm h6 (fun j9=>⟨.dead::.ref 0 0 0 0::.dead::e_i64 0::e_i64 0::e_i64 s5::ds 43 (e_bool j9::ds 77 []),[.live 3 0 [e_GLaw t0]]⟩) (fun z9 h8=>?_) fun j9 h8 h6=>?_
   ·refine rg ?_;obtain⟨x7,f11,f12,h8⟩:=bI h8;simp only [zz,f11,f12];refine gi h8 (fun c8 h8=>?_) fun c8 h8=>?_
    ·simp only [zz,f11,f12,c8];cases h8;exact tz [ok 0]
    simp only [zz,f11,f12,c8];cases h8;exact tz [ok 0]
   refine cd rfl ?_;simp only [zz];refine gi h6 (fun c10 h6=>?_) fun c10 h6=>?_
   ·refine ss (rg ?_);simp only [zz];cases h6;cases h7 _ rfl;cases h;exact rt ez
   refine sk ?_;simp only [zz,c10];refine ss (rg ?_);simp only [zz];obtain⟨y13,h14,h6⟩:=bs h6;refine lm h14 (fun s11=>⟨.dead::.ref 0 0 0 0::.dead::e_i64 0::e_i64 0::e_i64 s5::e_i64 s11::ds 120 [],[.live 3 0 [e_GLaw t0]]⟩) (fun q=>⟨.dead::.ref 0 0 0 0::.dead::e_i64 0::e_i64 0::e_i64 s5::ds 121 [],[.live 3 0 [e_GLaw t0]]⟩) (tz [ok 0]) ?_ ?_
   ·rintro s11 z15 h16 h17;simp only [same_SmallLaw_L8]at h16;refine ss (ss (rg ?_));obtain⟨x12,f19,f20,h16⟩:=bI h16;simp only [zz,f19,f20];refine cd rfl ?_;simp only [zz,f19,f20];refine gi h16 (fun c13 h16=>?_) fun c13 h16=>?_
    ·refine sk ?_;simp only [zz,f19,f20,c13];refine ss (bk (ss (rg ?_)));obtain⟨x14,f22,f23,h16⟩:=bI h16;simp only [zz,f19,f20,f22,f23];refine cd rfl ?_;simp only [zz,f19,f20,f22,f23];refine gi h16 (fun c15 h16=>?_) fun c15 h16=>?_
     ·refine ss (rg ?_);simp only [zz];cases h16;cases h17 _ rfl;cases h6;cases h7 _ rfl;cases h;exact rt ez
     refine sk ?_;simp only [zz,f19,f20,f22,f23,c15];refine rg ?_;simp only [zz];cases h16;exact tz [ok 0]
    refine xt ?_;simp only [zz,f19,f20,c13];cases h16;exact tz [ok 0]
   rintro ⟨⟩ rfl;dsimp only at h6;simp only [zz];refine rg ?_;simp only [zz];cases h6;exact tz [ok 0]
  refine xt ?_;simp only [zz,c6];cases h6;exact tz [ok 0]
 rintro ⟨⟩ rfl;dsimp only at h;simp only [zz];refine ss (ss (rg ?_));simp only [zz];obtain⟨y24,h25,h⟩:=bs h;refine lm h25 (fun q=>⟨.dead::.ref 0 0 0 0::.dead::e_i64 q.1::e_i64 0::ds 2 (e_i64 q.2::ds 119 []),[.live 3 0 [e_GLaw t0]]⟩) (fun q=>⟨.dead::.ref 0 0 0 0::ds 2 (e_i64 0::ds 122 []),[.live 3 0 [e_GLaw t0]]⟩) (tz [ok 0]) ?_ ?_
 ·rintro ⟨s18,s19⟩ z26 h27 h28;simp only [same_SmallLaw_L12]at h27;refine ss (ss (rg ?_));simp only [zz];refine cd rfl ?_;simp only [zz];refine gi h27 (fun c20 h27=>?_) fun c20 h27=>?_
  ·refine sk ?_;simp only [zz,c20];refine ss (bk (ss (rg ?_)));obtain⟨x21,f30,f31,h27⟩:=bI h27;simp only [zz,f30,f31];refine jm h27 (fun j23=>⟨.dead::.ref 0 0 0 0::.dead::e_i64 (wrapF .i64 (s18+(x21.Rows.length:Int)))::e_i64 0::ds 2 (e_i64 s19::ds 91 (e_bool j23::ds 27 [])),[.live 3 0 [e_GLaw t0]]⟩) (fun z33 h32=>?_) fun j23 h32 h27=>?_
   ·refine rg ?_;simp only [zz,f30,f31];refine gi h32 (fun c22 h32=>?_) fun c22 h32=>?_
    ·simp only [zz,f30,f31,c22];cases h32;exact tz [ok 0]
    simp only [zz,f30,f31,c22];cases h32;exact tz [ok 0]
   refine cd rfl ?_;simp only [zz];refine gi h27 (fun c24 h27=>?_) fun c24 h27=>?_
   ·refine ss (rg ?_);simp only [zz];cases h27;cases h28 _ rfl;cases h;exact rt ez
   refine sk ?_;simp only [zz,c24];refine rg ?_;simp only [zz];cases h27;exact tz [ok 0]
  refine xt ?_;simp only [zz,c20];cases h27;exact tz [ok 0]
 rintro ⟨⟩ rfl;dsimp only at h;simp only [zz];refine ss (ss (rg ?_));simp only [zz];obtain⟨y34,h35,h⟩:=bs h;refine lm h35 (fun q=>⟨.dead::.ref 0 0 0 0::ds 2 (e_i64 q.1::ds 3 (e_i64 q.2::ds 118 [])),[.live 3 0 [e_GLaw t0]]⟩) (fun q=>⟨ds 127 [],[]⟩) (tz [ok 0]) ?_ ?_
 ·rintro ⟨s27,s28⟩ z36 h37 h38;simp only [same_SmallLaw_L11]at h37;refine ss (ss (rg ?_));simp only [zz];refine cd rfl ?_;simp only [zz];refine gi h37 (fun c29 h37=>?_) fun c29 h37=>?_
  ·refine sk ?_;simp only [zz,c29];refine ss (bk (ss (rg ?_)));obtain⟨x30,f40,f41,h37⟩:=bI h37;simp only [zz,f40,f41];refine jm h37 (fun j33=>⟨.dead::.ref 0 0 0 0::ds 2 (e_i64 (wrapF .i64 (s27+(x30.Rules.length:Int)))::ds 3 (e_i64 s28::ds 117 (e_bool j33::[]))),[.live 3 0 [e_GLaw t0]]⟩) (fun z43 h42=>?_) fun j33 h42 h37=>?_
   ·refine rg ?_;simp only [zz];refine gi h42 (fun c31 h42=>?_) fun c31 h42=>?_
    ·obtain⟨x32,a44,h42⟩:=bs h42;simp only [zz,c31,f40,f41];refine cq (same_smallScope_ok a44) ?_ (by simp only [zg,c4]);simp only [zz,c31,f40,f41];cases h42;exact tz [ok 0]
    simp only [zz,c31];cases h42;exact tz [ok 0]
   refine cd rfl ?_;simp only [zz];refine gi h37 (fun c34 h37=>?_) fun c34 h37=>?_
   ·refine ss (rg ?_);simp only [zz];cases h37;cases h38 _ rfl;cases h;exact rt ez
   refine sk ?_;simp only [zz,c34];refine rg ?_;simp only [zz];cases h37;exact tz [ok 0]
  refine xt ?_;simp only [zz,c29];cases h37;exact tz []
 rintro ⟨⟩ rfl;dsimp only at h;simp only [zz];refine ss (rg ?_);simp only [zz];cases h;exact rt ez
theorem same_IntLists_ok {t0:(List (List Int))}{t1:(List (List Int))}{r:Bool}(h:same_IntLists t0 t1=some r):Den Tryz.prog 11 [e_s_s_i64 t0,e_s_s_i64 t1] (e_bool r):=by
 refine dk 31 k11 ?_;simp only [k11,Kf.of,zs,ze];unfold same_IntLists at h;refine ss (rg ?_);simp only [zz];refine ss (ss (rg ?_));simp only [zz];refine cd rfl ?_;simp only [zz];refine gi h (fun c1 h=>?_) fun c1 h=>?_
 ·have e1:=nT c1;refine ss (rg ?_);simp only [zz];cases h;exact rt ez
 have e2:=nD c1;refine sk ?_;simp only [zz,c1,e2];refine ss (ss (rg ?_));simp only [zz];obtain⟨y3,h4,h⟩:=bs h;refine lm h4 (fun s2=>⟨e_s_s_i64 t0::e_s_s_i64 t1::ds 3 (e_i64 s2::ds 27 []),[]⟩) (fun q=>⟨ds 33 [],[]⟩) (tz []) ?_ ?_
 ·rintro s2 z5 h6 h7;simp only [same_IntLists_L1]at h6;refine ss ?_;refine jm h6 (fun j4=>⟨e_s_s_i64 t0::e_s_s_i64 t1::ds 3 (e_i64 s2::ds 14 (e_bool j4::ds 12 [])),[]⟩) (fun z9 h8=>?_) fun j4 h8 h6=>?_
  ·refine rg ?_;simp only [zz];refine gi h8 (fun c3 h8=>?_) fun c3 h8=>?_
   ·simp only [zz,c3];cases h8;exact tz []
   simp only [zz,c3];cases h8;exact tz []
  refine cd rfl ?_;simp only [zz];refine gi h6 (fun c5 h6=>?_) fun c5 h6=>?_
  ·refine sk ?_;simp only [zz,c5];refine ss (bk (ss (dy hmix ?_)));obtain⟨x6,f11,f12,h6⟩:=bI h6;obtain⟨x7,f14,f15,h6⟩:=bI h6;obtain⟨x8,a16,h6⟩:=bs h6;simp only [zz,f11,f12,f14,f15,zy];refine cq (same_Ints_ok a16) ?_ (by simp only [zg,e2,c5]);simp only [zz,f11,f12,f14,f15,zy];refine cd rfl ?_;simp only [zz,f11,f12,f14,f15];refine gi h6 (fun c9 h6=>?_) fun c9 h6=>?_
   ·refine ss (rg ?_);simp only [zz];cases h6;cases h7 _ rfl;cases h;exact rt ez
   refine sk ?_;simp only [zz,f11,f12,f14,f15,c9];refine rg ?_;simp only [zz];cases h6;exact tz []
  refine xt ?_;simp only [zz,c5];cases h6;exact tz []
 rintro ⟨⟩ rfl;dsimp only at h;simp only [zz];refine ss (rg ?_);simp only [zz];cases h;exact rt ez
theorem ref17_Signature_ok {t0:GLaw}{t1:Int}{r:GSignature}(h:ref17_Signature t0 t1=some r):Den Tryz.prog 35 [e_GLaw t0,e_i64 t1] (e_GSignature r):=by
 refine dk 53 k35 ?_;simp only [k35,Kf.of,zs,ze];unfold ref17_Signature at h;refine ss (rg ?_);simp only [zz];refine ss ?_;refine jm h (fun j2=>⟨.dead::e_i64 t1::.ref 0 0 0 0::.dead::.ref 1 0 0 0::ds 10 (e_bool j2::ds 39 []),[.live 3 0 [e_GLaw t0],.live 6 0 [.agg [.v (.slice none 0 0),.v (.slice none 0 0),.v (.slice none 0 0),.v (.slice none 0 0),.v (.slice none 0 0),e_bool false]]]⟩) (fun z2 h1=>?_) fun j2 h1 h=>?_
 ·refine rg ?_;simp only [zz];refine gi h1 (fun c1 h1=>?_) fun c1 h1=>?_
  ·simp only [zz,c1];cases h1;exact tz [ok 0,ok 1]
  simp only [zz,c1];cases h1;exact tz [ok 0,ok 1]
 refine cd rfl ?_;simp only [zz];refine gi h (fun c3 h=>?_) fun c3 h=>?_
 ·refine ss (rg ?_);simp only [zz];cases h;exact rt ez
 refine sk ?_;simp only [zz,c3];refine ss (rg ?_);obtain⟨x4,f4,f5,h⟩:=bI h;simp only [zz,f4,f5];refine ss (dy hmix ?_);obtain⟨x5,a6,h⟩:=bs h;simp only [zz,zy];refine lq (ref17_fieldTypes_ok a6) ?_ (by simp only [zg,c3]);obtain⟨x6,a7,h⟩:=bs h;simp only [zz,zy];refine lq (ref17_fieldTypes_ok a7) ?_ (by simp only [zg,c3]);simp only [zz,zy];refine jm h (fun q=>⟨ds 4 (.ref 0 0 0 0::.dead::.ref 1 0 0 0::ds 48 []),[.live 6 0 [.agg [.v (.slice none 0 0),.v (.slice none 0 0),.v (.slice none 0 0),.v (.slice none 0 0),.v (.slice none 0 0),e_bool false]],.live 6 0 [.agg [e_s_GEnum t0.Enums,e_s_GTable t0.Tables,e_s_GType x5,e_s_GType x6,e_s_GType q.1,e_bool q.2]]]⟩) (fun z9 h8=>?_) fun z9 h8 h=>?_
 ·refine jm h8 (fun j8=>⟨ds 2 (.ref 0 0 0 0::.dead::.ref 1 0 0 0::.ref 2 0 0 0::.ref 3 0 0 0::ds 36 (e_bool j8::ds 11 [])),[.live 3 0 [e_GLaw t0],.live 6 0 [.agg [.v (.slice none 0 0),.v (.slice none 0 0),.v (.slice none 0 0),.v (.slice none 0 0),.v (.slice none 0 0),e_bool false]],.live 5 0 [e_GScope x4],.live 6 0 [.agg [e_s_GEnum t0.Enums,e_s_GTable t0.Tables,e_s_GType x5,e_s_GType x6,.v (.slice none 0 0),e_bool false]]]⟩) (fun z11 h10=>?_) fun j8 h10 h8=>?_
  ·refine rg ?_;simp only [zz];refine gi h10 (fun c7 h10=>?_) fun c7 h10=>?_
   ·simp only [zz,c7];cases h10;exact tz [ok 0,ok 1,ok 2,ok 3]
   simp only [zz,c7];cases h10;exact tz [ok 0,ok 1,ok 2,ok 3]
  refine cd rfl ?_;simp only [zz];refine gi h8 (fun c9 h8=>?_) fun c9 h8=>?_
  ·refine ss (rg ?_);obtain⟨x10,f13,f14,h8⟩:=bI h8;obtain⟨x11,a15,h8⟩:=bs h8;simp only [zz,f13,f14];refine cq (ref17_fieldTypes_ok a15) ?_ (by simp only [zg,c3,c9]);simp only [zz,f13,f14];refine rg ?_;simp only [zz];cases h8;exact tz [ok 1,ok 3]
  refine sk ?_;simp only [zz,c9];cases h8;exact tz [ok 1,ok 3]
 obtain⟨j12,j13⟩:=z9;dsimp only at h;refine ss (rg ?_);simp only [zz];cases h;exact rt ez
theorem law_sharedSignature_ok {t0:GLaw}{t1:Int}{r:GSignature}(h:law_sharedSignature t0 t1=some r):Den Tryz.prog 69 [e_GLaw t0,e_i64 t1] (e_GSignature r):=by
 refine dk 43 k69 ?_;simp only [k69,Kf.of,zs,ze];unfold law_sharedSignature at h;refine ss (rg ?_);simp only [zz];refine ss (rg ?_);obtain⟨x1,f2,f3,h⟩:=bI h;simp only [zz,f2,f3];refine ss (dy hmix ?_);obtain⟨x2,a4,h⟩:=bs h;simp only [zz,zy];refine lq (law_fieldTypes_ok a4) ?_ (by simp only [zg]);obtain⟨x3,a5,h⟩:=bs h;simp only [zz,zy];refine lq (law_fieldTypes_ok a5) ?_ (by simp only [zg]);simp only [zz,zy];refine jm h (fun q=>⟨ds 4 (.ref 0 0 0 0::.dead::.ref 1 0 0 0::ds 38 []),[.live 6 0 [.agg [.v (.slice none 0 0),.v (.slice none 0 0),.v (.slice none 0 0),.v (.slice none 0 0),.v (.slice none 0 0),e_bool false]],.live 6 0 [.agg [e_s_GEnum t0.Enums,e_s_GTable t0.Tables,e_s_GType x2,e_s_GType x3,e_s_GType q.1,e_bool q.2]]]⟩) (fun z7 h6=>?_) fun z7 h6 h=>?_
 ·refine jm h6 (fun j5=>⟨ds 2 (.ref 0 0 0 0::.dead::.ref 1 0 0 0::.ref 2 0 0 0::.ref 3 0 0 0::ds 26 (e_bool j5::ds 11 [])),[.live 3 0 [e_GLaw t0],.live 6 0 [.agg [.v (.slice none 0 0),.v (.slice none 0 0),.v (.slice none 0 0),.v (.slice none 0 0),.v (.slice none 0 0),e_bool false]],.live 5 0 [e_GScope x1],.live 6 0 [.agg [e_s_GEnum t0.Enums,e_s_GTable t0.Tables,e_s_GType x2,e_s_GType x3,.v (.slice none 0 0),e_bool false]]]⟩) (fun z9 h8=>?_) fun j5 h8 h6=>?_
  ·refine rg ?_;simp only [zz];refine gi h8 (fun c4 h8=>?_) fun c4 h8=>?_
   ·simp only [zz,c4];cases h8;exact tz [ok 0,ok 1,ok 2,ok 3]
   simp only [zz,c4];cases h8;exact tz [ok 0,ok 1,ok 2,ok 3]
  refine cd rfl ?_;simp only [zz];refine gi h6 (fun c6 h6=>?_) fun c6 h6=>?_
  ·refine ss (rg ?_);obtain⟨x7,f11,f12,h6⟩:=bI h6;obtain⟨x8,a13,h6⟩:=bs h6;simp only [zz,f11,f12];refine cq (law_fieldTypes_ok a13) ?_ (by simp only [zg,c6]);simp only [zz,f11,f12];refine rg ?_;simp only [zz];cases h6;exact tz [ok 1,ok 3]
  refine sk ?_;simp only [zz,c6];cases h6;exact tz [ok 1,ok 3]
 obtain⟨j9,j10⟩:=z7;dsimp only at h;refine ss (rg ?_);simp only [zz];cases h;exact rt ez
theorem law_cloneEnums_ok {t0:List GEnum}{r:List GEnum}(h:law_cloneEnums t0=some r):Den Tryz.prog 70 [e_s_GEnum t0] (e_s_GEnum r):=by
 refine dk 22 k70 ?_;simp only [k70,Kf.of,zs,ze];unfold law_cloneEnums at h;refine ss (rg ?_);simp only [zz];refine ss (rg ?_);simp only [zz];refine ss (ss (rg ?_));simp only [zz];obtain⟨y1,h2,h⟩:=bs h;refine lm h2 (fun q=>⟨ds 3 (.own 0 0::ds 2 (e_s_GEnum t0::e_i64 (t0.length:Int)::e_i64 q.2::ds 14 [])),[.live 2 0 (q.1.map e_GEnum)]⟩) (fun b9=>⟨ds 3 (.own 0 0::ds 19 []),[.live 2 0 (b9.map e_GEnum)]⟩) (tz [on 2]) ?_ ?_
 ·rintro ⟨s1,s2⟩ z3 h4 h5;simp only [law_cloneEnums_L1]at h4;refine ss (rg ?_);simp only [zz];refine ss (cd rfl ?_);simp only [zz];refine gi h4 (fun c3 h4=>?_) fun c3 h4=>?_
  ·refine sk ?_;simp only [zz,c3];refine ss (bk (ss (rg ?_)));obtain⟨x4,f7,f8,h4⟩:=bI h4;simp only [zz,f7,f8];refine dy hmix ?_;obtain⟨x5,a9,h4⟩:=bs h4;simp only [zz,zy];refine lq (slices_Clone_string_string_ok a9) ?_ (by simp only [zg]);obtain⟨x6,a10,h4⟩:=bs h4;obtain⟨f11,f12⟩:=app_f (e:=e_GEnum) a10;(try simp only [zz]at f11 f12);simp only [zz,f11,f12,zy];refine rg ?_;simp only [zz];cases h4;exact tz [ov 0 1]
  refine xt ?_;simp only [zz,c3];cases h4;exact tz [ok 0]
 rintro b9 rfl;dsimp only at h;simp only [zz];refine ss (rg ?_);simp only [zz];cases h;exact rt ez
theorem law_cloneTables_ok {t0:List GTable}{r:List GTable}(h:law_cloneTables t0=some r):Den Tryz.prog 71 [e_s_GTable t0] (e_s_GTable r):=by
 refine dk 21 k71 ?_;simp only [k71,Kf.of,zs,ze];unfold law_cloneTables at h;refine ss (rg ?_);simp only [zz];refine ss (rg ?_);simp only [zz];refine ss (ss (rg ?_));simp only [zz];obtain⟨y1,h2,h⟩:=bs h;refine lm h2 (fun q=>⟨ds 3 (.own 0 0::ds 2 (e_s_GTable t0::e_i64 (t0.length:Int)::e_i64 q.2::ds 13 [])),[.live 6 0 (q.1.map e_GTable)]⟩) (fun b9=>⟨ds 3 (.own 0 0::ds 18 []),[.live 6 0 (b9.map e_GTable)]⟩) (tz [on 6]) ?_ ?_
 ·rintro ⟨s1,s2⟩ z3 h4 h5;simp only [law_cloneTables_L1]at h4;refine ss (rg ?_);simp only [zz];refine ss (cd rfl ?_);simp only [zz];refine gi h4 (fun c3 h4=>?_) fun c3 h4=>?_
  ·refine sk ?_;simp only [zz,c3];refine ss (bk (ss (rg ?_)));obtain⟨x4,f7,f8,h4⟩:=bI h4;simp only [zz,f7,f8];refine ss (rg ?_);obtain⟨x5,a9,h4⟩:=bs h4;simp only [zz];refine cq (slices_Clone_api_Row_api_Row_ok a9) ?_ (by simp only [zg]);simp only [zz];refine rg ?_;obtain⟨x6,a10,h4⟩:=bs h4;obtain⟨f11,f12⟩:=app_f (e:=e_GTable) a10;(try simp only [zz]at f11 f12);simp only [zz,f11,f12];refine rg ?_;simp only [zz];cases h4;exact tz [ov 0 1]
  refine xt ?_;simp only [zz,c3];cases h4;exact tz [ok 0]
 rintro b9 rfl;dsimp only at h;simp only [zz];refine ss (rg ?_);simp only [zz];cases h;exact rt ez
theorem slices_Contains_api_Node_api_Node_ok {t0:List GNode}{t1:GNode}{r:Bool}(h:slices_Contains_api_Node_api_Node t0 t1=some r):Den Tryz.prog 76 [e_s_GNode t0,e_GNode t1] (e_bool r):=by
 refine dk 7 k76 ?_;simp only [k76,Kf.of,zs,ze];unfold slices_Contains_api_Node_api_Node at h;refine ss (rg ?_);simp only [zz];refine ss (rg ?_);obtain⟨x1,a1,h⟩:=bs h;simp only [zz];refine cq (slices_Index_api_Node_api_Node_ok a1) ?_ (by simp only [zg]);simp only [zz];cases h;exact rt ez
theorem value_Bounds_ok {t0:GType}{t1:List GEnum}{r:(Int×Int)}(h:value_Bounds t0 t1=some r):Den Tryz.prog 78 [e_GType t0,e_s_GEnum t1] (.tup [e_i64 r.1,e_i64 r.2]):=by
 refine dk 28 k78 ?_;simp only [k78,Kf.of,zs,ze];unfold value_Bounds at h;refine ss (rg ?_);simp only [zz];refine ss (ss (rg ?_));obtain⟨x1,a1,h⟩:=bs h;simp only [zz];refine cq (value_ValidType_ok a1) ?_ (by simp only [zg]);simp only [zz];refine cd rfl ?_;simp only [zz];refine gi h (fun c2 h=>?_) fun c2 h=>?_
 ·refine ss (rg ?_);simp only [zz];cases h;exact rt ez
 refine sk ?_;simp only [zz,c2];refine ss (ss (rg ?_));simp only [zz];refine bk (ss (rg ?_));simp only [zz];refine cd rfl ?_;simp only [zz];refine gi h (fun c3 h=>?_) fun c3 h=>?_
 ·have e2:=eT c3;refine ss (rg ?_);simp only [zz];cases h;exact rt ez
 have e3:=eF c3;refine ss (rg ?_);simp only [zz];refine cd rfl ?_;simp only [zz];refine gi h (fun c4 h=>?_) fun c4 h=>?_
 ·have e4:=eT c4;refine ss (rg ?_);simp only [zz];cases h;exact rt ez
 have e5:=eF c4;refine ss (rg ?_);simp only [zz];refine cd rfl ?_;simp only [zz];refine gi h (fun c5 h=>?_) fun c5 h=>?_
 ·have e6:=eT c5;refine ss (rg ?_);simp only [zz];cases h;exact rt ez
 have e7:=eF c5;refine ss (rg ?_);simp only [zz];refine cd rfl ?_;simp only [zz];refine gi h (fun c6 h=>?_) fun c6 h=>?_
 ·have e8:=eT c6;refine ss (rg ?_);simp only [zz];cases h;exact rt ez
 have e9:=eF c6;refine ss (rg ?_);simp only [zz];refine cd rfl ?_;simp only [zz];refine gi h (fun c7 h=>?_) fun c7 h=>?_
 ·have e10:=eT c7;refine ss (rg ?_);simp only [zz];cases h;exact rt ez
 have e11:=eF c7;refine sk ?_;simp only [zz,c7,e11];refine ss (dy hmix ?_);obtain⟨x8,f13,f14,h⟩:=bI h;simp only [zz,f13,f14,zy];cases h;exact rt ez
theorem ref09_Bounds_ok {t0:GType}{t1:List GEnum}{r:(Int×Int)}(h:ref09_Bounds t0 t1=some r):Den Tryz.prog 90 [e_GType t0,e_s_GEnum t1] (.tup [e_i64 r.1,e_i64 r.2]):=by
 refine dk 28 k90 ?_;simp only [k90,Kf.of,zs,ze];unfold ref09_Bounds at h;refine ss (rg ?_);simp only [zz];refine ss (ss (rg ?_));obtain⟨x1,a1,h⟩:=bs h;simp only [zz];refine cq (ref09_ValidType_ok a1) ?_ (by simp only [zg]);simp only [zz];refine cd rfl ?_;simp only [zz];refine gi h (fun c2 h=>?_) fun c2 h=>?_
 ·refine ss (rg ?_);simp only [zz];cases h;exact rt ez
 refine sk ?_;simp only [zz,c2];refine ss (ss (rg ?_));simp only [zz];refine bk (ss (rg ?_));simp only [zz];refine cd rfl ?_;simp only [zz];refine gi h (fun c3 h=>?_) fun c3 h=>?_
 ·have e2:=eT c3;refine ss (rg ?_);simp only [zz];cases h;exact rt ez
 have e3:=eF c3;refine ss (rg ?_);simp only [zz];refine cd rfl ?_;simp only [zz];refine gi h (fun c4 h=>?_) fun c4 h=>?_
 ·have e4:=eT c4;refine ss (rg ?_);simp only [zz];cases h;exact rt ez
 have e5:=eF c4;refine ss (rg ?_);simp only [zz];refine cd rfl ?_;simp only [zz];refine gi h (fun c5 h=>?_) fun c5 h=>?_
 ·have e6:=eT c5;refine ss (rg ?_);simp only [zz];cases h;exact rt ez
 have e7:=eF c5;refine ss (rg ?_);simp only [zz];refine cd rfl ?_;simp only [zz];refine gi h (fun c6 h=>?_) fun c6 h=>?_
 ·have e8:=eT c6;refine ss (rg ?_);simp only [zz];cases h;exact rt ez
 have e9:=eF c6;refine ss (rg ?_);simp only [zz];refine cd rfl ?_;simp only [zz];refine gi h (fun c7 h=>?_) fun c7 h=>?_
 ·have e10:=eT c7;refine ss (rg ?_);simp only [zz];cases h;exact rt ez
 have e11:=eF c7;refine sk ?_;simp only [zz,c7,e11];refine ss (dy hmix ?_);obtain⟨x8,f13,f14,h⟩:=bI h;simp only [zz,f13,f14,zy];cases h;exact rt ez
theorem daterange_Contains_ok {t0:GDateRange}{t1:Int}{r:Bool}(h:daterange_Contains t0 t1=some r):Den Tryz.prog 94 [e_GDateRange t0,e_i64 t1] (e_bool r):=by
 refine dk 17 k94 ?_;simp only [k94,Kf.of,zs,ze];unfold daterange_Contains at h;refine ss (rg ?_);simp only [zz];refine jm h (fun j4=>⟨ds 4 (e_bool j4::ds 14 []),[]⟩) (fun z2 h1=>?_) fun j4 h1 h=>?_
 ·refine rg ?_;obtain⟨x1,a3,h1⟩:=bs h1;simp only [zz];refine cq (daterange_Valid_ok a3) ?_ (by simp only [zg]);simp only [zz];refine gi h1 (fun c2 h1=>?_) fun c2 h1=>?_
  ·simp only [zz,c2];refine gi h1 (fun c3 h1=>?_) fun c3 h1=>?_
   ·simp only [zz,c2,c3];cases h1;exact tz []
   simp only [zz,c2,c3];cases h1;exact tz []
  simp only [zz,c2];cases h1;exact tz []
 cases h;exact rt ez
theorem ref05_Contains_ok {t0:GDateRange}{t1:Int}{r:Bool}(h:ref05_Contains t0 t1=some r):Den Tryz.prog 105 [e_GDateRange t0,e_i64 t1] (e_bool r):=by
 refine dk 17 k105 ?_;simp only [k105,Kf.of,zs,ze];unfold ref05_Contains at h;refine ss (rg ?_);simp only [zz];refine jm h (fun j4=>⟨ds 4 (e_bool j4::ds 14 []),[]⟩) (fun z2 h1=>?_) fun j4 h1 h=>?_
 ·refine rg ?_;obtain⟨x1,a3,h1⟩:=bs h1;simp only [zz];refine cq (ref05_Valid_ok a3) ?_ (by simp only [zg]);simp only [zz];refine gi h1 (fun c2 h1=>?_) fun c2 h1=>?_
  ·simp only [zz,c2];refine gi h1 (fun c3 h1=>?_) fun c3 h1=>?_
   ·simp only [zz,c2,c3];cases h1;exact tz []
   simp only [zz,c2,c3];cases h1;exact tz []
  simp only [zz,c2];cases h1;exact tz []
 cases h;exact rt ez
theorem expr_structure_ok {t0:List GNode}{r:((List Int)×Int×Int)}(h:expr_structure t0=some r):Den Tryz.prog 119 [e_s_GNode t0] (.tup [e_s_i64 r.1,e_i64 r.2.1,e_i64 r.2.2]):=by
 refine dk 75 k119 ?_;simp only [k119,Kf.of,zs,ze];unfold expr_structure at h;refine ss (rg ?_);simp only [zz];refine ss (ss (rg ?_));simp only [zz];refine cd rfl ?_;simp only [zz];refine gi h (fun c1 h=>?_) fun c1 h=>?_
 ·refine ss (rg ?_);simp only [zz];cases h;exact rt ez
 refine sk ?_;simp only [zz,c1];refine ss (ss (rg ?_));simp only [zz];refine cd rfl ?_;simp only [zz];refine gi h (fun c2 h=>?_) fun c2 h=>?_
 ·have e1:=eT c2;refine ss (rg ?_);simp only [zz];cases h;exact rt ez
 have e2:=eF c2;refine sk ?_;simp only [zz,c2,e2];refine ss (rg ?_);obtain⟨x3,a3,h⟩:=bs h;obtain⟨f4,f5,f6,f7,f8⟩:=mks_f (e:=e_i64) a3;(try simp only [zz]at f7 f8);simp only [zz,f4,f5,f6,f7,f8];refine ss (rg ?_);simp only [zz];refine ss (ss (rg ?_));simp only [zz];obtain⟨y9,h10,h⟩:=bs h;refine lm h10 (fun q=>⟨e_s_GNode t0::ds 4 (.own 0 0::.own 1 0::ds 12 (e_s_GNode t0::e_i64 (t0.length:Int)::e_i64 q.2.2::ds 54 [])),[.live 1 0 (q.1.map e_i64),.live 1 0 (q.2.1.map e_i64)]⟩) (fun q=>⟨e_s_GNode t0::ds 4 (.own 0 0::.own 1 0::ds 69 []),[.live 1 0 (q.1.map e_i64),.live 1 0 (q.2.map e_i64)]⟩) (tz [ok 0,on 1]) ?_ ?_
 ·rintro ⟨s4,s5,s6⟩ z11 h12 h13;simp only [expr_structure_L1]at h12;refine ss (rg ?_);simp only [zz];refine ss (cd rfl ?_);simp only [zz];refine gi h12 (fun c7 h12=>?_) fun c7 h12=>?_
  ·refine sk ?_;simp only [zz,c7];refine ss (bk (ss (rg ?_)));obtain⟨x8,f15,f16,h12⟩:=bI h12;simp only [zz,f15,f16];refine ss (rg ?_);obtain⟨x9,a17,h12⟩:=bs h12;simp only [zz];refine cq (expr_Arity_ok a17) ?_ (by simp only [zg,e2]);simp only [zz];refine ss (ss (rg ?_));simp only [zz];refine cd rfl ?_;simp only [zz];refine gi h12 (fun c10 h12=>?_) fun c10 h12=>?_
   ·refine ss (rg ?_);simp only [zz];cases h12;cases h13 _ rfl;cases h;exact rt ez
   refine sk ?_;simp only [zz,c10];refine ss (ss (rg ?_));simp only [zz];refine cd rfl ?_;simp only [zz];refine gi h12 (fun c11 h12=>?_) fun c11 h12=>?_
   ·refine ss (rg ?_);simp only [zz];cases h12;cases h13 _ rfl;cases h;exact rt ez
   refine sk ?_;simp only [zz,c11];refine ss (rg ?_);obtain⟨x12,f19,f20,f21,h12⟩:=bO h12;obtain⟨x13,a22,h12⟩:=bs h12;obtain⟨f23,f24⟩:=put_f (e:=e_i64) a22;(try simp only [zz]at f24);simp only [zz,f19,f20,f21,f23,f24];refine jm h12 (fun j18=>⟨e_s_GNode t0::ds 4 (.own 0 0::.own 1 0::e_i64 s6::.dead::e_i64 x9::ds 9 (e_s_GNode t0::e_i64 (t0.length:Int)::e_i64 s6::ds 54 [])),[.live 1 0 (j18.map e_i64),.live 1 0 (s5.map e_i64)]⟩) (fun z26 h25=>?_) fun j18 h25 h12=>?_
   ·refine ss (rg ?_);simp only [zz];refine cd rfl ?_;simp only [zz];refine gi h25 (fun c14 h25=>?_) fun c14 h25=>?_
    ·refine rg ?_;obtain⟨x15,f28,f29,f30,h25⟩:=bO h25;obtain⟨x16,f32,f33,f34,h25⟩:=bO h25;obtain⟨x17,a35,h25⟩:=bs h25;obtain⟨f36,f37⟩:=put_f (e:=e_i64) a35;(try simp only [zz]at f37);simp only [zz,f28,f29,f30,f32,f33,f34,f36,f37];cases h25;exact tz [ok 0,ok 1]
    refine sk ?_;simp only [zz,c14];cases h25;exact tz [ok 0,ok 1]
   refine ss (ay hmix [[],[],[],[],[],[],[],[],[5],[5],[]] (by kernel_rfl) ?_);obtain⟨x19,a38,h12⟩:=bs h12;obtain⟨f39,f40,f41⟩:=trunc_f (e:=e_i64) a38;(try simp only [zz]at f41);obtain⟨x20,f43,f44,f45,h12⟩:=bO h12;obtain⟨x21,a46,h12⟩:=bs h12;obtain⟨f47,f48⟩:=app_f (e:=e_i64) a46;(try simp only [zz]at f47 f48);simp only [zz,f39,f40,f41,f43,f44,f45,f47,f48,zy];refine ss (rg ?_);simp only [zz];refine cd rfl ?_;simp only [zz];refine gi h12 (fun c22 h12=>?_) fun c22 h12=>?_
   ·refine ss (rg ?_);simp only [zz];cases h12;cases h13 _ rfl;cases h;exact rt ez
   refine sk ?_;simp only [zz,c22];refine rg ?_;simp only [zz];cases h12;exact tz [ok 0,ov 1 2]
  refine xt ?_;simp only [zz,c7];cases h12;exact tz [ok 0,ok 1]
 rintro ⟨b26,b27⟩ rfl;dsimp only at h;simp only [zz];refine ss (ss (rg ?_));simp only [zz];refine cd rfl ?_;simp only [zz];refine gi h (fun c28 h=>?_) fun c28 h=>?_
 ·refine ss (rg ?_);simp only [zz];cases h;exact rt ez
 refine sk ?_;simp only [zz,c28];refine ss (rg ?_);simp only [zz];cases h;exact rt ez
theorem ref10_structure_ok {t0:List GNode}{r:((List Int)×Int×Int)}(h:ref10_structure t0=some r):Den Tryz.prog 133 [e_s_GNode t0] (.tup [e_s_i64 r.1,e_i64 r.2.1,e_i64 r.2.2]):=by
 refine dk 69 k133 ?_;simp only [k133,Kf.of,zs,ze];unfold ref10_structure at h;refine ss (rg ?_);simp only [zz];refine ss (ss (rg ?_));simp only [zz];refine cd rfl ?_;simp only [zz];refine gi h (fun c1 h=>?_) fun c1 h=>?_
 ·refine ss (rg ?_);simp only [zz];cases h;exact rt ez
 refine sk ?_;simp only [zz,c1];refine ss (ss (rg ?_));simp only [zz];refine cd rfl ?_;simp only [zz];refine gi h (fun c2 h=>?_) fun c2 h=>?_
 ·have e1:=eT c2;refine ss (rg ?_);simp only [zz];cases h;exact rt ez
 have e2:=eF c2;refine sk ?_;simp only [zz,c2,e2];refine ss (rg ?_);simp only [zz];refine ss (ss (rg ?_));simp only [zz];obtain⟨y3,h4,h⟩:=bs h;refine lm h4 (fun q=>⟨e_s_GNode t0::ds 4 (.own 0 0::.own 1 0::e_i64 q.2.2::ds 62 []),[.live 1 0 (q.1.map e_i64),.live 1 0 (q.2.1.map e_i64)]⟩) (fun q=>⟨e_s_GNode t0::ds 4 (.own 0 0::.own 1 0::ds 63 []),[.live 1 0 (q.1.map e_i64),.live 1 0 (q.2.map e_i64)]⟩) (tz [on 1,on 1]) ?_ ?_
 ·rintro ⟨s3,s4,s5⟩ z5 h6 h7;simp only [ref10_structure_L1]at h6;refine ss (ss (rg ?_));simp only [zz];refine cd rfl ?_;simp only [zz];refine gi h6 (fun c6 h6=>?_) fun c6 h6=>?_
  ·refine sk ?_;simp only [zz,c6];refine ss (bk (ss (rg ?_)));obtain⟨x7,f9,f10,h6⟩:=bI h6;obtain⟨x8,a11,h6⟩:=bs h6;simp only [zz,f9,f10];refine cq (ref10_Arity_ok a11) ?_ (by simp only [zg,e2]);simp only [zz,f9,f10];refine ss (ss (rg ?_));simp only [zz];refine cd rfl ?_;simp only [zz];refine gi h6 (fun c9 h6=>?_) fun c9 h6=>?_
   ·refine ss (rg ?_);simp only [zz];cases h6;cases h7 _ rfl;cases h;exact rt ez
   refine sk ?_;simp only [zz,c9];refine ss (ss (rg ?_));simp only [zz];refine cd rfl ?_;simp only [zz];refine gi h6 (fun c10 h6=>?_) fun c10 h6=>?_
   ·refine ss (rg ?_);simp only [zz];cases h6;cases h7 _ rfl;cases h;exact rt ez
   refine sk ?_;simp only [zz,c10];refine ss (rg ?_);simp only [zz];refine jm h6 (fun q=>⟨e_s_GNode t0::ds 4 (.own 0 0::.own 1 0::e_i64 s5::.dead::e_i64 q.2::ds 60 []),[.live 1 0 (s3.map e_i64),.live 1 0 (q.1.map e_i64)]⟩) (fun z13 h12=>?_) fun z13 h12 h6=>?_
   ·refine ss (rg ?_);simp only [zz];refine cd rfl ?_;simp only [zz];refine gi h12 (fun c11 h12=>?_) fun c11 h12=>?_
    ·refine ss (rg ?_);obtain⟨x12,f15,f16,f17,h12⟩:=bO h12;simp only [zz,f15,f16,f17];refine rg ?_;obtain⟨x13,a18,h12⟩:=bs h12;obtain⟨f19,f20,f21⟩:=trunc_f (e:=e_i64) a18;(try simp only [zz]at f21);simp only [zz,f19,f20,f21];cases h12;exact tz [ok 0,ov 1 1]
    refine sk ?_;simp only [zz,c11];cases h12;exact tz [ok 0,ok 1]
   obtain⟨j14,j15⟩:=z13;dsimp only at h6;refine ss (rg ?_);obtain⟨x16,a22,h6⟩:=bs h6;obtain⟨f23,f24⟩:=app_f (e:=e_i64) a22;(try simp only [zz]at f23 f24);simp only [zz,f23,f24];refine ss (rg ?_);obtain⟨x17,a25,h6⟩:=bs h6;obtain⟨f26,f27⟩:=app_f (e:=e_i64) a25;(try simp only [zz]at f26 f27);simp only [zz,f26,f27];refine ss (rg ?_);simp only [zz];refine cd rfl ?_;simp only [zz];refine gi h6 (fun c18 h6=>?_) fun c18 h6=>?_
   ·refine ss (rg ?_);simp only [zz];cases h6;cases h7 _ rfl;cases h;exact rt ez
   refine sk ?_;simp only [zz,c18];refine rg ?_;simp only [zz];cases h6;exact tz [ov 0 1,ov 1 1]
  refine xt ?_;simp only [zz,c6];cases h6;exact tz [ok 0,ok 1]
 rintro ⟨b22,b23⟩ rfl;dsimp only at h;simp only [zz];refine ss (ss (rg ?_));simp only [zz];refine cd rfl ?_;simp only [zz];refine gi h (fun c24 h=>?_) fun c24 h=>?_
 ·refine ss (rg ?_);simp only [zz];cases h;exact rt ez
 refine sk ?_;simp only [zz,c24];refine ss (rg ?_);simp only [zz];cases h;exact rt ez
theorem slices_Contains_string_string_ok {t0:List ByteArray}{t1:ByteArray}{r:Bool}(h:slices_Contains_string_string t0 t1=some r):Den Tryz.prog 148 [e_s_str t0,e_str t1] (e_bool r):=by
 refine dk 7 k148 ?_;simp only [k148,Kf.of,zs,ze];unfold slices_Contains_string_string at h;refine ss (rg ?_);simp only [zz];refine ss (rg ?_);obtain⟨x1,a1,h⟩:=bs h;simp only [zz];refine cq (slices_Index_string_string_ok a1) ?_ (by simp only [zg]);simp only [zz];cases h;exact rt ez
theorem lexer_nameLength_ok {t0:ByteArray}{r:Int}(h:lexer_nameLength t0=some r):Den Tryz.prog 153 [e_str t0] (e_i64 r):=by
 refine dk 28 k153 ?_;simp only [k153,Kf.of,zs,ze];unfold lexer_nameLength at h;refine ss (rg ?_);simp only [zz];refine ss (rg ?_);simp only [zz];refine ss ?_;obtain⟨y1,h2,h⟩:=bs h;refine lm h2 (fun s1=>⟨.v (.string t0)::ds 2 (e_i64 s1::ds 25 []),[]⟩) (fun b11=>⟨ds 3 (e_i64 b11::ds 25 []),[]⟩) (tz []) ?_ ?_
 ·rintro s1 z3 h4 h5;simp only [lexer_nameLength_L1]at h4;refine ss ?_;refine jm h4 (fun j8=>⟨.v (.string t0)::ds 2 (e_i64 s1::ds 21 (e_bool j8::ds 3 [])),[]⟩) (fun z7 h6=>?_) fun j8 h6 h4=>?_
  ·refine rg ?_;simp only [zz];refine gi h6 (fun c2 h6=>?_) fun c2 h6=>?_
   ·obtain⟨x3,a8,h6⟩:=bs h6;obtain⟨x4,a10,h6⟩:=bs h6;simp only [zz,c2,a8];refine cq (lexer_isLower_ok a10) ?_ (by simp only [zg]);simp only [zz,c2,a8];refine gi h6 (fun c5 h6=>?_) fun c5 h6=>?_
    ·obtain⟨x6,a11,h6⟩:=bs h6;simp only [zz,c2,a8,c5];refine cq (lexer_isDigit_ok a11) ?_ (by simp only [zg,c5]);simp only [zz,c2,a8,c5];refine gi h6 (fun c7 h6=>?_) fun c7 h6=>?_
     ·simp only [zz,c2,a8,c5,c7];cases h6;exact tz []
     simp only [zz,c2,a8,c5,c7];cases h6;exact tz []
    simp only [zz,c2,a8,c5];cases h6;exact tz []
   simp only [zz,c2];cases h6;exact tz []
  refine cd rfl ?_;simp only [zz];refine gi h4 (fun c9 h4=>?_) fun c9 h4=>?_
  ·refine sk ?_;simp only [zz,c9];refine bk (rg ?_);simp only [zz];cases h4;exact tz []
  refine xt ?_;simp only [zz,c9];cases h4;exact tz []
 rintro b11 rfl;dsimp only at h;simp only [zz];refine ss (rg ?_);simp only [zz];cases h;exact rt ez
theorem slices_ContainsFunc_api_Enum_api_Enum_ok {t0:List GEnum}{t1:(GEnum→Option Bool)}{k1:Nat}{q1:List D}(hc1:idfrees q1=true) (hp1:∀x0 r,t1 x0=some r→Den Tryz.prog k1 ([e_GEnum x0]++q1) (e_bool r)) {r:Bool}(h:slices_ContainsFunc_api_Enum_api_Enum t0 t1=some r):Den Tryz.prog 155 [e_s_GEnum t0,.fn k1 [] q1] (e_bool r):=by
 refine Den.at 7 k155.ok k155.nm (frC (frF hc1 frN)) rfl ?_;simp only [k155,Kf.of,zs,ze];unfold slices_ContainsFunc_api_Enum_api_Enum at h;refine ss (rg ?_);simp only [zz];refine ss (rg ?_);obtain⟨x1,a1,h⟩:=bs h;simp only [zz];refine cq (slices_IndexFunc_api_Enum_api_Enum_ok hc1 hp1 a1) ?_ (by simp only [zg,sqS_same hc1]);simp only [zz];cases h;exact rt (er (by simp only [zz,zr];exact fq (by simp only [zg,sqS_same hc1])))
theorem slices_ContainsFunc_api_Table_api_Table_ok {t0:List GTable}{t1:(GTable→Option Bool)}{k1:Nat}{q1:List D}(hc1:idfrees q1=true) (hp1:∀x0 r,t1 x0=some r→Den Tryz.prog k1 ([e_GTable x0]++q1) (e_bool r)) {r:Bool}(h:slices_ContainsFunc_api_Table_api_Table t0 t1=some r):Den Tryz.prog 157 [e_s_GTable t0,.fn k1 [] q1] (e_bool r):=by
 refine Den.at 7 k157.ok k157.nm (frC (frF hc1 frN)) rfl ?_;simp only [k157,Kf.of,zs,ze];unfold slices_ContainsFunc_api_Table_api_Table at h;refine ss (rg ?_);simp only [zz];refine ss (rg ?_);obtain⟨x1,a1,h⟩:=bs h;simp only [zz];refine cq (slices_IndexFunc_api_Table_api_Table_ok hc1 hp1 a1) ?_ (by simp only [zg,sqS_same hc1]);simp only [zz];cases h;exact rt (er (by simp only [zz,zr];exact fq (by simp only [zg,sqS_same hc1])))
theorem slices_ContainsFunc_api_Scope_api_Scope_ok {t0:List GScope}{t1:(GScope→Option Bool)}{k1:Nat}{q1:List D}(hc1:idfrees q1=true) (hp1:∀x0 r,t1 x0=some r→Den Tryz.prog k1 ([e_GScope x0]++q1) (e_bool r)) {r:Bool}(h:slices_ContainsFunc_api_Scope_api_Scope t0 t1=some r):Den Tryz.prog 159 [e_s_GScope t0,.fn k1 [] q1] (e_bool r):=by
 refine Den.at 7 k159.ok k159.nm (frC (frF hc1 frN)) rfl ?_;simp only [k159,Kf.of,zs,ze];unfold slices_ContainsFunc_api_Scope_api_Scope at h;refine ss (rg ?_);simp only [zz];refine ss (rg ?_);obtain⟨x1,a1,h⟩:=bs h;simp only [zz];refine cq (slices_IndexFunc_api_Scope_api_Scope_ok hc1 hp1 a1) ?_ (by simp only [zg,sqS_same hc1]);simp only [zz];cases h;exact rt (er (by simp only [zz,zr];exact fq (by simp only [zg,sqS_same hc1])))
theorem slices_Contains_int_int_ok {t0:List Int}{t1:Int}{r:Bool}(h:slices_Contains_int_int t0 t1=some r):Den Tryz.prog 163 [e_s_i64 t0,e_i64 t1] (e_bool r):=by
 refine dk 7 k163 ?_;simp only [k163,Kf.of,zs,ze];unfold slices_Contains_int_int at h;refine ss (rg ?_);simp only [zz];refine ss (rg ?_);obtain⟨x1,a1,h⟩:=bs h;simp only [zz];refine cq (slices_Index_int_int_ok a1) ?_ (by simp only [zg]);simp only [zz];cases h;exact rt ez
theorem expr_listedType_ok {t0:Int}{t1:List GType}{t2:GSignature}{r:(GType×Int)}(h:expr_listedType t0 t1 t2=some r):Den Tryz.prog 167 [e_i64 t0,e_s_GType t1,e_GSignature t2] (.tup [e_GType r.1,e_i64 r.2]):=by
 refine dk 27 k167 ?_;simp only [k167,Kf.of,zs,ze];unfold expr_listedType at h;refine ss (rg ?_);simp only [zz];refine ss ?_;refine jm h (fun j2=>⟨e_i64 t0::e_s_GType t1::ds 3 (.ref 0 0 0 0::.ref 1 0 0 0::ds 8 (e_bool j2::ds 14 [])),[.live 6 0 [e_GSignature t2],.live 2 0 [.agg [e_i64 0,e_i64 0]]]⟩) (fun z2 h1=>?_) fun j2 h1 h=>?_
 ·refine rg ?_;simp only [zz];refine gi h1 (fun c1 h1=>?_) fun c1 h1=>?_
  ·simp only [zz,c1];cases h1;exact tz [ok 0,ok 1]
  simp only [zz,c1];cases h1;exact tz [ok 0,ok 1]
 refine cd rfl ?_;simp only [zz];refine gi h (fun c3 h=>?_) fun c3 h=>?_
 ·refine ss (rg ?_);simp only [zz];cases h;exact rt ez
 refine sk ?_;simp only [zz,c3];refine ss (ss (dy hmix ?_));obtain⟨x4,f4,f5,h⟩:=bI h;obtain⟨x5,a6,h⟩:=bs h;simp only [zz,f4,f5,zy];refine cq (value_ValidType_ok a6) ?_ (by simp only [zg,c3]);simp only [zz,f4,f5,zy];refine cd rfl ?_;simp only [zz,f4,f5];refine gi h (fun c6 h=>?_) fun c6 h=>?_
 ·refine ss (rg ?_);simp only [zz];cases h;exact rt ez
 refine sk ?_;simp only [zz,f4,f5,c6];refine ss (rg ?_);simp only [zz,f4,f5];cases h;exact rt ez
theorem expr_tableType_ok {t0:GNode}{t1:GType}{t2:GSignature}{r:(GType×Int)}(h:expr_tableType t0 t1 t2=some r):Den Tryz.prog 168 [e_GNode t0,e_GType t1,e_GSignature t2] (.tup [e_GType r.1,e_i64 r.2]):=by
 refine dk 81 k168 ?_;simp only [k168,Kf.of,zs,ze];unfold expr_tableType at h;refine ss (rg ?_);simp only [zz];refine ss (rg ?_);simp only [zz];obtain⟨z2,h1,h⟩:=bs h;refine tj (fun(j6:Int)=>⟨ds 3 (.ref 0 0 0 0::.ref 1 0 0 0::.ref 2 0 0 0::.ref 3 0 0 0::.dead::e_i64 j6::ds 75 []),[.live 2 0 [e_GNode t0],.live 2 0 [e_GType t1],.live 6 0 [e_GSignature t2],.live 2 0 [.agg [e_i64 0,e_i64 0]]]⟩) z2 ?_ ?_
 ·refine ss (rg ?_);simp only [zz];refine cd rfl ?_;simp only [zz];refine gi h1 (fun c1 h1=>?_) fun c1 h1=>?_
  ·have e3:=eT c1;refine ss ?_;refine jm h1 (fun j4=>⟨ds 3 (.ref 0 0 0 0::.ref 1 0 0 0::.ref 2 0 0 0::.ref 3 0 0 0::ds 18 (e_bool j4::ds 58 [])),[.live 2 0 [e_GNode t0],.live 2 0 [e_GType t1],.live 6 0 [e_GSignature t2],.live 2 0 [.agg [e_i64 0,e_i64 0]]]⟩) (fun z6 h5=>?_) fun j4 h5 h1=>?_
   ·refine rg ?_;simp only [zz];refine gi h5 (fun c2 h5=>?_) fun c2 h5=>?_
    ·obtain⟨x3,a7,h5⟩:=bs h5;simp only [zz,c2,Int.reduceEq,Int.reduceNeg];refine cq (expr_validMode_ok a7) ?_ (by simp only [zg,e3]);simp only [zz,c2];cases h5;exact tz [ok 0,ok 1,ok 2,ok 3]
    simp only [zz,c2];cases h5;exact tz [ok 0,ok 1,ok 2,ok 3]
   refine cd rfl ?_;simp only [zz];refine gi h1 (fun c5 h1=>?_) fun c5 h1=>?_
   ·refine ss (rg ?_);simp only [zz];cases h1;cases h;exact rt ez
   refine sk ?_;simp only [zz,c5];refine rg ?_;simp only [zz,Int.reduceEq,Int.reduceNeg];cases h1;exact tz [ok 0,ok 1,ok 2,ok 3]
  have e4:=eF c1;refine sk ?_;simp only [zz,c1,e4];cases h1;exact tz [ok 0,ok 1,ok 2,ok 3]
 rintro j6 rfl;dsimp only at h;refine ss ?_;refine jm h (fun j8=>⟨ds 3 (.ref 0 0 0 0::.ref 1 0 0 0::.ref 2 0 0 0::.ref 3 0 0 0::.dead::e_i64 j6::ds 29 (e_bool j8::ds 45 [])),[.live 2 0 [e_GNode t0],.live 2 0 [e_GType t1],.live 6 0 [e_GSignature t2],.live 2 0 [.agg [e_i64 0,e_i64 0]]]⟩) (fun z9 h8=>?_) fun j8 h8 h=>?_
 ·refine rg ?_;simp only [zz];refine gi h8 (fun c7 h8=>?_) fun c7 h8=>?_
  ·simp only [zz,c7];cases h8;exact tz [ok 0,ok 1,ok 2,ok 3]
  simp only [zz,c7];cases h8;exact tz [ok 0,ok 1,ok 2,ok 3]
 refine cd rfl ?_;simp only [zz];refine gi h (fun c9 h=>?_) fun c9 h=>?_
 ·refine ss (rg ?_);simp only [zz];cases h;exact rt ez
 refine sk ?_;simp only [zz,c9];refine ss (T.tells (S:=⟨ds 3 (.ref 0 0 0 0::.ref 1 0 0 0::.ref 2 0 0 0::.ref 3 0 0 0::.dead::e_i64 j6::ds 29 (e_bool false::ds 45 [])),[.live 2 0 [e_GNode t0],.live 2 0 [e_GType t1],.live 6 0 [e_GSignature t2],.live 2 0 [.agg [e_i64 0,e_i64 0]],.live 2 0 [],.live 2 0 []]⟩) (Tells.q [(some 0,0,0),(some 1,0,0),(some 2,0,0),(some 3,0,0),(none,2,0),(none,2,0)] rfl (by decide) (by simp only [zq,ze])) ?_);refine ao hmix [[],[],[],[],[],[],[],[],[],[],[],[],[1,3,5,7,9,11],[1,3,5,7,9,11,12],[7,9,11]] [none,none,none,none,none,none,none,none,none,none,none,none,some 4,some 5,none] (by kernel_rfl) rfl ?_;obtain⟨x10,f11,f12,h⟩:=bI h;simp only [zz,f11,f12,zy,zo];refine ss ?_;refine jm h (fun j15=>⟨ds 3 (.ref 0 0 0 0::ds 2 (.ref 1 0 0 0::ds 2 (.ref 2 0 0 0::.ref 3 0 0 0::ds 57 (e_bool j15::ds 15 [])))),[.live 2 0 [e_GNode t0],.live 2 0 [.agg [e_i64 0,e_i64 0]],.live 2 0 [.agg [e_i64 x10.Key.Kind,e_i64 x10.Key.Enum]],.live 2 0 [.agg [e_i64 x10.Value.Kind,e_i64 x10.Value.Enum]]]⟩) (fun z14 h13=>?_) fun j15 h13 h=>?_
 ·refine rg ?_;obtain⟨x11,a15,h13⟩:=bs h13;simp only [zz];refine cq (value_ValidType_ok a15) ?_ (by simp only [zg,c9]);simp only [zz];refine gi h13 (fun c12 h13=>?_) fun c12 h13=>?_
  ·obtain⟨x13,a16,h13⟩:=bs h13;simp only [zz,c12];refine cq (value_ValidType_ok a16) ?_ (by simp only [zg,c9,c12]);simp only [zz,c12];refine gi h13 (fun c14 h13=>?_) fun c14 h13=>?_
   ·simp only [zz,c12,c14];cases h13;exact tz [ok 0,ok 3,ov 4 1,ov 5 1]
   simp only [zz,c12,c14];cases h13;exact tz [ok 0,ok 3,ov 4 1,ov 5 1]
  simp only [zz,c12];cases h13;exact tz [ok 0,ok 3,ov 4 1,ov 5 1]
 refine cd rfl ?_;simp only [zz];refine gi h (fun c16 h=>?_) fun c16 h=>?_
 ·refine ss (rg ?_);simp only [zz];cases h;exact rt ez
 refine sk ?_;simp only [zz,c16];refine ss (ss (rg ?_));simp only [zz];refine cd rfl ?_;simp only [zz];refine gi h (fun c17 h=>?_) fun c17 h=>?_
 ·have e17:=eT c17;refine ss ?_;refine jm h (fun j19=>⟨ds 6 (.ref 0 0 0 0::ds 2 (.ref 1 0 0 0::ds 70 (e_bool j19::ds 3 []))),[.live 2 0 [.agg [e_i64 0,e_i64 0]],.live 2 0 [.agg [e_i64 x10.Key.Kind,e_i64 x10.Key.Enum]]]⟩) (fun z20 h19=>?_) fun j19 h19 h=>?_
  ·refine rg ?_;simp only [zz];refine gi h19 (fun c18 h19=>?_) fun c18 h19=>?_
   ·have e21:=nF c18;simp only [zz,eq_true c18,e21];cases h19;exact tz [ok 1,ok 2]
   have e22:=nT c18;simp only [zz,c18,e22];cases h19;exact tz [ok 1,ok 2]
  refine cd rfl ?_;simp only [zz];refine gi h (fun c20 h=>?_) fun c20 h=>?_
  ·refine ss (rg ?_);simp only [zz];cases h;exact rt ez
  refine sk ?_;simp only [zz,c20];refine ss (rg ?_);simp only [zz];cases h;exact rt ez
 have e18:=eF c17;refine sk ?_;simp only [zz,c17,e18];refine ss (rg ?_);simp only [zz];cases h;exact rt ez
theorem expr_resultType_ok {t0:Int}{t1:List GType}{r:(GType×Bool)}(h:expr_resultType t0 t1=some r):Den Tryz.prog 171 [e_i64 t0,e_s_GType t1] (.tup [e_GType r.1,e_bool r.2]):=by
 refine dk 220 k171 ?_;simp only [k171,Kf.of,zs,ze];unfold expr_resultType at h;refine ss (rg ?_);simp only [zz];refine ss (rg ?_);simp only [zz];refine ss (ss (rg ?_));simp only [zz];refine bk (ss (rg ?_));simp only [zz];refine cd rfl ?_;simp only [zz];refine gi h (fun c1 h=>?_) fun c1 h=>?_
 ·have e1:=eT c1;refine ss (dy hmix ?_);obtain⟨x2,f4,f5,h⟩:=bI h;obtain⟨x3,a6,h⟩:=bs h;simp only [zz,f4,f5,zy];refine lq (expr_isNumber_ok a6) ?_ (by simp only [zg,e1]);simp only [zz,f4,f5,zy];cases h;exact rt ez
 have e2:=eF c1;refine ss (rg ?_);simp only [zz];refine cd rfl ?_;simp only [zz];refine gi h (fun c4 h=>?_) fun c4 h=>?_
 ·have e7:=eT c4;refine ss (ay hmix [[],[],[],[],[],[],[2,4]] (by kernel_rfl) ?_);obtain⟨x5,f10,f11,h⟩:=bI h;simp only [zz,f10,f11,zy];cases h;exact rt ez
 have e8:=eF c4;refine jm h (fun j7=>⟨e_i64 t0::e_s_GType t1::ds 2 (.ref 0 0 0 0::.dead::.ref 1 0 0 0::.dead::e_i64 t0::ds 18 (e_bool j7::ds 194 [])),[.live 2 0 [.agg [e_i64 0,e_i64 0]],.live 2 0 [.agg [e_i64 1,e_i64 0]]]⟩) (fun z13 h12=>?_) fun j7 h12 h=>?_
 ·refine ss (rg ?_);simp only [zz];refine cd rfl ?_;simp only [zz];refine gi h12 (fun c6 h12=>?_) fun c6 h12=>?_
  ·have e14:=eT c6;refine sk ?_;simp only [zz,eq_true c6,e14];cases h12;exact tz [ok 0,ok 1]
  have e15:=eF c6;refine rg ?_;simp only [zz];cases h12;exact tz [ok 0,ok 1]
 refine cd rfl ?_;simp only [zz];refine gi h (fun c8 h=>?_) fun c8 h=>?_
 ·refine jm h (fun q=>⟨ds 4 (.ref 0 0 0 0::e_bool q.2.2::ds 216 []),[.live 2 0 [.agg [e_i64 q.1,e_i64 q.2.1]]]⟩) (fun z17 h16=>?_) fun z17 h16 h=>?_
  ·refine ay hmix [[],[],[],[],[],[],[],[],[],[],[],[],[],[],[],[],[],[]] (by kernel_rfl) ?_;obtain⟨x9,f19,f20,h16⟩:=bI h16;obtain⟨x10,f22,f23,h16⟩:=bI h16;simp only [zz,f19,f20,f22,f23,zy];refine gi h16 (fun c11 h16=>?_) fun c11 h16=>?_
   ·obtain⟨x12,a24,h16⟩:=bs h16;simp only [zz,f19,f20,f22,f23,eq_true c11,zy];refine lq (expr_isNumber_ok a24) ?_ (by simp only [zg,e2,e8,c8]);simp only [zz,f19,f20,f22,f23,eq_true c11,zy];cases h16;exact tz [ok 0]
   simp only [zz,f19,f20,f22,f23,c11,zy];cases h16;exact tz [ok 0]
  obtain⟨j13,j14,j15⟩:=z17;dsimp only at h;cases h;exact rt ez
 refine jm h (fun j18=>⟨e_i64 t0::e_s_GType t1::ds 2 (.ref 0 0 0 0::.dead::.ref 1 0 0 0::.dead::e_i64 t0::ds 38 (e_bool j18::ds 174 [])),[.live 2 0 [.agg [e_i64 0,e_i64 0]],.live 2 0 [.agg [e_i64 1,e_i64 0]]]⟩) (fun z26 h25=>?_) fun j18 h25 h=>?_
 ·refine ss (rg ?_);simp only [zz];refine cd rfl ?_;simp only [zz];refine gi h25 (fun c16 h25=>?_) fun c16 h25=>?_
  ·have e27:=eT c16;refine sk ?_;simp only [zz,eq_true c16,e27];cases h25;exact tz [ok 0,ok 1]
  have e28:=eF c16;refine ss (rg ?_);simp only [zz];refine cd rfl ?_;simp only [zz];refine gi h25 (fun c17 h25=>?_) fun c17 h25=>?_
  ·have e29:=eT c17;refine sk ?_;simp only [zz,eq_true c17,e29];cases h25;exact tz [ok 0,ok 1]
  have e30:=eF c17;refine rg ?_;simp only [zz];cases h25;exact tz [ok 0,ok 1]
 refine cd rfl ?_;simp only [zz];refine gi h (fun c19 h=>?_) fun c19 h=>?_
 ·refine ss (dy hmix ?_);obtain⟨x20,f32,f33,h⟩:=bI h;obtain⟨x21,f35,f36,h⟩:=bI h;obtain⟨x22,a37,h⟩:=bs h;simp only [zz,f32,f33,f35,f36,zy];refine lq (expr_productType_ok a37) ?_ (by simp only [zg,e2,e8,c8,c19]);simp only [zz,f32,f33,f35,f36,zy];cases h;exact rt ez
 refine ss (rg ?_);simp only [zz];refine cd rfl ?_;simp only [zz];refine gi h (fun c23 h=>?_) fun c23 h=>?_
 ·have e38:=eT c23;refine jm h (fun q=>⟨ds 4 (.ref 0 0 0 0::e_bool q.2.2::ds 216 []),[.live 2 0 [.agg [e_i64 q.1,e_i64 q.2.1]]]⟩) (fun z41 h40=>?_) fun z41 h40 h=>?_
  ·refine ay hmix [[],[],[],[],[],[],[],[],[],[],[],[],[],[],[],[10,12]] (by kernel_rfl) ?_;obtain⟨x24,f43,f44,h40⟩:=bI h40;simp only [zz,f43,f44,zy];refine gi h40 (fun c25 h40=>?_) fun c25 h40=>?_
   ·have e45:=eT c25;obtain⟨x26,f48,f49,h40⟩:=bI h40;simp only [zz,f43,f44,eq_true c25,e45,f48,f49,zy];cases h40;exact tz [ok 0]
   have e46:=eF c25;simp only [zz,f43,f44,c25,e46,zy];cases h40;exact tz [ok 0]
  obtain⟨j27,j28,j29⟩:=z41;dsimp only at h;cases h;exact rt ez
 have e39:=eF c23;refine jm h (fun j31=>⟨.dead::e_s_GType t1::ds 2 (.ref 0 0 0 0::.dead::.ref 1 0 0 0::.dead::e_i64 t0::ds 71 (e_bool j31::ds 141 [])),[.live 2 0 [.agg [e_i64 0,e_i64 0]],.live 2 0 [.agg [e_i64 1,e_i64 0]]]⟩) (fun z51 h50=>?_) fun j31 h50 h=>?_
 ·refine ss (rg ?_);simp only [zz];refine cd rfl ?_;simp only [zz];refine gi h50 (fun c30 h50=>?_) fun c30 h50=>?_
  ·have e52:=eT c30;refine sk ?_;simp only [zz,eq_true c30,e52];cases h50;exact tz [ok 0,ok 1]
  have e53:=eF c30;refine rg ?_;simp only [zz];cases h50;exact tz [ok 0,ok 1]
 refine cd rfl ?_;simp only [zz];refine gi h (fun c32 h=>?_) fun c32 h=>?_
 ·refine jm h (fun q=>⟨ds 4 (.ref 0 0 0 0::e_bool q.2.2::ds 216 []),[.live 2 0 [.agg [e_i64 q.1,e_i64 q.2.1]]]⟩) (fun z55 h54=>?_) fun z55 h54 h=>?_
  ·refine ay hmix [[],[],[],[],[],[],[],[],[],[],[],[],[],[],[],[],[],[],[],[],[],[],[],[],[18,20]] (by kernel_rfl) ?_;obtain⟨x33,f57,f58,h54⟩:=bI h54;obtain⟨x34,f60,f61,h54⟩:=bI h54;simp only [zz,f57,f58,f60,f61,zy];refine gi h54 (fun c35 h54=>?_) fun c35 h54=>?_
   ·obtain⟨x36,a62,h54⟩:=bs h54;simp only [zz,f57,f58,f60,f61,eq_true c35,zy];refine lq (expr_isNumber_ok a62) ?_ (by simp only [zg,e2,e8,c8,c19,e39,c32]);simp only [zz,f57,f58,f60,f61,eq_true c35,zy];refine gi h54 (fun c37 h54=>?_) fun c37 h54=>?_
    ·simp only [zz,f57,f58,f60,f61,eq_true c35,c37,zy];cases h54;exact tz [ok 0]
    simp only [zz,f57,f58,f60,f61,eq_true c35,c37,zy];cases h54;exact tz [ok 0]
   simp only [zz,f57,f58,f60,f61,c35,zy];cases h54;exact tz [ok 0]
  obtain⟨j38,j39,j40⟩:=z55;dsimp only at h;cases h;exact rt ez
 refine jm h (fun j42=>⟨.dead::e_s_GType t1::ds 2 (.ref 0 0 0 0::.dead::.ref 1 0 0 0::.dead::e_i64 t0::ds 98 (e_bool j42::ds 114 [])),[.live 2 0 [.agg [e_i64 0,e_i64 0]],.live 2 0 [.agg [e_i64 1,e_i64 0]]]⟩) (fun z64 h63=>?_) fun j42 h63 h=>?_
 ·refine ss (rg ?_);simp only [zz];refine cd rfl ?_;simp only [zz];refine gi h63 (fun c41 h63=>?_) fun c41 h63=>?_
  ·have e65:=eT c41;refine sk ?_;simp only [zz,eq_true c41,e65];cases h63;exact tz [ok 0,ok 1]
  have e66:=eF c41;refine rg ?_;simp only [zz];cases h63;exact tz [ok 0,ok 1]
 refine cd rfl ?_;simp only [zz];refine gi h (fun c43 h=>?_) fun c43 h=>?_
 ·refine ss (ay hmix [[],[],[],[],[],[],[],[],[2,3,5,6]] (by kernel_rfl) ?_);obtain⟨x44,f68,f69,h⟩:=bI h;obtain⟨x45,f71,f72,h⟩:=bI h;simp only [zz,f68,f69,f71,f72,zy];cases h;exact rt ez
 refine jm h (fun j47=>⟨.dead::e_s_GType t1::ds 2 (.ref 0 0 0 0::.dead::.ref 1 0 0 0::.dead::e_i64 t0::ds 109 (e_bool j47::ds 103 [])),[.live 2 0 [.agg [e_i64 0,e_i64 0]],.live 2 0 [.agg [e_i64 1,e_i64 0]]]⟩) (fun z74 h73=>?_) fun j47 h73 h=>?_
 ·refine ss (rg ?_);simp only [zz];refine cd rfl ?_;simp only [zz];refine gi h73 (fun c46 h73=>?_) fun c46 h73=>?_
  ·have e75:=eT c46;refine sk ?_;simp only [zz,eq_true c46,e75];cases h73;exact tz [ok 0,ok 1]
  have e76:=eF c46;refine rg ?_;simp only [zz];cases h73;exact tz [ok 0,ok 1]
 refine cd rfl ?_;simp only [zz];refine gi h (fun c48 h=>?_) fun c48 h=>?_
 ·refine jm h (fun j54=>⟨ds 4 (.ref 0 0 0 0::e_bool j54::ds 216 []),[.live 2 0 [.agg [e_i64 1,e_i64 0]]]⟩) (fun z78 h77=>?_) fun j54 h77 h=>?_
  ·refine ay hmix [[],[],[],[],[],[],[],[],[],[],[],[],[],[],[],[],[],[],[],[],[],[],[16,18]] (by kernel_rfl) ?_;obtain⟨x49,f80,f81,h77⟩:=bI h77;obtain⟨x50,f83,f84,h77⟩:=bI h77;simp only [zz,f80,f81,f83,f84,zy];refine gi h77 (fun c51 h77=>?_) fun c51 h77=>?_
   ·obtain⟨x52,a85,h77⟩:=bs h77;simp only [zz,f80,f81,f83,f84,eq_true c51,zy];refine lq (expr_isNumber_ok a85) ?_ (by simp only [zg,e2,e8,c8,c19,e39,c32,c43,c48]);simp only [zz,f80,f81,f83,f84,eq_true c51,zy];refine gi h77 (fun c53 h77=>?_) fun c53 h77=>?_
    ·simp only [zz,f80,f81,f83,f84,eq_true c51,c53,zy];cases h77;exact tz [ok 0]
    simp only [zz,f80,f81,f83,f84,eq_true c51,c53,zy];cases h77;exact tz [ok 0]
   simp only [zz,f80,f81,f83,f84,c51,zy];cases h77;exact tz [ok 0]
  cases h;exact rt ez
 refine jm h (fun j56=>⟨.dead::e_s_GType t1::ds 2 (.ref 0 0 0 0::.dead::.ref 1 0 0 0::.dead::e_i64 t0::ds 134 (e_bool j56::ds 78 [])),[.live 2 0 [.agg [e_i64 0,e_i64 0]],.live 2 0 [.agg [e_i64 1,e_i64 0]]]⟩) (fun z87 h86=>?_) fun j56 h86 h=>?_
 ·refine ss (rg ?_);simp only [zz];refine cd rfl ?_;simp only [zz];refine gi h86 (fun c55 h86=>?_) fun c55 h86=>?_
  ·have e88:=eT c55;refine sk ?_;simp only [zz,eq_true c55,e88];cases h86;exact tz [ok 0,ok 1]
  have e89:=eF c55;refine rg ?_;simp only [zz];cases h86;exact tz [ok 0,ok 1]
 refine cd rfl ?_;simp only [zz];refine gi h (fun c57 h=>?_) fun c57 h=>?_
 ·refine jm h (fun j61=>⟨ds 4 (.ref 0 0 0 0::e_bool j61::ds 216 []),[.live 2 0 [.agg [e_i64 1,e_i64 0]]]⟩) (fun z91 h90=>?_) fun j61 h90 h=>?_
  ·refine ay hmix [[],[],[],[],[],[],[],[],[],[],[],[],[],[8,10]] (by kernel_rfl) ?_;obtain⟨x58,f93,f94,h90⟩:=bI h90;simp only [zz,f93,f94,zy];refine gi h90 (fun c59 h90=>?_) fun c59 h90=>?_
   ·have e95:=eT c59;obtain⟨x60,f98,f99,h90⟩:=bI h90;simp only [zz,f93,f94,eq_true c59,e95,f98,f99,zy];cases h90;exact tz [ok 0]
   have e96:=eF c59;simp only [zz,f93,f94,c59,e96,zy];cases h90;exact tz [ok 0]
  cases h;exact rt ez
 refine ss (rg ?_);simp only [zz];refine cd rfl ?_;simp only [zz];refine gi h (fun c62 h=>?_) fun c62 h=>?_
 ·have e100:=eT c62;refine jm h (fun q=>⟨ds 4 (.ref 0 0 0 0::e_bool q.2.2::ds 216 []),[.live 2 0 [.agg [e_i64 q.1,e_i64 q.2.1]]]⟩) (fun z103 h102=>?_) fun z103 h102 h=>?_
  ·refine ay hmix [[],[],[],[],[],[],[],[],[],[],[],[],[],[],[],[],[],[10,11,13,14]] (by kernel_rfl) ?_;obtain⟨x63,f105,f106,h102⟩:=bI h102;obtain⟨x64,f108,f109,h102⟩:=bI h102;simp only [zz,f105,f106,f108,f109,zy];refine gi h102 (fun c65 h102=>?_) fun c65 h102=>?_
   ·have e110:=eT c65;obtain⟨x66,f113,f114,h102⟩:=bI h102;simp only [zz,f105,f106,f108,f109,eq_true c65,e110,f113,f114,zy];cases h102;exact tz [ok 0]
   have e111:=eF c65;simp only [zz,f105,f106,f108,f109,c65,e111,zy];cases h102;exact tz [ok 0]
  obtain⟨j67,j68,j69⟩:=z103;dsimp only at h;cases h;exact rt ez
 have e101:=eF c62;refine jm h (fun j71=>⟨.dead::e_s_GType t1::ds 2 (.ref 0 0 0 0::ds 3 (e_i64 t0::ds 169 (e_bool j71::ds 43 []))),[.live 2 0 [.agg [e_i64 0,e_i64 0]]]⟩) (fun z116 h115=>?_) fun j71 h115 h=>?_
 ·refine ss (rg ?_);simp only [zz];refine cd rfl ?_;simp only [zz];refine gi h115 (fun c70 h115=>?_) fun c70 h115=>?_
  ·have e117:=eT c70;refine sk ?_;simp only [zz,eq_true c70,e117];cases h115;exact tz [ok 0]
  have e118:=eF c70;refine rg ?_;simp only [zz];cases h115;exact tz [ok 0]
 refine cd rfl ?_;simp only [zz];refine gi h (fun c72 h=>?_) fun c72 h=>?_
 ·refine jm h (fun q=>⟨ds 4 (.ref 0 0 0 0::e_bool q.2.2::ds 216 []),[.live 2 0 [.agg [e_i64 q.1,e_i64 q.2.1]]]⟩) (fun z120 h119=>?_) fun z120 h119 h=>?_
  ·refine ay hmix [[],[],[],[],[],[],[],[],[],[],[],[],[],[],[],[10,12]] (by kernel_rfl) ?_;obtain⟨x73,f122,f123,h119⟩:=bI h119;simp only [zz,f122,f123,zy];refine gi h119 (fun c74 h119=>?_) fun c74 h119=>?_
   ·have e124:=eT c74;obtain⟨x75,f127,f128,h119⟩:=bI h119;simp only [zz,f122,f123,eq_true c74,e124,f127,f128,zy];cases h119;exact tz [ok 0]
   have e125:=eF c74;simp only [zz,f122,f123,c74,e125,zy];cases h119;exact tz [ok 0]
  obtain⟨j76,j77,j78⟩:=z120;dsimp only at h;cases h;exact rt ez
 refine jm h (fun j80=>⟨.dead::e_s_GType t1::ds 2 (.ref 0 0 0 0::ds 3 (e_i64 t0::ds 187 (e_bool j80::ds 25 []))),[.live 2 0 [.agg [e_i64 0,e_i64 0]]]⟩) (fun z130 h129=>?_) fun j80 h129 h=>?_
 ·refine ss (rg ?_);simp only [zz];refine cd rfl ?_;simp only [zz];refine gi h129 (fun c79 h129=>?_) fun c79 h129=>?_
  ·have e131:=eT c79;refine sk ?_;simp only [zz,eq_true c79,e131];cases h129;exact tz [ok 0]
  have e132:=eF c79;refine rg ?_;simp only [zz];cases h129;exact tz [ok 0]
 refine cd rfl ?_;simp only [zz];refine gi h (fun c81 h=>?_) fun c81 h=>?_
 ·refine jm h (fun j85=>⟨ds 4 (.ref 0 0 0 0::e_bool j85::ds 216 []),[.live 2 0 [.agg [e_i64 2,e_i64 0]]]⟩) (fun z134 h133=>?_) fun j85 h133 h=>?_
  ·refine ay hmix [[],[],[],[],[],[],[],[],[],[],[],[],[],[8,10]] (by kernel_rfl) ?_;obtain⟨x82,f136,f137,h133⟩:=bI h133;simp only [zz,f136,f137,zy];refine gi h133 (fun c83 h133=>?_) fun c83 h133=>?_
   ·have e138:=eT c83;obtain⟨x84,f141,f142,h133⟩:=bI h133;simp only [zz,f136,f137,eq_true c83,e138,f141,f142,zy];cases h133;exact tz [ok 0]
   have e139:=eF c83;simp only [zz,f136,f137,c83,e139,zy];cases h133;exact tz [ok 0]
  cases h;exact rt ez
 refine jm h (fun j87=>⟨.dead::e_s_GType t1::ds 2 (.ref 0 0 0 0::ds 207 (e_bool j87::ds 9 [])),[.live 2 0 [.agg [e_i64 0,e_i64 0]]]⟩) (fun z144 h143=>?_) fun j87 h143 h=>?_
 ·refine ss (rg ?_);simp only [zz];refine cd rfl ?_;simp only [zz];refine gi h143 (fun c86 h143=>?_) fun c86 h143=>?_
  ·have e145:=eT c86;refine sk ?_;simp only [zz,eq_true c86,e145];cases h143;exact tz [ok 0]
  have e146:=eF c86;refine rg ?_;simp only [zz];cases h143;exact tz [ok 0]
 refine cd rfl ?_;simp only [zz];refine gi h (fun c88 h=>?_) fun c88 h=>?_
 ·refine ss (ay hmix [[],[],[],[],[],[],[2,4]] (by kernel_rfl) ?_);obtain⟨x89,f148,f149,h⟩:=bI h;simp only [zz,f148,f149,zy];cases h;exact rt ez
 refine sk ?_;simp only [zz,c88];refine ss (rg ?_);simp only [zz];cases h;exact rt ez
theorem ref08_word_ok {t0:Int}{r:Bool}(h:ref08_word t0=some r):Den Tryz.prog 184 [e_u8 t0] (e_bool r):=by
 refine dk 12 k184 ?_;simp only [k184,Kf.of,zs,ze];unfold ref08_word at h;refine ss (rg ?_);simp only [zz];refine jm h (fun j5=>⟨ds 2 (e_bool j5::ds 10 []),[]⟩) (fun z2 h1=>?_) fun j5 h1 h=>?_
 ·refine rg ?_;obtain⟨x1,a3,h1⟩:=bs h1;simp only [zz];refine cq (ref08_lower_ok a3) ?_ (by simp only [zg]);simp only [zz];refine gi h1 (fun c2 h1=>?_) fun c2 h1=>?_
  ·obtain⟨x3,a4,h1⟩:=bs h1;simp only [zz,c2];refine cq (ref08_digit_ok a4) ?_ (by simp only [zg,c2]);simp only [zz,c2];refine gi h1 (fun c4 h1=>?_) fun c4 h1=>?_
   ·simp only [zz,c2,c4];cases h1;exact tz []
   simp only [zz,c2,c4];cases h1;exact tz []
  simp only [zz,c2];cases h1;exact tz []
 cases h;exact rt ez
theorem ref10_single_ok {t0:GNode}{t1:GType}{t2:GSignature}{r:(GType×Bool)}(h:ref10_single t0 t1 t2=some r):Den Tryz.prog 197 [e_GNode t0,e_GType t1,e_GSignature t2] (.tup [e_GType r.1,e_bool r.2]):=by
 refine dk 79 k197 ?_;simp only [k197,Kf.of,zs,ze];unfold ref10_single at h;refine ss (rg ?_);simp only [zz];refine ss (ss (rg ?_));simp only [zz];refine bk (ss (rg ?_));simp only [zz];refine cd rfl ?_;simp only [zz];refine gi h (fun c1 h=>?_) fun c1 h=>?_
 ·have e1:=eT c1;refine ss (dy hmix ?_);obtain⟨x2,a3,h⟩:=bs h;simp only [zz,zy];refine lq (ref10_number_ok a3) ?_ (by simp only [zg,e1]);simp only [zz,zy];cases h;exact rt ez
 have e2:=eF c1;refine ss (rg ?_);simp only [zz];refine cd rfl ?_;simp only [zz];refine gi h (fun c3 h=>?_) fun c3 h=>?_
 ·have e4:=eT c3;refine ss (ay hmix [[],[],[],[],[2]] (by kernel_rfl) ?_);simp only [zz,zy];cases h;exact rt ez
 have e5:=eF c3;refine jm h (fun j5=>⟨ds 3 (.ref 0 0 0 0::.ref 1 0 0 0::.ref 2 0 0 0::.ref 3 0 0 0::ds 4 (e_i64 t0.Op::ds 12 (e_bool j5::ds 57 []))),[.live 2 0 [e_GNode t0],.live 2 0 [e_GType t1],.live 6 0 [e_GSignature t2],.live 2 0 [.agg [e_i64 0,e_i64 0]]]⟩) (fun z7 h6=>?_) fun j5 h6 h=>?_
 ·refine ss (rg ?_);simp only [zz];refine cd rfl ?_;simp only [zz];refine gi h6 (fun c4 h6=>?_) fun c4 h6=>?_
  ·have e8:=eT c4;refine sk ?_;simp only [zz,eq_true c4,e8];cases h6;exact tz [ok 0,ok 1,ok 2,ok 3]
  have e9:=eF c4;refine rg ?_;simp only [zz];cases h6;exact tz [ok 0,ok 1,ok 2,ok 3]
 refine cd rfl ?_;simp only [zz];refine gi h (fun c6 h=>?_) fun c6 h=>?_
 ·refine ss (ay hmix [[],[],[],[],[2]] (by kernel_rfl) ?_);obtain⟨x7,a10,h⟩:=bs h;simp only [zz,zy];refine lq (ref10_kind_ok a10) ?_ (by simp only [zg,e2,e5,c6]);simp only [zz,zy];cases h;exact rt ez
 refine ss (rg ?_);simp only [zz];refine cd rfl ?_;simp only [zz];refine gi h (fun c8 h=>?_) fun c8 h=>?_
 ·have e11:=eT c8;refine ss (rg ?_);obtain⟨x9,f14,f15,h⟩:=bI h;simp only [zz,f14,f15];refine jm h (fun j14=>⟨ds 6 (.ref 0 0 0 0::e_bool j14::ds 74 []),[.live 2 0 [.agg [e_i64 x9.Value.Kind,e_i64 x9.Value.Enum]]]⟩) (fun z17 h16=>?_) fun j14 h16 h=>?_
  ·refine ay hmix [[],[],[],[],[],[],[],[],[],[],[],[],[],[],[],[],[],[],[],[],[15,17]] (by kernel_rfl) ?_;obtain⟨x10,a18,h16⟩:=bs h16;simp only [zz,zy];refine lq (ref09_ValidType_ok a18) ?_ (by simp only [zg,e2,e5,c6,e11]);simp only [zz,zy];refine gi h16 (fun c11 h16=>?_) fun c11 h16=>?_
   ·obtain⟨x12,a19,h16⟩:=bs h16;simp only [zz,c11,zy];refine lq (ref09_ValidType_ok a19) ?_ (by simp only [zg,e2,e5,c6,e11,c11]);simp only [zz,c11,zy];refine gi h16 (fun c13 h16=>?_) fun c13 h16=>?_
    ·simp only [zz,c11,c13,zy];cases h16;exact tz [ok 3]
    simp only [zz,c11,c13,zy];cases h16;exact tz [ok 3]
   simp only [zz,c11,zy];cases h16;exact tz [ok 3]
  cases h;exact rt ez
 have e12:=eF c8;refine sk ?_;simp only [zz,c8,e12];refine ss (rg ?_);obtain⟨x15,f21,f22,h⟩:=bI h;simp only [zz,f21,f22,Int.reduceEq,Int.reduceNeg];refine jm h (fun j20=>⟨ds 6 (.ref 0 0 0 0::e_bool j20::ds 74 []),[.live 2 0 [e_GType t1]]⟩) (fun z24 h23=>?_) fun j20 h23 h=>?_
 ·refine ay hmix [[],[],[],[],[],[],[],[],[],[],[],[],[],[],[],[],[12]] (by kernel_rfl) ?_;simp only [zz,zy];refine gi h23 (fun c16 h23=>?_) fun c16 h23=>?_
  ·have e25:=eT c16;obtain⟨x17,a27,h23⟩:=bs h23;simp only [zz,eq_true c16,e25,zy];refine lq (ref10_kind_ok a27) ?_ (by simp only [zg,e2,e5,c6,e12,e25]);simp only [zz,eq_true c16,e25,zy];refine gi h23 (fun c18 h23=>?_) fun c18 h23=>?_
   ·obtain⟨x19,a28,h23⟩:=bs h23;simp only [zz,eq_true c16,e25,eq_true c18,zy];refine lq (ref10_kind_ok a28) ?_ (by simp only [zg,e2,e5,c6,e12,e25]);simp only [zz,eq_true c16,e25,eq_true c18,zy];cases h23;exact tz [ok 3]
   simp only [zz,eq_true c16,e25,c18,zy];cases h23;exact tz [ok 3]
  have e26:=eF c16;simp only [zz,c16,e26,zy];cases h23;exact tz [ok 3]
 cases h;exact rt ez
end Go.Proofs.Dev
