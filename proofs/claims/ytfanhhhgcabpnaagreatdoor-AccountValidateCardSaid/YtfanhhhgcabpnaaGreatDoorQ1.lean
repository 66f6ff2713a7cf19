/-
  Contracts of the functions: each answers as its plain partial function says.
-/
import Derived.Test.YtfanhhhgcabpnaaGreatDoorK
import Derived.Test.YtfanhhhgcabpnaaGreatDoorG
import Derived.Test.YtfanhhhgcabpnaaGreatDoorPD
import Derived.Test.YtfanhhhgcabpnaaGreatDoorL1
set_option linter.all false
set_option maxHeartbeats 1000000
set_option maxRecDepth 10000
namespace Go.Proofs.Dev
open Go Go.Tm
instance {t0 r}:Con (account_isDate t0=some r) (Den Tryz.prog 46 [e_i64 t0] (e_bool r)):=⟨fun h=>by
 refine dk 8 Zk ?_
 simp only[Zk,Kf.of,zs,ze]
 unfold account_isDate at h
 exact pg trivial (.z 1 (.j 1 (fun(j2:Bool)=>⟨[.k 2,.s (e_bool j2),.p 6],[]⟩) (.b (.t []) (.t [])) .o))⟩
instance {t0 r}:Con (ref43_LastAllowed t0=some r) (Den Tryz.prog 55 [e_GPayConfig t0] (e_i64 r)):=⟨fun h=>by
 refine dk 10 tm ?_
 simp only[tm,Kf.of,zs,ze]
 unfold ref43_LastAllowed at h
 exact pg trivial .o⟩
instance {t0 t1 r}:Con (ref37_Waived t0 t1=some r) (Den Tryz.prog 58 [e_s_GPosting t0,e_i64 t1] (e_i64 r)):=⟨fun h=>by
 refine dk 34 wm ?_
 simp only[wm,Kf.of,zs,ze]
 unfold ref37_Waived at h
 exact pg @ref37_Waived_L1.eq_1 (.l 2 1 (fun(q:(Int × Int))=>⟨[.p 4,.k 1,.s (e_i64 q.1),.s (e_i64 q.2),.p 29],[]⟩) (fun(b12:Int)=>⟨[.k 5,.s (e_i64 b12)],[]⟩) [] (.b (.j 1 (fun(j9:Int)=>⟨[.p 5,.s (e_i64 j9),.p 1],[]⟩) (.j 1 (fun(j6:Bool)=>⟨[.p 7,.k 20,.s (e_bool j6),.p 8],[]⟩) (.b (.t []) (.t [])) (.b (.t []) (.t []))) (.t [])) (.t [])) .o)⟩
instance {t0 r}:Con (ref06_day t0=some r) (Den Tryz.prog 68 [e_i64 t0] (e_bool r)):=⟨fun h=>by
 refine dk 8 Dm ?_
 simp only[Dm,Kf.of,zs,ze]
 unfold ref06_day at h
 exact pg trivial (.z 1 (.j 1 (fun(j2:Bool)=>⟨[.k 2,.s (e_bool j2),.p 6],[]⟩) (.b (.t []) (.t [])) .o))⟩
instance {t0 r}:Con (ledger_amount t0=some r) (Den Tryz.prog 97 [e_GPosting t0] (e_i64 r)):=⟨fun h=>by
 refine dk 14 Hl ?_
 simp only[Hl,Kf.of,zs,ze]
 unfold ledger_amount at h
 exact pg trivial (.b .o (.j 1 (fun(j3:Bool)=>⟨[.k 1,.p 1,.k 7,.s (e_bool j3),.p 5],[.o 0]⟩) (.b (.t [ok 0]) (.t [ok 0])) .o))⟩
instance {t0 t1 r}:Con (ref41_months t0 t1=some r) (Den Tryz.prog 104 [e_i64 t0,e_i64 t1] (e_bool r)):=⟨fun h=>by
 refine dk 20 Xf ?_
 simp only[Xf,Kf.of,zs,ze]
 unfold ref41_months at h
 exact pg trivial (.z 1 (.j 1 (fun(j4:Bool)=>⟨[.k 4,.s (e_bool j4),.p 17],[]⟩) (.b (.b (.b (.t []) (.t [])) (.t [])) (.t [])) .o))⟩
instance {t0 t1 r}:Con (slices_Index_string_string t0 t1=some r) (Den Tryz.prog 218 [e_s_str t0,e_str t1] (e_i64 r)):=⟨fun h=>by
 refine dk 17 je ?_
 simp only[je,Kf.of,zs,ze]
 unfold slices_Index_string_string at h
 exact pg @slices_Index_string_string_L1.eq_1 (.l 1 0 (fun(s1:Int)=>⟨[.p 4,.k 3,.p 1,.s (e_i64 s1),.p 10],[]⟩) (fun(_:Unit)=>⟨[],[]⟩) [] (.b (.b .o (.t [])) (.t [])) .o)⟩
theorem pa{t0}{t1:GScope→Option Bool}{k1:Nat}{q1:List D}(hc1:idfrees q1=true)(hp1:∀ x0 r,t1 x0=some r→Den Tryz.prog k1 ([e_GScope x0]++q1) (e_bool r)){r} (h:slices_IndexFunc_api_Scope_api_Scope t0 t1=some r):Den Tryz.prog 223 [e_s_GScope t0,.fn k1 [] q1] (e_i64 r):=by
 haveI I1:∀ x0 r,Con (t1 x0=some r) (Den Tryz.prog k1 ([e_GScope x0]++q1) (e_bool r)):=fun x0 r=>⟨hp1 x0 r⟩
 have s1:∀ f:D→D→Prop,SqS f q1 q1=True:=fun _=>sqS_same hc1
 have z1:∀ a b n,rfL a b n q1=q1:=fun _ _ _=>rfL_free _ _ _ _ hc1
 refine Den.at 17 Uc.ok Uc.nm (frC (frF hc1 frN)) rfl ?_
 simp only[Uc,Kf.of,zs,ze]
 unfold slices_IndexFunc_api_Scope_api_Scope at h
 exact pg @slices_IndexFunc_api_Scope_api_Scope_L1.eq_1 (.l 1 0 (fun(s1:Int)=>⟨[.p 4,.k 3,.p 1,.s (e_i64 s1),.p 10],[]⟩) (fun(_:Unit)=>⟨[],[]⟩) [] (.b (.b .o (.t [])) (.t [])) .o)
instance {t0 r}:Con (law_fieldTypes t0=some r) (Den Tryz.prog 226 [e_s_GField t0] (e_s_GType r)):=⟨fun h=>by
 refine dk 18 re ?_
 simp only[re,Kf.of,zs,ze]
 unfold law_fieldTypes at h
 exact pg @law_fieldTypes_L1.eq_1 (.l 2 1 (fun(q:((List GType) × Int))=>⟨[.k 3,.s (.own 0 0),.p 4,.s (e_i64 q.2),.p 10],[.n 2 ((q.1.map e_GType))]⟩) (fun(b8:(List GType))=>⟨[.k 3,.s (.own 0 0),.p 2],[.n 2 ((b8.map e_GType))]⟩) [on 2] (.b (.t [ov 0 1]) (.t [ok 0])) .o)⟩
instance {t0 t1 r}:Con (slices_Index_int_int t0 t1=some r) (Den Tryz.prog 231 [e_s_i64 t0,e_i64 t1] (e_i64 r)):=⟨fun h=>by
 refine dk 17 Ae ?_
 simp only[Ae,Kf.of,zs,ze]
 unfold slices_Index_int_int at h
 exact pg @slices_Index_int_int_L1.eq_1 (.l 1 0 (fun(s1:Int)=>⟨[.p 4,.k 3,.p 1,.s (e_i64 s1),.p 10],[]⟩) (fun(_:Unit)=>⟨[],[]⟩) [] (.b (.b .o (.t [])) (.t [])) .o)⟩
theorem sa{t0}{t1:GRule→Option Bool}{k1:Nat}{q1:List D}(hc1:idfrees q1=true)(hp1:∀ x0 r,t1 x0=some r→Den Tryz.prog k1 ([e_GRule x0]++q1) (e_bool r)){r} (h:slices_IndexFunc_api_Rule_api_Rule t0 t1=some r):Den Tryz.prog 264 [e_s_GRule t0,.fn k1 [] q1] (e_i64 r):=by
 haveI I1:∀ x0 r,Con (t1 x0=some r) (Den Tryz.prog k1 ([e_GRule x0]++q1) (e_bool r)):=fun x0 r=>⟨hp1 x0 r⟩
 have s1:∀ f:D→D→Prop,SqS f q1 q1=True:=fun _=>sqS_same hc1
 have z1:∀ a b n,rfL a b n q1=q1:=fun _ _ _=>rfL_free _ _ _ _ hc1
 refine Den.at 17 Zc.ok Zc.nm (frC (frF hc1 frN)) rfl ?_
 simp only[Zc,Kf.of,zs,ze]
 unfold slices_IndexFunc_api_Rule_api_Rule at h
 exact pg @slices_IndexFunc_api_Rule_api_Rule_L1.eq_1 (.l 1 0 (fun(s1:Int)=>⟨[.p 4,.k 3,.p 1,.s (e_i64 s1),.p 10],[]⟩) (fun(_:Unit)=>⟨[],[]⟩) [] (.b (.b .o (.t [])) (.t [])) .o)
instance {t0 r}:Con (ref08_digit t0=some r) (Den Tryz.prog 268 [e_u8 t0] (e_bool r)):=⟨fun h=>by
 refine dk 8 wi ?_
 simp only[wi,Kf.of,zs,ze]
 unfold ref08_digit at h
 exact pg trivial (.z 1 (.j 1 (fun(j2:Bool)=>⟨[.k 2,.s (e_bool j2),.p 6],[]⟩) (.b (.t []) (.t [])) .o))⟩
instance {t0 t1 r}:Con (ref10_found t0 t1=some r) (Den Tryz.prog 317 [e_GNode t0,e_GSignature t1] (e_bool r)):=⟨fun h=>by
 refine dk 101 oj ?_
 simp only[oj,Kf.of,zs,ze]
 unfold ref10_found at h
 exact pg trivial (.b (.j 1 (fun(j4:Bool)=>⟨[.k 4,.s (e_bool j4)],[]⟩) (.b (.t []) (.t [])) .o) (.b (.j 1 (fun(j7:Bool)=>⟨[.k 4,.s (e_bool j7)],[]⟩) (.b (.t []) (.t [])) .o) (.b (.j 1 (fun(j10:Bool)=>⟨[.k 4,.s (e_bool j10)],[]⟩) (.b (.t []) (.t [])) .o) (.b (.j 1 (fun(j13:Bool)=>⟨[.k 4,.s (e_bool j13)],[]⟩) (.b (.t []) (.t [])) .o) (.b .o (.b .o (.j 1 (fun(j19:Bool)=>⟨[.k 2,.p 2,.k 79,.s (e_bool j19),.p 19],[.o 0,.o 1]⟩) (.b (.t [ok 0,ok 1]) (.b (.t [ok 0,ok 1]) (.b (.t [ok 0,ok 1]) (.t [ok 0,ok 1])))) (.b (.j 1 (fun(j23:Bool)=>⟨[.k 4,.s (e_bool j23),.p 78],[]⟩) (.b (.b (.t []) (.t [])) (.t [])) .o) .o))))))))⟩
instance {t0 r}:Con (expr_isNumber t0=some r) (Den Tryz.prog 336 [e_i64 t0] (e_bool r)):=⟨fun h=>by
 refine dk 12 Ue ?_
 simp only[Ue,Kf.of,zs,ze]
 unfold expr_isNumber at h
 exact pg trivial (.z 1 (.j 1 (fun(j3:Bool)=>⟨[.k 2,.s (e_bool j3),.p 10],[]⟩) (.b (.b (.t []) (.t [])) (.t [])) .o))⟩
theorem Va{t0:Int}{t1:Int}{t2:Int}{r:(GType×Bool)}(h:expr_productType t0 t1 t2=some r):Den Tryz.prog 337 [e_i64 t0,e_i64 t1,e_i64 t2] (.tup [e_GType r.1,e_bool r.2]):=by
 refine dk 44 Ve ?_;simp only[Ve,Kf.of,zs,ze];unfold expr_productType at h;refine ss (rg ?_);(try simp only[zz]);refine ss (bk (ss (rg ?_)));(try simp only[zz]);refine cd rfl ?_;(try simp only[zz]);refine gi h (fun c1 h=>?_) fun c1 h=>?_
 ·have e1:=eT c1;refine jm h (fun j4=>⟨ds 6 (.ref 0 0 0 0::e_bool j4::ds 39 []),[.live 2 0 [.agg [e_i64 t1,e_i64 0]]]⟩) (fun z4 h3=>?_) fun j4 h3 h=>?_
  ·refine rg ?_;(try simp only[zz]);refine gi h3 (fun c2 h3=>?_) fun c2 h3=>?_
   ·have e5:=eT c2;(try simp only[zz,eq_true c2,e5]);refine gi h3 (fun c3 h3=>?_) fun c3 h3=>?_
    ·have e7:=eF c3;(try simp only[zz,eq_true c2,e5,c3,e7]);cases h3;exact tz [ok 0]
    have e8:=eD c3;(try simp only[zz,eq_true c2,e5,c3,e8]);cases h3;exact tz [ok 0]
   have e6:=eF c2;(try simp only[zz,c2,e6]);cases h3;exact tz [ok 0]
  cases h;exact rt ez
 have e2:=eF c1;refine ss (rg ?_);(try simp only[zz]);refine cd rfl ?_;(try simp only[zz]);refine gi h (fun c5 h=>?_) fun c5 h=>?_
 ·have e9:=eT c5;refine jm h (fun j7=>⟨ds 6 (.ref 0 0 0 0::e_bool j7::ds 39 []),[.live 2 0 [.agg [e_i64 t1,e_i64 0]]]⟩) (fun z12 h11=>?_) fun j7 h11 h=>?_
  ·refine rg ?_;(try simp only[zz]);refine gi h11 (fun c6 h11=>?_) fun c6 h11=>?_
   ·have e13:=eF c6;(try simp only[zz,c6,e13]);cases h11;exact tz [ok 0]
   have e14:=eD c6;(try simp only[zz,c6,e14]);cases h11;exact tz [ok 0]
  cases h;exact rt ez
 have e10:=eF c5;refine jm h (fun j10=>⟨ds 6 (.ref 0 0 0 0::ds 27 (e_bool j10::ds 12 [])),[.live 2 0 [.agg [e_i64 0,e_i64 0]]]⟩) (fun z16 h15=>?_) fun j10 h15 h=>?_
 ·refine rg ?_;(try simp only[zz]);refine gi h15 (fun c8 h15=>?_) fun c8 h15=>?_
  ·have e17:=eT c8;(try simp only[zz,eq_true c8,e17]);refine gi h15 (fun c9 h15=>?_) fun c9 h15=>?_
   ·have e19:=eT c9;(try simp only[zz,eq_true c8,e17,eq_true c9,e19]);cases h15;exact tz [ok 0]
   have e20:=eF c9;(try simp only[zz,eq_true c8,e17,c9,e20]);cases h15;exact tz [ok 0]
  have e18:=eF c8;(try simp only[zz,c8,e18]);cases h15;exact tz [ok 0]
 refine cd rfl ?_;(try simp only[zz]);refine gi h (fun c11 h=>?_) fun c11 h=>?_
 ·refine ss (rg ?_);(try simp only[zz]);cases h;exact rt ez
 refine sk ?_;(try simp only[zz,c11]);refine ss (rg ?_);(try simp only[zz]);cases h;exact rt ez
instance {t0 t1 t2 r}:Con (expr_productType t0 t1 t2=some r) (Den Tryz.prog 337 [e_i64 t0,e_i64 t1,e_i64 t2] (.tup [e_GType r.1,e_bool r.2])):=⟨Va⟩
theorem ia{t0 r} (h:ref10_kind t0=some r):Den Tryz.prog 338 [e_i64 t0] (e_GType r):=by
 refine dk 4 Ij ?_
 simp only[Ij,Kf.of,zs,ze]
 unfold ref10_kind at h
 exact pg trivial .o
instance {t0 r}:Con (ref10_kind t0=some r) (Den Tryz.prog 338 [e_i64 t0] (e_GType r)):=⟨ia⟩
end Go.Proofs.Dev
