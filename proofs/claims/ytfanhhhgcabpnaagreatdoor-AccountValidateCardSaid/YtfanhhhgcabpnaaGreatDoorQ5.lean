/-
  Contracts of the functions: each answers as its plain partial function says.
-/
import Derived.Test.YtfanhhhgcabpnaaGreatDoorK
import Derived.Test.YtfanhhhgcabpnaaGreatDoorG
import Derived.Test.YtfanhhhgcabpnaaGreatDoorPD
import Derived.Test.YtfanhhhgcabpnaaGreatDoorL1
import Derived.Test.YtfanhhhgcabpnaaGreatDoorQ0
import Derived.Test.YtfanhhhgcabpnaaGreatDoorQ1
import Derived.Test.YtfanhhhgcabpnaaGreatDoorQ2
import Derived.Test.YtfanhhhgcabpnaaGreatDoorQ3
set_option linter.all false
set_option maxHeartbeats 1000000
set_option maxRecDepth 10000
namespace Go.Proofs.Dev
open Go Go.Tm
instance {t0 r}:Con (ref06_Valid t0=some r) (Den Tryz.prog 31 [e_GCalendar t0] (e_bool r)):=⟨fun h=>by
 refine dk 49 Yl ?_
 simp only[Yl,Kf.of,zs,ze]
 unfold ref06_Valid at h
 exact pg @ref06_Valid_L1.eq_1 (.z 2 (.j 1 (fun(j3:Bool)=>⟨[.k 1,.p 1,.k 15,.s (e_bool j3),.p 32],[.o 0]⟩) (.b (.b (.t [ok 0]) (.t [ok 0])) (.t [ok 0])) (.b .o (.l 1 0 (fun(s5:Int)=>⟨[.k 1,.p 2,.s (e_i64 s5),.p 13],[.o 0]⟩) (fun(_:Unit)=>⟨[],[]⟩) [ok 0] (.b (.z 1 (.j 1 (fun(j12:Bool)=>⟨[.k 1,.p 17,.k 31,.s (e_bool j12)],[.o 0]⟩) (.b (.b (.t [ok 0]) (.t [ok 0])) (.t [ok 0])) (.b .o (.t [ok 0])))) (.t [])) .o))))⟩
instance {t0 r}:Con (ledger_Months t0=some r) (Den Tryz.prog 49 [e_s_GPosting t0] (e_s_i64 r)):=⟨fun h=>by
 refine dk 21 kl ?_
 simp only[kl,Kf.of,zs,ze]
 unfold ledger_Months at h
 exact pg @ledger_Months_L1.eq_1 (.l 2 1 (fun(q:((List Int) × Int))=>⟨[.k 3,.s (.own 0 0),.p 4,.s (e_i64 q.2),.p 13],[.n 1 ((q.1.map e_i64))]⟩) (fun(b8:(List Int))=>⟨[.k 3,.s (.own 0 0),.p 2],[.n 1 ((b8.map e_i64))]⟩) [on 1] (.b (.t [ov 0 1]) (.t [ok 0])) .o)⟩
instance {t0 r}:Con (facts_nonempty t0=some r) (Den Tryz.prog 122 [e_GDateRange t0] (e_bool r)):=⟨fun h=>by
 refine dk 11 Jd ?_
 simp only[Jd,Kf.of,zs,ze]
 unfold facts_nonempty at h
 exact pg trivial (.z 1 (.j 1 (fun(j3:Bool)=>⟨[.k 2,.s (e_bool j3),.p 9],[]⟩) (.b (.t []) (.t [])) .o))⟩
theorem ma{t0}{t1:GEnum→Option Bool}{k1:Nat}{q1:List D}(hc1:idfrees q1=true)(hp1:∀ x0 r,t1 x0=some r→Den Tryz.prog k1 ([e_GEnum x0]++q1) (e_bool r)){r} (h:slices_ContainsFunc_api_Enum_api_Enum t0 t1=some r):Den Tryz.prog 170 [e_s_GEnum t0,.fn k1 [] q1] (e_bool r):=by
 haveI I1:∀ x0 r,Con (t1 x0=some r) (Den Tryz.prog k1 ([e_GEnum x0]++q1) (e_bool r)):=fun x0 r=>⟨hp1 x0 r⟩
 have s1:∀ f:D→D→Prop,SqS f q1 q1=True:=fun _=>sqS_same hc1
 have z1:∀ a b n,rfL a b n q1=q1:=fun _ _ _=>rfL_free _ _ _ _ hc1
 haveI:∀ y0 r,Con (slices_IndexFunc_api_Enum_api_Enum y0 t1=some r) (Den Tryz.prog 221 [e_s_GEnum y0,.fn k1 [] q1] (e_i64 r)):=fun y0 r=>⟨ra hc1 hp1⟩
 refine Den.at 7 Pc.ok Pc.nm (frC (frF hc1 frN)) rfl ?_
 simp only[Pc,Kf.of,zs,ze]
 unfold slices_ContainsFunc_api_Enum_api_Enum at h
 exact pg trivial .o
theorem na{t0}{t1:GRule→Option Bool}{k1:Nat}{q1:List D}(hc1:idfrees q1=true)(hp1:∀ x0 r,t1 x0=some r→Den Tryz.prog k1 ([e_GRule x0]++q1) (e_bool r)){r} (h:slices_ContainsFunc_api_Rule_api_Rule t0 t1=some r):Den Tryz.prog 227 [e_s_GRule t0,.fn k1 [] q1] (e_bool r):=by
 haveI I1:∀ x0 r,Con (t1 x0=some r) (Den Tryz.prog k1 ([e_GRule x0]++q1) (e_bool r)):=fun x0 r=>⟨hp1 x0 r⟩
 have s1:∀ f:D→D→Prop,SqS f q1 q1=True:=fun _=>sqS_same hc1
 have z1:∀ a b n,rfL a b n q1=q1:=fun _ _ _=>rfL_free _ _ _ _ hc1
 haveI:∀ y0 r,Con (slices_IndexFunc_api_Rule_api_Rule y0 t1=some r) (Den Tryz.prog 264 [e_s_GRule y0,.fn k1 [] q1] (e_i64 r)):=fun y0 r=>⟨sa hc1 hp1⟩
 refine Den.at 7 Wc.ok Wc.nm (frC (frF hc1 frN)) rfl ?_
 simp only[Wc,Kf.of,zs,ze]
 unfold slices_ContainsFunc_api_Rule_api_Rule at h
 exact pg trivial .o
instance {t0 r}:Con (ref08_word t0=some r) (Den Tryz.prog 235 [e_u8 t0] (e_bool r)):=⟨fun h=>by
 refine dk 12 Mh ?_
 simp only[Mh,Kf.of,zs,ze]
 unfold ref08_word at h
 exact pg trivial (.z 1 (.j 1 (fun(j5:Bool)=>⟨[.k 2,.s (e_bool j5),.p 10],[]⟩) (.b (.b (.t []) (.t [])) (.t [])) .o))⟩
instance {t0 t1 r}:Con (ref05_Intersect t0 t1=some r) (Den Tryz.prog 269 [e_GDateRange t0,e_GDateRange t1] (.tup [e_GDateRange r.1,e_bool r.2])):=⟨fun h=>by
 refine dk 32 zi ?_
 simp only[zi,Kf.of,zs,ze]
 unfold ref05_Intersect at h
 exact pg trivial (.z 2 (.j 1 (fun(j4:Bool)=>⟨[.k 2,.p 3,.k 9,.s (e_bool j4),.p 19],[.o 0,.o 1,.o 2]⟩) (.b (.t [ok 0,ok 1,ok 2]) (.t [ok 0,ok 1,ok 2])) .o))⟩
instance {t0 r}:Con (expr_distinct t0=some r) (DenC Tryz.prog 278 [] [] 1 (t0.map e_i64) (e_s_i64 r)):=⟨fun h=>by
 refine DenC.at 6 bd.ok bd.nm frN frN (Fr.l _) rfl ?_
 simp only[bd,Kf.of,zs,ze]
 unfold expr_distinct at h
 exact pg trivial .o⟩
instance {t0 r}:Con (ref10_structure t0=some r) (Den Tryz.prog 291 [e_s_GNode t0] (.tup [e_s_i64 r.1,e_i64 r.2.1,e_i64 r.2.2])):=⟨fun h=>by
 refine dk 69 Si ?_
 simp only[Si,Kf.of,zs,ze]
 unfold ref10_structure at h
 exact pg @ref10_structure_L1.eq_1 (.b .o (.b .o (.l 3 2 (fun(q:((List Int) × (List Int) × Int))=>⟨[.p 2,.k 3,.s (.own 0 0),.s (.own 1 0),.s (e_i64 q.2.2),.p 2],[.n 1 ((q.1.map e_i64)),.n 1 ((q.2.1.map e_i64))]⟩) (fun(q:((List Int) × (List Int)))=>⟨[.p 2,.k 3,.s (.own 0 0),.s (.own 1 0)],[.n 1 ((q.1.map e_i64)),.n 1 ((q.2.map e_i64))]⟩) [on 1,on 1] (.b (.b .o (.b .o (.z 1 (.j 2 (fun(q:((List Int) × Int))=>⟨[.p 8,.k 1,.s (e_i64 q.2),.p 6],[.o 0,.c 1 ((q.1.map e_i64))]⟩) (.b (.t [ok 0,ov 1 1]) (.t [ok 0,ok 1])) (.b .o (.t [ov 0 1,ov 1 1])))))) (.t [ok 0,ok 1])) .o)))⟩
theorem pb{t0:GNode}{t1:GType}{t2:GSignature}{r:(GType×Bool)}(h:ref10_single t0 t1 t2=some r):Den Tryz.prog 319 [e_GNode t0,e_GType t1,e_GSignature t2] (.tup [e_GType r.1,e_bool r.2]):=by
 refine dk 79 qj ?_;simp only[qj,Kf.of,zs,ze];unfold ref10_single at h;refine ss (rg ?_);(try simp only[zz]);refine ss (ss (rg ?_));(try simp only[zz]);refine bk (ss (rg ?_));(try simp only[zz]);refine cd rfl ?_;(try simp only[zz]);refine gi h (fun c1 h=>?_) fun c1 h=>?_
 ·have e1:=eT c1;refine ss (dy hmix ?_);obtain⟨x2,a3,h⟩:=bs h;simp only[zz,zy];refine lq (Ga a3) ?_ (by simp only[zg,e1]);(try simp only[zz,zy]);cases h;exact rt ez
 have e2:=eF c1;refine ss (rg ?_);(try simp only[zz]);refine cd rfl ?_;(try simp only[zz]);refine gi h (fun c3 h=>?_) fun c3 h=>?_
 ·have e4:=eT c3;refine ss (ay hmix [[],[],[],[],[2]] (by kernel_rfl) ?_);(try simp only[zz,zy]);cases h;exact rt ez
 have e5:=eF c3;refine jm h (fun j5=>⟨ds 3 (.ref 0 0 0 0::.ref 1 0 0 0::.ref 2 0 0 0::.ref 3 0 0 0::ds 4 (e_i64 t0.Op::ds 12 (e_bool j5::ds 57 []))),[.live 2 0 [e_GNode t0],.live 2 0 [e_GType t1],.live 6 0 [e_GSignature t2],.live 2 0 [.agg [e_i64 0,e_i64 0]]]⟩) (fun z7 h6=>?_) fun j5 h6 h=>?_
 ·refine ss (rg ?_);(try simp only[zz]);refine cd rfl ?_;(try simp only[zz]);refine gi h6 (fun c4 h6=>?_) fun c4 h6=>?_
  ·have e8:=eT c4;refine sk ?_;(try simp only[zz,eq_true c4,e8]);cases h6;exact tz [ok 0,ok 1,ok 2,ok 3]
  have e9:=eF c4;refine rg ?_;(try simp only[zz]);cases h6;exact tz [ok 0,ok 1,ok 2,ok 3]
 refine cd rfl ?_;(try simp only[zz]);refine gi h (fun c6 h=>?_) fun c6 h=>?_
 ·refine ss (ay hmix [[],[],[],[],[2]] (by kernel_rfl) ?_);obtain⟨x7,a10,h⟩:=bs h;simp only[zz,zy];refine lq (ia a10) ?_ (by simp only[zg,e2,e5,c6]);(try simp only[zz,zy]);cases h;exact rt ez
 refine ss (rg ?_);(try simp only[zz]);refine cd rfl ?_;(try simp only[zz]);refine gi h (fun c8 h=>?_) fun c8 h=>?_
 ·have e11:=eT c8;refine ss (rg ?_);obtain⟨x9,f14,f15,h⟩:=bI h;(try simp only[zz,f14,f15]);refine jm h (fun j14=>⟨ds 6 (.ref 0 0 0 0::e_bool j14::ds 74 []),[.live 2 0 [.agg [e_i64 x9.Value.Kind,e_i64 x9.Value.Enum]]]⟩) (fun z17 h16=>?_) fun j14 h16 h=>?_
  ·refine ay hmix [[],[],[],[],[],[],[],[],[],[],[],[],[],[],[],[],[],[],[],[],[15,17]] (by kernel_rfl) ?_;obtain⟨x10,a18,h16⟩:=bs h16;simp only[zz,zy];refine lq (ua a18) ?_ (by simp only[zg,e2,e5,c6,e11]);(try simp only[zz,zy]);refine gi h16 (fun c11 h16=>?_) fun c11 h16=>?_
   ·obtain⟨x12,a19,h16⟩:=bs h16;simp only[zz,c11,zy];refine lq (ua a19) ?_ (by simp only[zg,e2,e5,c6,e11,c11]);(try simp only[zz,c11,zy]);refine gi h16 (fun c13 h16=>?_) fun c13 h16=>?_
    ·(try simp only[zz,c11,c13,zy]);cases h16;exact tz [ok 3]
    (try simp only[zz,c11,c13,zy]);cases h16;exact tz [ok 3]
   (try simp only[zz,c11,zy]);cases h16;exact tz [ok 3]
  cases h;exact rt ez
 have e12:=eF c8;refine sk ?_;(try simp only[zz,c8,e12]);refine ss (rg ?_);obtain⟨x15,f21,f22,h⟩:=bI h;(try simp only[zz,f21,f22,Int.reduceEq,Int.reduceNeg]);refine jm h (fun j20=>⟨ds 6 (.ref 0 0 0 0::e_bool j20::ds 74 []),[.live 2 0 [e_GType t1]]⟩) (fun z24 h23=>?_) fun j20 h23 h=>?_
 ·refine ay hmix [[],[],[],[],[],[],[],[],[],[],[],[],[],[],[],[],[12]] (by kernel_rfl) ?_;(try simp only[zz,zy]);refine gi h23 (fun c16 h23=>?_) fun c16 h23=>?_
  ·have e25:=eT c16;obtain⟨x17,a27,h23⟩:=bs h23;simp only[zz,eq_true c16,e25,zy];refine lq (ia a27) ?_ (by simp only[zg,e2,e5,c6,e12,e25]);(try simp only[zz,eq_true c16,e25,zy]);refine gi h23 (fun c18 h23=>?_) fun c18 h23=>?_
   ·obtain⟨x19,a28,h23⟩:=bs h23;simp only[zz,eq_true c16,e25,eq_true c18,zy];refine lq (ia a28) ?_ (by simp only[zg,e2,e5,c6,e12,e25]);(try simp only[zz,eq_true c16,e25,eq_true c18,zy]);cases h23;exact tz [ok 3]
   (try simp only[zz,eq_true c16,e25,c18,zy]);cases h23;exact tz [ok 3]
  have e26:=eF c16;(try simp only[zz,c16,e26,zy]);cases h23;exact tz [ok 3]
 cases h;exact rt ez
instance {t0 t1 t2 r}:Con (ref10_single t0 t1 t2=some r) (Den Tryz.prog 319 [e_GNode t0,e_GType t1,e_GSignature t2] (.tup [e_GType r.1,e_bool r.2])):=⟨pb⟩
instance {t0 c10 r}:Con (slices_ContainsFunc_api_Enum_api_Enum t0 (fun x900=>law_hasEnum_c1 x900 c10)=some r) (Den Tryz.prog 170 [e_s_GEnum t0,.fn 171 [] [e_p_str c10]] (e_bool r)):=⟨fun h=>ma (q1:=[e_p_str c10]) (frC frN) (fun x900 _ hb=>La hb) h⟩
theorem vb{t0 t1 r} (h:law_hasEnum t0 t1=some r):Den Tryz.prog 111 [e_s_GEnum t0,e_str t1] (e_bool r):=by
 refine dk 6 Dd ?_
 simp only[Dd,Kf.of,zs,ze]
 unfold law_hasEnum at h
 exact pg trivial .o
instance {t0 t1 r}:Con (law_hasEnum t0 t1=some r) (Den Tryz.prog 111 [e_s_GEnum t0,e_str t1] (e_bool r)):=⟨vb⟩
instance {t0 r}:Con (facts_checkFact t0=some r) (Den Tryz.prog 145 [e_GFact t0] (e_i64 r)):=⟨fun h=>by
 refine dk 68 Kd ?_
 simp only[Kd,Kf.of,zs,ze]
 unfold facts_checkFact at h
 exact pg trivial (.b .o (.j 1 (fun(j3:Bool)=>⟨[.k 1,.p 1,.k 5,.s (e_bool j3),.p 61],[.o 0]⟩) (.b (.t [ok 0]) (.t [ok 0])) (.b .o (.j 1 (fun(j6:Bool)=>⟨[.k 1,.p 6,.k 9,.s (e_bool j6),.p 52],[.o 0]⟩) (.b (.t [ok 0]) (.t [ok 0])) (.b .o (.j 1 (fun(j9:Bool)=>⟨[.k 1,.p 15,.k 9,.s (e_bool j9),.p 43],[.o 0]⟩) (.b (.t [ok 0]) (.t [ok 0])) (.b .o (.b .o (.j 1 (fun(j14:Bool)=>⟨[.k 1,.p 24,.k 14,.s (e_bool j14),.p 29],[.o 0]⟩) (.b (.t [ok 0]) (.t [ok 0])) (.b .o (.j 1 (fun(j17:Bool)=>⟨[.k 1,.p 38,.k 9,.s (e_bool j17),.p 20],[.o 0]⟩) (.b (.t [ok 0]) (.t [ok 0])) (.b .o (.j 1 (fun(j20:Bool)=>⟨[.k 59,.s (e_bool j20),.p 9],[]⟩) (.b (.t []) (.t [])) .o)))))))))))))⟩
instance {t0 r}:Con (ref08_IsIdentifier t0=some r) (Den Tryz.prog 181 [e_str t0] (e_bool r)):=⟨fun h=>by
 refine dk 43 Ug ?_
 simp only[Ug,Kf.of,zs,ze]
 unfold ref08_IsIdentifier at h
 exact pg (And.intro @ref08_IsIdentifier_L2.eq_1 @ref08_IsIdentifier_L3.eq_1) (.z 2 (.j 1 (fun(j5:Bool)=>⟨[.p 2,.k 17,.s (e_bool j5),.p 24],[]⟩) (.b (.b (.t []) (.t [])) (.t [])) (.b .o (.l 1 0 (fun(s7:Int)=>⟨[.p 3,.s (e_i64 s7),.p 15],[]⟩) (fun(_:Unit)=>⟨[.p 3],[]⟩) [] (.b (.b .o (.t [])) (.t [])) (.l 1 0 (fun(s14:Int)=>⟨[.p 5,.s (e_i64 s14),.p 25],[]⟩) (fun(_:Unit)=>⟨[],[]⟩) [] (.b (.b .o (.t [])) (.t [])) .o)))))⟩
instance {t0 t1 r}:Con (ref12_conflict t0 t1=some r) (Den Tryz.prog 239 [e_GRow t0,e_GRow t1] (e_bool r)):=⟨fun h=>by
 refine dk 27 Qh ?_
 simp only[Qh,Kf.of,zs,ze]
 unfold ref12_conflict at h
 exact pg trivial (.z 2 (.j 1 (fun(j3:Bool)=>⟨[.k 4,.s (e_bool j3)],[]⟩) (.b (.t []) (.t [])) .o))⟩
instance {t0 r}:Con (expr_References t0=some r) (Den Tryz.prog 258 [e_s_GNode t0] (.tup [e_s_i64 r.1,e_s_i64 r.2.1,e_s_i64 r.2.2])):=⟨fun h=>by
 refine dk 48 De ?_
 simp only[De,Kf.of,zs,ze]
 unfold expr_References at h
 exact pg @expr_References_L1.eq_1 (.l 4 3 (fun(q:((List Int) × (List Int) × (List Int) × Int))=>⟨[.k 5,.s (.own 0 0),.s (.own 1 0),.s (.own 2 0),.p 4,.s (e_i64 q.2.2.2),.p 36],[.n 1 ((q.1.map e_i64)),.n 1 ((q.2.1.map e_i64)),.n 1 ((q.2.2.1.map e_i64))]⟩) (fun(q:((List Int) × (List Int) × (List Int)))=>⟨[.k 5,.s (.own 0 0),.s (.own 1 0),.s (.own 2 0),.p 2],[.n 1 ((q.1.map e_i64)),.n 1 ((q.2.1.map e_i64)),.n 1 ((q.2.2.map e_i64))]⟩) [on 1,on 1,on 1] (.b (.j 3 (fun(q:((List Int) × (List Int) × (List Int)))=>⟨[.k 5,.p 8],[.c 0 ((q.1.map e_i64)),.c 1 ((q.2.1.map e_i64)),.c 2 ((q.2.2.map e_i64))]⟩) (.b (.t [ov 0 1,ok 1,ok 2]) (.b (.t [ok 0,ov 1 1,ok 2]) (.j 1 (fun(j14:Bool)=>⟨[.k 5,.p 8,.k 19,.s (e_bool j14),.p 16],[.o 0,.o 1,.o 2,.o 3]⟩) (.b (.t [ok 0,ok 1,ok 2,ok 3]) (.b (.t [ok 0,ok 1,ok 2,ok 3]) (.b (.t [ok 0,ok 1,ok 2,ok 3]) (.t [ok 0,ok 1,ok 2,ok 3])))) (.b (.t [ok 0,ok 1,ov 2 1]) (.t [ok 0,ok 1,ok 2]))))) (.t [ok 0,ok 1,ok 2])) (.t [ok 0,ok 1,ok 2])) .o)⟩
end Go.Proofs.Dev
