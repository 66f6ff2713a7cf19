/-
  Contracts of the functions: each answers as its plain partial function says.
-/
import Derived.Test.YtfanhhhgcabpnaaGreatDoorK
import Derived.Test.YtfanhhhgcabpnaaGreatDoorG
import Derived.Test.YtfanhhhgcabpnaaGreatDoorPD
import Derived.Test.YtfanhhhgcabpnaaGreatDoorL1
set_option linter.all false
set_option maxHeartbeats 1000000
set_option maxRecDepth 10000
namespace Go.Proofs.Dev
open Go Go.Tm
instance {t0 r}:Con (same_SmallConfig t0=some r) (Den Tryz.prog 8 [e_GPayConfig t0] (e_bool r)):=⟨fun h=>by
 refine dk 7 k8 ?_
 simp only[k8,Kf.of,zs,ze]
 unfold same_SmallConfig at h
 exact pg trivial .o⟩
instance {t0 r}:Con (same_smallScope t0=some r) (Den Tryz.prog 23 [e_GScope t0] (e_bool r)):=⟨fun h=>by
 refine dk 92 Ul ?_
 simp only[Ul,Kf.of,zs,ze]
 unfold same_smallScope at h
 exact pg (And.intro @same_smallScope_L3.eq_1 (And.intro @same_smallScope_L4.eq_1 @same_smallScope_L5.eq_1)) (.z 2 (.j 1 (fun(j4:Bool)=>⟨[.k 1,.p 1,.k 26,.s (e_bool j4),.p 64],[.o 0]⟩) (.b (.b (.b (.t [ok 0]) (.t [ok 0])) (.t [ok 0])) (.t [ok 0])) (.b .o (.l 1 0 (fun(s6:Int)=>⟨[.k 1,.p 2,.s (e_i64 s6),.p 24],[.o 0]⟩) (fun(_:Unit)=>⟨[.k 1,.p 2],[.o 0]⟩) [ok 0] (.b (.b .o (.t [ok 0])) (.t [ok 0])) (.l 1 0 (fun(s11:Int)=>⟨[.k 1,.p 3,.s (e_i64 s11),.p 88],[.o 0]⟩) (fun(_:Unit)=>⟨[.k 1,.p 3],[.o 0]⟩) [ok 0] (.b (.b .o (.t [ok 0])) (.t [ok 0])) (.l 1 0 (fun(s16:Int)=>⟨[.k 1,.p 4,.s (e_i64 s16),.p 87],[.o 0]⟩) (fun(_:Unit)=>⟨[],[]⟩) [ok 0] (.b (.z 2 (.j 1 (fun(j22:Bool)=>⟨[.k 1,.p 5,.k 86,.s (e_bool j22)],[.o 0]⟩) (.b (.b (.b (.t [ok 0]) (.t [ok 0])) (.t [ok 0])) (.t [ok 0])) (.b .o (.t [ok 0])))) (.t [])) .o))))))⟩
instance {t0 r}:Con (account_inTime t0=some r) (Den Tryz.prog 53 [e_GAccount t0] (e_bool r)):=⟨fun h=>by
 refine dk 48 ql ?_
 simp only[ql,Kf.of,zs,ze]
 unfold account_inTime at h
 exact pg (And.intro @account_inTime_L3.eq_1 (And.intro @account_inTime_L4.eq_1 @account_inTime_L5.eq_1)) (.l 1 0 (fun(s1:Int)=>⟨[.k 1,.p 1,.k 9,.p 2,.s (e_i64 s1),.p 35],[.o 0]⟩) (fun(_:Unit)=>⟨[.k 1,.p 1],[.o 0]⟩) [ok 0] (.b (.b .o (.t [ok 0])) (.t [ok 0])) (.l 1 0 (fun(s6:Int)=>⟨[.k 1,.p 22,.k 1,.p 2,.s (e_i64 s6),.p 22],[.o 0]⟩) (fun(_:Unit)=>⟨[.k 1,.p 22],[.o 0]⟩) [ok 0] (.b (.b .o (.t [ok 0])) (.t [ok 0])) (.l 1 0 (fun(s11:Int)=>⟨[.k 1,.p 35,.k 1,.p 2,.s (e_i64 s11),.p 9],[.o 0]⟩) (fun(_:Unit)=>⟨[],[]⟩) [ok 0] (.b (.b .o (.t [ok 0])) (.t [])) .o)))⟩
instance {t0 r}:Con (ref43_late t0=some r) (Den Tryz.prog 60 [e_GAccount t0] (e_bool r)):=⟨fun h=>by
 refine dk 55 ym ?_
 simp only[ym,Kf.of,zs,ze]
 unfold ref43_late at h
 exact pg (And.intro @ref43_late_L3.eq_1 (And.intro @ref43_late_L4.eq_1 @ref43_late_L5.eq_1)) (.l 1 0 (fun(s1:Int)=>⟨[.k 1,.p 1,.k 1,.s (e_i64 s1),.p 52],[.o 0]⟩) (fun(_:Unit)=>⟨[.k 1,.p 1],[.o 0]⟩) [ok 0] (.b (.b .o (.t [ok 0])) (.t [ok 0])) (.l 1 0 (fun(s6:Int)=>⟨[.k 1,.p 3,.s (e_i64 s6),.p 51],[.o 0]⟩) (fun(_:Unit)=>⟨[.k 1,.p 3],[.o 0]⟩) [ok 0] (.b (.b .o (.t [ok 0])) (.t [ok 0])) (.l 1 0 (fun(s11:Int)=>⟨[.k 1,.p 4,.s (e_i64 s11),.p 50],[.o 0]⟩) (fun(_:Unit)=>⟨[],[]⟩) [ok 0] (.b (.b .o (.t [ok 0])) (.t [])) .o)))⟩
instance {t0 t1 r}:Con (appeal_validMonths t0 t1=some r) (Den Tryz.prog 99 [e_i64 t0,e_i64 t1] (e_bool r)):=⟨fun h=>by
 refine dk 20 Il ?_
 simp only[Il,Kf.of,zs,ze]
 unfold appeal_validMonths at h
 exact pg trivial (.z 1 (.j 1 (fun(j4:Bool)=>⟨[.k 4,.s (e_bool j4),.p 17],[]⟩) (.b (.b (.b (.t []) (.t [])) (.t [])) (.t [])) .o))⟩
instance {t0 t1 r}:Con (ref35_memberInputs t0 t1=some r) (Den Tryz.prog 100 [e_GLaw t0,e_i64 t1] (.tup [e_s_GField r.1,e_bool r.2])):=⟨fun h=>by
 refine dk 26 Tf ?_
 simp only[Tf,Kf.of,zs,ze]
 unfold ref35_memberInputs at h
 exact pg trivial (.z 3 (.j 1 (fun(j3:Bool)=>⟨[.k 2,.p 2,.k 2,.p 1,.k 14,.s (e_bool j3),.p 6],[.o 0]⟩) (.b (.t [ok 0]) (.t [ok 0])) .o))⟩
instance {t0 r}:Con (ref05_Valid t0=some r) (Den Tryz.prog 130 [e_GDateRange t0] (e_bool r)):=⟨fun h=>by
 refine dk 17 sg ?_
 simp only[sg,Kf.of,zs,ze]
 unfold ref05_Valid at h
 exact pg trivial (.z 1 (.j 1 (fun(j3:Bool)=>⟨[.k 2,.s (e_bool j3),.p 15],[]⟩) (.b (.b (.t []) (.t [])) (.t [])) .o))⟩
instance {t0 r}:Con (ref09_Type t0=some r) (Den Tryz.prog 149 [e_GValue t0] (e_GType r)):=⟨fun h=>by
 refine dk 7 Hg ?_
 simp only[Hg,Kf.of,zs,ze]
 unfold ref09_Type at h
 exact pg trivial .o⟩
instance {t0 r}:Con (daterange_Valid t0=some r) (Den Tryz.prog 163 [e_GDateRange t0] (e_bool r)):=⟨fun h=>by
 refine dk 17 Nd ?_
 simp only[Nd,Kf.of,zs,ze]
 unfold daterange_Valid at h
 exact pg trivial (.z 1 (.j 1 (fun(j3:Bool)=>⟨[.k 2,.s (e_bool j3),.p 15],[]⟩) (.b (.b (.t []) (.t [])) (.t [])) .o))⟩
instance {t0 r}:Con (lexer_reserved t0=some r) (Den Tryz.prog 169 [e_str t0] (e_bool r)):=⟨fun h=>by
 refine dk 59 Td ?_
 simp only[Td,Kf.of,zs,ze]
 unfold lexer_reserved at h
 exact pg trivial (.z 3 (.j 1 (fun(j55:Bool)=>⟨[.k 4,.s (e_bool j55),.p 55],[]⟩) (.b (.t []) (.b (.t []) (.b (.t []) (.b (.t []) (.b (.t []) (.b (.t []) (.b (.t []) (.b (.t []) (.b (.t []) (.b (.t []) (.b (.t []) (.b (.t []) (.b (.t []) (.b (.t []) (.b (.t []) (.b (.t []) (.b (.t []) (.b (.t []) (.b (.t []) (.b (.t []) (.b (.t []) (.b (.t []) (.b (.t []) (.b (.t []) (.b (.t []) (.b (.t []) (.b (.t []) (.b (.t []) (.b (.t []) (.b (.t []) (.b (.t []) (.b (.t []) (.b (.t []) (.b (.t []) (.b (.t []) (.b (.t []) (.b (.t []) (.b (.t []) (.b (.t []) (.b (.t []) (.b (.t []) (.b (.t []) (.b (.t []) (.b (.t []) (.b (.t []) (.b (.t []) (.b (.t []) (.b (.t []) (.b (.t []) (.b (.t []) (.b (.t []) (.b (.t []) (.b (.t []) (.b (.t []) (.t []))))))))))))))))))))))))))))))))))))))))))))))))))))))) .o))⟩
theorem Da{t0 t1 r} (h:law_checkField_c1 t0 t1=some r):Den Tryz.prog 224 [e_GField t0,e_p_GField t1] (e_bool r):=by
 refine dk 7 qe ?_
 simp only[qe,Kf.of,zs,ze]
 unfold law_checkField_c1 at h
 exact pg trivial .o
instance {t0 t1 r}:Con (law_checkField_c1 t0 t1=some r) (Den Tryz.prog 224 [e_GField t0,e_p_GField t1] (e_bool r)):=⟨Da⟩
instance {t0 r}:Con (ref08_lower t0=some r) (Den Tryz.prog 234 [e_u8 t0] (e_bool r)):=⟨fun h=>by
 refine dk 8 Kh ?_
 simp only[Kh,Kf.of,zs,ze]
 unfold ref08_lower at h
 exact pg trivial (.z 1 (.j 1 (fun(j2:Bool)=>⟨[.k 2,.s (e_bool j2),.p 6],[]⟩) (.b (.t []) (.t [])) .o))⟩
instance {t0 r}:Con (ref17_plainText t0=some r) (Den Tryz.prog 241 [e_str t0] (e_bool r)):=⟨fun h=>by
 refine dk 28 Th ?_
 simp only[Th,Kf.of,zs,ze]
 unfold ref17_plainText at h
 exact pg @ref17_plainText_L1.eq_1 (.l 1 0 (fun(s1:Int)=>⟨[.p 2,.k 1,.s (e_i64 s1),.p 25],[]⟩) (fun(_:Unit)=>⟨[.p 2],[]⟩) [] (.b (.z 1 (.j 1 (fun(j6:Bool)=>⟨[.p 4,.k 21,.s (e_bool j6),.p 3],[]⟩) (.b (.b (.t []) (.t [])) (.t [])) (.b .o (.t [])))) (.t [])) .o)⟩
theorem oa{t0}{t1:GField→Option Bool}{k1:Nat}{q1:List D}(hc1:idfrees q1=true)(hp1:∀ x0 r,t1 x0=some r→Den Tryz.prog k1 ([e_GField x0]++q1) (e_bool r)){r} (h:slices_IndexFunc_api_Field_api_Field t0 t1=some r):Den Tryz.prog 263 [e_s_GField t0,.fn k1 [] q1] (e_i64 r):=by
 haveI I1:∀ x0 r,Con (t1 x0=some r) (Den Tryz.prog k1 ([e_GField x0]++q1) (e_bool r)):=fun x0 r=>⟨hp1 x0 r⟩
 have s1:∀ f:D→D→Prop,SqS f q1 q1=True:=fun _=>sqS_same hc1
 have z1:∀ a b n,rfL a b n q1=q1:=fun _ _ _=>rfL_free _ _ _ _ hc1
 refine Den.at 17 Yc.ok Yc.nm (frC (frF hc1 frN)) rfl ?_
 simp only[Yc,Kf.of,zs,ze]
 unfold slices_IndexFunc_api_Field_api_Field at h
 exact pg @slices_IndexFunc_api_Field_api_Field_L1.eq_1 (.l 1 0 (fun(s1:Int)=>⟨[.p 4,.k 3,.p 1,.s (e_i64 s1),.p 10],[]⟩) (fun(_:Unit)=>⟨[],[]⟩) [] (.b (.b .o (.t [])) (.t [])) .o)
instance {t0 r}:Con (ref17_fieldTypes t0=some r) (Den Tryz.prog 270 [e_s_GField t0] (e_s_GType r)):=⟨fun h=>by
 refine dk 19 Ai ?_
 simp only[Ai,Kf.of,zs,ze]
 unfold ref17_fieldTypes at h
 exact pg @ref17_fieldTypes_L1.eq_1 (.l 2 1 (fun(q:((List GType) × Int))=>⟨[.p 2,.k 1,.s (.own 0 0),.s (e_i64 q.2),.p 15],[.n 2 ((q.1.map e_GType))]⟩) (fun(b8:(List GType))=>⟨[.k 3,.s (.own 0 0)],[.n 2 ((b8.map e_GType))]⟩) [on 2] (.b (.t [ov 0 1]) (.t [ok 0])) .o)⟩
instance {t0 t1 r}:Con (ref10_insert t0 t1=some r) (Den Tryz.prog 294 [e_s_i64 t0,e_i64 t1] (e_s_i64 r)):=⟨fun h=>by
 refine dk 46 Vi ?_
 simp only[Vi,Kf.of,zs,ze]
 unfold ref10_insert at h
 exact pg @ref10_insert_L1.eq_1 (.l 3 2 (fun(q:((List Int) × Bool × Int))=>⟨[.p 4,.k 1,.s (.own 0 0),.s (e_bool q.2.1),.s (e_i64 q.2.2),.p 40],[.n 1 ((q.1.map e_i64))]⟩) (fun(q:((List Int) × Bool))=>⟨[.k 1,.p 3,.k 1,.s (.own 0 0),.s (e_bool q.2)],[.n 1 ((q.1.map e_i64))]⟩) [on 1] (.b (.z 1 (.j 2 (fun(q:((List Int) × Bool))=>⟨[.p 6,.s (e_bool q.2),.p 1],[.c 0 ((q.1.map e_i64))]⟩) (.j 1 (fun(j7:Bool)=>⟨[.p 8,.k 15,.s (e_bool j7),.p 24],[.o 0]⟩) (.b (.t [ok 0]) (.t [ok 0])) (.b (.j 1 (fun(j12:(List Int))=>⟨[.p 6,.k 1,.p 16],[.c 0 ((j12.map e_i64))]⟩) (.b (.t [ov 0 1]) (.t [ok 0])) (.t [ok 0])) (.t [ok 0]))) (.t [ov 0 1]))) (.t [ok 0])) (.j 1 (fun(j24:(List Int))=>⟨[.k 5,.p 1],[.c 0 ((j24.map e_i64))]⟩) (.b (.t [ov 0 1]) (.t [ok 0])) .o))⟩
theorem Ga{t0 r} (h:ref10_number t0=some r):Den Tryz.prog 340 [e_i64 t0] (e_bool r):=by
 refine dk 12 Kj ?_
 simp only[Kj,Kf.of,zs,ze]
 unfold ref10_number at h
 exact pg trivial (.z 1 (.j 1 (fun(j3:Bool)=>⟨[.k 2,.s (e_bool j3),.p 10],[]⟩) (.b (.b (.t []) (.t [])) (.t [])) .o))
instance {t0 r}:Con (ref10_number t0=some r) (Den Tryz.prog 340 [e_i64 t0] (e_bool r)):=⟨Ga⟩
end Go.Proofs.Dev
