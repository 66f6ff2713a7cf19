/-
  Contracts of the functions: each answers as its plain partial function says.
-/
import Derived.Test.YtfanhhhgcabpnaaGreatDoorK
import Derived.Test.YtfanhhhgcabpnaaGreatDoorG
import Derived.Test.YtfanhhhgcabpnaaGreatDoorPD
import Derived.Test.YtfanhhhgcabpnaaGreatDoorL1
import Derived.Test.YtfanhhhgcabpnaaGreatDoorQ4
import Derived.Test.YtfanhhhgcabpnaaGreatDoorQ5
import Derived.Test.YtfanhhhgcabpnaaGreatDoorQ6
import Derived.Test.YtfanhhhgcabpnaaGreatDoorQ7
set_option linter.all false
set_option maxHeartbeats 1000000
set_option maxRecDepth 10000
namespace Go.Proofs.Dev
open Go Go.Tm
instance {t0 r}:Con (ref34_Validate t0=some r) (Den Tryz.prog 101 [e_s_GFact t0] (.tup [e_i64 r.1,e_i64 r.2])):=⟨fun h=>by
 refine dk 21 Uf ?_
 simp only[Uf,Kf.of,zs,ze]
 unfold ref34_Validate at h
 exact pg @ref34_Validate_L1.eq_1 (.b .o (.l 1 0 (fun(s2:Int)=>⟨[.p 2,.k 2,.s (e_i64 s2),.p 1],[]⟩) (fun(_:Unit)=>⟨[],[]⟩) [] (.b (.b .o (.t [])) (.t [])) .o))⟩
instance {t0 t1 t2 r}:Con (ref35_factError t0 t1 t2=some r) (Den Tryz.prog 102 [e_GLaw t0,e_GHousehold t1,e_GFact t2] (e_i64 r)):=⟨fun h=>by
 refine dk 61 Vf ?_
 simp only[Vf,Kf.of,zs,ze]
 unfold ref35_factError at h
 exact pg trivial (.b .o (.z 1 (.j 1 (fun(j5:(List GField))=>⟨[.k 3,.p 1,.k 1,.p 1,.k 1,.s (e_s_GField j5),.p 1],[.o 0,.o 2]⟩) (.b (.t [ok 0,ok 2]) (.t [ok 0,ok 2])) (.z 1 (.e 2 (fun(q:(Int × Int))=>⟨[.k 3,.p 4,.k 1,.p 23],[.o 0,.o 1,.h 2 [.g [.s (e_i64 q.1),.s (e_i64 q.2)]]]⟩) (.b (.z 1 (.j 1 (fun(j8:Bool)=>⟨[.k 3,.p 28,.k 13,.s (e_bool j8),.p 19],[.o 0,.o 1,.o 2]⟩) (.b (.t [ok 0,ok 1,ok 2]) (.t [ok 0,ok 1,ok 2])) (.b .o (.t [ok 0,ok 1,ok 2])))) (.t [ok 0,ok 1,ok 2])) .o)))))⟩
instance {t0 t1 r}:Con (table_conflict t0 t1=some r) (Den Tryz.prog 166 [e_GRow t0,e_GRow t1] (e_bool r)):=⟨fun h=>by
 refine dk 27 Pd ?_
 simp only[Pd,Kf.of,zs,ze]
 unfold table_conflict at h
 exact pg trivial (.z 2 (.j 1 (fun(j3:Bool)=>⟨[.k 4,.s (e_bool j3)],[]⟩) (.b (.t []) (.t [])) .o))⟩
instance {t0 c10 r}:Con (slices_ContainsFunc_api_Field_api_Field t0 (fun x900=>law_checkField_c1 x900 c10)=some r) (Den Tryz.prog 225 [e_s_GField t0,.fn 224 [] [e_p_GField c10]] (e_bool r)):=⟨fun h=>ja (q1:=[e_p_GField c10]) (frC frN) (fun x900 _ hb=>Da hb) h⟩
theorem db{t0 t1 t2 t3 r} (h:law_checkField t0 t1 t2 t3=some r):Den Tryz.prog 176 [e_GLaw t0,e_GField t1,e_s_GField t2,e_s_GField t3] (e_i64 r):=by
 refine dk 28 Xd ?_
 simp only[Xd,Kf.of,zs,ze]
 unfold law_checkField at h
 exact pg trivial (.b .o (.j 1 (fun(j6:Bool)=>⟨[.k 4,.p 4,.k 8,.s (e_bool j6),.p 15],[.o 0,.o 1]⟩) (.b (.t [ok 0,ok 1]) (.t [ok 0,ok 1])) .o))
instance {t0 t1 t2 t3 r}:Con (law_checkField t0 t1 t2 t3=some r) (Den Tryz.prog 176 [e_GLaw t0,e_GField t1,e_s_GField t2,e_s_GField t3] (e_i64 r)):=⟨db⟩
instance {t0 t1 t2 r}:Con (ref12_wrong t0 t1 t2=some r) (Den Tryz.prog 238 [e_GRow t0,e_GTable t1,e_s_GEnum t2] (e_bool r)):=⟨fun h=>by
 refine dk 50 Ph ?_
 simp only[Ph,Kf.of,zs,ze]
 unfold ref12_wrong at h
 exact pg trivial (.z 2 (.j 1 (fun(j4:Bool)=>⟨[.k 2,.p 4,.k 20,.s (e_bool j4),.p 26],[.o 0,.o 1]⟩) (.b (.b (.t [ok 0,ok 1]) (.t [ok 0,ok 1])) (.t [ok 0,ok 1])) (.b .o (.j 1 (fun(j11:Bool)=>⟨[.k 6,.s (e_bool j11),.p 19],[]⟩) (.b (.b (.t []) (.t [])) (.t [])) .o))))⟩
instance {t0 t1 r}:Con (ref35_Validate t0 t1=some r) (Den Tryz.prog 54 [e_GLaw t0,e_GHousehold t1] (.tup [e_i64 r.1,e_i64 r.2])):=⟨fun h=>by
 refine dk 79 rm ?_
 simp only[rm,Kf.of,zs,ze]
 unfold ref35_Validate at h
 exact pg @ref35_Validate_L1.eq_1 (.z 2 (.j 1 (fun(j2:Bool)=>⟨[.k 2,.p 2,.k 18,.s (e_bool j2),.p 58],[.o 0,.o 1]⟩) (.b (.t [ok 0,ok 1]) (.t [ok 0,ok 1])) (.b .o (.z 2 (.j 1 (fun(j9:Bool)=>⟨[.k 2,.p 4,.k 45,.s (e_bool j9),.p 29],[.o 0,.o 1]⟩) (.b (.b (.b (.b (.t [ok 0,ok 1]) (.t [ok 0,ok 1])) (.t [ok 0,ok 1])) (.t [ok 0,ok 1])) (.t [ok 0,ok 1])) (.b .o (.b .o (.l 1 0 (fun(s13:Int)=>⟨[.k 2,.p 6,.k 2,.s (e_i64 s13),.p 40],[.o 0,.o 1]⟩) (fun(_:Unit)=>⟨[],[]⟩) [ok 0,ok 1] (.b (.b .o (.t [ok 0,ok 1])) (.t [])) .o))))))))⟩
theorem Fa{t0 t1 r} (h:table_Validate_c1 t0 t1=some r):Den Tryz.prog 165 [e_GRow t0,e_p_GRow t1] (e_bool r):=by
 refine dk 5 Od ?_
 simp only[Od,Kf.of,zs,ze]
 unfold table_Validate_c1 at h
 exact pg trivial .o
instance {t0 t1 r}:Con (table_Validate_c1 t0 t1=some r) (Den Tryz.prog 165 [e_GRow t0,e_p_GRow t1] (e_bool r)):=⟨Fa⟩
instance {t0 t1 r}:Con (ref12_Validate t0 t1=some r) (Den Tryz.prog 183 [e_GTable t0,e_s_GEnum t1] (.tup [e_i64 r.1,e_i64 r.2])):=⟨fun h=>by
 refine dk 55 Wg ?_
 simp only[Wg,Kf.of,zs,ze]
 unfold ref12_Validate at h
 exact pg (And.intro @ref12_Validate_L9.eq_1 @ref12_Validate_L8.eq_1) (.b .o (.z 1 (.j 1 (fun(j5:Bool)=>⟨[.k 1,.p 3,.k 19,.s (e_bool j5),.p 33],[.o 0]⟩) (.b (.t [ok 0]) (.t [ok 0])) (.b .o (.l 1 0 (fun(s7:Int)=>⟨[.k 1,.p 5,.s (e_i64 s7),.p 16],[.o 0]⟩) (fun(_:Unit)=>⟨[],[]⟩) [ok 0] (.b (.b .o (.l 1 0 (fun(s12:Int)=>⟨[.k 1,.p 6,.s (e_i64 s12),.p 16],[.o 0]⟩) (fun(_:Unit)=>⟨[.k 1,.p 6],[.o 0]⟩) [ok 0] (.b (.b .o (.t [ok 0])) (.t [ok 0])) (.t [ok 0]))) (.t [])) .o)))))⟩
instance {t0 c10 r}:Con (table_first_api_Row t0 (fun x900=>table_Validate_c1 x900 c10)=some r) (Den Tryz.prog 164 [e_s_GRow t0,.fn 165 [] [e_p_GRow c10]] (.tup [e_i64 r.1,e_bool r.2])):=⟨fun h=>Oa (q1:=[e_p_GRow c10]) (frC frN) (fun x900 _ hb=>Fa hb) h⟩
theorem gb{t0 t1 r} (h:table_Validate t0 t1=some r):Den Tryz.prog 109 [e_GTable t0,e_s_GEnum t1] (.tup [e_i64 r.1,e_i64 r.2]):=by
 refine dk 119 Bd ?_
 simp only[Bd,Kf.of,zs,ze]
 unfold table_Validate at h
 exact pg @table_Validate_L1.eq_1 (.b .o (.z 1 (.j 1 (fun(j5:Bool)=>⟨[.k 1,.p 3,.k 25,.s (e_bool j5),.p 91],[.o 0]⟩) (.b (.t [ok 0]) (.t [ok 0])) (.b .o (.l 1 0 (fun(s9:Int)=>⟨[.k 2,.p 27,.k 16,.p 2,.s (e_i64 s9),.p 73],[.o 0]⟩) (fun(_:Unit)=>⟨[],[]⟩) [ok 0] (.b (.z 3 (.j 1 (fun(j15:Bool)=>⟨[.k 2,.p 46,.k 23,.s (e_bool j15),.p 49],[.o 0,.o 1]⟩) (.b (.b (.t [ok 0,ok 1]) (.t [ok 0,ok 1])) (.t [ok 0,ok 1])) (.b .o (.z 1 (.j 1 (fun(j20:Bool)=>⟨[.k 2,.p 69,.k 25,.s (e_bool j20),.p 24],[.o 0,.o 1]⟩) (.b (.b (.b (.t [ok 0,ok 1]) (.t [ok 0,ok 1])) (.t [ok 0,ok 1])) (.t [ok 0,ok 1])) (.b .o (.z 1 (.j 1 (fun(j23:Bool)=>⟨[.k 2,.p 94,.k 11,.s (e_bool j23),.p 13],[.o 0,.o 1]⟩) (.b (.t [ok 0,ok 1]) (.t [ok 0,ok 1])) (.b .o (.b .o (.t [ok 0]))))))))))) (.t [])) .o)))))
instance {t0 t1 r}:Con (table_Validate t0 t1=some r) (Den Tryz.prog 109 [e_GTable t0,e_s_GEnum t1] (.tup [e_i64 r.1,e_i64 r.2])):=⟨gb⟩
instance {t0 t1 r}:Con (ref17_tableError t0 t1=some r) (Den Tryz.prog 115 [e_GLaw t0,e_i64 t1] (e_GLawError r)):=⟨fun h=>by
 refine dk 45 cg ?_
 simp only[cg,Kf.of,zs,ze]
 unfold ref17_tableError at h
 exact pg trivial (.b .o (.b .o (.b .o (.z 1 (.j 1 (fun(j9:Int)=>⟨[.k 4,.p 1,.k 1,.p 1],[.o 1,.h 3 [.g [.p 3,.s (e_i64 j9)]]]⟩) (.b (.t [ok 1,ok 3]) (.t [ok 1,ok 3])) .o)))))⟩
end Go.Proofs.Dev
