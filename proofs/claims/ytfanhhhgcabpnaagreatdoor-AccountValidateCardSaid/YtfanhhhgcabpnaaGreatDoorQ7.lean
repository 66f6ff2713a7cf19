/-
  Contracts of the functions: each answers as its plain partial function says.
-/
import Derived.Test.YtfanhhhgcabpnaaGreatDoorK
import Derived.Test.YtfanhhhgcabpnaaGreatDoorG
import Derived.Test.YtfanhhhgcabpnaaGreatDoorPD
import Derived.Test.YtfanhhhgcabpnaaGreatDoorL1
import Derived.Test.YtfanhhhgcabpnaaGreatDoorQ0
import Derived.Test.YtfanhhhgcabpnaaGreatDoorQ1
import Derived.Test.YtfanhhhgcabpnaaGreatDoorQ2
import Derived.Test.YtfanhhhgcabpnaaGreatDoorQ3
set_option linter.all false
set_option maxHeartbeats 1000000
set_option maxRecDepth 10000
namespace Go.Proofs.Dev
open Go Go.Tm
instance {t0 r}:Con (same_SmallLaw t0=some r) (Den Tryz.prog 7 [e_GLaw t0] (e_bool r)):=⟨fun h=>by
 refine dk 126 k7 ?_
 simp only[k7,Kf.of,zs,ze]
 unfold same_SmallLaw at h
 exact pg (And.intro @same_SmallLaw_L11.eq_1 (And.intro @same_SmallLaw_L12.eq_1 (And.intro @same_SmallLaw_L13.eq_1 @same_SmallLaw_L8.eq_1))) (.z 2 (.j 1 (fun(j3:Bool)=>⟨[.k 1,.p 1,.k 22,.s (e_bool j3),.p 102],[.o 0]⟩) (.b (.b (.t [ok 0]) (.t [ok 0])) (.t [ok 0])) (.b .o (.l 1 0 (fun(s5:Int)=>⟨[.k 1,.p 4,.s (e_i64 s5),.p 18],[.o 0]⟩) (fun(_:Unit)=>⟨[.k 1,.p 4],[.o 0]⟩) [ok 0] (.b (.z 2 (.j 1 (fun(j9:Bool)=>⟨[.k 1,.p 24,.k 24,.s (e_bool j9),.p 77],[.o 0]⟩) (.b (.t [ok 0]) (.t [ok 0])) (.b .o (.l 1 0 (fun(s11:Int)=>⟨[.k 1,.p 5,.s (e_i64 s11),.p 42],[.o 0]⟩) (fun(_:Unit)=>⟨[.k 1,.p 5],[.o 0]⟩) [ok 0] (.b (.b .o (.t [ok 0])) (.t [ok 0])) (.t [ok 0]))))) (.t [ok 0])) (.l 2 0 (fun(q:(Int × Int))=>⟨[.k 1,.p 2,.s (e_i64 q.1),.p 3,.s (e_i64 q.2),.p 119],[.o 0]⟩) (fun(_:Unit)=>⟨[.k 1,.p 2,.k 1,.p 3],[.o 0]⟩) [ok 0] (.b (.z 2 (.j 1 (fun(j23:Bool)=>⟨[.k 1,.p 71,.k 27,.s (e_bool j23),.p 27],[.o 0]⟩) (.b (.t [ok 0]) (.t [ok 0])) (.b .o (.t [ok 0])))) (.t [ok 0])) (.l 2 0 (fun(q:(Int × Int))=>⟨[.k 1,.p 3,.s (e_i64 q.1),.p 3,.s (e_i64 q.2),.p 118],[.o 0]⟩) (fun(_:Unit)=>⟨[],[]⟩) [ok 0] (.b (.z 2 (.j 1 (fun(j33:Bool)=>⟨[.k 1,.p 99,.k 26,.s (e_bool j33)],[.o 0]⟩) (.b (.t [ok 0]) (.t [ok 0])) (.b .o (.t [ok 0])))) (.t [])) .o))))))⟩
instance {t0 r}:Con (same_SmallAccount t0=some r) (Den Tryz.prog 44 [e_GAccount t0] (e_bool r)):=⟨fun h=>by
 refine dk 17 km ?_
 simp only[km,Kf.of,zs,ze]
 unfold same_SmallAccount at h
 exact pg trivial (.z 1 (.j 1 (fun(j4:Bool)=>⟨[.k 2,.s (e_bool j4),.p 15],[]⟩) (.b (.b (.t []) (.t [])) (.t [])) .o))⟩
instance {t0 r}:Con (ref41_Valid t0=some r) (Den Tryz.prog 59 [e_GAppeal t0] (e_bool r)):=⟨fun h=>by
 refine dk 58 xm ?_
 simp only[xm,Kf.of,zs,ze]
 unfold ref41_Valid at h
 exact pg trivial (.z 2 (.j 1 (fun(j6:Bool)=>⟨[.k 1,.p 1,.k 28,.s (e_bool j6),.p 28],[.o 0]⟩) (.b (.b (.b (.b (.t [ok 0]) (.t [ok 0])) (.t [ok 0])) (.t [ok 0])) (.t [ok 0])) (.b .o (.j 1 (fun(j13:Bool)=>⟨[.k 2,.s (e_bool j13),.p 27],[]⟩) (.b (.b (.b (.b (.b (.t []) (.t [])) (.t [])) (.t [])) (.t [])) (.t [])) .o))))⟩
instance {t0 t1 r}:Con (value_Bounds t0 t1=some r) (Den Tryz.prog 96 [e_GType t0,e_s_GEnum t1] (.tup [e_i64 r.1,e_i64 r.2])):=⟨fun h=>by
 refine dk 28 Gl ?_
 simp only[Gl,Kf.of,zs,ze]
 unfold value_Bounds at h
 exact pg trivial .o⟩
instance {t0 t1 r}:Con (slices_Contains_string_string t0 t1=some r) (Den Tryz.prog 162 [e_s_str t0,e_str t1] (e_bool r)):=⟨fun h=>by
 refine dk 7 Md ?_
 simp only[Md,Kf.of,zs,ze]
 unfold slices_Contains_string_string at h
 exact pg trivial .o⟩
instance {t0 r}:Con (lexer_nameLength t0=some r) (Den Tryz.prog 168 [e_str t0] (e_i64 r)):=⟨fun h=>by
 refine dk 28 Sd ?_
 simp only[Sd,Kf.of,zs,ze]
 unfold lexer_nameLength at h
 exact pg @lexer_nameLength_L1.eq_1 (.l 1 1 (fun(s1:Int)=>⟨[.p 2,.k 1,.s (e_i64 s1),.p 25],[]⟩) (fun(b11:Int)=>⟨[.k 3,.s (e_i64 b11),.p 25],[]⟩) [] (.z 1 (.j 1 (fun(j8:Bool)=>⟨[.p 25,.s (e_bool j8),.p 3],[]⟩) (.b (.b (.b (.t []) (.t [])) (.t [])) (.t [])) (.b (.t []) (.t [])))) .o)⟩
theorem la{t0}{t1:GTable→Option Bool}{k1:Nat}{q1:List D}(hc1:idfrees q1=true)(hp1:∀ x0 r,t1 x0=some r→Den Tryz.prog k1 ([e_GTable x0]++q1) (e_bool r)){r} (h:slices_ContainsFunc_api_Table_api_Table t0 t1=some r):Den Tryz.prog 172 [e_s_GTable t0,.fn k1 [] q1] (e_bool r):=by
 haveI I1:∀ x0 r,Con (t1 x0=some r) (Den Tryz.prog k1 ([e_GTable x0]++q1) (e_bool r)):=fun x0 r=>⟨hp1 x0 r⟩
 have s1:∀ f:D→D→Prop,SqS f q1 q1=True:=fun _=>sqS_same hc1
 have z1:∀ a b n,rfL a b n q1=q1:=fun _ _ _=>rfL_free _ _ _ _ hc1
 haveI:∀ y0 r,Con (slices_IndexFunc_api_Table_api_Table y0 t1=some r) (Den Tryz.prog 222 [e_s_GTable y0,.fn k1 [] q1] (e_i64 r)):=fun y0 r=>⟨qa hc1 hp1⟩
 refine Den.at 7 Qc.ok Qc.nm (frC (frF hc1 frN)) rfl ?_
 simp only[Qc,Kf.of,zs,ze]
 unfold slices_ContainsFunc_api_Table_api_Table at h
 exact pg trivial .o
theorem ka{t0}{t1:GScope→Option Bool}{k1:Nat}{q1:List D}(hc1:idfrees q1=true)(hp1:∀ x0 r,t1 x0=some r→Den Tryz.prog k1 ([e_GScope x0]++q1) (e_bool r)){r} (h:slices_ContainsFunc_api_Scope_api_Scope t0 t1=some r):Den Tryz.prog 174 [e_s_GScope t0,.fn k1 [] q1] (e_bool r):=by
 haveI I1:∀ x0 r,Con (t1 x0=some r) (Den Tryz.prog k1 ([e_GScope x0]++q1) (e_bool r)):=fun x0 r=>⟨hp1 x0 r⟩
 have s1:∀ f:D→D→Prop,SqS f q1 q1=True:=fun _=>sqS_same hc1
 have z1:∀ a b n,rfL a b n q1=q1:=fun _ _ _=>rfL_free _ _ _ _ hc1
 haveI:∀ y0 r,Con (slices_IndexFunc_api_Scope_api_Scope y0 t1=some r) (Den Tryz.prog 223 [e_s_GScope y0,.fn k1 [] q1] (e_i64 r)):=fun y0 r=>⟨pa hc1 hp1⟩
 refine Den.at 7 Rc.ok Rc.nm (frC (frF hc1 frN)) rfl ?_
 simp only[Rc,Kf.of,zs,ze]
 unfold slices_ContainsFunc_api_Scope_api_Scope at h
 exact pg trivial .o
instance {t0 t1 r}:Con (ref17_Signature t0 t1=some r) (Den Tryz.prog 242 [e_GLaw t0,e_i64 t1] (e_GSignature r)):=⟨fun h=>by
 refine dk 53 Uh ?_
 simp only[Uh,Kf.of,zs,ze]
 unfold ref17_Signature at h
 exact pg trivial (.z 2 (.j 1 (fun(j2:Bool)=>⟨[.k 1,.p 14,.s (e_bool j2),.p 39],[.o 0,.o 1]⟩) (.b (.t [ok 0,ok 1]) (.t [ok 0,ok 1])) (.b .o (.z 2 (.j 2 (fun(q:((List GType) × Bool))=>⟨[.k 4,.p 1,.k 1,.p 9],[.o 1,.h 3 [.g [.p 4,.s (e_s_GType q.1),.s (e_bool q.2)]]]⟩) (.j 1 (fun(j8:Bool)=>⟨[.k 2,.p 13,.k 28,.s (e_bool j8),.p 11],[.o 0,.o 1,.o 2,.o 3]⟩) (.b (.t [ok 0,ok 1,ok 2,ok 3]) (.t [ok 0,ok 1,ok 2,ok 3])) (.b (.t [ok 1,ok 3]) (.t [ok 1,ok 3]))) .o)))))⟩
instance {t0 r}:Con (ref10_References t0=some r) (Den Tryz.prog 273 [e_s_GNode t0] (.tup [e_s_i64 r.1,e_s_i64 r.2.1,e_s_i64 r.2.2])):=⟨fun h=>by
 refine dk 54 Di ?_
 simp only[Di,Kf.of,zs,ze]
 unfold ref10_References at h
 exact pg @ref10_References_L1.eq_1 (.l 4 3 (fun(q:((List Int) × (List Int) × (List Int) × Int))=>⟨[.p 2,.k 3,.s (e_s_i64 q.1),.s (e_s_i64 q.2.1),.s (e_s_i64 q.2.2.1),.s (e_i64 q.2.2.2),.p 46],[]⟩) (fun(q:((List Int) × (List Int) × (List Int)))=>⟨[.k 5,.s (e_s_i64 q.1),.s (e_s_i64 q.2.1),.s (e_s_i64 q.2.2)],[]⟩) [] (.b (.j 3 (fun(q:((List Int) × (List Int) × (List Int)))=>⟨[.p 5,.s (e_s_i64 q.1),.s (e_s_i64 q.2.1),.s (e_s_i64 q.2.2),.p 2],[]⟩) (.z 1 (.j 1 (fun(j9:(List Int))=>⟨[.p 5,.s (e_s_i64 j9),.p 4],[]⟩) (.b (.t []) (.t [])) (.j 1 (fun(j12:(List Int))=>⟨[.p 6,.s (e_s_i64 j12),.p 48],[]⟩) (.b (.t []) (.t [])) (.j 1 (fun(j14:Bool)=>⟨[.p 9,.k 35,.s (e_bool j14),.p 10],[]⟩) (.b (.t []) (.t [])) (.b (.t []) (.t [])))))) (.t [])) (.t [])) .o)⟩
instance {t0 t1 t2 r}:Con (expr_listedType t0 t1 t2=some r) (Den Tryz.prog 310 [e_i64 t0,e_s_GType t1,e_GSignature t2] (.tup [e_GType r.1,e_i64 r.2])):=⟨fun h=>by
 refine dk 27 Pe ?_
 simp only[Pe,Kf.of,zs,ze]
 unfold expr_listedType at h
 exact pg trivial (.z 2 (.j 1 (fun(j2:Bool)=>⟨[.p 2,.k 3,.p 2,.k 8,.s (e_bool j2),.p 14],[.o 0,.o 1]⟩) (.b (.t [ok 0,ok 1]) (.t [ok 0,ok 1])) .o))⟩
instance {t0 t1 t2 r}:Con (expr_tableType t0 t1 t2=some r) (Den Tryz.prog 311 [e_GNode t0,e_GType t1,e_GSignature t2] (.tup [e_GType r.1,e_i64 r.2])):=⟨fun h=>by
 refine dk 81 Qe ?_
 simp only[Qe,Kf.of,zs,ze]
 unfold expr_tableType at h
 exact pg trivial (.z 2 (.e 1 (fun(j6:Int)=>⟨[.k 3,.p 4,.k 1,.s (e_i64 j6),.p 2],[.o 0,.o 1,.o 2,.o 3]⟩) (.b (.z 1 (.j 1 (fun(j4:Bool)=>⟨[.k 3,.p 4,.k 18,.s (e_bool j4),.p 58],[.o 0,.o 1,.o 2,.o 3]⟩) (.b (.t [ok 0,ok 1,ok 2,ok 3]) (.t [ok 0,ok 1,ok 2,ok 3])) (.b .o (.t [ok 0,ok 1,ok 2,ok 3])))) (.t [ok 0,ok 1,ok 2,ok 3])) (.z 1 (.j 1 (fun(j8:Bool)=>⟨[.k 3,.p 35,.s (e_bool j8),.p 45],[.o 0,.o 1,.o 2,.o 3]⟩) (.b (.t [ok 0,ok 1,ok 2,ok 3]) (.t [ok 0,ok 1,ok 2,ok 3])) (.b .o (.z 1 (.f ⟨[.k 3,.p 81],[.o 0,.o 1,.o 2,.o 3,.n 2 [],.n 2 []]⟩ [ok 0,ok 1,ok 2,ok 3,on 2,on 2] (.g [[],[],[],[],[],[],[],[],[],[],[],[],[1,3,5,7,9,11],[1,3,5,7,9,11,12],[7,9,11]] [none,none,none,none,none,none,none,none,none,none,none,none,some 4,some 5,none] (.z 1 (.j 1 (fun(j15:Bool)=>⟨[.k 3,.p 1,.k 2,.p 2,.k 1,.p 29,.k 30,.s (e_bool j15),.p 15],[.o 0,.o 3,.o 4,.o 5]⟩) (.b (.b (.t [ok 0,ok 3,ov 4 1,ov 5 1]) (.t [ok 0,ok 3,ov 4 1,ov 5 1])) (.t [ok 0,ok 3,ov 4 1,ov 5 1])) (.b .o (.b (.z 1 (.j 1 (fun(j19:Bool)=>⟨[.k 6,.p 4,.k 70,.s (e_bool j19),.p 3],[.o 1,.o 2]⟩) (.b (.t [ok 1,ok 2]) (.t [ok 1,ok 2])) .o)) .o))))))))))))⟩
instance {t0 t1 t2 r}:Con (law43_small t0 t1 t2=some r) (Den Tryz.prog 20 [e_GLaw t0,e_GPayConfig t1,e_GAccount t2] (e_bool r)):=⟨fun h=>by
 refine dk 14 Sl ?_
 simp only[Sl,Kf.of,zs,ze]
 unfold law43_small at h
 exact pg trivial (.z 1 (.j 1 (fun(j6:Bool)=>⟨[.k 6,.s (e_bool j6),.p 10],[]⟩) (.b (.b (.t []) (.t [])) (.t [])) .o))⟩
theorem xa{t0 r} (h:lexer_IsIdentifier t0=some r):Den Tryz.prog 110 [e_str t0] (e_bool r):=by
 refine dk 26 Cd ?_
 simp only[Cd,Kf.of,zs,ze]
 unfold lexer_IsIdentifier at h
 exact pg trivial (.z 1 (.j 1 (fun(j9:Bool)=>⟨[.k 2,.s (e_bool j9),.p 24],[]⟩) (.b (.b (.b (.b (.t []) (.t [])) (.t [])) (.t [])) (.t [])) .o))
instance {t0 r}:Con (lexer_IsIdentifier t0=some r) (Den Tryz.prog 110 [e_str t0] (e_bool r)):=⟨xa⟩
instance {t0 c10 r}:Con (slices_ContainsFunc_api_Table_api_Table t0 (fun x900=>law_hasTable_c1 x900 c10)=some r) (Den Tryz.prog 172 [e_s_GTable t0,.fn 173 [] [e_p_str c10]] (e_bool r)):=⟨fun h=>la (q1:=[e_p_str c10]) (frC frN) (fun x900 _ hb=>Ja hb) h⟩
theorem nb{t0 t1 r} (h:law_hasTable t0 t1=some r):Den Tryz.prog 112 [e_s_GTable t0,e_str t1] (e_bool r):=by
 refine dk 6 Gd ?_
 simp only[Gd,Kf.of,zs,ze]
 unfold law_hasTable at h
 exact pg trivial .o
instance {t0 t1 r}:Con (law_hasTable t0 t1=some r) (Den Tryz.prog 112 [e_s_GTable t0,e_str t1] (e_bool r)):=⟨nb⟩
instance {t0 t1 r}:Con (ref16_Direct t0 t1=some r) (Den Tryz.prog 244 [e_GScope t0,e_i64 t1] (e_s_i64 r)):=⟨fun h=>by
 refine dk 91 Xh ?_
 simp only[Xh,Kf.of,zs,ze]
 unfold ref16_Direct at h
 exact pg (And.intro @ref16_Direct_L13.eq_1 (And.intro @ref16_Direct_L11.eq_1 @ref16_Direct_L12.eq_1)) (.b .o (.l 2 1 (fun(q:((List Int) × Int))=>⟨[.k 1,.p 3,.k 1,.s (e_s_i64 q.1),.s (e_i64 q.2),.p 8],[.o 0]⟩) (fun(b35:(List Int))=>⟨[.k 5,.s (e_s_i64 b35)],[]⟩) [ok 0] (.b (.j 1 (fun(j32:(List Int))=>⟨[.k 1,.p 4,.s (e_s_i64 j32),.p 13],[.o 0]⟩) (.b (.t [ok 0]) (.l 2 1 (fun(q:((List Int) × Int))=>⟨[.k 1,.p 4,.s (e_s_i64 q.1),.p 1,.k 1,.p 1,.k 2,.p 1,.k 1,.s (e_i64 q.2),.p 5],[.o 0]⟩) (fun(b20:(List Int))=>⟨[.k 1,.p 4,.s (e_s_i64 b20),.p 1,.k 4,.p 1],[.o 0]⟩) [ok 0] (.b (.j 1 (fun(j17:(List Int))=>⟨[.k 1,.p 4,.s (e_s_i64 j17),.p 50],[.o 0]⟩) (.b (.t [ok 0]) (.t [ok 0])) (.t [ok 0])) (.t [ok 0])) (.l 2 1 (fun(q:((List Int) × Int))=>⟨[.k 1,.p 4,.s (e_s_i64 q.1),.p 8,.s (e_i64 q.2),.p 78],[.o 0]⟩) (fun(b31:(List Int))=>⟨[.k 1,.p 4,.s (e_s_i64 b31),.p 5],[.o 0]⟩) [ok 0] (.b (.j 1 (fun(j28:(List Int))=>⟨[.k 1,.p 4,.s (e_s_i64 j28),.p 68],[.o 0]⟩) (.b (.t [ok 0]) (.t [ok 0])) (.t [ok 0])) (.t [ok 0])) (.t [ok 0])))) (.t [ok 0])) (.t [])) .o))⟩
instance {t0 t1 t2 r}:Con (expr_literalType t0 t1 t2=some r) (Den Tryz.prog 308 [e_i64 t0,e_i64 t1,e_GSignature t2] (.tup [e_GType r.1,e_i64 r.2])):=⟨fun h=>by
 refine dk 27 Me ?_
 simp only[Me,Kf.of,zs,ze]
 unfold expr_literalType at h
 exact pg trivial (.z 4 (.j 1 (fun(j3:Bool)=>⟨[.k 6,.p 1,.k 1,.p 1,.k 18,.s (e_bool j3),.p 2],[.o 1,.o 2]⟩) (.b (.t [ok 1,ok 2]) (.t [ok 1,ok 2])) .o))⟩
instance {t0 t1 r}:Con (expr_memberType t0 t1=some r) (Den Tryz.prog 312 [e_GNode t0,e_GSignature t1] (.tup [e_GType r.1,e_i64 r.2])):=⟨fun h=>by
 refine dk 60 Re ?_
 simp only[Re,Kf.of,zs,ze]
 unfold expr_memberType at h
 exact pg trivial (.b .o (.b .o (.b .o (.z 1 (.j 1 (fun(j13:Bool)=>⟨[.k 4,.p 1,.k 1,.p 1,.k 1,.s (e_bool j13)],[.o 2,.o 3]⟩) (.b (.b (.t [ok 2,ok 3]) (.t [ok 2,ok 3])) (.j 1 (fun(j8:Bool)=>⟨[.k 4,.p 1,.k 1,.p 1,.k 1,.p 1,.k 22,.p 1,.k 10,.s (e_bool j8),.p 19],[.o 2,.o 3]⟩) (.b (.t [ok 2,ok 3]) (.t [ok 2,ok 3])) (.b (.t [ok 0,ok 1]) (.b (.b (.t [ok 0,ok 1]) (.t [ok 0,ok 1])) (.t [ok 0,ok 1]))))) .o)))))⟩
end Go.Proofs.Dev
