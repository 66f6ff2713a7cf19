/-
  Contracts of the functions: each answers as its plain partial function says.
-/
import Derived.Test.YtfanhhhgcabpnaaGreatDoorK
import Derived.Test.YtfanhhhgcabpnaaGreatDoorG
import Derived.Test.YtfanhhhgcabpnaaGreatDoorPD
import Derived.Test.YtfanhhhgcabpnaaGreatDoorL1
set_option linter.all false
set_option maxHeartbeats 1000000
set_option maxRecDepth 10000
namespace Go.Proofs.Dev
open Go Go.Tm
instance {t0 t1 t2 r}:Con (ref36_outside t0 t1 t2=some r) (Den Tryz.prog 30 [e_i64 t0,e_i64 t1,e_i64 t2] (e_bool r)):=⟨fun h=>by
 refine dk 12 Xl ?_
 simp only[Xl,Kf.of,zs,ze]
 unfold ref36_outside at h
 exact pg trivial (.z 1 (.j 1 (fun(j2:Bool)=>⟨[.k 6,.s (e_bool j2),.p 8],[]⟩) (.b (.t []) (.t [])) .o))⟩
instance {t0 t1 r}:Con (account_payable t0 t1=some r) (Den Tryz.prog 47 [e_GPayConfig t0,e_i64 t1] (e_bool r)):=⟨fun h=>by
 refine dk 16 bl ?_
 simp only[bl,Kf.of,zs,ze]
 unfold account_payable at h
 exact pg trivial (.z 1 (.j 1 (fun(j2:Bool)=>⟨[.k 4,.s (e_bool j2),.p 13],[]⟩) (.b (.t []) (.t [])) .o))⟩
instance {t0 r}:Con (workday_validDate t0=some r) (Den Tryz.prog 66 [e_i64 t0] (e_bool r)):=⟨fun h=>by
 refine dk 8 Bl ?_
 simp only[Bl,Kf.of,zs,ze]
 unfold workday_validDate at h
 exact pg trivial (.z 1 (.j 1 (fun(j2:Bool)=>⟨[.k 2,.s (e_bool j2),.p 6],[]⟩) (.b (.t []) (.t [])) .o))⟩
instance {t0 t1 r}:Con (household_memberInputs t0 t1=some r) (Den Tryz.prog 94 [e_GLaw t0,e_i64 t1] (.tup [e_s_GField r.1,e_bool r.2])):=⟨fun h=>by
 refine dk 26 El ?_
 simp only[El,Kf.of,zs,ze]
 unfold household_memberInputs at h
 exact pg trivial (.z 3 (.j 1 (fun(j3:Bool)=>⟨[.k 2,.p 2,.k 2,.p 1,.k 14,.s (e_bool j3),.p 6],[.o 0]⟩) (.b (.t [ok 0]) (.t [ok 0])) .o))⟩
theorem La{t0 t1 r} (h:law_hasEnum_c1 t0 t1=some r):Den Tryz.prog 171 [e_GEnum t0,e_p_str t1] (e_bool r):=by
 refine dk 6 Ud ?_
 simp only[Ud,Kf.of,zs,ze]
 unfold law_hasEnum_c1 at h
 exact pg trivial .o
instance {t0 t1 r}:Con (law_hasEnum_c1 t0 t1=some r) (Den Tryz.prog 171 [e_GEnum t0,e_p_str t1] (e_bool r)):=⟨La⟩
theorem Ja{t0 t1 r} (h:law_hasTable_c1 t0 t1=some r):Den Tryz.prog 173 [e_GTable t0,e_p_str t1] (e_bool r):=by
 refine dk 6 Vd ?_
 simp only[Vd,Kf.of,zs,ze]
 unfold law_hasTable_c1 at h
 exact pg trivial .o
instance {t0 t1 r}:Con (law_hasTable_c1 t0 t1=some r) (Den Tryz.prog 173 [e_GTable t0,e_p_str t1] (e_bool r)):=⟨Ja⟩
instance {t0 t1 t2 t3 r}:Con (ref17_nameTaken t0 t1 t2 t3=some r) (Den Tryz.prog 182 [e_GLaw t0,e_i64 t1,e_i64 t2,e_str t3] (e_bool r)):=⟨fun h=>by
 refine dk 84 Vg ?_
 simp only[Vg,Kf.of,zs,ze]
 unfold ref17_nameTaken at h
 exact pg (And.intro @ref17_nameTaken_L3.eq_1 (And.intro @ref17_nameTaken_L4.eq_1 @ref17_nameTaken_L5.eq_1)) (.l 1 0 (fun(s1:Int)=>⟨[.k 1,.p 7,.k 1,.s (e_i64 s1),.p 78],[.o 0]⟩) (fun(_:Unit)=>⟨[.k 1,.p 7],[.o 0]⟩) [ok 0] (.b (.z 1 (.j 1 (fun(j7:Bool)=>⟨[.k 1,.p 11,.k 23,.s (e_bool j7),.p 52],[.o 0]⟩) (.b (.b (.t [ok 0]) (.t [ok 0])) (.t [ok 0])) (.b .o (.t [ok 0])))) (.t [ok 0])) (.l 1 0 (fun(s10:Int)=>⟨[.k 1,.p 9,.s (e_i64 s10),.p 77],[.o 0]⟩) (fun(_:Unit)=>⟨[.k 1,.p 9],[.o 0]⟩) [ok 0] (.b (.z 1 (.j 1 (fun(j17:Bool)=>⟨[.k 1,.p 35,.k 27,.s (e_bool j17),.p 24],[.o 0]⟩) (.b (.b (.b (.t [ok 0]) (.t [ok 0])) (.t [ok 0])) (.t [ok 0])) (.b .o (.t [ok 0])))) (.t [ok 0])) (.l 1 0 (fun(s20:Int)=>⟨[.k 1,.p 10,.s (e_i64 s20),.p 76],[.o 0]⟩) (fun(_:Unit)=>⟨[],[]⟩) [ok 0] (.b (.z 1 (.j 1 (fun(j25:Bool)=>⟨[.k 1,.p 63,.k 23,.s (e_bool j25)],[.o 0]⟩) (.b (.b (.t [ok 0]) (.t [ok 0])) (.t [ok 0])) (.b .o (.t [ok 0])))) (.t [])) .o)))⟩
instance {t0 r}:Con (lexer_isDigit t0=some r) (Den Tryz.prog 220 [e_u8 t0] (e_bool r)):=⟨fun h=>by
 refine dk 8 pe ?_
 simp only[pe,Kf.of,zs,ze]
 unfold lexer_isDigit at h
 exact pg trivial (.z 1 (.j 1 (fun(j2:Bool)=>⟨[.k 2,.s (e_bool j2),.p 6],[]⟩) (.b (.t []) (.t [])) .o))⟩
theorem ra{t0}{t1:GEnum→Option Bool}{k1:Nat}{q1:List D}(hc1:idfrees q1=true)(hp1:∀ x0 r,t1 x0=some r→Den Tryz.prog k1 ([e_GEnum x0]++q1) (e_bool r)){r} (h:slices_IndexFunc_api_Enum_api_Enum t0 t1=some r):Den Tryz.prog 221 [e_s_GEnum t0,.fn k1 [] q1] (e_i64 r):=by
 haveI I1:∀ x0 r,Con (t1 x0=some r) (Den Tryz.prog k1 ([e_GEnum x0]++q1) (e_bool r)):=fun x0 r=>⟨hp1 x0 r⟩
 have s1:∀ f:D→D→Prop,SqS f q1 q1=True:=fun _=>sqS_same hc1
 have z1:∀ a b n,rfL a b n q1=q1:=fun _ _ _=>rfL_free _ _ _ _ hc1
 refine Den.at 17 Sc.ok Sc.nm (frC (frF hc1 frN)) rfl ?_
 simp only[Sc,Kf.of,zs,ze]
 unfold slices_IndexFunc_api_Enum_api_Enum at h
 exact pg @slices_IndexFunc_api_Enum_api_Enum_L1.eq_1 (.l 1 0 (fun(s1:Int)=>⟨[.p 4,.k 3,.p 1,.s (e_i64 s1),.p 10],[]⟩) (fun(_:Unit)=>⟨[],[]⟩) [] (.b (.b .o (.t [])) (.t [])) .o)
theorem qa{t0}{t1:GTable→Option Bool}{k1:Nat}{q1:List D}(hc1:idfrees q1=true)(hp1:∀ x0 r,t1 x0=some r→Den Tryz.prog k1 ([e_GTable x0]++q1) (e_bool r)){r} (h:slices_IndexFunc_api_Table_api_Table t0 t1=some r):Den Tryz.prog 222 [e_s_GTable t0,.fn k1 [] q1] (e_i64 r):=by
 haveI I1:∀ x0 r,Con (t1 x0=some r) (Den Tryz.prog k1 ([e_GTable x0]++q1) (e_bool r)):=fun x0 r=>⟨hp1 x0 r⟩
 have s1:∀ f:D→D→Prop,SqS f q1 q1=True:=fun _=>sqS_same hc1
 have z1:∀ a b n,rfL a b n q1=q1:=fun _ _ _=>rfL_free _ _ _ _ hc1
 refine Den.at 17 Tc.ok Tc.nm (frC (frF hc1 frN)) rfl ?_
 simp only[Tc,Kf.of,zs,ze]
 unfold slices_IndexFunc_api_Table_api_Table at h
 exact pg @slices_IndexFunc_api_Table_api_Table_L1.eq_1 (.l 1 0 (fun(s1:Int)=>⟨[.p 4,.k 3,.p 1,.s (e_i64 s1),.p 10],[]⟩) (fun(_:Unit)=>⟨[],[]⟩) [] (.b (.b .o (.t [])) (.t [])) .o)
instance {r}:Con (ref08_Reserved=some r) (Den Tryz.prog 236 [] (e_s_str r)):=⟨fun h=>by
 refine dk 2 Nh ?_
 simp only[Nh,Kf.of,zs,ze]
 unfold ref08_Reserved at h
 exact pg trivial .o⟩
instance {t0 t1 t2 r}:Con (ref17_hasField t0 t1 t2=some r) (Den Tryz.prog 240 [e_s_GField t0,e_i64 t1,e_str t2] (e_bool r)):=⟨fun h=>by
 refine dk 23 Rh ?_
 simp only[Rh,Kf.of,zs,ze]
 unfold ref17_hasField at h
 exact pg @ref17_hasField_L1.eq_1 (.l 1 0 (fun(s1:Int)=>⟨[.p 6,.k 1,.s (e_i64 s1),.p 18],[]⟩) (fun(_:Unit)=>⟨[],[]⟩) [] (.z 1 (.j 1 (fun(j3:Bool)=>⟨[.p 16,.s (e_bool j3),.p 9],[]⟩) (.b (.t []) (.t [])) (.b (.b .o (.t [])) (.t [])))) .o)⟩
instance {t0 t1 r}:Con (ref16_insert t0 t1=some r) (Den Tryz.prog 245 [e_s_i64 t0,e_i64 t1] (e_s_i64 r)):=⟨fun h=>by
 refine dk 46 Yh ?_
 simp only[Yh,Kf.of,zs,ze]
 unfold ref16_insert at h
 exact pg @ref16_insert_L1.eq_1 (.l 3 2 (fun(q:((List Int) × Bool × Int))=>⟨[.p 4,.k 1,.s (.own 0 0),.s (e_bool q.2.1),.s (e_i64 q.2.2),.p 40],[.n 1 ((q.1.map e_i64))]⟩) (fun(q:((List Int) × Bool))=>⟨[.k 1,.p 3,.k 1,.s (.own 0 0),.s (e_bool q.2)],[.n 1 ((q.1.map e_i64))]⟩) [on 1] (.b (.z 1 (.j 2 (fun(q:((List Int) × Bool))=>⟨[.p 6,.s (e_bool q.2),.p 1],[.c 0 ((q.1.map e_i64))]⟩) (.j 1 (fun(j7:Bool)=>⟨[.p 8,.k 15,.s (e_bool j7),.p 24],[.o 0]⟩) (.b (.t [ok 0]) (.t [ok 0])) (.b (.j 1 (fun(j12:(List Int))=>⟨[.p 6,.k 1,.p 16],[.c 0 ((j12.map e_i64))]⟩) (.b (.t [ov 0 1]) (.t [ok 0])) (.t [ok 0])) (.t [ok 0]))) (.t [ov 0 1]))) (.t [ok 0])) (.j 1 (fun(j24:(List Int))=>⟨[.k 5,.p 1],[.c 0 ((j24.map e_i64))]⟩) (.b (.t [ov 0 1]) (.t [ok 0])) .o))⟩
instance {t0 r}:Con (expr_UsesN t0=some r) (Den Tryz.prog 288 [e_i64 t0] (e_bool r)):=⟨fun h=>by
 refine dk 21 Ie ?_
 simp only[Ie,Kf.of,zs,ze]
 unfold expr_UsesN at h
 exact pg trivial (.z 3 (.j 1 (fun(j17:Bool)=>⟨[.k 4,.s (e_bool j17),.p 17],[]⟩) (.b (.t []) (.b (.t []) (.b (.t []) (.b (.t []) (.b (.t []) (.b (.t []) (.b (.t []) (.b (.t []) (.b (.t []) (.b (.t []) (.b (.t []) (.b (.t []) (.b (.t []) (.b (.t []) (.b (.t []) (.b (.t []) (.t []))))))))))))))))) .o))⟩
instance {t0 r}:Con (expr_Arity t0=some r) (Den Tryz.prog 289 [e_i64 t0] (e_i64 r)):=⟨fun h=>by
 refine dk 46 Je ?_
 simp only[Je,Kf.of,zs,ze]
 unfold expr_Arity at h
 exact pg trivial (.z 3 (.j 1 (fun(j14:Bool)=>⟨[.k 3,.p 1,.s (e_bool j14),.p 42],[]⟩) (.b (.t []) (.b (.t []) (.b (.t []) (.b (.t []) (.b (.t []) (.b (.t []) (.b (.t []) (.b (.t []) (.b (.t []) (.b (.t []) (.b (.t []) (.b (.t []) (.b (.t []) (.t [])))))))))))))) (.b .o (.j 1 (fun(j21:Bool)=>⟨[.k 3,.p 1,.k 15,.s (e_bool j21),.p 27],[]⟩) (.b (.t []) (.b (.t []) (.b (.t []) (.b (.t []) (.b (.t []) (.t [])))))) (.b .o (.j 1 (fun(j40:Bool)=>⟨[.k 3,.p 16,.k 7,.s (e_bool j40),.p 20],[]⟩) (.b (.t []) (.b (.t []) (.b (.t []) (.b (.t []) (.b (.t []) (.b (.t []) (.b (.t []) (.b (.t []) (.b (.t []) (.b (.t []) (.b (.t []) (.b (.t []) (.b (.t []) (.b (.t []) (.b (.t []) (.b (.t []) (.b (.t []) (.t [])))))))))))))))))) .o))))))⟩
instance {t0 r}:Con (ref10_Arity t0=some r) (Den Tryz.prog 292 [e_i64 t0] (e_i64 r)):=⟨fun h=>by
 refine dk 32 Ti ?_
 simp only[Ti,Kf.of,zs,ze]
 unfold ref10_Arity at h
 exact pg trivial (.z 2 (.j 1 (fun(j5:Bool)=>⟨[.p 2,.k 14,.s (e_bool j5),.p 16],[]⟩) (.b (.b (.b (.t []) (.t [])) (.t [])) (.b (.t []) (.t []))) (.b .o (.z 2 (.j 1 (fun(j12:Bool)=>⟨[.p 16,.k 1,.p 1,.s (e_bool j12),.p 14],[]⟩) (.b (.t []) (.b (.t []) (.b (.t []) (.b (.t []) (.b (.t []) (.t [])))))) (.b .o (.b .o (.z 1 (.j 1 (fun(j16:Bool)=>⟨[.k 32,.s (e_bool j16)],[]⟩) (.b (.t []) (.t [])) .o)))))))))⟩
instance {t0 r}:Con (expr_validMode t0=some r) (Den Tryz.prog 313 [e_i64 t0] (e_bool r)):=⟨fun h=>by
 refine dk 8 Se ?_
 simp only[Se,Kf.of,zs,ze]
 unfold expr_validMode at h
 exact pg trivial (.z 1 (.j 1 (fun(j2:Bool)=>⟨[.k 2,.s (e_bool j2),.p 6],[]⟩) (.b (.t []) (.t [])) .o))⟩
end Go.Proofs.Dev
