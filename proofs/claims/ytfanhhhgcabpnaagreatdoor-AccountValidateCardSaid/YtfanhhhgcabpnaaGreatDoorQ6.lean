/-
  Contracts of the functions: each answers as its plain partial function says.
-/
import Derived.Test.YtfanhhhgcabpnaaGreatDoorK
import Derived.Test.YtfanhhhgcabpnaaGreatDoorG
import Derived.Test.YtfanhhhgcabpnaaGreatDoorPD
import Derived.Test.YtfanhhhgcabpnaaGreatDoorL1
import Derived.Test.YtfanhhhgcabpnaaGreatDoorQ0
import Derived.Test.YtfanhhhgcabpnaaGreatDoorQ1
import Derived.Test.YtfanhhhgcabpnaaGreatDoorQ2
import Derived.Test.YtfanhhhgcabpnaaGreatDoorQ3
set_option linter.all false
set_option maxHeartbeats 1000000
set_option maxRecDepth 10000
namespace Go.Proofs.Dev
open Go Go.Tm
instance {t0 r}:Con (ledger_Validate t0=some r) (Den Tryz.prog 48 [e_s_GPosting t0] (.tup [e_i64 r.1,e_i64 r.2])):=⟨fun h=>by
 refine dk 82 il ?_
 simp only[il,Kf.of,zs,ze]
 unfold ledger_Validate at h
 have q1:∀ (m:List Ent) (o:Option Int),lookR false (.v (.int .i64 0)) m (o.map e_i64)=some (.v (.int .i64 (o.getD 0)),m):=fun _ o=>by cases o <;> rfl
 have q2:∀ (k:Int) (x:Int) l,putD (.int .i64 k) (.v (.int .i64 x)) (em e_i64 l)=em e_i64 (mpt k x l):=fun _ _ _=>put_em (e:=e_i64)
 have q3:=fun l=>frM_em (e:=e_i64) (l:=l)
 exact pg @ledger_Validate_L1.eq_1 (.b .o (.l 2 0 (fun(q:((List (Int × Int)) × Int))=>⟨[.p 2,.k 2,.p 3,.k 4,.p 2,.s (e_i64 q.2),.p 69],[.m 0 (em e_i64 q.1)]⟩) (fun(_:Unit)=>⟨[],[]⟩) [ok 0] (.b (.z 3 (.j 1 (fun(j13:Bool)=>⟨[.p 14,.k 4,.s (e_bool j13),.p 64],[.o 0,.o 1]⟩) (.j 1 (fun(j7:Bool)=>⟨[.p 14,.k 4,.s (e_bool j7),.p 64],[.o 0,.o 1]⟩) (.b (.t [ok 0,ok 1]) (.t [ok 0,ok 1])) (.b (.t [ok 0,ok 1]) (.j 1 (fun(j10:Bool)=>⟨[.p 18,.s (e_bool j10),.p 64],[.o 0,.o 1]⟩) (.b (.t [ok 0,ok 1]) (.t [ok 0,ok 1])) (.b (.t [ok 0,ok 1]) (.b (.t [ok 0,ok 1]) (.t [ok 0,ok 1])))))) (.b .o (.j 1 (fun(j16:Bool)=>⟨[.p 18,.k 26,.s (e_bool j16),.p 38],[.o 0,.o 1]⟩) (.b (.t [ok 0,ok 1]) (.t [ok 0,ok 1])) (.b .o (.j 1 (fun(j20:Bool)=>⟨[.p 44,.k 10,.s (e_bool j20),.p 28],[.o 0,.o 1]⟩) (.b (.t [ok 0,ok 1]) (.t [ok 0,ok 1])) (.b .o (.b .o (.t [ok 0]))))))))) (.t [])) .o))⟩
instance {t0 r}:Con (appeal_Valid t0=some r) (Den Tryz.prog 52 [e_GAppeal t0] (e_bool r)):=⟨fun h=>by
 refine dk 54 ml ?_
 simp only[ml,Kf.of,zs,ze]
 unfold appeal_Valid at h
 exact pg trivial (.z 2 (.j 1 (fun(j3:Bool)=>⟨[.k 1,.p 1,.k 11,.s (e_bool j3),.p 41],[.o 0]⟩) (.b (.t [ok 0]) (.t [ok 0])) (.b .o (.z 1 (.j 1 (fun(j7:Bool)=>⟨[.k 1,.p 12,.k 15,.s (e_bool j7),.p 26],[.o 0]⟩) (.b (.b (.t [ok 0]) (.t [ok 0])) (.t [ok 0])) (.b .o (.z 1 (.j 1 (fun(j10:Bool)=>⟨[.k 1,.p 27,.k 8,.s (e_bool j10),.p 18],[.o 0]⟩) (.b (.t [ok 0]) (.t [ok 0])) (.b .o (.j 1 (fun(j15:Bool)=>⟨[.k 2,.s (e_bool j15),.p 33],[]⟩) (.b (.b (.b (.t []) (.t [])) (.t [])) (.t [])) .o))))))))))⟩
instance {t0 t1 r}:Con (ref37_Received t0 t1=some r) (Den Tryz.prog 57 [e_s_GPosting t0,e_i64 t1] (e_i64 r)):=⟨fun h=>by
 refine dk 26 vm ?_
 simp only[vm,Kf.of,zs,ze]
 unfold ref37_Received at h
 exact pg @ref37_Received_L1.eq_1 (.l 2 1 (fun(q:(Int × Int))=>⟨[.p 4,.k 1,.s (e_i64 q.1),.s (e_i64 q.2),.p 21],[]⟩) (fun(b10:Int)=>⟨[.k 5,.s (e_i64 b10)],[]⟩) [] (.b (.j 1 (fun(j7:Int)=>⟨[.p 5,.s (e_i64 j7),.p 1],[]⟩) (.b (.t []) (.t [])) (.t [])) (.t [])) .o)⟩
instance {t0 r}:Con (ref34_nonempty t0=some r) (Den Tryz.prog 82 [e_GDateRange t0] (e_bool r)):=⟨fun h=>by
 refine dk 11 Lm ?_
 simp only[Lm,Kf.of,zs,ze]
 unfold ref34_nonempty at h
 exact pg trivial (.z 1 (.j 1 (fun(j3:Bool)=>⟨[.k 2,.s (e_bool j3),.p 9],[]⟩) (.b (.t []) (.t [])) .o))⟩
instance {t0 t1 r}:Con (slices_Contains_int_int t0 t1=some r) (Den Tryz.prog 179 [e_s_i64 t0,e_i64 t1] (e_bool r)):=⟨fun h=>by
 refine dk 7 ee ?_
 simp only[ee,Kf.of,zs,ze]
 unfold slices_Contains_int_int at h
 exact pg trivial .o⟩
instance {t0 r}:Con (daterange_hasDate t0=some r) (Den Tryz.prog 190 [e_GDateRange t0] (e_bool r)):=⟨fun h=>by
 refine dk 11 ie ?_
 simp only[ie,Kf.of,zs,ze]
 unfold daterange_hasDate at h
 exact pg trivial (.z 1 (.j 1 (fun(j3:Bool)=>⟨[.k 2,.s (e_bool j3),.p 9],[]⟩) (.b (.t []) (.t [])) .o))⟩
instance {t0 t1 r}:Con (ref09_Bounds t0 t1=some r) (Den Tryz.prog 212 [e_GType t0,e_s_GEnum t1] (.tup [e_i64 r.1,e_i64 r.2])):=⟨fun h=>by
 refine dk 28 Dh ?_
 simp only[Dh,Kf.of,zs,ze]
 unfold ref09_Bounds at h
 exact pg trivial .o⟩
theorem ja{t0}{t1:GField→Option Bool}{k1:Nat}{q1:List D}(hc1:idfrees q1=true)(hp1:∀ x0 r,t1 x0=some r→Den Tryz.prog k1 ([e_GField x0]++q1) (e_bool r)){r} (h:slices_ContainsFunc_api_Field_api_Field t0 t1=some r):Den Tryz.prog 225 [e_s_GField t0,.fn k1 [] q1] (e_bool r):=by
 haveI I1:∀ x0 r,Con (t1 x0=some r) (Den Tryz.prog k1 ([e_GField x0]++q1) (e_bool r)):=fun x0 r=>⟨hp1 x0 r⟩
 have s1:∀ f:D→D→Prop,SqS f q1 q1=True:=fun _=>sqS_same hc1
 have z1:∀ a b n,rfL a b n q1=q1:=fun _ _ _=>rfL_free _ _ _ _ hc1
 haveI:∀ y0 r,Con (slices_IndexFunc_api_Field_api_Field y0 t1=some r) (Den Tryz.prog 263 [e_s_GField y0,.fn k1 [] q1] (e_i64 r)):=fun y0 r=>⟨oa hc1 hp1⟩
 refine Den.at 7 Vc.ok Vc.nm (frC (frF hc1 frN)) rfl ?_
 simp only[Vc,Kf.of,zs,ze]
 unfold slices_ContainsFunc_api_Field_api_Field at h
 exact pg trivial .o
theorem Ka{t0 r} (h:law_validSource t0=some r):Den Tryz.prog 229 [e_str t0] (e_bool r):=by
 refine dk 26 we ?_
 simp only[we,Kf.of,zs,ze]
 unfold law_validSource at h
 exact pg @law_validSource_L1.eq_1 (.z 2 (.j 1 (fun(j3:Bool)=>⟨[.p 2,.k 8,.s (e_bool j3),.p 16],[]⟩) (.b (.t []) (.t [])) (.b .o (.l 1 0 (fun(s5:Int)=>⟨[.p 10,.k 2,.p 1,.s (e_i64 s5),.p 13],[]⟩) (fun(_:Unit)=>⟨[],[]⟩) [] (.b (.z 2 (.j 1 (fun(j9:Bool)=>⟨[.p 3,.k 9,.p 2,.k 11,.s (e_bool j9),.p 1],[]⟩) (.b (.t []) (.t [])) (.b .o (.t [])))) (.t [])) .o))))
instance {t0 r}:Con (law_validSource t0=some r) (Den Tryz.prog 229 [e_str t0] (e_bool r)):=⟨Ka⟩
instance {t0 r}:Con (expr_structure t0=some r) (Den Tryz.prog 287 [e_s_GNode t0] (.tup [e_s_i64 r.1,e_i64 r.2.1,e_i64 r.2.2])):=⟨fun h=>by
 refine dk 75 He ?_
 simp only[He,Kf.of,zs,ze]
 unfold expr_structure at h
 exact pg @expr_structure_L1.eq_1 (.b .o (.b .o (.l 3 2 (fun(q:((List Int) × (List Int) × Int))=>⟨[.p 2,.k 3,.p 1,.s (.own 1 0),.p 3,.k 9,.p 2,.s (e_i64 q.2.2),.p 54],[.c 0 ((q.1.map e_i64)),.n 1 ((q.2.1.map e_i64))]⟩) (fun(q:((List Int) × (List Int)))=>⟨[.p 2,.k 3,.p 1,.s (.own 1 0),.p 3],[.c 0 ((q.1.map e_i64)),.n 1 ((q.2.map e_i64))]⟩) [ok 0,on 1] (.b (.b .o (.b .o (.z 1 (.j 1 (fun(j18:(List Int))=>⟨[.p 8,.k 1,.p 13],[.c 0 ((j18.map e_i64)),.o 1]⟩) (.b (.t [ok 0,ok 1]) (.t [ok 0,ok 1])) (.a [[],[],[],[],[],[],[],[],[5],[5],[]] (.b .o (.t [ok 0,ov 1 2]))))))) (.t [ok 0,ok 1])) .o)))⟩
instance {t0 t1 r}:Con (expr_resultType t0 t1=some r) (Den Tryz.prog 314 [e_i64 t0,e_s_GType t1] (.tup [e_GType r.1,e_bool r.2])):=⟨fun h=>by
 refine dk 220 Te ?_
 simp only[Te,Kf.of,zs,ze]
 unfold expr_resultType at h
 exact pg trivial (.b .o (.b (.a [[],[],[],[],[],[],[2,4]] .o) (.j 1 (fun(j7:Bool)=>⟨[.p 5,.k 1,.p 1,.k 1,.p 1,.k 18,.s (e_bool j7),.p 194],[.o 0,.o 1]⟩) (.b (.t [ok 0,ok 1]) (.t [ok 0,ok 1])) (.b (.j 3 (fun(q:(Int × Int × Bool))=>⟨[.k 4,.p 1,.s (e_bool q.2.2)],[.h 0 [.g [.s (e_i64 q.1),.s (e_i64 q.2.1)]]]⟩) (.a [[],[],[],[],[],[],[],[],[],[],[],[],[],[],[],[],[],[]] (.b (.t [ok 0]) (.t [ok 0]))) .o) (.j 1 (fun(j18:Bool)=>⟨[.p 27,.k 20,.s (e_bool j18),.p 174],[.o 0,.o 1]⟩) (.b (.t [ok 0,ok 1]) (.b (.t [ok 0,ok 1]) (.t [ok 0,ok 1]))) (.b .o (.b (.j 3 (fun(q:(Int × Int × Bool))=>⟨[.k 4,.p 1,.s (e_bool q.2.2)],[.h 0 [.g [.s (e_i64 q.1),.s (e_i64 q.2.1)]]]⟩) (.a [[],[],[],[],[],[],[],[],[],[],[],[],[],[],[],[10,12]] (.b (.t [ok 0]) (.t [ok 0]))) .o) (.j 1 (fun(j31:Bool)=>⟨[.k 1,.p 46,.k 33,.s (e_bool j31),.p 141],[.o 0,.o 1]⟩) (.b (.t [ok 0,ok 1]) (.t [ok 0,ok 1])) (.b (.j 3 (fun(q:(Int × Int × Bool))=>⟨[.k 4,.p 1,.s (e_bool q.2.2)],[.h 0 [.g [.s (e_i64 q.1),.s (e_i64 q.2.1)]]]⟩) (.a [[],[],[],[],[],[],[],[],[],[],[],[],[],[],[],[],[],[],[],[],[],[],[],[],[18,20]] (.b (.b (.t [ok 0]) (.t [ok 0])) (.t [ok 0]))) .o) (.j 1 (fun(j42:Bool)=>⟨[.k 1,.p 79,.k 27,.s (e_bool j42),.p 114],[.o 0,.o 1]⟩) (.b (.t [ok 0,ok 1]) (.t [ok 0,ok 1])) (.b (.a [[],[],[],[],[],[],[],[],[2,3,5,6]] .o) (.j 1 (fun(j47:Bool)=>⟨[.k 1,.p 106,.k 11,.s (e_bool j47),.p 103],[.o 0,.o 1]⟩) (.b (.t [ok 0,ok 1]) (.t [ok 0,ok 1])) (.b (.j 1 (fun(j54:Bool)=>⟨[.k 4,.p 1,.s (e_bool j54)],[.h 0 [.g [.s (e_i64 1),.p 1]]]⟩) (.a [[],[],[],[],[],[],[],[],[],[],[],[],[],[],[],[],[],[],[],[],[],[],[16,18]] (.b (.b (.t [ok 0]) (.t [ok 0])) (.t [ok 0]))) .o) (.j 1 (fun(j56:Bool)=>⟨[.k 1,.p 117,.k 25,.s (e_bool j56),.p 78],[.o 0,.o 1]⟩) (.b (.t [ok 0,ok 1]) (.t [ok 0,ok 1])) (.b (.j 1 (fun(j61:Bool)=>⟨[.k 4,.p 1,.s (e_bool j61)],[.h 0 [.g [.s (e_i64 1),.p 1]]]⟩) (.a [[],[],[],[],[],[],[],[],[],[],[],[],[],[8,10]] (.b (.t [ok 0]) (.t [ok 0]))) .o) (.b (.j 3 (fun(q:(Int × Int × Bool))=>⟨[.k 4,.p 1,.s (e_bool q.2.2)],[.h 0 [.g [.s (e_i64 q.1),.s (e_i64 q.2.1)]]]⟩) (.a [[],[],[],[],[],[],[],[],[],[],[],[],[],[],[],[],[],[10,11,13,14]] (.b (.t [ok 0]) (.t [ok 0]))) .o) (.j 1 (fun(j71:Bool)=>⟨[.k 1,.p 5,.k 2,.p 135,.k 35,.s (e_bool j71),.p 43],[.o 0]⟩) (.b (.t [ok 0]) (.t [ok 0])) (.b (.j 3 (fun(q:(Int × Int × Bool))=>⟨[.k 4,.p 1,.s (e_bool q.2.2),.p 2],[.h 0 [.g [.s (e_i64 q.1),.s (e_i64 q.2.1)]]]⟩) (.a [[],[],[],[],[],[],[],[],[],[],[],[],[],[],[],[10,12]] (.b (.t [ok 0]) (.t [ok 0]))) .o) (.j 1 (fun(j80:Bool)=>⟨[.k 1,.p 177,.k 18,.s (e_bool j80),.p 25],[.o 0]⟩) (.b (.t [ok 0]) (.t [ok 0])) (.b (.j 1 (fun(j85:Bool)=>⟨[.k 4,.p 1,.s (e_bool j85),.p 2],[.h 0 [.g [.s (e_i64 2),.p 1]]]⟩) (.a [[],[],[],[],[],[],[],[],[],[],[],[],[],[8,10]] (.b (.t [ok 0]) (.t [ok 0]))) .o) (.j 1 (fun(j87:Bool)=>⟨[.k 1,.p 7,.k 204,.s (e_bool j87),.p 9],[.o 0]⟩) (.b (.t [ok 0]) (.t [ok 0])) (.b (.a [[],[],[],[],[],[],[2,4]] .o) .o))))))))))))))))))))))⟩
instance {t0 r}:Con (ref37_Validate t0=some r) (Den Tryz.prog 56 [e_s_GPosting t0] (.tup [e_i64 r.1,e_i64 r.2])):=⟨fun h=>by
 refine dk 79 um ?_
 simp only[um,Kf.of,zs,ze]
 unfold ref37_Validate at h
 exact pg @ref37_Validate_L1.eq_1 (.b .o (.l 1 0 (fun(s2:Int)=>⟨[.p 2,.k 2,.s (e_i64 s2),.p 1],[]⟩) (fun(_:Unit)=>⟨[],[]⟩) [] (.b (.z 3 (.j 1 (fun(j10:Bool)=>⟨[.p 9,.k 37,.s (e_bool j10),.p 33],[.o 0]⟩) (.b (.b (.b (.b (.b (.t [ok 0]) (.t [ok 0])) (.t [ok 0])) (.t [ok 0])) (.t [ok 0])) (.t [ok 0])) (.b .o (.z 1 (.j 1 (fun(j13:Bool)=>⟨[.p 46,.k 9,.s (e_bool j13),.p 24],[.o 0]⟩) (.b (.t [ok 0]) (.t [ok 0])) (.b .o (.z 1 (.j 1 (fun(j17:Bool)=>⟨[.p 55,.k 14,.s (e_bool j17),.p 10],[.o 0]⟩) (.b (.t [ok 0]) (.t [ok 0])) (.b .o (.b .o (.t []))))))))))) (.t [])) .o))⟩
instance {t0 t1 r}:Con (ref34_fault t0 t1=some r) (Den Tryz.prog 148 [e_s_GFact t0,e_i64 t1] (e_i64 r)):=⟨fun h=>by
 refine dk 92 Gg ?_
 simp only[Gg,Kf.of,zs,ze]
 unfold ref34_fault at h
 exact pg @ref34_fault_L1.eq_1 (.z 3 (.j 1 (fun(j15:Bool)=>⟨[.p 4,.k 1,.p 2,.k 52,.s (e_bool j15),.p 34],[.o 0]⟩) (.b (.b (.b (.b (.b (.b (.b (.b (.b (.t [ok 0]) (.t [ok 0])) (.t [ok 0])) (.t [ok 0])) (.b (.b (.t [ok 0]) (.t [ok 0])) (.t [ok 0]))) (.t [ok 0])) (.t [ok 0])) (.t [ok 0])) (.t [ok 0])) (.t [ok 0])) (.b .o (.z 1 (.j 1 (fun(j20:Bool)=>⟨[.p 59,.k 21,.s (e_bool j20),.p 13],[.o 0]⟩) (.b (.b (.b (.t [ok 0]) (.t [ok 0])) (.t [ok 0])) (.t [ok 0])) (.b .o (.l 1 0 (fun(s22:Int)=>⟨[.p 6,.s (e_i64 s22),.p 73],[.o 0]⟩) (fun(_:Unit)=>⟨[],[]⟩) [ok 0] (.b (.b .o (.t [ok 0])) (.t [])) .o)))))))⟩
instance {t0 t1 t2 r}:Con (ref09_In t0 t1 t2=some r) (Den Tryz.prog 150 [e_i64 t0,e_GType t1,e_s_GEnum t2] (e_bool r)):=⟨fun h=>by
 refine dk 20 Ig ?_
 simp only[Ig,Kf.of,zs,ze]
 unfold ref09_In at h
 exact pg trivial (.z 2 (.j 1 (fun(j3:Bool)=>⟨[.k 6,.s (e_bool j3)],[]⟩) (.b (.t []) (.t [])) .o))⟩
instance {t0 t1 r}:Con (daterange_Intersect t0 t1=some r) (Den Tryz.prog 219 [e_GDateRange t0,e_GDateRange t1] (.tup [e_GDateRange r.1,e_bool r.2])):=⟨fun h=>by
 refine dk 32 me ?_
 simp only[me,Kf.of,zs,ze]
 unfold daterange_Intersect at h
 exact pg trivial (.z 2 (.j 1 (fun(j4:Bool)=>⟨[.k 2,.p 3,.k 9,.s (e_bool j4),.p 19],[.o 0,.o 1,.o 2]⟩) (.b (.t [ok 0,ok 1,ok 2]) (.t [ok 0,ok 1,ok 2])) .o))⟩
instance {t0 t1 r}:Con (ref10_ranged t0 t1=some r) (Den Tryz.prog 316 [e_GNode t0,e_GSignature t1] (e_bool r)):=⟨fun h=>by
 refine dk 60 nj ?_
 simp only[nj,Kf.of,zs,ze]
 unfold ref10_ranged at h
 exact pg trivial (.z 3 (.j 1 (fun(j5:Bool)=>⟨[.k 2,.p 2,.k 4,.p 1,.s (e_bool j5),.p 52],[.o 0,.o 1]⟩) (.b (.t [ok 0,ok 1]) (.b (.t [ok 0,ok 1]) (.b (.t [ok 0,ok 1]) (.b (.t [ok 0,ok 1]) (.t [ok 0,ok 1]))))) (.b (.z 1 (.j 1 (fun(j10:Bool)=>⟨[.k 4,.s (e_bool j10)],[]⟩) (.b (.t []) (.t [])) .o)) (.j 1 (fun(j13:Bool)=>⟨[.k 2,.p 1,.k 5,.p 1,.k 25,.s (e_bool j13),.p 27],[.o 0]⟩) (.b (.t [ok 0]) (.b (.t [ok 0]) (.t [ok 0]))) (.b (.j 1 (fun(j16:Bool)=>⟨[.k 4,.s (e_bool j16),.p 3],[]⟩) (.b (.t []) (.t [])) .o) (.b (.j 1 (fun(j19:Bool)=>⟨[.k 4,.s (e_bool j19),.p 3],[]⟩) (.b (.t []) (.t [])) .o) .o))))))⟩
end Go.Proofs.Dev
