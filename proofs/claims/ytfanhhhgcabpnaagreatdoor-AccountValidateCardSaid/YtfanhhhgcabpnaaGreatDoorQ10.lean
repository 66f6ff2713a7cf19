/-
  Contracts of the functions: each answers as its plain partial function says.
-/
import Derived.Test.YtfanhhhgcabpnaaGreatDoorK
import Derived.Test.YtfanhhhgcabpnaaGreatDoorG
import Derived.Test.YtfanhhhgcabpnaaGreatDoorPD
import Derived.Test.YtfanhhhgcabpnaaGreatDoorL1
import Derived.Test.YtfanhhhgcabpnaaGreatDoorQ4
import Derived.Test.YtfanhhhgcabpnaaGreatDoorQ5
import Derived.Test.YtfanhhhgcabpnaaGreatDoorQ6
import Derived.Test.YtfanhhhgcabpnaaGreatDoorQ7
set_option linter.all false
set_option maxHeartbeats 1000000
set_option maxRecDepth 10000
namespace Go.Proofs.Dev
open Go Go.Tm
instance {t0 t1 r}:Con (ref17_fieldError t0 t1=some r) (Den Tryz.prog 184 [e_GLaw t0,e_i64 t1] (e_GLawError r)):=⟨fun h=>by
 refine dk 120 Xg ?_
 simp only[Xg,Kf.of,zs,ze]
 unfold ref17_fieldError at h
 exact pg (And.intro @ref17_fieldError_L2.eq_1 @ref17_fieldError_L3.eq_1) (.l 1 0 (fun(s2:Int)=>⟨[.k 1,.p 5,.s (e_i64 s2),.p 3],[.o 0,.o 1,.o 2]⟩) (fun(_:Unit)=>⟨[.k 1,.p 5],[.o 0,.o 1,.o 2]⟩) [ok 0,ok 1,ok 2] (.b (.z 2 (.j 1 (fun(j11:Int)=>⟨[.k 1,.p 14],[.o 0,.o 1,.o 2,.h 3 [.g [.s (e_i64 j11),.p 3]]]⟩) (.b (.t [ok 0,ok 1,ok 2,ok 3]) (.b (.t [ok 0,ok 1,ok 2,ok 3]) (.b (.t [ok 0,ok 1,ok 2,ok 3]) (.t [ok 0,ok 1,ok 2,ok 3])))) (.b .o (.t [ok 0,ok 1,ok 2])))) (.t [ok 0,ok 1,ok 2])) (.l 1 0 (fun(s14:Int)=>⟨[.k 1,.p 7,.s (e_i64 s14),.p 113],[.o 0,.o 1,.o 2]⟩) (fun(_:Unit)=>⟨[.k 4,.p 1],[.o 1]⟩) [ok 0,ok 1,ok 2] (.b (.z 2 (.j 1 (fun(j26:Int)=>⟨[.k 1,.p 60],[.o 0,.o 1,.o 2,.h 3 [.g [.s (e_i64 j26),.p 3]]]⟩) (.b (.t [ok 0,ok 1,ok 2,ok 3]) (.j 1 (fun(j22:Bool)=>⟨[.k 1,.p 60,.k 43,.s (e_bool j22),.p 17],[.o 0,.o 1,.o 2,.o 3]⟩) (.b (.t [ok 0,ok 1,ok 2,ok 3]) (.t [ok 0,ok 1,ok 2,ok 3])) (.b (.t [ok 0,ok 1,ok 2,ok 3]) (.b (.t [ok 0,ok 1,ok 2,ok 3]) (.t [ok 0,ok 1,ok 2,ok 3]))))) (.b .o (.t [ok 0,ok 1,ok 2])))) (.t [ok 1])) .o))⟩
instance {t0 t1 r}:Con (ref16_Transitive t0 t1=some r) (Den Tryz.prog 186 [e_GScope t0,e_i64 t1] (e_s_i64 r)):=⟨fun h=>by
 refine dk 45 Zg ?_
 simp only[Zg,Kf.of,zs,ze]
 unfold ref16_Transitive at h
 exact pg (And.intro @ref16_Transitive_L41.eq_1 (And.intro @ref16_Transitive_L40.eq_1 @ref16_Transitive_L39.eq_1)) (.l 2 1 (fun(q:((List Int) × Int))=>⟨[.k 2,.p 2,.k 1,.s (e_s_i64 q.1),.s (e_i64 q.2),.p 4],[.o 0]⟩) (fun(b23:(List Int))=>⟨[.k 5,.s (e_s_i64 b23)],[]⟩) [ok 0] (.b (.l 2 1 (fun(q:((List Int) × Int))=>⟨[.k 2,.p 3,.s (e_s_i64 q.1),.p 2,.s (e_i64 q.2),.p 5],[.o 0]⟩) (fun(b20:(List Int))=>⟨[.k 2,.p 3,.s (e_s_i64 b20),.p 1],[.o 0]⟩) [ok 0] (.b (.l 2 1 (fun(q:((List Int) × Int))=>⟨[.k 2,.p 3,.s (e_s_i64 q.1),.p 4,.s (e_i64 q.2),.p 11],[.o 0]⟩) (fun(b17:(List Int))=>⟨[.k 2,.p 3,.s (e_s_i64 b17),.p 3],[.o 0]⟩) [ok 0] (.b (.t [ok 0]) (.t [ok 0])) (.t [ok 0])) (.t [ok 0])) (.t [ok 0])) (.t [])) .o)⟩
instance {t0 t1 t2 r}:Con (expr_nodeType t0 t1 t2=some r) (Den Tryz.prog 290 [e_GNode t0,e_s_GType t1,e_GSignature t2] (.tup [e_GType r.1,e_i64 r.2])):=⟨fun h=>by
 refine dk 122 Ke ?_
 simp only[Ke,Kf.of,zs,ze]
 unfold expr_nodeType at h
 exact pg trivial (.z 1 (.e 0 (fun(_:Unit)=>⟨[.k 1,.p 1,.k 1,.p 2,.k 1,.p 1],[.o 0,.o 2]⟩) (.b .o (.b .o (.b .o (.b .o (.b .o (.b .o (.b .o (.b .o (.b .o (.j 1 (fun(j19:Bool)=>⟨[.k 1,.p 1,.k 1,.p 4,.k 4,.p 1,.k 71,.s (e_bool j19),.p 41],[.o 0,.o 1,.o 2]⟩) (.b (.t [ok 0,ok 1,ok 2]) (.t [ok 0,ok 1,ok 2])) (.b .o (.j 1 (fun(j27:Bool)=>⟨[.k 1,.p 82,.k 11,.s (e_bool j27),.p 30],[.o 0,.o 1,.o 2]⟩) (.b (.t [ok 0,ok 1,ok 2]) (.b (.t [ok 0,ok 1,ok 2]) (.b (.t [ok 0,ok 1,ok 2]) (.b (.t [ok 0,ok 1,ok 2]) (.t [ok 0,ok 1,ok 2]))))) (.b .o (.j 1 (fun(j32:Bool)=>⟨[.k 1,.p 4,.k 1,.p 5,.k 94,.s (e_bool j32),.p 19],[.o 0,.o 2]⟩) (.b (.t [ok 0,ok 2]) (.b (.t [ok 0,ok 2]) (.t [ok 0,ok 2]))) (.b (.b .o (.t [ok 0,ok 1])) (.t [ok 0,ok 1])))))))))))))))) .o))⟩
instance {t0 t1 t2 r}:Con (ref10_Result t0 t1 t2=some r) (Den Tryz.prog 293 [e_GNode t0,e_s_GType t1,e_GSignature t2] (.tup [e_GType r.1,e_i64 r.2])):=⟨fun h=>by
 refine dk 84 Ui ?_
 simp only[Ui,Kf.of,zs,ze]
 unfold ref10_Result at h
 exact pg trivial (.z 2 (.j 1 (fun(j3:Bool)=>⟨[.k 1,.p 1,.k 1,.p 4,.k 11,.s (e_bool j3),.p 68],[.o 0,.o 1,.o 2]⟩) (.b (.t [ok 0,ok 1,ok 2]) (.t [ok 0,ok 1,ok 2])) (.b .o (.b .o (.b .o (.z 2 (.j 3 (fun(q:(Int × Int × Bool))=>⟨[.k 6,.p 3,.s (e_bool q.2.2),.p 8],[.o 2,.h 3 [.g [.s (e_i64 q.1),.s (e_i64 q.2.1)]]]⟩) (.b (.t [ok 2,ok 3]) (.b (.a [[],[],[],[],[],[],[],[],[],[]] (.t [ok 2,ok 3])) (.b (.a [[],[],[],[],[],[],[],[],[],[],[],[],[]] (.t [ok 2,ok 3])) (.b (.t [ok 2,ok 3]) (.t [ok 2,ok 3]))))) .o)))))))⟩
instance {t0 t1 r}:Con (expr_TypeOf t0 t1=some r) (Den Tryz.prog 266 [e_s_GNode t0,e_GSignature t1] (.tup [e_GType r.1,e_i64 r.2.1,e_i64 r.2.2])):=⟨fun h=>by
 refine dk 73 Fe ?_
 simp only[Fe,Kf.of,zs,ze]
 unfold expr_TypeOf at h
 exact pg @expr_TypeOf_L1.eq_1 (.b .o (.l 2 1 (fun(q:((List GType) × Int))=>⟨[.k 3,.p 2,.k 5,.s (.own 2 0),.p 5,.k 11,.p 2,.s (e_i64 q.2),.p 45],[.o 0,.o 1,.n 2 ((q.1.map e_GType))]⟩) (fun(b19:(List GType))=>⟨[.k 4,.p 1,.k 5,.s (.own 1 0),.p 5],[.o 1,.n 2 ((b19.map e_GType))]⟩) [ok 0,ok 1,on 2] (.b (.z 3 (.j 1 (fun(j9:Bool)=>⟨[.k 3,.p 27,.k 12,.s (e_bool j9),.p 32],[.o 0,.o 1,.o 2,.o 3]⟩) (.b (.t [ok 0,ok 1,ok 2,ok 3]) (.t [ok 0,ok 1,ok 2,ok 3])) (.b .o (.a [[],[],[],[],[],[],[],[],[],[],[]] (.b .o (.a [[],[],[],[2],[]] (.t [ok 0,ok 1,ov 2 2]))))))) (.t [ok 1,ok 2])) .o))⟩
instance {t0 t1 r}:Con (ref10_TypeOf t0 t1=some r) (Den Tryz.prog 271 [e_s_GNode t0,e_GSignature t1] (.tup [e_GType r.1,e_i64 r.2.1,e_i64 r.2.2])):=⟨fun h=>by
 refine dk 65 Bi ?_
 simp only[Bi,Kf.of,zs,ze]
 unfold ref10_TypeOf at h
 exact pg @ref10_TypeOf_L1.eq_1 (.b .o (.l 2 1 (fun(q:((List GType) × Int))=>⟨[.p 1,.k 2,.p 2,.k 5,.s (.own 2 0),.s (e_i64 q.2),.p 3],[.o 0,.o 1,.n 2 ((q.1.map e_GType))]⟩) (fun(b15:(List GType))=>⟨[.k 4,.p 1,.k 5,.s (.own 1 0)],[.o 1,.n 2 ((b15.map e_GType))]⟩) [ok 0,ok 1,on 2] (.b (.a [[],[],[],[],[],[],[],[],[],[],[],[],[],[]] (.b .o (.a [[],[],[],[2],[]] (.t [ok 0,ok 1,ov 2 2])))) (.t [ok 1,ok 2])) .o))⟩
theorem ya{t0 t1 t2 r} (h:law_checkType t0 t1 t2=some r):Den Tryz.prog 230 [e_s_GNode t0,e_GSignature t1,e_GType t2] (e_i64 r):=by
 refine dk 20 xe ?_
 simp only[xe,Kf.of,zs,ze]
 unfold law_checkType at h
 exact pg trivial .o
instance {t0 t1 t2 r}:Con (law_checkType t0 t1 t2=some r) (Den Tryz.prog 230 [e_s_GNode t0,e_GSignature t1,e_GType t2] (e_i64 r)):=⟨ya⟩
instance {t0 t1 t2 r}:Con (ref17_exprError t0 t1 t2=some r) (Den Tryz.prog 243 [e_s_GNode t0,e_GSignature t1,e_GType t2] (e_i64 r)):=⟨fun h=>by
 refine dk 20 Vh ?_
 simp only[Vh,Kf.of,zs,ze]
 unfold ref17_exprError at h
 exact pg trivial .o⟩
end Go.Proofs.Dev
