/-
  Contracts of the functions: each answers as its plain partial function says.
-/
import Derived.Test.YtfanhhhgcabpnaaGreatDoorK
import Derived.Test.YtfanhhhgcabpnaaGreatDoorG
import Derived.Test.YtfanhhhgcabpnaaGreatDoorPD
import Derived.Test.YtfanhhhgcabpnaaGreatDoorL1
import Derived.Test.YtfanhhhgcabpnaaGreatDoorQ8
import Derived.Test.YtfanhhhgcabpnaaGreatDoorQ9
import Derived.Test.YtfanhhhgcabpnaaGreatDoorQ10
import Derived.Test.YtfanhhhgcabpnaaGreatDoorQ11
set_option linter.all false
set_option maxHeartbeats 1000000
set_option maxRecDepth 10000
namespace Go.Proofs.Dev
open Go Go.Tm
instance {t0 r}:Con (law_checkTables t0=some r) (Den Tryz.prog 64 [e_GLaw t0] (e_GLawError r)):=⟨fun h=>by
 refine dk 67 zl ?_
 simp only[zl,Kf.of,zs,ze]
 unfold law_checkTables at h
 exact pg @law_checkTables_L1.eq_1 (.b .o (.l 1 0 (fun(s2:Int)=>⟨[.k 1,.p 7,.k 6,.p 2,.s (e_i64 s2),.p 51],[.o 0,.o 1]⟩) (fun(_:Unit)=>⟨[.k 2,.p 6],[.o 1]⟩) [ok 0,ok 1] (.b (.z 4 (.j 2 (fun(q:(Int × Int))=>⟨[.k 1,.p 2,.k 2,.p 1,.k 8,.p 3],[.o 0,.o 1,.h 3 [.g [.s (e_i64 q.1),.p 2,.s (e_i64 q.2)]]]⟩) (.b (.t [ok 0,ok 1,ok 3]) (.j 1 (fun(j12:Bool)=>⟨[.k 1,.p 2,.k 2,.p 12,.k 19,.s (e_bool j12),.p 31],[.o 0,.o 1,.o 3]⟩) (.b (.t [ok 0,ok 1,ok 3]) (.t [ok 0,ok 1,ok 3])) (.b (.t [ok 0,ok 1,ok 2]) (.b (.b (.t [ok 0,ok 1,ok 2]) (.t [ok 0,ok 1,ok 2])) (.t [ok 0,ok 1,ok 2]))))) (.b .o (.t [ok 0,ok 1])))) (.t [ok 1])) .o))⟩
theorem jb{t0:GScope}{t1:Int}{t2:GSignature}{r:Int}(h:law_checkRule t0 t1 t2=some r):Den Tryz.prog 178 [e_GScope t0,e_i64 t1,e_GSignature t2] (e_i64 r):=by
 refine dk 142 Zd ?_;simp only[Zd,Kf.of,zs,ze];unfold law_checkRule at h;refine ss (rg ?_);(try simp only[zz]);refine ss (rg ?_);obtain⟨x1,f2,f3,h⟩:=bI h;(try simp only[zz,f2,f3]);refine ss (rg ?_);(try simp only[zz]);refine ss (ss (rg ?_));obtain⟨x2,a4,h⟩:=bs h;obtain⟨f5,f6,f7⟩:=subh_f (e:=e_GRule) a4;(try simp only[zz]at f7);(try simp only[zz,f5,f6,f7]);obtain⟨y8,h9,h⟩:=bs h;refine lm h9 (fun q=>⟨.dead::e_i64 t1::.dead::.ref 0 0 0 0::.dead::.ref 1 0 0 0::.dead::.ref 2 0 0 0::e_i64 q.1::ds 11 (e_s_GRule x2::e_i64 (x2.length:Int)::e_i64 q.2::ds 122 []),[.live 5 0 [e_GScope t0],.live 6 0 [e_GSignature t2],.live 9 0 [e_GRule x1]]⟩) (fun b11=>⟨.dead::e_i64 t1::.dead::.ref 0 0 0 0::.dead::.ref 1 0 0 0::.dead::.ref 2 0 0 0::e_i64 b11::ds 136 [],[.live 5 0 [e_GScope t0],.live 6 0 [e_GSignature t2],.live 9 0 [e_GRule x1]]⟩) (tz [ok 0,ok 1,ok 2]) ?_ ?_
 ·rintro⟨s3,s4⟩ z10 h11 h12;simp only[law_checkRule_L1]at h11;refine ss (rg ?_);(try simp only[zz]);refine ss (cd rfl ?_);(try simp only[zz]);refine gi h11 (fun c5 h11=>?_) fun c5 h11=>?_
  ·refine sk ?_;(try simp only[zz,c5]);refine jm h11 (fun j8=>⟨.dead::e_i64 t1::.dead::.ref 0 0 0 0::.dead::.ref 1 0 0 0::.dead::.ref 2 0 0 0::e_i64 j8::ds 11 (e_s_GRule x2::e_i64 (x2.length:Int)::e_i64 s4::ds 122 []),[.live 5 0 [e_GScope t0],.live 6 0 [e_GSignature t2],.live 9 0 [e_GRule x1]]⟩) (fun z14 h13=>?_) fun j8 h13 h11=>?_
   ·refine bk (ss (rg ?_));obtain⟨x6,f16,f17,h13⟩:=bI h13;(try simp only[zz,f16,f17]);refine ss (rg ?_);(try simp only[zz]);refine cd rfl ?_;(try simp only[zz]);refine gi h13 (fun c7 h13=>?_) fun c7 h13=>?_
    ·have e18:=eT c7;refine rg ?_;(try simp only[zz]);cases h13;exact tz [ok 0,ok 1,ok 2]
    have e19:=eF c7;refine sk ?_;(try simp only[zz,c7,e19]);cases h13;exact tz [ok 0,ok 1,ok 2]
   refine rg ?_;(try simp only[zz]);cases h11;exact tz [ok 0,ok 1,ok 2]
  refine xt ?_;(try simp only[zz,c5]);cases h11;exact tz [ok 0,ok 1,ok 2]
 rintro b11 rfl;dsimp only at h;(try simp only[zz]);refine ss (bk (ss (rg ?_)));obtain⟨x12,a20,h⟩:=bs h;simp only[zz];refine cq (xa a20) ?_ (by simp only[zg]);(try simp only[zz]);refine cd rfl ?_;(try simp only[zz]);refine gi h (fun c13 h=>?_) fun c13 h=>?_
 ·refine ss (rg ?_);(try simp only[zz]);cases h;exact rt ez
 refine ss (rg ?_);obtain⟨x14,a21,h⟩:=bs h;obtain⟨f22,f23,f24⟩:=subh_f (e:=e_GRule) a21;(try simp only[zz]at f24);obtain⟨x15,a25,h⟩:=bs h;simp only[zz,f22,f23,f24];refine cv (na (q1:=[e_p_GRule x1]) (frC frN) (fun x900 _ hb=>Ha hb) a25) ?_ rfl (by simp only[zg,c13,f22,f23,f24]);(try simp only[zz,f22,f23,f24]);refine cd rfl ?_;(try simp only[zz,f22,f23,f24]);refine gi h (fun c16 h=>?_) fun c16 h=>?_
 ·refine ss (rg ?_);(try simp only[zz]);cases h;exact rt ez
 refine jm h (fun j18=>⟨.dead::e_i64 t1::.dead::.ref 0 0 0 0::.dead::.ref 1 0 0 0::.dead::.ref 2 0 0 0::e_i64 b11::ds 37 (e_bool j18::ds 98 []),[.live 5 0 [e_GScope t0],.live 6 0 [e_GSignature t2],.live 9 0 [e_GRule x1]]⟩) (fun z27 h26=>?_) fun j18 h26 h=>?_
 ·refine rg ?_;(try simp only[zz]);refine gi h26 (fun c17 h26=>?_) fun c17 h26=>?_
  ·(try simp only[zz,c17]);cases h26;exact tz [ok 0,ok 1,ok 2]
  (try simp only[zz,c17]);cases h26;exact tz [ok 0,ok 1,ok 2]
 refine cd rfl ?_;(try simp only[zz]);refine gi h (fun c19 h=>?_) fun c19 h=>?_
 ·refine ss (rg ?_);(try simp only[zz]);cases h;exact rt ez
 refine jm h (fun j24=>⟨ds 3 (.ref 0 0 0 0::.dead::.ref 1 0 0 0::.dead::.ref 2 0 0 0::e_i64 b11::ds 49 (e_bool j24::ds 86 [])),[.live 5 0 [e_GScope t0],.live 6 0 [e_GSignature t2],.live 9 0 [e_GRule x1]]⟩) (fun z29 h28=>?_) fun j24 h28 h=>?_
 ·refine dy hmix ?_;(try simp only[zz,zy]);refine gi h28 (fun c20 h28=>?_) fun c20 h28=>?_
  ·have e30:=nT c20;(try simp only[zz,c20,e30,zy]);refine gi h28 (fun c21 h28=>?_) fun c21 h28=>?_
   ·(try simp only[zz,c20,e30,c21,zy]);refine gi h28 (fun c22 h28=>?_) fun c22 h28=>?_
    ·obtain⟨x23,f33,f34,h28⟩:=bI h28;(try simp only[zz,c20,e30,c21,c22,f33,f34,zy]);cases h28;exact tz [ok 0,ok 1,ok 2]
    (try simp only[zz,c20,e30,c21,c22,zy]);cases h28;exact tz [ok 0,ok 1,ok 2]
   (try simp only[zz,c20,e30,c21,zy]);cases h28;exact tz [ok 0,ok 1,ok 2]
  have e31:=nD c20;(try simp only[zz,c20,e31,zy]);cases h28;exact tz [ok 0,ok 1,ok 2]
 refine cd rfl ?_;(try simp only[zz]);refine gi h (fun c25 h=>?_) fun c25 h=>?_
 ·refine ss (rg ?_);(try simp only[zz]);cases h;exact rt ez
 refine jm h (fun j27=>⟨ds 3 (.ref 0 0 0 0::.dead::.ref 1 0 0 0::.dead::.ref 2 0 0 0::e_i64 b11::ds 76 (e_bool j27::ds 59 [])),[.live 5 0 [e_GScope t0],.live 6 0 [e_GSignature t2],.live 9 0 [e_GRule x1]]⟩) (fun z36 h35=>?_) fun j27 h35 h=>?_
 ·refine rg ?_;(try simp only[zz]);refine gi h35 (fun c26 h35=>?_) fun c26 h35=>?_
  ·(try simp only[zz,c26]);cases h35;exact tz [ok 0,ok 1,ok 2]
  (try simp only[zz,c26]);cases h35;exact tz [ok 0,ok 1,ok 2]
 refine cd rfl ?_;(try simp only[zz]);refine gi h (fun c28 h=>?_) fun c28 h=>?_
 ·refine ss (rg ?_);(try simp only[zz]);cases h;exact rt ez
 refine jm h (fun j31=>⟨ds 3 (.ref 0 0 0 0::.dead::.ref 1 0 0 0::.dead::.ref 2 0 0 0::e_i64 b11::ds 85 (e_bool j31::ds 50 [])),[.live 5 0 [e_GScope t0],.live 6 0 [e_GSignature t2],.live 9 0 [e_GRule x1]]⟩) (fun z38 h37=>?_) fun j31 h37 h=>?_
 ·refine rg ?_;(try simp only[zz]);refine gi h37 (fun c29 h37=>?_) fun c29 h37=>?_
  ·(try simp only[zz,c29]);refine gi h37 (fun c30 h37=>?_) fun c30 h37=>?_
   ·(try simp only[zz,c29,c30]);cases h37;exact tz [ok 0,ok 1,ok 2]
   (try simp only[zz,c29,c30]);cases h37;exact tz [ok 0,ok 1,ok 2]
  (try simp only[zz,c29]);cases h37;exact tz [ok 0,ok 1,ok 2]
 refine cd rfl ?_;(try simp only[zz]);refine gi h (fun c32 h=>?_) fun c32 h=>?_
 ·refine ss (rg ?_);(try simp only[zz]);cases h;exact rt ez
 refine ss (rg ?_);(try simp only[zz]);refine cd rfl ?_;(try simp only[zz]);refine gi h (fun c33 h=>?_) fun c33 h=>?_
 ·refine ss (rg ?_);(try simp only[zz]);cases h;exact rt ez
 refine ss (rg ?_);obtain⟨x34,a39,h⟩:=bs h;simp only[zz];refine cq (Ka a39) ?_ (by simp only[zg,c13,c16,c19,c25,c28,c32]);(try simp only[zz]);refine cd rfl ?_;(try simp only[zz]);refine gi h (fun c35 h=>?_) fun c35 h=>?_
 ·refine ss (rg ?_);(try simp only[zz]);cases h;exact rt ez
 refine sk ?_;(try simp only[zz,c35]);obtain⟨z41,h40,h⟩:=bs h;refine tj (fun(q:Unit)=>⟨ds 3 (.ref 0 0 0 0::.dead::.ref 1 0 0 0::.dead::.ref 2 0 0 0::ds 137 []),[.live 5 0 [e_GScope t0],.live 6 0 [e_GSignature t2],.live 9 0 [e_GRule x1]]⟩) z41 ?_ ?_
 ·refine ss (rg ?_);(try simp only[zz]);refine cd rfl ?_;(try simp only[zz]);refine gi h40 (fun c36 h40=>?_) fun c36 h40=>?_
  ·refine ss (rg ?_);obtain⟨x37,a42,h40⟩:=bs h40;simp only[zz];refine cq (ya a42) ?_ (by simp only[zg,c13,c16,c19,c25,c28,c32,c35]);(try simp only[zz]);refine ss (rg ?_);(try simp only[zz]);refine cd rfl ?_;(try simp only[zz]);refine gi h40 (fun c38 h40=>?_) fun c38 h40=>?_
   ·have e43:=nT c38;refine ss (rg ?_);(try simp only[zz]);cases h40;cases h;exact rt ez
   have e44:=nD c38;refine sk ?_;(try simp only[zz,c38,e44]);cases h40;exact tz [ok 0,ok 1,ok 2]
  refine sk ?_;(try simp only[zz,c36]);cases h40;exact tz [ok 0,ok 1,ok 2]
 rintro⟨⟩ rfl;dsimp only at h;refine ss (dy hmix ?_);obtain⟨x39,f46,f47,h⟩:=bI h;obtain⟨x40,a48,h⟩:=bs h;simp only[zz,f46,f47,zy];refine cq (ya a48) ?_ (by simp only[zg,c13,c16,c19,c25,c28,c32,c35]);(try simp only[zz,f46,f47,zy]);cases h;exact rt ez
instance {t0 t1 t2 r}:Con (law_checkRule t0 t1 t2=some r) (Den Tryz.prog 178 [e_GScope t0,e_i64 t1,e_GSignature t2] (e_i64 r)):=⟨jb⟩
instance {t0 t1 t2 r}:Con (ref17_ruleError t0 t1 t2=some r) (Den Tryz.prog 185 [e_GLaw t0,e_i64 t1,e_i64 t2] (e_i64 r)):=⟨fun h=>by
 refine dk 141 Yg ?_
 simp only[Yg,Kf.of,zs,ze]
 unfold ref17_ruleError at h
 exact pg @ref17_ruleError_L1.eq_1 (.b .o (.l 2 1 (fun(q:(Int × Int))=>⟨[.k 1,.p 5,.k 1,.p 2,.s (e_i64 q.1),.s (e_i64 q.2),.p 2],[.o 0,.o 1,.o 2]⟩) (fun(b14:Int)=>⟨[.k 1,.p 5,.k 1,.p 2,.s (e_i64 b14)],[.o 0,.o 1,.o 2]⟩) [ok 0,ok 1,ok 2] (.b (.e 1 (fun(j11:Int)=>⟨[.k 1,.p 8,.s (e_i64 j11),.p 17],[.o 0,.o 1,.o 2]⟩) (.b .o (.b (.t [ok 0,ok 1,ok 2]) (.t [ok 0,ok 1,ok 2]))) (.t [ok 0,ok 1,ok 2])) (.t [ok 0,ok 1,ok 2])) (.z 1 (.j 1 (fun(j16:Bool)=>⟨[.k 1,.p 61,.s (e_bool j16),.p 81],[.o 0,.o 1,.o 2]⟩) (.b (.t [ok 0,ok 1,ok 2]) (.t [ok 0,ok 1,ok 2])) (.b .o (.z 1 (.j 1 (fun(j22:Bool)=>⟨[.k 1,.p 1,.k 1,.p 59,.k 26,.s (e_bool j22),.p 55],[.o 0,.o 1,.o 2]⟩) (.b (.b (.b (.t [ok 0,ok 1,ok 2]) (.t [ok 0,ok 1,ok 2])) (.t [ok 0,ok 1,ok 2])) (.t [ok 0,ok 1,ok 2])) (.b .o (.z 1 (.j 1 (fun(j28:Bool)=>⟨[.k 1,.p 87,.k 23,.s (e_bool j28),.p 32],[.o 0,.o 1,.o 2]⟩) (.b (.b (.b (.t [ok 0,ok 1,ok 2]) (.t [ok 0,ok 1,ok 2])) (.t [ok 0,ok 1,ok 2])) (.t [ok 0,ok 1,ok 2])) (.b .o (.b .o (.b .o (.z 1 (.e 0 (fun(_:Unit)=>⟨[.k 7,.p 2,.k 2,.p 100],[.o 1,.o 2,.o 3]⟩) (.b (.b .o (.t [ok 1,ok 2,ok 3])) (.t [ok 1,ok 2,ok 3])) .o)))))))))))))))⟩
instance {t0 c10 r}:Con (slices_ContainsFunc_api_Scope_api_Scope t0 (fun x900=>law_checkScope_c1 x900 c10)=some r) (Den Tryz.prog 174 [e_s_GScope t0,.fn 175 [] [e_p_GScope c10]] (e_bool r)):=⟨fun h=>ka (q1:=[e_p_GScope c10]) (frC frN) (fun x900 _ hb=>Ea hb) h⟩
theorem eb{t0 t1 r} (h:law_checkScope t0 t1=some r):Den Tryz.prog 113 [e_GLaw t0,e_i64 t1] (.tup [e_i64 r.1,e_i64 r.2]):=by
 refine dk 161 Hd ?_
 simp only[Hd,Kf.of,zs,ze]
 unfold law_checkScope at h
 exact pg (And.intro @law_checkScope_L4.eq_1 (And.intro @law_checkScope_L5.eq_1 (And.intro @law_checkScope_L6.eq_1 @law_checkScope_L7.eq_1))) (.z 3 (.j 1 (fun(j8:Bool)=>⟨[.k 1,.p 3,.k 2,.p 2,.s (e_bool j8),.p 10],[.o 0,.o 1]⟩) (.b (.b (.t [ok 0,ok 1]) (.t [ok 0,ok 1])) (.t [ok 0,ok 1])) (.b .o (.b .o (.j 1 (fun(j16:Bool)=>⟨[.k 1,.p 6,.k 45,.s (e_bool j16),.p 110],[.o 0,.o 1]⟩) (.b (.b (.b (.t [ok 0,ok 1]) (.t [ok 0,ok 1])) (.t [ok 0,ok 1])) (.t [ok 0,ok 1])) (.b .o (.b .o (.b .o (.l 1 0 (fun(s20:Int)=>⟨[.k 1,.p 51,.k 35,.p 2,.s (e_i64 s20),.p 73],[.o 0,.o 1]⟩) (fun(_:Unit)=>⟨[.k 1,.p 51],[.o 0,.o 1]⟩) [ok 0,ok 1] (.b (.b .o (.t [ok 0,ok 1])) (.t [ok 0,ok 1])) (.l 1 0 (fun(s27:Int)=>⟨[.k 1,.p 106,.k 1,.p 2,.s (e_i64 s27),.p 52],[.o 0,.o 1]⟩) (fun(_:Unit)=>⟨[.k 1,.p 106],[.o 0,.o 1]⟩) [ok 0,ok 1] (.b (.b .o (.t [ok 0,ok 1])) (.t [ok 0,ok 1])) (.l 1 0 (fun(s35:Int)=>⟨[.k 6,.p 124,.k 5,.p 1,.s (e_i64 s35),.p 26],[.o 1,.o 2]⟩) (fun(_:Unit)=>⟨[.k 6,.p 9],[.o 1]⟩) [ok 1,ok 2] (.b (.b .o (.t [ok 0,ok 1])) (.t [ok 0])) (.l 1 0 (fun(s40:Int)=>⟨[.k 6,.p 143,.k 2,.p 1,.s (e_i64 s40),.p 10],[.o 0]⟩) (fun(_:Unit)=>⟨[],[]⟩) [ok 0] (.b (.b .o (.t [ok 0])) (.t [])) .o))))))))))))
instance {t0 t1 r}:Con (law_checkScope t0 t1=some r) (Den Tryz.prog 113 [e_GLaw t0,e_i64 t1] (.tup [e_i64 r.1,e_i64 r.2])):=⟨eb⟩
instance {t0 t1 r}:Con (ref17_scopeError t0 t1=some r) (Den Tryz.prog 116 [e_GLaw t0,e_i64 t1] (e_GLawError r)):=⟨fun h=>by
 refine dk 123 dg ?_
 simp only[dg,Kf.of,zs,ze]
 unfold ref17_scopeError at h
 exact pg (And.intro @ref17_scopeError_L10.eq_1 (And.intro @ref17_scopeError_L9.eq_1 @ref17_scopeError_L11.eq_1)) (.b .o (.b .o (.z 1 (.j 1 (fun(j10:Bool)=>⟨[.k 1,.p 12,.k 43,.s (e_bool j10),.p 68],[.o 0,.o 1,.o 2,.o 3]⟩) (.b (.b (.b (.t [ok 0,ok 1,ok 2,ok 3]) (.t [ok 0,ok 1,ok 2,ok 3])) (.t [ok 0,ok 1,ok 2,ok 3])) (.t [ok 0,ok 1,ok 2,ok 3])) (.b .o (.b .o (.b .o (.b .o (.l 1 0 (fun(s16:Int)=>⟨[.k 1,.p 5,.k 2,.s (e_i64 s16),.p 47],[.o 0,.o 1,.o 2]⟩) (fun(_:Unit)=>⟨[.k 1,.p 1,.k 2,.p 2],[.o 1,.o 2]⟩) [ok 0,ok 1,ok 2] (.b (.b .o (.t [ok 0,ok 1,ok 2])) (.t [ok 1,ok 2])) (.l 1 0 (fun(s21:Int)=>⟨[.k 1,.p 9,.s (e_i64 s21),.p 114],[.o 0,.o 1]⟩) (fun(_:Unit)=>⟨[.k 4,.p 1],[.o 0]⟩) [ok 0,ok 1] (.b (.l 1 0 (fun(s24:Int)=>⟨[.k 1,.p 11,.s (e_i64 s24),.p 85],[.o 0,.o 1]⟩) (fun(_:Unit)=>⟨[.k 1,.p 10],[.o 0,.o 1]⟩) [ok 0,ok 1] (.b (.b .o (.t [ok 0,ok 1])) (.t [ok 0,ok 1])) (.t [ok 0,ok 1])) (.t [ok 0])) .o))))))))))⟩
instance {t0 r}:Con (law_checkScopes t0=some r) (Den Tryz.prog 65 [e_GLaw t0] (e_GLawError r)):=⟨fun h=>by
 refine dk 30 Al ?_
 simp only[Al,Kf.of,zs,ze]
 unfold law_checkScopes at h
 exact pg @law_checkScopes_L1.eq_1 (.b .o (.l 1 0 (fun(s2:Int)=>⟨[.k 1,.p 5,.k 7,.p 1,.s (e_i64 s2),.p 16],[.o 0,.o 1]⟩) (fun(_:Unit)=>⟨[.k 2,.p 4],[.o 1]⟩) [ok 0,ok 1] (.b (.b .o (.t [ok 0,ok 1])) (.t [ok 1])) .o))⟩
instance {t0 r}:Con (ref17_Validate t0=some r) (Den Tryz.prog 67 [e_GLaw t0] (e_GLawError r)):=⟨fun h=>by
 refine dk 66 Cm ?_
 simp only[Cm,Kf.of,zs,ze]
 unfold ref17_Validate at h
 exact pg (And.intro @ref17_Validate_L3.eq_1 (And.intro @ref17_Validate_L4.eq_1 @ref17_Validate_L5.eq_1)) (.b .o (.l 1 0 (fun(s2:Int)=>⟨[.k 1,.p 2,.s (e_i64 s2),.p 5],[.o 0,.o 1]⟩) (fun(_:Unit)=>⟨[.k 1,.p 2],[.o 0,.o 1]⟩) [ok 0,ok 1] (.b (.b .o (.t [ok 0,ok 1])) (.t [ok 0,ok 1])) (.b .o (.l 1 0 (fun(s8:Int)=>⟨[.k 1,.p 4,.s (e_i64 s8),.p 22],[.o 0,.o 1]⟩) (fun(_:Unit)=>⟨[.k 1,.p 4],[.o 0,.o 1]⟩) [ok 0,ok 1] (.b (.b .o (.t [ok 0,ok 1])) (.t [ok 0,ok 1])) (.b .o (.l 1 0 (fun(s14:Int)=>⟨[.k 1,.p 6,.s (e_i64 s14),.p 39],[.o 0,.o 1]⟩) (fun(_:Unit)=>⟨[.k 2,.p 5],[.o 1]⟩) [ok 0,ok 1] (.b (.b .o (.t [ok 0,ok 1])) (.t [ok 1])) .o))))))⟩
instance {t0 r}:Con (law_Validate t0=some r) (Den Tryz.prog 27 [e_GLaw t0] (e_GLawError r)):=⟨fun h=>by
 refine dk 18 Wk ?_
 simp only[Wk,Kf.of,zs,ze]
 unfold law_Validate at h
 exact pg trivial .o⟩
instance {t0 r}:Con (ref17_IsValid t0=some r) (Den Tryz.prog 29 [e_GLaw t0] (e_bool r)):=⟨fun h=>by
 refine dk 6 Wl ?_
 simp only[Wl,Kf.of,zs,ze]
 unfold ref17_IsValid at h
 exact pg trivial .o⟩
instance {t0 t1 t2 r}:Con (award_ValidateConfig t0 t1 t2=some r) (Den Tryz.prog 10 [e_GLaw t0,e_i64 t1,e_GPayConfig t2] (e_i64 r)):=⟨fun h=>by
 refine dk 102 Tk ?_
 simp only[Tk,Kf.of,zs,ze]
 unfold award_ValidateConfig at h
 exact pg trivial (.b .o (.z 1 (.j 1 (fun(j7:Bool)=>⟨[.k 1,.p 1,.k 1,.p 3,.k 30,.s (e_bool j7),.p 68],[.o 0,.o 1]⟩) (.b (.b (.b (.t [ok 0,ok 1]) (.t [ok 0,ok 1])) (.t [ok 0,ok 1])) (.t [ok 0,ok 1])) (.b .o (.b .o (.z 1 (.j 1 (fun(j15:Bool)=>⟨[.k 5,.p 31,.k 27,.s (e_bool j15),.p 41],[.o 1]⟩) (.b (.b (.t [ok 1]) (.t [ok 1])) (.t [ok 1])) (.b .o (.z 1 (.j 1 (fun(j30:Bool)=>⟨[.k 64,.s (e_bool j30),.p 40],[]⟩) (.j 1 (fun(j18:Bool)=>⟨[.k 5,.p 58,.k 1,.s (e_bool j18),.p 40],[.o 0]⟩) (.b (.t [ok 0]) (.t [ok 0])) (.b (.t []) (.j 1 (fun(j21:Bool)=>⟨[.k 5,.p 59,.s (e_bool j21),.p 40],[.o 0]⟩) (.b (.t [ok 0]) (.t [ok 0])) (.b (.t []) (.j 1 (fun(j24:Bool)=>⟨[.k 5,.p 59,.s (e_bool j24),.p 40],[.o 0]⟩) (.b (.t [ok 0]) (.t [ok 0])) (.b (.t []) (.j 1 (fun(j27:Bool)=>⟨[.k 5,.p 59,.s (e_bool j27),.p 40],[.o 0]⟩) (.b (.t [ok 0]) (.t [ok 0])) (.b (.t []) (.b (.t []) (.t [])))))))))) .o))))))))))⟩
instance {t0 t1 t2 r}:Con (ref36_ValidateConfig t0 t1 t2=some r) (Den Tryz.prog 11 [e_GLaw t0,e_i64 t1,e_GPayConfig t2] (e_i64 r)):=⟨fun h=>by
 refine dk 78 Pl ?_
 simp only[Pl,Kf.of,zs,ze]
 unfold ref36_ValidateConfig at h
 exact pg trivial (.b .o (.z 1 (.j 1 (fun(j7:Bool)=>⟨[.k 1,.p 1,.k 1,.p 3,.k 29,.s (e_bool j7),.p 45],[.o 0,.o 1]⟩) (.b (.b (.b (.t [ok 0,ok 1]) (.t [ok 0,ok 1])) (.t [ok 0,ok 1])) (.t [ok 0,ok 1])) (.b .o (.b .o (.z 1 (.j 1 (fun(j15:Bool)=>⟨[.k 5,.p 30,.k 22,.s (e_bool j15),.p 23],[.o 1]⟩) (.b (.t [ok 1]) (.t [ok 1])) (.b .o (.z 1 (.j 1 (fun(j26:Bool)=>⟨[.k 80,.s (e_bool j26)],[]⟩) (.b (.b (.b (.b (.t []) (.t [])) (.t [])) (.t [])) (.t [])) .o))))))))))⟩
instance {t0 t1 t2 r}:Con (account_Validate t0 t1 t2=some r) (Den Tryz.prog 21 [e_GLaw t0,e_GPayConfig t1,e_GAccount t2] (e_i64 r)):=⟨fun h=>by
 refine dk 110 Vk ?_
 simp only[Vk,Kf.of,zs,ze]
 unfold account_Validate at h
 exact pg (And.intro @account_Validate_L2.eq_1 @account_Validate_L3.eq_1) (.b .o (.b .o (.z 1 (.j 1 (fun(j9:Bool)=>⟨[.k 4,.p 2,.k 41,.s (e_bool j9),.p 65],[.o 1,.o 2]⟩) (.b (.b (.t [ok 1,ok 2]) (.t [ok 1,ok 2])) (.t [ok 1,ok 2])) (.b .o (.b .o (.l 1 0 (fun(s14:Int)=>⟨[.k 4,.p 5,.k 50,.p 2,.s (e_i64 s14),.p 51],[.o 0,.o 1]⟩) (fun(_:Unit)=>⟨[.k 5,.p 4],[.o 1]⟩) [ok 0,ok 1] (.b (.z 3 (.j 1 (fun(j18:Bool)=>⟨[.k 4,.p 58,.k 12,.s (e_bool j18),.p 38],[.o 0,.o 1]⟩) (.b (.t [ok 0,ok 1]) (.t [ok 0,ok 1])) (.b .o (.j 1 (fun(j23:Bool)=>⟨[.k 4,.p 8,.k 47,.p 15,.k 12,.s (e_bool j23),.p 26],[.o 0,.o 1]⟩) (.b (.t [ok 0,ok 1]) (.t [ok 0,ok 1])) (.b .o (.t [ok 0,ok 1])))))) (.t [ok 1])) (.b .o (.l 1 0 (fun(s27:Int)=>⟨[.k 5,.p 83,.k 5,.p 2,.s (e_i64 s27),.p 17],[.o 0]⟩) (fun(_:Unit)=>⟨[.k 5,.p 83],[.o 0]⟩) [ok 0] (.b (.z 2 (.j 1 (fun(j32:Bool)=>⟨[.k 5,.p 8,.k 80,.p 3,.k 12,.s (e_bool j32),.p 4],[.o 0]⟩) (.b (.t [ok 0]) (.t [ok 0])) (.b .o (.t [ok 0])))) (.t [ok 0])) .o)))))))))⟩
instance {t0 t1 t2 r}:Con (ref43_Validate t0 t1 t2=some r) (Den Tryz.prog 22 [e_GLaw t0,e_GPayConfig t1,e_GAccount t2] (e_i64 r)):=⟨fun h=>by
 refine dk 129 Tl ?_
 simp only[Tl,Kf.of,zs,ze]
 unfold ref43_Validate at h
 exact pg (And.intro @ref43_Validate_L2.eq_1 @ref43_Validate_L3.eq_1) (.b .o (.b .o (.z 1 (.j 1 (fun(j10:Bool)=>⟨[.k 4,.p 2,.k 49,.s (e_bool j10),.p 76],[.o 1,.o 2]⟩) (.b (.b (.b (.b (.t [ok 1,ok 2]) (.t [ok 1,ok 2])) (.t [ok 1,ok 2])) (.t [ok 1,ok 2])) (.t [ok 1,ok 2])) (.b .o (.b .o (.l 1 0 (fun(s14:Int)=>⟨[.k 4,.p 4,.k 1,.s (e_i64 s14),.p 45],[.o 0,.o 1]⟩) (fun(_:Unit)=>⟨[.k 5,.p 3],[.o 1]⟩) [ok 0,ok 1] (.b (.z 2 (.j 1 (fun(j22:Bool)=>⟨[.k 4,.p 6,.k 91,.s (e_bool j22),.p 30],[.o 0,.o 1]⟩) (.b (.b (.b (.t [ok 0,ok 1]) (.t [ok 0,ok 1])) (.t [ok 0,ok 1])) (.t [ok 0,ok 1])) (.b .o (.t [ok 0,ok 1])))) (.t [ok 1])) (.b .o (.l 1 0 (fun(s26:Int)=>⟨[.k 5,.p 6,.s (e_i64 s26),.p 90],[.o 0]⟩) (fun(_:Unit)=>⟨[.k 5,.p 6],[.o 0]⟩) [ok 0] (.b (.z 1 (.j 1 (fun(j31:Bool)=>⟨[.k 5,.p 101,.k 23,.s (e_bool j31),.p 2],[.o 0]⟩) (.b (.t [ok 0]) (.t [ok 0])) (.b .o (.t [ok 0])))) (.t [ok 0])) .o)))))))))⟩
theorem ta{t0 t1 t2 r} (h:law43_AccountValidate t0 t1 t2=some r):Den Tryz.prog 6 [e_GLaw t0,e_GPayConfig t1,e_GAccount t2] (e_bool r):=by
 refine dk 22 k6 ?_
 simp only[k6,Kf.of,zs,ze]
 unfold law43_AccountValidate at h
 exact pg trivial (.b .o (.j 1 (fun(j8:Bool)=>⟨[.k 6,.s (e_bool j8)],[]⟩) (.b (.t []) (.t [])) .o))
instance {t0 t1 t2 r}:Con (law43_AccountValidate t0 t1 t2=some r) (Den Tryz.prog 6 [e_GLaw t0,e_GPayConfig t1,e_GAccount t2] (e_bool r)):=⟨ta⟩
end Go.Proofs.Dev
