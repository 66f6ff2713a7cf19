/-
  Contracts of the functions: each answers as its plain partial function says.
-/
import Derived.Test.YtfanhhhgcabpnaaGreatDoorK
import Derived.Test.YtfanhhhgcabpnaaGreatDoorG
import Derived.Test.YtfanhhhgcabpnaaGreatDoorPD
import Derived.Test.YtfanhhhgcabpnaaGreatDoorL1
import Derived.Test.YtfanhhhgcabpnaaGreatDoorW4
open Option.some renaming inj→eo
set_option linter.all false
set_option maxHeartbeats 1000000
set_option maxRecDepth 10000
namespace Go.Proofs.Dev
open Go Go.Tm
instance {t0 r}:Con (same_SmallHousehold t0=some r) (Den Tryz.prog 12 [e_GHousehold t0] (e_bool r)):=⟨fun h=>by
 refine dk 6 Ql ?_
 simp only[Ql,Kf.of,zs,ze]
 unfold same_SmallHousehold at h
 exact pg trivial .o⟩
instance {r : Bool}:Con (law43_awake=some r) (Den Tryz.prog 16 [] (e_bool r)):=⟨fun h=>by
  unfold law43_awake at h
  obtain rfl := eo h
  exact Ic⟩




instance {t0 r}:Con (ref37_signed t0=some r) (Den Tryz.prog 103 [e_GPosting t0] (e_i64 r)):=⟨fun h=>by
 refine dk 14 Wf ?_
 simp only[Wf,Kf.of,zs,ze]
 unfold ref37_signed at h
 exact pg trivial (.b .o (.j 1 (fun(j3:Bool)=>⟨[.k 1,.p 1,.k 7,.s (e_bool j3),.p 5],[.o 0]⟩) (.b (.t [ok 0]) (.t [ok 0])) .o))⟩
instance {t0 t1 r}:Con (value_ValidType t0 t1=some r) (Den Tryz.prog 146 [e_GType t0,e_s_GEnum t1] (e_bool r)):=⟨fun h=>by
 refine dk 26 Ld ?_
 simp only[Ld,Kf.of,zs,ze]
 unfold value_ValidType at h
 exact pg trivial (.z 3 (.j 1 (fun(j5:Bool)=>⟨[.k 1,.p 3,.k 2,.p 1,.s (e_bool j5),.p 20],[.o 0]⟩) (.b (.t [ok 0]) (.b (.t [ok 0]) (.b (.t [ok 0]) (.b (.t [ok 0]) (.t [ok 0]))))) (.b .o (.b (.j 1 (fun(j9:Bool)=>⟨[.k 4,.s (e_bool j9),.p 1],[]⟩) (.b (.t []) (.t [])) .o) .o))))⟩
theorem Oa{t0}{t1:GRow→Option Bool}{k1:Nat}{q1:List D}(hc1:idfrees q1=true)(hp1:∀ x0 r,t1 x0=some r→Den Tryz.prog k1 ([e_GRow x0]++q1) (e_bool r)){r} (h:table_first_api_Row t0 t1=some r):Den Tryz.prog 164 [e_s_GRow t0,.fn k1 [] q1] (.tup [e_i64 r.1,e_bool r.2]):=by
 haveI I1:∀ x0 r,Con (t1 x0=some r) (Den Tryz.prog k1 ([e_GRow x0]++q1) (e_bool r)):=fun x0 r=>⟨hp1 x0 r⟩
 have s1:∀ f:D→D→Prop,SqS f q1 q1=True:=fun _=>sqS_same hc1
 have z1:∀ a b n,rfL a b n q1=q1:=fun _ _ _=>rfL_free _ _ _ _ hc1
 refine Den.at 18 Oc.ok Oc.nm (frC (frF hc1 frN)) rfl ?_
 simp only[Oc,Kf.of,zs,ze]
 unfold table_first_api_Row at h
 exact pg @table_first_api_Row_L1.eq_1 (.l 1 0 (fun(s1:Int)=>⟨[.k 1,.p 3,.k 4,.p 2,.s (e_i64 s1),.p 9],[]⟩) (fun(_:Unit)=>⟨[],[]⟩) [] (.b (.b .o (.t [])) (.t [])) .o)
instance {t0 r}:Con (lexer_isLower t0=some r) (Den Tryz.prog 167 [e_u8 t0] (e_bool r)):=⟨fun h=>by
 refine dk 8 Qd ?_
 simp only[Qd,Kf.of,zs,ze]
 unfold lexer_isLower at h
 exact pg trivial (.z 1 (.j 1 (fun(j2:Bool)=>⟨[.k 2,.s (e_bool j2),.p 6],[]⟩) (.b (.t []) (.t [])) .o))⟩
theorem Ea{t0 t1 r} (h:law_checkScope_c1 t0 t1=some r):Den Tryz.prog 175 [e_GScope t0,e_p_GScope t1] (e_bool r):=by
 refine dk 7 Wd ?_
 simp only[Wd,Kf.of,zs,ze]
 unfold law_checkScope_c1 at h
 exact pg trivial .o
instance {t0 t1 r}:Con (law_checkScope_c1 t0 t1=some r) (Den Tryz.prog 175 [e_GScope t0,e_p_GScope t1] (e_bool r)):=⟨Ea⟩
theorem Ha{t0 t1 r} (h:law_checkRule_c1 t0 t1=some r):Den Tryz.prog 228 [e_GRule t0,e_p_GRule t1] (e_bool r):=by
 refine dk 7 ue ?_
 simp only[ue,Kf.of,zs,ze]
 unfold law_checkRule_c1 at h
 exact pg trivial .o
instance {t0 t1 r}:Con (law_checkRule_c1 t0 t1=some r) (Den Tryz.prog 228 [e_GRule t0,e_p_GRule t1] (e_bool r)):=⟨Ha⟩
theorem ib{t0:(List (List Int))}{t1:Int}{r:List Int}(h:Ca t0 t1=some r):Den Tryz.prog 232 [e_s_s_i64 t0,e_i64 t1] (e_s_i64 r):=by
 refine dk 60 Be ?_;simp only[Be,Kf.of,zs,ze];unfold Ca at h;refine ss (rg ?_);(try simp only[zz]);refine ss (rg ?_);obtain⟨x1,a1,h⟩:=bs h;obtain⟨f2,f3,f4,f5,f6⟩:=mks_f (e:=e_bool) a1;(try simp only[zz]at f5 f6);(try simp only[zz,f2,f3,f4,f5,f6]);refine ss (rg ?_);(try simp only[zz]);refine ss ?_;obtain⟨y7,h8,h⟩:=bs h;refine lm h8 (fun q=>⟨e_s_s_i64 t0::ds 4 (.own 0 0::.own 1 0::ds 55 []),[.live 1 0 (q.1.map e_bool),.live 1 0 (q.2.map e_i64)]⟩) (fun b26=>⟨ds 5 (.own 0 0::ds 56 []),[.live 1 0 (b26.map e_bool)]⟩) (tz [ok 0,ok 1]) ?_ ?_
 ·rintro⟨s2,s3⟩ z9 h10 h11;simp only[ca]at h10;refine ss (ss (rg ?_));(try simp only[zz]);refine cd rfl ?_;(try simp only[zz]);refine gi h10 (fun c4 h10=>?_) fun c4 h10=>?_
  ·refine sk ?_;(try simp only[zz,c4]);refine bk (ss (rg ?_));obtain⟨x5,f13,f14,f15,h10⟩:=bO h10;(try simp only[zz,f13,f14,f15]);refine ss (rg ?_);obtain⟨x6,a16,h10⟩:=bs h10;obtain⟨f17,f18,f19⟩:=front_f (e:=e_i64) a16;(try simp only[zz]at f19);(try simp only[zz,f17,f18,f19]);refine ss (rg ?_);obtain⟨x7,f21,f22,h10⟩:=bI h10;(try simp only[zz,f21,f22]);obtain⟨y23,h24,h10⟩:=bs h10;refine lm h24 (fun q=>⟨e_s_s_i64 t0::ds 4 (.own 0 0::.own 1 0::ds 22 (e_s_i64 x7::e_i64 (x7.length:Int)::e_i64 q.2.2::ds 30 [])),[.live 1 0 (q.1.map e_bool),.live 1 0 (q.2.1.map e_i64)]⟩) (fun q=>⟨e_s_s_i64 t0::ds 4 (.own 0 0::.own 1 0::ds 55 []),[.live 1 0 (q.1.map e_bool),.live 1 0 (q.2.map e_i64)]⟩) (tz [ok 0,ov 1 1]) ?_ ?_
   ·rintro⟨s8,s9,s10⟩ z25 h26 h27;simp only[ea]at h26;refine ss (rg ?_);(try simp only[zz]);refine ss (cd rfl ?_);(try simp only[zz]);refine gi h26 (fun c11 h26=>?_) fun c11 h26=>?_
    ·refine sk ?_;(try simp only[zz,c11]);refine jm h26 (fun q=>⟨e_s_s_i64 t0::ds 4 (.own 0 0::.own 1 0::ds 22 (e_s_i64 x7::e_i64 (x7.length:Int)::e_i64 s10::ds 30 [])),[.live 1 0 (q.1.map e_bool),.live 1 0 (q.2.map e_i64)]⟩) (fun z29 h28=>?_) fun z29 h28 h26=>?_
     ·refine bk (ss (rg ?_));obtain⟨x12,f31,f32,h28⟩:=bI h28;(try simp only[zz,f31,f32]);refine ss (rg ?_);obtain⟨x13,f34,f35,f36,h28⟩:=bO h28;(try simp only[zz,f34,f35,f36]);refine cd rfl ?_;(try simp only[zz,f34,f35,f36]);refine gi h28 (fun c14 h28=>?_) fun c14 h28=>?_
      ·refine ss (rg ?_);obtain⟨x15,a37,h28⟩:=bs h28;obtain⟨f38,f39⟩:=put_f (e:=e_bool) a37;(try simp only[zz]at f39);(try simp only[zz,f34,f35,f36,f38,f39]);refine rg ?_;obtain⟨x16,a40,h28⟩:=bs h28;obtain⟨f41,f42⟩:=app_f (e:=e_i64) a40;(try simp only[zz]at f41 f42);(try simp only[zz,f41,f42]);cases h28;exact tz [ok 0,ov 1 1]
      refine sk ?_;(try simp only[zz,f34,f35,f36,c14]);cases h28;exact tz [ok 0,ok 1]
     obtain⟨j17,j18⟩:=z29;dsimp only at h26;refine rg ?_;(try simp only[zz]);cases h26;exact tz [ok 0,ok 1]
    refine xt ?_;(try simp only[zz,c11]);cases h26;exact tz [ok 0,ok 1]
   rintro⟨b22,b23⟩ rfl;dsimp only at h10;(try simp only[zz]);cases h10;exact tz [ok 0,ok 1]
  refine xt ?_;(try simp only[zz,c4]);cases h10;exact tz [ok 0]
 rintro b26 rfl;dsimp only at h;(try simp only[zz]);refine ss (rg ?_);(try simp only[zz]);refine ss (ss (rg ?_));(try simp only[zz]);obtain⟨y43,h44,h⟩:=bs h;refine lm h44 (fun q=>⟨ds 10 (.own 0 0::ds 37 (.own 1 0::e_i64 (b26.length:Int)::e_i64 q.2::ds 11 [])),[.live 1 0 (q.1.map e_i64),.live 1 0 (b26.map e_bool)]⟩) (fun b36=>⟨ds 10 (.own 0 0::ds 51 []),[.live 1 0 (b36.map e_i64)]⟩) (tz [on 1,ok 0]) ?_ ?_
 ·rintro⟨s27,s28⟩ z45 h46 h47;simp only[fa]at h46;refine ss (rg ?_);(try simp only[zz]);refine ss (cd rfl ?_);(try simp only[zz]);refine gi h46 (fun c29 h46=>?_) fun c29 h46=>?_
  ·refine sk ?_;(try simp only[zz,c29]);refine jm h46 (fun j33=>⟨ds 10 (.own 0 0::ds 37 (.own 1 0::e_i64 (b26.length:Int)::e_i64 s28::ds 11 [])),[.live 1 0 (j33.map e_i64),.live 1 0 (b26.map e_bool)]⟩) (fun z49 h48=>?_) fun j33 h48 h46=>?_
   ·refine bk (ss (rg ?_));obtain⟨x30,f51,f52,f53,h48⟩:=bO h48;(try simp only[zz,f51,f52,f53]);refine ss (rg ?_);(try simp only[zz]);refine cd rfl ?_;(try simp only[zz]);refine gi h48 (fun c31 h48=>?_) fun c31 h48=>?_
    ·refine rg ?_;obtain⟨x32,a54,h48⟩:=bs h48;obtain⟨f55,f56⟩:=app_f (e:=e_i64) a54;(try simp only[zz]at f55 f56);(try simp only[zz,f55,f56]);cases h48;exact tz [ov 0 1,ok 1]
    refine sk ?_;(try simp only[zz,c31]);cases h48;exact tz [ok 0,ok 1]
   refine rg ?_;(try simp only[zz]);cases h46;exact tz [ok 0,ok 1]
  refine xt ?_;(try simp only[zz,c29]);cases h46;exact tz [ok 0]
 rintro b36 rfl;dsimp only at h;(try simp only[zz]);refine ss (rg ?_);(try simp only[zz]);cases h;exact rt ez
theorem mb{t0:(List (List Int))}{t1:Int}{r:List Int}(h:deps_reached t0 t1=some r):Den Tryz.prog 232 [e_s_s_i64 t0,e_i64 t1] (e_s_i64 r):=ib (Ec h)
instance {t0 t1 r}:Con (deps_reached t0 t1=some r) (Den Tryz.prog 232 [e_s_s_i64 t0,e_i64 t1] (e_s_i64 r)):=⟨mb⟩
theorem ua{t0 t1 r} (h:ref09_ValidType t0 t1=some r):Den Tryz.prog 237 [e_GType t0,e_s_GEnum t1] (e_bool r):=by
 refine dk 29 Oh ?_
 simp only[Oh,Kf.of,zs,ze]
 unfold ref09_ValidType at h
 exact pg trivial (.b (.j 1 (fun(j3:Bool)=>⟨[.k 4,.s (e_bool j3)],[]⟩) (.b (.t []) (.t [])) .o) (.j 1 (fun(j6:Bool)=>⟨[.k 4,.s (e_bool j6)],[]⟩) (.b (.b (.t []) (.t [])) (.t [])) .o))
instance {t0 t1 r}:Con (ref09_ValidType t0 t1=some r) (Den Tryz.prog 237 [e_GType t0,e_s_GEnum t1] (e_bool r)):=⟨ua⟩

instance {t0 t1 r}:Con (ref16_is t0 t1=some r) (Den Tryz.prog 272 [e_GScope t0,e_i64 t1] (e_bool r)):=⟨fun h=>by
 refine dk 12 Ci ?_
 simp only[Ci,Kf.of,zs,ze]
 unfold ref16_is at h
 exact pg trivial (.z 1 (.j 1 (fun(j2:Bool)=>⟨[.k 4,.s (e_bool j2),.p 9],[]⟩) (.b (.t []) (.t [])) .o))⟩
instance {t0 t1 r}:Con (expr_enumType t0 t1=some r) (Den Tryz.prog 309 [e_i64 t0,e_GSignature t1] (.tup [e_GType r.1,e_i64 r.2])):=⟨fun h=>by
 refine dk 32 Oe ?_
 simp only[Oe,Kf.of,zs,ze]
 unfold expr_enumType at h
 exact pg trivial (.b .o (.z 2 (.j 1 (fun(j4:Bool)=>⟨[.k 4,.p 1,.k 1,.p 1,.k 23,.s (e_bool j4),.p 3],[.o 1]⟩) (.b (.t [ok 1]) (.t [ok 1])) .o)))⟩
instance {t0 r}:Con (ref10_meaning t0=some r) (Den Tryz.prog 315 [e_i64 t0] (e_bool r)):=⟨fun h=>by
 refine dk 34 mj ?_
 simp only[mj,Kf.of,zs,ze]
 unfold ref10_meaning at h
 exact pg trivial (.z 2 (.j 1 (fun(j5:Bool)=>⟨[.p 2,.k 14,.s (e_bool j5),.p 18],[]⟩) (.b (.b (.b (.t []) (.t [])) (.t [])) (.b (.t []) (.t []))) (.b .o (.j 1 (fun(j11:Bool)=>⟨[.k 2,.s (e_bool j11),.p 13],[]⟩) (.b (.b (.b (.b (.t []) (.t [])) (.t [])) (.t [])) (.t [])) .o))))⟩
end Go.Proofs.Dev
