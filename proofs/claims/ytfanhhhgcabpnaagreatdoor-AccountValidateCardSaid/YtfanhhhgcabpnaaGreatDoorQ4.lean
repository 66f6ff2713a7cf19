/-
  Contracts of the functions: each answers as its plain partial function says.
-/
import Derived.Test.YtfanhhhgcabpnaaGreatDoorK
import Derived.Test.YtfanhhhgcabpnaaGreatDoorG
import Derived.Test.YtfanhhhgcabpnaaGreatDoorPD
import Derived.Test.YtfanhhhgcabpnaaGreatDoorL1
import Derived.Test.YtfanhhhgcabpnaaGreatDoorQ0
import Derived.Test.YtfanhhhgcabpnaaGreatDoorQ1
import Derived.Test.YtfanhhhgcabpnaaGreatDoorQ2
import Derived.Test.YtfanhhhgcabpnaaGreatDoorQ3
set_option linter.all false
set_option maxHeartbeats 1000000
set_option maxRecDepth 10000
namespace Go.Proofs.Dev
open Go Go.Tm
instance {t0 r}:Con (workday_Valid t0=some r) (Den Tryz.prog 28 [e_GCalendar t0] (e_bool r)):=⟨fun h=>by
 refine dk 44 Xk ?_
 simp only[Xk,Kf.of,zs,ze]
 unfold workday_Valid at h
 exact pg @workday_Valid_L1.eq_1 (.z 2 (.j 1 (fun(j3:Bool)=>⟨[.k 1,.p 1,.k 16,.s (e_bool j3),.p 26],[.o 0]⟩) (.b (.b (.t [ok 0]) (.t [ok 0])) (.t [ok 0])) (.b .o (.l 1 0 (fun(s5:Int)=>⟨[.k 1,.p 17,.k 2,.p 2,.s (e_i64 s5),.p 22],[.o 0]⟩) (fun(_:Unit)=>⟨[],[]⟩) [ok 0] (.b (.z 2 (.j 1 (fun(j12:Bool)=>⟨[.k 1,.p 2,.k 17,.p 3,.k 20,.s (e_bool j12),.p 1],[.o 0]⟩) (.b (.b (.t [ok 0]) (.t [ok 0])) (.t [ok 0])) (.b .o (.t [ok 0])))) (.t [])) .o))))⟩
instance {t0 t1 r}:Con (law_sharedSignature t0 t1=some r) (Den Tryz.prog 177 [e_GLaw t0,e_i64 t1] (e_GSignature r)):=⟨fun h=>by
 refine dk 43 Yd ?_
 simp only[Yd,Kf.of,zs,ze]
 unfold law_sharedSignature at h
 exact pg trivial (.z 3 (.j 2 (fun(q:((List GType) × Bool))=>⟨[.k 4,.p 1,.k 1,.p 1],[.o 1,.h 3 [.g [.p 4,.s (e_s_GType q.1),.s (e_bool q.2)]]]⟩) (.j 1 (fun(j5:Bool)=>⟨[.k 2,.p 5,.k 26,.s (e_bool j5),.p 11],[.o 0,.o 1,.o 2,.o 3]⟩) (.b (.t [ok 0,ok 1,ok 2,ok 3]) (.t [ok 0,ok 1,ok 2,ok 3])) (.b (.t [ok 1,ok 3]) (.t [ok 1,ok 3]))) .o))⟩
theorem Na{t0 r} (h:deps_sortedSet t0=some r):DenC Tryz.prog 259 [] [] 1 (t0.map e_i64) (e_s_i64 r):=by
 refine DenC.at 6 Xc.ok Xc.nm frN frN (Fr.l _) rfl ?_
 simp only[Xc,Kf.of,zs,ze]
 unfold deps_sortedSet at h
 exact pg trivial .o
instance {t0 r}:Con (deps_sortedSet t0=some r) (DenC Tryz.prog 259 [] [] 1 (t0.map e_i64) (e_s_i64 r)):=⟨Na⟩
theorem Aa{t0 r} (h:ref10_ordered t0=some r):Den Tryz.prog 339 [e_i64 t0] (e_bool r):=by
 refine dk 8 Jj ?_
 simp only[Jj,Kf.of,zs,ze]
 unfold ref10_ordered at h
 exact pg trivial (.z 1 (.j 1 (fun(j3:Bool)=>⟨[.k 2,.s (e_bool j3),.p 6],[]⟩) (.b (.t []) (.t [])) .o))
instance {t0 r}:Con (ref10_ordered t0=some r) (Den Tryz.prog 339 [e_i64 t0] (e_bool r)):=⟨Aa⟩
theorem Pa{t0 t1 t2 r} (h:ref10_scaled t0 t1 t2=some r):Den Tryz.prog 341 [e_i64 t0,e_i64 t1,e_i64 t2] (.tup [e_GType r.1,e_bool r.2]):=by
 refine dk 53 Lj ?_
 simp only[Lj,Kf.of,zs,ze]
 unfold ref10_scaled at h
 exact pg trivial (.b (.j 3 (fun(q:(Int × Int × Bool))=>⟨[.k 6,.p 1,.s (e_bool q.2.2)],[.h 0 [.g [.s (e_i64 q.1),.s (e_i64 q.2.1)]]]⟩) (.b (.b (.t [ok 0]) (.t [ok 0])) (.t [ok 0])) .o) (.b (.j 3 (fun(q:(Int × Int × Bool))=>⟨[.k 6,.p 1,.s (e_bool q.2.2)],[.h 0 [.g [.s (e_i64 q.1),.s (e_i64 q.2.1)]]]⟩) (.b (.b (.t [ok 0]) (.t [ok 0])) (.t [ok 0])) .o) (.z 1 (.j 1 (fun(j16:Bool)=>⟨[.k 1,.p 6,.k 35,.s (e_bool j16),.p 13],[.o 0]⟩) (.b (.t [ok 0]) (.t [ok 0])) (.b .o (.j 3 (fun(q:(Int × Int × Bool))=>⟨[.k 6,.p 1,.s (e_bool q.2.2),.p 34],[.h 0 [.g [.s (e_i64 q.1),.s (e_i64 q.2.1)]]]⟩) (.b (.b (.t [ok 0]) (.t [ok 0])) (.t [ok 0])) .o))))))
instance {t0 t1 t2 r}:Con (ref10_scaled t0 t1 t2=some r) (Den Tryz.prog 341 [e_i64 t0,e_i64 t1,e_i64 t2] (.tup [e_GType r.1,e_bool r.2])):=⟨Pa⟩
instance {t0 t1 r}:Con (ref10_leaf t0 t1=some r) (Den Tryz.prog 318 [e_GNode t0,e_GSignature t1] (.tup [e_GType r.1,e_bool r.2])):=⟨fun h=>by
 refine dk 89 pj ?_
 simp only[pj,Kf.of,zs,ze]
 unfold ref10_leaf at h
 exact pg trivial (.z 2 (.j 2 (fun(q:(Int × Int))=>⟨[.k 2,.p 3,.k 1,.p 2],[.o 0,.o 1,.o 2,.h 3 [.g [.s (e_i64 q.1),.s (e_i64 q.2)]]]⟩) (.b (.t [ok 0,ok 1,ok 2,ok 3]) (.b (.t [ok 0,ok 1,ok 2,ok 3]) (.b (.t [ok 0,ok 1,ok 2,ok 3]) (.b (.t [ok 0,ok 1,ok 2,ok 3]) (.b (.t [ok 0,ok 1,ok 2,ok 3]) (.j 1 (fun(j13:Bool)=>⟨[.k 2,.p 3,.k 1,.p 2,.k 34,.s (e_bool j13),.p 48],[.o 0,.o 1,.o 2,.o 3]⟩) (.b (.t [ok 0,ok 1,ok 2,ok 3]) (.b (.t [ok 0,ok 1,ok 2,ok 3]) (.b (.t [ok 0,ok 1,ok 2,ok 3]) (.t [ok 0,ok 1,ok 2,ok 3])))) (.b (.t [ok 0,ok 1,ok 2,ok 3]) (.t [ok 0,ok 1,ok 2,ok 3])))))))) (.z 1 (.j 1 (fun(j30:Bool)=>⟨[.k 4,.p 3,.s (e_bool j30),.p 45],[.o 2,.o 3]⟩) (.b (.b (.b (.t [ok 2,ok 3]) (.t [ok 2,ok 3])) (.t [ok 2,ok 3])) (.j 1 (fun(j24:Bool)=>⟨[.k 4,.p 49,.k 5,.p 1,.k 13,.s (e_bool j24),.p 18],[.o 2,.o 3]⟩) (.b (.t [ok 2,ok 3]) (.t [ok 2,ok 3])) (.b (.b (.t [ok 0,ok 1]) (.t [ok 0,ok 1])) (.b (.b (.t [ok 0,ok 1]) (.t [ok 0,ok 1])) (.t [ok 0,ok 1]))))) .o))))⟩
theorem ob{t0:Int}{t1:GType}{t2:GType}{r:(GType×Bool)}(h:ref10_double t0 t1 t2=some r):Den Tryz.prog 320 [e_i64 t0,e_GType t1,e_GType t2] (.tup [e_GType r.1,e_bool r.2]):=by
 refine dk 105 rj ?_;simp only[rj,Kf.of,zs,ze];unfold ref10_double at h;refine ss (rg ?_);(try simp only[zz]);refine ss (ss (rg ?_));(try simp only[zz]);refine bk ?_;refine jm h (fun j2=>⟨e_i64 t0::ds 3 (.ref 0 0 0 0::.ref 1 0 0 0::.ref 2 0 0 0::.dead::e_i64 t0::e_bool j2::ds 98 []),[.live 2 0 [e_GType t1],.live 2 0 [e_GType t2],.live 2 0 [.agg [e_i64 0,e_i64 0]]]⟩) (fun z2 h1=>?_) fun j2 h1 h=>?_
 ·refine ss (rg ?_);(try simp only[zz]);refine cd rfl ?_;(try simp only[zz]);refine gi h1 (fun c1 h1=>?_) fun c1 h1=>?_
  ·have e3:=eT c1;refine sk ?_;(try simp only[zz,eq_true c1,e3]);cases h1;exact tz [ok 0,ok 1,ok 2]
  have e4:=eF c1;refine rg ?_;(try simp only[zz]);cases h1;exact tz [ok 0,ok 1,ok 2]
 refine cd rfl ?_;(try simp only[zz]);refine gi h (fun c3 h=>?_) fun c3 h=>?_
 ·refine jm h (fun j6=>⟨ds 6 (.ref 0 0 0 0::e_bool j6::ds 100 []),[.live 2 0 [e_GType t1]]⟩) (fun z6 h5=>?_) fun j6 h5 h=>?_
  ·refine ay hmix [[],[],[],[],[],[],[],[],[],[]] (by kernel_rfl) ?_;(try simp only[zz,zy]);refine gi h5 (fun c4 h5=>?_) fun c4 h5=>?_
   ·obtain⟨x5,a7,h5⟩:=bs h5;simp only[zz,eq_true c4,zy];refine lq (Ga a7) ?_ (by simp only[zg,c3]);(try simp only[zz,eq_true c4,zy]);cases h5;exact tz [ok 2]
   (try simp only[zz,c4,zy]);cases h5;exact tz [ok 2]
  cases h;exact rt ez
 refine jm h (fun j9=>⟨e_i64 t0::ds 3 (.ref 0 0 0 0::.ref 1 0 0 0::.ref 2 0 0 0::.dead::e_i64 t0::ds 12 (e_bool j9::ds 86 [])),[.live 2 0 [e_GType t1],.live 2 0 [e_GType t2],.live 2 0 [.agg [e_i64 0,e_i64 0]]]⟩) (fun z9 h8=>?_) fun j9 h8 h=>?_
 ·refine ss (rg ?_);(try simp only[zz]);refine cd rfl ?_;(try simp only[zz]);refine gi h8 (fun c7 h8=>?_) fun c7 h8=>?_
  ·have e10:=eT c7;refine sk ?_;(try simp only[zz,eq_true c7,e10]);cases h8;exact tz [ok 0,ok 1,ok 2]
  have e11:=eF c7;refine ss (rg ?_);(try simp only[zz]);refine cd rfl ?_;(try simp only[zz]);refine gi h8 (fun c8 h8=>?_) fun c8 h8=>?_
  ·have e12:=eT c8;refine sk ?_;(try simp only[zz,eq_true c8,e12]);cases h8;exact tz [ok 0,ok 1,ok 2]
  have e13:=eF c8;refine rg ?_;(try simp only[zz]);cases h8;exact tz [ok 0,ok 1,ok 2]
 refine cd rfl ?_;(try simp only[zz]);refine gi h (fun c10 h=>?_) fun c10 h=>?_
 ·refine ss (rg ?_);obtain⟨x11,a14,h⟩:=bs h;simp only[zz];refine cq (Pa a14) ?_ (by simp only[zg,c3,c10]);(try simp only[zz]);cases h;exact rt ez
 refine ss (rg ?_);(try simp only[zz]);refine cd rfl ?_;(try simp only[zz]);refine gi h (fun c12 h=>?_) fun c12 h=>?_
 ·have e15:=eT c12;refine jm h (fun j14=>⟨ds 6 (.ref 0 0 0 0::e_bool j14::ds 100 []),[.live 2 0 [e_GType t1]]⟩) (fun z18 h17=>?_) fun j14 h17 h=>?_
  ·refine ay hmix [[],[],[],[],[],[],[],[],[],[6]] (by kernel_rfl) ?_;(try simp only[zz,zy]);refine gi h17 (fun c13 h17=>?_) fun c13 h17=>?_
   ·have e19:=eT c13;(try simp only[zz,eq_true c13,e19,zy]);cases h17;exact tz [ok 2]
   have e20:=eF c13;(try simp only[zz,c13,e20,zy]);cases h17;exact tz [ok 2]
  cases h;exact rt ez
 have e16:=eF c12;refine jm h (fun j16=>⟨ds 4 (.ref 0 0 0 0::.ref 1 0 0 0::.ref 2 0 0 0::.dead::e_i64 t0::ds 35 (e_bool j16::ds 63 [])),[.live 2 0 [e_GType t1],.live 2 0 [e_GType t2],.live 2 0 [.agg [e_i64 0,e_i64 0]]]⟩) (fun z22 h21=>?_) fun j16 h21 h=>?_
 ·refine ss (rg ?_);(try simp only[zz]);refine cd rfl ?_;(try simp only[zz]);refine gi h21 (fun c15 h21=>?_) fun c15 h21=>?_
  ·have e23:=eT c15;refine sk ?_;(try simp only[zz,eq_true c15,e23]);cases h21;exact tz [ok 0,ok 1,ok 2]
  have e24:=eF c15;refine rg ?_;(try simp only[zz]);cases h21;exact tz [ok 0,ok 1,ok 2]
 refine cd rfl ?_;(try simp only[zz]);refine gi h (fun c17 h=>?_) fun c17 h=>?_
 ·refine jm h (fun j20=>⟨ds 6 (.ref 0 0 0 0::e_bool j20::ds 100 []),[.live 2 0 [e_GType t1]]⟩) (fun z26 h25=>?_) fun j20 h25 h=>?_
  ·refine ay hmix [[],[],[],[],[],[],[],[],[],[]] (by kernel_rfl) ?_;(try simp only[zz,zy]);refine gi h25 (fun c18 h25=>?_) fun c18 h25=>?_
   ·obtain⟨x19,a27,h25⟩:=bs h25;simp only[zz,eq_true c18,zy];refine lq (Aa a27) ?_ (by simp only[zg,c3,c10,e16,c17]);(try simp only[zz,eq_true c18,zy]);cases h25;exact tz [ok 2]
   (try simp only[zz,c18,zy]);cases h25;exact tz [ok 2]
  cases h;exact rt ez
 refine jm h (fun j22=>⟨ds 4 (.ref 0 0 0 0::.ref 1 0 0 0::.ref 2 0 0 0::.dead::e_i64 t0::ds 47 (e_bool j22::ds 51 [])),[.live 2 0 [e_GType t1],.live 2 0 [e_GType t2],.live 2 0 [.agg [e_i64 0,e_i64 0]]]⟩) (fun z29 h28=>?_) fun j22 h28 h=>?_
 ·refine ss (rg ?_);(try simp only[zz]);refine cd rfl ?_;(try simp only[zz]);refine gi h28 (fun c21 h28=>?_) fun c21 h28=>?_
  ·have e30:=eT c21;refine sk ?_;(try simp only[zz,eq_true c21,e30]);cases h28;exact tz [ok 0,ok 1,ok 2]
  have e31:=eF c21;refine rg ?_;(try simp only[zz]);cases h28;exact tz [ok 0,ok 1,ok 2]
 refine cd rfl ?_;(try simp only[zz]);refine gi h (fun c23 h=>?_) fun c23 h=>?_
 ·refine ss (ay hmix [[],[],[],[],[1,2]] (by kernel_rfl) ?_);obtain⟨x24,a32,h⟩:=bs h;simp only[zz,zy];refine lq (ia a32) ?_ (by simp only[zg,c3,c10,e16,c17,c23]);(try simp only[zz,zy]);cases h;exact rt ez
 refine jm h (fun j26=>⟨ds 4 (.ref 0 0 0 0::.ref 1 0 0 0::.ref 2 0 0 0::.dead::e_i64 t0::ds 54 (e_bool j26::ds 44 [])),[.live 2 0 [e_GType t1],.live 2 0 [e_GType t2],.live 2 0 [.agg [e_i64 0,e_i64 0]]]⟩) (fun z34 h33=>?_) fun j26 h33 h=>?_
 ·refine ss (rg ?_);(try simp only[zz]);refine cd rfl ?_;(try simp only[zz]);refine gi h33 (fun c25 h33=>?_) fun c25 h33=>?_
  ·have e35:=eT c25;refine sk ?_;(try simp only[zz,eq_true c25,e35]);cases h33;exact tz [ok 0,ok 1,ok 2]
  have e36:=eF c25;refine rg ?_;(try simp only[zz]);cases h33;exact tz [ok 0,ok 1,ok 2]
 refine cd rfl ?_;(try simp only[zz]);refine gi h (fun c27 h=>?_) fun c27 h=>?_
 ·refine jm h (fun q=>⟨ds 6 (.ref 0 0 0 0::e_bool q.2.2::ds 100 []),[.live 2 0 [.agg [e_i64 q.1,e_i64 q.2.1]]]⟩) (fun z38 h37=>?_) fun z38 h37 h=>?_
  ·refine ay hmix [[],[],[],[],[],[],[],[],[],[]] (by kernel_rfl) ?_;obtain⟨x28,a39,h37⟩:=bs h37;simp only[zz,zy];refine lq (ia a39) ?_ (by simp only[zg,c3,c10,e16,c17,c23,c27]);(try simp only[zz,zy]);refine gi h37 (fun c29 h37=>?_) fun c29 h37=>?_
   ·obtain⟨x30,a40,h37⟩:=bs h37;simp only[zz,eq_true c29,zy];refine lq (Aa a40) ?_ (by simp only[zg,c3,c10,e16,c17,c23,c27]);(try simp only[zz,eq_true c29,zy]);cases h37;exact tz [ok 2]
   (try simp only[zz,c29,zy]);cases h37;exact tz [ok 2]
  obtain⟨j31,j32,j33⟩:=z38;dsimp only at h;cases h;exact rt ez
 refine jm h (fun j35=>⟨ds 4 (.ref 0 0 0 0::.ref 1 0 0 0::.ref 2 0 0 0::.dead::e_i64 t0::ds 66 (e_bool j35::ds 32 [])),[.live 2 0 [e_GType t1],.live 2 0 [e_GType t2],.live 2 0 [.agg [e_i64 0,e_i64 0]]]⟩) (fun z42 h41=>?_) fun j35 h41 h=>?_
 ·refine ss (rg ?_);(try simp only[zz]);refine cd rfl ?_;(try simp only[zz]);refine gi h41 (fun c34 h41=>?_) fun c34 h41=>?_
  ·have e43:=eT c34;refine sk ?_;(try simp only[zz,eq_true c34,e43]);cases h41;exact tz [ok 0,ok 1,ok 2]
  have e44:=eF c34;refine rg ?_;(try simp only[zz]);cases h41;exact tz [ok 0,ok 1,ok 2]
 refine cd rfl ?_;(try simp only[zz]);refine gi h (fun c36 h=>?_) fun c36 h=>?_
 ·refine jm h (fun j38=>⟨ds 6 (.ref 0 0 0 0::e_bool j38::ds 100 []),[.live 2 0 [e_GType t1]]⟩) (fun z46 h45=>?_) fun j38 h45 h=>?_
  ·refine ay hmix [[],[],[],[],[],[],[],[],[],[6]] (by kernel_rfl) ?_;(try simp only[zz,zy]);refine gi h45 (fun c37 h45=>?_) fun c37 h45=>?_
   ·have e47:=eT c37;(try simp only[zz,eq_true c37,e47,zy]);cases h45;exact tz [ok 2]
   have e48:=eF c37;(try simp only[zz,c37,e48,zy]);cases h45;exact tz [ok 2]
  cases h;exact rt ez
 refine jm h (fun j40=>⟨ds 4 (.ref 0 0 0 0::.ref 1 0 0 0::.ref 2 0 0 0::ds 80 (e_bool j40::ds 20 [])),[.live 2 0 [e_GType t1],.live 2 0 [e_GType t2],.live 2 0 [.agg [e_i64 0,e_i64 0]]]⟩) (fun z50 h49=>?_) fun j40 h49 h=>?_
 ·refine ss (rg ?_);(try simp only[zz]);refine cd rfl ?_;(try simp only[zz]);refine gi h49 (fun c39 h49=>?_) fun c39 h49=>?_
  ·have e51:=eT c39;refine sk ?_;(try simp only[zz,eq_true c39,e51]);cases h49;exact tz [ok 0,ok 1,ok 2]
  have e52:=eF c39;refine rg ?_;(try simp only[zz]);cases h49;exact tz [ok 0,ok 1,ok 2]
 refine cd rfl ?_;(try simp only[zz]);refine gi h (fun c41 h=>?_) fun c41 h=>?_
 ·refine jm h (fun j43=>⟨ds 6 (.ref 0 0 0 0::e_bool j43::ds 100 []),[.live 2 0 [e_GType t1]]⟩) (fun z54 h53=>?_) fun j43 h53 h=>?_
  ·refine ay hmix [[],[],[],[],[],[],[],[],[],[6]] (by kernel_rfl) ?_;(try simp only[zz,zy]);refine gi h53 (fun c42 h53=>?_) fun c42 h53=>?_
   ·have e55:=eT c42;(try simp only[zz,eq_true c42,e55,zy]);cases h53;exact tz [ok 2]
   have e56:=eF c42;(try simp only[zz,c42,e56,zy]);cases h53;exact tz [ok 2]
  cases h;exact rt ez
 refine sk ?_;(try simp only[zz,c41]);refine jm h (fun q=>⟨ds 6 (.ref 0 0 0 0::e_bool q.2.2::ds 100 []),[.live 2 0 [.agg [e_i64 q.1,e_i64 q.2.1]]]⟩) (fun z58 h57=>?_) fun z58 h57 h=>?_
 ·refine ay hmix [[],[],[],[],[],[],[],[],[],[6]] (by kernel_rfl) ?_;obtain⟨x44,a59,h57⟩:=bs h57;simp only[zz,zy];refine lq (ia a59) ?_ (by simp only[zg,c3,c10,e16,c17,c23,c27,c36,c41]);(try simp only[zz,zy]);refine gi h57 (fun c45 h57=>?_) fun c45 h57=>?_
  ·have e60:=eT c45;(try simp only[zz,eq_true c45,e60,zy]);cases h57;exact tz [ok 2]
  have e61:=eF c45;(try simp only[zz,c45,e61,zy]);cases h57;exact tz [ok 2]
 obtain⟨j46,j47,j48⟩:=z58;dsimp only at h;cases h;exact rt ez
instance {t0 t1 t2 r}:Con (ref10_double t0 t1 t2=some r) (Den Tryz.prog 320 [e_i64 t0,e_GType t1,e_GType t2] (.tup [e_GType r.1,e_bool r.2])):=⟨ob⟩
end Go.Proofs.Dev
