/-
  Contracts of the functions: each answers as its plain partial function says.
-/
import Derived.Test.YtfanhhhgcabpnaaGreatDoorK
import Derived.Test.YtfanhhhgcabpnaaGreatDoorPD
import Derived.Test.YtfanhhhgcabpnaaGreatDoorQ1
set_option linter.all false
set_option maxHeartbeats 1000000
set_option maxRecDepth 10000
namespace Go.Proofs.Dev
open Go Go.Tm
theorem expr_resultType_ok {t0:Int}{t1:List GType}{r:(GType×Bool)}(h:expr_resultType t0 t1=some r):Den Tryz.prog 314 [e_i64 t0,e_s_GType t1] (.tup [e_GType r.1,e_bool r.2]):=by
 refine dk 220 k314 ?_;simp only [k314,Kf.of,zs,ze];unfold expr_resultType at h;refine ss (rg ?_);(try simp only [zz]);refine ss (rg ?_);(try simp only [zz]);refine ss (ss (rg ?_));(try simp only [zz]);refine bk (ss (rg ?_));(try simp only [zz]);refine cd rfl ?_;(try simp only [zz]);refine gi h (fun c1 h=>?_) fun c1 h=>?_
 ·have e1:=eT c1;refine ss (dy hmix ?_);obtain⟨x2,f4,f5,h⟩:=bI h;obtain⟨x3,a6,h⟩:=bs h;simp only [zz,f4,f5,zy];refine lq (expr_isNumber_ok a6) ?_ (by simp only [zg,e1]);(try simp only [zz,f4,f5,zy]);cases h;exact rt ez
 have e2:=eF c1;refine ss (rg ?_);(try simp only [zz]);refine cd rfl ?_;(try simp only [zz]);refine gi h (fun c4 h=>?_) fun c4 h=>?_
 ·have e7:=eT c4;refine ss (ay hmix [[],[],[],[],[],[],[2,4]] (by kernel_rfl) ?_);obtain⟨x5,f10,f11,h⟩:=bI h;(try simp only [zz,f10,f11,zy]);cases h;exact rt ez
 have e8:=eF c4;refine jm h (fun j7=>⟨e_i64 t0::e_s_GType t1::ds 2 (.ref 0 0 0 0::.dead::.ref 1 0 0 0::.dead::e_i64 t0::ds 18 (e_bool j7::ds 194 [])),[.live 2 0 [.agg [e_i64 0,e_i64 0]],.live 2 0 [.agg [e_i64 1,e_i64 0]]]⟩) (fun z13 h12=>?_) fun j7 h12 h=>?_
 ·refine ss (rg ?_);(try simp only [zz]);refine cd rfl ?_;(try simp only [zz]);refine gi h12 (fun c6 h12=>?_) fun c6 h12=>?_
  ·have e14:=eT c6;refine sk ?_;(try simp only [zz,eq_true c6,e14]);cases h12;exact tz [ok 0,ok 1]
  have e15:=eF c6;refine rg ?_;(try simp only [zz]);cases h12;exact tz [ok 0,ok 1]
 refine cd rfl ?_;(try simp only [zz]);refine gi h (fun c8 h=>?_) fun c8 h=>?_
 ·refine jm h (fun q=>⟨ds 4 (.ref 0 0 0 0::e_bool q.2.2::ds 216 []),[.live 2 0 [.agg [e_i64 q.1,e_i64 q.2.1]]]⟩) (fun z17 h16=>?_) fun z17 h16 h=>?_
  ·refine ay hmix [[],[],[],[],[],[],[],[],[],[],[],[],[],[],[],[],[],[]] (by kernel_rfl) ?_;obtain⟨x9,f19,f20,h16⟩:=bI h16;obtain⟨x10,f22,f23,h16⟩:=bI h16;(try simp only [zz,f19,f20,f22,f23,zy]);refine gi h16 (fun c11 h16=>?_) fun c11 h16=>?_
   ·obtain⟨x12,a24,h16⟩:=bs h16;simp only [zz,f19,f20,f22,f23,eq_true c11,zy];refine lq (expr_isNumber_ok a24) ?_ (by simp only [zg,e2,e8,c8]);(try simp only [zz,f19,f20,f22,f23,eq_true c11,zy]);cases h16;exact tz [ok 0]
   (try simp only [zz,f19,f20,f22,f23,c11,zy]);cases h16;exact tz [ok 0]
  obtain⟨j13,j14,j15⟩:=z17;dsimp only at h;cases h;exact rt ez
 refine jm h (fun j18=>⟨e_i64 t0::e_s_GType t1::ds 2 (.ref 0 0 0 0::.dead::.ref 1 0 0 0::.dead::e_i64 t0::ds 38 (e_bool j18::ds 174 [])),[.live 2 0 [.agg [e_i64 0,e_i64 0]],.live 2 0 [.agg [e_i64 1,e_i64 0]]]⟩) (fun z26 h25=>?_) fun j18 h25 h=>?_
 ·refine ss (rg ?_);(try simp only [zz]);refine cd rfl ?_;(try simp only [zz]);refine gi h25 (fun c16 h25=>?_) fun c16 h25=>?_
  ·have e27:=eT c16;refine sk ?_;(try simp only [zz,eq_true c16,e27]);cases h25;exact tz [ok 0,ok 1]
  have e28:=eF c16;refine ss (rg ?_);(try simp only [zz]);refine cd rfl ?_;(try simp only [zz]);refine gi h25 (fun c17 h25=>?_) fun c17 h25=>?_
  ·have e29:=eT c17;refine sk ?_;(try simp only [zz,eq_true c17,e29]);cases h25;exact tz [ok 0,ok 1]
  have e30:=eF c17;refine rg ?_;(try simp only [zz]);cases h25;exact tz [ok 0,ok 1]
 refine cd rfl ?_;(try simp only [zz]);refine gi h (fun c19 h=>?_) fun c19 h=>?_
 ·refine ss (dy hmix ?_);obtain⟨x20,f32,f33,h⟩:=bI h;obtain⟨x21,f35,f36,h⟩:=bI h;obtain⟨x22,a37,h⟩:=bs h;simp only [zz,f32,f33,f35,f36,zy];refine lq (expr_productType_ok a37) ?_ (by simp only [zg,e2,e8,c8,c19]);(try simp only [zz,f32,f33,f35,f36,zy]);cases h;exact rt ez
 refine ss (rg ?_);(try simp only [zz]);refine cd rfl ?_;(try simp only [zz]);refine gi h (fun c23 h=>?_) fun c23 h=>?_
 ·have e38:=eT c23;refine jm h (fun q=>⟨ds 4 (.ref 0 0 0 0::e_bool q.2.2::ds 216 []),[.live 2 0 [.agg [e_i64 q.1,e_i64 q.2.1]]]⟩) (fun z41 h40=>?_) fun z41 h40 h=>?_
  ·refine ay hmix [[],[],[],[],[],[],[],[],[],[],[],[],[],[],[],[10,12]] (by kernel_rfl) ?_;obtain⟨x24,f43,f44,h40⟩:=bI h40;(try simp only [zz,f43,f44,zy]);refine gi h40 (fun c25 h40=>?_) fun c25 h40=>?_
   ·have e45:=eT c25;obtain⟨x26,f48,f49,h40⟩:=bI h40;(try simp only [zz,f43,f44,eq_true c25,e45,f48,f49,zy]);cases h40;exact tz [ok 0]
   have e46:=eF c25;(try simp only [zz,f43,f44,c25,e46,zy]);cases h40;exact tz [ok 0]
  obtain⟨j27,j28,j29⟩:=z41;dsimp only at h;cases h;exact rt ez
 have e39:=eF c23;refine jm h (fun j31=>⟨.dead::e_s_GType t1::ds 2 (.ref 0 0 0 0::.dead::.ref 1 0 0 0::.dead::e_i64 t0::ds 71 (e_bool j31::ds 141 [])),[.live 2 0 [.agg [e_i64 0,e_i64 0]],.live 2 0 [.agg [e_i64 1,e_i64 0]]]⟩) (fun z51 h50=>?_) fun j31 h50 h=>?_
 ·refine ss (rg ?_);(try simp only [zz]);refine cd rfl ?_;(try simp only [zz]);refine gi h50 (fun c30 h50=>?_) fun c30 h50=>?_
  ·have e52:=eT c30;refine sk ?_;(try simp only [zz,eq_true c30,e52]);cases h50;exact tz [ok 0,ok 1]
  have e53:=eF c30;refine rg ?_;(try simp only [zz]);cases h50;exact tz [ok 0,ok 1]
 refine cd rfl ?_;(try simp only [zz]);refine gi h (fun c32 h=>?_) fun c32 h=>?_
 ·refine jm h (fun q=>⟨ds 4 (.ref 0 0 0 0::e_bool q.2.2::ds 216 []),[.live 2 0 [.agg [e_i64 q.1,e_i64 q.2.1]]]⟩) (fun z55 h54=>?_) fun z55 h54 h=>?_
  ·refine ay hmix [[],[],[],[],[],[],[],[],[],[],[],[],[],[],[],[],[],[],[],[],[],[],[],[],[18,20]] (by kernel_rfl) ?_;obtain⟨x33,f57,f58,h54⟩:=bI h54;obtain⟨x34,f60,f61,h54⟩:=bI h54;(try simp only [zz,f57,f58,f60,f61,zy]);refine gi h54 (fun c35 h54=>?_) fun c35 h54=>?_
   ·obtain⟨x36,a62,h54⟩:=bs h54;simp only [zz,f57,f58,f60,f61,eq_true c35,zy];refine lq (expr_isNumber_ok a62) ?_ (by simp only [zg,e2,e8,c8,c19,e39,c32]);(try simp only [zz,f57,f58,f60,f61,eq_true c35,zy]);refine gi h54 (fun c37 h54=>?_) fun c37 h54=>?_
    ·(try simp only [zz,f57,f58,f60,f61,eq_true c35,c37,zy]);cases h54;exact tz [ok 0]
    (try simp only [zz,f57,f58,f60,f61,eq_true c35,c37,zy]);cases h54;exact tz [ok 0]
   (try simp only [zz,f57,f58,f60,f61,c35,zy]);cases h54;exact tz [ok 0]
  obtain⟨j38,j39,j40⟩:=z55;dsimp only at h;cases h;exact rt ez
 refine jm h (fun j42=>⟨.dead::e_s_GType t1::ds 2 (.ref 0 0 0 0::.dead::.ref 1 0 0 0::.dead::e_i64 t0::ds 98 (e_bool j42::ds 114 [])),[.live 2 0 [.agg [e_i64 0,e_i64 0]],.live 2 0 [.agg [e_i64 1,e_i64 0]]]⟩) (fun z64 h63=>?_) fun j42 h63 h=>?_
 ·refine ss (rg ?_);(try simp only [zz]);refine cd rfl ?_;(try simp only [zz]);refine gi h63 (fun c41 h63=>?_) fun c41 h63=>?_
  ·have e65:=eT c41;refine sk ?_;(try simp only [zz,eq_true c41,e65]);cases h63;exact tz [ok 0,ok 1]
  have e66:=eF c41;refine rg ?_;(try simp only [zz]);cases h63;exact tz [ok 0,ok 1]
 refine cd rfl ?_;(try simp only [zz]);refine gi h (fun c43 h=>?_) fun c43 h=>?_
 ·refine ss (ay hmix [[],[],[],[],[],[],[],[],[2,3,5,6]] (by kernel_rfl) ?_);obtain⟨x44,f68,f69,h⟩:=bI h;obtain⟨x45,f71,f72,h⟩:=bI h;(try simp only [zz,f68,f69,f71,f72,zy]);cases h;exact rt ez
 refine jm h (fun j47=>⟨.dead::e_s_GType t1::ds 2 (.ref 0 0 0 0::.dead::.ref 1 0 0 0::.dead::e_i64 t0::ds 109 (e_bool j47::ds 103 [])),[.live 2 0 [.agg [e_i64 0,e_i64 0]],.live 2 0 [.agg [e_i64 1,e_i64 0]]]⟩) (fun z74 h73=>?_) fun j47 h73 h=>?_
 ·refine ss (rg ?_);(try simp only [zz]);refine cd rfl ?_;(try simp only [zz]);refine gi h73 (fun c46 h73=>?_) fun c46 h73=>?_
  ·have e75:=eT c46;refine sk ?_;(try simp only [zz,eq_true c46,e75]);cases h73;exact tz [ok 0,ok 1]
  have e76:=eF c46;refine rg ?_;(try simp only [zz]);cases h73;exact tz [ok 0,ok 1]
 refine cd rfl ?_;(try simp only [zz]);refine gi h (fun c48 h=>?_) fun c48 h=>?_
 ·refine jm h (fun j54=>⟨ds 4 (.ref 0 0 0 0::e_bool j54::ds 216 []),[.live 2 0 [.agg [e_i64 1,e_i64 0]]]⟩) (fun z78 h77=>?_) fun j54 h77 h=>?_
  ·refine ay hmix [[],[],[],[],[],[],[],[],[],[],[],[],[],[],[],[],[],[],[],[],[],[],[16,18]] (by kernel_rfl) ?_;obtain⟨x49,f80,f81,h77⟩:=bI h77;obtain⟨x50,f83,f84,h77⟩:=bI h77;(try simp only [zz,f80,f81,f83,f84,zy]);refine gi h77 (fun c51 h77=>?_) fun c51 h77=>?_
   ·obtain⟨x52,a85,h77⟩:=bs h77;simp only [zz,f80,f81,f83,f84,eq_true c51,zy];refine lq (expr_isNumber_ok a85) ?_ (by simp only [zg,e2,e8,c8,c19,e39,c32,c43,c48]);(try simp only [zz,f80,f81,f83,f84,eq_true c51,zy]);refine gi h77 (fun c53 h77=>?_) fun c53 h77=>?_
    ·(try simp only [zz,f80,f81,f83,f84,eq_true c51,c53,zy]);cases h77;exact tz [ok 0]
    (try simp only [zz,f80,f81,f83,f84,eq_true c51,c53,zy]);cases h77;exact tz [ok 0]
   (try simp only [zz,f80,f81,f83,f84,c51,zy]);cases h77;exact tz [ok 0]
  cases h;exact rt ez
 refine jm h (fun j56=>⟨.dead::e_s_GType t1::ds 2 (.ref 0 0 0 0::.dead::.ref 1 0 0 0::.dead::e_i64 t0::ds 134 (e_bool j56::ds 78 [])),[.live 2 0 [.agg [e_i64 0,e_i64 0]],.live 2 0 [.agg [e_i64 1,e_i64 0]]]⟩) (fun z87 h86=>?_) fun j56 h86 h=>?_
 ·refine ss (rg ?_);(try simp only [zz]);refine cd rfl ?_;(try simp only [zz]);refine gi h86 (fun c55 h86=>?_) fun c55 h86=>?_
  ·have e88:=eT c55;refine sk ?_;(try simp only [zz,eq_true c55,e88]);cases h86;exact tz [ok 0,ok 1]
  have e89:=eF c55;refine rg ?_;(try simp only [zz]);cases h86;exact tz [ok 0,ok 1]
 refine cd rfl ?_;(try simp only [zz]);refine gi h (fun c57 h=>?_) fun c57 h=>?_
 ·refine jm h (fun j61=>⟨ds 4 (.ref 0 0 0 0::e_bool j61::ds 216 []),[.live 2 0 [.agg [e_i64 1,e_i64 0]]]⟩) (fun z91 h90=>?_) fun j61 h90 h=>?_
  ·refine ay hmix [[],[],[],[],[],[],[],[],[],[],[],[],[],[8,10]] (by kernel_rfl) ?_;obtain⟨x58,f93,f94,h90⟩:=bI h90;(try simp only [zz,f93,f94,zy]);refine gi h90 (fun c59 h90=>?_) fun c59 h90=>?_
   ·have e95:=eT c59;obtain⟨x60,f98,f99,h90⟩:=bI h90;(try simp only [zz,f93,f94,eq_true c59,e95,f98,f99,zy]);cases h90;exact tz [ok 0]
   have e96:=eF c59;(try simp only [zz,f93,f94,c59,e96,zy]);cases h90;exact tz [ok 0]
  cases h;exact rt ez
 refine ss (rg ?_);(try simp only [zz]);refine cd rfl ?_;(try simp only [zz]);refine gi h (fun c62 h=>?_) fun c62 h=>?_
 ·have e100:=eT c62;refine jm h (fun q=>⟨ds 4 (.ref 0 0 0 0::e_bool q.2.2::ds 216 []),[.live 2 0 [.agg [e_i64 q.1,e_i64 q.2.1]]]⟩) (fun z103 h102=>?_) fun z103 h102 h=>?_
  ·refine ay hmix [[],[],[],[],[],[],[],[],[],[],[],[],[],[],[],[],[],[10,11,13,14]] (by kernel_rfl) ?_;obtain⟨x63,f105,f106,h102⟩:=bI h102;obtain⟨x64,f108,f109,h102⟩:=bI h102;(try simp only [zz,f105,f106,f108,f109,zy]);refine gi h102 (fun c65 h102=>?_) fun c65 h102=>?_
   ·have e110:=eT c65;obtain⟨x66,f113,f114,h102⟩:=bI h102;(try simp only [zz,f105,f106,f108,f109,eq_true c65,e110,f113,f114,zy]);cases h102;exact tz [ok 0]
   have e111:=eF c65;(try simp only [zz,f105,f106,f108,f109,c65,e111,zy]);cases h102;exact tz [ok 0]
  obtain⟨j67,j68,j69⟩:=z103;dsimp only at h;cases h;exact rt ez
 have e101:=eF c62;refine jm h (fun j71=>⟨.dead::e_s_GType t1::ds 2 (.ref 0 0 0 0::ds 3 (e_i64 t0::ds 169 (e_bool j71::ds 43 []))),[.live 2 0 [.agg [e_i64 0,e_i64 0]]]⟩) (fun z116 h115=>?_) fun j71 h115 h=>?_
 ·refine ss (rg ?_);(try simp only [zz]);refine cd rfl ?_;(try simp only [zz]);refine gi h115 (fun c70 h115=>?_) fun c70 h115=>?_
  ·have e117:=eT c70;refine sk ?_;(try simp only [zz,eq_true c70,e117]);cases h115;exact tz [ok 0]
  have e118:=eF c70;refine rg ?_;(try simp only [zz]);cases h115;exact tz [ok 0]
 refine cd rfl ?_;(try simp only [zz]);refine gi h (fun c72 h=>?_) fun c72 h=>?_
 ·refine jm h (fun q=>⟨ds 4 (.ref 0 0 0 0::e_bool q.2.2::ds 216 []),[.live 2 0 [.agg [e_i64 q.1,e_i64 q.2.1]]]⟩) (fun z120 h119=>?_) fun z120 h119 h=>?_
  ·refine ay hmix [[],[],[],[],[],[],[],[],[],[],[],[],[],[],[],[10,12]] (by kernel_rfl) ?_;obtain⟨x73,f122,f123,h119⟩:=bI h119;(try simp only [zz,f122,f123,zy]);refine gi h119 (fun c74 h119=>?_) fun c74 h119=>?_
   ·have e124:=eT c74;obtain⟨x75,f127,f128,h119⟩:=bI h119;(try simp only [zz,f122,f123,eq_true c74,e124,f127,f128,zy]);cases h119;exact tz [ok 0]
   have e125:=eF c74;(try simp only [zz,f122,f123,c74,e125,zy]);cases h119;exact tz [ok 0]
  obtain⟨j76,j77,j78⟩:=z120;dsimp only at h;cases h;exact rt ez
 refine jm h (fun j80=>⟨.dead::e_s_GType t1::ds 2 (.ref 0 0 0 0::ds 3 (e_i64 t0::ds 187 (e_bool j80::ds 25 []))),[.live 2 0 [.agg [e_i64 0,e_i64 0]]]⟩) (fun z130 h129=>?_) fun j80 h129 h=>?_
 ·refine ss (rg ?_);(try simp only [zz]);refine cd rfl ?_;(try simp only [zz]);refine gi h129 (fun c79 h129=>?_) fun c79 h129=>?_
  ·have e131:=eT c79;refine sk ?_;(try simp only [zz,eq_true c79,e131]);cases h129;exact tz [ok 0]
  have e132:=eF c79;refine rg ?_;(try simp only [zz]);cases h129;exact tz [ok 0]
 refine cd rfl ?_;(try simp only [zz]);refine gi h (fun c81 h=>?_) fun c81 h=>?_
 ·refine jm h (fun j85=>⟨ds 4 (.ref 0 0 0 0::e_bool j85::ds 216 []),[.live 2 0 [.agg [e_i64 2,e_i64 0]]]⟩) (fun z134 h133=>?_) fun j85 h133 h=>?_
  ·refine ay hmix [[],[],[],[],[],[],[],[],[],[],[],[],[],[8,10]] (by kernel_rfl) ?_;obtain⟨x82,f136,f137,h133⟩:=bI h133;(try simp only [zz,f136,f137,zy]);refine gi h133 (fun c83 h133=>?_) fun c83 h133=>?_
   ·have e138:=eT c83;obtain⟨x84,f141,f142,h133⟩:=bI h133;(try simp only [zz,f136,f137,eq_true c83,e138,f141,f142,zy]);cases h133;exact tz [ok 0]
   have e139:=eF c83;(try simp only [zz,f136,f137,c83,e139,zy]);cases h133;exact tz [ok 0]
  cases h;exact rt ez
 refine jm h (fun j87=>⟨.dead::e_s_GType t1::ds 2 (.ref 0 0 0 0::ds 207 (e_bool j87::ds 9 [])),[.live 2 0 [.agg [e_i64 0,e_i64 0]]]⟩) (fun z144 h143=>?_) fun j87 h143 h=>?_
 ·refine ss (rg ?_);(try simp only [zz]);refine cd rfl ?_;(try simp only [zz]);refine gi h143 (fun c86 h143=>?_) fun c86 h143=>?_
  ·have e145:=eT c86;refine sk ?_;(try simp only [zz,eq_true c86,e145]);cases h143;exact tz [ok 0]
  have e146:=eF c86;refine rg ?_;(try simp only [zz]);cases h143;exact tz [ok 0]
 refine cd rfl ?_;(try simp only [zz]);refine gi h (fun c88 h=>?_) fun c88 h=>?_
 ·refine ss (ay hmix [[],[],[],[],[],[],[2,4]] (by kernel_rfl) ?_);obtain⟨x89,f148,f149,h⟩:=bI h;(try simp only [zz,f148,f149,zy]);cases h;exact rt ez
 refine sk ?_;(try simp only [zz,c88]);refine ss (rg ?_);(try simp only [zz]);cases h;exact rt ez
theorem ref10_single_ok {t0:GNode}{t1:GType}{t2:GSignature}{r:(GType×Bool)}(h:ref10_single t0 t1 t2=some r):Den Tryz.prog 319 [e_GNode t0,e_GType t1,e_GSignature t2] (.tup [e_GType r.1,e_bool r.2]):=by
 refine dk 79 k319 ?_;simp only [k319,Kf.of,zs,ze];unfold ref10_single at h;refine ss (rg ?_);(try simp only [zz]);refine ss (ss (rg ?_));(try simp only [zz]);refine bk (ss (rg ?_));(try simp only [zz]);refine cd rfl ?_;(try simp only [zz]);refine gi h (fun c1 h=>?_) fun c1 h=>?_
 ·have e1:=eT c1;refine ss (dy hmix ?_);obtain⟨x2,a3,h⟩:=bs h;simp only [zz,zy];refine lq (ref10_number_ok a3) ?_ (by simp only [zg,e1]);(try simp only [zz,zy]);cases h;exact rt ez
 have e2:=eF c1;refine ss (rg ?_);(try simp only [zz]);refine cd rfl ?_;(try simp only [zz]);refine gi h (fun c3 h=>?_) fun c3 h=>?_
 ·have e4:=eT c3;refine ss (ay hmix [[],[],[],[],[2]] (by kernel_rfl) ?_);(try simp only [zz,zy]);cases h;exact rt ez
 have e5:=eF c3;refine jm h (fun j5=>⟨ds 3 (.ref 0 0 0 0::.ref 1 0 0 0::.ref 2 0 0 0::.ref 3 0 0 0::ds 4 (e_i64 t0.Op::ds 12 (e_bool j5::ds 57 []))),[.live 2 0 [e_GNode t0],.live 2 0 [e_GType t1],.live 6 0 [e_GSignature t2],.live 2 0 [.agg [e_i64 0,e_i64 0]]]⟩) (fun z7 h6=>?_) fun j5 h6 h=>?_
 ·refine ss (rg ?_);(try simp only [zz]);refine cd rfl ?_;(try simp only [zz]);refine gi h6 (fun c4 h6=>?_) fun c4 h6=>?_
  ·have e8:=eT c4;refine sk ?_;(try simp only [zz,eq_true c4,e8]);cases h6;exact tz [ok 0,ok 1,ok 2,ok 3]
  have e9:=eF c4;refine rg ?_;(try simp only [zz]);cases h6;exact tz [ok 0,ok 1,ok 2,ok 3]
 refine cd rfl ?_;(try simp only [zz]);refine gi h (fun c6 h=>?_) fun c6 h=>?_
 ·refine ss (ay hmix [[],[],[],[],[2]] (by kernel_rfl) ?_);obtain⟨x7,a10,h⟩:=bs h;simp only [zz,zy];refine lq (ref10_kind_ok a10) ?_ (by simp only [zg,e2,e5,c6]);(try simp only [zz,zy]);cases h;exact rt ez
 refine ss (rg ?_);(try simp only [zz]);refine cd rfl ?_;(try simp only [zz]);refine gi h (fun c8 h=>?_) fun c8 h=>?_
 ·have e11:=eT c8;refine ss (rg ?_);obtain⟨x9,f14,f15,h⟩:=bI h;(try simp only [zz,f14,f15]);refine jm h (fun j14=>⟨ds 6 (.ref 0 0 0 0::e_bool j14::ds 74 []),[.live 2 0 [.agg [e_i64 x9.Value.Kind,e_i64 x9.Value.Enum]]]⟩) (fun z17 h16=>?_) fun j14 h16 h=>?_
  ·refine ay hmix [[],[],[],[],[],[],[],[],[],[],[],[],[],[],[],[],[],[],[],[],[15,17]] (by kernel_rfl) ?_;obtain⟨x10,a18,h16⟩:=bs h16;simp only [zz,zy];refine lq (ref09_ValidType_ok a18) ?_ (by simp only [zg,e2,e5,c6,e11]);(try simp only [zz,zy]);refine gi h16 (fun c11 h16=>?_) fun c11 h16=>?_
   ·obtain⟨x12,a19,h16⟩:=bs h16;simp only [zz,c11,zy];refine lq (ref09_ValidType_ok a19) ?_ (by simp only [zg,e2,e5,c6,e11,c11]);(try simp only [zz,c11,zy]);refine gi h16 (fun c13 h16=>?_) fun c13 h16=>?_
    ·(try simp only [zz,c11,c13,zy]);cases h16;exact tz [ok 3]
    (try simp only [zz,c11,c13,zy]);cases h16;exact tz [ok 3]
   (try simp only [zz,c11,zy]);cases h16;exact tz [ok 3]
  cases h;exact rt ez
 have e12:=eF c8;refine sk ?_;(try simp only [zz,c8,e12]);refine ss (rg ?_);obtain⟨x15,f21,f22,h⟩:=bI h;(try simp only [zz,f21,f22,Int.reduceEq,Int.reduceNeg]);refine jm h (fun j20=>⟨ds 6 (.ref 0 0 0 0::e_bool j20::ds 74 []),[.live 2 0 [e_GType t1]]⟩) (fun z24 h23=>?_) fun j20 h23 h=>?_
 ·refine ay hmix [[],[],[],[],[],[],[],[],[],[],[],[],[],[],[],[],[12]] (by kernel_rfl) ?_;(try simp only [zz,zy]);refine gi h23 (fun c16 h23=>?_) fun c16 h23=>?_
  ·have e25:=eT c16;obtain⟨x17,a27,h23⟩:=bs h23;simp only [zz,eq_true c16,e25,zy];refine lq (ref10_kind_ok a27) ?_ (by simp only [zg,e2,e5,c6,e12,e25]);(try simp only [zz,eq_true c16,e25,zy]);refine gi h23 (fun c18 h23=>?_) fun c18 h23=>?_
   ·obtain⟨x19,a28,h23⟩:=bs h23;simp only [zz,eq_true c16,e25,eq_true c18,zy];refine lq (ref10_kind_ok a28) ?_ (by simp only [zg,e2,e5,c6,e12,e25]);(try simp only [zz,eq_true c16,e25,eq_true c18,zy]);cases h23;exact tz [ok 3]
   (try simp only [zz,eq_true c16,e25,c18,zy]);cases h23;exact tz [ok 3]
  have e26:=eF c16;(try simp only [zz,c16,e26,zy]);cases h23;exact tz [ok 3]
 cases h;exact rt ez
theorem ref10_ordered_ok {t0:Int}{r:Bool}(h:ref10_ordered t0=some r):Den Tryz.prog 339 [e_i64 t0] (e_bool r):=by
 refine dk 8 k339 ?_;simp only [k339,Kf.of,zs,ze];unfold ref10_ordered at h;refine ss (rg ?_);(try simp only [zz]);refine jm h (fun j3=>⟨ds 2 (e_bool j3::ds 6 []),[]⟩) (fun z2 h1=>?_) fun j3 h1 h=>?_
 ·refine rg ?_;obtain⟨x1,a3,h1⟩:=bs h1;simp only [zz];refine cq (ref10_number_ok a3) ?_ (by simp only [zg]);(try simp only [zz]);refine gi h1 (fun c2 h1=>?_) fun c2 h1=>?_
  ·(try simp only [zz,c2]);cases h1;exact tz []
  (try simp only [zz,c2]);cases h1;exact tz []
 cases h;exact rt ez
theorem ref10_scaled_ok {t0:Int}{t1:Int}{t2:Int}{r:(GType×Bool)}(h:ref10_scaled t0 t1 t2=some r):Den Tryz.prog 341 [e_i64 t0,e_i64 t1,e_i64 t2] (.tup [e_GType r.1,e_bool r.2]):=by
 refine dk 53 k341 ?_;simp only [k341,Kf.of,zs,ze];unfold ref10_scaled at h;refine ss (rg ?_);(try simp only [zz]);refine ss (ss (rg ?_));(try simp only [zz]);refine bk (ss (rg ?_));(try simp only [zz]);refine cd rfl ?_;(try simp only [zz]);refine gi h (fun c1 h=>?_) fun c1 h=>?_
 ·have e1:=eT c1;refine jm h (fun q=>⟨ds 6 (.ref 0 0 0 0::e_bool q.2.2::ds 48 []),[.live 2 0 [.agg [e_i64 q.1,e_i64 q.2.1]]]⟩) (fun z4 h3=>?_) fun z4 h3 h=>?_
  ·refine rg ?_;obtain⟨x2,a5,h3⟩:=bs h3;simp only [zz];refine cq (ref10_kind_ok a5) ?_ (by simp only [zg,e1]);(try simp only [zz]);refine gi h3 (fun c3 h3=>?_) fun c3 h3=>?_
   ·have e6:=eT c3;(try simp only [zz,eq_true c3,e6]);refine gi h3 (fun c4 h3=>?_) fun c4 h3=>?_
    ·have e8:=eF c4;(try simp only [zz,eq_true c3,e6,c4,e8]);cases h3;exact tz [ok 0]
    have e9:=eD c4;(try simp only [zz,eq_true c3,e6,c4,e9]);cases h3;exact tz [ok 0]
   have e7:=eF c3;(try simp only [zz,c3,e7]);cases h3;exact tz [ok 0]
  obtain⟨j5,j6,j7⟩:=z4;dsimp only at h;cases h;exact rt ez
 have e2:=eF c1;refine ss (rg ?_);(try simp only [zz]);refine cd rfl ?_;(try simp only [zz]);refine gi h (fun c8 h=>?_) fun c8 h=>?_
 ·have e10:=eT c8;refine jm h (fun q=>⟨ds 6 (.ref 0 0 0 0::e_bool q.2.2::ds 48 []),[.live 2 0 [.agg [e_i64 q.1,e_i64 q.2.1]]]⟩) (fun z13 h12=>?_) fun z13 h12 h=>?_
  ·refine rg ?_;obtain⟨x9,a14,h12⟩:=bs h12;simp only [zz];refine cq (ref10_kind_ok a14) ?_ (by simp only [zg,e2,e10]);(try simp only [zz]);refine gi h12 (fun c10 h12=>?_) fun c10 h12=>?_
   ·have e15:=eT c10;(try simp only [zz,eq_true c10,e15]);refine gi h12 (fun c11 h12=>?_) fun c11 h12=>?_
    ·have e17:=eF c11;(try simp only [zz,eq_true c10,e15,c11,e17]);cases h12;exact tz [ok 0]
    have e18:=eD c11;(try simp only [zz,eq_true c10,e15,c11,e18]);cases h12;exact tz [ok 0]
   have e16:=eF c10;(try simp only [zz,c10,e16]);cases h12;exact tz [ok 0]
  obtain⟨j12,j13,j14⟩:=z13;dsimp only at h;cases h;exact rt ez
 have e11:=eF c8;refine sk ?_;(try simp only [zz,c8,e11]);refine ss ?_;refine jm h (fun j16=>⟨.dead::e_i64 t1::e_i64 t2::ds 3 (.ref 0 0 0 0::ds 35 (e_bool j16::ds 13 [])),[.live 2 0 [.agg [e_i64 0,e_i64 0]]]⟩) (fun z20 h19=>?_) fun j16 h19 h=>?_
 ·refine rg ?_;(try simp only [zz]);refine gi h19 (fun c15 h19=>?_) fun c15 h19=>?_
  ·have e21:=eT c15;(try simp only [zz,eq_true c15,e21]);cases h19;exact tz [ok 0]
  have e22:=eF c15;(try simp only [zz,c15,e22]);cases h19;exact tz [ok 0]
 refine cd rfl ?_;(try simp only [zz]);refine gi h (fun c17 h=>?_) fun c17 h=>?_
 ·refine ss (rg ?_);obtain⟨x18,a23,h⟩:=bs h;simp only [zz];refine cq (ref10_kind_ok a23) ?_ (by simp only [zg,e2,e11,c17]);(try simp only [zz]);cases h;exact rt ez
 refine sk ?_;(try simp only [zz,c17]);refine jm h (fun q=>⟨ds 6 (.ref 0 0 0 0::e_bool q.2.2::ds 48 []),[.live 2 0 [.agg [e_i64 q.1,e_i64 q.2.1]]]⟩) (fun z25 h24=>?_) fun z25 h24 h=>?_
 ·refine rg ?_;obtain⟨x19,a26,h24⟩:=bs h24;simp only [zz];refine cq (ref10_kind_ok a26) ?_ (by simp only [zg,e2,e11,c17]);(try simp only [zz]);refine gi h24 (fun c20 h24=>?_) fun c20 h24=>?_
  ·have e27:=eT c20;(try simp only [zz,eq_true c20,e27]);refine gi h24 (fun c21 h24=>?_) fun c21 h24=>?_
   ·have e29:=eF c21;(try simp only [zz,eq_true c20,e27,c21,e29]);cases h24;exact tz [ok 0]
   have e30:=eD c21;(try simp only [zz,eq_true c20,e27,c21,e30]);cases h24;exact tz [ok 0]
  have e28:=eF c20;(try simp only [zz,c20,e28]);cases h24;exact tz [ok 0]
 obtain⟨j22,j23,j24⟩:=z25;dsimp only at h;cases h;exact rt ez
theorem lexer_IsIdentifier_ok {t0:ByteArray}{r:Bool}(h:lexer_IsIdentifier t0=some r):Den Tryz.prog 110 [e_str t0] (e_bool r):=by
 refine dk 26 k110 ?_;simp only [k110,Kf.of,zs,ze];unfold lexer_IsIdentifier at h;refine ss (rg ?_);(try simp only [zz]);refine jm h (fun j9=>⟨ds 2 (e_bool j9::ds 24 []),[]⟩) (fun z2 h1=>?_) fun j9 h1 h=>?_
 ·refine rg ?_;(try simp only [zz]);refine gi h1 (fun c1 h1=>?_) fun c1 h1=>?_
  ·obtain⟨x2,a3,h1⟩:=bs h1;obtain⟨x3,a5,h1⟩:=bs h1;simp only [zz,c1,a3];refine cq (lexer_isLower_ok a5) ?_ (by simp only [zg]);(try simp only [zz,c1,a3]);refine gi h1 (fun c4 h1=>?_) fun c4 h1=>?_
   ·obtain⟨x5,a6,h1⟩:=bs h1;simp only [zz,c1,a3,c4];refine cq (lexer_nameLength_ok a6) ?_ (by simp only [zg,c4]);(try simp only [zz,c1,a3,c4]);refine gi h1 (fun c6 h1=>?_) fun c6 h1=>?_
    ·have e7:=eT c6;(try simp only [zz,c1,a3,c4,eq_true c6,e7]);refine gi h1 (fun c7 h1=>?_) fun c7 h1=>?_
     ·obtain⟨x8,a9,h1⟩:=bs h1;simp only [zz,c1,a3,c4,eq_true c6,e7,c7];refine cq (lexer_reserved_ok a9) ?_ (by simp only [zg,c4,e7]);(try simp only [zz,c1,a3,c4,eq_true c6,e7,c7]);cases h1;exact tz []
     (try simp only [zz,c1,a3,c4,eq_true c6,e7,c7]);cases h1;exact tz []
    have e8:=eF c6;(try simp only [zz,c1,a3,c4,c6,e8]);cases h1;exact tz []
   (try simp only [zz,c1,a3,c4]);cases h1;exact tz []
  (try simp only [zz,c1]);cases h1;exact tz []
 cases h;exact rt ez
theorem law_hasEnum_ok {t0:List GEnum}{t1:ByteArray}{r:Bool}(h:law_hasEnum t0 t1=some r):Den Tryz.prog 111 [e_s_GEnum t0,e_str t1] (e_bool r):=by
 refine dk 6 k111 ?_;simp only [k111,Kf.of,zs,ze];unfold law_hasEnum at h;refine ss (rg ?_);(try simp only [zz]);refine ss (rg ?_);obtain⟨x1,a1,h⟩:=bs h;simp only [zz];refine cv (slices_ContainsFunc_api_Enum_api_Enum_ok (q1:=[e_p_str t1]) (frC frN) (fun x900 _ hb=>law_hasEnum_c1_ok hb) a1) ?_ rfl (by simp only [zg]);(try simp only [zz]);cases h;exact rt ez
theorem law_hasTable_ok {t0:List GTable}{t1:ByteArray}{r:Bool}(h:law_hasTable t0 t1=some r):Den Tryz.prog 112 [e_s_GTable t0,e_str t1] (e_bool r):=by
 refine dk 6 k112 ?_;simp only [k112,Kf.of,zs,ze];unfold law_hasTable at h;refine ss (rg ?_);(try simp only [zz]);refine ss (rg ?_);obtain⟨x1,a1,h⟩:=bs h;simp only [zz];refine cv (slices_ContainsFunc_api_Table_api_Table_ok (q1:=[e_p_str t1]) (frC frN) (fun x900 _ hb=>law_hasTable_c1_ok hb) a1) ?_ rfl (by simp only [zg]);(try simp only [zz]);cases h;exact rt ez
theorem ref09_In_ok {t0:Int}{t1:GType}{t2:List GEnum}{r:Bool}(h:ref09_In t0 t1 t2=some r):Den Tryz.prog 150 [e_i64 t0,e_GType t1,e_s_GEnum t2] (e_bool r):=by
 refine dk 20 k150 ?_;simp only [k150,Kf.of,zs,ze];unfold ref09_In at h;refine ss (rg ?_);(try simp only [zz]);refine ss (rg ?_);obtain⟨x1,a1,h⟩:=bs h;simp only [zz];refine cq (ref09_Bounds_ok a1) ?_ (by simp only [zg]);(try simp only [zz]);refine jm h (fun j3=>⟨ds 6 (e_bool j3::ds 16 []),[]⟩) (fun z3 h2=>?_) fun j3 h2 h=>?_
 ·refine rg ?_;(try simp only [zz]);refine gi h2 (fun c2 h2=>?_) fun c2 h2=>?_
  ·(try simp only [zz,c2]);cases h2;exact tz []
  (try simp only [zz,c2]);cases h2;exact tz []
 cases h;exact rt ez
theorem ref08_IsIdentifier_ok {t0:ByteArray}{r:Bool}(h:ref08_IsIdentifier t0=some r):Den Tryz.prog 181 [e_str t0] (e_bool r):=by
 refine dk 43 k181 ?_;simp only [k181,Kf.of,zs,ze];unfold ref08_IsIdentifier at h;refine ss (rg ?_);(try simp only [zz]);refine ss ?_;refine jm h (fun j5=>⟨.v (.string t0)::ds 18 (e_bool j5::ds 24 []),[]⟩) (fun z2 h1=>?_) fun j5 h1 h=>?_
 ·refine rg ?_;(try simp only [zz]);refine gi h1 (fun c1 h1=>?_) fun c1 h1=>?_
  ·have e3:=eF c1;(try simp only [zz,c1,e3]);refine gi h1 (fun c2 h1=>?_) fun c2 h1=>?_
   ·obtain⟨x3,a5,h1⟩:=bs h1;obtain⟨x4,a7,h1⟩:=bs h1;simp only [zz,c1,e3,c2,a5];refine cq (ref08_lower_ok a7) ?_ (by simp only [zg,e3]);(try simp only [zz,c1,e3,c2,a5]);cases h1;exact tz []
   (try simp only [zz,c1,e3,c2]);cases h1;exact tz []
  have e4:=eD c1;(try simp only [zz,c1,e4]);cases h1;exact tz []
 refine cd rfl ?_;(try simp only [zz]);refine gi h (fun c6 h=>?_) fun c6 h=>?_
 ·refine ss (rg ?_);(try simp only [zz]);cases h;exact rt ez
 refine sk ?_;(try simp only [zz,c6]);refine ss (ss (rg ?_));(try simp only [zz]);obtain⟨y8,h9,h⟩:=bs h;refine lm h9 (fun s7=>⟨.v (.string t0)::ds 2 (e_i64 s7::ds 40 []),[]⟩) (fun q=>⟨.v (.string t0)::ds 43 [],[]⟩) (tz []) ?_ ?_
 ·rintro s7 z10 h11 h12;simp only [ref08_IsIdentifier_L3]at h11;refine ss (ss (rg ?_));(try simp only [zz]);refine cd rfl ?_;(try simp only [zz]);refine gi h11 (fun c8 h11=>?_) fun c8 h11=>?_
  ·refine sk ?_;(try simp only [zz,c8]);refine ss (bk (ss (rg ?_)));obtain⟨x9,a13,h11⟩:=bs h11;obtain⟨x10,a15,h11⟩:=bs h11;simp only [zz,a13];refine cq (ref08_word_ok a15) ?_ (by simp only [zg,c6]);(try simp only [zz,a13]);refine cd rfl ?_;(try simp only [zz,a13]);refine gi h11 (fun c11 h11=>?_) fun c11 h11=>?_
   ·refine ss (rg ?_);(try simp only [zz]);cases h11;cases h12 _ rfl;cases h;exact rt ez
   refine sk ?_;(try simp only [zz,a13,c11]);refine rg ?_;(try simp only [zz]);cases h11;exact tz []
  refine xt ?_;(try simp only [zz,c8]);cases h11;exact tz []
 rintro ⟨⟩ rfl;dsimp only at h;(try simp only [zz]);refine ss (rg ?_);obtain⟨x13,a16,h⟩:=bs h;simp only [zz];refine cq (ref08_Reserved_ok a16) ?_ (by simp only [zg,c6]);(try simp only [zz]);refine ss (ss (rg ?_));(try simp only [zz]);obtain⟨y17,h18,h⟩:=bs h;refine lm h18 (fun s14=>⟨.v (.string t0)::ds 3 (e_s_str x13::e_i64 s14::ds 38 []),[]⟩) (fun q=>⟨ds 44 [],[]⟩) (tz []) ?_ ?_
 ·rintro s14 z19 h20 h21;simp only [ref08_IsIdentifier_L2]at h20;refine ss (ss (rg ?_));(try simp only [zz]);refine cd rfl ?_;(try simp only [zz]);refine gi h20 (fun c15 h20=>?_) fun c15 h20=>?_
  ·refine sk ?_;(try simp only [zz,c15]);refine ss (bk (ss (rg ?_)));obtain⟨x16,f23,f24,h20⟩:=bI h20;(try simp only [zz,f23,f24]);refine cd rfl ?_;(try simp only [zz,f23,f24]);refine gi h20 (fun c17 h20=>?_) fun c17 h20=>?_
   ·refine ss (rg ?_);(try simp only [zz]);cases h20;cases h21 _ rfl;cases h;exact rt ez
   refine sk ?_;(try simp only [zz,f23,f24,c17]);refine rg ?_;(try simp only [zz]);cases h20;exact tz []
  refine xt ?_;(try simp only [zz,c15]);cases h20;exact tz []
 rintro ⟨⟩ rfl;dsimp only at h;(try simp only [zz]);refine ss (rg ?_);(try simp only [zz]);cases h;exact rt ez
theorem daterange_Intersect_ok {t0:GDateRange}{t1:GDateRange}{r:(GDateRange×Bool)}(h:daterange_Intersect t0 t1=some r):Den Tryz.prog 219 [e_GDateRange t0,e_GDateRange t1] (.tup [e_GDateRange r.1,e_bool r.2]):=by
 refine dk 32 k219 ?_;simp only [k219,Kf.of,zs,ze];unfold daterange_Intersect at h;refine ss (rg ?_);(try simp only [zz]);refine ss ?_;refine jm h (fun j4=>⟨ds 2 (.ref 0 0 0 0::.ref 1 0 0 0::.ref 2 0 0 0::ds 9 (e_bool j4::ds 19 [])),[.live 2 0 [e_GDateRange t0],.live 2 0 [e_GDateRange t1],.live 2 0 [.agg [e_i64 0,e_i64 0]]]⟩) (fun z2 h1=>?_) fun j4 h1 h=>?_
 ·refine rg ?_;obtain⟨x1,a3,h1⟩:=bs h1;simp only [zz];refine cq (daterange_hasDate_ok a3) ?_ (by simp only [zg]);(try simp only [zz]);refine gi h1 (fun c2 h1=>?_) fun c2 h1=>?_
  ·obtain⟨x3,a4,h1⟩:=bs h1;simp only [zz,c2];refine cq (daterange_hasDate_ok a4) ?_ (by simp only [zg,c2]);(try simp only [zz,c2]);cases h1;exact tz [ok 0,ok 1,ok 2]
  (try simp only [zz,c2]);cases h1;exact tz [ok 0,ok 1,ok 2]
 refine cd rfl ?_;(try simp only [zz]);refine gi h (fun c5 h=>?_) fun c5 h=>?_
 ·refine ss (rg ?_);(try simp only [zz]);cases h;exact rt ez
 refine sk ?_;(try simp only [zz,c5]);refine ss (rg ?_);(try simp only [zz]);refine ss (ss (rg ?_));(try simp only [zz]);refine cd rfl ?_;(try simp only [zz]);refine gi h (fun c6 h=>?_) fun c6 h=>?_
 ·refine ss (rg ?_);(try simp only [zz]);cases h;exact rt ez
 refine sk ?_;(try simp only [zz,c6]);refine ss (rg ?_);(try simp only [zz]);cases h;exact rt ez
theorem ref12_conflict_ok {t0:GRow}{t1:GRow}{r:Bool}(h:ref12_conflict t0 t1=some r):Den Tryz.prog 239 [e_GRow t0,e_GRow t1] (e_bool r):=by
 refine dk 27 k239 ?_;simp only [k239,Kf.of,zs,ze];unfold ref12_conflict at h;refine ss (rg ?_);(try simp only [zz]);refine ss (rg ?_);obtain⟨x1,a1,h⟩:=bs h;simp only [zz];refine cq (ref05_Intersect_ok a1) ?_ (by simp only [zg]);(try simp only [zz]);refine jm h (fun j3=>⟨ds 4 (e_bool j3::ds 24 []),[]⟩) (fun z3 h2=>?_) fun j3 h2 h=>?_
 ·refine rg ?_;(try simp only [zz]);refine gi h2 (fun c2 h2=>?_) fun c2 h2=>?_
  ·(try simp only [zz,c2]);cases h2;exact tz []
  (try simp only [zz,c2]);cases h2;exact tz []
 cases h;exact rt ez
theorem ref16_Direct_ok {t0:GScope}{t1:Int}{r:List Int}(h:ref16_Direct t0 t1=some r):Den Tryz.prog 244 [e_GScope t0,e_i64 t1] (e_s_i64 r):=by
 refine dk 91 k244 ?_;simp only [k244,Kf.of,zs,ze];unfold ref16_Direct at h;refine ss (rg ?_);(try simp only [zz]);refine ss (rg ?_);(try simp only [zz]);refine ss (ss (rg ?_));obtain⟨x1,a1,h⟩:=bs h;simp only [zz];refine cq (ref16_is_ok a1) ?_ (by simp only [zg]);(try simp only [zz]);refine cd rfl ?_;(try simp only [zz]);refine gi h (fun c2 h=>?_) fun c2 h=>?_
 ·refine ss (rg ?_);(try simp only [zz]);cases h;exact rt ez
 refine sk ?_;(try simp only [zz,c2]);refine ss (ss (rg ?_));(try simp only [zz]);obtain⟨y2,h3,h⟩:=bs h;refine lm h3 (fun q=>⟨.dead::e_i64 t1::.ref 0 0 0 0::ds 2 (e_s_i64 q.1::e_i64 q.2::ds 86 []),[.live 5 0 [e_GScope t0]]⟩) (fun b35=>⟨ds 5 (e_s_i64 b35::ds 87 []),[]⟩) (tz [ok 0]) ?_ ?_
 ·rintro ⟨s3,s4⟩ z4 h5 h6;simp only [ref16_Direct_L13]at h5;refine ss (ss (rg ?_));(try simp only [zz]);refine cd rfl ?_;(try simp only [zz]);refine gi h5 (fun c5 h5=>?_) fun c5 h5=>?_
  ·refine sk ?_;(try simp only [zz,c5]);refine jm h5 (fun j32=>⟨.dead::e_i64 t1::.ref 0 0 0 0::ds 2 (e_s_i64 j32::e_i64 s4::ds 86 []),[.live 5 0 [e_GScope t0]]⟩) (fun z8 h7=>?_) fun j32 h7 h5=>?_
   ·refine bk (ss (ss (rg ?_)));obtain⟨x6,f10,f11,h7⟩:=bI h7;(try simp only [zz,f10,f11]);refine cd rfl ?_;(try simp only [zz,f10,f11]);refine gi h7 (fun c7 h7=>?_) fun c7 h7=>?_
    ·have e12:=nT c7;refine xt ?_;(try simp only [zz,f10,f11,c7,e12]);cases h7;exact tz [ok 0]
    have e13:=nD c7;refine sk ?_;(try simp only [zz,f10,f11,c7,e13]);refine ss (rg ?_);obtain⟨x8,a14,h7⟩:=bs h7;simp only [zz,f10,f11];refine cq (ref10_References_ok a14) ?_ (by simp only [zg,c2,e13]);(try simp only [zz,f10,f11]);refine ss (rg ?_);obtain⟨x9,a15,h7⟩:=bs h7;simp only [zz,f10,f11];refine cq (ref10_References_ok a15) ?_ (by simp only [zg,c2,e13]);(try simp only [zz,f10,f11]);refine ss (ss (rg ?_));(try simp only [zz]);obtain⟨y16,h17,h7⟩:=bs h7;refine lm h17 (fun q=>⟨.dead::e_i64 t1::.ref 0 0 0 0::ds 2 (e_s_i64 q.1::e_i64 s4::.dead::e_s_i64 x8.2.1::ds 2 (e_s_i64 x9.2.1::.dead::e_i64 q.2::ds 79 [])),[.live 5 0 [e_GScope t0]]⟩) (fun b20=>⟨.dead::e_i64 t1::.ref 0 0 0 0::ds 2 (e_s_i64 b20::e_i64 s4::ds 4 (e_s_i64 x9.2.1::ds 81 [])),[.live 5 0 [e_GScope t0]]⟩) (tz [ok 0]) ?_ ?_
    ·rintro ⟨s10,s11⟩ z18 h19 h20;simp only [ref16_Direct_L12]at h19;refine ss (ss (rg ?_));(try simp only [zz]);refine cd rfl ?_;(try simp only [zz]);refine gi h19 (fun c12 h19=>?_) fun c12 h19=>?_
     ·refine sk ?_;(try simp only [zz,c12]);refine jm h19 (fun j17=>⟨.dead::e_i64 t1::.ref 0 0 0 0::ds 2 (e_s_i64 j17::e_i64 s4::.dead::e_s_i64 x8.2.1::ds 2 (e_s_i64 x9.2.1::.dead::e_i64 s11::ds 79 [])),[.live 5 0 [e_GScope t0]]⟩) (fun z22 h21=>?_) fun j17 h21 h19=>?_
      ·refine bk (ss (dy hmix ?_));obtain⟨x13,f24,f25,h21⟩:=bI h21;obtain⟨x14,a26,h21⟩:=bs h21;simp only [zz,f24,f25,zy];refine cq (ref16_is_ok a26) ?_ (by simp only [zg,c2,e13]);(try simp only [zz,f24,f25,zy]);refine cd rfl ?_;(try simp only [zz,f24,f25]);refine gi h21 (fun c15 h21=>?_) fun c15 h21=>?_
       ·refine rg ?_;obtain⟨x16,a27,h21⟩:=bs h21;simp only [zz,f24,f25];refine cq (ref16_insert_ok a27) ?_ (by simp only [zg,c2,e13,c15]);(try simp only [zz,f24,f25]);cases h21;exact tz [ok 0]
       refine sk ?_;(try simp only [zz,f24,f25,c15]);cases h21;exact tz [ok 0]
      refine rg ?_;(try simp only [zz]);cases h19;exact tz [ok 0]
     refine xt ?_;(try simp only [zz,c12]);cases h19;exact tz [ok 0]
    rintro b20 rfl;dsimp only at h7;(try simp only [zz]);refine ss (rg ?_);(try simp only [zz]);obtain⟨y28,h29,h7⟩:=bs h7;refine lm h29 (fun q=>⟨.dead::e_i64 t1::.ref 0 0 0 0::ds 2 (e_s_i64 q.1::e_i64 s4::ds 4 (e_s_i64 x9.2.1::ds 2 (e_i64 q.2::ds 78 []))),[.live 5 0 [e_GScope t0]]⟩) (fun b31=>⟨.dead::e_i64 t1::.ref 0 0 0 0::ds 2 (e_s_i64 b31::e_i64 s4::ds 86 []),[.live 5 0 [e_GScope t0]]⟩) (tz [ok 0]) ?_ ?_
    ·rintro ⟨s21,s22⟩ z30 h31 h32;simp only [ref16_Direct_L11]at h31;refine ss (ss (rg ?_));(try simp only [zz]);refine cd rfl ?_;(try simp only [zz]);refine gi h31 (fun c23 h31=>?_) fun c23 h31=>?_
     ·refine sk ?_;(try simp only [zz,c23]);refine jm h31 (fun j28=>⟨.dead::e_i64 t1::.ref 0 0 0 0::ds 2 (e_s_i64 j28::e_i64 s4::ds 4 (e_s_i64 x9.2.1::ds 2 (e_i64 s22::ds 78 []))),[.live 5 0 [e_GScope t0]]⟩) (fun z34 h33=>?_) fun j28 h33 h31=>?_
      ·refine bk (ss (dy hmix ?_));obtain⟨x24,f36,f37,h33⟩:=bI h33;obtain⟨x25,a38,h33⟩:=bs h33;simp only [zz,f36,f37,zy];refine cq (ref16_is_ok a38) ?_ (by simp only [zg,c2,e13]);(try simp only [zz,f36,f37,zy]);refine cd rfl ?_;(try simp only [zz,f36,f37]);refine gi h33 (fun c26 h33=>?_) fun c26 h33=>?_
       ·refine rg ?_;obtain⟨x27,a39,h33⟩:=bs h33;simp only [zz,f36,f37];refine cq (ref16_insert_ok a39) ?_ (by simp only [zg,c2,e13,c26]);(try simp only [zz,f36,f37]);cases h33;exact tz [ok 0]
       refine sk ?_;(try simp only [zz,f36,f37,c26]);cases h33;exact tz [ok 0]
      refine rg ?_;(try simp only [zz]);cases h31;exact tz [ok 0]
     refine xt ?_;(try simp only [zz,c23]);cases h31;exact tz [ok 0]
    rintro b31 rfl;dsimp only at h7;(try simp only [zz]);cases h7;exact tz [ok 0]
   refine rg ?_;(try simp only [zz]);cases h5;exact tz [ok 0]
  refine xt ?_;(try simp only [zz,c5]);cases h5;exact tz []
 rintro b35 rfl;dsimp only at h;(try simp only [zz]);refine ss (rg ?_);(try simp only [zz]);cases h;exact rt ez
theorem expr_References_ok {t0:List GNode}{r:((List Int)×(List Int)×(List Int))}(h:expr_References t0=some r):Den Tryz.prog 258 [e_s_GNode t0] (.tup [e_s_i64 r.1,e_s_i64 r.2.1,e_s_i64 r.2.2]):=by
 refine dk 48 k258 ?_;simp only [k258,Kf.of,zs,ze];unfold expr_References at h;refine ss (rg ?_);(try simp only [zz]);refine ss (rg ?_);(try simp only [zz]);refine ss (ss (rg ?_));(try simp only [zz]);obtain⟨y1,h2,h⟩:=bs h;refine lm h2 (fun q=>⟨ds 5 (.own 0 0::.own 1 0::.own 2 0::ds 2 (e_s_GNode t0::e_i64 (t0.length:Int)::e_i64 q.2.2.2::ds 36 [])),[.live 1 0 (q.1.map e_i64),.live 1 0 (q.2.1.map e_i64),.live 1 0 (q.2.2.1.map e_i64)]⟩) (fun q=>⟨ds 5 (.own 0 0::.own 1 0::.own 2 0::ds 41 []),[.live 1 0 (q.1.map e_i64),.live 1 0 (q.2.1.map e_i64),.live 1 0 (q.2.2.map e_i64)]⟩) (tz [on 1,on 1,on 1]) ?_ ?_
 ·rintro ⟨s1,s2,s3,s4⟩ z3 h4 h5;simp only [expr_References_L1]at h4;refine ss (rg ?_);(try simp only [zz]);refine ss (cd rfl ?_);(try simp only [zz]);refine gi h4 (fun c5 h4=>?_) fun c5 h4=>?_
  ·refine sk ?_;(try simp only [zz,c5]);refine jm h4 (fun q=>⟨ds 5 (.own 0 0::.own 1 0::.own 2 0::ds 2 (e_s_GNode t0::e_i64 (t0.length:Int)::e_i64 s4::ds 36 [])),[.live 1 0 (q.1.map e_i64),.live 1 0 (q.2.1.map e_i64),.live 1 0 (q.2.2.map e_i64)]⟩) (fun z7 h6=>?_) fun z7 h6 h4=>?_
   ·refine bk (ss (rg ?_));obtain⟨x6,f9,f10,h6⟩:=bI h6;(try simp only [zz,f9,f10]);refine ss (rg ?_);(try simp only [zz]);refine bk (ss (rg ?_));(try simp only [zz]);refine cd rfl ?_;(try simp only [zz]);refine gi h6 (fun c7 h6=>?_) fun c7 h6=>?_
    ·have e11:=eT c7;refine rg ?_;obtain⟨x8,a13,h6⟩:=bs h6;obtain⟨f14,f15⟩:=app_f (e:=e_i64) a13;(try simp only [zz]at f14 f15);(try simp only [zz,f14,f15]);cases h6;exact tz [ov 0 1,ok 1,ok 2]
    have e12:=eF c7;refine ss (rg ?_);(try simp only [zz]);refine cd rfl ?_;(try simp only [zz]);refine gi h6 (fun c9 h6=>?_) fun c9 h6=>?_
    ·have e16:=eT c9;refine rg ?_;obtain⟨x10,a18,h6⟩:=bs h6;obtain⟨f19,f20⟩:=app_f (e:=e_i64) a18;(try simp only [zz]at f19 f20);(try simp only [zz,f19,f20]);cases h6;exact tz [ok 0,ov 1 1,ok 2]
    have e17:=eF c9;refine jm h6 (fun j14=>⟨ds 5 (.own 0 0::.own 1 0::.own 2 0::.dead::.ref 3 0 0 0::e_s_GNode t0::e_i64 (t0.length:Int)::e_i64 s4::ds 19 (e_bool j14::ds 16 [])),[.live 1 0 (s1.map e_i64),.live 1 0 (s2.map e_i64),.live 1 0 (s3.map e_i64),.live 2 0 [e_GNode x6]]⟩) (fun z22 h21=>?_) fun j14 h21 h6=>?_
    ·refine ss (rg ?_);(try simp only [zz]);refine cd rfl ?_;(try simp only [zz]);refine gi h21 (fun c11 h21=>?_) fun c11 h21=>?_
     ·have e23:=eT c11;refine sk ?_;(try simp only [zz,eq_true c11,e23]);cases h21;exact tz [ok 0,ok 1,ok 2,ok 3]
     have e24:=eF c11;refine ss (rg ?_);(try simp only [zz]);refine cd rfl ?_;(try simp only [zz]);refine gi h21 (fun c12 h21=>?_) fun c12 h21=>?_
     ·have e25:=eT c12;refine sk ?_;(try simp only [zz,eq_true c12,e25]);cases h21;exact tz [ok 0,ok 1,ok 2,ok 3]
     have e26:=eF c12;refine ss (rg ?_);(try simp only [zz]);refine cd rfl ?_;(try simp only [zz]);refine gi h21 (fun c13 h21=>?_) fun c13 h21=>?_
     ·have e27:=eT c13;refine sk ?_;(try simp only [zz,eq_true c13,e27]);cases h21;exact tz [ok 0,ok 1,ok 2,ok 3]
     have e28:=eF c13;refine rg ?_;(try simp only [zz]);cases h21;exact tz [ok 0,ok 1,ok 2,ok 3]
    refine cd rfl ?_;(try simp only [zz]);refine gi h6 (fun c15 h6=>?_) fun c15 h6=>?_
    ·refine rg ?_;obtain⟨x16,a29,h6⟩:=bs h6;obtain⟨f30,f31⟩:=app_f (e:=e_i64) a29;(try simp only [zz]at f30 f31);(try simp only [zz,f30,f31]);cases h6;exact tz [ok 0,ok 1,ov 2 1]
    refine sk ?_;(try simp only [zz,c15]);cases h6;exact tz [ok 0,ok 1,ok 2]
   obtain⟨j17,j18,j19⟩:=z7;dsimp only at h4;refine rg ?_;(try simp only [zz]);cases h4;exact tz [ok 0,ok 1,ok 2]
  refine xt ?_;(try simp only [zz,c5]);cases h4;exact tz [ok 0,ok 1,ok 2]
 rintro ⟨b24,b25,b26⟩ rfl;dsimp only at h;(try simp only [zz]);refine ss (rg ?_);obtain⟨x27,a32,h⟩:=bs h;simp only [zz];refine callX_C (expr_distinct_c a32) rfl rfl ?_;obtain⟨x28,a33,h⟩:=bs h;simp only [zz];refine callX_C (expr_distinct_c a33) rfl rfl ?_;obtain⟨x29,a34,h⟩:=bs h;simp only [zz];refine callX_C (expr_distinct_c a34) rfl rfl ?_;(try simp only [zz]);cases h;exact rt ez
theorem expr_literalType_ok {t0:Int}{t1:Int}{t2:GSignature}{r:(GType×Int)}(h:expr_literalType t0 t1 t2=some r):Den Tryz.prog 308 [e_i64 t0,e_i64 t1,e_GSignature t2] (.tup [e_GType r.1,e_i64 r.2]):=by
 refine dk 27 k308 ?_;simp only [k308,Kf.of,zs,ze];unfold expr_literalType at h;refine ss (rg ?_);(try simp only [zz]);refine ss (rg ?_);(try simp only [zz]);refine ss (ss (rg ?_));obtain⟨x1,a1,h⟩:=bs h;simp only [zz];refine cq (value_Bounds_ok a1) ?_ (by simp only [zg]);(try simp only [zz]);refine jm h (fun j3=>⟨ds 6 (.ref 0 0 0 0::.dead::.ref 1 0 0 0::ds 18 (e_bool j3::ds 2 [])),[.live 2 0 [.agg [e_i64 0,e_i64 0]],.live 2 0 [.agg [e_i64 t1,e_i64 0]]]⟩) (fun z3 h2=>?_) fun j3 h2 h=>?_
 ·refine rg ?_;(try simp only [zz]);refine gi h2 (fun c2 h2=>?_) fun c2 h2=>?_
  ·(try simp only [zz,c2]);cases h2;exact tz [ok 1,ok 2]
  (try simp only [zz,c2]);cases h2;exact tz [ok 1,ok 2]
 refine cd rfl ?_;(try simp only [zz]);refine gi h (fun c4 h=>?_) fun c4 h=>?_
 ·refine ss (rg ?_);(try simp only [zz]);cases h;exact rt ez
 refine sk ?_;(try simp only [zz,c4]);refine ss (rg ?_);(try simp only [zz]);cases h;exact rt ez
theorem expr_memberType_ok {t0:GNode}{t1:GSignature}{r:(GType×Int)}(h:expr_memberType t0 t1=some r):Den Tryz.prog 312 [e_GNode t0,e_GSignature t1] (.tup [e_GType r.1,e_i64 r.2]):=by
 refine dk 60 k312 ?_;simp only [k312,Kf.of,zs,ze];unfold expr_memberType at h;refine ss (rg ?_);(try simp only [zz]);refine ss (ss (rg ?_));(try simp only [zz]);refine cd rfl ?_;(try simp only [zz]);refine gi h (fun c1 h=>?_) fun c1 h=>?_
 ·refine ss (rg ?_);(try simp only [zz]);cases h;exact rt ez
 refine sk ?_;(try simp only [zz,c1]);refine ss (ss (rg ?_));(try simp only [zz]);refine cd rfl ?_;(try simp only [zz]);refine gi h (fun c2 h=>?_) fun c2 h=>?_
 ·have e1:=eT c2;refine ss (rg ?_);(try simp only [zz]);cases h;exact rt ez
 have e2:=eF c2;refine sk ?_;(try simp only [zz,c2,e2]);refine ss (rg ?_);obtain⟨x3,a3,h⟩:=bs h;simp only [zz];refine cq (expr_listedType_ok a3) ?_ (by simp only [zg,c1,e2]);(try simp only [zz]);refine ss (ss (rg ?_));(try simp only [zz]);refine cd rfl ?_;(try simp only [zz]);refine gi h (fun c4 h=>?_) fun c4 h=>?_
 ·have e4:=nT c4;refine ss (rg ?_);(try simp only [zz]);cases h;exact rt ez
 have e5:=nD c4;refine sk ?_;(try simp only [zz,c4,e5]);refine ss (rg ?_);(try simp only [zz]);refine jm h (fun j13=>⟨ds 4 (.ref 0 0 0 0::.dead::.ref 1 0 0 0::.dead::e_bool j13::ds 53 []),[.live 2 0 [.agg [e_i64 0,e_i64 0]],.live 2 0 [e_GType x3.1]]⟩) (fun z7 h6=>?_) fun j13 h6 h=>?_
 ·refine ss (rg ?_);(try simp only [zz]);refine bk (ss (rg ?_));(try simp only [zz]);refine cd rfl ?_;(try simp only [zz]);refine gi h6 (fun c5 h6=>?_) fun c5 h6=>?_
  ·have e8:=eT c5;refine rg ?_;(try simp only [zz]);refine gi h6 (fun c6 h6=>?_) fun c6 h6=>?_
   ·have e10:=eF c6;(try simp only [zz,c6,e10]);cases h6;exact tz [ok 2,ok 3]
   have e11:=eD c6;(try simp only [zz,c6,e11]);cases h6;exact tz [ok 2,ok 3]
  have e9:=eF c5;refine jm h6 (fun j8=>⟨ds 4 (.ref 0 0 0 0::.dead::.ref 1 0 0 0::.dead::e_bool false::ds 22 (e_i64 t0.Op::ds 10 (e_bool j8::ds 19 []))),[.live 2 0 [.agg [e_i64 0,e_i64 0]],.live 2 0 [e_GType x3.1]]⟩) (fun z13 h12=>?_) fun j8 h12 h6=>?_
  ·refine ss (rg ?_);(try simp only [zz]);refine cd rfl ?_;(try simp only [zz]);refine gi h12 (fun c7 h12=>?_) fun c7 h12=>?_
   ·have e14:=eT c7;refine sk ?_;(try simp only [zz,eq_true c7,e14]);cases h12;exact tz [ok 2,ok 3]
   have e15:=eF c7;refine rg ?_;(try simp only [zz]);cases h12;exact tz [ok 2,ok 3]
  refine cd rfl ?_;(try simp only [zz]);refine gi h6 (fun c9 h6=>?_) fun c9 h6=>?_
  ·refine rg ?_;(try simp only [zz]);cases h6;exact tz [ok 0,ok 1]
  refine ss (rg ?_);(try simp only [zz]);refine cd rfl ?_;(try simp only [zz]);refine gi h6 (fun c10 h6=>?_) fun c10 h6=>?_
  ·have e16:=eT c10;refine rg ?_;obtain⟨x11,a18,h6⟩:=bs h6;simp only [zz];refine cq (expr_isNumber_ok a18) ?_ (by simp only [zg,c1,e2,e5,e9,c9,e16]);(try simp only [zz]);refine gi h6 (fun c12 h6=>?_) fun c12 h6=>?_
   ·(try simp only [zz,c12]);cases h6;exact tz [ok 0,ok 1]
   (try simp only [zz,c12]);cases h6;exact tz [ok 0,ok 1]
  have e17:=eF c10;refine sk ?_;(try simp only [zz,c10,e17]);cases h6;exact tz [ok 0,ok 1]
 refine ss (ss (rg ?_));(try simp only [zz]);refine cd rfl ?_;(try simp only [zz]);refine gi h (fun c14 h=>?_) fun c14 h=>?_
 ·refine ss (rg ?_);(try simp only [zz]);cases h;exact rt ez
 refine sk ?_;(try simp only [zz,c14]);refine ss (rg ?_);(try simp only [zz]);cases h;exact rt ez
theorem ref10_ranged_ok {t0:GNode}{t1:GSignature}{r:Bool}(h:ref10_ranged t0 t1=some r):Den Tryz.prog 316 [e_GNode t0,e_GSignature t1] (e_bool r):=by
 refine dk 60 k316 ?_;simp only [k316,Kf.of,zs,ze];unfold ref10_ranged at h;refine ss (rg ?_);(try simp only [zz]);refine ss (ss (rg ?_));(try simp only [zz]);refine bk ?_;refine jm h (fun j5=>⟨ds 2 (.ref 0 0 0 0::.ref 1 0 0 0::ds 4 (e_i64 t0.Op::e_bool j5::ds 52 [])),[.live 2 0 [e_GNode t0],.live 6 0 [e_GSignature t1]]⟩) (fun z2 h1=>?_) fun j5 h1 h=>?_
 ·refine ss (rg ?_);(try simp only [zz]);refine cd rfl ?_;(try simp only [zz]);refine gi h1 (fun c1 h1=>?_) fun c1 h1=>?_
  ·have e3:=eT c1;refine sk ?_;(try simp only [zz,eq_true c1,e3]);cases h1;exact tz [ok 0,ok 1]
  have e4:=eF c1;refine ss (rg ?_);(try simp only [zz]);refine cd rfl ?_;(try simp only [zz]);refine gi h1 (fun c2 h1=>?_) fun c2 h1=>?_
  ·have e5:=eT c2;refine sk ?_;(try simp only [zz,eq_true c2,e5]);cases h1;exact tz [ok 0,ok 1]
  have e6:=eF c2;refine ss (rg ?_);(try simp only [zz]);refine cd rfl ?_;(try simp only [zz]);refine gi h1 (fun c3 h1=>?_) fun c3 h1=>?_
  ·have e7:=eT c3;refine sk ?_;(try simp only [zz,eq_true c3,e7]);cases h1;exact tz [ok 0,ok 1]
  have e8:=eF c3;refine ss (rg ?_);(try simp only [zz]);refine cd rfl ?_;(try simp only [zz]);refine gi h1 (fun c4 h1=>?_) fun c4 h1=>?_
  ·have e9:=eT c4;refine sk ?_;(try simp only [zz,eq_true c4,e9]);cases h1;exact tz [ok 0,ok 1]
  have e10:=eF c4;refine rg ?_;(try simp only [zz]);cases h1;exact tz [ok 0,ok 1]
 refine cd rfl ?_;(try simp only [zz]);refine gi h (fun c6 h=>?_) fun c6 h=>?_
 ·refine ss (dy hmix ?_);obtain⟨x7,a11,h⟩:=bs h;simp only [zz,zy];refine lq (ref10_kind_ok a11) ?_ (by simp only [zg,c6]);obtain⟨x8,a12,h⟩:=bs h;simp only [zz,zy];refine lq (ref09_Bounds_ok a12) ?_ (by simp only [zg,c6]);(try simp only [zz,zy]);refine jm h (fun j10=>⟨ds 4 (e_bool j10::ds 57 []),[]⟩) (fun z14 h13=>?_) fun j10 h13 h=>?_
  ·refine rg ?_;(try simp only [zz]);refine gi h13 (fun c9 h13=>?_) fun c9 h13=>?_
   ·(try simp only [zz,c9]);cases h13;exact tz []
   (try simp only [zz,c9]);cases h13;exact tz []
  cases h;exact rt ez
 refine jm h (fun j13=>⟨ds 2 (.ref 0 0 0 0::ds 5 (e_i64 t0.Op::ds 25 (e_bool j13::ds 27 []))),[.live 2 0 [e_GNode t0]]⟩) (fun z16 h15=>?_) fun j13 h15 h=>?_
 ·refine ss (rg ?_);(try simp only [zz]);refine cd rfl ?_;(try simp only [zz]);refine gi h15 (fun c11 h15=>?_) fun c11 h15=>?_
  ·have e17:=eT c11;refine sk ?_;(try simp only [zz,eq_true c11,e17]);cases h15;exact tz [ok 0]
  have e18:=eF c11;refine ss (rg ?_);(try simp only [zz]);refine cd rfl ?_;(try simp only [zz]);refine gi h15 (fun c12 h15=>?_) fun c12 h15=>?_
  ·have e19:=eT c12;refine sk ?_;(try simp only [zz,eq_true c12,e19]);cases h15;exact tz [ok 0]
  have e20:=eF c12;refine rg ?_;(try simp only [zz]);cases h15;exact tz [ok 0]
 refine cd rfl ?_;(try simp only [zz]);refine gi h (fun c14 h=>?_) fun c14 h=>?_
 ·refine jm h (fun j16=>⟨ds 4 (e_bool j16::ds 57 []),[]⟩) (fun z22 h21=>?_) fun j16 h21 h=>?_
  ·refine rg ?_;(try simp only [zz]);refine gi h21 (fun c15 h21=>?_) fun c15 h21=>?_
   ·(try simp only [zz,c15]);cases h21;exact tz []
   (try simp only [zz,c15]);cases h21;exact tz []
  cases h;exact rt ez
 refine ss (rg ?_);(try simp only [zz]);refine cd rfl ?_;(try simp only [zz]);refine gi h (fun c17 h=>?_) fun c17 h=>?_
 ·have e23:=eT c17;refine jm h (fun j19=>⟨ds 4 (e_bool j19::ds 57 []),[]⟩) (fun z26 h25=>?_) fun j19 h25 h=>?_
  ·refine rg ?_;(try simp only [zz]);refine gi h25 (fun c18 h25=>?_) fun c18 h25=>?_
   ·(try simp only [zz,c18,Int.reduceEq,Int.reduceNeg]);cases h25;exact tz []
   (try simp only [zz,c18]);cases h25;exact tz []
  cases h;exact rt ez
 have e24:=eF c17;refine ss (rg ?_);(try simp only [zz]);refine cd rfl ?_;(try simp only [zz]);refine gi h (fun c20 h=>?_) fun c20 h=>?_
 ·have e27:=eT c20;refine ss (rg ?_);(try simp only [zz]);cases h;exact rt ez
 have e28:=eF c20;refine sk ?_;(try simp only [zz,c20,e28]);refine ss (rg ?_);(try simp only [zz]);cases h;exact rt ez
theorem ref10_leaf_ok {t0:GNode}{t1:GSignature}{r:(GType×Bool)}(h:ref10_leaf t0 t1=some r):Den Tryz.prog 318 [e_GNode t0,e_GSignature t1] (.tup [e_GType r.1,e_bool r.2]):=by
 refine dk 89 k318 ?_;simp only [k318,Kf.of,zs,ze];unfold ref10_leaf at h;refine ss (rg ?_);(try simp only [zz]);refine ss (rg ?_);(try simp only [zz]);refine jm h (fun q=>⟨ds 2 (.ref 0 0 0 0::.ref 1 0 0 0::.ref 2 0 0 0::.dead::.ref 3 0 0 0::ds 84 []),[.live 2 0 [e_GNode t0],.live 6 0 [e_GSignature t1],.live 2 0 [.agg [e_i64 0,e_i64 0]],.live 2 0 [.agg [e_i64 q.1,e_i64 q.2]]]⟩) (fun z2 h1=>?_) fun z2 h1 h=>?_
 ·refine ss (rg ?_);(try simp only [zz]);refine bk (ss (rg ?_));(try simp only [zz]);refine cd rfl ?_;(try simp only [zz]);refine gi h1 (fun c1 h1=>?_) fun c1 h1=>?_
  ·have e3:=eT c1;refine rg ?_;(try simp only [zz,Int.reduceEq,Int.reduceNeg]);cases h1;exact tz [ok 0,ok 1,ok 2,ok 3]
  have e4:=eF c1;refine ss (rg ?_);(try simp only [zz]);refine cd rfl ?_;(try simp only [zz]);refine gi h1 (fun c2 h1=>?_) fun c2 h1=>?_
  ·have e5:=eT c2;refine rg ?_;obtain⟨x3,f8,f9,h1⟩:=bI h1;(try simp only [zz,f8,f9]);cases h1;exact tz [ok 0,ok 1,ok 2,ok 3]
  have e6:=eF c2;refine ss (rg ?_);(try simp only [zz]);refine cd rfl ?_;(try simp only [zz]);refine gi h1 (fun c4 h1=>?_) fun c4 h1=>?_
  ·have e10:=eT c4;refine rg ?_;obtain⟨x5,f13,f14,h1⟩:=bI h1;(try simp only [zz,f13,f14]);cases h1;exact tz [ok 0,ok 1,ok 2,ok 3]
  have e11:=eF c4;refine ss (rg ?_);(try simp only [zz]);refine cd rfl ?_;(try simp only [zz]);refine gi h1 (fun c6 h1=>?_) fun c6 h1=>?_
  ·have e15:=eT c6;refine rg ?_;obtain⟨x7,a17,h1⟩:=bs h1;simp only [zz];refine cq (ref10_kind_ok a17) ?_ (by simp only [zg,e4,e6,e11,e15]);(try simp only [zz]);cases h1;exact tz [ok 0,ok 1,ok 2,ok 3]
  have e16:=eF c6;refine ss (rg ?_);(try simp only [zz]);refine cd rfl ?_;(try simp only [zz]);refine gi h1 (fun c8 h1=>?_) fun c8 h1=>?_
  ·have e18:=eT c8;refine rg ?_;obtain⟨x9,a20,h1⟩:=bs h1;simp only [zz];refine cq (ref10_kind_ok a20) ?_ (by simp only [zg,e4,e6,e11,e16,e18]);(try simp only [zz]);cases h1;exact tz [ok 0,ok 1,ok 2,ok 3]
  have e19:=eF c8;refine jm h1 (fun j13=>⟨ds 2 (.ref 0 0 0 0::.ref 1 0 0 0::.ref 2 0 0 0::.dead::.ref 3 0 0 0::ds 35 (e_bool j13::ds 48 [])),[.live 2 0 [e_GNode t0],.live 6 0 [e_GSignature t1],.live 2 0 [.agg [e_i64 0,e_i64 0]],.live 2 0 [.agg [e_i64 0,e_i64 0]]]⟩) (fun z22 h21=>?_) fun j13 h21 h1=>?_
  ·refine ss (rg ?_);(try simp only [zz]);refine cd rfl ?_;(try simp only [zz]);refine gi h21 (fun c10 h21=>?_) fun c10 h21=>?_
   ·have e23:=eT c10;refine sk ?_;(try simp only [zz,eq_true c10,e23]);cases h21;exact tz [ok 0,ok 1,ok 2,ok 3]
   have e24:=eF c10;refine ss (rg ?_);(try simp only [zz]);refine cd rfl ?_;(try simp only [zz]);refine gi h21 (fun c11 h21=>?_) fun c11 h21=>?_
   ·have e25:=eT c11;refine sk ?_;(try simp only [zz,eq_true c11,e25]);cases h21;exact tz [ok 0,ok 1,ok 2,ok 3]
   have e26:=eF c11;refine ss (rg ?_);(try simp only [zz]);refine cd rfl ?_;(try simp only [zz]);refine gi h21 (fun c12 h21=>?_) fun c12 h21=>?_
   ·have e27:=eT c12;refine sk ?_;(try simp only [zz,eq_true c12,e27]);cases h21;exact tz [ok 0,ok 1,ok 2,ok 3]
   have e28:=eF c12;refine rg ?_;(try simp only [zz]);cases h21;exact tz [ok 0,ok 1,ok 2,ok 3]
  refine cd rfl ?_;(try simp only [zz]);refine gi h1 (fun c14 h1=>?_) fun c14 h1=>?_
  ·refine rg ?_;obtain⟨x15,f30,f31,h1⟩:=bI h1;(try simp only [zz,f30,f31]);cases h1;exact tz [ok 0,ok 1,ok 2,ok 3]
  refine rg ?_;obtain⟨x16,a32,h1⟩:=bs h1;simp only [zz];refine cq (ref10_kind_ok a32) ?_ (by simp only [zg,e4,e6,e11,e16,e19,c14]);(try simp only [zz]);cases h1;exact tz [ok 0,ok 1,ok 2,ok 3]
 obtain⟨j17,j18⟩:=z2;dsimp only at h;refine ss (rg ?_);obtain⟨x19,a33,h⟩:=bs h;simp only [zz];refine cq (ref09_ValidType_ok a33) ?_ (by simp only [zg]);(try simp only [zz]);refine jm h (fun j30=>⟨ds 4 (.ref 0 0 0 0::.dead::.ref 1 0 0 0::e_bool j30::ds 83 []),[.live 2 0 [.agg [e_i64 0,e_i64 0]],.live 2 0 [.agg [e_i64 j17,e_i64 j18]]]⟩) (fun z35 h34=>?_) fun j30 h34 h=>?_
 ·refine ss (rg ?_);(try simp only [zz]);refine bk (ss (rg ?_));(try simp only [zz]);refine cd rfl ?_;(try simp only [zz]);refine gi h34 (fun c20 h34=>?_) fun c20 h34=>?_
  ·have e36:=eT c20;refine rg ?_;(try simp only [zz]);refine gi h34 (fun c21 h34=>?_) fun c21 h34=>?_
   ·(try simp only [zz,c21]);refine gi h34 (fun c22 h34=>?_) fun c22 h34=>?_
    ·have e38:=eF c22;(try simp only [zz,c21,c22,e38]);cases h34;exact tz [ok 2,ok 3]
    have e39:=eD c22;(try simp only [zz,c21,c22,e39]);cases h34;exact tz [ok 2,ok 3]
   (try simp only [zz,c21]);cases h34;exact tz [ok 2,ok 3]
  have e37:=eF c20;refine jm h34 (fun j24=>⟨ds 4 (.ref 0 0 0 0::.dead::.ref 1 0 0 0::e_bool x19::ds 50 (e_i64 t0.Op::ds 13 (e_bool j24::ds 18 []))),[.live 2 0 [.agg [e_i64 0,e_i64 0]],.live 2 0 [.agg [e_i64 j17,e_i64 j18]]]⟩) (fun z41 h40=>?_) fun j24 h40 h34=>?_
  ·refine ss (rg ?_);(try simp only [zz]);refine cd rfl ?_;(try simp only [zz]);refine gi h40 (fun c23 h40=>?_) fun c23 h40=>?_
   ·have e42:=eT c23;refine sk ?_;(try simp only [zz,eq_true c23,e42]);cases h40;exact tz [ok 2,ok 3]
   have e43:=eF c23;refine rg ?_;(try simp only [zz]);cases h40;exact tz [ok 2,ok 3]
  refine cd rfl ?_;(try simp only [zz]);refine gi h34 (fun c25 h34=>?_) fun c25 h34=>?_
  ·refine rg ?_;(try simp only [zz]);refine gi h34 (fun c26 h34=>?_) fun c26 h34=>?_
   ·(try simp only [zz,c26]);cases h34;exact tz [ok 0,ok 1]
   (try simp only [zz,c26]);cases h34;exact tz [ok 0,ok 1]
  refine ss (rg ?_);(try simp only [zz]);refine cd rfl ?_;(try simp only [zz]);refine gi h34 (fun c27 h34=>?_) fun c27 h34=>?_
  ·have e44:=eT c27;refine rg ?_;(try simp only [zz]);refine gi h34 (fun c28 h34=>?_) fun c28 h34=>?_
   ·obtain⟨x29,a46,h34⟩:=bs h34;simp only [zz,c28];refine cq (ref10_ordered_ok a46) ?_ (by simp only [zg,e37,c25,e44,c28]);(try simp only [zz,c28]);cases h34;exact tz [ok 0,ok 1]
   (try simp only [zz,c28]);cases h34;exact tz [ok 0,ok 1]
  have e45:=eF c27;refine sk ?_;(try simp only [zz,c27,e45]);cases h34;exact tz [ok 0,ok 1]
 refine ss (rg ?_);(try simp only [zz]);cases h;exact rt ez
theorem ref10_double_ok {t0:Int}{t1:GType}{t2:GType}{r:(GType×Bool)}(h:ref10_double t0 t1 t2=some r):Den Tryz.prog 320 [e_i64 t0,e_GType t1,e_GType t2] (.tup [e_GType r.1,e_bool r.2]):=by
 refine dk 105 k320 ?_;simp only [k320,Kf.of,zs,ze];unfold ref10_double at h;refine ss (rg ?_);(try simp only [zz]);refine ss (ss (rg ?_));(try simp only [zz]);refine bk ?_;refine jm h (fun j2=>⟨e_i64 t0::ds 3 (.ref 0 0 0 0::.ref 1 0 0 0::.ref 2 0 0 0::.dead::e_i64 t0::e_bool j2::ds 98 []),[.live 2 0 [e_GType t1],.live 2 0 [e_GType t2],.live 2 0 [.agg [e_i64 0,e_i64 0]]]⟩) (fun z2 h1=>?_) fun j2 h1 h=>?_
 ·refine ss (rg ?_);(try simp only [zz]);refine cd rfl ?_;(try simp only [zz]);refine gi h1 (fun c1 h1=>?_) fun c1 h1=>?_
  ·have e3:=eT c1;refine sk ?_;(try simp only [zz,eq_true c1,e3]);cases h1;exact tz [ok 0,ok 1,ok 2]
  have e4:=eF c1;refine rg ?_;(try simp only [zz]);cases h1;exact tz [ok 0,ok 1,ok 2]
 refine cd rfl ?_;(try simp only [zz]);refine gi h (fun c3 h=>?_) fun c3 h=>?_
 ·refine jm h (fun j6=>⟨ds 6 (.ref 0 0 0 0::e_bool j6::ds 100 []),[.live 2 0 [e_GType t1]]⟩) (fun z6 h5=>?_) fun j6 h5 h=>?_
  ·refine ay hmix [[],[],[],[],[],[],[],[],[],[]] (by kernel_rfl) ?_;(try simp only [zz,zy]);refine gi h5 (fun c4 h5=>?_) fun c4 h5=>?_
   ·obtain⟨x5,a7,h5⟩:=bs h5;simp only [zz,eq_true c4,zy];refine lq (ref10_number_ok a7) ?_ (by simp only [zg,c3]);(try simp only [zz,eq_true c4,zy]);cases h5;exact tz [ok 2]
   (try simp only [zz,c4,zy]);cases h5;exact tz [ok 2]
  cases h;exact rt ez
 refine jm h (fun j9=>⟨e_i64 t0::ds 3 (.ref 0 0 0 0::.ref 1 0 0 0::.ref 2 0 0 0::.dead::e_i64 t0::ds 12 (e_bool j9::ds 86 [])),[.live 2 0 [e_GType t1],.live 2 0 [e_GType t2],.live 2 0 [.agg [e_i64 0,e_i64 0]]]⟩) (fun z9 h8=>?_) fun j9 h8 h=>?_
 ·refine ss (rg ?_);(try simp only [zz]);refine cd rfl ?_;(try simp only [zz]);refine gi h8 (fun c7 h8=>?_) fun c7 h8=>?_
  ·have e10:=eT c7;refine sk ?_;(try simp only [zz,eq_true c7,e10]);cases h8;exact tz [ok 0,ok 1,ok 2]
  have e11:=eF c7;refine ss (rg ?_);(try simp only [zz]);refine cd rfl ?_;(try simp only [zz]);refine gi h8 (fun c8 h8=>?_) fun c8 h8=>?_
  ·have e12:=eT c8;refine sk ?_;(try simp only [zz,eq_true c8,e12]);cases h8;exact tz [ok 0,ok 1,ok 2]
  have e13:=eF c8;refine rg ?_;(try simp only [zz]);cases h8;exact tz [ok 0,ok 1,ok 2]
 refine cd rfl ?_;(try simp only [zz]);refine gi h (fun c10 h=>?_) fun c10 h=>?_
 ·refine ss (rg ?_);obtain⟨x11,a14,h⟩:=bs h;simp only [zz];refine cq (ref10_scaled_ok a14) ?_ (by simp only [zg,c3,c10]);(try simp only [zz]);cases h;exact rt ez
 refine ss (rg ?_);(try simp only [zz]);refine cd rfl ?_;(try simp only [zz]);refine gi h (fun c12 h=>?_) fun c12 h=>?_
 ·have e15:=eT c12;refine jm h (fun j14=>⟨ds 6 (.ref 0 0 0 0::e_bool j14::ds 100 []),[.live 2 0 [e_GType t1]]⟩) (fun z18 h17=>?_) fun j14 h17 h=>?_
  ·refine ay hmix [[],[],[],[],[],[],[],[],[],[6]] (by kernel_rfl) ?_;(try simp only [zz,zy]);refine gi h17 (fun c13 h17=>?_) fun c13 h17=>?_
   ·have e19:=eT c13;(try simp only [zz,eq_true c13,e19,zy]);cases h17;exact tz [ok 2]
   have e20:=eF c13;(try simp only [zz,c13,e20,zy]);cases h17;exact tz [ok 2]
  cases h;exact rt ez
 have e16:=eF c12;refine jm h (fun j16=>⟨ds 4 (.ref 0 0 0 0::.ref 1 0 0 0::.ref 2 0 0 0::.dead::e_i64 t0::ds 35 (e_bool j16::ds 63 [])),[.live 2 0 [e_GType t1],.live 2 0 [e_GType t2],.live 2 0 [.agg [e_i64 0,e_i64 0]]]⟩) (fun z22 h21=>?_) fun j16 h21 h=>?_
 ·refine ss (rg ?_);(try simp only [zz]);refine cd rfl ?_;(try simp only [zz]);refine gi h21 (fun c15 h21=>?_) fun c15 h21=>?_
  ·have e23:=eT c15;refine sk ?_;(try simp only [zz,eq_true c15,e23]);cases h21;exact tz [ok 0,ok 1,ok 2]
  have e24:=eF c15;refine rg ?_;(try simp only [zz]);cases h21;exact tz [ok 0,ok 1,ok 2]
 refine cd rfl ?_;(try simp only [zz]);refine gi h (fun c17 h=>?_) fun c17 h=>?_
 ·refine jm h (fun j20=>⟨ds 6 (.ref 0 0 0 0::e_bool j20::ds 100 []),[.live 2 0 [e_GType t1]]⟩) (fun z26 h25=>?_) fun j20 h25 h=>?_
  ·refine ay hmix [[],[],[],[],[],[],[],[],[],[]] (by kernel_rfl) ?_;(try simp only [zz,zy]);refine gi h25 (fun c18 h25=>?_) fun c18 h25=>?_
   ·obtain⟨x19,a27,h25⟩:=bs h25;simp only [zz,eq_true c18,zy];refine lq (ref10_ordered_ok a27) ?_ (by simp only [zg,c3,c10,e16,c17]);(try simp only [zz,eq_true c18,zy]);cases h25;exact tz [ok 2]
   (try simp only [zz,c18,zy]);cases h25;exact tz [ok 2]
  cases h;exact rt ez
 refine jm h (fun j22=>⟨ds 4 (.ref 0 0 0 0::.ref 1 0 0 0::.ref 2 0 0 0::.dead::e_i64 t0::ds 47 (e_bool j22::ds 51 [])),[.live 2 0 [e_GType t1],.live 2 0 [e_GType t2],.live 2 0 [.agg [e_i64 0,e_i64 0]]]⟩) (fun z29 h28=>?_) fun j22 h28 h=>?_
 ·refine ss (rg ?_);(try simp only [zz]);refine cd rfl ?_;(try simp only [zz]);refine gi h28 (fun c21 h28=>?_) fun c21 h28=>?_
  ·have e30:=eT c21;refine sk ?_;(try simp only [zz,eq_true c21,e30]);cases h28;exact tz [ok 0,ok 1,ok 2]
  have e31:=eF c21;refine rg ?_;(try simp only [zz]);cases h28;exact tz [ok 0,ok 1,ok 2]
 refine cd rfl ?_;(try simp only [zz]);refine gi h (fun c23 h=>?_) fun c23 h=>?_
 ·refine ss (ay hmix [[],[],[],[],[1,2]] (by kernel_rfl) ?_);obtain⟨x24,a32,h⟩:=bs h;simp only [zz,zy];refine lq (ref10_kind_ok a32) ?_ (by simp only [zg,c3,c10,e16,c17,c23]);(try simp only [zz,zy]);cases h;exact rt ez
 refine jm h (fun j26=>⟨ds 4 (.ref 0 0 0 0::.ref 1 0 0 0::.ref 2 0 0 0::.dead::e_i64 t0::ds 54 (e_bool j26::ds 44 [])),[.live 2 0 [e_GType t1],.live 2 0 [e_GType t2],.live 2 0 [.agg [e_i64 0,e_i64 0]]]⟩) (fun z34 h33=>?_) fun j26 h33 h=>?_
 ·refine ss (rg ?_);(try simp only [zz]);refine cd rfl ?_;(try simp only [zz]);refine gi h33 (fun c25 h33=>?_) fun c25 h33=>?_
  ·have e35:=eT c25;refine sk ?_;(try simp only [zz,eq_true c25,e35]);cases h33;exact tz [ok 0,ok 1,ok 2]
  have e36:=eF c25;refine rg ?_;(try simp only [zz]);cases h33;exact tz [ok 0,ok 1,ok 2]
 refine cd rfl ?_;(try simp only [zz]);refine gi h (fun c27 h=>?_) fun c27 h=>?_
 ·refine jm h (fun q=>⟨ds 6 (.ref 0 0 0 0::e_bool q.2.2::ds 100 []),[.live 2 0 [.agg [e_i64 q.1,e_i64 q.2.1]]]⟩) (fun z38 h37=>?_) fun z38 h37 h=>?_
  ·refine ay hmix [[],[],[],[],[],[],[],[],[],[]] (by kernel_rfl) ?_;obtain⟨x28,a39,h37⟩:=bs h37;simp only [zz,zy];refine lq (ref10_kind_ok a39) ?_ (by simp only [zg,c3,c10,e16,c17,c23,c27]);(try simp only [zz,zy]);refine gi h37 (fun c29 h37=>?_) fun c29 h37=>?_
   ·obtain⟨x30,a40,h37⟩:=bs h37;simp only [zz,eq_true c29,zy];refine lq (ref10_ordered_ok a40) ?_ (by simp only [zg,c3,c10,e16,c17,c23,c27]);(try simp only [zz,eq_true c29,zy]);cases h37;exact tz [ok 2]
   (try simp only [zz,c29,zy]);cases h37;exact tz [ok 2]
  obtain⟨j31,j32,j33⟩:=z38;dsimp only at h;cases h;exact rt ez
 refine jm h (fun j35=>⟨ds 4 (.ref 0 0 0 0::.ref 1 0 0 0::.ref 2 0 0 0::.dead::e_i64 t0::ds 66 (e_bool j35::ds 32 [])),[.live 2 0 [e_GType t1],.live 2 0 [e_GType t2],.live 2 0 [.agg [e_i64 0,e_i64 0]]]⟩) (fun z42 h41=>?_) fun j35 h41 h=>?_
 ·refine ss (rg ?_);(try simp only [zz]);refine cd rfl ?_;(try simp only [zz]);refine gi h41 (fun c34 h41=>?_) fun c34 h41=>?_
  ·have e43:=eT c34;refine sk ?_;(try simp only [zz,eq_true c34,e43]);cases h41;exact tz [ok 0,ok 1,ok 2]
  have e44:=eF c34;refine rg ?_;(try simp only [zz]);cases h41;exact tz [ok 0,ok 1,ok 2]
 refine cd rfl ?_;(try simp only [zz]);refine gi h (fun c36 h=>?_) fun c36 h=>?_
 ·refine jm h (fun j38=>⟨ds 6 (.ref 0 0 0 0::e_bool j38::ds 100 []),[.live 2 0 [e_GType t1]]⟩) (fun z46 h45=>?_) fun j38 h45 h=>?_
  ·refine ay hmix [[],[],[],[],[],[],[],[],[],[6]] (by kernel_rfl) ?_;(try simp only [zz,zy]);refine gi h45 (fun c37 h45=>?_) fun c37 h45=>?_
   ·have e47:=eT c37;(try simp only [zz,eq_true c37,e47,zy]);cases h45;exact tz [ok 2]
   have e48:=eF c37;(try simp only [zz,c37,e48,zy]);cases h45;exact tz [ok 2]
  cases h;exact rt ez
 refine jm h (fun j40=>⟨ds 4 (.ref 0 0 0 0::.ref 1 0 0 0::.ref 2 0 0 0::ds 80 (e_bool j40::ds 20 [])),[.live 2 0 [e_GType t1],.live 2 0 [e_GType t2],.live 2 0 [.agg [e_i64 0,e_i64 0]]]⟩) (fun z50 h49=>?_) fun j40 h49 h=>?_
 ·refine ss (rg ?_);(try simp only [zz]);refine cd rfl ?_;(try simp only [zz]);refine gi h49 (fun c39 h49=>?_) fun c39 h49=>?_
  ·have e51:=eT c39;refine sk ?_;(try simp only [zz,eq_true c39,e51]);cases h49;exact tz [ok 0,ok 1,ok 2]
  have e52:=eF c39;refine rg ?_;(try simp only [zz]);cases h49;exact tz [ok 0,ok 1,ok 2]
 refine cd rfl ?_;(try simp only [zz]);refine gi h (fun c41 h=>?_) fun c41 h=>?_
 ·refine jm h (fun j43=>⟨ds 6 (.ref 0 0 0 0::e_bool j43::ds 100 []),[.live 2 0 [e_GType t1]]⟩) (fun z54 h53=>?_) fun j43 h53 h=>?_
  ·refine ay hmix [[],[],[],[],[],[],[],[],[],[6]] (by kernel_rfl) ?_;(try simp only [zz,zy]);refine gi h53 (fun c42 h53=>?_) fun c42 h53=>?_
   ·have e55:=eT c42;(try simp only [zz,eq_true c42,e55,zy]);cases h53;exact tz [ok 2]
   have e56:=eF c42;(try simp only [zz,c42,e56,zy]);cases h53;exact tz [ok 2]
  cases h;exact rt ez
 refine sk ?_;(try simp only [zz,c41]);refine jm h (fun q=>⟨ds 6 (.ref 0 0 0 0::e_bool q.2.2::ds 100 []),[.live 2 0 [.agg [e_i64 q.1,e_i64 q.2.1]]]⟩) (fun z58 h57=>?_) fun z58 h57 h=>?_
 ·refine ay hmix [[],[],[],[],[],[],[],[],[],[6]] (by kernel_rfl) ?_;obtain⟨x44,a59,h57⟩:=bs h57;simp only [zz,zy];refine lq (ref10_kind_ok a59) ?_ (by simp only [zg,c3,c10,e16,c17,c23,c27,c36,c41]);(try simp only [zz,zy]);refine gi h57 (fun c45 h57=>?_) fun c45 h57=>?_
  ·have e60:=eT c45;(try simp only [zz,eq_true c45,e60,zy]);cases h57;exact tz [ok 2]
  have e61:=eF c45;(try simp only [zz,c45,e61,zy]);cases h57;exact tz [ok 2]
 obtain⟨j46,j47,j48⟩:=z58;dsimp only at h;cases h;exact rt ez
theorem law_checkEnum_ok {t0:GLaw}{t1:Int}{t2:GEnum}{r:(Int×Int)}(h:law_checkEnum t0 t1 t2=some r):Den Tryz.prog 108 [e_GLaw t0,e_i64 t1,e_GEnum t2] (.tup [e_i64 r.1,e_i64 r.2]):=by
 refine dk 52 k108 ?_;simp only [k108,Kf.of,zs,ze];unfold law_checkEnum at h;refine ss (rg ?_);(try simp only [zz]);refine ss (bk (ss (rg ?_)));obtain⟨x1,a1,h⟩:=bs h;simp only [zz];refine cq (lexer_IsIdentifier_ok a1) ?_ (by simp only [zg]);(try simp only [zz]);refine cd rfl ?_;(try simp only [zz]);refine gi h (fun c2 h=>?_) fun c2 h=>?_
 ·refine ss (rg ?_);(try simp only [zz]);cases h;exact rt ez
 refine ss (dy hmix ?_);obtain⟨x3,a2,h⟩:=bs h;obtain⟨f3,f4,f5⟩:=subh_f (e:=e_GEnum) a2;(try simp only [zz]at f5);obtain⟨x4,a6,h⟩:=bs h;simp only [zz,f3,f4,f5,zy];refine cq (law_hasEnum_ok a6) ?_ (by simp only [zg,c2]);(try simp only [zz,f3,f4,f5,zy]);refine cd rfl ?_;(try simp only [zz,f3,f4,f5]);refine gi h (fun c5 h=>?_) fun c5 h=>?_
 ·refine ss (rg ?_);(try simp only [zz]);cases h;exact rt ez
 refine ss (rg ?_);(try simp only [zz]);refine cd rfl ?_;(try simp only [zz]);refine gi h (fun c6 h=>?_) fun c6 h=>?_
 ·have e7:=eT c6;refine ss (rg ?_);(try simp only [zz]);cases h;exact rt ez
 have e8:=eF c6;refine ss (rg ?_);(try simp only [zz]);refine cd rfl ?_;(try simp only [zz]);refine gi h (fun c7 h=>?_) fun c7 h=>?_
 ·refine ss (rg ?_);(try simp only [zz]);cases h;exact rt ez
 refine sk ?_;(try simp only [zz,c7]);refine ss (ss (rg ?_));(try simp only [zz]);obtain⟨y9,h10,h⟩:=bs h;refine lm h10 (fun s8=>⟨ds 5 (.ref 0 0 0 0::ds 28 (e_s_str t2.Members::e_i64 (t2.Members.length:Int)::e_i64 s8::ds 18 [])),[.live 2 0 [e_GEnum t2]]⟩) (fun q=>⟨ds 55 [],[]⟩) (tz [ok 1]) ?_ ?_
 ·rintro s8 z11 h12 h13;simp only [law_checkEnum_L1]at h12;refine ss (rg ?_);(try simp only [zz]);refine ss (cd rfl ?_);(try simp only [zz]);refine gi h12 (fun c9 h12=>?_) fun c9 h12=>?_
  ·refine sk ?_;(try simp only [zz,c9]);refine ss (bk (ss (rg ?_)));obtain⟨x10,f15,f16,h12⟩:=bI h12;(try simp only [zz,f15,f16]);refine ss (ss (rg ?_));obtain⟨x11,a17,h12⟩:=bs h12;simp only [zz];refine cq (lexer_IsIdentifier_ok a17) ?_ (by simp only [zg,c2,c5,e8]);(try simp only [zz]);refine cd rfl ?_;(try simp only [zz]);refine gi h12 (fun c12 h12=>?_) fun c12 h12=>?_
   ·refine ss (rg ?_);(try simp only [zz]);cases h12;cases h13 _ rfl;cases h;exact rt ez
   refine sk ?_;(try simp only [zz,c12]);refine ss (rg ?_);obtain⟨x13,a18,h12⟩:=bs h12;obtain⟨f19,f20,f21⟩:=subh_f (e:=e_str) a18;(try simp only [zz]at f21);obtain⟨x14,a22,h12⟩:=bs h12;simp only [zz,f19,f20,f21];refine cq (slices_Contains_string_string_ok a22) ?_ (by simp only [zg,c2,c5,e8,c12]);(try simp only [zz,f19,f20,f21]);refine cd rfl ?_;(try simp only [zz,f19,f20,f21]);refine gi h12 (fun c15 h12=>?_) fun c15 h12=>?_
   ·refine ss (rg ?_);(try simp only [zz]);cases h12;cases h13 _ rfl;cases h;exact rt ez
   refine sk ?_;(try simp only [zz,f19,f20,f21,c15]);refine rg ?_;(try simp only [zz]);cases h12;exact tz [ok 0]
  refine xt ?_;(try simp only [zz,c9]);cases h12;exact tz []
 rintro ⟨⟩ rfl;dsimp only at h;(try simp only [zz]);refine ss (rg ?_);(try simp only [zz]);cases h;exact rt ez
theorem ref17_enumError_ok {t0:GLaw}{t1:Int}{r:GLawError}(h:ref17_enumError t0 t1=some r):Den Tryz.prog 114 [e_GLaw t0,e_i64 t1] (e_GLawError r):=by
 refine dk 78 k114 ?_;simp only [k114,Kf.of,zs,ze];unfold ref17_enumError at h;refine ss (rg ?_);(try simp only [zz]);refine ss (rg ?_);obtain⟨x1,f2,f3,h⟩:=bI h;(try simp only [zz,f2,f3]);refine ss (rg ?_);(try simp only [zz]);refine ss (ss (rg ?_));obtain⟨x2,a4,h⟩:=bs h;simp only [zz];refine cq (ref08_IsIdentifier_ok a4) ?_ (by simp only [zg]);(try simp only [zz]);refine cd rfl ?_;(try simp only [zz]);refine gi h (fun c3 h=>?_) fun c3 h=>?_
 ·refine ss (rg ?_);(try simp only [zz]);refine ss (rg ?_);(try simp only [zz]);cases h;exact rt ez
 refine sk ?_;(try simp only [zz,c3]);refine ss (ss (rg ?_));obtain⟨x4,a5,h⟩:=bs h;simp only [zz];refine cq (ref17_nameTaken_ok a5) ?_ (by simp only [zg,c3]);(try simp only [zz]);refine cd rfl ?_;(try simp only [zz]);refine gi h (fun c5 h=>?_) fun c5 h=>?_
 ·refine ss (rg ?_);(try simp only [zz]);refine ss (rg ?_);(try simp only [zz]);cases h;exact rt ez
 refine sk ?_;(try simp only [zz,c5]);refine ss (ss (rg ?_));(try simp only [zz]);refine cd rfl ?_;(try simp only [zz]);refine gi h (fun c6 h=>?_) fun c6 h=>?_
 ·have e6:=eT c6;refine ss (rg ?_);(try simp only [zz]);refine ss (rg ?_);(try simp only [zz]);cases h;exact rt ez
 have e7:=eF c6;refine sk ?_;(try simp only [zz,c6,e7]);refine ss (ss (rg ?_));(try simp only [zz]);refine cd rfl ?_;(try simp only [zz]);refine gi h (fun c7 h=>?_) fun c7 h=>?_
 ·refine ss (rg ?_);(try simp only [zz]);refine ss (rg ?_);(try simp only [zz]);refine ss (rg ?_);(try simp only [zz]);cases h;exact rt ez
 refine sk ?_;(try simp only [zz,c7]);refine ss (ss (rg ?_));(try simp only [zz]);obtain⟨y8,h9,h⟩:=bs h;refine lm h9 (fun q=>⟨ds 4 (.ref 0 0 0 0::.ref 1 0 0 0::.ref 2 0 0 0::e_i64 q.2::ds 72 []),[.live 4 0 [.agg [e_i64 0,e_i64 0,e_i64 0,e_i64 0]],.live 2 0 [e_GEnum x1],.live 4 0 [.agg [e_i64 0,e_i64 1,e_i64 t1,e_i64 q.1]]]⟩) (fun q=>⟨ds 4 (.ref 0 0 0 0::ds 75 []),[.live 4 0 [.agg [e_i64 0,e_i64 0,e_i64 0,e_i64 0]]]⟩) (tz [ok 1,ok 2,ok 3]) ?_ ?_
 ·rintro ⟨s8,s9⟩ z10 h11 h12;simp only [ref17_enumError_L9]at h11;refine ss (ss (rg ?_));(try simp only [zz]);refine cd rfl ?_;(try simp only [zz]);refine gi h11 (fun c10 h11=>?_) fun c10 h11=>?_
  ·refine sk ?_;(try simp only [zz,c10]);refine ss (bk (ss (rg ?_)));(try simp only [zz]);refine ss (ss (rg ?_));obtain⟨x11,f14,f15,h11⟩:=bI h11;obtain⟨x12,a16,h11⟩:=bs h11;simp only [zz,f14,f15];refine cq (ref08_IsIdentifier_ok a16) ?_ (by simp only [zg,c3,c5,e7]);(try simp only [zz,f14,f15]);refine cd rfl ?_;(try simp only [zz,f14,f15]);refine gi h11 (fun c13 h11=>?_) fun c13 h11=>?_
   ·refine ss (rg ?_);(try simp only [zz]);refine ss (rg ?_);(try simp only [zz]);cases h11;cases h12 _ rfl;cases h;exact rt ez
   refine sk ?_;(try simp only [zz,f14,f15,c13]);refine ss (rg ?_);(try simp only [zz]);obtain⟨y17,h18,h11⟩:=bs h11;refine lm h18 (fun s14=>⟨ds 4 (.ref 0 0 0 0::.ref 1 0 0 0::.ref 2 0 0 0::e_i64 s9::e_i64 s14::ds 71 []),[.live 4 0 [.agg [e_i64 0,e_i64 0,e_i64 0,e_i64 0]],.live 2 0 [e_GEnum x1],.live 4 0 [.agg [e_i64 0,e_i64 1,e_i64 t1,e_i64 (wrapF .i64 (100+s9))]]]⟩) (fun q=>⟨ds 4 (.ref 0 0 0 0::.ref 1 0 0 0::.ref 2 0 0 0::e_i64 s9::ds 72 []),[.live 4 0 [.agg [e_i64 0,e_i64 0,e_i64 0,e_i64 0]],.live 2 0 [e_GEnum x1],.live 4 0 [.agg [e_i64 0,e_i64 1,e_i64 t1,e_i64 (wrapF .i64 (100+s9))]]]⟩) (tz [ok 0,ok 1,ok 2]) ?_ ?_
   ·rintro s14 z19 h20 h21;simp only [ref17_enumError_L8]at h20;refine ss (ss (rg ?_));(try simp only [zz]);refine cd rfl ?_;(try simp only [zz]);refine gi h20 (fun c15 h20=>?_) fun c15 h20=>?_
    ·refine sk ?_;(try simp only [zz,c15]);refine ss (bk (ss (dy hmix ?_)));obtain⟨x16,f23,f24,h20⟩:=bI h20;(try simp only [zz,f23,f24,f14,f15,zy]);refine cd rfl ?_;(try simp only [zz,f23,f24,f14,f15]);refine gi h20 (fun c17 h20=>?_) fun c17 h20=>?_
     ·refine ss (rg ?_);(try simp only [zz]);refine ss (rg ?_);(try simp only [zz]);cases h20;cases h21 _ rfl;cases h11;cases h12 _ rfl;cases h;exact rt ez
     refine sk ?_;(try simp only [zz,f23,f24,f14,f15,c17]);refine rg ?_;(try simp only [zz]);cases h20;exact tz [ok 0,ok 1,ok 2]
    refine xt ?_;(try simp only [zz,c15]);cases h20;exact tz [ok 0,ok 1,ok 2]
   rintro ⟨⟩ rfl;dsimp only at h11;(try simp only [zz]);refine rg ?_;(try simp only [zz]);cases h11;exact tz [ok 0,ok 1,ok 2]
  refine xt ?_;(try simp only [zz,c10]);cases h11;exact tz [ok 0]
 rintro ⟨⟩ rfl;dsimp only at h;(try simp only [zz]);refine ss (rg ?_);(try simp only [zz]);cases h;exact rt ez
end Go.Proofs.Dev
