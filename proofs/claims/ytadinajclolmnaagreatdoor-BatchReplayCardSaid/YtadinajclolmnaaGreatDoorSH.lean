/-
  Contracts of library functions at this program: no condition.
-/
import Derived.Shelf.Small.Bits
import Derived.Shelf.Small.Wraps
import Derived.Shelf.Strconv.Itoa0
import Derived.Shelf.Strings.Search1
import Derived.Shelf.Strings.Search2
import Derived.Shelf.Strings.Search3
import Derived.Shelf.LaysM
import Derived.Shelf.Strings.Shaped
import Derived.Shelf.Sort.Plain
import Derived.Shelf.Bits.Mul64
import Derived.Shelf.Slices.Turned
import Derived.Ground.Names2Prog
import Derived.Shelf.Slices.CompactI
import Derived.Shelf.Slices.SearchI
import Derived.Shelf.Slices.Cells
import Derived.Shelf.Slices.In.SortNone
import Derived.Shelf.Slices.Empties
import Derived.Test.YtadinajclolmnaaGreatDoorProg
open Option renaming some->M,none->u4
open Decidable renaming decide->D1
open Go.Proofs.Tryz renaming prog->al
set_option linter.all false
namespace Go.Proofs
open Go.Shelf
def Tryz.TR:Go.Shelf.Ren:=⟨λ|134=>265|129=>187|n=>n,λ|53=>169|3=>3|4=>4|46=>177|5=>5|9=>9|n=>n,λ|n=>n⟩
def Tryz.lays134:Go.Proofs.Lays.n134 al Tryz.TR:={
 mixed:=by kernel_rfl
 f129:=Tryz.func187.trans (congrArg M (by kernel_rfl))
 f134:=Tryz.func265.trans (congrArg M (by kernel_rfl))
 t3:=Tryz.underlying3
 a3:=Tryz.isAgg3
 z3:=Tryz.sizeOf3
 v3:=Tryz.zeroValue3
 t4:=Tryz.underlying4
 a4:=Tryz.isAgg4
 z4:=Tryz.sizeOf4
 v4:=Tryz.zeroValue4
 t5:=Tryz.underlying5
 a5:=Tryz.isAgg5
 z5:=Tryz.sizeOf5
 v5:=Tryz.zeroValue5
 t9:=Tryz.underlying9
 a9:=Tryz.isAgg9
 z9:=Tryz.sizeOf9
 v9:=Tryz.zeroValue9
 t46:=Tryz.underlying177
 a46:=Tryz.isAgg177
 z46:=Tryz.sizeOf177
 v46:=Tryz.zeroValue177
 t53:=Tryz.underlying169
 a53:=Tryz.isAgg169
 z53:=Tryz.sizeOf169
 v53:=Tryz.zeroValue169 }
def Tryz.bits_LeadingZeros64(x:Int) (w:World) (h0:0<=x) (h1:x<=18446744073709551615) :
 Calls al 265 #[.int .u64 x] w λe w'=>e=.returned (.int .i64 (64-(Lib.bitLen x.toNat:Int)))/\w'=w:=Any.bits_LeadingZeros64 Tryz.lays134 x w h0 h1
def Tryz.UR:Go.Shelf.Ren:=⟨λ|144=>263|143=>277|219=>289|217=>308|225=>309|224=>310|267=>311|266=>323|314=>324|n=>n,λ|9=>9|4=>4|3=>3|5=>5|46=>177|146=>447|51=>174|n=>n,λ|1=>3|n=>n⟩
def Tryz.lays144:Go.Proofs.Lays.n144 al Tryz.UR:={
 mixed:=by kernel_rfl
 f143:=Tryz.func277.trans (congrArg M (by kernel_rfl))
 f144:=Tryz.func263.trans (congrArg M (by kernel_rfl))
 f217:=Tryz.func308.trans (congrArg M (by kernel_rfl))
 f219:=Tryz.func289.trans (congrArg M (by kernel_rfl))
 f224:=Tryz.func310.trans (congrArg M (by kernel_rfl))
 f225:=Tryz.func309.trans (congrArg M (by kernel_rfl))
 f266:=Tryz.func323.trans (congrArg M (by kernel_rfl))
 f267:=Tryz.func311.trans (congrArg M (by kernel_rfl))
 f314:=Tryz.func324.trans (congrArg M (by kernel_rfl))
 t3:=Tryz.underlying3
 a3:=Tryz.isAgg3
 z3:=Tryz.sizeOf3
 v3:=Tryz.zeroValue3
 t4:=Tryz.underlying4
 a4:=Tryz.isAgg4
 z4:=Tryz.sizeOf4
 v4:=Tryz.zeroValue4
 t5:=Tryz.underlying5
 a5:=Tryz.isAgg5
 z5:=Tryz.sizeOf5
 v5:=Tryz.zeroValue5
 t9:=Tryz.underlying9
 a9:=Tryz.isAgg9
 z9:=Tryz.sizeOf9
 v9:=Tryz.zeroValue9
 t46:=Tryz.underlying177
 a46:=Tryz.isAgg177
 z46:=Tryz.sizeOf177
 v46:=Tryz.zeroValue177
 t51:=Tryz.underlying174
 a51:=Tryz.isAgg174
 z51:=Tryz.sizeOf174
 v51:=Tryz.zeroValue174
 t146:=Tryz.underlying447
 a146:=Tryz.isAgg447
 z146:=Tryz.sizeOf447
 v146:=Tryz.zeroValue447
 g1:=by kernel_rfl }
open Go.RowKit Go.Lib in
def Tryz.strings_Contains_one(s:ByteArray) (c:UInt8) (w:World) :
 Calls al 263 #[.string s,.string ⟨#[c]⟩] w λe w'=>e=.returned (.bool (D1 (0<=Lib.indexByte s.data.toList c)))/\w'=w:=Any.strings_Contains_one Tryz.lays144 s c w
def Tryz.VR:Go.Shelf.Ren:=⟨λ|189=>122|125=>148|257=>147|128=>186|129=>187|294=>178|295=>179|296=>180|297=>181|298=>182|299=>183|216=>152|300=>184|301=>185|328=>218|329=>219|330=>220|331=>221|332=>222|215=>188|343=>249|n=>n,λ|28=>27|3=>3|46=>177|0=>0|51=>174|53=>169|4=>4|183=>302|182=>301|131=>82|5=>5|9=>9|218=>341|222=>145|228=>375|229=>236|n=>n,λ|n=>n⟩
def Tryz.GY:Go.Proofs.Lays.n189 al Tryz.VR:={
 mixed:=by kernel_rfl
 f125:=Tryz.func148.trans (congrArg M (by kernel_rfl))
 f128:=Tryz.func186.trans (congrArg M (by kernel_rfl))
 f129:=Tryz.func187.trans (congrArg M (by kernel_rfl))
 f189:=Tryz.func122.trans (congrArg M (by kernel_rfl))
 f215:=Tryz.func188.trans (congrArg M (by kernel_rfl))
 f216:=Tryz.func152.trans (congrArg M (by kernel_rfl))
 f257:=Tryz.func147.trans (congrArg M (by kernel_rfl))
 f294:=Tryz.func178.trans (congrArg M (by kernel_rfl))
 f295:=Tryz.func179.trans (congrArg M (by kernel_rfl))
 f296:=Tryz.func180.trans (congrArg M (by kernel_rfl))
 f297:=Tryz.func181.trans (congrArg M (by kernel_rfl))
 f298:=Tryz.func182.trans (congrArg M (by kernel_rfl))
 f299:=Tryz.func183.trans (congrArg M (by kernel_rfl))
 f300:=Tryz.func184.trans (congrArg M (by kernel_rfl))
 f301:=Tryz.func185.trans (congrArg M (by kernel_rfl))
 f328:=Tryz.func218.trans (congrArg M (by kernel_rfl))
 f329:=Tryz.func219.trans (congrArg M (by kernel_rfl))
 f330:=Tryz.func220.trans (congrArg M (by kernel_rfl))
 f331:=Tryz.func221.trans (congrArg M (by kernel_rfl))
 f332:=Tryz.func222.trans (congrArg M (by kernel_rfl))
 f343:=Tryz.func249.trans (congrArg M (by kernel_rfl))
 t0:=Tryz.underlying0
 a0:=Tryz.isAgg0
 z0:=Tryz.sizeOf0
 v0:=Tryz.zeroValue0
 t3:=Tryz.underlying3
 a3:=Tryz.isAgg3
 z3:=Tryz.sizeOf3
 v3:=Tryz.zeroValue3
 t4:=Tryz.underlying4
 a4:=Tryz.isAgg4
 z4:=Tryz.sizeOf4
 v4:=Tryz.zeroValue4
 t5:=Tryz.underlying5
 a5:=Tryz.isAgg5
 z5:=Tryz.sizeOf5
 v5:=Tryz.zeroValue5
 t9:=Tryz.underlying9
 a9:=Tryz.isAgg9
 z9:=Tryz.sizeOf9
 v9:=Tryz.zeroValue9
 t28:=Tryz.underlying27
 a28:=Tryz.isAgg27
 z28:=Tryz.sizeOf27
 v28:=Tryz.zeroValue27
 t46:=Tryz.underlying177
 a46:=Tryz.isAgg177
 z46:=Tryz.sizeOf177
 v46:=Tryz.zeroValue177
 t51:=Tryz.underlying174
 a51:=Tryz.isAgg174
 z51:=Tryz.sizeOf174
 v51:=Tryz.zeroValue174
 t53:=Tryz.underlying169
 a53:=Tryz.isAgg169
 z53:=Tryz.sizeOf169
 v53:=Tryz.zeroValue169
 t131:=Tryz.underlying82
 a131:=Tryz.isAgg82
 z131:=Tryz.sizeOf82
 v131:=Tryz.zeroValue82
 t182:=Tryz.underlying301
 a182:=Tryz.isAgg301
 z182:=Tryz.sizeOf301
 v182:=Tryz.zeroValue301
 t183:=Tryz.underlying302
 a183:=Tryz.isAgg302
 z183:=Tryz.sizeOf302
 v183:=Tryz.zeroValue302
 t218:=Tryz.underlying341
 a218:=Tryz.isAgg341
 z218:=Tryz.sizeOf341
 v218:=Tryz.zeroValue341
 t222:=Tryz.underlying145
 a222:=Tryz.isAgg145
 z222:=Tryz.sizeOf145
 v222:=Tryz.zeroValue145
 t228:=Tryz.underlying375
 a228:=Tryz.isAgg375
 z228:=Tryz.sizeOf375
 v228:=Tryz.zeroValue375
 t229:=Tryz.underlying236
 a229:=Tryz.isAgg236
 z229:=Tryz.sizeOf236
 v229:=Tryz.zeroValue236 }
open Go.Sort Go.RowKit in
def Tryz.slices_Sort_int(FU off cap:Nat) (zs:List Int) (w:World) (hH:Holds (Value.int .i64) w FU off zs.toArray) (hblk:FU<w.heap.size) (hsz:zs.length<4611686018427387904) :
 Calls al 122 #[.slice (M ⟨FU,off,u4⟩) zs.length cap] w λe w'=>
  e=.returned (.tuple #[])/\∃n os,w'=grow (putRow (Value.int .i64) (Sort.ahead w n) FU off (zs.mergeSort λx y=>D1 (x<=y)).toArray) os:=Any.slices_Sort_int Tryz.GY FU off cap zs w hH hblk hsz
def Tryz.WR:Go.Shelf.Ren:=⟨λ|264=>250|n=>n,λ|53=>169|46=>177|n=>n,λ|n=>n⟩
def Tryz.lays264:Go.Proofs.Lays.n264 al Tryz.WR:={
 mixed:=by kernel_rfl
 f264:=Tryz.func250.trans (congrArg M (by kernel_rfl))
 t46:=Tryz.underlying177
 a46:=Tryz.isAgg177
 z46:=Tryz.sizeOf177
 v46:=Tryz.zeroValue177
 t53:=Tryz.underlying169
 a53:=Tryz.isAgg169
 z53:=Tryz.sizeOf169
 v53:=Tryz.zeroValue169 }
open Go.RowKit Go.Lib in
def Tryz.bits_Mul64(x y:Nat) (hx:x<18446744073709551616) (hy:y<18446744073709551616) (w:World) :
 Calls al 250 #[.int .u64 x,.int .u64 y] w λe w'=>e=.returned (.tuple #[.int .u64 ((x*y / 18446744073709551616:Nat):Int),.int .u64 ((x*y % 18446744073709551616:Nat):Int)])/\w'=w:=Any.bits_Mul64 Tryz.lays264 x y hx hy w
def Tryz.PL:Go.Shelf.Ren:=⟨λ|20=>123|n=>n,λ|22=>27|3=>3|4=>4|0=>0|n=>n,λ|n=>n⟩
def Tryz.bN:Go.Proofs.Lays2.n20 al Tryz.PL:={
 mixed:=by kernel_rfl
 f20:=Tryz.func123.trans (congrArg M (by kernel_rfl))
 t0:=Tryz.underlying0
 a0:=Tryz.isAgg0
 z0:=Tryz.sizeOf0
 v0:=Tryz.zeroValue0
 t3:=Tryz.underlying3
 a3:=Tryz.isAgg3
 z3:=Tryz.sizeOf3
 v3:=Tryz.zeroValue3
 t4:=Tryz.underlying4
 a4:=Tryz.isAgg4
 z4:=Tryz.sizeOf4
 v4:=Tryz.zeroValue4
 t22:=Tryz.underlying27
 a22:=Tryz.isAgg27
 z22:=Tryz.sizeOf27
 v22:=Tryz.zeroValue27
 i3:=by kernel_rfl }
open Go.RowKit Go.Lib Go.Sort in
def Tryz.slices_Compact_int(FU off cap:Nat) (zs:List Int) (w:World) (hH:Holds (Value.int .i64) w FU off zs.toArray) (hsz:zs.length<=9223372036854775807) (hcap:zs.length<=cap) :
 Calls al 123 #[.slice (M ⟨FU,off,u4⟩) zs.length cap] w λe w'=>e=.returned (.slice (M ⟨FU,off,u4⟩) (Lib.compact zs).length cap)/\∃q,w'=putRow (Value.int .i64) (Sort.ahead w q) FU off (Lib.compact zs++List.replicate (zs.length-(Lib.compact zs).length) 0).toArray:=Any.slices_Compact_int Tryz.bN FU off cap zs w hH hsz hcap
open Go.RowKit Go.Lib Go.Sort in
def Tryz.slices_Compact_int_empty(a:Option Addr) (cap:Nat) (w:World) :
 Calls al 123 #[.slice a 0 cap] w λe w'=>e=.returned (.slice a 0 cap)/\w'=w:=Any.slices_Compact_int_empty Tryz.bN a cap w
open Go.RowKit Go.Sort in
def Tryz.slices_Sort_int_none(p:Option Addr) (cap:Nat) (w:World) :
 Calls al 122 #[.slice p 0 cap] w λe w'=>e=.returned (.tuple #[])/\w'=w:=Any.slices_Sort_int_none Tryz.GY p cap w
end Go.Proofs
