/-
  Contracts of library functions at this program: no condition.
-/
import Derived.Shelf.Small.Bits
import Derived.Shelf.Small.Wraps
import Derived.Shelf.Strconv.Itoa0
import Derived.Shelf.Strings.Search1
import Derived.Shelf.Strings.Search2
import Derived.Shelf.Strings.Search3
import Derived.Shelf.LaysM
import Derived.Shelf.Strings.Shaped
import Derived.Shelf.Sort.Plain
import Derived.Shelf.Bits.Mul64
import Derived.Shelf.Slices.Turned
import Derived.Ground.Names2Prog
import Derived.Shelf.Slices.CompactI
import Derived.Shelf.Slices.SearchI
import Derived.Shelf.Slices.Cells
import Derived.Shelf.Slices.In.SortNone
import Derived.Shelf.Slices.Empties
import Derived.Test.YtmhfebelfmgckaaGreatDoorProg
open Option renaming some->M,none->q6
open Decidable renaming decide->s5
open Go.Proofs.Tryz renaming prog->al
set_option linter.all false
namespace Go.Proofs
open Go.Shelf
def Tryz.CV:Go.Shelf.Ren:=⟨λ|134=>419|129=>240|n=>n,λ|53=>222|3=>3|4=>4|46=>226|5=>5|9=>9|n=>n,λ|n=>n⟩
def Tryz.lays134:Go.Proofs.Lays.n134 al Tryz.CV:={
 mixed:=by kernel_rfl
 f129:=Tryz.func240.trans (congrArg M (by kernel_rfl))
 f134:=Tryz.func419.trans (congrArg M (by kernel_rfl))
 t3:=Tryz.underlying3
 a3:=Tryz.isAgg3
 z3:=Tryz.sizeOf3
 v3:=Tryz.zeroValue3
 t4:=Tryz.underlying4
 a4:=Tryz.isAgg4
 z4:=Tryz.sizeOf4
 v4:=Tryz.zeroValue4
 t5:=Tryz.underlying5
 a5:=Tryz.isAgg5
 z5:=Tryz.sizeOf5
 v5:=Tryz.zeroValue5
 t9:=Tryz.underlying9
 a9:=Tryz.isAgg9
 z9:=Tryz.sizeOf9
 v9:=Tryz.zeroValue9
 t46:=Tryz.underlying226
 a46:=Tryz.isAgg226
 z46:=Tryz.sizeOf226
 v46:=Tryz.zeroValue226
 t53:=Tryz.underlying222
 a53:=Tryz.isAgg222
 z53:=Tryz.sizeOf222
 v53:=Tryz.zeroValue222 }
def Tryz.bits_LeadingZeros64(x:Int) (w:World) (h0:0<=x) (h1:x<=18446744073709551615) :
 Calls al 419 #[.int .u64 x] w λe w'=>e=.returned (.int .i64 (64-(Lib.bitLen x.toNat:Int)))/\w'=w:=Any.bits_LeadingZeros64 Tryz.lays134 x w h0 h1
def Tryz.DV:Go.Shelf.Ren:=⟨λ|144=>393|143=>421|219=>452|217=>485|225=>486|224=>487|267=>488|266=>503|314=>504|n=>n,λ|9=>9|4=>4|3=>3|5=>5|46=>226|146=>453|51=>276|n=>n,λ|1=>3|n=>n⟩
def Tryz.lays144:Go.Proofs.Lays.n144 al Tryz.DV:={
 mixed:=by kernel_rfl
 f143:=Tryz.func421.trans (congrArg M (by kernel_rfl))
 f144:=Tryz.func393.trans (congrArg M (by kernel_rfl))
 f217:=Tryz.func485.trans (congrArg M (by kernel_rfl))
 f219:=Tryz.func452.trans (congrArg M (by kernel_rfl))
 f224:=Tryz.func487.trans (congrArg M (by kernel_rfl))
 f225:=Tryz.func486.trans (congrArg M (by kernel_rfl))
 f266:=Tryz.func503.trans (congrArg M (by kernel_rfl))
 f267:=Tryz.func488.trans (congrArg M (by kernel_rfl))
 f314:=Tryz.func504.trans (congrArg M (by kernel_rfl))
 t3:=Tryz.underlying3
 a3:=Tryz.isAgg3
 z3:=Tryz.sizeOf3
 v3:=Tryz.zeroValue3
 t4:=Tryz.underlying4
 a4:=Tryz.isAgg4
 z4:=Tryz.sizeOf4
 v4:=Tryz.zeroValue4
 t5:=Tryz.underlying5
 a5:=Tryz.isAgg5
 z5:=Tryz.sizeOf5
 v5:=Tryz.zeroValue5
 t9:=Tryz.underlying9
 a9:=Tryz.isAgg9
 z9:=Tryz.sizeOf9
 v9:=Tryz.zeroValue9
 t46:=Tryz.underlying226
 a46:=Tryz.isAgg226
 z46:=Tryz.sizeOf226
 v46:=Tryz.zeroValue226
 t51:=Tryz.underlying276
 a51:=Tryz.isAgg276
 z51:=Tryz.sizeOf276
 v51:=Tryz.zeroValue276
 t146:=Tryz.underlying453
 a146:=Tryz.isAgg453
 z146:=Tryz.sizeOf453
 v146:=Tryz.zeroValue453
 g1:=by kernel_rfl }
open Go.RowKit Go.Lib in
def Tryz.strings_Contains_one(s:ByteArray) (c:UInt8) (w:World) :
 Calls al 393 #[.string s,.string ⟨#[c]⟩] w λe w'=>e=.returned (.bool (s5 (0<=Lib.indexByte s.data.toList c)))/\w'=w:=Any.strings_Contains_one Tryz.lays144 s c w
def Tryz.EV:Go.Shelf.Ren:=⟨λ|189=>89|125=>171|257=>170|128=>239|129=>240|294=>231|295=>232|296=>233|297=>234|298=>235|299=>236|216=>163|300=>237|301=>238|328=>278|329=>279|330=>280|331=>281|332=>282|215=>228|343=>328|n=>n,λ|28=>30|3=>3|46=>226|0=>0|51=>276|53=>222|4=>4|183=>270|182=>269|131=>153|5=>5|9=>9|218=>307|222=>311|228=>345|229=>119|n=>n,λ|n=>n⟩
def Tryz.B3:Go.Proofs.Lays.n189 al Tryz.EV:={
 mixed:=by kernel_rfl
 f125:=Tryz.func171.trans (congrArg M (by kernel_rfl))
 f128:=Tryz.func239.trans (congrArg M (by kernel_rfl))
 f129:=Tryz.func240.trans (congrArg M (by kernel_rfl))
 f189:=Tryz.func89.trans (congrArg M (by kernel_rfl))
 f215:=Tryz.func228.trans (congrArg M (by kernel_rfl))
 f216:=Tryz.func163.trans (congrArg M (by kernel_rfl))
 f257:=Tryz.func170.trans (congrArg M (by kernel_rfl))
 f294:=Tryz.func231.trans (congrArg M (by kernel_rfl))
 f295:=Tryz.func232.trans (congrArg M (by kernel_rfl))
 f296:=Tryz.func233.trans (congrArg M (by kernel_rfl))
 f297:=Tryz.func234.trans (congrArg M (by kernel_rfl))
 f298:=Tryz.func235.trans (congrArg M (by kernel_rfl))
 f299:=Tryz.func236.trans (congrArg M (by kernel_rfl))
 f300:=Tryz.func237.trans (congrArg M (by kernel_rfl))
 f301:=Tryz.func238.trans (congrArg M (by kernel_rfl))
 f328:=Tryz.func278.trans (congrArg M (by kernel_rfl))
 f329:=Tryz.func279.trans (congrArg M (by kernel_rfl))
 f330:=Tryz.func280.trans (congrArg M (by kernel_rfl))
 f331:=Tryz.func281.trans (congrArg M (by kernel_rfl))
 f332:=Tryz.func282.trans (congrArg M (by kernel_rfl))
 f343:=Tryz.func328.trans (congrArg M (by kernel_rfl))
 t0:=Tryz.underlying0
 a0:=Tryz.isAgg0
 z0:=Tryz.sizeOf0
 v0:=Tryz.zeroValue0
 t3:=Tryz.underlying3
 a3:=Tryz.isAgg3
 z3:=Tryz.sizeOf3
 v3:=Tryz.zeroValue3
 t4:=Tryz.underlying4
 a4:=Tryz.isAgg4
 z4:=Tryz.sizeOf4
 v4:=Tryz.zeroValue4
 t5:=Tryz.underlying5
 a5:=Tryz.isAgg5
 z5:=Tryz.sizeOf5
 v5:=Tryz.zeroValue5
 t9:=Tryz.underlying9
 a9:=Tryz.isAgg9
 z9:=Tryz.sizeOf9
 v9:=Tryz.zeroValue9
 t28:=Tryz.underlying30
 a28:=Tryz.isAgg30
 z28:=Tryz.sizeOf30
 v28:=Tryz.zeroValue30
 t46:=Tryz.underlying226
 a46:=Tryz.isAgg226
 z46:=Tryz.sizeOf226
 v46:=Tryz.zeroValue226
 t51:=Tryz.underlying276
 a51:=Tryz.isAgg276
 z51:=Tryz.sizeOf276
 v51:=Tryz.zeroValue276
 t53:=Tryz.underlying222
 a53:=Tryz.isAgg222
 z53:=Tryz.sizeOf222
 v53:=Tryz.zeroValue222
 t131:=Tryz.underlying153
 a131:=Tryz.isAgg153
 z131:=Tryz.sizeOf153
 v131:=Tryz.zeroValue153
 t182:=Tryz.underlying269
 a182:=Tryz.isAgg269
 z182:=Tryz.sizeOf269
 v182:=Tryz.zeroValue269
 t183:=Tryz.underlying270
 a183:=Tryz.isAgg270
 z183:=Tryz.sizeOf270
 v183:=Tryz.zeroValue270
 t218:=Tryz.underlying307
 a218:=Tryz.isAgg307
 z218:=Tryz.sizeOf307
 v218:=Tryz.zeroValue307
 t222:=Tryz.underlying311
 a222:=Tryz.isAgg311
 z222:=Tryz.sizeOf311
 v222:=Tryz.zeroValue311
 t228:=Tryz.underlying345
 a228:=Tryz.isAgg345
 z228:=Tryz.sizeOf345
 v228:=Tryz.zeroValue345
 t229:=Tryz.underlying119
 a229:=Tryz.isAgg119
 z229:=Tryz.sizeOf119
 v229:=Tryz.zeroValue119 }
open Go.Sort Go.RowKit in
def Tryz.slices_Sort_int(blk off cap:Nat) (zs:List Int) (w:World) (hH:Holds (Value.int .i64) w blk off zs.toArray) (hblk:blk<w.heap.size) (hsz:zs.length<4611686018427387904) :
 Calls al 89 #[.slice (M ⟨blk,off,q6⟩) zs.length cap] w λe w'=>
  e=.returned (.tuple #[])/\∃n os,w'=grow (putRow (Value.int .i64) (Sort.ahead w n) blk off (zs.mergeSort λx y=>s5 (x<=y)).toArray) os:=Any.slices_Sort_int Tryz.B3 blk off cap zs w hH hblk hsz
def Tryz.FV:Go.Shelf.Ren:=⟨λ|264=>387|n=>n,λ|53=>222|46=>226|n=>n,λ|n=>n⟩
def Tryz.lays264:Go.Proofs.Lays.n264 al Tryz.FV:={
 mixed:=by kernel_rfl
 f264:=Tryz.func387.trans (congrArg M (by kernel_rfl))
 t46:=Tryz.underlying226
 a46:=Tryz.isAgg226
 z46:=Tryz.sizeOf226
 v46:=Tryz.zeroValue226
 t53:=Tryz.underlying222
 a53:=Tryz.isAgg222
 z53:=Tryz.sizeOf222
 v53:=Tryz.zeroValue222 }
open Go.RowKit Go.Lib in
def Tryz.bits_Mul64(x y:Nat) (hx:x<18446744073709551616) (hy:y<18446744073709551616) (w:World) :
 Calls al 387 #[.int .u64 x,.int .u64 y] w λe w'=>e=.returned (.tuple #[.int .u64 ((x*y / 18446744073709551616:Nat):Int),.int .u64 ((x*y % 18446744073709551616:Nat):Int)])/\w'=w:=Any.bits_Mul64 Tryz.lays264 x y hx hy w
def Tryz.ZP:Go.Shelf.Ren:=⟨λ|20=>90|n=>n,λ|22=>30|3=>3|4=>4|0=>0|n=>n,λ|n=>n⟩
def Tryz.iR:Go.Proofs.Lays2.n20 al Tryz.ZP:={
 mixed:=by kernel_rfl
 f20:=Tryz.func90.trans (congrArg M (by kernel_rfl))
 t0:=Tryz.underlying0
 a0:=Tryz.isAgg0
 z0:=Tryz.sizeOf0
 v0:=Tryz.zeroValue0
 t3:=Tryz.underlying3
 a3:=Tryz.isAgg3
 z3:=Tryz.sizeOf3
 v3:=Tryz.zeroValue3
 t4:=Tryz.underlying4
 a4:=Tryz.isAgg4
 z4:=Tryz.sizeOf4
 v4:=Tryz.zeroValue4
 t22:=Tryz.underlying30
 a22:=Tryz.isAgg30
 z22:=Tryz.sizeOf30
 v22:=Tryz.zeroValue30
 i3:=by kernel_rfl }
open Go.RowKit Go.Lib Go.Sort in
def Tryz.slices_Compact_int(blk off cap:Nat) (zs:List Int) (w:World) (hH:Holds (Value.int .i64) w blk off zs.toArray) (hsz:zs.length<=9223372036854775807) (hcap:zs.length<=cap) :
 Calls al 90 #[.slice (M ⟨blk,off,q6⟩) zs.length cap] w λe w'=>e=.returned (.slice (M ⟨blk,off,q6⟩) (Lib.compact zs).length cap)/\∃q,w'=putRow (Value.int .i64) (Sort.ahead w q) blk off (Lib.compact zs++List.replicate (zs.length-(Lib.compact zs).length) 0).toArray:=Any.slices_Compact_int Tryz.iR blk off cap zs w hH hsz hcap
open Go.RowKit Go.Lib Go.Sort in
def Tryz.slices_Compact_int_empty(a:Option Addr) (cap:Nat) (w:World) :
 Calls al 90 #[.slice a 0 cap] w λe w'=>e=.returned (.slice a 0 cap)/\w'=w:=Any.slices_Compact_int_empty Tryz.iR a cap w
open Go.RowKit Go.Sort in
def Tryz.slices_Sort_int_none(p:Option Addr) (cap:Nat) (w:World) :
 Calls al 89 #[.slice p 0 cap] w λe w'=>e=.returned (.tuple #[])/\w'=w:=Any.slices_Sort_int_none Tryz.B3 p cap w
end Go.Proofs
