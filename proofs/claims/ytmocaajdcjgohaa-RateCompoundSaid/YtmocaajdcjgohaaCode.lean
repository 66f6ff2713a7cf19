/-
  The functions' code in the engine's form, written by a program off the translation; the kernel compares it with what comp gives.
-/
import Derived.Test.YtmocaajdcjgohaaProg
import Derived.Test.YtmocaajdcjgohaaTmX
import Derived.KernelRfl
namespace Go.Proofs.Ytmocaajdcjgohaa
open Go.Tm
set_option maxRecDepth 20000
/-- gosem.cut.init -/
def k2c : C :=
  .reg [.call (some 0) none (.func 1) []]
def k2 : Fun := ⟨1, [], k2c⟩
theorem k2_ok : compF Try.prog 2 = some k2 := by kernel_rfl
theorem k2_name : ((Try.prog.funcs[2]?).map fun fn => fn.name == "runtime.NumGoroutine") = some false := by kernel_rfl
/-- guerdon/guerdonlaw03.RateFromRatio -/
def k3c : C :=
  .seq (
   .reg [.op (some 6) none (.mv (.const (.bool false)))]) (
  .seq (
   .reg [.op (some 12) none (.mv (.tmp 0)),
     .op (some 13) none (.mv (.tmp 1)),
     .op (some 14) none (.mv (.tmp 2)),
     .call (some 15) none (.func 9) [(.tmp 12), (.tmp 13), (.tmp 14)],
     .op (some 11) none (.mv (.tmp 15)),
     .op (some 16) none (.extract (.tmp 11) 0),
     .op (some 17) none (.extract (.tmp 11) 1),
     .op (some 7) none (.mv (.tmp 16)),
     .op (some 8) none (.mv (.tmp 17))]) (
  .seq (
   .reg [.op (some 19) none (.mv (.tmp 0)),
     .op (some 20) none (.mv (.tmp 1)),
     .op (some 21) none (.mv (.tmp 2)),
     .call (some 22) none (.func 10) [(.tmp 19), (.tmp 20), (.tmp 21)],
     .op (some 18) none (.mv (.tmp 22)),
     .op (some 23) none (.extract (.tmp 18) 0),
     .op (some 24) none (.extract (.tmp 18) 1),
     .op (some 9) none (.mv (.tmp 23)),
     .op (some 10) none (.mv (.tmp 24))]) (
  .seq (
   .reg [.op (some 25) none (.mv (.tmp 7)),
     .op (some 26) none (.mv (.tmp 9)),
     .op (some 27) none (.bin .eql (.tmp 25) (.tmp 26)),
     .op (some 28) none (.mv (.tmp 27)),
     .op (some 29) (some (28, true)) (.mv (.tmp 8)),
     .op (some 30) (some (28, true)) (.mv (.tmp 10)),
     .op (some 31) (some (28, true)) (.bin .eql (.tmp 29) (.tmp 30)),
     .op (some 32) none (.pick (.tmp 28) (.tmp 31) (.const (.bool false))),
     .op (some 33) none (.mv (.tmp 32)),
     .call (some 34) (some (33, true)) (.func 11) [],
     .op (some 35) none (.pick (.tmp 33) (.tmp 34) (.const (.bool false))),
     .op (some 6) none (.mv (.tmp 35))]) (
  .ret))))
def k3 : Fun := ⟨36, [.tmp 6], k3c⟩
theorem k3_ok : compF Try.prog 3 = some k3 := by kernel_rfl
theorem k3_name : ((Try.prog.funcs[3]?).map fun fn => fn.name == "runtime.NumGoroutine") = some false := by kernel_rfl
/-- guerdon/guerdonlaw03.RateProrate -/
def k4c : C :=
  .seq (
   .reg [.op (some 8) none (.mv (.const (.bool false)))]) (
  .seq (
   .reg [.op (some 14) none (.mv (.tmp 0)),
     .op (some 15) none (.mv (.tmp 1)),
     .op (some 16) none (.mv (.tmp 2)),
     .op (some 17) none (.mv (.tmp 3)),
     .call (some 18) none (.func 12) [(.tmp 14), (.tmp 15), (.tmp 16), (.tmp 17)],
     .op (some 13) none (.mv (.tmp 18)),
     .op (some 19) none (.extract (.tmp 13) 0),
     .op (some 20) none (.extract (.tmp 13) 1),
     .op (some 9) none (.mv (.tmp 19)),
     .op (some 10) none (.mv (.tmp 20))]) (
  .seq (
   .reg [.op (some 22) none (.mv (.tmp 0)),
     .op (some 23) none (.mv (.tmp 1)),
     .op (some 24) none (.mv (.tmp 2)),
     .op (some 25) none (.mv (.tmp 3)),
     .call (some 26) none (.func 13) [(.tmp 22), (.tmp 23), (.tmp 24), (.tmp 25)],
     .op (some 21) none (.mv (.tmp 26)),
     .op (some 27) none (.extract (.tmp 21) 0),
     .op (some 28) none (.extract (.tmp 21) 1),
     .op (some 11) none (.mv (.tmp 27)),
     .op (some 12) none (.mv (.tmp 28))]) (
  .seq (
   .reg [.op (some 29) none (.mv (.tmp 9)),
     .op (some 30) none (.mv (.tmp 11)),
     .op (some 31) none (.bin .eql (.tmp 29) (.tmp 30)),
     .op (some 32) none (.mv (.tmp 31)),
     .op (some 33) (some (32, true)) (.mv (.tmp 10)),
     .op (some 34) (some (32, true)) (.mv (.tmp 12)),
     .op (some 35) (some (32, true)) (.bin .eql (.tmp 33) (.tmp 34)),
     .op (some 36) none (.pick (.tmp 32) (.tmp 35) (.const (.bool false))),
     .op (some 37) none (.mv (.tmp 36)),
     .call (some 38) (some (37, true)) (.func 11) [],
     .op (some 39) none (.pick (.tmp 37) (.tmp 38) (.const (.bool false))),
     .op (some 8) none (.mv (.tmp 39))]) (
  .ret))))
def k4 : Fun := ⟨40, [.tmp 8], k4c⟩
theorem k4_ok : compF Try.prog 4 = some k4 := by kernel_rfl
theorem k4_name : ((Try.prog.funcs[4]?).map fun fn => fn.name == "runtime.NumGoroutine") = some false := by kernel_rfl
/-- guerdon/guerdonlaw03.RateCompound -/
def k5c : C :=
  .seq (
   .reg [.op (some 8) none (.mv (.const (.bool false)))]) (
  .seq (
   .reg [.op (some 14) none (.mv (.tmp 0)),
     .op (some 15) none (.mv (.tmp 1)),
     .op (some 16) none (.mv (.tmp 2)),
     .op (some 17) none (.mv (.tmp 3)),
     .call (some 18) none (.func 14) [(.tmp 14), (.tmp 15), (.tmp 16), (.tmp 17)],
     .op (some 13) none (.mv (.tmp 18)),
     .op (some 19) none (.extract (.tmp 13) 0),
     .op (some 20) none (.extract (.tmp 13) 1),
     .op (some 9) none (.mv (.tmp 19)),
     .op (some 10) none (.mv (.tmp 20))]) (
  .seq (
   .reg [.op (some 22) none (.mv (.tmp 0)),
     .op (some 23) none (.mv (.tmp 1)),
     .op (some 24) none (.mv (.tmp 2)),
     .op (some 25) none (.mv (.tmp 3)),
     .call (some 26) none (.func 15) [(.tmp 22), (.tmp 23), (.tmp 24), (.tmp 25)],
     .op (some 21) none (.mv (.tmp 26)),
     .op (some 27) none (.extract (.tmp 21) 0),
     .op (some 28) none (.extract (.tmp 21) 1),
     .op (some 11) none (.mv (.tmp 27)),
     .op (some 12) none (.mv (.tmp 28))]) (
  .seq (
   .reg [.op (some 29) none (.mv (.tmp 9)),
     .op (some 30) none (.mv (.tmp 11)),
     .op (some 31) none (.bin .eql (.tmp 29) (.tmp 30)),
     .op (some 32) none (.mv (.tmp 31)),
     .op (some 33) (some (32, true)) (.mv (.tmp 10)),
     .op (some 34) (some (32, true)) (.mv (.tmp 12)),
     .op (some 35) (some (32, true)) (.bin .eql (.tmp 33) (.tmp 34)),
     .op (some 36) none (.pick (.tmp 32) (.tmp 35) (.const (.bool false))),
     .op (some 37) none (.mv (.tmp 36)),
     .call (some 38) (some (37, true)) (.func 11) [],
     .op (some 39) none (.pick (.tmp 37) (.tmp 38) (.const (.bool false))),
     .op (some 8) none (.mv (.tmp 39))]) (
  .ret))))
def k5 : Fun := ⟨40, [.tmp 8], k5c⟩
theorem k5_ok : compF Try.prog 5 = some k5 := by kernel_rfl
theorem k5_name : ((Try.prog.funcs[5]?).map fun fn => fn.name == "runtime.NumGoroutine") = some false := by kernel_rfl
/-- guerdon/guerdonlaw03.RateProrateBound -/
def k6c : C :=
  .seq (
   .reg [.op (some 8) none (.mv (.const (.bool false)))]) (
  .seq (
   .seq (
    .reg [.op (some 15) none (.mv (.tmp 0)),
      .op (some 16) none (.bin .lss (.tmp 15) (.const (.int .i64 (0)))),
      .op (some 17) none (.mv (.tmp 16)),
      .op (some 18) (some (17, false)) (.mv (.tmp 0)),
      .op (some 19) (some (17, false)) (.bin .gtr (.tmp 18) (.const (.int .i64 (1000000000000000)))),
      .op (some 20) none (.pick (.tmp 17) (.const (.bool true)) (.tmp 19)),
      .op (some 21) none (.mv (.tmp 20)),
      .op (some 22) (some (21, false)) (.mv (.tmp 3)),
      .op (some 23) (some (21, false)) (.bin .lss (.tmp 22) (.const (.int .i64 (1)))),
      .op (some 24) none (.pick (.tmp 21) (.const (.bool true)) (.tmp 23)),
      .op (some 25) none (.mv (.tmp 24)),
      .op (some 26) (some (25, false)) (.mv (.tmp 3)),
      .op (some 27) (some (25, false)) (.bin .gtr (.tmp 26) (.const (.int .i64 (109573)))),
      .op (some 28) none (.pick (.tmp 25) (.const (.bool true)) (.tmp 27)),
      .op (some 29) none (.mv (.tmp 28)),
      .op (some 30) (some (29, false)) (.mv (.tmp 1)),
      .op (some 31) (some (29, false)) (.bin .lss (.tmp 30) (.const (.int .i64 (0)))),
      .op (some 32) none (.pick (.tmp 29) (.const (.bool true)) (.tmp 31)),
      .op (some 33) none (.mv (.tmp 32)),
      .op (some 34) (some (33, false)) (.mv (.tmp 1)),
      .op (some 35) (some (33, false)) (.mv (.tmp 3)),
      .op (some 36) (some (33, false)) (.bin .gtr (.tmp 34) (.tmp 35)),
      .op (some 37) none (.pick (.tmp 33) (.const (.bool true)) (.tmp 36)),
      .op (some 38) none (.mv (.tmp 37)),
      .op (some 39) (some (38, false)) (.mv (.tmp 2)),
      .op (some 40) (some (38, false)) (.bin .lss (.tmp 39) (.const (.int .i64 (0)))),
      .op (some 41) none (.pick (.tmp 38) (.const (.bool true)) (.tmp 40)),
      .op (some 42) none (.mv (.tmp 41)),
      .op (some 43) (some (42, false)) (.mv (.tmp 2)),
      .op (some 44) (some (42, false)) (.mv (.tmp 3)),
      .op (some 45) (some (42, false)) (.mv (.tmp 1)),
      .op (some 46) (some (42, false)) (.bin .sub (.tmp 44) (.tmp 45)),
      .op (some 47) (some (42, false)) (.bin .gtr (.tmp 43) (.tmp 46)),
      .op (some 48) none (.pick (.tmp 42) (.const (.bool true)) (.tmp 47))]) (
   .cond (.tmp 48) (
    .seq (
     .reg [.call (some 49) none (.func 11) [],
       .op (some 8) none (.mv (.tmp 49))]) (
    .ret)) (
    .skip))) (
  .seq (
   .reg [.op (some 51) none (.mv (.tmp 0)),
     .op (some 52) none (.mv (.tmp 1)),
     .op (some 53) none (.mv (.tmp 3)),
     .call (some 54) none (.func 12) [(.tmp 51), (.tmp 52), (.tmp 53), (.const (.int .i64 (0)))],
     .op (some 50) none (.mv (.tmp 54)),
     .op (some 55) none (.extract (.tmp 50) 0),
     .op (some 56) none (.extract (.tmp 50) 1),
     .op (some 9) none (.mv (.tmp 55)),
     .op (some 10) none (.mv (.tmp 56))]) (
  .seq (
   .reg [.op (some 58) none (.mv (.tmp 0)),
     .op (some 59) none (.mv (.tmp 2)),
     .op (some 60) none (.mv (.tmp 3)),
     .call (some 61) none (.func 12) [(.tmp 58), (.tmp 59), (.tmp 60), (.const (.int .i64 (0)))],
     .op (some 57) none (.mv (.tmp 61)),
     .op (some 62) none (.extract (.tmp 57) 0),
     .op (some 63) none (.extract (.tmp 57) 1),
     .op (some 11) none (.mv (.tmp 62)),
     .op (some 12) none (.mv (.tmp 63))]) (
  .seq (
   .reg [.op (some 65) none (.mv (.tmp 0)),
     .op (some 66) none (.mv (.tmp 1)),
     .op (some 67) none (.mv (.tmp 2)),
     .op (some 68) none (.bin .add (.tmp 66) (.tmp 67)),
     .op (some 69) none (.mv (.tmp 3)),
     .call (some 70) none (.func 12) [(.tmp 65), (.tmp 68), (.tmp 69), (.const (.int .i64 (0)))],
     .op (some 64) none (.mv (.tmp 70)),
     .op (some 71) none (.extract (.tmp 64) 0),
     .op (some 72) none (.extract (.tmp 64) 1),
     .op (some 13) none (.mv (.tmp 71)),
     .op (some 14) none (.mv (.tmp 72))]) (
  .seq (
   .seq (
    .reg [.op (some 73) none (.mv (.tmp 10)),
      .op (some 74) none (.bin .neq (.tmp 73) (.const (.int .i64 (0)))),
      .op (some 75) none (.mv (.tmp 74)),
      .op (some 76) (some (75, false)) (.mv (.tmp 12)),
      .op (some 77) (some (75, false)) (.bin .neq (.tmp 76) (.const (.int .i64 (0)))),
      .op (some 78) none (.pick (.tmp 75) (.const (.bool true)) (.tmp 77)),
      .op (some 79) none (.mv (.tmp 78)),
      .op (some 80) (some (79, false)) (.mv (.tmp 14)),
      .op (some 81) (some (79, false)) (.bin .neq (.tmp 80) (.const (.int .i64 (0)))),
      .op (some 82) none (.pick (.tmp 79) (.const (.bool true)) (.tmp 81))]) (
   .cond (.tmp 82) (
    .seq (
     .reg [.op (some 8) none (.mv (.const (.bool false)))]) (
    .ret)) (
    .skip))) (
  .seq (
   .reg [.op (some 83) none (.mv (.tmp 9)),
     .op (some 84) none (.mv (.tmp 11)),
     .op (some 85) none (.bin .add (.tmp 83) (.tmp 84)),
     .op (some 86) none (.mv (.tmp 13)),
     .op (some 87) none (.bin .leq (.tmp 85) (.tmp 86)),
     .op (some 88) none (.mv (.tmp 87)),
     .op (some 89) (some (88, true)) (.mv (.tmp 13)),
     .op (some 90) (some (88, true)) (.mv (.tmp 9)),
     .op (some 91) (some (88, true)) (.mv (.tmp 11)),
     .op (some 92) (some (88, true)) (.bin .add (.tmp 90) (.tmp 91)),
     .op (some 93) (some (88, true)) (.bin .add (.tmp 92) (.const (.int .i64 (1)))),
     .op (some 94) (some (88, true)) (.bin .leq (.tmp 89) (.tmp 93)),
     .op (some 95) none (.pick (.tmp 88) (.tmp 94) (.const (.bool false))),
     .op (some 96) none (.mv (.tmp 95)),
     .op (some 97) (some (96, true)) (.mv (.tmp 13)),
     .op (some 98) (some (96, true)) (.mv (.tmp 0)),
     .op (some 99) (some (96, true)) (.bin .leq (.tmp 97) (.tmp 98)),
     .op (some 100) none (.pick (.tmp 96) (.tmp 99) (.const (.bool false))),
     .op (some 101) none (.mv (.tmp 100)),
     .op (some 102) (some (101, true)) (.mv (.tmp 9)),
     .op (some 103) (some (101, true)) (.bin .geq (.tmp 102) (.const (.int .i64 (0)))),
     .op (some 104) none (.pick (.tmp 101) (.tmp 103) (.const (.bool false))),
     .op (some 105) none (.mv (.tmp 104)),
     .op (some 106) (some (105, true)) (.mv (.tmp 11)),
     .op (some 107) (some (105, true)) (.bin .geq (.tmp 106) (.const (.int .i64 (0)))),
     .op (some 108) none (.pick (.tmp 105) (.tmp 107) (.const (.bool false))),
     .op (some 109) none (.mv (.tmp 108)),
     .call (some 110) (some (109, true)) (.func 11) [],
     .op (some 111) none (.pick (.tmp 109) (.tmp 110) (.const (.bool false))),
     .op (some 8) none (.mv (.tmp 111))]) (
  .ret)))))))
def k6 : Fun := ⟨112, [.tmp 8], k6c⟩
theorem k6_ok : compF Try.prog 6 = some k6 := by kernel_rfl
theorem k6_name : ((Try.prog.funcs[6]?).map fun fn => fn.name == "runtime.NumGoroutine") = some false := by kernel_rfl
/-- guerdon/guerdonlaw03.RateNegation -/
def k7c : C :=
  .seq (
   .reg [.op (some 6) none (.mv (.const (.bool false)))]) (
  .seq (
   .seq (
    .reg [.op (some 14) none (.mv (.tmp 0)),
      .op (some 15) none (.bin .lss (.tmp 14) (.const (.int .i64 (-1000000000000000)))),
      .op (some 16) none (.mv (.tmp 15)),
      .op (some 17) (some (16, false)) (.mv (.tmp 0)),
      .op (some 18) (some (16, false)) (.bin .gtr (.tmp 17) (.const (.int .i64 (1000000000000000)))),
      .op (some 19) none (.pick (.tmp 16) (.const (.bool true)) (.tmp 18)),
      .op (some 20) none (.mv (.tmp 19)),
      .op (some 21) (some (20, false)) (.mv (.tmp 1)),
      .op (some 22) (some (20, false)) (.bin .lss (.tmp 21) (.const (.int .i64 (-1000000000000000)))),
      .op (some 23) none (.pick (.tmp 20) (.const (.bool true)) (.tmp 22)),
      .op (some 24) none (.mv (.tmp 23)),
      .op (some 25) (some (24, false)) (.mv (.tmp 1)),
      .op (some 26) (some (24, false)) (.bin .gtr (.tmp 25) (.const (.int .i64 (1000000000000000)))),
      .op (some 27) none (.pick (.tmp 24) (.const (.bool true)) (.tmp 26)),
      .op (some 28) none (.mv (.tmp 27)),
      .op (some 29) (some (28, false)) (.mv (.tmp 2)),
      .op (some 30) (some (28, false)) (.bin .lss (.tmp 29) (.const (.int .i64 (0)))),
      .op (some 31) none (.pick (.tmp 28) (.const (.bool true)) (.tmp 30)),
      .op (some 32) none (.mv (.tmp 31)),
      .op (some 33) (some (32, false)) (.mv (.tmp 2)),
      .op (some 34) (some (32, false)) (.bin .gtr (.tmp 33) (.const (.int .i64 (5)))),
      .op (some 35) none (.pick (.tmp 32) (.const (.bool true)) (.tmp 34))]) (
   .cond (.tmp 35) (
    .seq (
     .reg [.call (some 36) none (.func 11) [],
       .op (some 6) none (.mv (.tmp 36))]) (
    .ret)) (
    .skip))) (
  .seq (
   .reg [.op (some 37) none (.mv (.tmp 2)),
     .op (some 7) none (.mv (.tmp 37))]) (
  .seq (
   .seq (
    .reg [.op (some 38) none (.mv (.tmp 2)),
      .op (some 39) none (.bin .eql (.tmp 38) (.const (.int .i64 (0))))]) (
   .cond (.tmp 39) (
    .reg [.op (some 7) none (.mv (.const (.int .i64 (1))))]) (
    .skip))) (
  .seq (
   .seq (
    .reg [.op (some 40) none (.mv (.tmp 2)),
      .op (some 41) none (.bin .eql (.tmp 40) (.const (.int .i64 (1))))]) (
   .cond (.tmp 41) (
    .reg [.op (some 7) none (.mv (.const (.int .i64 (0))))]) (
    .skip))) (
  .seq (
   .reg [.op (some 43) none (.mv (.tmp 0)),
     .op (some 44) none (.mv (.tmp 1)),
     .op (some 45) none (.mv (.tmp 2)),
     .call (some 46) none (.func 9) [(.tmp 43), (.tmp 44), (.tmp 45)],
     .op (some 42) none (.mv (.tmp 46)),
     .op (some 47) none (.extract (.tmp 42) 0),
     .op (some 48) none (.extract (.tmp 42) 1),
     .op (some 8) none (.mv (.tmp 47)),
     .op (some 9) none (.mv (.tmp 48))]) (
  .seq (
   .reg [.op (some 50) none (.mv (.tmp 0)),
     .op (some 51) none (.un .neg (.tmp 50)),
     .op (some 52) none (.mv (.tmp 1)),
     .op (some 53) none (.mv (.tmp 7)),
     .call (some 54) none (.func 9) [(.tmp 51), (.tmp 52), (.tmp 53)],
     .op (some 49) none (.mv (.tmp 54)),
     .op (some 55) none (.extract (.tmp 49) 0),
     .op (some 56) none (.extract (.tmp 49) 1),
     .op (some 10) none (.mv (.tmp 55)),
     .op (some 11) none (.mv (.tmp 56))]) (
  .seq (
   .reg [.op (some 58) none (.mv (.tmp 0)),
     .op (some 59) none (.mv (.tmp 1)),
     .op (some 60) none (.un .neg (.tmp 59)),
     .op (some 61) none (.mv (.tmp 7)),
     .call (some 62) none (.func 9) [(.tmp 58), (.tmp 60), (.tmp 61)],
     .op (some 57) none (.mv (.tmp 62)),
     .op (some 63) none (.extract (.tmp 57) 0),
     .op (some 64) none (.extract (.tmp 57) 1),
     .op (some 12) none (.mv (.tmp 63)),
     .op (some 13) none (.mv (.tmp 64))]) (
  .seq (
   .reg [.op (some 65) none (.mv (.tmp 8)),
     .op (some 66) none (.mv (.tmp 10)),
     .op (some 67) none (.un .neg (.tmp 66)),
     .op (some 68) none (.bin .eql (.tmp 65) (.tmp 67)),
     .op (some 69) none (.mv (.tmp 68)),
     .op (some 70) (some (69, true)) (.mv (.tmp 8)),
     .op (some 71) (some (69, true)) (.mv (.tmp 12)),
     .op (some 72) (some (69, true)) (.un .neg (.tmp 71)),
     .op (some 73) (some (69, true)) (.bin .eql (.tmp 70) (.tmp 72)),
     .op (some 74) none (.pick (.tmp 69) (.tmp 73) (.const (.bool false))),
     .op (some 75) none (.mv (.tmp 74)),
     .op (some 76) (some (75, true)) (.mv (.tmp 9)),
     .op (some 77) (some (75, true)) (.mv (.tmp 11)),
     .op (some 78) (some (75, true)) (.bin .eql (.tmp 76) (.tmp 77)),
     .op (some 79) none (.pick (.tmp 75) (.tmp 78) (.const (.bool false))),
     .op (some 80) none (.mv (.tmp 79)),
     .op (some 81) (some (80, true)) (.mv (.tmp 9)),
     .op (some 82) (some (80, true)) (.mv (.tmp 13)),
     .op (some 83) (some (80, true)) (.bin .eql (.tmp 81) (.tmp 82)),
     .op (some 84) none (.pick (.tmp 80) (.tmp 83) (.const (.bool false))),
     .op (some 85) none (.mv (.tmp 84)),
     .call (some 86) (some (85, true)) (.func 11) [],
     .op (some 87) none (.pick (.tmp 85) (.tmp 86) (.const (.bool false))),
     .op (some 6) none (.mv (.tmp 87))]) (
  .ret)))))))))
def k7 : Fun := ⟨88, [.tmp 6], k7c⟩
theorem k7_ok : compF Try.prog 7 = some k7 := by kernel_rfl
theorem k7_name : ((Try.prog.funcs[7]?).map fun fn => fn.name == "runtime.NumGoroutine") = some false := by kernel_rfl
/-- guerdon/guerdonlaw03.RateMul -/
def k8c : C :=
  .seq (
   .reg [.op (some 6) none (.mv (.const (.bool false)))]) (
  .seq (
   .reg [.op (some 16) none (.mv (.tmp 0)),
     .op (some 17) none (.mv (.tmp 1)),
     .op (some 18) none (.mv (.tmp 2)),
     .call (some 19) none (.func 16) [(.tmp 16), (.tmp 17), (.tmp 18)],
     .op (some 15) none (.mv (.tmp 19)),
     .op (some 20) none (.extract (.tmp 15) 0),
     .op (some 21) none (.extract (.tmp 15) 1),
     .op (some 7) none (.mv (.tmp 20)),
     .op (some 8) none (.mv (.tmp 21))]) (
  .seq (
   .reg [.op (some 23) none (.mv (.tmp 0)),
     .op (some 24) none (.mv (.tmp 1)),
     .op (some 25) none (.mv (.tmp 2)),
     .call (some 26) none (.func 17) [(.tmp 23), (.tmp 24), (.tmp 25)],
     .op (some 22) none (.mv (.tmp 26)),
     .op (some 27) none (.extract (.tmp 22) 0),
     .op (some 28) none (.extract (.tmp 22) 1),
     .op (some 9) none (.mv (.tmp 27)),
     .op (some 10) none (.mv (.tmp 28))]) (
  .seq (
   .reg [.op (some 30) none (.mv (.tmp 0)),
     .op (some 31) none (.mv (.tmp 1)),
     .op (some 32) none (.mv (.tmp 2)),
     .call (some 33) none (.func 18) [(.tmp 30), (.tmp 31), (.tmp 32)],
     .op (some 29) none (.mv (.tmp 33)),
     .op (some 34) none (.extract (.tmp 29) 0),
     .op (some 35) none (.extract (.tmp 29) 1),
     .op (some 11) none (.mv (.tmp 34)),
     .op (some 12) none (.mv (.tmp 35))]) (
  .seq (
   .reg [.op (some 37) none (.mv (.tmp 0)),
     .op (some 38) none (.mv (.tmp 1)),
     .op (some 39) none (.mv (.tmp 2)),
     .call (some 40) none (.func 19) [(.tmp 37), (.tmp 38), (.tmp 39)],
     .op (some 36) none (.mv (.tmp 40)),
     .op (some 41) none (.extract (.tmp 36) 0),
     .op (some 42) none (.extract (.tmp 36) 1),
     .op (some 13) none (.mv (.tmp 41)),
     .op (some 14) none (.mv (.tmp 42))]) (
  .seq (
   .reg [.op (some 43) none (.mv (.tmp 7)),
     .op (some 44) none (.mv (.tmp 9)),
     .op (some 45) none (.bin .eql (.tmp 43) (.tmp 44)),
     .op (some 46) none (.mv (.tmp 45)),
     .op (some 47) (some (46, true)) (.mv (.tmp 8)),
     .op (some 48) (some (46, true)) (.mv (.tmp 10)),
     .op (some 49) (some (46, true)) (.bin .eql (.tmp 47) (.tmp 48)),
     .op (some 50) none (.pick (.tmp 46) (.tmp 49) (.const (.bool false))),
     .op (some 51) none (.mv (.tmp 50)),
     .op (some 52) (some (51, true)) (.mv (.tmp 11)),
     .op (some 53) (some (51, true)) (.mv (.tmp 13)),
     .op (some 54) (some (51, true)) (.bin .eql (.tmp 52) (.tmp 53)),
     .op (some 55) none (.pick (.tmp 51) (.tmp 54) (.const (.bool false))),
     .op (some 56) none (.mv (.tmp 55)),
     .op (some 57) (some (56, true)) (.mv (.tmp 12)),
     .op (some 58) (some (56, true)) (.mv (.tmp 14)),
     .op (some 59) (some (56, true)) (.bin .eql (.tmp 57) (.tmp 58)),
     .op (some 60) none (.pick (.tmp 56) (.tmp 59) (.const (.bool false))),
     .op (some 61) none (.mv (.tmp 60)),
     .call (some 62) (some (61, true)) (.func 11) [],
     .op (some 63) none (.pick (.tmp 61) (.tmp 62) (.const (.bool false))),
     .op (some 6) none (.mv (.tmp 63))]) (
  .ret))))))
def k8 : Fun := ⟨64, [.tmp 6], k8c⟩
theorem k8_ok : compF Try.prog 8 = some k8 := by kernel_rfl
theorem k8_name : ((Try.prog.funcs[8]?).map fun fn => fn.name == "runtime.NumGoroutine") = some false := by kernel_rfl
/-- guerdon/rate.FromRatio -/
def k9c : C :=
  .seq (
   .reg [.op (some 6) none (.mv (.const (.int .i64 (0)))),
     .op (some 7) none (.mv (.const (.int .i64 (0))))]) (
  .seq (
   .seq (
    .reg [.op (some 15) none (.mv (.tmp 2)),
      .call (some 16) none (.func 20) [(.tmp 15)],
      .op (some 17) none (.un .not (.tmp 16))]) (
   .cond (.tmp 17) (
    .seq (
     .reg [.op (some 6) none (.mv (.const (.int .i64 (0)))),
       .op (some 7) none (.mv (.const (.int .i64 (1))))]) (
    .ret)) (
    .skip))) (
  .seq (
   .seq (
    .reg [.op (some 18) none (.mv (.tmp 1)),
      .op (some 19) none (.bin .eql (.tmp 18) (.const (.int .i64 (0))))]) (
   .cond (.tmp 19) (
    .seq (
     .reg [.op (some 6) none (.mv (.const (.int .i64 (0)))),
       .op (some 7) none (.mv (.const (.int .i64 (12))))]) (
    .ret)) (
    .skip))) (
  .seq (
   .seq (
    .reg [.op (some 20) none (.mv (.tmp 0)),
      .call (some 21) none (.func 21) [(.tmp 20), (.const (.int .i64 (1000000000000000)))],
      .op (some 22) none (.mv (.tmp 21)),
      .op (some 23) (some (22, false)) (.mv (.tmp 1)),
      .call (some 24) (some (22, false)) (.func 21) [(.tmp 23), (.const (.int .i64 (1000000000000000)))],
      .op (some 25) none (.pick (.tmp 22) (.const (.bool true)) (.tmp 24))]) (
   .cond (.tmp 25) (
    .seq (
     .reg [.op (some 6) none (.mv (.const (.int .i64 (0)))),
       .op (some 7) none (.mv (.const (.int .i64 (3))))]) (
    .ret)) (
    .skip))) (
  .seq (
   .reg [.op (some 26) none (.mv (.tmp 0)),
     .op (some 27) none (.bin .lss (.tmp 26) (.const (.int .i64 (0)))),
     .op (some 28) none (.mv (.tmp 1)),
     .op (some 29) none (.bin .lss (.tmp 28) (.const (.int .i64 (0)))),
     .op (some 30) none (.beq true (.tmp 27) (.tmp 29)),
     .op (some 8) none (.mv (.tmp 30))]) (
  .seq (
   .reg [.op (some 31) none (.mv (.tmp 1)),
     .op (some 32) none (.mv (.tmp 1)),
     .op (some 33) none (.un .neg (.tmp 32)),
     .op (some 34) none (.mm true [(.tmp 31), (.tmp 33)]),
     .op (some 35) none (.conv .u64 (.tmp 34)),
     .op (some 9) none (.mv (.tmp 35))]) (
  .seq (
   .reg [.op (some 37) none (.mv (.tmp 0)),
     .op (some 38) none (.mv (.tmp 0)),
     .op (some 39) none (.un .neg (.tmp 38)),
     .op (some 40) none (.mm true [(.tmp 37), (.tmp 39)]),
     .op (some 41) none (.conv .u64 (.tmp 40)),
     .call (some 42) none (.func 22) [(.tmp 41), (.const (.int .u64 (1000000)))],
     .op (some 36) none (.mv (.tmp 42)),
     .op (some 43) none (.extract (.tmp 36) 0),
     .op (some 44) none (.extract (.tmp 36) 1),
     .op (some 10) none (.mv (.tmp 43)),
     .op (some 11) none (.mv (.tmp 44))]) (
  .seq (
   .seq (
    .reg [.op (some 45) none (.mv (.tmp 10)),
      .op (some 46) none (.mv (.tmp 9)),
      .op (some 47) none (.bin .geq (.tmp 45) (.tmp 46))]) (
   .cond (.tmp 47) (
    .seq (
     .reg [.op (some 6) none (.mv (.const (.int .i64 (0)))),
       .op (some 7) none (.mv (.const (.int .i64 (3))))]) (
    .ret)) (
    .skip))) (
  .seq (
   .reg [.op (some 49) none (.mv (.tmp 10)),
     .op (some 50) none (.mv (.tmp 11)),
     .op (some 51) none (.mv (.tmp 9)),
     .call (some 52) none (.func 23) [(.tmp 49), (.tmp 50), (.tmp 51)],
     .op (some 48) none (.mv (.tmp 52)),
     .op (some 53) none (.extract (.tmp 48) 0),
     .op (some 54) none (.extract (.tmp 48) 1),
     .op (some 12) none (.mv (.tmp 53)),
     .op (some 13) none (.mv (.tmp 54))]) (
  .seq (
   .seq (
    .reg [.op (some 55) none (.mv (.tmp 12)),
      .op (some 56) none (.bin .gtr (.tmp 55) (.const (.int .u64 (1000000000))))]) (
   .cond (.tmp 56) (
    .seq (
     .reg [.op (some 6) none (.mv (.const (.int .i64 (0)))),
       .op (some 7) none (.mv (.const (.int .i64 (3))))]) (
    .ret)) (
    .skip))) (
  .seq (
   .reg [.op (some 57) none (.mv (.tmp 12)),
     .op (some 58) none (.conv .i64 (.tmp 57)),
     .op (some 14) none (.mv (.tmp 58))]) (
  .seq (
   .seq (
    .reg [.op (some 59) none (.mv (.tmp 12)),
      .op (some 60) none (.mv (.tmp 13)),
      .op (some 61) none (.mv (.tmp 9)),
      .op (some 62) none (.mv (.tmp 8)),
      .op (some 63) none (.mv (.tmp 2)),
      .call (some 64) none (.func 24) [(.tmp 59), (.tmp 60), (.tmp 61), (.tmp 62), (.tmp 63)]]) (
   .cond (.tmp 64) (
    .reg [.op (some 65) none (.mv (.tmp 14)),
      .op (some 66) none (.bin .add (.tmp 65) (.const (.int .i64 (1)))),
      .op (some 14) none (.mv (.tmp 66))]) (
    .skip))) (
  .seq (
   .seq (
    .reg [.op (some 67) none (.mv (.tmp 14)),
      .op (some 68) none (.bin .gtr (.tmp 67) (.const (.int .i64 (1000000000))))]) (
   .cond (.tmp 68) (
    .seq (
     .reg [.op (some 6) none (.mv (.const (.int .i64 (0)))),
       .op (some 7) none (.mv (.const (.int .i64 (3))))]) (
    .ret)) (
    .skip))) (
  .seq (
   .seq (
    .reg [.op (some 69) none (.mv (.tmp 8))]) (
   .cond (.tmp 69) (
    .reg [.op (some 70) none (.mv (.tmp 14)),
      .op (some 71) none (.un .neg (.tmp 70)),
      .op (some 14) none (.mv (.tmp 71))]) (
    .skip))) (
  .seq (
   .reg [.op (some 72) none (.mv (.tmp 14)),
     .op (some 6) none (.mv (.tmp 72)),
     .op (some 7) none (.mv (.const (.int .i64 (0))))]) (
  .ret)))))))))))))))
def k9 : Fun := ⟨73, [.tmp 6, .tmp 7], k9c⟩
theorem k9_ok : compF Try.prog 9 = some k9 := by kernel_rfl
theorem k9_name : ((Try.prog.funcs[9]?).map fun fn => fn.name == "runtime.NumGoroutine") = some false := by kernel_rfl
/-- guerdon/guerdonref03.FromRatio -/
def k10c : C :=
  .seq (
   .reg [.op (some 6) none (.mv (.const (.int .i64 (0)))),
     .op (some 7) none (.mv (.const (.int .i64 (0))))]) (
  .seq (
   .seq (
    .reg [.op (some 13) none (.mv (.tmp 2)),
      .op (some 14) none (.bin .lss (.tmp 13) (.const (.int .i64 (0)))),
      .op (some 15) none (.mv (.tmp 14)),
      .op (some 16) (some (15, false)) (.mv (.tmp 2)),
      .op (some 17) (some (15, false)) (.bin .gtr (.tmp 16) (.const (.int .i64 (5)))),
      .op (some 18) none (.pick (.tmp 15) (.const (.bool true)) (.tmp 17))]) (
   .cond (.tmp 18) (
    .seq (
     .reg [.op (some 6) none (.mv (.const (.int .i64 (0)))),
       .op (some 7) none (.mv (.const (.int .i64 (1))))]) (
    .ret)) (
    .skip))) (
  .seq (
   .seq (
    .reg [.op (some 19) none (.mv (.tmp 1)),
      .op (some 20) none (.bin .eql (.tmp 19) (.const (.int .i64 (0))))]) (
   .cond (.tmp 20) (
    .seq (
     .reg [.op (some 6) none (.mv (.const (.int .i64 (0)))),
       .op (some 7) none (.mv (.const (.int .i64 (12))))]) (
    .ret)) (
    .skip))) (
  .seq (
   .seq (
    .reg [.op (some 21) none (.mv (.tmp 0)),
      .call (some 22) none (.func 25) [(.tmp 21), (.const (.int .i64 (1000000000000000)))],
      .op (some 23) none (.mv (.tmp 22)),
      .op (some 24) (some (23, false)) (.mv (.tmp 1)),
      .call (some 25) (some (23, false)) (.func 25) [(.tmp 24), (.const (.int .i64 (1000000000000000)))],
      .op (some 26) none (.pick (.tmp 23) (.const (.bool true)) (.tmp 25))]) (
   .cond (.tmp 26) (
    .seq (
     .reg [.op (some 6) none (.mv (.const (.int .i64 (0)))),
       .op (some 7) none (.mv (.const (.int .i64 (3))))]) (
    .ret)) (
    .skip))) (
  .seq (
   .seq (
    .reg [.op (some 27) none (.mv (.tmp 1)),
      .op (some 28) none (.bin .lss (.tmp 27) (.const (.int .i64 (0))))]) (
   .cond (.tmp 28) (
    .seq (
     .reg [.op (some 29) none (.mv (.tmp 0)),
       .op (some 30) none (.bin .sub (.const (.int .i64 (0))) (.tmp 29)),
       .op (some 0) none (.mv (.tmp 30))]) (
    .reg [.op (some 31) none (.mv (.tmp 1)),
      .op (some 32) none (.bin .sub (.const (.int .i64 (0))) (.tmp 31)),
      .op (some 1) none (.mv (.tmp 32))])) (
    .skip))) (
  .seq (
   .reg [.op (some 34) none (.mv (.tmp 0)),
     .op (some 35) none (.mv (.tmp 1)),
     .call (some 36) none (.func 26) [(.tmp 34), (.tmp 35)],
     .op (some 33) none (.mv (.tmp 36)),
     .op (some 37) none (.extract (.tmp 33) 0),
     .op (some 38) none (.extract (.tmp 33) 1),
     .op (some 8) none (.mv (.tmp 37)),
     .op (some 9) none (.mv (.tmp 38))]) (
  .seq (
   .seq (
    .reg [.op (some 39) none (.mv (.tmp 8)),
      .call (some 40) none (.func 25) [(.tmp 39), (.const (.int .i64 (1001)))]]) (
   .cond (.tmp 40) (
    .seq (
     .reg [.op (some 6) none (.mv (.const (.int .i64 (0)))),
       .op (some 7) none (.mv (.const (.int .i64 (3))))]) (
    .ret)) (
    .skip))) (
  .seq (
   .reg [.op (some 41) none (.mv (.tmp 9)),
     .op (some 42) none (.bin .mul (.tmp 41) (.const (.int .i64 (1000)))),
     .op (some 43) none (.mv (.tmp 1)),
     .op (some 44) none (.bin .quo (.tmp 42) (.tmp 43)),
     .op (some 10) none (.mv (.tmp 44))]) (
  .seq (
   .reg [.op (some 45) none (.mv (.tmp 9)),
     .op (some 46) none (.bin .mul (.tmp 45) (.const (.int .i64 (1000)))),
     .op (some 47) none (.mv (.tmp 1)),
     .op (some 48) none (.bin .rem (.tmp 46) (.tmp 47)),
     .op (some 9) none (.mv (.tmp 48))]) (
  .seq (
   .reg [.op (some 49) none (.mv (.tmp 9)),
     .op (some 50) none (.bin .mul (.tmp 49) (.const (.int .i64 (1000)))),
     .op (some 51) none (.mv (.tmp 1)),
     .op (some 52) none (.bin .quo (.tmp 50) (.tmp 51)),
     .op (some 11) none (.mv (.tmp 52))]) (
  .seq (
   .reg [.op (some 53) none (.mv (.tmp 9)),
     .op (some 54) none (.bin .mul (.tmp 53) (.const (.int .i64 (1000)))),
     .op (some 55) none (.mv (.tmp 1)),
     .op (some 56) none (.bin .rem (.tmp 54) (.tmp 55)),
     .op (some 9) none (.mv (.tmp 56))]) (
  .seq (
   .reg [.op (some 57) none (.mv (.tmp 8)),
     .op (some 58) none (.bin .mul (.tmp 57) (.const (.int .i64 (1000000)))),
     .op (some 59) none (.mv (.tmp 10)),
     .op (some 60) none (.bin .mul (.tmp 59) (.const (.int .i64 (1000)))),
     .op (some 61) none (.bin .add (.tmp 58) (.tmp 60)),
     .op (some 62) none (.mv (.tmp 11)),
     .op (some 63) none (.bin .add (.tmp 61) (.tmp 62)),
     .op (some 64) none (.mv (.tmp 9)),
     .op (some 65) none (.mv (.tmp 1)),
     .op (some 66) none (.mv (.tmp 2)),
     .call (some 67) none (.func 27) [(.tmp 63), (.tmp 64), (.tmp 65), (.tmp 66)],
     .op (some 12) none (.mv (.tmp 67))]) (
  .seq (
   .seq (
    .reg [.op (some 68) none (.mv (.tmp 12)),
      .call (some 69) none (.func 25) [(.tmp 68), (.const (.int .i64 (1000000000)))]]) (
   .cond (.tmp 69) (
    .seq (
     .reg [.op (some 6) none (.mv (.const (.int .i64 (0)))),
       .op (some 7) none (.mv (.const (.int .i64 (3))))]) (
    .ret)) (
    .skip))) (
  .seq (
   .reg [.op (some 70) none (.mv (.tmp 12)),
     .op (some 6) none (.mv (.tmp 70)),
     .op (some 7) none (.mv (.const (.int .i64 (0))))]) (
  .ret))))))))))))))
def k10 : Fun := ⟨71, [.tmp 6, .tmp 7], k10c⟩
theorem k10_ok : compF Try.prog 10 = some k10 := by kernel_rfl
theorem k10_name : ((Try.prog.funcs[10]?).map fun fn => fn.name == "runtime.NumGoroutine") = some false := by kernel_rfl
/-- guerdon/guerdonlaw03.awake -/
def k11c : C :=
  .seq (
   .reg [.op (some 0) none (.mv (.const (.bool false)))]) (
  .seq (
   .reg [.call (some 10) none (.func 9) [(.const (.int .i64 (1))), (.const (.int .i64 (3))), (.const (.int .i64 (4)))],
     .op (some 9) none (.mv (.tmp 10)),
     .op (some 11) none (.extract (.tmp 9) 0),
     .op (some 12) none (.extract (.tmp 9) 1),
     .op (some 1) none (.mv (.tmp 11)),
     .op (some 2) none (.mv (.tmp 12))]) (
  .seq (
   .reg [.call (some 14) none (.func 9) [(.const (.int .i64 (1))), (.const (.int .i64 (-3))), (.const (.int .i64 (0)))],
     .op (some 13) none (.mv (.tmp 14)),
     .op (some 15) none (.extract (.tmp 13) 0),
     .op (some 16) none (.extract (.tmp 13) 1),
     .op (some 3) none (.mv (.tmp 15)),
     .op (some 4) none (.mv (.tmp 16))]) (
  .seq (
   .reg [.call (some 18) none (.func 12) [(.const (.int .i64 (10000))), (.const (.int .i64 (10))), (.const (.int .i64 (31))), (.const (.int .i64 (4)))],
     .op (some 17) none (.mv (.tmp 18)),
     .op (some 19) none (.extract (.tmp 17) 0),
     .op (some 20) none (.extract (.tmp 17) 1),
     .op (some 5) none (.mv (.tmp 19)),
     .op (some 6) none (.mv (.tmp 20))]) (
  .seq (
   .reg [.call (some 22) none (.func 14) [(.const (.int .i64 (10000))), (.const (.int .i64 (100000))), (.const (.int .i64 (2))), (.const (.int .i64 (4)))],
     .op (some 21) none (.mv (.tmp 22)),
     .op (some 23) none (.extract (.tmp 21) 0),
     .op (some 24) none (.extract (.tmp 21) 1),
     .op (some 7) none (.mv (.tmp 23)),
     .op (some 8) none (.mv (.tmp 24))]) (
  .seq (
   .reg [.op (some 25) none (.mv (.tmp 1)),
     .op (some 26) none (.bin .eql (.tmp 25) (.const (.int .i64 (333333)))),
     .op (some 27) none (.mv (.tmp 26)),
     .op (some 28) (some (27, true)) (.mv (.tmp 2)),
     .op (some 29) (some (27, true)) (.bin .eql (.tmp 28) (.const (.int .i64 (0)))),
     .op (some 30) none (.pick (.tmp 27) (.tmp 29) (.const (.bool false))),
     .op (some 31) none (.mv (.tmp 30)),
     .op (some 32) (some (31, true)) (.mv (.tmp 3)),
     .op (some 33) (some (31, true)) (.bin .eql (.tmp 32) (.const (.int .i64 (-333334)))),
     .op (some 34) none (.pick (.tmp 31) (.tmp 33) (.const (.bool false))),
     .op (some 35) none (.mv (.tmp 34)),
     .op (some 36) (some (35, true)) (.mv (.tmp 4)),
     .op (some 37) (some (35, true)) (.bin .eql (.tmp 36) (.const (.int .i64 (0)))),
     .op (some 38) none (.pick (.tmp 35) (.tmp 37) (.const (.bool false))),
     .op (some 39) none (.mv (.tmp 38)),
     .op (some 40) (some (39, true)) (.mv (.tmp 5)),
     .op (some 41) (some (39, true)) (.bin .eql (.tmp 40) (.const (.int .i64 (3226)))),
     .op (some 42) none (.pick (.tmp 39) (.tmp 41) (.const (.bool false))),
     .op (some 43) none (.mv (.tmp 42)),
     .op (some 44) (some (43, true)) (.mv (.tmp 6)),
     .op (some 45) (some (43, true)) (.bin .eql (.tmp 44) (.const (.int .i64 (0)))),
     .op (some 46) none (.pick (.tmp 43) (.tmp 45) (.const (.bool false))),
     .op (some 47) none (.mv (.tmp 46)),
     .op (some 48) (some (47, true)) (.mv (.tmp 7)),
     .op (some 49) (some (47, true)) (.bin .eql (.tmp 48) (.const (.int .i64 (12100)))),
     .op (some 50) none (.pick (.tmp 47) (.tmp 49) (.const (.bool false))),
     .op (some 51) none (.mv (.tmp 50)),
     .op (some 52) (some (51, true)) (.mv (.tmp 8)),
     .op (some 53) (some (51, true)) (.bin .eql (.tmp 52) (.const (.int .i64 (0)))),
     .op (some 54) none (.pick (.tmp 51) (.tmp 53) (.const (.bool false))),
     .op (some 0) none (.mv (.tmp 54))]) (
  .ret))))))
def k11 : Fun := ⟨55, [.tmp 0], k11c⟩
theorem k11_ok : compF Try.prog 11 = some k11 := by kernel_rfl
theorem k11_name : ((Try.prog.funcs[11]?).map fun fn => fn.name == "runtime.NumGoroutine") = some false := by kernel_rfl
/-- guerdon/rate.Prorate -/
def k12c : C :=
  .seq (
   .reg [.op (some 8) none (.mv (.const (.int .i64 (0)))),
     .op (some 9) none (.mv (.const (.int .i64 (0))))]) (
  .seq (
   .seq (
    .reg [.op (some 10) none (.mv (.tmp 3)),
      .call (some 11) none (.func 20) [(.tmp 10)],
      .op (some 12) none (.un .not (.tmp 11))]) (
   .cond (.tmp 12) (
    .seq (
     .reg [.op (some 8) none (.mv (.const (.int .i64 (0)))),
       .op (some 9) none (.mv (.const (.int .i64 (1))))]) (
    .ret)) (
    .skip))) (
  .seq (
   .seq (
    .reg [.op (some 13) none (.mv (.tmp 2)),
      .op (some 14) none (.bin .lss (.tmp 13) (.const (.int .i64 (1))))]) (
   .cond (.tmp 14) (
    .seq (
     .reg [.op (some 8) none (.mv (.const (.int .i64 (0)))),
       .op (some 9) none (.mv (.const (.int .i64 (12))))]) (
    .ret)) (
    .skip))) (
  .seq (
   .seq (
    .reg [.op (some 15) none (.mv (.tmp 2)),
      .op (some 16) none (.bin .gtr (.tmp 15) (.const (.int .i64 (109573)))),
      .op (some 17) none (.mv (.tmp 16)),
      .op (some 18) (some (17, false)) (.mv (.tmp 1)),
      .op (some 19) (some (17, false)) (.bin .lss (.tmp 18) (.const (.int .i64 (0)))),
      .op (some 20) none (.pick (.tmp 17) (.const (.bool true)) (.tmp 19)),
      .op (some 21) none (.mv (.tmp 20)),
      .op (some 22) (some (21, false)) (.mv (.tmp 1)),
      .op (some 23) (some (21, false)) (.mv (.tmp 2)),
      .op (some 24) (some (21, false)) (.bin .gtr (.tmp 22) (.tmp 23)),
      .op (some 25) none (.pick (.tmp 21) (.const (.bool true)) (.tmp 24)),
      .op (some 26) none (.mv (.tmp 25)),
      .op (some 27) (some (26, false)) (.mv (.tmp 0)),
      .call (some 28) (some (26, false)) (.func 21) [(.tmp 27), (.const (.int .i64 (1000000000000000)))],
      .op (some 29) none (.pick (.tmp 26) (.const (.bool true)) (.tmp 28))]) (
   .cond (.tmp 29) (
    .seq (
     .reg [.op (some 8) none (.mv (.const (.int .i64 (0)))),
       .op (some 9) none (.mv (.const (.int .i64 (3))))]) (
    .ret)) (
    .skip))) (
  .seq (
   .reg [.op (some 30) none (.mv (.tmp 0)),
     .op (some 31) none (.mv (.tmp 1)),
     .op (some 32) none (.mv (.tmp 2)),
     .op (some 33) none (.mv (.tmp 3)),
     .call (some 34) none (.func 28) [(.tmp 30), (.tmp 31), (.tmp 32), (.tmp 33)],
     .op (some 35) none (.extract (.tmp 34) 0),
     .op (some 36) none (.extract (.tmp 34) 1),
     .op (some 8) none (.mv (.tmp 35)),
     .op (some 9) none (.mv (.tmp 36))]) (
  .ret)))))
def k12 : Fun := ⟨37, [.tmp 8, .tmp 9], k12c⟩
theorem k12_ok : compF Try.prog 12 = some k12 := by kernel_rfl
theorem k12_name : ((Try.prog.funcs[12]?).map fun fn => fn.name == "runtime.NumGoroutine") = some false := by kernel_rfl
/-- guerdon/guerdonref03.Prorate -/
def k13c : C :=
  .seq (
   .reg [.op (some 8) none (.mv (.const (.int .i64 (0)))),
     .op (some 9) none (.mv (.const (.int .i64 (0))))]) (
  .seq (
   .seq (
    .reg [.op (some 10) none (.mv (.tmp 3)),
      .op (some 11) none (.bin .lss (.tmp 10) (.const (.int .i64 (0)))),
      .op (some 12) none (.mv (.tmp 11)),
      .op (some 13) (some (12, false)) (.mv (.tmp 3)),
      .op (some 14) (some (12, false)) (.bin .gtr (.tmp 13) (.const (.int .i64 (5)))),
      .op (some 15) none (.pick (.tmp 12) (.const (.bool true)) (.tmp 14))]) (
   .cond (.tmp 15) (
    .seq (
     .reg [.op (some 8) none (.mv (.const (.int .i64 (0)))),
       .op (some 9) none (.mv (.const (.int .i64 (1))))]) (
    .ret)) (
    .skip))) (
  .seq (
   .seq (
    .reg [.op (some 16) none (.mv (.tmp 2)),
      .op (some 17) none (.bin .lss (.tmp 16) (.const (.int .i64 (1))))]) (
   .cond (.tmp 17) (
    .seq (
     .reg [.op (some 8) none (.mv (.const (.int .i64 (0)))),
       .op (some 9) none (.mv (.const (.int .i64 (12))))]) (
    .ret)) (
    .skip))) (
  .seq (
   .seq (
    .reg [.op (some 18) none (.mv (.tmp 2)),
      .op (some 19) none (.bin .gtr (.tmp 18) (.const (.int .i64 (109573)))),
      .op (some 20) none (.mv (.tmp 19)),
      .op (some 21) (some (20, false)) (.mv (.tmp 1)),
      .op (some 22) (some (20, false)) (.bin .lss (.tmp 21) (.const (.int .i64 (0)))),
      .op (some 23) none (.pick (.tmp 20) (.const (.bool true)) (.tmp 22)),
      .op (some 24) none (.mv (.tmp 23)),
      .op (some 25) (some (24, false)) (.mv (.tmp 1)),
      .op (some 26) (some (24, false)) (.mv (.tmp 2)),
      .op (some 27) (some (24, false)) (.bin .gtr (.tmp 25) (.tmp 26)),
      .op (some 28) none (.pick (.tmp 24) (.const (.bool true)) (.tmp 27)),
      .op (some 29) none (.mv (.tmp 28)),
      .op (some 30) (some (29, false)) (.mv (.tmp 0)),
      .call (some 31) (some (29, false)) (.func 25) [(.tmp 30), (.const (.int .i64 (1000000000000000)))],
      .op (some 32) none (.pick (.tmp 29) (.const (.bool true)) (.tmp 31))]) (
   .cond (.tmp 32) (
    .seq (
     .reg [.op (some 8) none (.mv (.const (.int .i64 (0)))),
       .op (some 9) none (.mv (.const (.int .i64 (3))))]) (
    .ret)) (
    .skip))) (
  .seq (
   .reg [.op (some 33) none (.mv (.tmp 0)),
     .op (some 34) none (.mv (.tmp 1)),
     .op (some 35) none (.mv (.tmp 2)),
     .op (some 36) none (.mv (.tmp 3)),
     .call (some 37) none (.func 29) [(.tmp 33), (.tmp 34), (.tmp 35), (.tmp 36)],
     .op (some 38) none (.extract (.tmp 37) 0),
     .op (some 39) none (.extract (.tmp 37) 1),
     .op (some 8) none (.mv (.tmp 38)),
     .op (some 9) none (.mv (.tmp 39))]) (
  .ret)))))
def k13 : Fun := ⟨40, [.tmp 8, .tmp 9], k13c⟩
theorem k13_ok : compF Try.prog 13 = some k13 := by kernel_rfl
theorem k13_name : ((Try.prog.funcs[13]?).map fun fn => fn.name == "runtime.NumGoroutine") = some false := by kernel_rfl
/-- guerdon/rate.Compound -/
def k14c : C :=
  .seq (
   .reg [.op (some 8) none (.mv (.const (.int .i64 (0)))),
     .op (some 9) none (.mv (.const (.int .i64 (0))))]) (
  .seq (
   .seq (
    .reg [.op (some 12) none (.mv (.tmp 3)),
      .call (some 13) none (.func 20) [(.tmp 12)],
      .op (some 14) none (.un .not (.tmp 13))]) (
   .cond (.tmp 14) (
    .seq (
     .reg [.op (some 8) none (.mv (.const (.int .i64 (0)))),
       .op (some 9) none (.mv (.const (.int .i64 (1))))]) (
    .ret)) (
    .skip))) (
  .seq (
   .seq (
    .reg [.op (some 15) none (.mv (.tmp 2)),
      .op (some 16) none (.bin .lss (.tmp 15) (.const (.int .i64 (0)))),
      .op (some 17) none (.mv (.tmp 16)),
      .op (some 18) (some (17, false)) (.mv (.tmp 2)),
      .op (some 19) (some (17, false)) (.bin .gtr (.tmp 18) (.const (.int .i64 (120)))),
      .op (some 20) none (.pick (.tmp 17) (.const (.bool true)) (.tmp 19)),
      .op (some 21) none (.mv (.tmp 20)),
      .op (some 22) (some (21, false)) (.mv (.tmp 0)),
      .call (some 23) (some (21, false)) (.func 21) [(.tmp 22), (.const (.int .i64 (1000000000000000)))],
      .op (some 24) none (.pick (.tmp 21) (.const (.bool true)) (.tmp 23)),
      .op (some 25) none (.mv (.tmp 24)),
      .op (some 26) (some (25, false)) (.mv (.tmp 1)),
      .call (some 27) (some (25, false)) (.func 21) [(.tmp 26), (.const (.int .i64 (1000000000)))],
      .op (some 28) none (.pick (.tmp 25) (.const (.bool true)) (.tmp 27))]) (
   .cond (.tmp 28) (
    .seq (
     .reg [.op (some 8) none (.mv (.const (.int .i64 (0)))),
       .op (some 9) none (.mv (.const (.int .i64 (3))))]) (
    .ret)) (
    .skip))) (
  .seq (
   .seq (
    .reg [.op (some 29) none (.mv (.tmp 2)),
      .op (some 30) none (.mv (.const (.int .i64 (0))))]) (
   .block 0 (
    .loop (
     .seq (
      .reg [.op (some 31) none (.bin .lss (.tmp 30) (.tmp 29))]) (
     .seq (
      .cond (.tmp 31) (
       .skip) (
       .exit 0)) (
     .seq (
      .block 1 (
       .seq (
        .reg [.op (some 33) none (.mv (.tmp 0)),
          .op (some 34) none (.mv (.tmp 1)),
          .op (some 35) none (.mv (.tmp 3)),
          .call (some 36) none (.func 18) [(.tmp 33), (.tmp 34), (.tmp 35)],
          .op (some 32) none (.mv (.tmp 36)),
          .op (some 37) none (.extract (.tmp 32) 0),
          .op (some 38) none (.extract (.tmp 32) 1),
          .op (some 10) none (.mv (.tmp 37)),
          .op (some 11) none (.mv (.tmp 38))]) (
       .seq (
        .seq (
         .reg [.op (some 39) none (.mv (.tmp 11)),
           .op (some 40) none (.bin .neq (.tmp 39) (.const (.int .i64 (0))))]) (
        .cond (.tmp 40) (
         .seq (
          .reg [.op (some 8) none (.mv (.const (.int .i64 (0)))),
            .op (some 9) none (.mv (.const (.int .i64 (3))))]) (
         .ret)) (
         .skip))) (
       .seq (
        .reg [.op (some 41) none (.mv (.tmp 0)),
          .op (some 42) none (.mv (.tmp 10)),
          .op (some 43) none (.bin .add (.tmp 41) (.tmp 42)),
          .op (some 0) none (.mv (.tmp 43))]) (
       .seq (
        .reg [.op (some 44) none (.mv (.tmp 0)),
          .call (some 45) none (.func 21) [(.tmp 44), (.const (.int .i64 (1000000000000000)))]]) (
       .cond (.tmp 45) (
        .seq (
         .reg [.op (some 8) none (.mv (.const (.int .i64 (0)))),
           .op (some 9) none (.mv (.const (.int .i64 (3))))]) (
        .ret)) (
        .skip))))))) (
     .reg [.op (some 46) none (.bin .add (.tmp 30) (.const (.int .i64 (1)))),
       .op (some 30) none (.mv (.tmp 46))]))))))) (
  .seq (
   .reg [.op (some 47) none (.mv (.tmp 0)),
     .op (some 8) none (.mv (.tmp 47)),
     .op (some 9) none (.mv (.const (.int .i64 (0))))]) (
  .ret)))))
def k14 : Fun := ⟨48, [.tmp 8, .tmp 9], k14c⟩
theorem k14_ok : compF Try.prog 14 = some k14 := by kernel_rfl
theorem k14_name : ((Try.prog.funcs[14]?).map fun fn => fn.name == "runtime.NumGoroutine") = some false := by kernel_rfl
/-- guerdon/guerdonref03.Compound -/
def k15c : C :=
  .seq (
   .reg [.op (some 8) none (.mv (.const (.int .i64 (0)))),
     .op (some 9) none (.mv (.const (.int .i64 (0))))]) (
  .seq (
   .seq (
    .reg [.op (some 13) none (.mv (.tmp 3)),
      .op (some 14) none (.bin .lss (.tmp 13) (.const (.int .i64 (0)))),
      .op (some 15) none (.mv (.tmp 14)),
      .op (some 16) (some (15, false)) (.mv (.tmp 3)),
      .op (some 17) (some (15, false)) (.bin .gtr (.tmp 16) (.const (.int .i64 (5)))),
      .op (some 18) none (.pick (.tmp 15) (.const (.bool true)) (.tmp 17))]) (
   .cond (.tmp 18) (
    .seq (
     .reg [.op (some 8) none (.mv (.const (.int .i64 (0)))),
       .op (some 9) none (.mv (.const (.int .i64 (1))))]) (
    .ret)) (
    .skip))) (
  .seq (
   .seq (
    .reg [.op (some 19) none (.mv (.tmp 2)),
      .op (some 20) none (.bin .lss (.tmp 19) (.const (.int .i64 (0)))),
      .op (some 21) none (.mv (.tmp 20)),
      .op (some 22) (some (21, false)) (.mv (.tmp 2)),
      .op (some 23) (some (21, false)) (.bin .gtr (.tmp 22) (.const (.int .i64 (120)))),
      .op (some 24) none (.pick (.tmp 21) (.const (.bool true)) (.tmp 23)),
      .op (some 25) none (.mv (.tmp 24)),
      .op (some 26) (some (25, false)) (.mv (.tmp 0)),
      .call (some 27) (some (25, false)) (.func 25) [(.tmp 26), (.const (.int .i64 (1000000000000000)))],
      .op (some 28) none (.pick (.tmp 25) (.const (.bool true)) (.tmp 27)),
      .op (some 29) none (.mv (.tmp 28)),
      .op (some 30) (some (29, false)) (.mv (.tmp 1)),
      .call (some 31) (some (29, false)) (.func 25) [(.tmp 30), (.const (.int .i64 (1000000000)))],
      .op (some 32) none (.pick (.tmp 29) (.const (.bool true)) (.tmp 31))]) (
   .cond (.tmp 32) (
    .seq (
     .reg [.op (some 8) none (.mv (.const (.int .i64 (0)))),
       .op (some 9) none (.mv (.const (.int .i64 (3))))]) (
    .ret)) (
    .skip))) (
  .seq (
   .seq (
    .reg [.op (some 10) none (.mv (.const (.int .i64 (0))))]) (
   .block 0 (
    .loop (
     .seq (
      .seq (
       .reg [.op (some 33) none (.mv (.tmp 10)),
         .op (some 34) none (.mv (.tmp 2)),
         .op (some 35) none (.bin .lss (.tmp 33) (.tmp 34))]) (
      .cond (.tmp 35) (
       .skip) (
       .exit 0))) (
     .seq (
      .block 1 (
       .seq (
        .reg [.op (some 39) none (.mv (.tmp 0)),
          .op (some 40) none (.mv (.tmp 1)),
          .op (some 41) none (.mv (.tmp 3)),
          .call (some 42) none (.func 19) [(.tmp 39), (.tmp 40), (.tmp 41)],
          .op (some 38) none (.mv (.tmp 42)),
          .op (some 43) none (.extract (.tmp 38) 0),
          .op (some 44) none (.extract (.tmp 38) 1),
          .op (some 11) none (.mv (.tmp 43)),
          .op (some 12) none (.mv (.tmp 44))]) (
       .seq (
        .seq (
         .reg [.op (some 45) none (.mv (.tmp 12)),
           .op (some 46) none (.bin .neq (.tmp 45) (.const (.int .i64 (0))))]) (
        .cond (.tmp 46) (
         .seq (
          .reg [.op (some 47) none (.mv (.tmp 12)),
            .op (some 8) none (.mv (.const (.int .i64 (0)))),
            .op (some 9) none (.mv (.tmp 47))]) (
         .ret)) (
         .skip))) (
       .seq (
        .reg [.op (some 48) none (.mv (.tmp 0)),
          .op (some 49) none (.mv (.tmp 11)),
          .op (some 50) none (.bin .add (.tmp 48) (.tmp 49)),
          .op (some 0) none (.mv (.tmp 50))]) (
       .seq (
        .reg [.op (some 51) none (.mv (.tmp 0)),
          .call (some 52) none (.func 25) [(.tmp 51), (.const (.int .i64 (1000000000000000)))]]) (
       .cond (.tmp 52) (
        .seq (
         .reg [.op (some 8) none (.mv (.const (.int .i64 (0)))),
           .op (some 9) none (.mv (.const (.int .i64 (3))))]) (
        .ret)) (
        .skip))))))) (
     .reg [.op (some 36) none (.mv (.tmp 10)),
       .op (some 37) none (.bin .add (.tmp 36) (.const (.int .i64 (1)))),
       .op (some 10) none (.mv (.tmp 37))])))))) (
  .seq (
   .reg [.op (some 53) none (.mv (.tmp 0)),
     .op (some 8) none (.mv (.tmp 53)),
     .op (some 9) none (.mv (.const (.int .i64 (0))))]) (
  .ret)))))
def k15 : Fun := ⟨54, [.tmp 8, .tmp 9], k15c⟩
theorem k15_ok : compF Try.prog 15 = some k15 := by kernel_rfl
theorem k15_name : ((Try.prog.funcs[15]?).map fun fn => fn.name == "runtime.NumGoroutine") = some false := by kernel_rfl
/-- guerdon/rate.Mul -/
def k16c : C :=
  .seq (
   .reg [.op (some 6) none (.mv (.const (.int .i64 (0)))),
     .op (some 7) none (.mv (.const (.int .i64 (0))))]) (
  .seq (
   .seq (
    .reg [.op (some 10) none (.mv (.tmp 2)),
      .call (some 11) none (.func 20) [(.tmp 10)],
      .op (some 12) none (.un .not (.tmp 11))]) (
   .cond (.tmp 12) (
    .seq (
     .reg [.op (some 6) none (.mv (.const (.int .i64 (0)))),
       .op (some 7) none (.mv (.const (.int .i64 (1))))]) (
    .ret)) (
    .skip))) (
  .seq (
   .seq (
    .reg [.op (some 13) none (.mv (.tmp 0)),
      .call (some 14) none (.func 21) [(.tmp 13), (.const (.int .i64 (1000000000)))],
      .op (some 15) none (.mv (.tmp 14)),
      .op (some 16) (some (15, false)) (.mv (.tmp 1)),
      .call (some 17) (some (15, false)) (.func 21) [(.tmp 16), (.const (.int .i64 (1000000000)))],
      .op (some 18) none (.pick (.tmp 15) (.const (.bool true)) (.tmp 17))]) (
   .cond (.tmp 18) (
    .seq (
     .reg [.op (some 6) none (.mv (.const (.int .i64 (0)))),
       .op (some 7) none (.mv (.const (.int .i64 (3))))]) (
    .ret)) (
    .skip))) (
  .seq (
   .reg [.op (some 20) none (.mv (.tmp 0)),
     .op (some 21) none (.mv (.tmp 1)),
     .op (some 22) none (.bin .mul (.tmp 20) (.tmp 21)),
     .op (some 23) none (.mv (.tmp 2)),
     .call (some 24) none (.func 30) [(.tmp 22), (.const (.int .i64 (1000000))), (.tmp 23)],
     .op (some 19) none (.mv (.tmp 24)),
     .op (some 25) none (.extract (.tmp 19) 0),
     .op (some 26) none (.extract (.tmp 19) 1),
     .op (some 8) none (.mv (.tmp 25)),
     .op (some 9) none (.mv (.tmp 26))]) (
  .seq (
   .seq (
    .reg [.op (some 27) none (.mv (.tmp 9)),
      .op (some 28) none (.bin .neq (.tmp 27) (.const (.int .i64 (0))))]) (
   .cond (.tmp 28) (
    .seq (
     .reg [.op (some 29) none (.mv (.tmp 9)),
       .op (some 6) none (.mv (.const (.int .i64 (0)))),
       .op (some 7) none (.mv (.tmp 29))]) (
    .ret)) (
    .skip))) (
  .seq (
   .seq (
    .reg [.op (some 30) none (.mv (.tmp 8)),
      .call (some 31) none (.func 21) [(.tmp 30), (.const (.int .i64 (1000000000)))]]) (
   .cond (.tmp 31) (
    .seq (
     .reg [.op (some 6) none (.mv (.const (.int .i64 (0)))),
       .op (some 7) none (.mv (.const (.int .i64 (3))))]) (
    .ret)) (
    .skip))) (
  .seq (
   .reg [.op (some 32) none (.mv (.tmp 8)),
     .op (some 6) none (.mv (.tmp 32)),
     .op (some 7) none (.mv (.const (.int .i64 (0))))]) (
  .ret)))))))
def k16 : Fun := ⟨33, [.tmp 6, .tmp 7], k16c⟩
theorem k16_ok : compF Try.prog 16 = some k16 := by kernel_rfl
theorem k16_name : ((Try.prog.funcs[16]?).map fun fn => fn.name == "runtime.NumGoroutine") = some false := by kernel_rfl
/-- guerdon/guerdonref03.Mul -/
def k17c : C :=
  .seq (
   .reg [.op (some 6) none (.mv (.const (.int .i64 (0)))),
     .op (some 7) none (.mv (.const (.int .i64 (0))))]) (
  .seq (
   .seq (
    .reg [.op (some 11) none (.mv (.tmp 2)),
      .op (some 12) none (.bin .lss (.tmp 11) (.const (.int .i64 (0)))),
      .op (some 13) none (.mv (.tmp 12)),
      .op (some 14) (some (13, false)) (.mv (.tmp 2)),
      .op (some 15) (some (13, false)) (.bin .gtr (.tmp 14) (.const (.int .i64 (5)))),
      .op (some 16) none (.pick (.tmp 13) (.const (.bool true)) (.tmp 15))]) (
   .cond (.tmp 16) (
    .seq (
     .reg [.op (some 6) none (.mv (.const (.int .i64 (0)))),
       .op (some 7) none (.mv (.const (.int .i64 (1))))]) (
    .ret)) (
    .skip))) (
  .seq (
   .seq (
    .reg [.op (some 17) none (.mv (.tmp 0)),
      .call (some 18) none (.func 25) [(.tmp 17), (.const (.int .i64 (1000000000)))],
      .op (some 19) none (.mv (.tmp 18)),
      .op (some 20) (some (19, false)) (.mv (.tmp 1)),
      .call (some 21) (some (19, false)) (.func 25) [(.tmp 20), (.const (.int .i64 (1000000000)))],
      .op (some 22) none (.pick (.tmp 19) (.const (.bool true)) (.tmp 21))]) (
   .cond (.tmp 22) (
    .seq (
     .reg [.op (some 6) none (.mv (.const (.int .i64 (0)))),
       .op (some 7) none (.mv (.const (.int .i64 (3))))]) (
    .ret)) (
    .skip))) (
  .seq (
   .reg [.op (some 24) none (.mv (.tmp 0)),
     .op (some 25) none (.mv (.tmp 1)),
     .op (some 26) none (.bin .mul (.tmp 24) (.tmp 25)),
     .call (some 27) none (.func 26) [(.tmp 26), (.const (.int .i64 (1000000)))],
     .op (some 23) none (.mv (.tmp 27)),
     .op (some 28) none (.extract (.tmp 23) 0),
     .op (some 29) none (.extract (.tmp 23) 1),
     .op (some 8) none (.mv (.tmp 28)),
     .op (some 9) none (.mv (.tmp 29))]) (
  .seq (
   .reg [.op (some 30) none (.mv (.tmp 8)),
     .op (some 31) none (.mv (.tmp 9)),
     .op (some 32) none (.mv (.tmp 2)),
     .call (some 33) none (.func 27) [(.tmp 30), (.tmp 31), (.const (.int .i64 (1000000))), (.tmp 32)],
     .op (some 10) none (.mv (.tmp 33))]) (
  .seq (
   .seq (
    .reg [.op (some 34) none (.mv (.tmp 10)),
      .call (some 35) none (.func 25) [(.tmp 34), (.const (.int .i64 (1000000000)))]]) (
   .cond (.tmp 35) (
    .seq (
     .reg [.op (some 6) none (.mv (.const (.int .i64 (0)))),
       .op (some 7) none (.mv (.const (.int .i64 (3))))]) (
    .ret)) (
    .skip))) (
  .seq (
   .reg [.op (some 36) none (.mv (.tmp 10)),
     .op (some 6) none (.mv (.tmp 36)),
     .op (some 7) none (.mv (.const (.int .i64 (0))))]) (
  .ret)))))))
def k17 : Fun := ⟨37, [.tmp 6, .tmp 7], k17c⟩
theorem k17_ok : compF Try.prog 17 = some k17 := by kernel_rfl
theorem k17_name : ((Try.prog.funcs[17]?).map fun fn => fn.name == "runtime.NumGoroutine") = some false := by kernel_rfl
/-- guerdon/rate.Apply -/
def k18c : C :=
  .seq (
   .reg [.op (some 6) none (.mv (.const (.int .i64 (0)))),
     .op (some 7) none (.mv (.const (.int .i64 (0))))]) (
  .seq (
   .reg [.op (some 8) none (.mv (.tmp 0)),
     .op (some 9) none (.mv (.tmp 1)),
     .op (some 10) none (.mv (.tmp 2)),
     .call (some 11) none (.func 28) [(.tmp 8), (.tmp 9), (.const (.int .i64 (1000000))), (.tmp 10)],
     .op (some 12) none (.extract (.tmp 11) 0),
     .op (some 13) none (.extract (.tmp 11) 1),
     .op (some 6) none (.mv (.tmp 12)),
     .op (some 7) none (.mv (.tmp 13))]) (
  .ret))
def k18 : Fun := ⟨14, [.tmp 6, .tmp 7], k18c⟩
theorem k18_ok : compF Try.prog 18 = some k18 := by kernel_rfl
theorem k18_name : ((Try.prog.funcs[18]?).map fun fn => fn.name == "runtime.NumGoroutine") = some false := by kernel_rfl
/-- guerdon/guerdonref03.Apply -/
def k19c : C :=
  .seq (
   .reg [.op (some 6) none (.mv (.const (.int .i64 (0)))),
     .op (some 7) none (.mv (.const (.int .i64 (0))))]) (
  .seq (
   .reg [.op (some 8) none (.mv (.tmp 0)),
     .op (some 9) none (.mv (.tmp 1)),
     .op (some 10) none (.mv (.tmp 2)),
     .call (some 11) none (.func 29) [(.tmp 8), (.tmp 9), (.const (.int .i64 (1000000))), (.tmp 10)],
     .op (some 12) none (.extract (.tmp 11) 0),
     .op (some 13) none (.extract (.tmp 11) 1),
     .op (some 6) none (.mv (.tmp 12)),
     .op (some 7) none (.mv (.tmp 13))]) (
  .ret))
def k19 : Fun := ⟨14, [.tmp 6, .tmp 7], k19c⟩
theorem k19_ok : compF Try.prog 19 = some k19 := by kernel_rfl
theorem k19_name : ((Try.prog.funcs[19]?).map fun fn => fn.name == "runtime.NumGoroutine") = some false := by kernel_rfl
/-- guerdon/rate.validMode -/
def k20c : C :=
  .seq (
   .reg [.op (some 2) none (.mv (.const (.bool false)))]) (
  .seq (
   .reg [.op (some 3) none (.mv (.tmp 0)),
     .op (some 4) none (.bin .geq (.tmp 3) (.const (.int .i64 (0)))),
     .op (some 5) none (.mv (.tmp 4)),
     .op (some 6) (some (5, true)) (.mv (.tmp 0)),
     .op (some 7) (some (5, true)) (.bin .leq (.tmp 6) (.const (.int .i64 (5)))),
     .op (some 8) none (.pick (.tmp 5) (.tmp 7) (.const (.bool false))),
     .op (some 2) none (.mv (.tmp 8))]) (
  .ret))
def k20 : Fun := ⟨9, [.tmp 2], k20c⟩
theorem k20_ok : compF Try.prog 20 = some k20 := by kernel_rfl
theorem k20_name : ((Try.prog.funcs[20]?).map fun fn => fn.name == "runtime.NumGoroutine") = some false := by kernel_rfl
/-- guerdon/rate.beyond -/
def k21c : C :=
  .seq (
   .reg [.op (some 4) none (.mv (.const (.bool false)))]) (
  .seq (
   .reg [.op (some 5) none (.mv (.tmp 0)),
     .op (some 6) none (.mv (.tmp 1)),
     .op (some 7) none (.bin .gtr (.tmp 5) (.tmp 6)),
     .op (some 8) none (.mv (.tmp 7)),
     .op (some 9) (some (8, false)) (.mv (.tmp 0)),
     .op (some 10) (some (8, false)) (.mv (.tmp 1)),
     .op (some 11) (some (8, false)) (.un .neg (.tmp 10)),
     .op (some 12) (some (8, false)) (.bin .lss (.tmp 9) (.tmp 11)),
     .op (some 13) none (.pick (.tmp 8) (.const (.bool true)) (.tmp 12)),
     .op (some 4) none (.mv (.tmp 13))]) (
  .ret))
def k21 : Fun := ⟨14, [.tmp 4], k21c⟩
theorem k21_ok : compF Try.prog 21 = some k21 := by kernel_rfl
theorem k21_name : ((Try.prog.funcs[21]?).map fun fn => fn.name == "runtime.NumGoroutine") = some false := by kernel_rfl
/-- math/bits.Mul64 -/
def k22c : C :=
  .seq (
   .reg [.op (some 4) none (.mv (.const (.int .u64 (0)))),
     .op (some 5) none (.mv (.const (.int .u64 (0))))]) (
  .seq (
   .reg [.op (some 14) none (.mv (.tmp 0)),
     .op (some 15) none (.bin .and (.tmp 14) (.const (.int .u64 (4294967295)))),
     .op (some 6) none (.mv (.tmp 15))]) (
  .seq (
   .reg [.op (some 16) none (.mv (.tmp 0)),
     .op (some 17) none (.bin .shr (.tmp 16) (.const (.int .u64 (32)))),
     .op (some 7) none (.mv (.tmp 17))]) (
  .seq (
   .reg [.op (some 18) none (.mv (.tmp 1)),
     .op (some 19) none (.bin .and (.tmp 18) (.const (.int .u64 (4294967295)))),
     .op (some 8) none (.mv (.tmp 19))]) (
  .seq (
   .reg [.op (some 20) none (.mv (.tmp 1)),
     .op (some 21) none (.bin .shr (.tmp 20) (.const (.int .u64 (32)))),
     .op (some 9) none (.mv (.tmp 21))]) (
  .seq (
   .reg [.op (some 22) none (.mv (.tmp 6)),
     .op (some 23) none (.mv (.tmp 8)),
     .op (some 24) none (.bin .mul (.tmp 22) (.tmp 23)),
     .op (some 10) none (.mv (.tmp 24))]) (
  .seq (
   .reg [.op (some 25) none (.mv (.tmp 7)),
     .op (some 26) none (.mv (.tmp 8)),
     .op (some 27) none (.bin .mul (.tmp 25) (.tmp 26)),
     .op (some 28) none (.mv (.tmp 10)),
     .op (some 29) none (.bin .shr (.tmp 28) (.const (.int .u64 (32)))),
     .op (some 30) none (.bin .add (.tmp 27) (.tmp 29)),
     .op (some 11) none (.mv (.tmp 30))]) (
  .seq (
   .reg [.op (some 31) none (.mv (.tmp 11)),
     .op (some 32) none (.bin .and (.tmp 31) (.const (.int .u64 (4294967295)))),
     .op (some 12) none (.mv (.tmp 32))]) (
  .seq (
   .reg [.op (some 33) none (.mv (.tmp 11)),
     .op (some 34) none (.bin .shr (.tmp 33) (.const (.int .u64 (32)))),
     .op (some 13) none (.mv (.tmp 34))]) (
  .seq (
   .reg [.op (some 35) none (.mv (.tmp 12)),
     .op (some 36) none (.mv (.tmp 6)),
     .op (some 37) none (.mv (.tmp 9)),
     .op (some 38) none (.bin .mul (.tmp 36) (.tmp 37)),
     .op (some 39) none (.bin .add (.tmp 35) (.tmp 38)),
     .op (some 12) none (.mv (.tmp 39))]) (
  .seq (
   .reg [.op (some 40) none (.mv (.tmp 7)),
     .op (some 41) none (.mv (.tmp 9)),
     .op (some 42) none (.bin .mul (.tmp 40) (.tmp 41)),
     .op (some 43) none (.mv (.tmp 13)),
     .op (some 44) none (.bin .add (.tmp 42) (.tmp 43)),
     .op (some 45) none (.mv (.tmp 12)),
     .op (some 46) none (.bin .shr (.tmp 45) (.const (.int .u64 (32)))),
     .op (some 47) none (.bin .add (.tmp 44) (.tmp 46)),
     .op (some 4) none (.mv (.tmp 47))]) (
  .seq (
   .reg [.op (some 48) none (.mv (.tmp 0)),
     .op (some 49) none (.mv (.tmp 1)),
     .op (some 50) none (.bin .mul (.tmp 48) (.tmp 49)),
     .op (some 5) none (.mv (.tmp 50))]) (
  .ret))))))))))))
def k22 : Fun := ⟨51, [.tmp 4, .tmp 5], k22c⟩
theorem k22_ok : compF Try.prog 22 = some k22 := by kernel_rfl
theorem k22_name : ((Try.prog.funcs[22]?).map fun fn => fn.name == "runtime.NumGoroutine") = some false := by kernel_rfl
/-- math/bits.Div64 -/
def k23c : C :=
  .seq (
   .reg [.op (some 6) none (.mv (.const (.int .u64 (0)))),
     .op (some 7) none (.mv (.const (.int .u64 (0))))]) (
  .seq (
   .seq (
    .reg [.op (some 19) none (.mv (.tmp 2)),
      .op (some 20) none (.bin .eql (.tmp 19) (.const (.int .u64 (0))))]) (
   .cond (.tmp 20) (
    .reg [.op (some 21) none (.load false 1 (.global 0)),
      .op none none (.fail)]) (
    .skip))) (
  .seq (
   .seq (
    .reg [.op (some 22) none (.mv (.tmp 2)),
      .op (some 23) none (.mv (.tmp 0)),
      .op (some 24) none (.bin .leq (.tmp 22) (.tmp 23))]) (
   .cond (.tmp 24) (
    .reg [.op (some 25) none (.load false 1 (.global 1)),
      .op none none (.fail)]) (
    .skip))) (
  .seq (
   .seq (
    .reg [.op (some 26) none (.mv (.tmp 0)),
      .op (some 27) none (.bin .eql (.tmp 26) (.const (.int .u64 (0))))]) (
   .cond (.tmp 27) (
    .seq (
     .draw 7 [.op (some 28) none (.mv (.tmp 1)),
       .op (some 29) none (.mv (.tmp 2)),
       .op (some 30) none (.bin .quo (.tmp 28) (.tmp 29)),
       .op (some 31) none (.mv (.tmp 1)),
       .op (some 32) none (.mv (.tmp 2)),
       .op (some 33) none (.bin .rem (.tmp 31) (.tmp 32)),
       .op (some 6) none (.mv (.tmp 30)),
       .op (some 7) none (.mv (.tmp 33))]) (
    .ret)) (
    .skip))) (
  .seq (
   .reg [.op (some 34) none (.mv (.tmp 2)),
     .call (some 35) none (.func 31) [(.tmp 34)],
     .op (some 36) none (.conv .u64 (.tmp 35)),
     .op (some 8) none (.mv (.tmp 36))]) (
  .seq (
   .reg [.op (some 37) none (.mv (.tmp 2)),
     .op (some 38) none (.mv (.tmp 8)),
     .op (some 39) none (.bin .shl (.tmp 37) (.tmp 38)),
     .op (some 2) none (.mv (.tmp 39))]) (
  .seq (
   .reg [.op (some 40) none (.mv (.tmp 2)),
     .op (some 41) none (.bin .shr (.tmp 40) (.const (.int .u64 (32)))),
     .op (some 9) none (.mv (.tmp 41))]) (
  .seq (
   .reg [.op (some 42) none (.mv (.tmp 2)),
     .op (some 43) none (.bin .and (.tmp 42) (.const (.int .u64 (4294967295)))),
     .op (some 10) none (.mv (.tmp 43))]) (
  .seq (
   .reg [.op (some 44) none (.mv (.tmp 0)),
     .op (some 45) none (.mv (.tmp 8)),
     .op (some 46) none (.bin .shl (.tmp 44) (.tmp 45)),
     .op (some 47) none (.mv (.tmp 1)),
     .op (some 48) none (.mv (.tmp 8)),
     .op (some 49) none (.bin .sub (.const (.int .u64 (64))) (.tmp 48)),
     .op (some 50) none (.bin .shr (.tmp 47) (.tmp 49)),
     .op (some 51) none (.bin .or (.tmp 46) (.tmp 50)),
     .op (some 11) none (.mv (.tmp 51))]) (
  .seq (
   .reg [.op (some 52) none (.mv (.tmp 1)),
     .op (some 53) none (.mv (.tmp 8)),
     .op (some 54) none (.bin .shl (.tmp 52) (.tmp 53)),
     .op (some 12) none (.mv (.tmp 54))]) (
  .seq (
   .reg [.op (some 55) none (.mv (.tmp 12)),
     .op (some 56) none (.bin .shr (.tmp 55) (.const (.int .u64 (32)))),
     .op (some 13) none (.mv (.tmp 56))]) (
  .seq (
   .reg [.op (some 57) none (.mv (.tmp 12)),
     .op (some 58) none (.bin .and (.tmp 57) (.const (.int .u64 (4294967295)))),
     .op (some 14) none (.mv (.tmp 58))]) (
  .seq (
   .reg [.op (some 59) none (.mv (.tmp 11)),
     .op (some 60) none (.mv (.tmp 9)),
     .op (some 61) none (.bin .quo (.tmp 59) (.tmp 60)),
     .op (some 15) none (.mv (.tmp 61))]) (
  .seq (
   .reg [.op (some 62) none (.mv (.tmp 11)),
     .op (some 63) none (.mv (.tmp 15)),
     .op (some 64) none (.mv (.tmp 9)),
     .op (some 65) none (.bin .mul (.tmp 63) (.tmp 64)),
     .op (some 66) none (.bin .sub (.tmp 62) (.tmp 65)),
     .op (some 16) none (.mv (.tmp 66))]) (
  .seq (
   .block 0 (
    .loop (
     .seq (
      .seq (
       .reg [.op (some 67) none (.mv (.tmp 15)),
         .op (some 68) none (.bin .geq (.tmp 67) (.const (.int .u64 (4294967296)))),
         .op (some 69) none (.mv (.tmp 68)),
         .op (some 70) (some (69, false)) (.mv (.tmp 15)),
         .op (some 71) (some (69, false)) (.mv (.tmp 10)),
         .op (some 72) (some (69, false)) (.bin .mul (.tmp 70) (.tmp 71)),
         .op (some 73) (some (69, false)) (.mv (.tmp 16)),
         .op (some 74) (some (69, false)) (.bin .mul (.const (.int .u64 (4294967296))) (.tmp 73)),
         .op (some 75) (some (69, false)) (.mv (.tmp 13)),
         .op (some 76) (some (69, false)) (.bin .add (.tmp 74) (.tmp 75)),
         .op (some 77) (some (69, false)) (.bin .gtr (.tmp 72) (.tmp 76)),
         .op (some 78) none (.pick (.tmp 69) (.const (.bool true)) (.tmp 77))]) (
      .cond (.tmp 78) (
       .skip) (
       .exit 0))) (
     .block 1 (
      .seq (
       .reg [.op (some 79) none (.mv (.tmp 15)),
         .op (some 80) none (.bin .sub (.tmp 79) (.const (.int .u64 (1)))),
         .op (some 15) none (.mv (.tmp 80))]) (
      .seq (
       .reg [.op (some 81) none (.mv (.tmp 16)),
         .op (some 82) none (.mv (.tmp 9)),
         .op (some 83) none (.bin .add (.tmp 81) (.tmp 82)),
         .op (some 16) none (.mv (.tmp 83))]) (
      .seq (
       .reg [.op (some 84) none (.mv (.tmp 16)),
         .op (some 85) none (.bin .geq (.tmp 84) (.const (.int .u64 (4294967296))))]) (
      .cond (.tmp 85) (
       .exit 0) (
       .skip))))))))) (
  .seq (
   .reg [.op (some 86) none (.mv (.tmp 11)),
     .op (some 87) none (.bin .mul (.tmp 86) (.const (.int .u64 (4294967296)))),
     .op (some 88) none (.mv (.tmp 13)),
     .op (some 89) none (.bin .add (.tmp 87) (.tmp 88)),
     .op (some 90) none (.mv (.tmp 15)),
     .op (some 91) none (.mv (.tmp 2)),
     .op (some 92) none (.bin .mul (.tmp 90) (.tmp 91)),
     .op (some 93) none (.bin .sub (.tmp 89) (.tmp 92)),
     .op (some 17) none (.mv (.tmp 93))]) (
  .seq (
   .reg [.op (some 94) none (.mv (.tmp 17)),
     .op (some 95) none (.mv (.tmp 9)),
     .op (some 96) none (.bin .quo (.tmp 94) (.tmp 95)),
     .op (some 18) none (.mv (.tmp 96))]) (
  .seq (
   .reg [.op (some 97) none (.mv (.tmp 17)),
     .op (some 98) none (.mv (.tmp 18)),
     .op (some 99) none (.mv (.tmp 9)),
     .op (some 100) none (.bin .mul (.tmp 98) (.tmp 99)),
     .op (some 101) none (.bin .sub (.tmp 97) (.tmp 100)),
     .op (some 16) none (.mv (.tmp 101))]) (
  .seq (
   .block 2 (
    .loop (
     .seq (
      .seq (
       .reg [.op (some 102) none (.mv (.tmp 18)),
         .op (some 103) none (.bin .geq (.tmp 102) (.const (.int .u64 (4294967296)))),
         .op (some 104) none (.mv (.tmp 103)),
         .op (some 105) (some (104, false)) (.mv (.tmp 18)),
         .op (some 106) (some (104, false)) (.mv (.tmp 10)),
         .op (some 107) (some (104, false)) (.bin .mul (.tmp 105) (.tmp 106)),
         .op (some 108) (some (104, false)) (.mv (.tmp 16)),
         .op (some 109) (some (104, false)) (.bin .mul (.const (.int .u64 (4294967296))) (.tmp 108)),
         .op (some 110) (some (104, false)) (.mv (.tmp 14)),
         .op (some 111) (some (104, false)) (.bin .add (.tmp 109) (.tmp 110)),
         .op (some 112) (some (104, false)) (.bin .gtr (.tmp 107) (.tmp 111)),
         .op (some 113) none (.pick (.tmp 104) (.const (.bool true)) (.tmp 112))]) (
      .cond (.tmp 113) (
       .skip) (
       .exit 2))) (
     .block 3 (
      .seq (
       .reg [.op (some 114) none (.mv (.tmp 18)),
         .op (some 115) none (.bin .sub (.tmp 114) (.const (.int .u64 (1)))),
         .op (some 18) none (.mv (.tmp 115))]) (
      .seq (
       .reg [.op (some 116) none (.mv (.tmp 16)),
         .op (some 117) none (.mv (.tmp 9)),
         .op (some 118) none (.bin .add (.tmp 116) (.tmp 117)),
         .op (some 16) none (.mv (.tmp 118))]) (
      .seq (
       .reg [.op (some 119) none (.mv (.tmp 16)),
         .op (some 120) none (.bin .geq (.tmp 119) (.const (.int .u64 (4294967296))))]) (
      .cond (.tmp 120) (
       .exit 2) (
       .skip))))))))) (
  .seq (
   .reg [.op (some 121) none (.mv (.tmp 15)),
     .op (some 122) none (.bin .mul (.tmp 121) (.const (.int .u64 (4294967296)))),
     .op (some 123) none (.mv (.tmp 18)),
     .op (some 124) none (.bin .add (.tmp 122) (.tmp 123)),
     .op (some 125) none (.mv (.tmp 17)),
     .op (some 126) none (.bin .mul (.tmp 125) (.const (.int .u64 (4294967296)))),
     .op (some 127) none (.mv (.tmp 14)),
     .op (some 128) none (.bin .add (.tmp 126) (.tmp 127)),
     .op (some 129) none (.mv (.tmp 18)),
     .op (some 130) none (.mv (.tmp 2)),
     .op (some 131) none (.bin .mul (.tmp 129) (.tmp 130)),
     .op (some 132) none (.bin .sub (.tmp 128) (.tmp 131)),
     .op (some 133) none (.mv (.tmp 8)),
     .op (some 134) none (.bin .shr (.tmp 132) (.tmp 133)),
     .op (some 6) none (.mv (.tmp 124)),
     .op (some 7) none (.mv (.tmp 134))]) (
  .ret))))))))))))))))))))
def k23 : Fun := ⟨135, [.tmp 6, .tmp 7], k23c⟩
theorem k23_ok : compF Try.prog 23 = some k23 := by kernel_rfl
theorem k23_name : ((Try.prog.funcs[23]?).map fun fn => fn.name == "runtime.NumGoroutine") = some false := by kernel_rfl
/-- guerdon/rate.roundsUp -/
def k24c : C :=
  .seq (
   .reg [.op (some 10) none (.mv (.const (.bool false)))]) (
  .seq (
   .seq (
    .reg [.op (some 11) none (.mv (.tmp 1)),
      .op (some 12) none (.bin .eql (.tmp 11) (.const (.int .u64 (0))))]) (
   .cond (.tmp 12) (
    .seq (
     .reg [.op (some 10) none (.mv (.const (.bool false)))]) (
    .ret)) (
    .skip))) (
  .seq (
   .seq (
    .reg [.op (some 13) none (.mv (.tmp 4))]) (
   .block 0 (
    .seq (
     .reg [.op (some 15) none (.bin .eql (.tmp 13) (.const (.int .i64 (0)))),
       .op (some 14) none (.mv (.tmp 15))]) (
    .cond (.tmp 14) (
     .seq (
      .reg [.op (some 16) none (.mv (.tmp 3)),
        .op (some 10) none (.mv (.tmp 16))]) (
     .ret)) (
     .seq (
      .reg [.op (some 18) none (.bin .eql (.tmp 13) (.const (.int .i64 (1)))),
        .op (some 17) none (.mv (.tmp 18))]) (
     .cond (.tmp 17) (
      .seq (
       .reg [.op (some 19) none (.mv (.tmp 3)),
         .op (some 20) none (.un .not (.tmp 19)),
         .op (some 10) none (.mv (.tmp 20))]) (
      .ret)) (
      .seq (
       .reg [.op (some 22) none (.bin .eql (.tmp 13) (.const (.int .i64 (3)))),
         .op (some 21) none (.mv (.tmp 22))]) (
      .cond (.tmp 21) (
       .seq (
        .reg [.op (some 10) none (.mv (.const (.bool true)))]) (
       .ret)) (
       .seq (
        .reg [.op (some 24) none (.bin .eql (.tmp 13) (.const (.int .i64 (4)))),
          .op (some 23) none (.mv (.tmp 24))]) (
       .cond (.tmp 23) (
        .seq (
         .reg [.op (some 25) none (.mv (.tmp 1)),
           .op (some 26) none (.mv (.tmp 2)),
           .op (some 27) none (.mv (.tmp 1)),
           .op (some 28) none (.bin .sub (.tmp 26) (.tmp 27)),
           .op (some 29) none (.bin .geq (.tmp 25) (.tmp 28)),
           .op (some 10) none (.mv (.tmp 29))]) (
        .ret)) (
        .seq (
         .reg [.op (some 31) none (.bin .eql (.tmp 13) (.const (.int .i64 (5)))),
           .op (some 30) none (.mv (.tmp 31))]) (
        .cond (.tmp 30) (
         .seq (
          .reg [.op (some 32) none (.mv (.tmp 1)),
            .op (some 33) none (.mv (.tmp 2)),
            .op (some 34) none (.mv (.tmp 1)),
            .op (some 35) none (.bin .sub (.tmp 33) (.tmp 34)),
            .op (some 36) none (.bin .gtr (.tmp 32) (.tmp 35)),
            .op (some 37) none (.mv (.tmp 36)),
            .op (some 38) (some (37, false)) (.mv (.tmp 1)),
            .op (some 39) (some (37, false)) (.mv (.tmp 2)),
            .op (some 40) (some (37, false)) (.mv (.tmp 1)),
            .op (some 41) (some (37, false)) (.bin .sub (.tmp 39) (.tmp 40)),
            .op (some 42) (some (37, false)) (.bin .eql (.tmp 38) (.tmp 41)),
            .op (some 43) (some (37, false)) (.mv (.tmp 42)),
            .op (some 44) (some (43, true)) (.mv (.tmp 0)),
            .op (some 45) (some (43, true)) (.bin .rem (.tmp 44) (.const (.int .u64 (2)))),
            .op (some 46) (some (43, true)) (.bin .eql (.tmp 45) (.const (.int .u64 (1)))),
            .op (some 47) (some (37, false)) (.pick (.tmp 43) (.tmp 46) (.const (.bool false))),
            .op (some 48) none (.pick (.tmp 37) (.const (.bool true)) (.tmp 47)),
            .op (some 10) none (.mv (.tmp 48))]) (
         .ret)) (
         .skip))))))))))))) (
  .seq (
   .reg [.op (some 10) none (.mv (.const (.bool false)))]) (
  .ret))))
def k24 : Fun := ⟨49, [.tmp 10], k24c⟩
theorem k24_ok : compF Try.prog 24 = some k24 := by kernel_rfl
theorem k24_name : ((Try.prog.funcs[24]?).map fun fn => fn.name == "runtime.NumGoroutine") = some false := by kernel_rfl
/-- guerdon/guerdonref03.beyond -/
def k25c : C :=
  .seq (
   .reg [.op (some 4) none (.mv (.const (.bool false)))]) (
  .seq (
   .reg [.op (some 5) none (.mv (.tmp 0)),
     .op (some 6) none (.mv (.tmp 1)),
     .op (some 7) none (.bin .gtr (.tmp 5) (.tmp 6)),
     .op (some 8) none (.mv (.tmp 7)),
     .op (some 9) (some (8, false)) (.mv (.tmp 0)),
     .op (some 10) (some (8, false)) (.mv (.tmp 1)),
     .op (some 11) (some (8, false)) (.bin .sub (.const (.int .i64 (0))) (.tmp 10)),
     .op (some 12) (some (8, false)) (.bin .lss (.tmp 9) (.tmp 11)),
     .op (some 13) none (.pick (.tmp 8) (.const (.bool true)) (.tmp 12)),
     .op (some 4) none (.mv (.tmp 13))]) (
  .ret))
def k25 : Fun := ⟨14, [.tmp 4], k25c⟩
theorem k25_ok : compF Try.prog 25 = some k25 := by kernel_rfl
theorem k25_name : ((Try.prog.funcs[25]?).map fun fn => fn.name == "runtime.NumGoroutine") = some false := by kernel_rfl
/-- guerdon/guerdonref03.floor -/
def k26c : C :=
  .seq (
   .reg [.op (some 4) none (.mv (.const (.int .i64 (0)))),
     .op (some 5) none (.mv (.const (.int .i64 (0))))]) (
  .seq (
   .reg [.op (some 8) none (.mv (.tmp 0)),
     .op (some 9) none (.mv (.tmp 1)),
     .op (some 10) none (.bin .quo (.tmp 8) (.tmp 9)),
     .op (some 6) none (.mv (.tmp 10))]) (
  .seq (
   .reg [.op (some 11) none (.mv (.tmp 0)),
     .op (some 12) none (.mv (.tmp 1)),
     .op (some 13) none (.bin .rem (.tmp 11) (.tmp 12)),
     .op (some 7) none (.mv (.tmp 13))]) (
  .seq (
   .seq (
    .reg [.op (some 14) none (.mv (.tmp 7)),
      .op (some 15) none (.bin .lss (.tmp 14) (.const (.int .i64 (0))))]) (
   .cond (.tmp 15) (
    .seq (
     .reg [.op (some 16) none (.mv (.tmp 6)),
       .op (some 17) none (.bin .sub (.tmp 16) (.const (.int .i64 (1)))),
       .op (some 18) none (.mv (.tmp 7)),
       .op (some 19) none (.mv (.tmp 1)),
       .op (some 20) none (.bin .add (.tmp 18) (.tmp 19)),
       .op (some 4) none (.mv (.tmp 17)),
       .op (some 5) none (.mv (.tmp 20))]) (
    .ret)) (
    .skip))) (
  .seq (
   .reg [.op (some 21) none (.mv (.tmp 6)),
     .op (some 22) none (.mv (.tmp 7)),
     .op (some 4) none (.mv (.tmp 21)),
     .op (some 5) none (.mv (.tmp 22))]) (
  .ret)))))
def k26 : Fun := ⟨23, [.tmp 4, .tmp 5], k26c⟩
theorem k26_ok : compF Try.prog 26 = some k26 := by kernel_rfl
theorem k26_name : ((Try.prog.funcs[26]?).map fun fn => fn.name == "runtime.NumGoroutine") = some false := by kernel_rfl
/-- guerdon/guerdonref03.rounded -/
def k27c : C :=
  .seq (
   .reg [.op (some 8) none (.mv (.const (.int .i64 (0))))]) (
  .seq (
   .seq (
    .reg [.op (some 10) none (.mv (.tmp 1)),
      .op (some 11) none (.bin .eql (.tmp 10) (.const (.int .i64 (0))))]) (
   .cond (.tmp 11) (
    .seq (
     .reg [.op (some 12) none (.mv (.tmp 0)),
       .op (some 8) none (.mv (.tmp 12))]) (
    .ret)) (
    .skip))) (
  .seq (
   .reg [.op (some 13) none (.mv (.tmp 3)),
     .op (some 14) none (.bin .eql (.tmp 13) (.const (.int .i64 (1)))),
     .op (some 15) none (.mv (.tmp 14)),
     .op (some 16) (some (15, false)) (.mv (.tmp 3)),
     .op (some 17) (some (15, false)) (.bin .eql (.tmp 16) (.const (.int .i64 (2)))),
     .op (some 18) (some (15, false)) (.mv (.tmp 17)),
     .op (some 19) (some (18, true)) (.mv (.tmp 0)),
     .op (some 20) (some (18, true)) (.bin .lss (.tmp 19) (.const (.int .i64 (0)))),
     .op (some 21) (some (15, false)) (.pick (.tmp 18) (.tmp 20) (.const (.bool false))),
     .op (some 22) none (.pick (.tmp 15) (.const (.bool true)) (.tmp 21)),
     .op (some 23) none (.mv (.tmp 22)),
     .op (some 24) (some (23, false)) (.mv (.tmp 3)),
     .op (some 25) (some (23, false)) (.bin .eql (.tmp 24) (.const (.int .i64 (3)))),
     .op (some 26) (some (23, false)) (.mv (.tmp 25)),
     .op (some 27) (some (26, true)) (.mv (.tmp 0)),
     .op (some 28) (some (26, true)) (.bin .geq (.tmp 27) (.const (.int .i64 (0)))),
     .op (some 29) (some (23, false)) (.pick (.tmp 26) (.tmp 28) (.const (.bool false))),
     .op (some 30) none (.pick (.tmp 23) (.const (.bool true)) (.tmp 29)),
     .op (some 9) none (.mv (.tmp 30))]) (
  .seq (
   .seq (
    .reg [.op (some 31) none (.mv (.tmp 3)),
      .op (some 32) none (.bin .eql (.tmp 31) (.const (.int .i64 (4)))),
      .op (some 33) none (.mv (.tmp 32)),
      .op (some 34) (some (33, false)) (.mv (.tmp 3)),
      .op (some 35) (some (33, false)) (.bin .eql (.tmp 34) (.const (.int .i64 (5)))),
      .op (some 36) none (.pick (.tmp 33) (.const (.bool true)) (.tmp 35))]) (
   .cond (.tmp 36) (
    .seq (
     .reg [.op (some 37) none (.mv (.tmp 1)),
       .op (some 38) none (.mv (.tmp 2)),
       .op (some 39) none (.mv (.tmp 1)),
       .op (some 40) none (.bin .sub (.tmp 38) (.tmp 39)),
       .op (some 41) none (.bin .gtr (.tmp 37) (.tmp 40)),
       .op (some 9) none (.mv (.tmp 41))]) (
    .seq (
     .reg [.op (some 42) none (.mv (.tmp 1)),
       .op (some 43) none (.mv (.tmp 2)),
       .op (some 44) none (.mv (.tmp 1)),
       .op (some 45) none (.bin .sub (.tmp 43) (.tmp 44)),
       .op (some 46) none (.bin .eql (.tmp 42) (.tmp 45))]) (
    .cond (.tmp 46) (
     .reg [.op (some 47) none (.mv (.tmp 3)),
       .op (some 48) none (.bin .eql (.tmp 47) (.const (.int .i64 (4)))),
       .op (some 49) none (.mv (.tmp 48)),
       .op (some 50) (some (49, true)) (.mv (.tmp 0)),
       .op (some 51) (some (49, true)) (.bin .geq (.tmp 50) (.const (.int .i64 (0)))),
       .op (some 52) none (.pick (.tmp 49) (.tmp 51) (.const (.bool false))),
       .op (some 53) none (.mv (.tmp 52)),
       .op (some 54) (some (53, false)) (.mv (.tmp 3)),
       .op (some 55) (some (53, false)) (.bin .eql (.tmp 54) (.const (.int .i64 (5)))),
       .op (some 56) (some (53, false)) (.mv (.tmp 55)),
       .op (some 57) (some (56, true)) (.mv (.tmp 0)),
       .op (some 58) (some (56, true)) (.bin .rem (.tmp 57) (.const (.int .i64 (2)))),
       .op (some 59) (some (56, true)) (.bin .neq (.tmp 58) (.const (.int .i64 (0)))),
       .op (some 60) (some (53, false)) (.pick (.tmp 56) (.tmp 59) (.const (.bool false))),
       .op (some 61) none (.pick (.tmp 53) (.const (.bool true)) (.tmp 60)),
       .op (some 9) none (.mv (.tmp 61))]) (
     .skip)))) (
    .skip))) (
  .seq (
   .seq (
    .reg [.op (some 62) none (.mv (.tmp 9))]) (
   .cond (.tmp 62) (
    .seq (
     .reg [.op (some 63) none (.mv (.tmp 0)),
       .op (some 64) none (.bin .add (.tmp 63) (.const (.int .i64 (1)))),
       .op (some 8) none (.mv (.tmp 64))]) (
    .ret)) (
    .skip))) (
  .seq (
   .reg [.op (some 65) none (.mv (.tmp 0)),
     .op (some 8) none (.mv (.tmp 65))]) (
  .ret))))))
def k27 : Fun := ⟨66, [.tmp 8], k27c⟩
theorem k27_ok : compF Try.prog 27 = some k27 := by kernel_rfl
theorem k27_name : ((Try.prog.funcs[27]?).map fun fn => fn.name == "runtime.NumGoroutine") = some false := by kernel_rfl
/-- guerdon/money.MulDiv -/
def k28c : C :=
  .seq (
   .reg [.op (some 8) none (.mv (.const (.int .i64 (0)))),
     .op (some 9) none (.mv (.const (.int .i64 (0))))]) (
  .seq (
   .seq (
    .reg [.op (some 16) none (.mv (.tmp 3)),
      .call (some 17) none (.func 32) [(.tmp 16)],
      .op (some 18) none (.un .not (.tmp 17))]) (
   .cond (.tmp 18) (
    .seq (
     .reg [.op (some 8) none (.mv (.const (.int .i64 (0)))),
       .op (some 9) none (.mv (.const (.int .i64 (1))))]) (
    .ret)) (
    .skip))) (
  .seq (
   .seq (
    .reg [.op (some 19) none (.mv (.tmp 2)),
      .op (some 20) none (.bin .eql (.tmp 19) (.const (.int .i64 (0))))]) (
   .cond (.tmp 20) (
    .seq (
     .reg [.op (some 8) none (.mv (.const (.int .i64 (0)))),
       .op (some 9) none (.mv (.const (.int .i64 (12))))]) (
    .ret)) (
    .skip))) (
  .seq (
   .seq (
    .reg [.op (some 21) none (.mv (.tmp 0)),
      .call (some 22) none (.func 33) [(.tmp 21), (.const (.int .i64 (1000000000000000)))],
      .op (some 23) none (.mv (.tmp 22)),
      .op (some 24) (some (23, false)) (.mv (.tmp 1)),
      .call (some 25) (some (23, false)) (.func 33) [(.tmp 24), (.const (.int .i64 (1000000000)))],
      .op (some 26) none (.pick (.tmp 23) (.const (.bool true)) (.tmp 25)),
      .op (some 27) none (.mv (.tmp 26)),
      .op (some 28) (some (27, false)) (.mv (.tmp 2)),
      .call (some 29) (some (27, false)) (.func 33) [(.tmp 28), (.const (.int .i64 (1000000000)))],
      .op (some 30) none (.pick (.tmp 27) (.const (.bool true)) (.tmp 29))]) (
   .cond (.tmp 30) (
    .seq (
     .reg [.op (some 8) none (.mv (.const (.int .i64 (0)))),
       .op (some 9) none (.mv (.const (.int .i64 (3))))]) (
    .ret)) (
    .skip))) (
  .seq (
   .reg [.op (some 31) none (.mv (.tmp 0)),
     .op (some 32) none (.bin .lss (.tmp 31) (.const (.int .i64 (0)))),
     .op (some 33) none (.mv (.tmp 1)),
     .op (some 34) none (.bin .lss (.tmp 33) (.const (.int .i64 (0)))),
     .op (some 35) none (.beq true (.tmp 32) (.tmp 34)),
     .op (some 36) none (.mv (.tmp 2)),
     .op (some 37) none (.bin .lss (.tmp 36) (.const (.int .i64 (0)))),
     .op (some 38) none (.beq true (.tmp 35) (.tmp 37)),
     .op (some 10) none (.mv (.tmp 38))]) (
  .seq (
   .reg [.op (some 40) none (.mv (.tmp 0)),
     .call (some 41) none (.func 34) [(.tmp 40)],
     .op (some 42) none (.mv (.tmp 1)),
     .call (some 43) none (.func 34) [(.tmp 42)],
     .call (some 44) none (.func 22) [(.tmp 41), (.tmp 43)],
     .op (some 39) none (.mv (.tmp 44)),
     .op (some 45) none (.extract (.tmp 39) 0),
     .op (some 46) none (.extract (.tmp 39) 1),
     .op (some 11) none (.mv (.tmp 45)),
     .op (some 12) none (.mv (.tmp 46))]) (
  .seq (
   .reg [.op (some 47) none (.mv (.tmp 2)),
     .call (some 48) none (.func 34) [(.tmp 47)],
     .op (some 13) none (.mv (.tmp 48))]) (
  .seq (
   .seq (
    .reg [.op (some 49) none (.mv (.tmp 11)),
      .op (some 50) none (.mv (.tmp 13)),
      .op (some 51) none (.bin .geq (.tmp 49) (.tmp 50))]) (
   .cond (.tmp 51) (
    .seq (
     .reg [.op (some 8) none (.mv (.const (.int .i64 (0)))),
       .op (some 9) none (.mv (.const (.int .i64 (3))))]) (
    .ret)) (
    .skip))) (
  .seq (
   .reg [.op (some 53) none (.mv (.tmp 11)),
     .op (some 54) none (.mv (.tmp 12)),
     .op (some 55) none (.mv (.tmp 13)),
     .call (some 56) none (.func 23) [(.tmp 53), (.tmp 54), (.tmp 55)],
     .op (some 52) none (.mv (.tmp 56)),
     .op (some 57) none (.extract (.tmp 52) 0),
     .op (some 58) none (.extract (.tmp 52) 1),
     .op (some 14) none (.mv (.tmp 57)),
     .op (some 15) none (.mv (.tmp 58))]) (
  .seq (
   .seq (
    .reg [.op (some 59) none (.mv (.tmp 14)),
      .op (some 60) none (.bin .gtr (.tmp 59) (.const (.int .u64 (1000000000000000))))]) (
   .cond (.tmp 60) (
    .seq (
     .reg [.op (some 8) none (.mv (.const (.int .i64 (0)))),
       .op (some 9) none (.mv (.const (.int .i64 (3))))]) (
    .ret)) (
    .skip))) (
  .seq (
   .reg [.op (some 61) none (.mv (.tmp 14)),
     .op (some 62) none (.mv (.tmp 15)),
     .op (some 63) none (.mv (.tmp 13)),
     .op (some 64) none (.mv (.tmp 10)),
     .op (some 65) none (.mv (.tmp 3)),
     .call (some 66) none (.func 35) [(.tmp 61), (.tmp 62), (.tmp 63), (.tmp 64), (.tmp 65)],
     .op (some 14) none (.mv (.tmp 66))]) (
  .seq (
   .seq (
    .reg [.op (some 67) none (.mv (.tmp 14)),
      .op (some 68) none (.bin .gtr (.tmp 67) (.const (.int .u64 (1000000000000000))))]) (
   .cond (.tmp 68) (
    .seq (
     .reg [.op (some 8) none (.mv (.const (.int .i64 (0)))),
       .op (some 9) none (.mv (.const (.int .i64 (3))))]) (
    .ret)) (
    .skip))) (
  .seq (
   .reg [.op (some 69) none (.mv (.tmp 14)),
     .op (some 70) none (.mv (.tmp 10)),
     .call (some 71) none (.func 36) [(.tmp 69), (.tmp 70)],
     .op (some 8) none (.mv (.tmp 71)),
     .op (some 9) none (.mv (.const (.int .i64 (0))))]) (
  .ret)))))))))))))
def k28 : Fun := ⟨72, [.tmp 8, .tmp 9], k28c⟩
theorem k28_ok : compF Try.prog 28 = some k28 := by kernel_rfl
theorem k28_name : ((Try.prog.funcs[28]?).map fun fn => fn.name == "runtime.NumGoroutine") = some false := by kernel_rfl
/-- guerdon/guerdonref02.MulDiv -/
def k29c : C :=
  .seq (
   .reg [.op (some 8) none (.mv (.const (.int .i64 (0)))),
     .op (some 9) none (.mv (.const (.int .i64 (0))))]) (
  .seq (
   .seq (
    .reg [.op (some 16) none (.mv (.tmp 3)),
      .call (some 17) none (.func 37) [(.tmp 16)],
      .op (some 18) none (.un .not (.tmp 17))]) (
   .cond (.tmp 18) (
    .seq (
     .reg [.op (some 8) none (.mv (.const (.int .i64 (0)))),
       .op (some 9) none (.mv (.const (.int .i64 (1))))]) (
    .ret)) (
    .skip))) (
  .seq (
   .seq (
    .reg [.op (some 19) none (.mv (.tmp 2)),
      .op (some 20) none (.bin .eql (.tmp 19) (.const (.int .i64 (0))))]) (
   .cond (.tmp 20) (
    .seq (
     .reg [.op (some 8) none (.mv (.const (.int .i64 (0)))),
       .op (some 9) none (.mv (.const (.int .i64 (12))))]) (
    .ret)) (
    .skip))) (
  .seq (
   .seq (
    .reg [.op (some 21) none (.mv (.tmp 0)),
      .call (some 22) none (.func 38) [(.tmp 21), (.const (.int .i64 (1000000000000000)))],
      .op (some 23) none (.mv (.tmp 22)),
      .op (some 24) (some (23, false)) (.mv (.tmp 1)),
      .call (some 25) (some (23, false)) (.func 38) [(.tmp 24), (.const (.int .i64 (1000000000)))],
      .op (some 26) none (.pick (.tmp 23) (.const (.bool true)) (.tmp 25)),
      .op (some 27) none (.mv (.tmp 26)),
      .op (some 28) (some (27, false)) (.mv (.tmp 2)),
      .call (some 29) (some (27, false)) (.func 38) [(.tmp 28), (.const (.int .i64 (1000000000)))],
      .op (some 30) none (.pick (.tmp 27) (.const (.bool true)) (.tmp 29))]) (
   .cond (.tmp 30) (
    .seq (
     .reg [.op (some 8) none (.mv (.const (.int .i64 (0)))),
       .op (some 9) none (.mv (.const (.int .i64 (3))))]) (
    .ret)) (
    .skip))) (
  .seq (
   .reg [.op (some 31) none (.mv (.tmp 0)),
     .call (some 32) none (.func 39) [(.tmp 31)],
     .op (some 33) none (.mv (.tmp 1)),
     .call (some 34) none (.func 39) [(.tmp 33)],
     .op (some 35) none (.mv (.tmp 2)),
     .call (some 36) none (.func 39) [(.tmp 35)],
     .op (some 10) none (.mv (.tmp 32)),
     .op (some 11) none (.mv (.tmp 34)),
     .op (some 12) none (.mv (.tmp 36))]) (
  .seq (
   .seq (
    .draw 8 [.op (some 37) none (.mv (.tmp 11)),
      .op (some 38) none (.bin .gtr (.tmp 37) (.const (.int .i64 (0)))),
      .op (some 39) none (.mv (.tmp 38)),
      .op (some 40) (some (39, true)) (.mv (.tmp 10)),
      .op (some 41) (some (39, true)) (.mv (.tmp 12)),
      .op (some 42) (some (39, true)) (.bin .quo (.tmp 40) (.tmp 41)),
      .op (some 43) (some (39, true)) (.mv (.tmp 11)),
      .op (some 44) (some (39, true)) (.bin .quo (.const (.int .i64 (1000000000000000))) (.tmp 43)),
      .op (some 45) (some (39, true)) (.bin .gtr (.tmp 42) (.tmp 44)),
      .op (some 46) none (.pick (.tmp 39) (.tmp 45) (.const (.bool false)))]) (
   .cond (.tmp 46) (
    .seq (
     .reg [.op (some 8) none (.mv (.const (.int .i64 (0)))),
       .op (some 9) none (.mv (.const (.int .i64 (3))))]) (
    .ret)) (
    .skip))) (
  .seq (
   .reg [.op (some 47) none (.mv (.tmp 10)),
     .op (some 48) none (.mv (.tmp 12)),
     .op (some 49) none (.bin .rem (.tmp 47) (.tmp 48)),
     .op (some 50) none (.mv (.tmp 11)),
     .op (some 51) none (.bin .mul (.tmp 49) (.tmp 50)),
     .op (some 13) none (.mv (.tmp 51))]) (
  .seq (
   .reg [.op (some 52) none (.mv (.tmp 0)),
     .op (some 53) none (.bin .lss (.tmp 52) (.const (.int .i64 (0)))),
     .op (some 54) none (.mv (.tmp 1)),
     .op (some 55) none (.bin .lss (.tmp 54) (.const (.int .i64 (0)))),
     .op (some 56) none (.beq true (.tmp 53) (.tmp 55)),
     .op (some 57) none (.mv (.tmp 2)),
     .op (some 58) none (.bin .lss (.tmp 57) (.const (.int .i64 (0)))),
     .op (some 59) none (.beq true (.tmp 56) (.tmp 58)),
     .op (some 14) none (.mv (.tmp 59))]) (
  .seq (
   .draw 15 [.op (some 60) none (.mv (.tmp 10)),
     .op (some 61) none (.mv (.tmp 12)),
     .op (some 62) none (.bin .quo (.tmp 60) (.tmp 61)),
     .op (some 63) none (.mv (.tmp 11)),
     .op (some 64) none (.bin .mul (.tmp 62) (.tmp 63)),
     .op (some 65) none (.mv (.tmp 13)),
     .op (some 66) none (.mv (.tmp 12)),
     .op (some 67) none (.bin .quo (.tmp 65) (.tmp 66)),
     .op (some 68) none (.bin .add (.tmp 64) (.tmp 67)),
     .op (some 69) none (.mv (.tmp 13)),
     .op (some 70) none (.mv (.tmp 12)),
     .op (some 71) none (.bin .rem (.tmp 69) (.tmp 70)),
     .op (some 72) none (.mv (.tmp 12)),
     .op (some 73) none (.mv (.tmp 14)),
     .op (some 74) none (.mv (.tmp 3)),
     .call (some 75) none (.func 40) [(.tmp 68), (.tmp 71), (.tmp 72), (.tmp 73), (.tmp 74)],
     .op (some 15) none (.mv (.tmp 75))]) (
  .seq (
   .seq (
    .reg [.op (some 76) none (.mv (.tmp 15)),
      .call (some 77) none (.func 38) [(.tmp 76), (.const (.int .i64 (1000000000000000)))]]) (
   .cond (.tmp 77) (
    .seq (
     .reg [.op (some 8) none (.mv (.const (.int .i64 (0)))),
       .op (some 9) none (.mv (.const (.int .i64 (3))))]) (
    .ret)) (
    .skip))) (
  .seq (
   .reg [.op (some 78) none (.mv (.tmp 15)),
     .op (some 8) none (.mv (.tmp 78)),
     .op (some 9) none (.mv (.const (.int .i64 (0))))]) (
  .ret)))))))))))
def k29 : Fun := ⟨79, [.tmp 8, .tmp 9], k29c⟩
theorem k29_ok : compF Try.prog 29 = some k29 := by kernel_rfl
theorem k29_name : ((Try.prog.funcs[29]?).map fun fn => fn.name == "runtime.NumGoroutine") = some false := by kernel_rfl
/-- guerdon/money.DivRound -/
def k30c : C :=
  .seq (
   .reg [.op (some 6) none (.mv (.const (.int .i64 (0)))),
     .op (some 7) none (.mv (.const (.int .i64 (0))))]) (
  .seq (
   .seq (
    .reg [.op (some 12) none (.mv (.tmp 2)),
      .call (some 13) none (.func 32) [(.tmp 12)],
      .op (some 14) none (.un .not (.tmp 13))]) (
   .cond (.tmp 14) (
    .seq (
     .reg [.op (some 6) none (.mv (.const (.int .i64 (0)))),
       .op (some 7) none (.mv (.const (.int .i64 (1))))]) (
    .ret)) (
    .skip))) (
  .seq (
   .seq (
    .reg [.op (some 15) none (.mv (.tmp 1)),
      .op (some 16) none (.bin .eql (.tmp 15) (.const (.int .i64 (0))))]) (
   .cond (.tmp 16) (
    .seq (
     .reg [.op (some 6) none (.mv (.const (.int .i64 (0)))),
       .op (some 7) none (.mv (.const (.int .i64 (12))))]) (
    .ret)) (
    .skip))) (
  .seq (
   .seq (
    .reg [.op (some 17) none (.mv (.tmp 0)),
      .call (some 18) none (.func 33) [(.tmp 17), (.const (.int .i64 (4611686018427387904)))],
      .op (some 19) none (.mv (.tmp 18)),
      .op (some 20) (some (19, false)) (.mv (.tmp 1)),
      .call (some 21) (some (19, false)) (.func 33) [(.tmp 20), (.const (.int .i64 (4611686018427387904)))],
      .op (some 22) none (.pick (.tmp 19) (.const (.bool true)) (.tmp 21))]) (
   .cond (.tmp 22) (
    .seq (
     .reg [.op (some 6) none (.mv (.const (.int .i64 (0)))),
       .op (some 7) none (.mv (.const (.int .i64 (3))))]) (
    .ret)) (
    .skip))) (
  .seq (
   .reg [.op (some 23) none (.mv (.tmp 0)),
     .op (some 24) none (.bin .lss (.tmp 23) (.const (.int .i64 (0)))),
     .op (some 25) none (.mv (.tmp 1)),
     .op (some 26) none (.bin .lss (.tmp 25) (.const (.int .i64 (0)))),
     .op (some 27) none (.beq true (.tmp 24) (.tmp 26)),
     .op (some 8) none (.mv (.tmp 27))]) (
  .seq (
   .reg [.op (some 28) none (.mv (.tmp 0)),
     .call (some 29) none (.func 34) [(.tmp 28)],
     .op (some 30) none (.mv (.tmp 1)),
     .call (some 31) none (.func 34) [(.tmp 30)],
     .op (some 9) none (.mv (.tmp 29)),
     .op (some 10) none (.mv (.tmp 31))]) (
  .seq (
   .draw 9 [.op (some 32) none (.mv (.tmp 9)),
     .op (some 33) none (.mv (.tmp 10)),
     .op (some 34) none (.bin .quo (.tmp 32) (.tmp 33)),
     .op (some 35) none (.mv (.tmp 9)),
     .op (some 36) none (.mv (.tmp 10)),
     .op (some 37) none (.bin .rem (.tmp 35) (.tmp 36)),
     .op (some 38) none (.mv (.tmp 10)),
     .op (some 39) none (.mv (.tmp 8)),
     .op (some 40) none (.mv (.tmp 2)),
     .call (some 41) none (.func 35) [(.tmp 34), (.tmp 37), (.tmp 38), (.tmp 39), (.tmp 40)],
     .op (some 11) none (.mv (.tmp 41))]) (
  .seq (
   .reg [.op (some 42) none (.mv (.tmp 11)),
     .op (some 43) none (.mv (.tmp 8)),
     .call (some 44) none (.func 36) [(.tmp 42), (.tmp 43)],
     .op (some 6) none (.mv (.tmp 44)),
     .op (some 7) none (.mv (.const (.int .i64 (0))))]) (
  .ret))))))))
def k30 : Fun := ⟨45, [.tmp 6, .tmp 7], k30c⟩
theorem k30_ok : compF Try.prog 30 = some k30 := by kernel_rfl
theorem k30_name : ((Try.prog.funcs[30]?).map fun fn => fn.name == "runtime.NumGoroutine") = some false := by kernel_rfl
/-- math/bits.LeadingZeros64 -/
def k31c : C :=
  .seq (
   .reg [.op (some 2) none (.mv (.const (.int .i64 (0))))]) (
  .seq (
   .reg [.op (some 3) none (.mv (.tmp 0)),
     .call (some 4) none (.func 41) [(.tmp 3)],
     .op (some 5) none (.bin .sub (.const (.int .i64 (64))) (.tmp 4)),
     .op (some 2) none (.mv (.tmp 5))]) (
  .ret))
def k31 : Fun := ⟨6, [.tmp 2], k31c⟩
theorem k31_ok : compF Try.prog 31 = some k31 := by kernel_rfl
theorem k31_name : ((Try.prog.funcs[31]?).map fun fn => fn.name == "runtime.NumGoroutine") = some false := by kernel_rfl
/-- guerdon/money.validMode -/
def k32c : C :=
  .seq (
   .reg [.op (some 2) none (.mv (.const (.bool false)))]) (
  .seq (
   .reg [.op (some 3) none (.mv (.tmp 0)),
     .op (some 4) none (.bin .geq (.tmp 3) (.const (.int .i64 (0)))),
     .op (some 5) none (.mv (.tmp 4)),
     .op (some 6) (some (5, true)) (.mv (.tmp 0)),
     .op (some 7) (some (5, true)) (.bin .leq (.tmp 6) (.const (.int .i64 (5)))),
     .op (some 8) none (.pick (.tmp 5) (.tmp 7) (.const (.bool false))),
     .op (some 2) none (.mv (.tmp 8))]) (
  .ret))
def k32 : Fun := ⟨9, [.tmp 2], k32c⟩
theorem k32_ok : compF Try.prog 32 = some k32 := by kernel_rfl
theorem k32_name : ((Try.prog.funcs[32]?).map fun fn => fn.name == "runtime.NumGoroutine") = some false := by kernel_rfl
/-- guerdon/money.beyond -/
def k33c : C :=
  .seq (
   .reg [.op (some 4) none (.mv (.const (.bool false)))]) (
  .seq (
   .reg [.op (some 5) none (.mv (.tmp 0)),
     .op (some 6) none (.mv (.tmp 1)),
     .op (some 7) none (.bin .gtr (.tmp 5) (.tmp 6)),
     .op (some 8) none (.mv (.tmp 7)),
     .op (some 9) (some (8, false)) (.mv (.tmp 0)),
     .op (some 10) (some (8, false)) (.mv (.tmp 1)),
     .op (some 11) (some (8, false)) (.un .neg (.tmp 10)),
     .op (some 12) (some (8, false)) (.bin .lss (.tmp 9) (.tmp 11)),
     .op (some 13) none (.pick (.tmp 8) (.const (.bool true)) (.tmp 12)),
     .op (some 4) none (.mv (.tmp 13))]) (
  .ret))
def k33 : Fun := ⟨14, [.tmp 4], k33c⟩
theorem k33_ok : compF Try.prog 33 = some k33 := by kernel_rfl
theorem k33_name : ((Try.prog.funcs[33]?).map fun fn => fn.name == "runtime.NumGoroutine") = some false := by kernel_rfl
/-- guerdon/money.magnitude -/
def k34c : C :=
  .seq (
   .reg [.op (some 2) none (.mv (.const (.int .u64 (0))))]) (
  .seq (
   .seq (
    .reg [.op (some 3) none (.mv (.tmp 0)),
      .op (some 4) none (.bin .lss (.tmp 3) (.const (.int .i64 (0))))]) (
   .cond (.tmp 4) (
    .seq (
     .reg [.op (some 5) none (.mv (.tmp 0)),
       .op (some 6) none (.conv .u64 (.tmp 5)),
       .op (some 7) none (.un .neg (.tmp 6)),
       .op (some 2) none (.mv (.tmp 7))]) (
    .ret)) (
    .skip))) (
  .seq (
   .reg [.op (some 8) none (.mv (.tmp 0)),
     .op (some 9) none (.conv .u64 (.tmp 8)),
     .op (some 2) none (.mv (.tmp 9))]) (
  .ret)))
def k34 : Fun := ⟨10, [.tmp 2], k34c⟩
theorem k34_ok : compF Try.prog 34 = some k34 := by kernel_rfl
theorem k34_name : ((Try.prog.funcs[34]?).map fun fn => fn.name == "runtime.NumGoroutine") = some false := by kernel_rfl
/-- guerdon/money.roundMagnitude -/
def k35c : C :=
  .seq (
   .reg [.op (some 10) none (.mv (.const (.int .u64 (0))))]) (
  .seq (
   .seq (
    .reg [.op (some 12) none (.mv (.tmp 1)),
      .op (some 13) none (.bin .eql (.tmp 12) (.const (.int .u64 (0))))]) (
   .cond (.tmp 13) (
    .seq (
     .reg [.op (some 14) none (.mv (.tmp 0)),
       .op (some 10) none (.mv (.tmp 14))]) (
    .ret)) (
    .skip))) (
  .seq (
   .reg [.op (some 11) none (.mv (.const (.bool false)))]) (
  .seq (
   .seq (
    .reg [.op (some 15) none (.mv (.tmp 4))]) (
   .block 0 (
    .seq (
     .reg [.op (some 17) none (.bin .eql (.tmp 15) (.const (.int .i64 (0)))),
       .op (some 16) none (.mv (.tmp 17))]) (
    .cond (.tmp 16) (
     .reg [.op (some 18) none (.mv (.tmp 3)),
       .op (some 11) none (.mv (.tmp 18))]) (
     .seq (
      .reg [.op (some 20) none (.bin .eql (.tmp 15) (.const (.int .i64 (1)))),
        .op (some 19) none (.mv (.tmp 20))]) (
     .cond (.tmp 19) (
      .reg [.op (some 21) none (.mv (.tmp 3)),
        .op (some 22) none (.un .not (.tmp 21)),
        .op (some 11) none (.mv (.tmp 22))]) (
      .seq (
       .reg [.op (some 24) none (.bin .eql (.tmp 15) (.const (.int .i64 (3)))),
         .op (some 23) none (.mv (.tmp 24))]) (
      .cond (.tmp 23) (
       .reg [.op (some 11) none (.mv (.const (.bool true)))]) (
       .seq (
        .reg [.op (some 26) none (.bin .eql (.tmp 15) (.const (.int .i64 (4)))),
          .op (some 25) none (.mv (.tmp 26))]) (
       .cond (.tmp 25) (
        .reg [.op (some 27) none (.mv (.tmp 1)),
          .op (some 28) none (.mv (.tmp 2)),
          .op (some 29) none (.mv (.tmp 1)),
          .op (some 30) none (.bin .sub (.tmp 28) (.tmp 29)),
          .op (some 31) none (.bin .geq (.tmp 27) (.tmp 30)),
          .op (some 11) none (.mv (.tmp 31))]) (
        .seq (
         .reg [.op (some 33) none (.bin .eql (.tmp 15) (.const (.int .i64 (5)))),
           .op (some 32) none (.mv (.tmp 33))]) (
        .cond (.tmp 32) (
         .reg [.op (some 34) none (.mv (.tmp 1)),
           .op (some 35) none (.mv (.tmp 2)),
           .op (some 36) none (.mv (.tmp 1)),
           .op (some 37) none (.bin .sub (.tmp 35) (.tmp 36)),
           .op (some 38) none (.bin .gtr (.tmp 34) (.tmp 37)),
           .op (some 39) none (.mv (.tmp 38)),
           .op (some 40) (some (39, false)) (.mv (.tmp 1)),
           .op (some 41) (some (39, false)) (.mv (.tmp 2)),
           .op (some 42) (some (39, false)) (.mv (.tmp 1)),
           .op (some 43) (some (39, false)) (.bin .sub (.tmp 41) (.tmp 42)),
           .op (some 44) (some (39, false)) (.bin .eql (.tmp 40) (.tmp 43)),
           .op (some 45) (some (39, false)) (.mv (.tmp 44)),
           .op (some 46) (some (45, true)) (.mv (.tmp 0)),
           .op (some 47) (some (45, true)) (.bin .rem (.tmp 46) (.const (.int .u64 (2)))),
           .op (some 48) (some (45, true)) (.bin .eql (.tmp 47) (.const (.int .u64 (1)))),
           .op (some 49) (some (39, false)) (.pick (.tmp 45) (.tmp 48) (.const (.bool false))),
           .op (some 50) none (.pick (.tmp 39) (.const (.bool true)) (.tmp 49)),
           .op (some 11) none (.mv (.tmp 50))]) (
         .skip))))))))))))) (
  .seq (
   .seq (
    .reg [.op (some 51) none (.mv (.tmp 11))]) (
   .cond (.tmp 51) (
    .reg [.op (some 52) none (.mv (.tmp 0)),
      .op (some 53) none (.bin .add (.tmp 52) (.const (.int .u64 (1)))),
      .op (some 0) none (.mv (.tmp 53))]) (
    .skip))) (
  .seq (
   .reg [.op (some 54) none (.mv (.tmp 0)),
     .op (some 10) none (.mv (.tmp 54))]) (
  .ret))))))
def k35 : Fun := ⟨55, [.tmp 10], k35c⟩
theorem k35_ok : compF Try.prog 35 = some k35 := by kernel_rfl
theorem k35_name : ((Try.prog.funcs[35]?).map fun fn => fn.name == "runtime.NumGoroutine") = some false := by kernel_rfl
/-- guerdon/money.signed -/
def k36c : C :=
  .seq (
   .reg [.op (some 4) none (.mv (.const (.int .i64 (0))))]) (
  .seq (
   .seq (
    .reg [.op (some 5) none (.mv (.tmp 1))]) (
   .cond (.tmp 5) (
    .seq (
     .reg [.op (some 6) none (.mv (.tmp 0)),
       .op (some 7) none (.conv .i64 (.tmp 6)),
       .op (some 8) none (.un .neg (.tmp 7)),
       .op (some 4) none (.mv (.tmp 8))]) (
    .ret)) (
    .skip))) (
  .seq (
   .reg [.op (some 9) none (.mv (.tmp 0)),
     .op (some 10) none (.conv .i64 (.tmp 9)),
     .op (some 4) none (.mv (.tmp 10))]) (
  .ret)))
def k36 : Fun := ⟨11, [.tmp 4], k36c⟩
theorem k36_ok : compF Try.prog 36 = some k36 := by kernel_rfl
theorem k36_name : ((Try.prog.funcs[36]?).map fun fn => fn.name == "runtime.NumGoroutine") = some false := by kernel_rfl
/-- guerdon/guerdonref02.Mode -/
def k37c : C :=
  .seq (
   .reg [.op (some 2) none (.mv (.const (.bool false)))]) (
  .seq (
   .reg [.op (some 3) none (.mv (.tmp 0)),
     .op (some 4) none (.bin .geq (.tmp 3) (.const (.int .i64 (0)))),
     .op (some 5) none (.mv (.tmp 4)),
     .op (some 6) (some (5, true)) (.mv (.tmp 0)),
     .op (some 7) (some (5, true)) (.bin .leq (.tmp 6) (.const (.int .i64 (5)))),
     .op (some 8) none (.pick (.tmp 5) (.tmp 7) (.const (.bool false))),
     .op (some 2) none (.mv (.tmp 8))]) (
  .ret))
def k37 : Fun := ⟨9, [.tmp 2], k37c⟩
theorem k37_ok : compF Try.prog 37 = some k37 := by kernel_rfl
theorem k37_name : ((Try.prog.funcs[37]?).map fun fn => fn.name == "runtime.NumGoroutine") = some false := by kernel_rfl
/-- guerdon/guerdonref02.Beyond -/
def k38c : C :=
  .seq (
   .reg [.op (some 4) none (.mv (.const (.bool false)))]) (
  .seq (
   .reg [.op (some 5) none (.mv (.tmp 0)),
     .op (some 6) none (.mv (.tmp 1)),
     .op (some 7) none (.bin .gtr (.tmp 5) (.tmp 6)),
     .op (some 8) none (.mv (.tmp 7)),
     .op (some 9) (some (8, false)) (.mv (.tmp 0)),
     .op (some 10) (some (8, false)) (.mv (.tmp 1)),
     .op (some 11) (some (8, false)) (.un .neg (.tmp 10)),
     .op (some 12) (some (8, false)) (.bin .lss (.tmp 9) (.tmp 11)),
     .op (some 13) none (.pick (.tmp 8) (.const (.bool true)) (.tmp 12)),
     .op (some 4) none (.mv (.tmp 13))]) (
  .ret))
def k38 : Fun := ⟨14, [.tmp 4], k38c⟩
theorem k38_ok : compF Try.prog 38 = some k38 := by kernel_rfl
theorem k38_name : ((Try.prog.funcs[38]?).map fun fn => fn.name == "runtime.NumGoroutine") = some false := by kernel_rfl
/-- guerdon/guerdonref02.Abs -/
def k39c : C :=
  .seq (
   .reg [.op (some 2) none (.mv (.const (.int .i64 (0))))]) (
  .seq (
   .seq (
    .reg [.op (some 3) none (.mv (.tmp 0)),
      .op (some 4) none (.bin .lss (.tmp 3) (.const (.int .i64 (0))))]) (
   .cond (.tmp 4) (
    .seq (
     .reg [.op (some 5) none (.mv (.tmp 0)),
       .op (some 6) none (.un .neg (.tmp 5)),
       .op (some 2) none (.mv (.tmp 6))]) (
    .ret)) (
    .skip))) (
  .seq (
   .reg [.op (some 7) none (.mv (.tmp 0)),
     .op (some 2) none (.mv (.tmp 7))]) (
  .ret)))
def k39 : Fun := ⟨8, [.tmp 2], k39c⟩
theorem k39_ok : compF Try.prog 39 = some k39 := by kernel_rfl
theorem k39_name : ((Try.prog.funcs[39]?).map fun fn => fn.name == "runtime.NumGoroutine") = some false := by kernel_rfl
/-- guerdon/guerdonref02.Rounded -/
def k40c : C :=
  .seq (
   .reg [.op (some 10) none (.mv (.const (.int .i64 (0))))]) (
  .seq (
   .reg [.op (some 11) none (.mv (.const (.bool false)))]) (
  .seq (
   .seq (
    .reg [.op (some 12) none (.mv (.tmp 4))]) (
   .block 0 (
    .seq (
     .reg [.op (some 14) none (.bin .eql (.tmp 12) (.const (.int .i64 (0)))),
       .op (some 13) none (.mv (.tmp 14))]) (
    .cond (.tmp 13) (
     .reg [.op (some 15) none (.mv (.tmp 3)),
       .op (some 16) none (.mv (.tmp 15)),
       .op (some 17) (some (16, true)) (.mv (.tmp 1)),
       .op (some 18) (some (16, true)) (.bin .gtr (.tmp 17) (.const (.int .i64 (0)))),
       .op (some 19) none (.pick (.tmp 16) (.tmp 18) (.const (.bool false))),
       .op (some 11) none (.mv (.tmp 19))]) (
     .seq (
      .reg [.op (some 21) none (.bin .eql (.tmp 12) (.const (.int .i64 (1)))),
        .op (some 20) none (.mv (.tmp 21))]) (
     .cond (.tmp 20) (
      .reg [.op (some 22) none (.mv (.tmp 3)),
        .op (some 23) none (.un .not (.tmp 22)),
        .op (some 24) none (.mv (.tmp 23)),
        .op (some 25) (some (24, true)) (.mv (.tmp 1)),
        .op (some 26) (some (24, true)) (.bin .gtr (.tmp 25) (.const (.int .i64 (0)))),
        .op (some 27) none (.pick (.tmp 24) (.tmp 26) (.const (.bool false))),
        .op (some 11) none (.mv (.tmp 27))]) (
      .seq (
       .reg [.op (some 29) none (.bin .eql (.tmp 12) (.const (.int .i64 (3)))),
         .op (some 28) none (.mv (.tmp 29))]) (
      .cond (.tmp 28) (
       .reg [.op (some 30) none (.mv (.tmp 1)),
         .op (some 31) none (.bin .gtr (.tmp 30) (.const (.int .i64 (0)))),
         .op (some 11) none (.mv (.tmp 31))]) (
       .seq (
        .reg [.op (some 33) none (.bin .eql (.tmp 12) (.const (.int .i64 (4)))),
          .op (some 32) none (.mv (.tmp 33))]) (
       .cond (.tmp 32) (
        .reg [.op (some 34) none (.mv (.tmp 1)),
          .op (some 35) none (.mv (.tmp 2)),
          .op (some 36) none (.mv (.tmp 1)),
          .op (some 37) none (.bin .sub (.tmp 35) (.tmp 36)),
          .op (some 38) none (.bin .geq (.tmp 34) (.tmp 37)),
          .op (some 11) none (.mv (.tmp 38))]) (
        .seq (
         .reg [.op (some 40) none (.bin .eql (.tmp 12) (.const (.int .i64 (5)))),
           .op (some 39) none (.mv (.tmp 40))]) (
        .cond (.tmp 39) (
         .reg [.op (some 41) none (.mv (.tmp 1)),
           .op (some 42) none (.mv (.tmp 2)),
           .op (some 43) none (.mv (.tmp 1)),
           .op (some 44) none (.bin .sub (.tmp 42) (.tmp 43)),
           .op (some 45) none (.bin .gtr (.tmp 41) (.tmp 44)),
           .op (some 46) none (.mv (.tmp 45)),
           .op (some 47) (some (46, false)) (.mv (.tmp 1)),
           .op (some 48) (some (46, false)) (.mv (.tmp 2)),
           .op (some 49) (some (46, false)) (.mv (.tmp 1)),
           .op (some 50) (some (46, false)) (.bin .sub (.tmp 48) (.tmp 49)),
           .op (some 51) (some (46, false)) (.bin .eql (.tmp 47) (.tmp 50)),
           .op (some 52) (some (46, false)) (.mv (.tmp 51)),
           .op (some 53) (some (52, true)) (.mv (.tmp 0)),
           .op (some 54) (some (52, true)) (.bin .rem (.tmp 53) (.const (.int .i64 (2)))),
           .op (some 55) (some (52, true)) (.bin .eql (.tmp 54) (.const (.int .i64 (1)))),
           .op (some 56) (some (46, false)) (.pick (.tmp 52) (.tmp 55) (.const (.bool false))),
           .op (some 57) none (.pick (.tmp 46) (.const (.bool true)) (.tmp 56)),
           .op (some 11) none (.mv (.tmp 57))]) (
         .skip))))))))))))) (
  .seq (
   .seq (
    .reg [.op (some 58) none (.mv (.tmp 11))]) (
   .cond (.tmp 58) (
    .reg [.op (some 59) none (.mv (.tmp 0)),
      .op (some 60) none (.bin .add (.tmp 59) (.const (.int .i64 (1)))),
      .op (some 0) none (.mv (.tmp 60))]) (
    .skip))) (
  .seq (
   .seq (
    .reg [.op (some 61) none (.mv (.tmp 3))]) (
   .cond (.tmp 61) (
    .seq (
     .reg [.op (some 62) none (.mv (.tmp 0)),
       .op (some 63) none (.un .neg (.tmp 62)),
       .op (some 10) none (.mv (.tmp 63))]) (
    .ret)) (
    .skip))) (
  .seq (
   .reg [.op (some 64) none (.mv (.tmp 0)),
     .op (some 10) none (.mv (.tmp 64))]) (
  .ret))))))
def k40 : Fun := ⟨65, [.tmp 10], k40c⟩
theorem k40_ok : compF Try.prog 40 = some k40 := by kernel_rfl
theorem k40_name : ((Try.prog.funcs[40]?).map fun fn => fn.name == "runtime.NumGoroutine") = some false := by kernel_rfl
/-- math/bits.Len64 -/
def k41c : C :=
  .seq (
   .reg [.op (some 2) none (.mv (.const (.int .i64 (0))))]) (
  .seq (
   .seq (
    .reg [.op (some 3) none (.mv (.tmp 0)),
      .op (some 4) none (.bin .geq (.tmp 3) (.const (.int .u64 (4294967296))))]) (
   .cond (.tmp 4) (
    .seq (
     .reg [.op (some 5) none (.mv (.tmp 0)),
       .op (some 6) none (.bin .shr (.tmp 5) (.const (.int .u64 (32)))),
       .op (some 0) none (.mv (.tmp 6))]) (
    .reg [.op (some 2) none (.mv (.const (.int .i64 (32))))])) (
    .skip))) (
  .seq (
   .seq (
    .reg [.op (some 7) none (.mv (.tmp 0)),
      .op (some 8) none (.bin .geq (.tmp 7) (.const (.int .u64 (65536))))]) (
   .cond (.tmp 8) (
    .seq (
     .reg [.op (some 9) none (.mv (.tmp 0)),
       .op (some 10) none (.bin .shr (.tmp 9) (.const (.int .u64 (16)))),
       .op (some 0) none (.mv (.tmp 10))]) (
    .reg [.op (some 11) none (.mv (.tmp 2)),
      .op (some 12) none (.bin .add (.tmp 11) (.const (.int .i64 (16)))),
      .op (some 2) none (.mv (.tmp 12))])) (
    .skip))) (
  .seq (
   .seq (
    .reg [.op (some 13) none (.mv (.tmp 0)),
      .op (some 14) none (.bin .geq (.tmp 13) (.const (.int .u64 (256))))]) (
   .cond (.tmp 14) (
    .seq (
     .reg [.op (some 15) none (.mv (.tmp 0)),
       .op (some 16) none (.bin .shr (.tmp 15) (.const (.int .u64 (8)))),
       .op (some 0) none (.mv (.tmp 16))]) (
    .reg [.op (some 17) none (.mv (.tmp 2)),
      .op (some 18) none (.bin .add (.tmp 17) (.const (.int .i64 (8)))),
      .op (some 2) none (.mv (.tmp 18))])) (
    .skip))) (
  .seq (
   .reg [.op (some 19) none (.mv (.tmp 2)),
     .op (some 20) none (.mv (.tmp 0)),
     .op (some 21) none (.conv .u8 (.tmp 20)),
     .op (some 22) none (.sidx (.const (.string ⟨#[0, 1, 2, 2, 3, 3, 3, 3, 4, 4, 4, 4, 4, 4, 4, 4, 5, 5, 5, 5, 5, 5, 5, 5, 5, 5, 5, 5, 5, 5, 5, 5, 6, 6, 6, 6, 6, 6, 6, 6, 6, 6, 6, 6, 6, 6, 6, 6, 6, 6, 6, 6, 6, 6, 6, 6, 6, 6, 6, 6, 6, 6, 6, 6, 7, 7, 7, 7, 7, 7, 7, 7, 7, 7, 7, 7, 7, 7, 7, 7, 7, 7, 7, 7, 7, 7, 7, 7, 7, 7, 7, 7, 7, 7, 7, 7, 7, 7, 7, 7, 7, 7, 7, 7, 7, 7, 7, 7, 7, 7, 7, 7, 7, 7, 7, 7, 7, 7, 7, 7, 7, 7, 7, 7, 7, 7, 7, 7, 8, 8, 8, 8, 8, 8, 8, 8, 8, 8, 8, 8, 8, 8, 8, 8, 8, 8, 8, 8, 8, 8, 8, 8, 8, 8, 8, 8, 8, 8, 8, 8, 8, 8, 8, 8, 8, 8, 8, 8, 8, 8, 8, 8, 8, 8, 8, 8, 8, 8, 8, 8, 8, 8, 8, 8, 8, 8, 8, 8, 8, 8, 8, 8, 8, 8, 8, 8, 8, 8, 8, 8, 8, 8, 8, 8, 8, 8, 8, 8, 8, 8, 8, 8, 8, 8, 8, 8, 8, 8, 8, 8, 8, 8, 8, 8, 8, 8, 8, 8, 8, 8, 8, 8, 8, 8, 8, 8, 8, 8, 8, 8, 8, 8, 8, 8, 8, 8, 8, 8, 8, 8, 8, 8, 8, 8, 8, 8]⟩)) (.tmp 21)),
     .op (some 23) none (.conv .i64 (.tmp 22)),
     .op (some 24) none (.bin .add (.tmp 19) (.tmp 23)),
     .op (some 2) none (.mv (.tmp 24))]) (
  .ret)))))
def k41 : Fun := ⟨25, [.tmp 2], k41c⟩
theorem k41_ok : compF Try.prog 41 = some k41 := by kernel_rfl
theorem k41_name : ((Try.prog.funcs[41]?).map fun fn => fn.name == "runtime.NumGoroutine") = some false := by kernel_rfl
def tab : List (Nat × Fun) := [(2, k2), (3, k3), (4, k4), (5, k5), (6, k6), (7, k7), (8, k8), (9, k9), (10, k10), (11, k11), (12, k12), (13, k13), (14, k14), (15, k15), (16, k16), (17, k17), (18, k18), (19, k19), (20, k20), (21, k21), (22, k22), (23, k23), (24, k24), (25, k25), (26, k26), (27, k27), (28, k28), (29, k29), (30, k30), (31, k31), (32, k32), (33, k33), (34, k34), (35, k35), (36, k36), (37, k37), (38, k38), (39, k39), (40, k40), (41, k41)]
theorem tab_ok : TabOk Try.prog tab := by
  unfold TabOk tab
  simp only [List.forall_mem_cons]
  exact ⟨⟨k2_ok, k2_name⟩, ⟨k3_ok, k3_name⟩, ⟨k4_ok, k4_name⟩, ⟨k5_ok, k5_name⟩, ⟨k6_ok, k6_name⟩, ⟨k7_ok, k7_name⟩, ⟨k8_ok, k8_name⟩, ⟨k9_ok, k9_name⟩, ⟨k10_ok, k10_name⟩, ⟨k11_ok, k11_name⟩, ⟨k12_ok, k12_name⟩, ⟨k13_ok, k13_name⟩, ⟨k14_ok, k14_name⟩, ⟨k15_ok, k15_name⟩, ⟨k16_ok, k16_name⟩, ⟨k17_ok, k17_name⟩, ⟨k18_ok, k18_name⟩, ⟨k19_ok, k19_name⟩, ⟨k20_ok, k20_name⟩, ⟨k21_ok, k21_name⟩, ⟨k22_ok, k22_name⟩, ⟨k23_ok, k23_name⟩, ⟨k24_ok, k24_name⟩, ⟨k25_ok, k25_name⟩, ⟨k26_ok, k26_name⟩, ⟨k27_ok, k27_name⟩, ⟨k28_ok, k28_name⟩, ⟨k29_ok, k29_name⟩, ⟨k30_ok, k30_name⟩, ⟨k31_ok, k31_name⟩, ⟨k32_ok, k32_name⟩, ⟨k33_ok, k33_name⟩, ⟨k34_ok, k34_name⟩, ⟨k35_ok, k35_name⟩, ⟨k36_ok, k36_name⟩, ⟨k37_ok, k37_name⟩, ⟨k38_ok, k38_name⟩, ⟨k39_ok, k39_name⟩, ⟨k40_ok, k40_name⟩, ⟨k41_ok, k41_name⟩, fun _ h => (by cases h)⟩
end Go.Proofs.Ytmocaajdcjgohaa
