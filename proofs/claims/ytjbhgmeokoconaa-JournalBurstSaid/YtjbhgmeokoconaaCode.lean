/-
  The functions' code in the engine's form, written by a program off the translation; the kernel compares it with what comp gives.
-/
import Derived.Test.YtjbhgmeokoconaaProg
import Derived.Test.YtjbhgmeokoconaaTmX
import Derived.KernelRfl
namespace Go.Proofs.Ytjbhgmeokoconaa
open Go.Tm
set_option maxRecDepth 20000
/-- gosem.cut.init -/
def k2c : C :=
  .reg [.call (some 0) none (.func 1) []]
def k2 : Fun := ⟨1, [], k2c⟩
theorem k2_ok : compF Try.prog 2 = some k2 := by kernel_rfl
theorem k2_name : ((Try.prog.funcs[2]?).map fun fn => fn.name == "runtime.NumGoroutine") = some false := by kernel_rfl
/-- guerdon/guerdonlaw47.JournalChecksum -/
def k3c : C :=
  .seq (
   .reg [.op (some 2) none (.mv (.const (.bool false)))]) (
  .seq (
   .seq (
    .reg [.op (some 3) none (.mv (.tmp 0)),
      .op (some 4) none (.len (.tmp 3)),
      .op (some 5) none (.bin .gtr (.tmp 4) (.const (.int .i64 (3000))))]) (
   .cond (.tmp 5) (
    .seq (
     .reg [.call (some 6) none (.func 10) [],
       .op (some 2) none (.mv (.tmp 6))]) (
    .ret)) (
    .skip))) (
  .seq (
   .reg [.op (some 7) none (.mv (.tmp 0)),
     .call (some 8) none (.func 11) [(.tmp 7)],
     .op (some 9) none (.mv (.tmp 0)),
     .call (some 10) none (.func 12) [(.tmp 9)],
     .op (some 11) none (.bin .eql (.tmp 8) (.tmp 10)),
     .op (some 12) none (.mv (.tmp 11)),
     .call (some 13) (some (12, true)) (.func 10) [],
     .op (some 14) none (.pick (.tmp 12) (.tmp 13) (.const (.bool false))),
     .op (some 2) none (.mv (.tmp 14))]) (
  .ret)))
def k3 : Fun := ⟨15, [.tmp 2], k3c⟩
theorem k3_ok : compF Try.prog 3 = some k3 := by kernel_rfl
theorem k3_name : ((Try.prog.funcs[3]?).map fun fn => fn.name == "runtime.NumGoroutine") = some false := by kernel_rfl
/-- guerdon/guerdonlaw47.JournalEncode -/
def k4c : C :=
  .seq (
   .reg [.op (some 1) none (.box 9 (.tmp 0)),
     .op (some 2) none (.mv (.const (.bool false)))]) (
  .seq (
   .seq (
    .reg [.op (some 7) none (.faddr false 1 8 (.tmp 1)),
      .op (some 8) none (.load false 1 (.tmp 7)),
      .op (some 9) none (.len (.tmp 8)),
      .op (some 10) none (.bin .gtr (.tmp 9) (.const (.int .i64 (200))))]) (
   .cond (.tmp 10) (
    .seq (
     .reg [.call (some 11) none (.func 10) [],
       .op (some 2) none (.mv (.tmp 11))]) (
    .ret)) (
    .skip))) (
  .seq (
   .reg [.op (some 13) none (.load true 9 (.tmp 1)),
     .call (some 14) none (.func 13) [(.tmp 13)],
     .op (some 12) none (.mv (.tmp 14)),
     .op (some 15) none (.extract (.tmp 12) 0),
     .op (some 16) none (.extract (.tmp 12) 1),
     .op (some 3) none (.mv (.tmp 15)),
     .op (some 4) none (.mv (.tmp 16))]) (
  .seq (
   .reg [.op (some 18) none (.load true 9 (.tmp 1)),
     .call (some 19) none (.func 14) [(.tmp 18)],
     .op (some 17) none (.mv (.tmp 19)),
     .op (some 20) none (.extract (.tmp 17) 0),
     .op (some 21) none (.extract (.tmp 17) 1),
     .op (some 5) none (.mv (.tmp 20)),
     .op (some 6) none (.mv (.tmp 21))]) (
  .seq (
   .reg [.op (some 22) none (.mv (.tmp 3)),
     .op (some 23) none (.mv (.tmp 5)),
     .call (some 24) none (.func 15) [(.tmp 22), (.tmp 23)],
     .op (some 25) none (.mv (.tmp 24)),
     .op (some 26) (some (25, true)) (.mv (.tmp 4)),
     .op (some 27) (some (25, true)) (.mv (.tmp 6)),
     .op (some 28) (some (25, true)) (.bin .eql (.tmp 26) (.tmp 27)),
     .op (some 29) none (.pick (.tmp 25) (.tmp 28) (.const (.bool false))),
     .op (some 30) none (.mv (.tmp 29)),
     .op (some 31) (some (30, true)) (.mv (.tmp 3)),
     .op (some 32) (some (30, true)) (.len (.tmp 31)),
     .op (some 33) (some (30, true)) (.faddr false 1 8 (.tmp 1)),
     .op (some 34) (some (30, true)) (.load false 1 (.tmp 33)),
     .op (some 35) (some (30, true)) (.len (.tmp 34)),
     .op (some 36) (some (30, true)) (.bin .mul (.const (.int .i64 (32))) (.tmp 35)),
     .op (some 37) (some (30, true)) (.bin .add (.const (.int .i64 (80))) (.tmp 36)),
     .op (some 38) (some (30, true)) (.bin .eql (.tmp 32) (.tmp 37)),
     .op (some 39) none (.pick (.tmp 30) (.tmp 38) (.const (.bool false))),
     .op (some 40) none (.mv (.tmp 39)),
     .call (some 41) (some (40, true)) (.func 10) [],
     .op (some 42) none (.pick (.tmp 40) (.tmp 41) (.const (.bool false))),
     .op (some 2) none (.mv (.tmp 42))]) (
  .ret)))))
def k4 : Fun := ⟨43, [.tmp 2], k4c⟩
theorem k4_ok : compF Try.prog 4 = some k4 := by kernel_rfl
theorem k4_name : ((Try.prog.funcs[4]?).map fun fn => fn.name == "runtime.NumGoroutine") = some false := by kernel_rfl
/-- guerdon/guerdonlaw47.JournalTooLong -/
def k5c : C :=
  .seq (
   .reg [.op (some 2) none (.box 9 (.tmp 0)),
     .op (some 4) none (.mv (.const (.bool false)))]) (
  .seq (
   .reg [.op (some 7) none (.mv (.tmp 1)),
     .op (some 8) none (.bin .rem (.tmp 7) (.const (.int .u8 (5)))),
     .op (some 9) none (.conv .i64 (.tmp 8)),
     .op (some 10) none (.bin .add (.const (.int .i64 (4094))) (.tmp 9)),
     .op (some 11) none (.mkslice 4 32 (.agg [(.v (.int .i64 (0))), (.v (.int .i64 (0))), (.v (.int .i64 (0))), (.v (.int .i64 (0)))]) (.tmp 10) (.tmp 10)),
     .op (some 12) none (.faddr false 1 8 (.tmp 2)),
     .op none none (.store 1 (.tmp 12) (.tmp 11))]) (
  .seq (
   .reg [.op (some 14) none (.load true 9 (.tmp 2)),
     .call (some 15) none (.func 13) [(.tmp 14)],
     .op (some 13) none (.mv (.tmp 15)),
     .op (some 16) none (.extract (.tmp 13) 0),
     .op (some 17) none (.extract (.tmp 13) 1),
     .op (some 5) none (.mv (.tmp 16)),
     .op (some 6) none (.mv (.tmp 17))]) (
  .seq (
   .seq (
    .reg [.op (some 18) none (.faddr false 1 8 (.tmp 2)),
      .op (some 19) none (.load false 1 (.tmp 18)),
      .op (some 20) none (.len (.tmp 19)),
      .op (some 21) none (.bin .gtr (.tmp 20) (.const (.int .i64 (4096))))]) (
   .cond (.tmp 21) (
    .seq (
     .reg [.op (some 22) none (.mv (.tmp 5)),
       .op (some 23) none (.len (.tmp 22)),
       .op (some 24) none (.bin .eql (.tmp 23) (.const (.int .i64 (0)))),
       .op (some 25) none (.mv (.tmp 24)),
       .op (some 26) (some (25, true)) (.mv (.tmp 6)),
       .op (some 27) (some (25, true)) (.bin .eql (.tmp 26) (.const (.int .i64 (4)))),
       .op (some 28) none (.pick (.tmp 25) (.tmp 27) (.const (.bool false))),
       .op (some 29) none (.mv (.tmp 28)),
       .call (some 30) (some (29, true)) (.func 10) [],
       .op (some 31) none (.pick (.tmp 29) (.tmp 30) (.const (.bool false))),
       .op (some 4) none (.mv (.tmp 31))]) (
    .ret)) (
    .skip))) (
  .seq (
   .reg [.op (some 32) none (.mv (.tmp 5)),
     .op (some 33) none (.len (.tmp 32)),
     .op (some 34) none (.faddr false 1 8 (.tmp 2)),
     .op (some 35) none (.load false 1 (.tmp 34)),
     .op (some 36) none (.len (.tmp 35)),
     .op (some 37) none (.bin .mul (.const (.int .i64 (32))) (.tmp 36)),
     .op (some 38) none (.bin .add (.const (.int .i64 (80))) (.tmp 37)),
     .op (some 39) none (.bin .eql (.tmp 33) (.tmp 38)),
     .op (some 40) none (.mv (.tmp 39)),
     .op (some 41) (some (40, true)) (.mv (.tmp 6)),
     .op (some 42) (some (40, true)) (.bin .eql (.tmp 41) (.const (.int .i64 (0)))),
     .op (some 43) none (.pick (.tmp 40) (.tmp 42) (.const (.bool false))),
     .op (some 44) none (.mv (.tmp 43)),
     .call (some 45) (some (44, true)) (.func 10) [],
     .op (some 46) none (.pick (.tmp 44) (.tmp 45) (.const (.bool false))),
     .op (some 4) none (.mv (.tmp 46))]) (
  .ret)))))
def k5 : Fun := ⟨47, [.tmp 4], k5c⟩
theorem k5_ok : compF Try.prog 5 = some k5 := by kernel_rfl
theorem k5_name : ((Try.prog.funcs[5]?).map fun fn => fn.name == "runtime.NumGoroutine") = some false := by kernel_rfl
/-- guerdon/guerdonlaw47.JournalDecode -/
def k6c : C :=
  .seq (
   .reg [.op (some 2) none (.mv (.const (.bool false)))]) (
  .seq (
   .seq (
    .reg [.op (some 7) none (.mv (.tmp 0)),
      .op (some 8) none (.len (.tmp 7)),
      .op (some 9) none (.bin .gtr (.tmp 8) (.const (.int .i64 (6000))))]) (
   .cond (.tmp 9) (
    .seq (
     .reg [.call (some 10) none (.func 10) [],
       .op (some 2) none (.mv (.tmp 10))]) (
    .ret)) (
    .skip))) (
  .seq (
   .reg [.op (some 12) none (.mv (.tmp 0)),
     .call (some 13) none (.func 16) [(.tmp 12)],
     .op (some 11) none (.mv (.tmp 13)),
     .op (some 14) none (.extract (.tmp 11) 0),
     .op (some 15) none (.extract (.tmp 11) 1),
     .op (some 3) none (.mv (.tmp 14)),
     .op (some 4) none (.mv (.tmp 15))]) (
  .seq (
   .reg [.op (some 17) none (.mv (.tmp 0)),
     .call (some 18) none (.func 17) [(.tmp 17)],
     .op (some 16) none (.mv (.tmp 18)),
     .op (some 19) none (.extract (.tmp 16) 0),
     .op (some 20) none (.extract (.tmp 16) 1),
     .op (some 5) none (.mv (.tmp 19)),
     .op (some 6) none (.mv (.tmp 20))]) (
  .seq (
   .draw 14 [.op (some 21) none (.mv (.tmp 3)),
     .op (some 22) none (.mv (.tmp 5)),
     .call (some 23) none (.func 18) [(.tmp 21), (.tmp 22)],
     .op (some 24) none (.mv (.tmp 23)),
     .op (some 25) (some (24, true)) (.mv (.tmp 4)),
     .op (some 26) (some (24, true)) (.mv (.tmp 6)),
     .op (some 27) (some (24, true)) (.bin .eql (.tmp 25) (.tmp 26)),
     .op (some 28) none (.pick (.tmp 24) (.tmp 27) (.const (.bool false))),
     .op (some 29) none (.mv (.tmp 28)),
     .op (some 30) (some (29, true)) (.mv (.tmp 3)),
     .call (some 31) (some (29, true)) (.func 19) [(.tmp 30)],
     .op (some 32) (some (29, true)) (.mv (.tmp 0)),
     .op (some 33) (some (29, true)) (.mv (.tmp 4)),
     .op (some 34) (some (29, true)) (.slice 1 (.tmp 32) none (some (.tmp 33)) none),
     .call (some 35) (some (29, true)) (.func 15) [(.tmp 31), (.tmp 34)],
     .op (some 36) none (.pick (.tmp 29) (.tmp 35) (.const (.bool false))),
     .op (some 37) none (.mv (.tmp 36)),
     .call (some 38) (some (37, true)) (.func 10) [],
     .op (some 39) none (.pick (.tmp 37) (.tmp 38) (.const (.bool false))),
     .op (some 2) none (.mv (.tmp 39))]) (
  .ret)))))
def k6 : Fun := ⟨40, [.tmp 2], k6c⟩
theorem k6_ok : compF Try.prog 6 = some k6 := by kernel_rfl
theorem k6_name : ((Try.prog.funcs[6]?).map fun fn => fn.name == "runtime.NumGoroutine") = some false := by kernel_rfl
/-- guerdon/guerdonlaw47.JournalRoundTrip -/
def k7c : C :=
  .seq (
   .reg [.op (some 2) none (.mv (.const (.bool false)))]) (
  .seq (
   .seq (
    .reg [.op (some 6) none (.mv (.tmp 0)),
      .call (some 7) none (.func 20) [(.tmp 6)],
      .op (some 8) none (.un .not (.tmp 7))]) (
   .cond (.tmp 8) (
    .seq (
     .reg [.call (some 9) none (.func 10) [],
       .op (some 2) none (.mv (.tmp 9))]) (
    .ret)) (
    .skip))) (
  .seq (
   .reg [.op (some 10) none (.mv (.tmp 0)),
     .call (some 11) none (.func 19) [(.tmp 10)],
     .op (some 3) none (.mv (.tmp 11))]) (
  .seq (
   .reg [.op (some 13) none (.mv (.tmp 3)),
     .call (some 14) none (.func 16) [(.tmp 13)],
     .op (some 12) none (.mv (.tmp 14)),
     .op (some 15) none (.extract (.tmp 12) 0),
     .op (some 16) none (.extract (.tmp 12) 1),
     .op (some 4) none (.mv (.tmp 15)),
     .op (some 5) none (.mv (.tmp 16))]) (
  .seq (
   .reg [.op (some 17) none (.mv (.tmp 0)),
     .op (some 18) none (.mv (.tmp 4)),
     .call (some 19) none (.func 18) [(.tmp 17), (.tmp 18)],
     .op (some 20) none (.mv (.tmp 19)),
     .op (some 21) (some (20, true)) (.mv (.tmp 5)),
     .op (some 22) (some (20, true)) (.mv (.tmp 3)),
     .op (some 23) (some (20, true)) (.len (.tmp 22)),
     .op (some 24) (some (20, true)) (.bin .eql (.tmp 21) (.tmp 23)),
     .op (some 25) none (.pick (.tmp 20) (.tmp 24) (.const (.bool false))),
     .op (some 26) none (.mv (.tmp 25)),
     .call (some 27) (some (26, true)) (.func 10) [],
     .op (some 28) none (.pick (.tmp 26) (.tmp 27) (.const (.bool false))),
     .op (some 2) none (.mv (.tmp 28))]) (
  .ret)))))
def k7 : Fun := ⟨29, [.tmp 2], k7c⟩
theorem k7_ok : compF Try.prog 7 = some k7 := by kernel_rfl
theorem k7_name : ((Try.prog.funcs[7]?).map fun fn => fn.name == "runtime.NumGoroutine") = some false := by kernel_rfl
/-- guerdon/guerdonlaw47.JournalTornTail -/
def k8c : C :=
  .seq (
   .reg [.op (some 4) none (.mv (.const (.bool false)))]) (
  .seq (
   .seq (
    .reg [.op (some 12) none (.mv (.tmp 0)),
      .call (some 13) none (.func 20) [(.tmp 12)],
      .op (some 14) none (.un .not (.tmp 13))]) (
   .cond (.tmp 14) (
    .seq (
     .reg [.call (some 15) none (.func 10) [],
       .op (some 4) none (.mv (.tmp 15))]) (
    .ret)) (
    .skip))) (
  .seq (
   .reg [.op (some 16) none (.mv (.tmp 0)),
     .call (some 17) none (.func 19) [(.tmp 16)],
     .op (some 5) none (.mv (.tmp 17))]) (
  .seq (
   .reg [.op (some 18) none (.mv (.tmp 1)),
     .op (some 19) none (.conv .i64 (.tmp 18)),
     .op (some 20) none (.mv (.tmp 5)),
     .op (some 21) none (.len (.tmp 20)),
     .op (some 22) none (.bin .add (.tmp 21) (.const (.int .i64 (1)))),
     .op (some 23) none (.bin .rem (.tmp 19) (.tmp 22)),
     .op (some 6) none (.mv (.tmp 23))]) (
  .seq (
   .reg [.op (some 25) none (.mv (.tmp 5)),
     .op (some 26) none (.mv (.tmp 6)),
     .op (some 27) none (.slice 1 (.tmp 25) none (some (.tmp 26)) none),
     .call (some 28) none (.func 16) [(.tmp 27)],
     .op (some 24) none (.mv (.tmp 28)),
     .op (some 29) none (.extract (.tmp 24) 0),
     .op (some 30) none (.extract (.tmp 24) 1),
     .op (some 7) none (.mv (.tmp 29)),
     .op (some 8) none (.mv (.tmp 30))]) (
  .seq (
   .reg [.op (some 9) none (.mv (.const (.int .i64 (0)))),
     .op (some 10) none (.mv (.const (.int .i64 (0))))]) (
  .seq (
   .seq (
    .reg [.op (some 11) none (.mv (.const (.int .i64 (0))))]) (
   .block 0 (
    .loop (
     .seq (
      .seq (
       .reg [.op (some 31) none (.mv (.tmp 11)),
         .op (some 32) none (.mv (.tmp 0)),
         .op (some 33) none (.len (.tmp 32)),
         .op (some 34) none (.bin .lss (.tmp 31) (.tmp 33)),
         .op (some 35) none (.mv (.tmp 34)),
         .op (some 36) (some (35, true)) (.mv (.tmp 10)),
         .op (some 37) (some (35, true)) (.bin .add (.tmp 36) (.const (.int .i64 (80)))),
         .op (some 38) (some (35, true)) (.mv (.tmp 0)),
         .op (some 39) (some (35, true)) (.mv (.tmp 11)),
         .op (some 40) (some (35, true)) (.iaddr 9 (.tmp 38) (.tmp 39)),
         .op (some 41) (some (35, true)) (.faddr false 1 8 (.tmp 40)),
         .op (some 42) (some (35, true)) (.load false 1 (.tmp 41)),
         .op (some 43) (some (35, true)) (.len (.tmp 42)),
         .op (some 44) (some (35, true)) (.bin .mul (.const (.int .i64 (32))) (.tmp 43)),
         .op (some 45) (some (35, true)) (.bin .add (.tmp 37) (.tmp 44)),
         .op (some 46) (some (35, true)) (.mv (.tmp 6)),
         .op (some 47) (some (35, true)) (.bin .leq (.tmp 45) (.tmp 46)),
         .op (some 48) none (.pick (.tmp 35) (.tmp 47) (.const (.bool false)))]) (
      .cond (.tmp 48) (
       .skip) (
       .exit 0))) (
     .seq (
      .block 1 (
       .seq (
        .reg [.op (some 51) none (.mv (.tmp 10)),
          .op (some 52) none (.bin .add (.tmp 51) (.const (.int .i64 (80)))),
          .op (some 53) none (.mv (.tmp 0)),
          .op (some 54) none (.mv (.tmp 11)),
          .op (some 55) none (.iaddr 9 (.tmp 53) (.tmp 54)),
          .op (some 56) none (.faddr false 1 8 (.tmp 55)),
          .op (some 57) none (.load false 1 (.tmp 56)),
          .op (some 58) none (.len (.tmp 57)),
          .op (some 59) none (.bin .mul (.const (.int .i64 (32))) (.tmp 58)),
          .op (some 60) none (.bin .add (.tmp 52) (.tmp 59)),
          .op (some 10) none (.mv (.tmp 60))]) (
       .reg [.op (some 61) none (.mv (.tmp 9)),
         .op (some 62) none (.bin .add (.tmp 61) (.const (.int .i64 (1)))),
         .op (some 9) none (.mv (.tmp 62))]))) (
     .reg [.op (some 49) none (.mv (.tmp 11)),
       .op (some 50) none (.bin .add (.tmp 49) (.const (.int .i64 (1)))),
       .op (some 11) none (.mv (.tmp 50))])))))) (
  .seq (
   .reg [.op (some 63) none (.mv (.tmp 7)),
     .op (some 64) none (.len (.tmp 63)),
     .op (some 65) none (.mv (.tmp 9)),
     .op (some 66) none (.bin .eql (.tmp 64) (.tmp 65)),
     .op (some 67) none (.mv (.tmp 66)),
     .op (some 68) (some (67, true)) (.mv (.tmp 8)),
     .op (some 69) (some (67, true)) (.mv (.tmp 10)),
     .op (some 70) (some (67, true)) (.bin .eql (.tmp 68) (.tmp 69)),
     .op (some 71) none (.pick (.tmp 67) (.tmp 70) (.const (.bool false))),
     .op (some 72) none (.mv (.tmp 71)),
     .op (some 73) (some (72, true)) (.mv (.tmp 7)),
     .op (some 74) (some (72, true)) (.mv (.tmp 0)),
     .op (some 75) (some (72, true)) (.mv (.tmp 9)),
     .op (some 76) (some (72, true)) (.slice 9 (.tmp 74) none (some (.tmp 75)) none),
     .call (some 77) (some (72, true)) (.func 18) [(.tmp 73), (.tmp 76)],
     .op (some 78) none (.pick (.tmp 72) (.tmp 77) (.const (.bool false))),
     .op (some 79) none (.mv (.tmp 78)),
     .call (some 80) (some (79, true)) (.func 10) [],
     .op (some 81) none (.pick (.tmp 79) (.tmp 80) (.const (.bool false))),
     .op (some 4) none (.mv (.tmp 81))]) (
  .ret))))))))
def k8 : Fun := ⟨82, [.tmp 4], k8c⟩
theorem k8_ok : compF Try.prog 8 = some k8 := by kernel_rfl
theorem k8_name : ((Try.prog.funcs[8]?).map fun fn => fn.name == "runtime.NumGoroutine") = some false := by kernel_rfl
/-- guerdon/guerdonlaw47.JournalBurst -/
def k9c : C :=
  .seq (
   .reg [.op (some 3) none (.box 9 (.tmp 0)),
     .op (some 6) none (.mv (.const (.bool false)))]) (
  .seq (
   .seq (
    .reg [.op (some 16) none (.load true 9 (.tmp 3)),
      .op (some 17) none (.bslice 9 1 (.agg [(.v (.int .i64 (0))), (.v (.int .i64 (0))), (.v (.int .i64 (0))), (.v (.int .i64 (0))), (.v (.int .i64 (0))), (.v (.int .i64 (0))), (.v (.int .i64 (0))), (.v (.int .i64 (0))), (.v (.slice none 0 0))]) [(0, (.tmp 16))]),
      .call (some 18) none (.func 20) [(.tmp 17)],
      .op (some 19) none (.un .not (.tmp 18)),
      .op (some 20) none (.mv (.tmp 19)),
      .op (some 21) (some (20, false)) (.mv (.tmp 2)),
      .op (some 22) (some (20, false)) (.bin .eql (.tmp 21) (.const (.int .u32 (0)))),
      .op (some 23) none (.pick (.tmp 20) (.const (.bool true)) (.tmp 22))]) (
   .cond (.tmp 23) (
    .seq (
     .reg [.call (some 24) none (.func 10) [],
       .op (some 6) none (.mv (.tmp 24))]) (
    .ret)) (
    .skip))) (
  .seq (
   .reg [.op (some 26) none (.load true 9 (.tmp 3)),
     .call (some 27) none (.func 13) [(.tmp 26)],
     .op (some 25) none (.mv (.tmp 27)),
     .op (some 28) none (.extract (.tmp 25) 0),
     .op (some 29) none (.extract (.tmp 25) 1),
     .op (some 7) none (.mv (.tmp 28)),
     .op (some 8) none (.mv (.tmp 29))]) (
  .seq (
   .seq (
    .reg [.op (some 30) none (.mv (.tmp 8)),
      .op (some 31) none (.bin .neq (.tmp 30) (.const (.int .i64 (0)))),
      .op (some 32) none (.mv (.tmp 31)),
      .op (some 33) (some (32, false)) (.mv (.tmp 7)),
      .op (some 34) (some (32, false)) (.len (.tmp 33)),
      .op (some 35) (some (32, false)) (.bin .lss (.tmp 34) (.const (.int .i64 (80)))),
      .op (some 36) none (.pick (.tmp 32) (.const (.bool true)) (.tmp 35))]) (
   .cond (.tmp 36) (
    .seq (
     .reg [.op (some 6) none (.mv (.const (.bool false)))]) (
    .ret)) (
    .skip))) (
  .seq (
   .reg [.op (some 37) none (.bslice 1 0 (.v (.int .u8 (0))) []),
     .op (some 38) none (.mv (.tmp 7)),
     .op (some 39) none (.append 1 1 (.tmp 37) (.tmp 38)),
     .op (some 7) none (.mv (.tmp 39))]) (
  .seq (
   .reg [.op (some 40) none (.mv (.tmp 7)),
     .op (some 41) none (.len (.tmp 40)),
     .op (some 42) none (.bin .sub (.tmp 41) (.const (.int .i64 (8)))),
     .op (some 43) none (.bin .mul (.const (.int .i64 (8))) (.tmp 42)),
     .op (some 9) none (.mv (.tmp 43))]) (
  .seq (
   .reg [.op (some 44) none (.mv (.tmp 1)),
     .op (some 45) none (.conv .i64 (.tmp 44)),
     .op (some 46) none (.mv (.tmp 9)),
     .op (some 47) none (.bin .rem (.tmp 45) (.tmp 46)),
     .op (some 10) none (.mv (.tmp 47)),
     .op (some 11) none (.mv (.const (.bool false)))]) (
  .seq (
   .seq (
    .reg [.op (some 12) none (.mv (.const (.int .i64 (0))))]) (
   .block 0 (
    .loop (
     .seq (
      .seq (
       .reg [.op (some 48) none (.mv (.tmp 12)),
         .op (some 49) none (.bin .lss (.tmp 48) (.const (.int .i64 (32)))),
         .op (some 50) none (.mv (.tmp 49)),
         .op (some 51) (some (50, true)) (.mv (.tmp 10)),
         .op (some 52) (some (50, true)) (.mv (.tmp 12)),
         .op (some 53) (some (50, true)) (.bin .add (.tmp 51) (.tmp 52)),
         .op (some 54) (some (50, true)) (.mv (.tmp 9)),
         .op (some 55) (some (50, true)) (.bin .lss (.tmp 53) (.tmp 54)),
         .op (some 56) none (.pick (.tmp 50) (.tmp 55) (.const (.bool false)))]) (
      .cond (.tmp 56) (
       .skip) (
       .exit 0))) (
     .seq (
      .block 1 (
       .seq (
        .seq (
         .reg [.op (some 59) none (.mv (.tmp 2)),
           .op (some 60) none (.bin .rem (.tmp 59) (.const (.int .u32 (2)))),
           .op (some 61) none (.bin .eql (.tmp 60) (.const (.int .u32 (1))))]) (
        .cond (.tmp 61) (
         .seq (
          .reg [.op (some 62) none (.mv (.tmp 10)),
            .op (some 63) none (.mv (.tmp 12)),
            .op (some 64) none (.bin .add (.tmp 62) (.tmp 63)),
            .op (some 13) none (.mv (.tmp 64))]) (
         .seq (
          .draw 14 [.op (some 65) none (.mv (.tmp 7)),
            .op (some 66) none (.mv (.tmp 13)),
            .op (some 67) none (.bin .quo (.tmp 66) (.const (.int .i64 (8)))),
            .op (some 68) none (.bin .add (.const (.int .i64 (4))) (.tmp 67)),
            .op (some 69) none (.mv (.tmp 7)),
            .op (some 70) none (.mv (.tmp 13)),
            .op (some 71) none (.bin .quo (.tmp 70) (.const (.int .i64 (8)))),
            .op (some 72) none (.bin .add (.const (.int .i64 (4))) (.tmp 71)),
            .op (some 73) none (.iaddr 1 (.tmp 69) (.tmp 72)),
            .op (some 74) none (.load false 1 (.tmp 73)),
            .op (some 75) none (.mv (.tmp 13)),
            .op (some 76) none (.bin .rem (.tmp 75) (.const (.int .i64 (8)))),
            .op (some 77) none (.bin .shl (.const (.int .u8 (1))) (.tmp 76)),
            .op (some 78) none (.bin .xor (.tmp 74) (.tmp 77)),
            .op (some 79) none (.iaddr 1 (.tmp 65) (.tmp 68)),
            .op none none (.store 1 (.tmp 79) (.tmp 78))]) (
         .reg [.op (some 11) none (.mv (.const (.bool true)))]))) (
         .skip))) (
       .reg [.op (some 80) none (.mv (.tmp 2)),
         .op (some 81) none (.bin .quo (.tmp 80) (.const (.int .u32 (2)))),
         .op (some 2) none (.mv (.tmp 81))]))) (
     .reg [.op (some 57) none (.mv (.tmp 12)),
       .op (some 58) none (.bin .add (.tmp 57) (.const (.int .i64 (1)))),
       .op (some 12) none (.mv (.tmp 58))])))))) (
  .seq (
   .reg [.op (some 83) none (.mv (.tmp 7)),
     .call (some 84) none (.func 16) [(.tmp 83)],
     .op (some 82) none (.mv (.tmp 84)),
     .op (some 85) none (.extract (.tmp 82) 0),
     .op (some 86) none (.extract (.tmp 82) 1),
     .op (some 14) none (.mv (.tmp 85)),
     .op (some 15) none (.mv (.tmp 86))]) (
  .seq (
   .reg [.op (some 87) none (.mv (.tmp 11)),
     .op (some 88) none (.un .not (.tmp 87)),
     .op (some 89) none (.mv (.tmp 88)),
     .op (some 90) (some (89, false)) (.mv (.tmp 14)),
     .op (some 91) (some (89, false)) (.len (.tmp 90)),
     .op (some 92) (some (89, false)) (.bin .eql (.tmp 91) (.const (.int .i64 (0)))),
     .op (some 93) (some (89, false)) (.mv (.tmp 92)),
     .op (some 94) (some (93, true)) (.mv (.tmp 15)),
     .op (some 95) (some (93, true)) (.bin .eql (.tmp 94) (.const (.int .i64 (0)))),
     .op (some 96) (some (89, false)) (.pick (.tmp 93) (.tmp 95) (.const (.bool false))),
     .op (some 97) none (.pick (.tmp 89) (.const (.bool true)) (.tmp 96)),
     .op (some 98) none (.mv (.tmp 97)),
     .call (some 99) (some (98, true)) (.func 10) [],
     .op (some 100) none (.pick (.tmp 98) (.tmp 99) (.const (.bool false))),
     .op (some 6) none (.mv (.tmp 100))]) (
  .ret))))))))))
def k9 : Fun := ⟨101, [.tmp 6], k9c⟩
theorem k9_ok : compF Try.prog 9 = some k9 := by kernel_rfl
theorem k9_name : ((Try.prog.funcs[9]?).map fun fn => fn.name == "runtime.NumGoroutine") = some false := by kernel_rfl
/-- guerdon/guerdonlaw47.awake -/
def k10c : C :=
  .seq (
   .reg [.op (some 0) none (.mv (.const (.bool false)))]) (
  .seq (
   .reg [.op (some 6) none (.build [(.v (.int .i64 (0))), (.v (.int .i64 (0))), (.v (.int .i64 (0))), (.v (.int .i64 (0))), (.v (.int .i64 (0))), (.v (.int .i64 (0))), (.v (.int .i64 (0))), (.v (.int .i64 (0))), (.v (.slice none 0 0))] []),
     .call (some 7) none (.func 13) [(.tmp 6)],
     .op (some 5) none (.mv (.tmp 7)),
     .op (some 8) none (.extract (.tmp 5) 0),
     .op (some 9) none (.extract (.tmp 5) 1),
     .op (some 1) none (.mv (.tmp 8)),
     .op (some 2) none (.mv (.tmp 9))]) (
  .seq (
   .seq (
    .reg [.op (some 10) none (.mv (.tmp 2)),
      .op (some 11) none (.bin .neq (.tmp 10) (.const (.int .i64 (0)))),
      .op (some 12) none (.mv (.tmp 11)),
      .op (some 13) (some (12, false)) (.mv (.tmp 1)),
      .op (some 14) (some (12, false)) (.len (.tmp 13)),
      .op (some 15) (some (12, false)) (.bin .neq (.tmp 14) (.const (.int .i64 (80)))),
      .op (some 16) none (.pick (.tmp 12) (.const (.bool true)) (.tmp 15)),
      .op (some 17) none (.mv (.tmp 16)),
      .op (some 18) (some (17, false)) (.mv (.tmp 1)),
      .op (some 19) (some (17, false)) (.iaddr 1 (.tmp 18) (.const (.int .i64 (0)))),
      .op (some 20) (some (17, false)) (.load false 1 (.tmp 19)),
      .op (some 21) (some (17, false)) (.bin .neq (.tmp 20) (.const (.int .u8 (72)))),
      .op (some 22) none (.pick (.tmp 17) (.const (.bool true)) (.tmp 21))]) (
   .cond (.tmp 22) (
    .seq (
     .reg [.op (some 0) none (.mv (.const (.bool false)))]) (
    .ret)) (
    .skip))) (
  .seq (
   .any [5, 6, 7, 8] 11 [[], [], [0, 1], [], [3], [2, 4, 2], [5, 5], [6], [7], [7], [8, 6, 0, 1, 2, 3, 4, 5, 6, 7, 8], [9, 10, 0, 1, 2, 3, 4, 5, 6, 7, 8, 9, 10]] [.op (some 24) none (.bslice 1 0 (.v (.int .u8 (0))) []),
     .op (some 25) none (.mv (.tmp 1)),
     .op (some 26) none (.append 1 1 (.tmp 24) (.tmp 25)),
     .op (some 27) none (.mv (.tmp 1)),
     .op (some 28) none (.slice 1 (.tmp 27) none (some (.const (.int .i64 (79)))) none),
     .op (some 29) none (.append 1 1 (.tmp 26) (.tmp 28)),
     .call (some 30) none (.func 16) [(.tmp 29)],
     .op (some 23) none (.mv (.tmp 30)),
     .op (some 31) none (.extract (.tmp 23) 0),
     .op (some 32) none (.extract (.tmp 23) 1),
     .op (some 3) none (.mv (.tmp 31)),
     .op (some 4) none (.mv (.tmp 32))]) (
  .seq (
   .reg [.op (some 33) none (.bslice 1 9 (.v (.int .u8 (0))) [(0, (.const (.int .u8 (49)))), (1, (.const (.int .u8 (50)))), (2, (.const (.int .u8 (51)))), (3, (.const (.int .u8 (52)))), (4, (.const (.int .u8 (53)))), (5, (.const (.int .u8 (54)))), (6, (.const (.int .u8 (55)))), (7, (.const (.int .u8 (56)))), (8, (.const (.int .u8 (57))))]),
     .op (some 34) none (.strb 1 (.tmp 33)),
     .call (some 35) none (.func 11) [(.tmp 34)],
     .op (some 36) none (.bin .eql (.tmp 35) (.const (.int .i64 (3421780262)))),
     .op (some 37) none (.mv (.tmp 36)),
     .call (some 38) (some (37, true)) (.func 11) [(.const (.slice none 0 0))],
     .op (some 39) (some (37, true)) (.bin .eql (.tmp 38) (.const (.int .i64 (0)))),
     .op (some 40) none (.pick (.tmp 37) (.tmp 39) (.const (.bool false))),
     .op (some 41) none (.mv (.tmp 40)),
     .op (some 42) (some (41, true)) (.mv (.tmp 3)),
     .op (some 43) (some (41, true)) (.len (.tmp 42)),
     .op (some 44) (some (41, true)) (.bin .eql (.tmp 43) (.const (.int .i64 (1)))),
     .op (some 45) none (.pick (.tmp 41) (.tmp 44) (.const (.bool false))),
     .op (some 46) none (.mv (.tmp 45)),
     .op (some 47) (some (46, true)) (.mv (.tmp 4)),
     .op (some 48) (some (46, true)) (.bin .eql (.tmp 47) (.const (.int .i64 (80)))),
     .op (some 49) none (.pick (.tmp 46) (.tmp 48) (.const (.bool false))),
     .op (some 0) none (.mv (.tmp 49))]) (
  .ret)))))
def k10 : Fun := ⟨50, [.tmp 0], k10c⟩
theorem k10_ok : compF Try.prog 10 = some k10 := by kernel_rfl
theorem k10_name : ((Try.prog.funcs[10]?).map fun fn => fn.name == "runtime.NumGoroutine") = some false := by kernel_rfl
/-- guerdon/journal.Checksum -/
def k11c : C :=
  .seq (
   .reg [.op (some 2) none (.mv (.const (.int .i64 (0))))]) (
  .seq (
   .reg [.call (some 7) none (.func 21) [],
     .op (some 3) none (.alloc 16 (.agg [(.v (.int .u32 (0))), (.v (.int .u32 (0))), (.v (.int .u32 (0))), (.v (.int .u32 (0))), (.v (.int .u32 (0))), (.v (.int .u32 (0))), (.v (.int .u32 (0))), (.v (.int .u32 (0))), (.v (.int .u32 (0))), (.v (.int .u32 (0))), (.v (.int .u32 (0))), (.v (.int .u32 (0))), (.v (.int .u32 (0))), (.v (.int .u32 (0))), (.v (.int .u32 (0))), (.v (.int .u32 (0)))])),
     .op none none (.store 16 (.tmp 3) (.tmp 7))]) (
  .seq (
   .reg [.op (some 4) none (.mv (.const (.int .u32 (4294967295))))]) (
  .seq (
   .seq (
    .reg [.op (some 8) none (.mv (.tmp 0)),
      .op (some 9) none (.len (.tmp 8)),
      .op (some 10) none (.mv (.const (.int .i64 (0))))]) (
   .block 0 (
    .loop (
     .seq (
      .reg [.op (some 11) none (.bin .lss (.tmp 10) (.tmp 9))]) (
     .seq (
      .cond (.tmp 11) (
       .skip) (
       .exit 0)) (
     .seq (
      .block 1 (
       .seq (
        .reg [.op (some 12) none (.iaddr 1 (.tmp 8) (.tmp 10)),
          .op (some 13) none (.load false 1 (.tmp 12)),
          .op (some 6) none (.mv (.tmp 13))]) (
       .seq (
        .reg [.op (some 14) none (.mv (.tmp 4)),
          .op (some 15) none (.mv (.tmp 6)),
          .op (some 16) none (.conv .u32 (.tmp 15)),
          .op (some 17) none (.bin .xor (.tmp 14) (.tmp 16)),
          .op (some 4) none (.mv (.tmp 17))]) (
       .seq (
        .reg [.op (some 18) none (.mv (.tmp 4)),
          .op (some 19) none (.bin .shr (.tmp 18) (.const (.int .u64 (4)))),
          .op (some 20) none (.mv (.tmp 4)),
          .op (some 21) none (.bin .and (.tmp 20) (.const (.int .u32 (15)))),
          .op (some 22) none (.aaddr false 1 16 (.tmp 3) (.tmp 21)),
          .op (some 23) none (.load false 1 (.tmp 22)),
          .op (some 24) none (.bin .xor (.tmp 19) (.tmp 23)),
          .op (some 4) none (.mv (.tmp 24))]) (
       .reg [.op (some 25) none (.mv (.tmp 4)),
         .op (some 26) none (.bin .shr (.tmp 25) (.const (.int .u64 (4)))),
         .op (some 27) none (.mv (.tmp 4)),
         .op (some 28) none (.bin .and (.tmp 27) (.const (.int .u32 (15)))),
         .op (some 29) none (.aaddr false 1 16 (.tmp 3) (.tmp 28)),
         .op (some 30) none (.load false 1 (.tmp 29)),
         .op (some 31) none (.bin .xor (.tmp 26) (.tmp 30)),
         .op (some 4) none (.mv (.tmp 31))]))))) (
     .reg [.op (some 32) none (.bin .add (.tmp 10) (.const (.int .i64 (1)))),
       .op (some 10) none (.mv (.tmp 32))]))))))) (
  .seq (
   .reg [.op (some 33) none (.mv (.tmp 4)),
     .op (some 34) none (.un .xor (.tmp 33)),
     .op (some 35) none (.conv .i64 (.tmp 34)),
     .op (some 2) none (.mv (.tmp 35))]) (
  .ret)))))
def k11 : Fun := ⟨36, [.tmp 2], k11c⟩
theorem k11_ok : compF Try.prog 11 = some k11 := by kernel_rfl
theorem k11_name : ((Try.prog.funcs[11]?).map fun fn => fn.name == "runtime.NumGoroutine") = some false := by kernel_rfl
/-- guerdon/guerdonref47.Checksum -/
def k12c : C :=
  .seq (
   .reg [.op (some 2) none (.mv (.const (.int .i64 (0))))]) (
  .seq (
   .reg [.op (some 3) none (.mv (.const (.int .u32 (4294967295))))]) (
  .seq (
   .seq (
    .reg [.op (some 4) none (.mv (.const (.int .i64 (0))))]) (
   .block 0 (
    .loop (
     .seq (
      .seq (
       .reg [.op (some 6) none (.mv (.tmp 4)),
         .op (some 7) none (.mv (.tmp 0)),
         .op (some 8) none (.len (.tmp 7)),
         .op (some 9) none (.bin .lss (.tmp 6) (.tmp 8))]) (
      .cond (.tmp 9) (
       .skip) (
       .exit 0))) (
     .seq (
      .block 1 (
       .seq (
        .reg [.op (some 12) none (.mv (.tmp 3)),
          .op (some 13) none (.mv (.tmp 0)),
          .op (some 14) none (.mv (.tmp 4)),
          .op (some 15) none (.iaddr 1 (.tmp 13) (.tmp 14)),
          .op (some 16) none (.load false 1 (.tmp 15)),
          .op (some 17) none (.conv .u32 (.tmp 16)),
          .op (some 18) none (.bin .xor (.tmp 12) (.tmp 17)),
          .op (some 3) none (.mv (.tmp 18))]) (
       .seq (
        .reg [.op (some 5) none (.mv (.const (.int .i64 (0))))]) (
       .block 2 (
        .loop (
         .seq (
          .seq (
           .reg [.op (some 19) none (.mv (.tmp 5)),
             .op (some 20) none (.bin .lss (.tmp 19) (.const (.int .i64 (8))))]) (
          .cond (.tmp 20) (
           .skip) (
           .exit 2))) (
         .seq (
          .block 3 (
           .seq (
            .reg [.op (some 23) none (.mv (.tmp 3)),
              .op (some 24) none (.bin .rem (.tmp 23) (.const (.int .u32 (2)))),
              .op (some 25) none (.bin .eql (.tmp 24) (.const (.int .u32 (1))))]) (
           .cond (.tmp 25) (
            .reg [.op (some 26) none (.mv (.tmp 3)),
              .op (some 27) none (.bin .quo (.tmp 26) (.const (.int .u32 (2)))),
              .op (some 28) none (.bin .xor (.tmp 27) (.const (.int .u32 (3988292384)))),
              .op (some 3) none (.mv (.tmp 28))]) (
            .reg [.op (some 29) none (.mv (.tmp 3)),
              .op (some 30) none (.bin .quo (.tmp 29) (.const (.int .u32 (2)))),
              .op (some 3) none (.mv (.tmp 30))])))) (
         .reg [.op (some 21) none (.mv (.tmp 5)),
           .op (some 22) none (.bin .add (.tmp 21) (.const (.int .i64 (1)))),
           .op (some 5) none (.mv (.tmp 22))])))))))) (
     .reg [.op (some 10) none (.mv (.tmp 4)),
       .op (some 11) none (.bin .add (.tmp 10) (.const (.int .i64 (1)))),
       .op (some 4) none (.mv (.tmp 11))])))))) (
  .seq (
   .reg [.op (some 31) none (.mv (.tmp 3)),
     .op (some 32) none (.bin .xor (.tmp 31) (.const (.int .u32 (4294967295)))),
     .op (some 33) none (.conv .i64 (.tmp 32)),
     .op (some 2) none (.mv (.tmp 33))]) (
  .ret))))
def k12 : Fun := ⟨34, [.tmp 2], k12c⟩
theorem k12_ok : compF Try.prog 12 = some k12 := by kernel_rfl
theorem k12_name : ((Try.prog.funcs[12]?).map fun fn => fn.name == "runtime.NumGoroutine") = some false := by kernel_rfl
/-- guerdon/journal.Encode -/
def k13c : C :=
  .seq (
   .reg [.op (some 1) none (.box 9 (.tmp 0)),
     .op (some 2) none (.mv (.const (.slice none 0 0))),
     .op (some 3) none (.mv (.const (.int .i64 (0))))]) (
  .seq (
   .reg [.op (some 10) none (.faddr false 1 8 (.tmp 1)),
     .op (some 11) none (.load false 1 (.tmp 10)),
     .op (some 12) none (.len (.tmp 11)),
     .op (some 4) none (.mv (.tmp 12))]) (
  .seq (
   .seq (
    .reg [.op (some 13) none (.mv (.tmp 4)),
      .op (some 14) none (.bin .gtr (.tmp 13) (.const (.int .i64 (4096))))]) (
   .cond (.tmp 14) (
    .seq (
     .reg [.op (some 2) none (.mv (.const (.slice none 0 0))),
       .op (some 3) none (.mv (.const (.int .i64 (4))))]) (
    .ret)) (
    .skip))) (
  .seq (
   .reg [.op (some 15) none (.mv (.tmp 4)),
     .op (some 16) none (.bin .mul (.const (.int .i64 (32))) (.tmp 15)),
     .op (some 17) none (.bin .add (.const (.int .i64 (72))) (.tmp 16)),
     .op (some 5) none (.mv (.tmp 17))]) (
  .seq (
   .reg [.op (some 18) none (.mv (.tmp 5)),
     .op (some 19) none (.bin .add (.const (.int .i64 (4))) (.tmp 18)),
     .op (some 20) none (.bin .add (.tmp 19) (.const (.int .i64 (4)))),
     .op (some 21) none (.mkslice 1 1 (.v (.int .u8 (0))) (.const (.int .i64 (0))) (.tmp 20)),
     .op (some 6) none (.mv (.tmp 21))]) (
  .seq (
   .reg [.op (some 22) none (.mv (.tmp 6)),
     .op (some 23) none (.mv (.tmp 5)),
     .call (some 24) none (.func 22) [(.tmp 22), (.tmp 23)],
     .op (some 6) none (.mv (.tmp 24))]) (
  .seq (
   .reg [.op (some 25) none (.faddr true 5 3 (.tmp 1)),
     .op (some 26) none (.load true 5 (.tmp 25)),
     .op (some 7) none (.alloc 5 (.agg [(.v (.int .i64 (0))), (.v (.int .i64 (0))), (.v (.int .i64 (0))), (.v (.int .i64 (0))), (.v (.int .i64 (0)))])),
     .op none none (.store 5 (.tmp 7) (.tmp 26))]) (
  .seq (
   .reg [.op (some 27) none (.mv (.tmp 6)),
     .op (some 28) none (.faddr false 1 0 (.tmp 1)),
     .op (some 29) none (.load false 1 (.tmp 28)),
     .op (some 30) none (.faddr false 1 1 (.tmp 1)),
     .op (some 31) none (.load false 1 (.tmp 30)),
     .op (some 32) none (.faddr false 1 2 (.tmp 1)),
     .op (some 33) none (.load false 1 (.tmp 32)),
     .op (some 34) none (.faddr false 1 0 (.tmp 7)),
     .op (some 35) none (.load false 1 (.tmp 34)),
     .op (some 36) none (.faddr false 1 1 (.tmp 7)),
     .op (some 37) none (.load false 1 (.tmp 36)),
     .op (some 38) none (.faddr false 1 2 (.tmp 7)),
     .op (some 39) none (.load false 1 (.tmp 38)),
     .op (some 40) none (.faddr false 1 3 (.tmp 7)),
     .op (some 41) none (.load false 1 (.tmp 40)),
     .op (some 42) none (.faddr false 1 4 (.tmp 7)),
     .op (some 43) none (.load false 1 (.tmp 42)),
     .op (some 44) none (.mv (.tmp 4)),
     .op (some 45) none (.bslice 1 9 (.v (.int .i64 (0))) [(0, (.tmp 29)), (1, (.tmp 31)), (2, (.tmp 33)), (3, (.tmp 35)), (4, (.tmp 37)), (5, (.tmp 39)), (6, (.tmp 41)), (7, (.tmp 43)), (8, (.tmp 44))]),
     .call (some 46) none (.func 23) [(.tmp 27), (.tmp 45)],
     .op (some 6) none (.mv (.tmp 46))]) (
  .seq (
   .seq (
    .reg [.op (some 47) none (.faddr false 1 8 (.tmp 1)),
      .op (some 48) none (.load false 1 (.tmp 47)),
      .op (some 49) none (.len (.tmp 48)),
      .op (some 50) none (.mv (.const (.int .i64 (0))))]) (
   .block 0 (
    .loop (
     .seq (
      .reg [.op (some 51) none (.bin .lss (.tmp 50) (.tmp 49))]) (
     .seq (
      .cond (.tmp 51) (
       .skip) (
       .exit 0)) (
     .seq (
      .block 1 (
       .seq (
        .reg [.op (some 52) none (.iaddr 4 (.tmp 48) (.tmp 50)),
          .op (some 53) none (.load true 4 (.tmp 52)),
          .op (some 9) none (.alloc 4 (.agg [(.v (.int .i64 (0))), (.v (.int .i64 (0))), (.v (.int .i64 (0))), (.v (.int .i64 (0)))])),
          .op none none (.store 4 (.tmp 9) (.tmp 53))]) (
       .reg [.op (some 54) none (.mv (.tmp 6)),
         .op (some 55) none (.faddr false 1 0 (.tmp 9)),
         .op (some 56) none (.load false 1 (.tmp 55)),
         .op (some 57) none (.faddr false 1 1 (.tmp 9)),
         .op (some 58) none (.load false 1 (.tmp 57)),
         .op (some 59) none (.faddr false 1 2 (.tmp 9)),
         .op (some 60) none (.load false 1 (.tmp 59)),
         .op (some 61) none (.faddr false 1 3 (.tmp 9)),
         .op (some 62) none (.load false 1 (.tmp 61)),
         .op (some 63) none (.bslice 1 4 (.v (.int .i64 (0))) [(0, (.tmp 56)), (1, (.tmp 58)), (2, (.tmp 60)), (3, (.tmp 62))]),
         .call (some 64) none (.func 23) [(.tmp 54), (.tmp 63)],
         .op (some 6) none (.mv (.tmp 64))]))) (
     .reg [.op (some 65) none (.bin .add (.tmp 50) (.const (.int .i64 (1)))),
       .op (some 50) none (.mv (.tmp 65))]))))))) (
  .seq (
   .reg [.op (some 66) none (.mv (.tmp 6)),
     .op (some 67) none (.mv (.tmp 6)),
     .op (some 68) none (.slice 1 (.tmp 67) (some (.const (.int .i64 (4)))) none none),
     .call (some 69) none (.func 11) [(.tmp 68)],
     .call (some 70) none (.func 22) [(.tmp 66), (.tmp 69)],
     .op (some 2) none (.mv (.tmp 70)),
     .op (some 3) none (.mv (.const (.int .i64 (0))))]) (
  .ret))))))))))
def k13 : Fun := ⟨71, [.tmp 2, .tmp 3], k13c⟩
theorem k13_ok : compF Try.prog 13 = some k13 := by kernel_rfl
theorem k13_name : ((Try.prog.funcs[13]?).map fun fn => fn.name == "runtime.NumGoroutine") = some false := by kernel_rfl
/-- guerdon/guerdonref47.Encode -/
def k14c : C :=
  .seq (
   .reg [.op (some 1) none (.box 9 (.tmp 0)),
     .op (some 2) none (.mv (.const (.slice none 0 0))),
     .op (some 3) none (.mv (.const (.int .i64 (0))))]) (
  .seq (
   .seq (
    .reg [.op (some 8) none (.faddr false 1 8 (.tmp 1)),
      .op (some 9) none (.load false 1 (.tmp 8)),
      .op (some 10) none (.len (.tmp 9)),
      .op (some 11) none (.bin .gtr (.tmp 10) (.const (.int .i64 (4096))))]) (
   .cond (.tmp 11) (
    .seq (
     .reg [.op (some 2) none (.mv (.const (.slice none 0 0))),
       .op (some 3) none (.mv (.const (.int .i64 (4))))]) (
    .ret)) (
    .skip))) (
  .seq (
   .reg [.op (some 4) none (.mv (.const (.slice none 0 0)))]) (
  .seq (
   .reg [.op (some 12) none (.load true 9 (.tmp 1)),
     .call (some 13) none (.func 24) [(.tmp 12)],
     .op (some 5) none (.mv (.tmp 13))]) (
  .seq (
   .seq (
    .reg [.op (some 6) none (.mv (.const (.int .i64 (0))))]) (
   .block 0 (
    .loop (
     .seq (
      .seq (
       .reg [.op (some 14) none (.mv (.tmp 6)),
         .op (some 15) none (.mv (.tmp 5)),
         .op (some 16) none (.len (.tmp 15)),
         .op (some 17) none (.bin .lss (.tmp 14) (.tmp 16))]) (
      .cond (.tmp 17) (
       .skip) (
       .exit 0))) (
     .seq (
      .block 1 (
       .reg [.op (some 20) none (.mv (.tmp 4)),
         .op (some 21) none (.mv (.tmp 5)),
         .op (some 22) none (.mv (.tmp 6)),
         .op (some 23) none (.iaddr 1 (.tmp 21) (.tmp 22)),
         .op (some 24) none (.load false 1 (.tmp 23)),
         .op (some 25) none (.conv .u64 (.tmp 24)),
         .call (some 26) none (.func 25) [(.tmp 20), (.tmp 25), (.const (.int .i64 (8)))],
         .op (some 4) none (.mv (.tmp 26))])) (
     .reg [.op (some 18) none (.mv (.tmp 6)),
       .op (some 19) none (.bin .add (.tmp 18) (.const (.int .i64 (1)))),
       .op (some 6) none (.mv (.tmp 19))])))))) (
  .seq (
   .reg [.op (some 27) none (.mv (.tmp 4)),
     .op (some 28) none (.len (.tmp 27)),
     .op (some 29) none (.conv .u64 (.tmp 28)),
     .call (some 30) none (.func 25) [(.const (.slice none 0 0)), (.tmp 29), (.const (.int .i64 (4)))],
     .op (some 31) none (.mv (.tmp 4)),
     .op (some 32) none (.append 1 1 (.tmp 30) (.tmp 31)),
     .op (some 7) none (.mv (.tmp 32))]) (
  .seq (
   .reg [.op (some 33) none (.mv (.tmp 7)),
     .op (some 34) none (.mv (.tmp 4)),
     .call (some 35) none (.func 12) [(.tmp 34)],
     .op (some 36) none (.conv .u64 (.tmp 35)),
     .call (some 37) none (.func 25) [(.tmp 33), (.tmp 36), (.const (.int .i64 (4)))],
     .op (some 2) none (.mv (.tmp 37)),
     .op (some 3) none (.mv (.const (.int .i64 (0))))]) (
  .ret)))))))
def k14 : Fun := ⟨38, [.tmp 2, .tmp 3], k14c⟩
theorem k14_ok : compF Try.prog 14 = some k14 := by kernel_rfl
theorem k14_name : ((Try.prog.funcs[14]?).map fun fn => fn.name == "runtime.NumGoroutine") = some false := by kernel_rfl
/-- guerdon/guerdonsame.Bytes -/
def k15c : C :=
  .seq (
   .reg [.op (some 4) none (.mv (.const (.bool false)))]) (
  .seq (
   .seq (
    .reg [.op (some 6) none (.mv (.tmp 0)),
      .op (some 7) none (.len (.tmp 6)),
      .op (some 8) none (.mv (.tmp 1)),
      .op (some 9) none (.len (.tmp 8)),
      .op (some 10) none (.bin .neq (.tmp 7) (.tmp 9))]) (
   .cond (.tmp 10) (
    .seq (
     .reg [.op (some 4) none (.mv (.const (.bool false)))]) (
    .ret)) (
    .skip))) (
  .seq (
   .seq (
    .reg [.op (some 5) none (.mv (.const (.int .i64 (0))))]) (
   .block 0 (
    .loop (
     .seq (
      .seq (
       .reg [.op (some 11) none (.mv (.tmp 5)),
         .op (some 12) none (.mv (.tmp 0)),
         .op (some 13) none (.len (.tmp 12)),
         .op (some 14) none (.bin .lss (.tmp 11) (.tmp 13)),
         .op (some 15) none (.mv (.tmp 14)),
         .op (some 16) (some (15, true)) (.mv (.tmp 5)),
         .op (some 17) (some (15, true)) (.mv (.tmp 1)),
         .op (some 18) (some (15, true)) (.len (.tmp 17)),
         .op (some 19) (some (15, true)) (.bin .lss (.tmp 16) (.tmp 18)),
         .op (some 20) none (.pick (.tmp 15) (.tmp 19) (.const (.bool false)))]) (
      .cond (.tmp 20) (
       .skip) (
       .exit 0))) (
     .seq (
      .block 1 (
       .seq (
        .draw 8 [.op (some 23) none (.mv (.tmp 0)),
          .op (some 24) none (.mv (.tmp 5)),
          .op (some 25) none (.iaddr 1 (.tmp 23) (.tmp 24)),
          .op (some 26) none (.load false 1 (.tmp 25)),
          .op (some 27) none (.mv (.tmp 1)),
          .op (some 28) none (.mv (.tmp 5)),
          .op (some 29) none (.iaddr 1 (.tmp 27) (.tmp 28)),
          .op (some 30) none (.load false 1 (.tmp 29)),
          .op (some 31) none (.bin .neq (.tmp 26) (.tmp 30))]) (
       .cond (.tmp 31) (
        .seq (
         .reg [.op (some 4) none (.mv (.const (.bool false)))]) (
        .ret)) (
        .skip)))) (
     .reg [.op (some 21) none (.mv (.tmp 5)),
       .op (some 22) none (.bin .add (.tmp 21) (.const (.int .i64 (1)))),
       .op (some 5) none (.mv (.tmp 22))])))))) (
  .seq (
   .reg [.op (some 4) none (.mv (.const (.bool true)))]) (
  .ret))))
def k15 : Fun := ⟨32, [.tmp 4], k15c⟩
theorem k15_ok : compF Try.prog 15 = some k15 := by kernel_rfl
theorem k15_name : ((Try.prog.funcs[15]?).map fun fn => fn.name == "runtime.NumGoroutine") = some false := by kernel_rfl
/-- guerdon/journal.Decode -/
def k16c : C :=
  .seq (
   .reg [.op (some 2) none (.mv (.const (.slice none 0 0))),
     .op (some 3) none (.mv (.const (.int .i64 (0))))]) (
  .seq (
   .reg [.op (some 4) none (.mv (.const (.slice none 0 0)))]) (
  .seq (
   .reg [.op (some 5) none (.mv (.const (.int .i64 (0))))]) (
  .block 0 (
   .loop (
    .block 1 (
     .seq (
      .reg [.op (some 10) none (.mv (.tmp 0)),
        .op (some 11) none (.mv (.tmp 5)),
        .op (some 12) none (.slice 1 (.tmp 10) (some (.tmp 11)) none none),
        .call (some 13) none (.func 26) [(.tmp 12)],
        .op (some 9) none (.mv (.tmp 13)),
        .op (some 14) none (.extract (.tmp 9) 0),
        .op (some 15) none (.extract (.tmp 9) 1),
        .op (some 16) none (.extract (.tmp 9) 2),
        .op (some 6) none (.alloc 9 (.agg [(.v (.int .i64 (0))), (.v (.int .i64 (0))), (.v (.int .i64 (0))), (.v (.int .i64 (0))), (.v (.int .i64 (0))), (.v (.int .i64 (0))), (.v (.int .i64 (0))), (.v (.int .i64 (0))), (.v (.slice none 0 0))])),
        .op none none (.store 9 (.tmp 6) (.tmp 14)),
        .op (some 7) none (.mv (.tmp 15)),
        .op (some 8) none (.mv (.tmp 16))]) (
     .seq (
      .seq (
       .reg [.op (some 17) none (.mv (.tmp 8)),
         .op (some 18) none (.un .not (.tmp 17))]) (
      .cond (.tmp 18) (
       .seq (
        .reg [.op (some 19) none (.mv (.tmp 4)),
          .op (some 20) none (.mv (.tmp 5)),
          .op (some 2) none (.mv (.tmp 19)),
          .op (some 3) none (.mv (.tmp 20))]) (
       .ret)) (
       .skip))) (
     .seq (
      .reg [.op (some 21) none (.mv (.tmp 4)),
        .op (some 22) none (.load true 9 (.tmp 6)),
        .op (some 23) none (.bslice 9 1 (.agg [(.v (.int .i64 (0))), (.v (.int .i64 (0))), (.v (.int .i64 (0))), (.v (.int .i64 (0))), (.v (.int .i64 (0))), (.v (.int .i64 (0))), (.v (.int .i64 (0))), (.v (.int .i64 (0))), (.v (.slice none 0 0))]) [(0, (.tmp 22))]),
        .op (some 24) none (.append 9 88 (.tmp 21) (.tmp 23)),
        .op (some 4) none (.mv (.tmp 24))]) (
     .reg [.op (some 25) none (.mv (.tmp 5)),
       .op (some 26) none (.mv (.tmp 7)),
       .op (some 27) none (.bin .add (.tmp 25) (.tmp 26)),
       .op (some 5) none (.mv (.tmp 27))])))))))))
def k16 : Fun := ⟨28, [.tmp 2, .tmp 3], k16c⟩
theorem k16_ok : compF Try.prog 16 = some k16 := by kernel_rfl
theorem k16_name : ((Try.prog.funcs[16]?).map fun fn => fn.name == "runtime.NumGoroutine") = some false := by kernel_rfl
/-- guerdon/guerdonref47.Decode -/
def k17c : C :=
  .seq (
   .reg [.op (some 2) none (.mv (.const (.slice none 0 0))),
     .op (some 3) none (.mv (.const (.int .i64 (0))))]) (
  .seq (
   .reg [.op (some 4) none (.mv (.const (.slice none 0 0)))]) (
  .seq (
   .reg [.op (some 5) none (.mv (.const (.int .i64 (0))))]) (
  .seq (
   .seq (
    .reg [.op (some 7) none (.mv (.tmp 0)),
      .call (some 8) none (.func 27) [(.tmp 7)],
      .op (some 6) none (.mv (.tmp 8))]) (
   .block 0 (
    .loop (
     .seq (
      .seq (
       .reg [.op (some 9) none (.mv (.tmp 6)),
         .op (some 10) none (.bin .gtr (.tmp 9) (.const (.int .i64 (0))))]) (
      .cond (.tmp 10) (
       .skip) (
       .exit 0))) (
     .seq (
      .block 1 (
       .seq (
        .reg [.op (some 15) none (.mv (.tmp 4)),
          .op (some 16) none (.mv (.tmp 0)),
          .op (some 17) none (.mv (.tmp 5)),
          .op (some 18) none (.bin .add (.tmp 17) (.const (.int .i64 (4)))),
          .op (some 19) none (.mv (.tmp 5)),
          .op (some 20) none (.mv (.tmp 6)),
          .op (some 21) none (.bin .add (.tmp 19) (.tmp 20)),
          .op (some 22) none (.bin .sub (.tmp 21) (.const (.int .i64 (4)))),
          .op (some 23) none (.slice 1 (.tmp 16) (some (.tmp 18)) (some (.tmp 22)) none),
          .call (some 24) none (.func 28) [(.tmp 23)],
          .op (some 25) none (.bslice 9 1 (.agg [(.v (.int .i64 (0))), (.v (.int .i64 (0))), (.v (.int .i64 (0))), (.v (.int .i64 (0))), (.v (.int .i64 (0))), (.v (.int .i64 (0))), (.v (.int .i64 (0))), (.v (.int .i64 (0))), (.v (.slice none 0 0))]) [(0, (.tmp 24))]),
          .op (some 26) none (.append 9 88 (.tmp 15) (.tmp 25)),
          .op (some 4) none (.mv (.tmp 26))]) (
       .reg [.op (some 27) none (.mv (.tmp 5)),
         .op (some 28) none (.mv (.tmp 6)),
         .op (some 29) none (.bin .add (.tmp 27) (.tmp 28)),
         .op (some 5) none (.mv (.tmp 29))]))) (
     .reg [.op (some 11) none (.mv (.tmp 0)),
       .op (some 12) none (.mv (.tmp 5)),
       .op (some 13) none (.slice 1 (.tmp 11) (some (.tmp 12)) none none),
       .call (some 14) none (.func 27) [(.tmp 13)],
       .op (some 6) none (.mv (.tmp 14))])))))) (
  .seq (
   .reg [.op (some 30) none (.mv (.tmp 4)),
     .op (some 31) none (.mv (.tmp 5)),
     .op (some 2) none (.mv (.tmp 30)),
     .op (some 3) none (.mv (.tmp 31))]) (
  .ret)))))
def k17 : Fun := ⟨32, [.tmp 2, .tmp 3], k17c⟩
theorem k17_ok : compF Try.prog 17 = some k17 := by kernel_rfl
theorem k17_name : ((Try.prog.funcs[17]?).map fun fn => fn.name == "runtime.NumGoroutine") = some false := by kernel_rfl
/-- guerdon/guerdonsame.JournalRecords -/
def k18c : C :=
  .seq (
   .reg [.op (some 4) none (.mv (.const (.bool false)))]) (
  .seq (
   .seq (
    .reg [.op (some 6) none (.mv (.tmp 0)),
      .op (some 7) none (.len (.tmp 6)),
      .op (some 8) none (.mv (.tmp 1)),
      .op (some 9) none (.len (.tmp 8)),
      .op (some 10) none (.bin .neq (.tmp 7) (.tmp 9))]) (
   .cond (.tmp 10) (
    .seq (
     .reg [.op (some 4) none (.mv (.const (.bool false)))]) (
    .ret)) (
    .skip))) (
  .seq (
   .seq (
    .reg [.op (some 5) none (.mv (.const (.int .i64 (0))))]) (
   .block 0 (
    .loop (
     .seq (
      .seq (
       .reg [.op (some 11) none (.mv (.tmp 5)),
         .op (some 12) none (.mv (.tmp 0)),
         .op (some 13) none (.len (.tmp 12)),
         .op (some 14) none (.bin .lss (.tmp 11) (.tmp 13)),
         .op (some 15) none (.mv (.tmp 14)),
         .op (some 16) (some (15, true)) (.mv (.tmp 5)),
         .op (some 17) (some (15, true)) (.mv (.tmp 1)),
         .op (some 18) (some (15, true)) (.len (.tmp 17)),
         .op (some 19) (some (15, true)) (.bin .lss (.tmp 16) (.tmp 18)),
         .op (some 20) none (.pick (.tmp 15) (.tmp 19) (.const (.bool false)))]) (
      .cond (.tmp 20) (
       .skip) (
       .exit 0))) (
     .seq (
      .block 1 (
       .seq (
        .draw 8 [.op (some 23) none (.mv (.tmp 0)),
          .op (some 24) none (.mv (.tmp 5)),
          .op (some 25) none (.iaddr 9 (.tmp 23) (.tmp 24)),
          .op (some 26) none (.load true 9 (.tmp 25)),
          .op (some 27) none (.mv (.tmp 1)),
          .op (some 28) none (.mv (.tmp 5)),
          .op (some 29) none (.iaddr 9 (.tmp 27) (.tmp 28)),
          .op (some 30) none (.load true 9 (.tmp 29)),
          .call (some 31) none (.func 29) [(.tmp 26), (.tmp 30)],
          .op (some 32) none (.un .not (.tmp 31))]) (
       .cond (.tmp 32) (
        .seq (
         .reg [.op (some 4) none (.mv (.const (.bool false)))]) (
        .ret)) (
        .skip)))) (
     .reg [.op (some 21) none (.mv (.tmp 5)),
       .op (some 22) none (.bin .add (.tmp 21) (.const (.int .i64 (1)))),
       .op (some 5) none (.mv (.tmp 22))])))))) (
  .seq (
   .reg [.op (some 4) none (.mv (.const (.bool true)))]) (
  .ret))))
def k18 : Fun := ⟨33, [.tmp 4], k18c⟩
theorem k18_ok : compF Try.prog 18 = some k18 := by kernel_rfl
theorem k18_name : ((Try.prog.funcs[18]?).map fun fn => fn.name == "runtime.NumGoroutine") = some false := by kernel_rfl
/-- guerdon/guerdonlaw47.all -/
def k19c : C :=
  .seq (
   .reg [.op (some 2) none (.mv (.const (.slice none 0 0)))]) (
  .seq (
   .reg [.op (some 3) none (.mv (.const (.slice none 0 0)))]) (
  .seq (
   .seq (
    .reg [.op (some 4) none (.mv (.const (.int .i64 (0))))]) (
   .block 0 (
    .loop (
     .seq (
      .seq (
       .reg [.op (some 7) none (.mv (.tmp 4)),
         .op (some 8) none (.mv (.tmp 0)),
         .op (some 9) none (.len (.tmp 8)),
         .op (some 10) none (.bin .lss (.tmp 7) (.tmp 9))]) (
      .cond (.tmp 10) (
       .skip) (
       .exit 0))) (
     .seq (
      .block 1 (
       .seq (
        .reg [.op (some 14) none (.mv (.tmp 0)),
          .op (some 15) none (.mv (.tmp 4)),
          .op (some 16) none (.iaddr 9 (.tmp 14) (.tmp 15)),
          .op (some 17) none (.load true 9 (.tmp 16)),
          .call (some 18) none (.func 13) [(.tmp 17)],
          .op (some 13) none (.mv (.tmp 18)),
          .op (some 19) none (.extract (.tmp 13) 0),
          .op (some 20) none (.extract (.tmp 13) 1),
          .op (some 5) none (.mv (.tmp 19)),
          .op (some 6) none (.mv (.tmp 20))]) (
       .reg [.op (some 21) none (.mv (.tmp 3)),
         .op (some 22) none (.mv (.tmp 5)),
         .op (some 23) none (.append 1 1 (.tmp 21) (.tmp 22)),
         .op (some 3) none (.mv (.tmp 23))]))) (
     .reg [.op (some 11) none (.mv (.tmp 4)),
       .op (some 12) none (.bin .add (.tmp 11) (.const (.int .i64 (1)))),
       .op (some 4) none (.mv (.tmp 12))])))))) (
  .seq (
   .reg [.op (some 24) none (.mv (.tmp 3)),
     .op (some 2) none (.mv (.tmp 24))]) (
  .ret))))
def k19 : Fun := ⟨25, [.tmp 2], k19c⟩
theorem k19_ok : compF Try.prog 19 = some k19 := by kernel_rfl
theorem k19_name : ((Try.prog.funcs[19]?).map fun fn => fn.name == "runtime.NumGoroutine") = some false := by kernel_rfl
/-- guerdon/guerdonlaw47.few -/
def k20c : C :=
  .seq (
   .reg [.op (some 2) none (.mv (.const (.bool false)))]) (
  .seq (
   .seq (
    .reg [.op (some 4) none (.mv (.tmp 0)),
      .op (some 5) none (.len (.tmp 4)),
      .op (some 6) none (.bin .gtr (.tmp 5) (.const (.int .i64 (20))))]) (
   .cond (.tmp 6) (
    .seq (
     .reg [.op (some 2) none (.mv (.const (.bool false)))]) (
    .ret)) (
    .skip))) (
  .seq (
   .seq (
    .reg [.op (some 3) none (.mv (.const (.int .i64 (0))))]) (
   .block 0 (
    .loop (
     .seq (
      .seq (
       .reg [.op (some 7) none (.mv (.tmp 3)),
         .op (some 8) none (.mv (.tmp 0)),
         .op (some 9) none (.len (.tmp 8)),
         .op (some 10) none (.bin .lss (.tmp 7) (.tmp 9))]) (
      .cond (.tmp 10) (
       .skip) (
       .exit 0))) (
     .seq (
      .block 1 (
       .seq (
        .reg [.op (some 13) none (.mv (.tmp 0)),
          .op (some 14) none (.mv (.tmp 3)),
          .op (some 15) none (.iaddr 9 (.tmp 13) (.tmp 14)),
          .op (some 16) none (.faddr false 1 8 (.tmp 15)),
          .op (some 17) none (.load false 1 (.tmp 16)),
          .op (some 18) none (.len (.tmp 17)),
          .op (some 19) none (.bin .gtr (.tmp 18) (.const (.int .i64 (40))))]) (
       .cond (.tmp 19) (
        .seq (
         .reg [.op (some 2) none (.mv (.const (.bool false)))]) (
        .ret)) (
        .skip)))) (
     .reg [.op (some 11) none (.mv (.tmp 3)),
       .op (some 12) none (.bin .add (.tmp 11) (.const (.int .i64 (1)))),
       .op (some 3) none (.mv (.tmp 12))])))))) (
  .seq (
   .reg [.op (some 2) none (.mv (.const (.bool true)))]) (
  .ret))))
def k20 : Fun := ⟨20, [.tmp 2], k20c⟩
theorem k20_ok : compF Try.prog 20 = some k20 := by kernel_rfl
theorem k20_name : ((Try.prog.funcs[20]?).map fun fn => fn.name == "runtime.NumGoroutine") = some false := by kernel_rfl
/-- guerdon/journal.halfByteTable -/
def k21c : C :=
  .seq (
   .reg [.op (some 0) none (.alloc 16 (.agg [(.v (.int .u32 (0))), (.v (.int .u32 (0))), (.v (.int .u32 (0))), (.v (.int .u32 (0))), (.v (.int .u32 (0))), (.v (.int .u32 (0))), (.v (.int .u32 (0))), (.v (.int .u32 (0))), (.v (.int .u32 (0))), (.v (.int .u32 (0))), (.v (.int .u32 (0))), (.v (.int .u32 (0))), (.v (.int .u32 (0))), (.v (.int .u32 (0))), (.v (.int .u32 (0))), (.v (.int .u32 (0)))]))]) (
  .seq (
   .reg [.op (some 1) none (.alloc 16 (.agg [(.v (.int .u32 (0))), (.v (.int .u32 (0))), (.v (.int .u32 (0))), (.v (.int .u32 (0))), (.v (.int .u32 (0))), (.v (.int .u32 (0))), (.v (.int .u32 (0))), (.v (.int .u32 (0))), (.v (.int .u32 (0))), (.v (.int .u32 (0))), (.v (.int .u32 (0))), (.v (.int .u32 (0))), (.v (.int .u32 (0))), (.v (.int .u32 (0))), (.v (.int .u32 (0))), (.v (.int .u32 (0)))]))]) (
  .seq (
   .seq (
    .reg [.op (some 5) none (.mv (.const (.int .i64 (0))))]) (
   .block 0 (
    .loop (
     .seq (
      .reg [.op (some 6) none (.bin .lss (.tmp 5) (.const (.int .i64 (16))))]) (
     .seq (
      .cond (.tmp 6) (
       .skip) (
       .exit 0)) (
     .seq (
      .block 1 (
       .seq (
        .reg [.op (some 7) none (.mv (.tmp 5)),
          .op (some 2) none (.mv (.tmp 7))]) (
       .seq (
        .reg [.op (some 8) none (.mv (.tmp 2)),
          .op (some 9) none (.conv .u32 (.tmp 8)),
          .op (some 3) none (.mv (.tmp 9))]) (
       .seq (
        .seq (
         .reg [.op (some 10) none (.mv (.const (.int .i64 (0))))]) (
        .block 2 (
         .loop (
          .seq (
           .reg [.op (some 11) none (.bin .lss (.tmp 10) (.const (.int .i64 (4))))]) (
          .seq (
           .cond (.tmp 11) (
            .skip) (
            .exit 2)) (
          .seq (
           .block 3 (
            .seq (
             .reg [.op (some 12) none (.mv (.tmp 3)),
               .op (some 13) none (.bin .and (.tmp 12) (.const (.int .u32 (1)))),
               .op (some 4) none (.mv (.tmp 13))]) (
            .seq (
             .reg [.op (some 14) none (.mv (.tmp 3)),
               .op (some 15) none (.bin .shr (.tmp 14) (.const (.int .u64 (1)))),
               .op (some 3) none (.mv (.tmp 15))]) (
            .seq (
             .reg [.op (some 16) none (.mv (.tmp 4)),
               .op (some 17) none (.bin .eql (.tmp 16) (.const (.int .u32 (1))))]) (
            .cond (.tmp 17) (
             .reg [.op (some 18) none (.mv (.tmp 3)),
               .op (some 19) none (.bin .xor (.tmp 18) (.const (.int .u32 (3988292384)))),
               .op (some 3) none (.mv (.tmp 19))]) (
             .skip)))))) (
          .reg [.op (some 20) none (.bin .add (.tmp 10) (.const (.int .i64 (1)))),
            .op (some 10) none (.mv (.tmp 20))]))))))) (
       .reg [.op (some 21) none (.mv (.tmp 2)),
         .op (some 22) none (.mv (.tmp 3)),
         .op (some 23) none (.aaddr false 1 16 (.tmp 1) (.tmp 21)),
         .op none none (.store 1 (.tmp 23) (.tmp 22))]))))) (
     .reg [.op (some 24) none (.bin .add (.tmp 5) (.const (.int .i64 (1)))),
       .op (some 5) none (.mv (.tmp 24))]))))))) (
  .seq (
   .reg [.op (some 25) none (.load true 16 (.tmp 1)),
     .op none none (.store 16 (.tmp 0) (.tmp 25))]) (
  .ret))))
def k21 : Fun := ⟨26, [.cell true 16 0], k21c⟩
theorem k21_ok : compF Try.prog 21 = some k21 := by kernel_rfl
theorem k21_name : ((Try.prog.funcs[21]?).map fun fn => fn.name == "runtime.NumGoroutine") = some false := by kernel_rfl
/-- guerdon/journal.appendHalf -/
def k22c : C :=
  .seq (
   .reg [.op (some 4) none (.mv (.const (.slice none 0 0)))]) (
  .seq (
   .reg [.op (some 6) none (.mv (.tmp 1)),
     .op (some 7) none (.conv .u32 (.tmp 6)),
     .op (some 5) none (.mv (.tmp 7))]) (
  .seq (
   .seq (
    .reg [.op (some 8) none (.mv (.const (.int .i64 (0))))]) (
   .block 0 (
    .loop (
     .seq (
      .reg [.op (some 9) none (.bin .lss (.tmp 8) (.const (.int .i64 (4))))]) (
     .seq (
      .cond (.tmp 9) (
       .skip) (
       .exit 0)) (
     .seq (
      .block 1 (
       .seq (
        .reg [.op (some 10) none (.mv (.tmp 0)),
          .op (some 11) none (.mv (.tmp 5)),
          .op (some 12) none (.conv .u8 (.tmp 11)),
          .op (some 13) none (.bslice 1 1 (.v (.int .u8 (0))) [(0, (.tmp 12))]),
          .op (some 14) none (.append 1 1 (.tmp 10) (.tmp 13)),
          .op (some 0) none (.mv (.tmp 14))]) (
       .reg [.op (some 15) none (.mv (.tmp 5)),
         .op (some 16) none (.bin .shr (.tmp 15) (.const (.int .u64 (8)))),
         .op (some 5) none (.mv (.tmp 16))]))) (
     .reg [.op (some 17) none (.bin .add (.tmp 8) (.const (.int .i64 (1)))),
       .op (some 8) none (.mv (.tmp 17))]))))))) (
  .seq (
   .reg [.op (some 18) none (.mv (.tmp 0)),
     .op (some 4) none (.mv (.tmp 18))]) (
  .ret))))
def k22 : Fun := ⟨19, [.tmp 4], k22c⟩
theorem k22_ok : compF Try.prog 22 = some k22 := by kernel_rfl
theorem k22_name : ((Try.prog.funcs[22]?).map fun fn => fn.name == "runtime.NumGoroutine") = some false := by kernel_rfl
/-- guerdon/journal.appendWords -/
def k23c : C :=
  .seq (
   .reg [.op (some 4) none (.mv (.const (.slice none 0 0)))]) (
  .seq (
   .seq (
    .reg [.op (some 8) none (.mv (.tmp 1)),
      .op (some 9) none (.len (.tmp 8)),
      .op (some 10) none (.mv (.const (.int .i64 (0))))]) (
   .block 0 (
    .loop (
     .seq (
      .reg [.op (some 11) none (.bin .lss (.tmp 10) (.tmp 9))]) (
     .seq (
      .cond (.tmp 11) (
       .skip) (
       .exit 0)) (
     .seq (
      .block 1 (
       .seq (
        .reg [.op (some 12) none (.iaddr 1 (.tmp 8) (.tmp 10)),
          .op (some 13) none (.load false 1 (.tmp 12)),
          .op (some 6) none (.mv (.tmp 13))]) (
       .seq (
        .reg [.op (some 14) none (.mv (.tmp 6)),
          .op (some 15) none (.conv .u64 (.tmp 14)),
          .op (some 7) none (.mv (.tmp 15))]) (
       .seq (
        .reg [.op (some 16) none (.mv (.const (.int .i64 (0))))]) (
       .block 2 (
        .loop (
         .seq (
          .reg [.op (some 17) none (.bin .lss (.tmp 16) (.const (.int .i64 (8))))]) (
         .seq (
          .cond (.tmp 17) (
           .skip) (
           .exit 2)) (
         .seq (
          .block 3 (
           .seq (
            .reg [.op (some 18) none (.mv (.tmp 0)),
              .op (some 19) none (.mv (.tmp 7)),
              .op (some 20) none (.conv .u8 (.tmp 19)),
              .op (some 21) none (.bslice 1 1 (.v (.int .u8 (0))) [(0, (.tmp 20))]),
              .op (some 22) none (.append 1 1 (.tmp 18) (.tmp 21)),
              .op (some 0) none (.mv (.tmp 22))]) (
           .reg [.op (some 23) none (.mv (.tmp 7)),
             .op (some 24) none (.bin .shr (.tmp 23) (.const (.int .u64 (8)))),
             .op (some 7) none (.mv (.tmp 24))]))) (
         .reg [.op (some 25) none (.bin .add (.tmp 16) (.const (.int .i64 (1)))),
           .op (some 16) none (.mv (.tmp 25))])))))))))) (
     .reg [.op (some 26) none (.bin .add (.tmp 10) (.const (.int .i64 (1)))),
       .op (some 10) none (.mv (.tmp 26))]))))))) (
  .seq (
   .reg [.op (some 27) none (.mv (.tmp 0)),
     .op (some 4) none (.mv (.tmp 27))]) (
  .ret)))
def k23 : Fun := ⟨28, [.tmp 4], k23c⟩
theorem k23_ok : compF Try.prog 23 = some k23 := by kernel_rfl
theorem k23_name : ((Try.prog.funcs[23]?).map fun fn => fn.name == "runtime.NumGoroutine") = some false := by kernel_rfl
/-- guerdon/guerdonref47.numbers -/
def k24c : C :=
  .seq (
   .reg [.op (some 1) none (.box 9 (.tmp 0)),
     .op (some 2) none (.mv (.const (.slice none 0 0)))]) (
  .seq (
   .reg [.op (some 7) none (.faddr true 5 3 (.tmp 1)),
     .op (some 8) none (.load true 5 (.tmp 7)),
     .op (some 3) none (.alloc 5 (.agg [(.v (.int .i64 (0))), (.v (.int .i64 (0))), (.v (.int .i64 (0))), (.v (.int .i64 (0))), (.v (.int .i64 (0)))])),
     .op none none (.store 5 (.tmp 3) (.tmp 8))]) (
  .seq (
   .reg [.op (some 9) none (.faddr false 1 0 (.tmp 1)),
     .op (some 10) none (.load false 1 (.tmp 9)),
     .op (some 11) none (.faddr false 1 1 (.tmp 1)),
     .op (some 12) none (.load false 1 (.tmp 11)),
     .op (some 13) none (.faddr false 1 2 (.tmp 1)),
     .op (some 14) none (.load false 1 (.tmp 13)),
     .op (some 15) none (.faddr false 1 0 (.tmp 3)),
     .op (some 16) none (.load false 1 (.tmp 15)),
     .op (some 17) none (.faddr false 1 1 (.tmp 3)),
     .op (some 18) none (.load false 1 (.tmp 17)),
     .op (some 19) none (.faddr false 1 2 (.tmp 3)),
     .op (some 20) none (.load false 1 (.tmp 19)),
     .op (some 21) none (.faddr false 1 3 (.tmp 3)),
     .op (some 22) none (.load false 1 (.tmp 21)),
     .op (some 23) none (.faddr false 1 4 (.tmp 3)),
     .op (some 24) none (.load false 1 (.tmp 23)),
     .op (some 25) none (.faddr false 1 8 (.tmp 1)),
     .op (some 26) none (.load false 1 (.tmp 25)),
     .op (some 27) none (.len (.tmp 26)),
     .op (some 28) none (.bslice 1 9 (.v (.int .i64 (0))) [(0, (.tmp 10)), (1, (.tmp 12)), (2, (.tmp 14)), (3, (.tmp 16)), (4, (.tmp 18)), (5, (.tmp 20)), (6, (.tmp 22)), (7, (.tmp 24)), (8, (.tmp 27))]),
     .op (some 4) none (.mv (.tmp 28))]) (
  .seq (
   .seq (
    .reg [.op (some 5) none (.mv (.const (.int .i64 (0))))]) (
   .block 0 (
    .loop (
     .seq (
      .seq (
       .reg [.op (some 29) none (.mv (.tmp 5)),
         .op (some 30) none (.faddr false 1 8 (.tmp 1)),
         .op (some 31) none (.load false 1 (.tmp 30)),
         .op (some 32) none (.len (.tmp 31)),
         .op (some 33) none (.bin .lss (.tmp 29) (.tmp 32))]) (
      .cond (.tmp 33) (
       .skip) (
       .exit 0))) (
     .seq (
      .block 1 (
       .seq (
        .reg [.op (some 36) none (.faddr false 1 8 (.tmp 1)),
          .op (some 37) none (.load false 1 (.tmp 36)),
          .op (some 38) none (.mv (.tmp 5)),
          .op (some 39) none (.iaddr 4 (.tmp 37) (.tmp 38)),
          .op (some 40) none (.load true 4 (.tmp 39)),
          .op (some 6) none (.alloc 4 (.agg [(.v (.int .i64 (0))), (.v (.int .i64 (0))), (.v (.int .i64 (0))), (.v (.int .i64 (0)))])),
          .op none none (.store 4 (.tmp 6) (.tmp 40))]) (
       .reg [.op (some 41) none (.mv (.tmp 4)),
         .op (some 42) none (.faddr false 1 0 (.tmp 6)),
         .op (some 43) none (.load false 1 (.tmp 42)),
         .op (some 44) none (.faddr false 1 1 (.tmp 6)),
         .op (some 45) none (.load false 1 (.tmp 44)),
         .op (some 46) none (.faddr false 1 2 (.tmp 6)),
         .op (some 47) none (.load false 1 (.tmp 46)),
         .op (some 48) none (.faddr false 1 3 (.tmp 6)),
         .op (some 49) none (.load false 1 (.tmp 48)),
         .op (some 50) none (.bslice 1 4 (.v (.int .i64 (0))) [(0, (.tmp 43)), (1, (.tmp 45)), (2, (.tmp 47)), (3, (.tmp 49))]),
         .op (some 51) none (.append 1 8 (.tmp 41) (.tmp 50)),
         .op (some 4) none (.mv (.tmp 51))]))) (
     .reg [.op (some 34) none (.mv (.tmp 5)),
       .op (some 35) none (.bin .add (.tmp 34) (.const (.int .i64 (1)))),
       .op (some 5) none (.mv (.tmp 35))])))))) (
  .seq (
   .reg [.op (some 52) none (.mv (.tmp 4)),
     .op (some 2) none (.mv (.tmp 52))]) (
  .ret)))))
def k24 : Fun := ⟨53, [.tmp 2], k24c⟩
theorem k24_ok : compF Try.prog 24 = some k24 := by kernel_rfl
theorem k24_name : ((Try.prog.funcs[24]?).map fun fn => fn.name == "runtime.NumGoroutine") = some false := by kernel_rfl
/-- guerdon/guerdonref47.put -/
def k25c : C :=
  .seq (
   .reg [.op (some 6) none (.mv (.const (.slice none 0 0)))]) (
  .seq (
   .seq (
    .reg [.op (some 7) none (.mv (.const (.int .i64 (0))))]) (
   .block 0 (
    .loop (
     .seq (
      .seq (
       .reg [.op (some 8) none (.mv (.tmp 7)),
         .op (some 9) none (.mv (.tmp 2)),
         .op (some 10) none (.bin .lss (.tmp 8) (.tmp 9))]) (
      .cond (.tmp 10) (
       .skip) (
       .exit 0))) (
     .seq (
      .block 1 (
       .seq (
        .reg [.op (some 13) none (.mv (.tmp 0)),
          .op (some 14) none (.mv (.tmp 1)),
          .op (some 15) none (.bin .rem (.tmp 14) (.const (.int .u64 (256)))),
          .op (some 16) none (.conv .u8 (.tmp 15)),
          .op (some 17) none (.bslice 1 1 (.v (.int .u8 (0))) [(0, (.tmp 16))]),
          .op (some 18) none (.append 1 1 (.tmp 13) (.tmp 17)),
          .op (some 0) none (.mv (.tmp 18))]) (
       .reg [.op (some 19) none (.mv (.tmp 1)),
         .op (some 20) none (.bin .quo (.tmp 19) (.const (.int .u64 (256)))),
         .op (some 1) none (.mv (.tmp 20))]))) (
     .reg [.op (some 11) none (.mv (.tmp 7)),
       .op (some 12) none (.bin .add (.tmp 11) (.const (.int .i64 (1)))),
       .op (some 7) none (.mv (.tmp 12))])))))) (
  .seq (
   .reg [.op (some 21) none (.mv (.tmp 0)),
     .op (some 6) none (.mv (.tmp 21))]) (
  .ret)))
def k25 : Fun := ⟨22, [.tmp 6], k25c⟩
theorem k25_ok : compF Try.prog 25 = some k25 := by kernel_rfl
theorem k25_name : ((Try.prog.funcs[25]?).map fun fn => fn.name == "runtime.NumGoroutine") = some false := by kernel_rfl
/-- guerdon/journal.decodeOne -/
def k26c : C :=
  .seq (
   .reg [.op (some 2) none (.alloc 9 (.agg [(.v (.int .i64 (0))), (.v (.int .i64 (0))), (.v (.int .i64 (0))), (.v (.int .i64 (0))), (.v (.int .i64 (0))), (.v (.int .i64 (0))), (.v (.int .i64 (0))), (.v (.int .i64 (0))), (.v (.slice none 0 0))])),
     .op (some 3) none (.mv (.const (.int .i64 (0)))),
     .op (some 4) none (.mv (.const (.bool false)))]) (
  .seq (
   .reg [.op (some 5) none (.alloc 9 (.agg [(.v (.int .i64 (0))), (.v (.int .i64 (0))), (.v (.int .i64 (0))), (.v (.int .i64 (0))), (.v (.int .i64 (0))), (.v (.int .i64 (0))), (.v (.int .i64 (0))), (.v (.int .i64 (0))), (.v (.slice none 0 0))]))]) (
  .seq (
   .seq (
    .reg [.op (some 13) none (.mv (.tmp 0)),
      .op (some 14) none (.len (.tmp 13)),
      .op (some 15) none (.bin .lss (.tmp 14) (.const (.int .i64 (4))))]) (
   .cond (.tmp 15) (
    .seq (
     .reg [.op (some 16) none (.load true 9 (.tmp 5)),
       .op none none (.store 9 (.tmp 2) (.tmp 16)),
       .op (some 3) none (.mv (.const (.int .i64 (0)))),
       .op (some 4) none (.mv (.const (.bool false)))]) (
    .ret)) (
    .skip))) (
  .seq (
   .reg [.op (some 17) none (.mv (.tmp 0)),
     .op (some 18) none (.build [(.v (.slice none 0 0))] [(0, 1, (.tmp 17))]),
     .op (some 19) none (.box 1 (.tmp 18)),
     .op (some 6) none (.mv (.tmp 19))]) (
  .seq (
   .reg [.op (some 20) none (.mv (.tmp 6)),
     .call (some 21) none (.func 30) [(.tmp 20)],
     .op (some 7) none (.mv (.tmp 21))]) (
  .seq (
   .reg [.op (some 22) none (.mv (.tmp 7)),
     .op (some 23) none (.bin .sub (.tmp 22) (.const (.int .i64 (72)))),
     .op (some 24) none (.bin .quo (.tmp 23) (.const (.int .i64 (32)))),
     .op (some 8) none (.mv (.tmp 24))]) (
  .seq (
   .seq (
    .reg [.op (some 25) none (.mv (.tmp 7)),
      .op (some 26) none (.bin .lss (.tmp 25) (.const (.int .i64 (72)))),
      .op (some 27) none (.mv (.tmp 26)),
      .op (some 28) (some (27, false)) (.mv (.tmp 7)),
      .op (some 29) (some (27, false)) (.bin .sub (.tmp 28) (.const (.int .i64 (72)))),
      .op (some 30) (some (27, false)) (.bin .rem (.tmp 29) (.const (.int .i64 (32)))),
      .op (some 31) (some (27, false)) (.bin .neq (.tmp 30) (.const (.int .i64 (0)))),
      .op (some 32) none (.pick (.tmp 27) (.const (.bool true)) (.tmp 31)),
      .op (some 33) none (.mv (.tmp 32)),
      .op (some 34) (some (33, false)) (.mv (.tmp 8)),
      .op (some 35) (some (33, false)) (.bin .gtr (.tmp 34) (.const (.int .i64 (4096)))),
      .op (some 36) none (.pick (.tmp 33) (.const (.bool true)) (.tmp 35))]) (
   .cond (.tmp 36) (
    .seq (
     .reg [.op (some 37) none (.load true 9 (.tmp 5)),
       .op none none (.store 9 (.tmp 2) (.tmp 37)),
       .op (some 3) none (.mv (.const (.int .i64 (0)))),
       .op (some 4) none (.mv (.const (.bool false)))]) (
    .ret)) (
    .skip))) (
  .seq (
   .seq (
    .reg [.op (some 38) none (.mv (.tmp 6)),
      .op (some 39) none (.nilc (.tmp 38)),
      .op (some 40) none (.faddr false 1 0 (.tmp 39)),
      .op (some 41) none (.load false 1 (.tmp 40)),
      .op (some 42) none (.len (.tmp 41)),
      .op (some 43) none (.mv (.tmp 7)),
      .op (some 44) none (.bin .add (.tmp 43) (.const (.int .i64 (4)))),
      .op (some 45) none (.bin .lss (.tmp 42) (.tmp 44))]) (
   .cond (.tmp 45) (
    .seq (
     .reg [.op (some 46) none (.load true 9 (.tmp 5)),
       .op none none (.store 9 (.tmp 2) (.tmp 46)),
       .op (some 3) none (.mv (.const (.int .i64 (0)))),
       .op (some 4) none (.mv (.const (.bool false)))]) (
    .ret)) (
    .skip))) (
  .seq (
   .reg [.op (some 47) none (.mv (.tmp 6)),
     .op (some 48) none (.nilc (.tmp 47)),
     .op (some 49) none (.faddr false 1 0 (.tmp 48)),
     .op (some 50) none (.load false 1 (.tmp 49)),
     .op (some 51) none (.mv (.tmp 7)),
     .op (some 52) none (.slice 1 (.tmp 50) (some (.tmp 51)) none none),
     .op (some 53) none (.build [(.v (.slice none 0 0))] [(0, 1, (.tmp 52))]),
     .op (some 54) none (.box 1 (.tmp 53)),
     .op (some 9) none (.mv (.tmp 54))]) (
  .seq (
   .seq (
    .reg [.op (some 55) none (.mv (.tmp 6)),
      .op (some 56) none (.nilc (.tmp 55)),
      .op (some 57) none (.faddr false 1 0 (.tmp 56)),
      .op (some 58) none (.load false 1 (.tmp 57)),
      .op (some 59) none (.mv (.tmp 7)),
      .op (some 60) none (.slice 1 (.tmp 58) none (some (.tmp 59)) none),
      .call (some 61) none (.func 11) [(.tmp 60)],
      .op (some 62) none (.mv (.tmp 9)),
      .call (some 63) none (.func 30) [(.tmp 62)],
      .op (some 64) none (.bin .neq (.tmp 61) (.tmp 63))]) (
   .cond (.tmp 64) (
    .seq (
     .reg [.op (some 65) none (.load true 9 (.tmp 5)),
       .op none none (.store 9 (.tmp 2) (.tmp 65)),
       .op (some 3) none (.mv (.const (.int .i64 (0)))),
       .op (some 4) none (.mv (.const (.bool false)))]) (
    .ret)) (
    .skip))) (
  .seq (
   .reg [.op (some 10) none (.alloc 1 (.v (.int .i64 (0)))),
     .op none none (.store 1 (.tmp 10) (.const (.int .i64 (0))))]) (
  .seq (
   .reg [.op (some 66) none (.faddr true 5 3 (.tmp 5)),
     .op (some 11) none (.mv (.tmp 66))]) (
  .seq (
   .draw 21 [.op (some 67) none (.mv (.tmp 6)),
     .op (some 68) none (.mkfunc 32 [(.tmp 67)] []),
     .op (some 69) none (.faddr false 1 0 (.tmp 5)),
     .op (some 70) none (.faddr false 1 1 (.tmp 5)),
     .op (some 71) none (.faddr false 1 2 (.tmp 5)),
     .op (some 72) none (.mv (.tmp 11)),
     .op (some 73) none (.nilc (.tmp 72)),
     .op (some 74) none (.faddr false 1 0 (.tmp 73)),
     .op (some 75) none (.mv (.tmp 11)),
     .op (some 76) none (.nilc (.tmp 75)),
     .op (some 77) none (.faddr false 1 1 (.tmp 76)),
     .op (some 78) none (.mv (.tmp 11)),
     .op (some 79) none (.nilc (.tmp 78)),
     .op (some 80) none (.faddr false 1 2 (.tmp 79)),
     .op (some 81) none (.mv (.tmp 11)),
     .op (some 82) none (.nilc (.tmp 81)),
     .op (some 83) none (.faddr false 1 3 (.tmp 82)),
     .op (some 84) none (.mv (.tmp 11)),
     .op (some 85) none (.nilc (.tmp 84)),
     .op (some 86) none (.faddr false 1 4 (.tmp 85)),
     .op (some 87) none (.bslice 1 9 (.v (.pointer none)) [(0, (.tmp 69)), (1, (.tmp 70)), (2, (.tmp 71)), (3, (.tmp 74)), (4, (.tmp 77)), (5, (.tmp 80)), (6, (.tmp 83)), (7, (.tmp 86)), (8, (.tmp 10))]),
     .call (some 88) none (.func 31) [(.tmp 68), (.tmp 87)]]) (
  .seq (
   .seq (
    .reg [.op (some 89) none (.load false 1 (.tmp 10)),
      .op (some 90) none (.mv (.tmp 8)),
      .op (some 91) none (.bin .neq (.tmp 89) (.tmp 90))]) (
   .cond (.tmp 91) (
    .seq (
     .reg [.op (some 92) none (.build [(.v (.int .i64 (0))), (.v (.int .i64 (0))), (.v (.int .i64 (0))), (.v (.int .i64 (0))), (.v (.int .i64 (0))), (.v (.int .i64 (0))), (.v (.int .i64 (0))), (.v (.int .i64 (0))), (.v (.slice none 0 0))] []),
       .op none none (.store 9 (.tmp 2) (.tmp 92)),
       .op (some 3) none (.mv (.const (.int .i64 (0)))),
       .op (some 4) none (.mv (.const (.bool false)))]) (
    .ret)) (
    .skip))) (
  .seq (
   .seq (
    .reg [.op (some 93) none (.mv (.tmp 8)),
      .op (some 94) none (.mv (.const (.int .i64 (0))))]) (
   .block 0 (
    .loop (
     .seq (
      .reg [.op (some 95) none (.bin .lss (.tmp 94) (.tmp 93))]) (
     .seq (
      .cond (.tmp 95) (
       .skip) (
       .exit 0)) (
     .seq (
      .block 1 (
       .seq (
        .reg [.op (some 12) none (.alloc 4 (.agg [(.v (.int .i64 (0))), (.v (.int .i64 (0))), (.v (.int .i64 (0))), (.v (.int .i64 (0)))]))]) (
       .seq (
        .reg [.op (some 96) none (.mv (.tmp 6)),
          .op (some 97) none (.mkfunc 32 [(.tmp 96)] []),
          .op (some 98) none (.faddr false 1 0 (.tmp 12)),
          .op (some 99) none (.faddr false 1 1 (.tmp 12)),
          .op (some 100) none (.faddr false 1 2 (.tmp 12)),
          .op (some 101) none (.faddr false 1 3 (.tmp 12)),
          .op (some 102) none (.bslice 1 4 (.v (.pointer none)) [(0, (.tmp 98)), (1, (.tmp 99)), (2, (.tmp 100)), (3, (.tmp 101))]),
          .call (some 103) none (.func 31) [(.tmp 97), (.tmp 102)]]) (
       .reg [.op (some 104) none (.faddr false 1 8 (.tmp 5)),
         .op (some 105) none (.load false 1 (.tmp 104)),
         .op (some 106) none (.load true 4 (.tmp 12)),
         .op (some 107) none (.bslice 4 1 (.agg [(.v (.int .i64 (0))), (.v (.int .i64 (0))), (.v (.int .i64 (0))), (.v (.int .i64 (0)))]) [(0, (.tmp 106))]),
         .op (some 108) none (.append 4 32 (.tmp 105) (.tmp 107)),
         .op (some 109) none (.faddr false 1 8 (.tmp 5)),
         .op none none (.store 1 (.tmp 109) (.tmp 108))])))) (
     .reg [.op (some 110) none (.bin .add (.tmp 94) (.const (.int .i64 (1)))),
       .op (some 94) none (.mv (.tmp 110))]))))))) (
  .seq (
   .reg [.op (some 111) none (.load true 9 (.tmp 5)),
     .op (some 112) none (.mv (.tmp 7)),
     .op (some 113) none (.bin .add (.const (.int .i64 (4))) (.tmp 112)),
     .op (some 114) none (.bin .add (.tmp 113) (.const (.int .i64 (4)))),
     .op none none (.store 9 (.tmp 2) (.tmp 111)),
     .op (some 3) none (.mv (.tmp 114)),
     .op (some 4) none (.mv (.const (.bool true)))]) (
  .ret))))))))))))))))
def k26 : Fun := ⟨115, [.cell true 9 2, .tmp 3, .tmp 4], k26c⟩
theorem k26_ok : compF Try.prog 26 = some k26 := by kernel_rfl
theorem k26_name : ((Try.prog.funcs[26]?).map fun fn => fn.name == "runtime.NumGoroutine") = some false := by kernel_rfl
/-- guerdon/guerdonref47.length -/
def k27c : C :=
  .seq (
   .reg [.op (some 2) none (.mv (.const (.int .i64 (0))))]) (
  .seq (
   .seq (
    .reg [.op (some 5) none (.mv (.tmp 0)),
      .op (some 6) none (.len (.tmp 5)),
      .op (some 7) none (.bin .lss (.tmp 6) (.const (.int .i64 (4))))]) (
   .cond (.tmp 7) (
    .seq (
     .reg [.op (some 2) none (.mv (.const (.int .i64 (0))))]) (
    .ret)) (
    .skip))) (
  .seq (
   .reg [.op (some 8) none (.mv (.tmp 0)),
     .call (some 9) none (.func 33) [(.tmp 8), (.const (.int .i64 (4)))],
     .op (some 10) none (.conv .i64 (.tmp 9)),
     .op (some 3) none (.mv (.tmp 10))]) (
  .seq (
   .seq (
    .reg [.op (some 11) none (.mv (.tmp 3)),
      .op (some 12) none (.bin .lss (.tmp 11) (.const (.int .i64 (72)))),
      .op (some 13) none (.mv (.tmp 12)),
      .op (some 14) (some (13, false)) (.mv (.tmp 3)),
      .op (some 15) (some (13, false)) (.bin .sub (.tmp 14) (.const (.int .i64 (72)))),
      .op (some 16) (some (13, false)) (.bin .rem (.tmp 15) (.const (.int .i64 (32)))),
      .op (some 17) (some (13, false)) (.bin .neq (.tmp 16) (.const (.int .i64 (0)))),
      .op (some 18) none (.pick (.tmp 13) (.const (.bool true)) (.tmp 17)),
      .op (some 19) none (.mv (.tmp 18)),
      .op (some 20) (some (19, false)) (.mv (.tmp 3)),
      .op (some 21) (some (19, false)) (.bin .sub (.tmp 20) (.const (.int .i64 (72)))),
      .op (some 22) (some (19, false)) (.bin .quo (.tmp 21) (.const (.int .i64 (32)))),
      .op (some 23) (some (19, false)) (.bin .gtr (.tmp 22) (.const (.int .i64 (4096)))),
      .op (some 24) none (.pick (.tmp 19) (.const (.bool true)) (.tmp 23)),
      .op (some 25) none (.mv (.tmp 24)),
      .op (some 26) (some (25, false)) (.mv (.tmp 0)),
      .op (some 27) (some (25, false)) (.len (.tmp 26)),
      .op (some 28) (some (25, false)) (.mv (.tmp 3)),
      .op (some 29) (some (25, false)) (.bin .add (.tmp 28) (.const (.int .i64 (8)))),
      .op (some 30) (some (25, false)) (.bin .lss (.tmp 27) (.tmp 29)),
      .op (some 31) none (.pick (.tmp 25) (.const (.bool true)) (.tmp 30))]) (
   .cond (.tmp 31) (
    .seq (
     .reg [.op (some 2) none (.mv (.const (.int .i64 (0))))]) (
    .ret)) (
    .skip))) (
  .seq (
   .reg [.op (some 32) none (.mv (.tmp 0)),
     .op (some 33) none (.mv (.tmp 3)),
     .op (some 34) none (.bin .add (.tmp 33) (.const (.int .i64 (4)))),
     .op (some 35) none (.slice 1 (.tmp 32) (some (.const (.int .i64 (4)))) (some (.tmp 34)) none),
     .op (some 4) none (.mv (.tmp 35))]) (
  .seq (
   .seq (
    .reg [.op (some 36) none (.mv (.tmp 0)),
      .op (some 37) none (.mv (.tmp 3)),
      .op (some 38) none (.bin .add (.tmp 37) (.const (.int .i64 (4)))),
      .op (some 39) none (.slice 1 (.tmp 36) (some (.tmp 38)) none none),
      .call (some 40) none (.func 33) [(.tmp 39), (.const (.int .i64 (4)))],
      .op (some 41) none (.mv (.tmp 4)),
      .call (some 42) none (.func 12) [(.tmp 41)],
      .op (some 43) none (.conv .u64 (.tmp 42)),
      .op (some 44) none (.bin .neq (.tmp 40) (.tmp 43)),
      .op (some 45) none (.mv (.tmp 44)),
      .op (some 46) (some (45, false)) (.mv (.tmp 4)),
      .op (some 47) (some (45, false)) (.slice 1 (.tmp 46) (some (.const (.int .i64 (64)))) none none),
      .call (some 48) (some (45, false)) (.func 33) [(.tmp 47), (.const (.int .i64 (8)))],
      .op (some 49) (some (45, false)) (.mv (.tmp 3)),
      .op (some 50) (some (45, false)) (.bin .sub (.tmp 49) (.const (.int .i64 (72)))),
      .op (some 51) (some (45, false)) (.bin .quo (.tmp 50) (.const (.int .i64 (32)))),
      .op (some 52) (some (45, false)) (.conv .u64 (.tmp 51)),
      .op (some 53) (some (45, false)) (.bin .neq (.tmp 48) (.tmp 52)),
      .op (some 54) none (.pick (.tmp 45) (.const (.bool true)) (.tmp 53))]) (
   .cond (.tmp 54) (
    .seq (
     .reg [.op (some 2) none (.mv (.const (.int .i64 (0))))]) (
    .ret)) (
    .skip))) (
  .seq (
   .reg [.op (some 55) none (.mv (.tmp 3)),
     .op (some 56) none (.bin .add (.tmp 55) (.const (.int .i64 (8)))),
     .op (some 2) none (.mv (.tmp 56))]) (
  .ret)))))))
def k27 : Fun := ⟨57, [.tmp 2], k27c⟩
theorem k27_ok : compF Try.prog 27 = some k27 := by kernel_rfl
theorem k27_name : ((Try.prog.funcs[27]?).map fun fn => fn.name == "runtime.NumGoroutine") = some false := by kernel_rfl
/-- guerdon/guerdonref47.record -/
def k28c : C :=
  .seq (
   .reg [.op (some 2) none (.alloc 9 (.agg [(.v (.int .i64 (0))), (.v (.int .i64 (0))), (.v (.int .i64 (0))), (.v (.int .i64 (0))), (.v (.int .i64 (0))), (.v (.int .i64 (0))), (.v (.int .i64 (0))), (.v (.int .i64 (0))), (.v (.slice none 0 0))]))]) (
  .seq (
   .reg [.op (some 3) none (.mv (.const (.slice none 0 0)))]) (
  .seq (
   .seq (
    .reg [.op (some 4) none (.mv (.const (.int .i64 (0))))]) (
   .block 0 (
    .loop (
     .seq (
      .seq (
       .reg [.op (some 7) none (.mv (.tmp 4)),
         .op (some 8) none (.bin .add (.tmp 7) (.const (.int .i64 (8)))),
         .op (some 9) none (.mv (.tmp 0)),
         .op (some 10) none (.len (.tmp 9)),
         .op (some 11) none (.bin .leq (.tmp 8) (.tmp 10))]) (
      .cond (.tmp 11) (
       .skip) (
       .exit 0))) (
     .seq (
      .block 1 (
       .reg [.op (some 14) none (.mv (.tmp 3)),
         .op (some 15) none (.mv (.tmp 0)),
         .op (some 16) none (.mv (.tmp 4)),
         .op (some 17) none (.slice 1 (.tmp 15) (some (.tmp 16)) none none),
         .call (some 18) none (.func 33) [(.tmp 17), (.const (.int .i64 (8)))],
         .op (some 19) none (.conv .i64 (.tmp 18)),
         .op (some 20) none (.bslice 1 1 (.v (.int .i64 (0))) [(0, (.tmp 19))]),
         .op (some 21) none (.append 1 8 (.tmp 14) (.tmp 20)),
         .op (some 3) none (.mv (.tmp 21))])) (
     .reg [.op (some 12) none (.mv (.tmp 4)),
       .op (some 13) none (.bin .add (.tmp 12) (.const (.int .i64 (8)))),
       .op (some 4) none (.mv (.tmp 13))])))))) (
  .seq (
   .draw 11 [.op (some 22) none (.mv (.tmp 3)),
     .op (some 23) none (.iaddr 1 (.tmp 22) (.const (.int .i64 (0)))),
     .op (some 24) none (.load false 1 (.tmp 23)),
     .op (some 25) none (.mv (.tmp 3)),
     .op (some 26) none (.iaddr 1 (.tmp 25) (.const (.int .i64 (1)))),
     .op (some 27) none (.load false 1 (.tmp 26)),
     .op (some 28) none (.mv (.tmp 3)),
     .op (some 29) none (.iaddr 1 (.tmp 28) (.const (.int .i64 (2)))),
     .op (some 30) none (.load false 1 (.tmp 29)),
     .op (some 31) none (.build [(.v (.int .i64 (0))), (.v (.int .i64 (0))), (.v (.int .i64 (0))), (.v (.int .i64 (0))), (.v (.int .i64 (0))), (.v (.int .i64 (0))), (.v (.int .i64 (0))), (.v (.int .i64 (0))), (.v (.slice none 0 0))] [(0, 1, (.tmp 24)), (1, 1, (.tmp 27)), (2, 1, (.tmp 30))]),
     .op (some 5) none (.alloc 9 (.agg [(.v (.int .i64 (0))), (.v (.int .i64 (0))), (.v (.int .i64 (0))), (.v (.int .i64 (0))), (.v (.int .i64 (0))), (.v (.int .i64 (0))), (.v (.int .i64 (0))), (.v (.int .i64 (0))), (.v (.slice none 0 0))])),
     .op none none (.store 9 (.tmp 5) (.tmp 31))]) (
  .seq (
   .draw 15 [.op (some 32) none (.mv (.tmp 3)),
     .op (some 33) none (.iaddr 1 (.tmp 32) (.const (.int .i64 (3)))),
     .op (some 34) none (.load false 1 (.tmp 33)),
     .op (some 35) none (.mv (.tmp 3)),
     .op (some 36) none (.iaddr 1 (.tmp 35) (.const (.int .i64 (4)))),
     .op (some 37) none (.load false 1 (.tmp 36)),
     .op (some 38) none (.mv (.tmp 3)),
     .op (some 39) none (.iaddr 1 (.tmp 38) (.const (.int .i64 (5)))),
     .op (some 40) none (.load false 1 (.tmp 39)),
     .op (some 41) none (.mv (.tmp 3)),
     .op (some 42) none (.iaddr 1 (.tmp 41) (.const (.int .i64 (6)))),
     .op (some 43) none (.load false 1 (.tmp 42)),
     .op (some 44) none (.mv (.tmp 3)),
     .op (some 45) none (.iaddr 1 (.tmp 44) (.const (.int .i64 (7)))),
     .op (some 46) none (.load false 1 (.tmp 45)),
     .op (some 47) none (.build [(.v (.int .i64 (0))), (.v (.int .i64 (0))), (.v (.int .i64 (0))), (.v (.int .i64 (0))), (.v (.int .i64 (0)))] [(0, 1, (.tmp 34)), (1, 1, (.tmp 37)), (2, 1, (.tmp 40)), (3, 1, (.tmp 43)), (4, 1, (.tmp 46))]),
     .op (some 48) none (.faddr true 5 3 (.tmp 5)),
     .op none none (.store 5 (.tmp 48) (.tmp 47))]) (
  .seq (
   .seq (
    .reg [.op (some 6) none (.mv (.const (.int .i64 (9))))]) (
   .block 2 (
    .loop (
     .seq (
      .seq (
       .reg [.op (some 49) none (.mv (.tmp 6)),
         .op (some 50) none (.bin .add (.tmp 49) (.const (.int .i64 (4)))),
         .op (some 51) none (.mv (.tmp 3)),
         .op (some 52) none (.len (.tmp 51)),
         .op (some 53) none (.bin .leq (.tmp 50) (.tmp 52))]) (
      .cond (.tmp 53) (
       .skip) (
       .exit 2))) (
     .seq (
      .block 3 (
       .draw 23 [.op (some 56) none (.faddr false 1 8 (.tmp 5)),
         .op (some 57) none (.load false 1 (.tmp 56)),
         .op (some 58) none (.mv (.tmp 3)),
         .op (some 59) none (.mv (.tmp 6)),
         .op (some 60) none (.iaddr 1 (.tmp 58) (.tmp 59)),
         .op (some 61) none (.load false 1 (.tmp 60)),
         .op (some 62) none (.mv (.tmp 3)),
         .op (some 63) none (.mv (.tmp 6)),
         .op (some 64) none (.bin .add (.tmp 63) (.const (.int .i64 (1)))),
         .op (some 65) none (.iaddr 1 (.tmp 62) (.tmp 64)),
         .op (some 66) none (.load false 1 (.tmp 65)),
         .op (some 67) none (.mv (.tmp 3)),
         .op (some 68) none (.mv (.tmp 6)),
         .op (some 69) none (.bin .add (.tmp 68) (.const (.int .i64 (2)))),
         .op (some 70) none (.iaddr 1 (.tmp 67) (.tmp 69)),
         .op (some 71) none (.load false 1 (.tmp 70)),
         .op (some 72) none (.mv (.tmp 3)),
         .op (some 73) none (.mv (.tmp 6)),
         .op (some 74) none (.bin .add (.tmp 73) (.const (.int .i64 (3)))),
         .op (some 75) none (.iaddr 1 (.tmp 72) (.tmp 74)),
         .op (some 76) none (.load false 1 (.tmp 75)),
         .op (some 77) none (.build [(.v (.int .i64 (0))), (.v (.int .i64 (0))), (.v (.int .i64 (0))), (.v (.int .i64 (0)))] [(0, 1, (.tmp 61)), (1, 1, (.tmp 66)), (2, 1, (.tmp 71)), (3, 1, (.tmp 76))]),
         .op (some 78) none (.bslice 4 1 (.agg [(.v (.int .i64 (0))), (.v (.int .i64 (0))), (.v (.int .i64 (0))), (.v (.int .i64 (0)))]) [(0, (.tmp 77))]),
         .op (some 79) none (.append 4 32 (.tmp 57) (.tmp 78)),
         .op (some 80) none (.faddr false 1 8 (.tmp 5)),
         .op none none (.store 1 (.tmp 80) (.tmp 79))])) (
     .reg [.op (some 54) none (.mv (.tmp 6)),
       .op (some 55) none (.bin .add (.tmp 54) (.const (.int .i64 (4)))),
       .op (some 6) none (.mv (.tmp 55))])))))) (
  .seq (
   .reg [.op (some 81) none (.load true 9 (.tmp 5)),
     .op none none (.store 9 (.tmp 2) (.tmp 81))]) (
  .ret)))))))
def k28 : Fun := ⟨82, [.cell true 9 2], k28c⟩
theorem k28_ok : compF Try.prog 28 = some k28 := by kernel_rfl
theorem k28_name : ((Try.prog.funcs[28]?).map fun fn => fn.name == "runtime.NumGoroutine") = some false := by kernel_rfl
/-- guerdon/guerdonsame.JournalRecord -/
def k29c : C :=
  .seq (
   .reg [.op (some 2) none (.box 9 (.tmp 0)),
     .op (some 3) none (.box 9 (.tmp 1)),
     .op (some 4) none (.mv (.const (.bool false)))]) (
  .seq (
   .reg [.op (some 5) none (.faddr false 1 0 (.tmp 2)),
     .op (some 6) none (.load false 1 (.tmp 5)),
     .op (some 7) none (.faddr false 1 0 (.tmp 3)),
     .op (some 8) none (.load false 1 (.tmp 7)),
     .op (some 9) none (.bin .eql (.tmp 6) (.tmp 8)),
     .op (some 10) none (.mv (.tmp 9)),
     .op (some 11) (some (10, true)) (.faddr false 1 1 (.tmp 2)),
     .op (some 12) (some (10, true)) (.load false 1 (.tmp 11)),
     .op (some 13) (some (10, true)) (.faddr false 1 1 (.tmp 3)),
     .op (some 14) (some (10, true)) (.load false 1 (.tmp 13)),
     .op (some 15) (some (10, true)) (.bin .eql (.tmp 12) (.tmp 14)),
     .op (some 16) none (.pick (.tmp 10) (.tmp 15) (.const (.bool false))),
     .op (some 17) none (.mv (.tmp 16)),
     .op (some 18) (some (17, true)) (.faddr false 1 2 (.tmp 2)),
     .op (some 19) (some (17, true)) (.load false 1 (.tmp 18)),
     .op (some 20) (some (17, true)) (.faddr false 1 2 (.tmp 3)),
     .op (some 21) (some (17, true)) (.load false 1 (.tmp 20)),
     .op (some 22) (some (17, true)) (.bin .eql (.tmp 19) (.tmp 21)),
     .op (some 23) none (.pick (.tmp 17) (.tmp 22) (.const (.bool false))),
     .op (some 24) none (.mv (.tmp 23)),
     .op (some 25) (some (24, true)) (.faddr true 5 3 (.tmp 2)),
     .op (some 26) (some (24, true)) (.load true 5 (.tmp 25)),
     .op (some 27) (some (24, true)) (.faddr true 5 3 (.tmp 3)),
     .op (some 28) (some (24, true)) (.load true 5 (.tmp 27)),
     .op (some 29) (some (24, true)) (.ceq false [0, 0, 0, 0, 0] (.tmp 26) (.tmp 28)),
     .op (some 30) none (.pick (.tmp 24) (.tmp 29) (.const (.bool false))),
     .op (some 31) none (.mv (.tmp 30)),
     .op (some 32) (some (31, true)) (.faddr false 1 8 (.tmp 2)),
     .op (some 33) (some (31, true)) (.load false 1 (.tmp 32)),
     .op (some 34) (some (31, true)) (.faddr false 1 8 (.tmp 3)),
     .op (some 35) (some (31, true)) (.load false 1 (.tmp 34)),
     .call (some 36) (some (31, true)) (.func 34) [(.tmp 33), (.tmp 35)],
     .op (some 37) none (.pick (.tmp 31) (.tmp 36) (.const (.bool false))),
     .op (some 4) none (.mv (.tmp 37))]) (
  .ret))
def k29 : Fun := ⟨38, [.tmp 4], k29c⟩
theorem k29_ok : compF Try.prog 29 = some k29 := by kernel_rfl
theorem k29_name : ((Try.prog.funcs[29]?).map fun fn => fn.name == "runtime.NumGoroutine") = some false := by kernel_rfl
/-- (*guerdon/journal.reader).half -/
def k30c : C :=
  .seq (
   .reg [.op (some 2) none (.mv (.const (.int .i64 (0))))]) (
  .seq (
   .reg [.op (some 3) none (.mv (.tmp 0)),
     .call (some 4) none (.func 35) [(.tmp 3), (.const (.int .i64 (4)))],
     .op (some 5) none (.conv .i64 (.tmp 4)),
     .op (some 2) none (.mv (.tmp 5))]) (
  .ret))
def k30 : Fun := ⟨6, [.tmp 2], k30c⟩
theorem k30_ok : compF Try.prog 30 = some k30 := by kernel_rfl
theorem k30_name : ((Try.prog.funcs[30]?).map fun fn => fn.name == "runtime.NumGoroutine") = some false := by kernel_rfl
/-- guerdon/journal.fill -/
def k31c : C :=
  .seq (
   .reg [.op (some 6) none (.mv (.tmp 1)),
     .op (some 7) none (.len (.tmp 6)),
     .op (some 8) none (.mv (.const (.int .i64 (0))))]) (
  .block 0 (
   .loop (
    .seq (
     .reg [.op (some 9) none (.bin .lss (.tmp 8) (.tmp 7))]) (
    .seq (
     .cond (.tmp 9) (
      .skip) (
      .exit 0)) (
    .seq (
     .block 1 (
      .seq (
       .reg [.op (some 10) none (.iaddr 1 (.tmp 6) (.tmp 8)),
         .op (some 11) none (.load false 1 (.tmp 10)),
         .op (some 5) none (.mv (.tmp 11))]) (
      .reg [.op (some 12) none (.mv (.tmp 5)),
        .op (some 13) none (.mv (.tmp 0)),
        .call (some 14) none (.tmp 13) [],
        .op (some 15) none (.nilc (.tmp 12)),
        .op none none (.store 1 (.tmp 15) (.tmp 14))]))) (
    .reg [.op (some 16) none (.bin .add (.tmp 8) (.const (.int .i64 (1)))),
      .op (some 8) none (.mv (.tmp 16))]))))))
def k31 : Fun := ⟨17, [], k31c⟩
theorem k31_ok : compF Try.prog 31 = some k31 := by kernel_rfl
theorem k31_name : ((Try.prog.funcs[31]?).map fun fn => fn.name == "runtime.NumGoroutine") = some false := by kernel_rfl
/-- (*guerdon/journal.reader).word -/
def k32c : C :=
  .seq (
   .reg [.op (some 2) none (.mv (.const (.int .i64 (0))))]) (
  .seq (
   .reg [.op (some 3) none (.mv (.tmp 0)),
     .call (some 4) none (.func 35) [(.tmp 3), (.const (.int .i64 (8)))],
     .op (some 5) none (.conv .i64 (.tmp 4)),
     .op (some 2) none (.mv (.tmp 5))]) (
  .ret))
def k32 : Fun := ⟨6, [.tmp 2], k32c⟩
theorem k32_ok : compF Try.prog 32 = some k32 := by kernel_rfl
theorem k32_name : ((Try.prog.funcs[32]?).map fun fn => fn.name == "runtime.NumGoroutine") = some false := by kernel_rfl
/-- guerdon/guerdonref47.get -/
def k33c : C :=
  .seq (
   .reg [.op (some 4) none (.mv (.const (.int .u64 (0))))]) (
  .seq (
   .reg [.op (some 5) none (.mv (.const (.int .u64 (0))))]) (
  .seq (
   .seq (
    .reg [.op (some 7) none (.mv (.tmp 1)),
      .op (some 8) none (.bin .sub (.tmp 7) (.const (.int .i64 (1)))),
      .op (some 6) none (.mv (.tmp 8))]) (
   .block 0 (
    .loop (
     .seq (
      .seq (
       .reg [.op (some 9) none (.mv (.tmp 6)),
         .op (some 10) none (.bin .geq (.tmp 9) (.const (.int .i64 (0))))]) (
      .cond (.tmp 10) (
       .skip) (
       .exit 0))) (
     .seq (
      .block 1 (
       .reg [.op (some 13) none (.mv (.tmp 5)),
         .op (some 14) none (.bin .mul (.tmp 13) (.const (.int .u64 (256)))),
         .op (some 15) none (.mv (.tmp 0)),
         .op (some 16) none (.mv (.tmp 6)),
         .op (some 17) none (.iaddr 1 (.tmp 15) (.tmp 16)),
         .op (some 18) none (.load false 1 (.tmp 17)),
         .op (some 19) none (.conv .u64 (.tmp 18)),
         .op (some 20) none (.bin .add (.tmp 14) (.tmp 19)),
         .op (some 5) none (.mv (.tmp 20))])) (
     .reg [.op (some 11) none (.mv (.tmp 6)),
       .op (some 12) none (.bin .sub (.tmp 11) (.const (.int .i64 (1)))),
       .op (some 6) none (.mv (.tmp 12))])))))) (
  .seq (
   .reg [.op (some 21) none (.mv (.tmp 5)),
     .op (some 4) none (.mv (.tmp 21))]) (
  .ret))))
def k33 : Fun := ⟨22, [.tmp 4], k33c⟩
theorem k33_ok : compF Try.prog 33 = some k33 := by kernel_rfl
theorem k33_name : ((Try.prog.funcs[33]?).map fun fn => fn.name == "runtime.NumGoroutine") = some false := by kernel_rfl
/-- guerdon/guerdonsame.Postings -/
def k34c : C :=
  .seq (
   .reg [.op (some 4) none (.mv (.const (.bool false)))]) (
  .seq (
   .seq (
    .reg [.op (some 6) none (.mv (.tmp 0)),
      .op (some 7) none (.len (.tmp 6)),
      .op (some 8) none (.mv (.tmp 1)),
      .op (some 9) none (.len (.tmp 8)),
      .op (some 10) none (.bin .neq (.tmp 7) (.tmp 9))]) (
   .cond (.tmp 10) (
    .seq (
     .reg [.op (some 4) none (.mv (.const (.bool false)))]) (
    .ret)) (
    .skip))) (
  .seq (
   .seq (
    .reg [.op (some 5) none (.mv (.const (.int .i64 (0))))]) (
   .block 0 (
    .loop (
     .seq (
      .seq (
       .reg [.op (some 11) none (.mv (.tmp 5)),
         .op (some 12) none (.mv (.tmp 0)),
         .op (some 13) none (.len (.tmp 12)),
         .op (some 14) none (.bin .lss (.tmp 11) (.tmp 13)),
         .op (some 15) none (.mv (.tmp 14)),
         .op (some 16) (some (15, true)) (.mv (.tmp 5)),
         .op (some 17) (some (15, true)) (.mv (.tmp 1)),
         .op (some 18) (some (15, true)) (.len (.tmp 17)),
         .op (some 19) (some (15, true)) (.bin .lss (.tmp 16) (.tmp 18)),
         .op (some 20) none (.pick (.tmp 15) (.tmp 19) (.const (.bool false)))]) (
      .cond (.tmp 20) (
       .skip) (
       .exit 0))) (
     .seq (
      .block 1 (
       .seq (
        .draw 8 [.op (some 23) none (.mv (.tmp 0)),
          .op (some 24) none (.mv (.tmp 5)),
          .op (some 25) none (.iaddr 4 (.tmp 23) (.tmp 24)),
          .op (some 26) none (.load true 4 (.tmp 25)),
          .op (some 27) none (.mv (.tmp 1)),
          .op (some 28) none (.mv (.tmp 5)),
          .op (some 29) none (.iaddr 4 (.tmp 27) (.tmp 28)),
          .op (some 30) none (.load true 4 (.tmp 29)),
          .op (some 31) none (.ceq true [0, 0, 0, 0] (.tmp 26) (.tmp 30))]) (
       .cond (.tmp 31) (
        .seq (
         .reg [.op (some 4) none (.mv (.const (.bool false)))]) (
        .ret)) (
        .skip)))) (
     .reg [.op (some 21) none (.mv (.tmp 5)),
       .op (some 22) none (.bin .add (.tmp 21) (.const (.int .i64 (1)))),
       .op (some 5) none (.mv (.tmp 22))])))))) (
  .seq (
   .reg [.op (some 4) none (.mv (.const (.bool true)))]) (
  .ret))))
def k34 : Fun := ⟨32, [.tmp 4], k34c⟩
theorem k34_ok : compF Try.prog 34 = some k34 := by kernel_rfl
theorem k34_name : ((Try.prog.funcs[34]?).map fun fn => fn.name == "runtime.NumGoroutine") = some false := by kernel_rfl
/-- (*guerdon/journal.reader).take -/
def k35c : C :=
  .seq (
   .reg [.op (some 4) none (.mv (.const (.int .u64 (0))))]) (
  .seq (
   .reg [.op (some 5) none (.mv (.const (.int .u64 (0))))]) (
  .seq (
   .seq (
    .reg [.op (some 7) none (.mv (.tmp 1)),
      .op (some 8) none (.mv (.const (.int .i64 (0))))]) (
   .block 0 (
    .loop (
     .seq (
      .reg [.op (some 9) none (.bin .lss (.tmp 8) (.tmp 7))]) (
     .seq (
      .cond (.tmp 9) (
       .skip) (
       .exit 0)) (
     .seq (
      .block 1 (
       .seq (
        .reg [.op (some 10) none (.mv (.tmp 8)),
          .op (some 6) none (.mv (.tmp 10))]) (
       .reg [.op (some 11) none (.mv (.tmp 5)),
         .op (some 12) none (.mv (.tmp 0)),
         .op (some 13) none (.nilc (.tmp 12)),
         .op (some 14) none (.faddr false 1 0 (.tmp 13)),
         .op (some 15) none (.load false 1 (.tmp 14)),
         .op (some 16) none (.mv (.tmp 6)),
         .op (some 17) none (.iaddr 1 (.tmp 15) (.tmp 16)),
         .op (some 18) none (.load false 1 (.tmp 17)),
         .op (some 19) none (.conv .u64 (.tmp 18)),
         .op (some 20) none (.mv (.tmp 6)),
         .op (some 21) none (.bin .mul (.const (.int .i64 (8))) (.tmp 20)),
         .op (some 22) none (.bin .shl (.tmp 19) (.tmp 21)),
         .op (some 23) none (.bin .or (.tmp 11) (.tmp 22)),
         .op (some 5) none (.mv (.tmp 23))]))) (
     .reg [.op (some 24) none (.bin .add (.tmp 8) (.const (.int .i64 (1)))),
       .op (some 8) none (.mv (.tmp 24))]))))))) (
  .seq (
   .reg [.op (some 25) none (.mv (.tmp 0)),
     .op (some 26) none (.mv (.tmp 0)),
     .op (some 27) none (.nilc (.tmp 26)),
     .op (some 28) none (.faddr false 1 0 (.tmp 27)),
     .op (some 29) none (.load false 1 (.tmp 28)),
     .op (some 30) none (.mv (.tmp 1)),
     .op (some 31) none (.slice 1 (.tmp 29) (some (.tmp 30)) none none),
     .op (some 32) none (.nilc (.tmp 25)),
     .op (some 33) none (.faddr false 1 0 (.tmp 32)),
     .op none none (.store 1 (.tmp 33) (.tmp 31))]) (
  .seq (
   .reg [.op (some 34) none (.mv (.tmp 5)),
     .op (some 4) none (.mv (.tmp 34))]) (
  .ret)))))
def k35 : Fun := ⟨35, [.tmp 4], k35c⟩
theorem k35_ok : compF Try.prog 35 = some k35 := by kernel_rfl
theorem k35_name : ((Try.prog.funcs[35]?).map fun fn => fn.name == "runtime.NumGoroutine") = some false := by kernel_rfl
def tab : List (Nat × Fun) := [(2, k2), (3, k3), (4, k4), (5, k5), (6, k6), (7, k7), (8, k8), (9, k9), (10, k10), (11, k11), (12, k12), (13, k13), (14, k14), (15, k15), (16, k16), (17, k17), (18, k18), (19, k19), (20, k20), (21, k21), (22, k22), (23, k23), (24, k24), (25, k25), (26, k26), (27, k27), (28, k28), (29, k29), (30, k30), (31, k31), (32, k32), (33, k33), (34, k34), (35, k35)]
theorem tab_ok : TabOk Try.prog tab := by
  unfold TabOk tab
  simp only [List.forall_mem_cons]
  exact ⟨⟨k2_ok, k2_name⟩, ⟨k3_ok, k3_name⟩, ⟨k4_ok, k4_name⟩, ⟨k5_ok, k5_name⟩, ⟨k6_ok, k6_name⟩, ⟨k7_ok, k7_name⟩, ⟨k8_ok, k8_name⟩, ⟨k9_ok, k9_name⟩, ⟨k10_ok, k10_name⟩, ⟨k11_ok, k11_name⟩, ⟨k12_ok, k12_name⟩, ⟨k13_ok, k13_name⟩, ⟨k14_ok, k14_name⟩, ⟨k15_ok, k15_name⟩, ⟨k16_ok, k16_name⟩, ⟨k17_ok, k17_name⟩, ⟨k18_ok, k18_name⟩, ⟨k19_ok, k19_name⟩, ⟨k20_ok, k20_name⟩, ⟨k21_ok, k21_name⟩, ⟨k22_ok, k22_name⟩, ⟨k23_ok, k23_name⟩, ⟨k24_ok, k24_name⟩, ⟨k25_ok, k25_name⟩, ⟨k26_ok, k26_name⟩, ⟨k27_ok, k27_name⟩, ⟨k28_ok, k28_name⟩, ⟨k29_ok, k29_name⟩, ⟨k30_ok, k30_name⟩, ⟨k31_ok, k31_name⟩, ⟨k32_ok, k32_name⟩, ⟨k33_ok, k33_name⟩, ⟨k34_ok, k34_name⟩, ⟨k35_ok, k35_name⟩, fun _ h => (by cases h)⟩
end Go.Proofs.Ytjbhgmeokoconaa
