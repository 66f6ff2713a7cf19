/-
  The functions' code in the engine's form, written by a program off the translation; the kernel compares it with what comp gives.
-/
import Derived.Test.YtlfhdejlpnljbaaProg
import Derived.Test.YtlfhdejlpnljbaaTmX
import Derived.KernelRfl
namespace Go.Proofs.Ytlfhdejlpnljbaa
open Go.Tm
set_option maxRecDepth 20000
/-- gosem.cut.init -/
def k2c : C :=
  .reg [.call (some 0) none (.func 1) []]
def k2 : Fun := ⟨1, [], k2c⟩
theorem k2_ok : compF Try.prog 2 = some k2 := by kernel_rfl
theorem k2_name : ((Try.prog.funcs[2]?).map fun fn => fn.name == "runtime.NumGoroutine") = some false := by kernel_rfl
/-- guerdon/guerdonlaw39.RecoveryLimit -/
def k3c : C :=
  .seq (
   .reg [.op (some 6) none (.mv (.const (.bool false)))]) (
  .seq (
   .reg [.op (some 9) none (.mv (.tmp 1)),
     .op (some 10) none (.mv (.tmp 2)),
     .op (some 11) none (.build [(.v (.int .i64 (0))), (.v (.int .i64 (0))), (.v (.int .i64 (0))), (.v (.int .i64 (0))), (.v (.int .i64 (0))), (.v (.int .i64 (0))), (.v (.int .i64 (0))), (.v (.int .i64 (0))), (.v (.slice none 0 0))] [(3, 1, (.tmp 9)), (4, 1, (.tmp 10))]),
     .op (some 7) none (.alloc 9 (.agg [(.v (.int .i64 (0))), (.v (.int .i64 (0))), (.v (.int .i64 (0))), (.v (.int .i64 (0))), (.v (.int .i64 (0))), (.v (.int .i64 (0))), (.v (.int .i64 (0))), (.v (.int .i64 (0))), (.v (.slice none 0 0))])),
     .op none none (.store 9 (.tmp 7) (.tmp 11))]) (
  .seq (
   .reg [.op (some 12) none (.mv (.tmp 0)),
     .op (some 13) none (.load true 9 (.tmp 7)),
     .call (some 14) none (.func 12) [(.tmp 12), (.tmp 13)],
     .op (some 8) none (.mv (.tmp 14))]) (
  .seq (
   .reg [.op (some 15) none (.mv (.tmp 8)),
     .op (some 16) none (.mv (.tmp 0)),
     .op (some 17) none (.load true 9 (.tmp 7)),
     .call (some 18) none (.func 13) [(.tmp 16), (.tmp 17)],
     .op (some 19) none (.bin .eql (.tmp 15) (.tmp 18)),
     .op (some 20) none (.mv (.tmp 19)),
     .op (some 21) (some (20, true)) (.mv (.tmp 8)),
     .op (some 22) (some (20, true)) (.bin .geq (.tmp 21) (.const (.int .i64 (0)))),
     .op (some 23) none (.pick (.tmp 20) (.tmp 22) (.const (.bool false))),
     .op (some 24) none (.mv (.tmp 23)),
     .op (some 25) (some (24, true)) (.mv (.tmp 8)),
     .op (some 26) (some (24, true)) (.mv (.tmp 0)),
     .op (some 27) (some (24, true)) (.mm true [(.const (.int .i64 (0))), (.tmp 26)]),
     .op (some 28) (some (24, true)) (.bin .leq (.tmp 25) (.tmp 27)),
     .op (some 29) none (.pick (.tmp 24) (.tmp 28) (.const (.bool false))),
     .op (some 30) none (.mv (.tmp 29)),
     .op (some 31) (some (30, true)) (.mv (.tmp 8)),
     .op (some 32) (some (30, true)) (.bin .eql (.tmp 31) (.const (.int .i64 (0)))),
     .op (some 33) (some (30, true)) (.mv (.tmp 32)),
     .op (some 34) (some (33, false)) (.mv (.tmp 2)),
     .op (some 35) (some (33, false)) (.bin .lss (.tmp 34) (.const (.int .i64 (0)))),
     .op (some 36) (some (30, true)) (.pick (.tmp 33) (.const (.bool true)) (.tmp 35)),
     .op (some 37) (some (30, true)) (.mv (.tmp 36)),
     .op (some 38) (some (37, false)) (.mv (.tmp 0)),
     .op (some 39) (some (37, false)) (.mv (.tmp 8)),
     .op (some 40) (some (37, false)) (.bin .sub (.tmp 38) (.tmp 39)),
     .op (some 41) (some (37, false)) (.mv (.tmp 2)),
     .op (some 42) (some (37, false)) (.bin .geq (.tmp 40) (.tmp 41)),
     .op (some 43) (some (30, true)) (.pick (.tmp 37) (.const (.bool true)) (.tmp 42)),
     .op (some 44) none (.pick (.tmp 30) (.tmp 43) (.const (.bool false))),
     .op (some 45) none (.mv (.tmp 44)),
     .call (some 46) (some (45, true)) (.func 14) [],
     .op (some 47) none (.pick (.tmp 45) (.tmp 46) (.const (.bool false))),
     .op (some 6) none (.mv (.tmp 47))]) (
  .ret))))
def k3 : Fun := ⟨48, [.tmp 6], k3c⟩
theorem k3_ok : compF Try.prog 3 = some k3 := by kernel_rfl
theorem k3_name : ((Try.prog.funcs[3]?).map fun fn => fn.name == "runtime.NumGoroutine") = some false := by kernel_rfl
/-- guerdon/guerdonlaw39.RecoveryPlan -/
def k4c : C :=
  .seq (
   .reg [.op (some 5) none (.box 2 (.tmp 1)),
     .op (some 6) none (.box 9 (.tmp 2)),
     .op (some 8) none (.mv (.const (.bool false)))]) (
  .seq (
   .seq (
    .reg [.op (some 9) none (.mv (.tmp 0)),
      .op (some 10) none (.mv (.tmp 3)),
      .call (some 11) none (.func 15) [(.tmp 9), (.tmp 10)],
      .op (some 12) none (.un .not (.tmp 11))]) (
   .cond (.tmp 12) (
    .seq (
     .reg [.call (some 13) none (.func 14) [],
       .op (some 8) none (.mv (.tmp 13))]) (
    .ret)) (
    .skip))) (
  .seq (
   .draw 15 [.op (some 14) none (.mv (.tmp 0)),
     .op (some 15) none (.aaddr false 1 2 (.tmp 5) (.const (.int .i64 (0)))),
     .op (some 16) none (.load false 1 (.tmp 15)),
     .op (some 17) none (.load true 9 (.tmp 6)),
     .op (some 18) none (.aaddr false 1 2 (.tmp 5) (.const (.int .i64 (1)))),
     .op (some 19) none (.load false 1 (.tmp 18)),
     .op (some 20) none (.mv (.tmp 3)),
     .call (some 21) none (.func 17) [(.tmp 14), (.tmp 16), (.tmp 17), (.tmp 19), (.tmp 20)],
     .op (some 22) none (.mv (.tmp 0)),
     .op (some 23) none (.aaddr false 1 2 (.tmp 5) (.const (.int .i64 (0)))),
     .op (some 24) none (.load false 1 (.tmp 23)),
     .op (some 25) none (.load true 9 (.tmp 6)),
     .op (some 26) none (.aaddr false 1 2 (.tmp 5) (.const (.int .i64 (1)))),
     .op (some 27) none (.load false 1 (.tmp 26)),
     .op (some 28) none (.mv (.tmp 3)),
     .call (some 29) none (.func 18) [(.tmp 22), (.tmp 24), (.tmp 25), (.tmp 27), (.tmp 28)],
     .call (some 30) none (.func 16) [(.tmp 21), (.tmp 29)],
     .op (some 31) none (.mv (.tmp 30)),
     .call (some 32) (some (31, true)) (.func 14) [],
     .op (some 33) none (.pick (.tmp 31) (.tmp 32) (.const (.bool false))),
     .op (some 8) none (.mv (.tmp 33))]) (
  .ret)))
def k4 : Fun := ⟨34, [.tmp 8], k4c⟩
theorem k4_ok : compF Try.prog 4 = some k4 := by kernel_rfl
theorem k4_name : ((Try.prog.funcs[4]?).map fun fn => fn.name == "runtime.NumGoroutine") = some false := by kernel_rfl
/-- guerdon/guerdonlaw39.RecoveryRepay -/
def k5c : C :=
  .seq (
   .reg [.op (some 6) none (.mv (.const (.bool false)))]) (
  .seq (
   .seq (
    .reg [.op (some 13) none (.mv (.tmp 0)),
      .call (some 14) none (.func 15) [(.tmp 13), (.const (.slice none 0 0))],
      .op (some 15) none (.un .not (.tmp 14))]) (
   .cond (.tmp 15) (
    .seq (
     .reg [.call (some 16) none (.func 14) [],
       .op (some 6) none (.mv (.tmp 16))]) (
    .ret)) (
    .skip))) (
  .seq (
   .reg [.op (some 18) none (.mv (.tmp 0)),
     .op (some 19) none (.mv (.tmp 1)),
     .op (some 20) none (.mv (.tmp 2)),
     .call (some 21) none (.func 19) [(.tmp 18), (.tmp 19), (.tmp 20)],
     .op (some 17) none (.mv (.tmp 21)),
     .op (some 22) none (.extract (.tmp 17) 0),
     .op (some 23) none (.extract (.tmp 17) 1),
     .op (some 7) none (.mv (.tmp 22)),
     .op (some 8) none (.mv (.tmp 23))]) (
  .seq (
   .reg [.op (some 25) none (.mv (.tmp 0)),
     .op (some 26) none (.mv (.tmp 1)),
     .op (some 27) none (.mv (.tmp 2)),
     .call (some 28) none (.func 20) [(.tmp 25), (.tmp 26), (.tmp 27)],
     .op (some 24) none (.mv (.tmp 28)),
     .op (some 29) none (.extract (.tmp 24) 0),
     .op (some 30) none (.extract (.tmp 24) 1),
     .op (some 9) none (.mv (.tmp 29)),
     .op (some 10) none (.mv (.tmp 30))]) (
  .seq (
   .seq (
    .reg [.op (some 31) none (.mv (.tmp 7)),
      .op (some 32) none (.mv (.tmp 9)),
      .call (some 33) none (.func 16) [(.tmp 31), (.tmp 32)],
      .op (some 34) none (.un .not (.tmp 33)),
      .op (some 35) none (.mv (.tmp 34)),
      .op (some 36) (some (35, false)) (.mv (.tmp 8)),
      .op (some 37) (some (35, false)) (.mv (.tmp 10)),
      .op (some 38) (some (35, false)) (.bin .neq (.tmp 36) (.tmp 37)),
      .op (some 39) none (.pick (.tmp 35) (.const (.bool true)) (.tmp 38))]) (
   .cond (.tmp 39) (
    .seq (
     .reg [.op (some 6) none (.mv (.const (.bool false)))]) (
    .ret)) (
    .skip))) (
  .seq (
   .reg [.op (some 40) none (.mv (.tmp 1)),
     .op (some 41) none (.mm true [(.const (.int .i64 (0))), (.tmp 40)]),
     .op (some 11) none (.mv (.tmp 41))]) (
  .seq (
   .seq (
    .reg [.op (some 12) none (.mv (.const (.int .i64 (0))))]) (
   .block 0 (
    .loop (
     .seq (
      .seq (
       .reg [.op (some 42) none (.mv (.tmp 12)),
         .op (some 43) none (.mv (.tmp 7)),
         .op (some 44) none (.len (.tmp 43)),
         .op (some 45) none (.bin .lss (.tmp 42) (.tmp 44))]) (
      .cond (.tmp 45) (
       .skip) (
       .exit 0))) (
     .seq (
      .block 1 (
       .reg [.op (some 48) none (.mv (.tmp 11)),
         .op (some 49) none (.mv (.tmp 7)),
         .op (some 50) none (.mv (.tmp 12)),
         .op (some 51) none (.iaddr 4 (.tmp 49) (.tmp 50)),
         .op (some 52) none (.faddr false 1 3 (.tmp 51)),
         .op (some 53) none (.load false 1 (.tmp 52)),
         .op (some 54) none (.bin .sub (.tmp 48) (.tmp 53)),
         .op (some 11) none (.mv (.tmp 54))])) (
     .reg [.op (some 46) none (.mv (.tmp 12)),
       .op (some 47) none (.bin .add (.tmp 46) (.const (.int .i64 (1)))),
       .op (some 12) none (.mv (.tmp 47))])))))) (
  .seq (
   .reg [.op (some 55) none (.mv (.tmp 11)),
     .op (some 56) none (.mv (.tmp 8)),
     .op (some 57) none (.bin .eql (.tmp 55) (.tmp 56)),
     .op (some 58) none (.mv (.tmp 57)),
     .call (some 59) (some (58, true)) (.func 14) [],
     .op (some 60) none (.pick (.tmp 58) (.tmp 59) (.const (.bool false))),
     .op (some 6) none (.mv (.tmp 60))]) (
  .ret))))))))
def k5 : Fun := ⟨61, [.tmp 6], k5c⟩
theorem k5_ok : compF Try.prog 5 = some k5 := by kernel_rfl
theorem k5_name : ((Try.prog.funcs[5]?).map fun fn => fn.name == "runtime.NumGoroutine") = some false := by kernel_rfl
/-- guerdon/guerdonlaw39.RecoveryWithinLimit -/
def k6c : C :=
  .seq (
   .reg [.op (some 6) none (.box 9 (.tmp 2)),
     .op (some 8) none (.mv (.const (.bool false)))]) (
  .seq (
   .seq (
    .reg [.op (some 14) none (.mv (.tmp 0)),
      .op (some 15) none (.mv (.tmp 3)),
      .call (some 16) none (.func 15) [(.tmp 14), (.tmp 15)],
      .op (some 17) none (.un .not (.tmp 16))]) (
   .cond (.tmp 17) (
    .seq (
     .reg [.call (some 18) none (.func 14) [],
       .op (some 8) none (.mv (.tmp 18))]) (
    .ret)) (
    .skip))) (
  .seq (
   .reg [.op (some 19) none (.mv (.tmp 0)),
     .op (some 20) none (.mv (.tmp 1)),
     .op (some 21) none (.load true 9 (.tmp 6)),
     .op (some 22) none (.mv (.tmp 3)),
     .call (some 23) none (.func 17) [(.tmp 19), (.tmp 20), (.tmp 21), (.const (.int .i64 (5))), (.tmp 22)],
     .op (some 9) none (.mv (.tmp 23))]) (
  .seq (
   .reg [.op (some 24) none (.mv (.tmp 1)),
     .op (some 25) none (.load true 9 (.tmp 6)),
     .call (some 26) none (.func 12) [(.tmp 24), (.tmp 25)],
     .op (some 10) none (.mv (.tmp 26))]) (
  .seq (
   .reg [.op (some 11) none (.mv (.const (.int .i64 (0))))]) (
  .seq (
   .seq (
    .reg [.op (some 12) none (.mv (.const (.int .i64 (0))))]) (
   .block 0 (
    .loop (
     .seq (
      .seq (
       .reg [.op (some 27) none (.mv (.tmp 12)),
         .op (some 28) none (.mv (.tmp 9)),
         .op (some 29) none (.len (.tmp 28)),
         .op (some 30) none (.bin .lss (.tmp 27) (.tmp 29))]) (
      .cond (.tmp 30) (
       .skip) (
       .exit 0))) (
     .seq (
      .block 1 (
       .seq (
        .seq (
         .reg [.op (some 33) none (.mv (.tmp 9)),
           .op (some 34) none (.mv (.tmp 12)),
           .op (some 35) none (.iaddr 4 (.tmp 33) (.tmp 34)),
           .op (some 36) none (.faddr false 1 3 (.tmp 35)),
           .op (some 37) none (.load false 1 (.tmp 36)),
           .op (some 38) none (.bin .lss (.tmp 37) (.const (.int .i64 (1)))),
           .op (some 39) none (.mv (.tmp 38)),
           .op (some 40) (some (39, false)) (.mv (.tmp 9)),
           .op (some 41) (some (39, false)) (.mv (.tmp 12)),
           .op (some 42) (some (39, false)) (.iaddr 4 (.tmp 40) (.tmp 41)),
           .op (some 43) (some (39, false)) (.faddr false 1 3 (.tmp 42)),
           .op (some 44) (some (39, false)) (.load false 1 (.tmp 43)),
           .op (some 45) (some (39, false)) (.mv (.tmp 10)),
           .op (some 46) (some (39, false)) (.bin .gtr (.tmp 44) (.tmp 45)),
           .op (some 47) none (.pick (.tmp 39) (.const (.bool true)) (.tmp 46)),
           .op (some 48) none (.mv (.tmp 47)),
           .op (some 49) (some (48, false)) (.mv (.tmp 9)),
           .op (some 50) (some (48, false)) (.mv (.tmp 12)),
           .op (some 51) (some (48, false)) (.iaddr 4 (.tmp 49) (.tmp 50)),
           .op (some 52) (some (48, false)) (.faddr false 1 2 (.tmp 51)),
           .op (some 53) (some (48, false)) (.load false 1 (.tmp 52)),
           .op (some 54) (some (48, false)) (.bin .neq (.tmp 53) (.const (.int .i64 (2)))),
           .op (some 55) none (.pick (.tmp 48) (.const (.bool true)) (.tmp 54)),
           .op (some 56) none (.mv (.tmp 55)),
           .op (some 57) (some (56, false)) (.mv (.tmp 9)),
           .op (some 58) (some (56, false)) (.mv (.tmp 12)),
           .op (some 59) (some (56, false)) (.iaddr 4 (.tmp 57) (.tmp 58)),
           .op (some 60) (some (56, false)) (.faddr false 1 0 (.tmp 59)),
           .op (some 61) (some (56, false)) (.load false 1 (.tmp 60)),
           .op (some 62) (some (56, false)) (.bin .neq (.tmp 61) (.const (.int .i64 (5)))),
           .op (some 63) none (.pick (.tmp 56) (.const (.bool true)) (.tmp 62))]) (
        .cond (.tmp 63) (
         .seq (
          .reg [.op (some 8) none (.mv (.const (.bool false)))]) (
         .ret)) (
         .skip))) (
       .seq (
        .reg [.op (some 64) none (.mv (.tmp 10)),
          .op (some 65) none (.mv (.tmp 9)),
          .op (some 66) none (.mv (.tmp 12)),
          .op (some 67) none (.iaddr 4 (.tmp 65) (.tmp 66)),
          .op (some 68) none (.faddr false 1 3 (.tmp 67)),
          .op (some 69) none (.load false 1 (.tmp 68)),
          .op (some 70) none (.bin .sub (.tmp 64) (.tmp 69)),
          .op (some 10) none (.mv (.tmp 70))]) (
       .seq (
        .seq (
         .reg [.op (some 13) none (.mv (.const (.int .i64 (0))))]) (
        .block 2 (
         .loop (
          .seq (
           .seq (
            .reg [.op (some 71) none (.mv (.tmp 13)),
              .op (some 72) none (.mv (.tmp 3)),
              .op (some 73) none (.len (.tmp 72)),
              .op (some 74) none (.bin .lss (.tmp 71) (.tmp 73))]) (
           .cond (.tmp 74) (
            .skip) (
            .exit 2))) (
          .seq (
           .block 3 (
            .seq (
             .draw 9 [.op (some 77) none (.mv (.tmp 3)),
               .op (some 78) none (.mv (.tmp 13)),
               .op (some 79) none (.iaddr 1 (.tmp 77) (.tmp 78)),
               .op (some 80) none (.load false 1 (.tmp 79)),
               .op (some 81) none (.mv (.tmp 9)),
               .op (some 82) none (.mv (.tmp 12)),
               .op (some 83) none (.iaddr 4 (.tmp 81) (.tmp 82)),
               .op (some 84) none (.faddr false 1 1 (.tmp 83)),
               .op (some 85) none (.load false 1 (.tmp 84)),
               .op (some 86) none (.bin .eql (.tmp 80) (.tmp 85))]) (
            .cond (.tmp 86) (
             .seq (
              .reg [.op (some 8) none (.mv (.const (.bool false)))]) (
             .ret)) (
             .skip)))) (
          .reg [.op (some 75) none (.mv (.tmp 13)),
            .op (some 76) none (.bin .add (.tmp 75) (.const (.int .i64 (1)))),
            .op (some 13) none (.mv (.tmp 76))])))))) (
       .seq (
        .block 4 (
         .loop (
          .seq (
           .seq (
            .draw 27 [.op (some 87) none (.mv (.tmp 11)),
              .op (some 88) none (.mv (.tmp 0)),
              .op (some 89) none (.len (.tmp 88)),
              .op (some 90) none (.bin .lss (.tmp 87) (.tmp 89)),
              .op (some 91) none (.mv (.tmp 90)),
              .op (some 92) (some (91, true)) (.mv (.tmp 0)),
              .op (some 93) (some (91, true)) (.mv (.tmp 11)),
              .op (some 94) (some (91, true)) (.iaddr 4 (.tmp 92) (.tmp 93)),
              .op (some 95) (some (91, true)) (.faddr false 1 0 (.tmp 94)),
              .op (some 96) (some (91, true)) (.load false 1 (.tmp 95)),
              .op (some 97) (some (91, true)) (.mv (.tmp 9)),
              .op (some 98) (some (91, true)) (.mv (.tmp 12)),
              .op (some 99) (some (91, true)) (.iaddr 4 (.tmp 97) (.tmp 98)),
              .op (some 100) (some (91, true)) (.faddr false 1 1 (.tmp 99)),
              .op (some 101) (some (91, true)) (.load false 1 (.tmp 100)),
              .op (some 102) (some (91, true)) (.bin .neq (.tmp 96) (.tmp 101)),
              .op (some 103) (some (91, true)) (.mv (.tmp 102)),
              .op (some 104) (some (103, false)) (.mv (.tmp 0)),
              .op (some 105) (some (103, false)) (.mv (.tmp 11)),
              .op (some 106) (some (103, false)) (.iaddr 4 (.tmp 104) (.tmp 105)),
              .op (some 107) (some (103, false)) (.load true 4 (.tmp 106)),
              .call (some 108) (some (103, false)) (.func 21) [(.tmp 107)],
              .op (some 109) (some (103, false)) (.mv (.tmp 9)),
              .op (some 110) (some (103, false)) (.mv (.tmp 12)),
              .op (some 111) (some (103, false)) (.iaddr 4 (.tmp 109) (.tmp 110)),
              .op (some 112) (some (103, false)) (.faddr false 1 3 (.tmp 111)),
              .op (some 113) (some (103, false)) (.load false 1 (.tmp 112)),
              .op (some 114) (some (103, false)) (.bin .lss (.tmp 108) (.tmp 113)),
              .op (some 115) (some (91, true)) (.pick (.tmp 103) (.const (.bool true)) (.tmp 114)),
              .op (some 116) none (.pick (.tmp 91) (.tmp 115) (.const (.bool false)))]) (
           .cond (.tmp 116) (
            .skip) (
            .exit 4))) (
          .block 5 (
           .reg [.op (some 117) none (.mv (.tmp 11)),
             .op (some 118) none (.bin .add (.tmp 117) (.const (.int .i64 (1)))),
             .op (some 11) none (.mv (.tmp 118))]))))) (
       .seq (
        .seq (
         .reg [.op (some 119) none (.mv (.tmp 11)),
           .op (some 120) none (.mv (.tmp 0)),
           .op (some 121) none (.len (.tmp 120)),
           .op (some 122) none (.bin .eql (.tmp 119) (.tmp 121))]) (
        .cond (.tmp 122) (
         .seq (
          .reg [.op (some 8) none (.mv (.const (.bool false)))]) (
         .ret)) (
         .skip))) (
       .reg [.op (some 123) none (.mv (.tmp 11)),
         .op (some 124) none (.bin .add (.tmp 123) (.const (.int .i64 (1)))),
         .op (some 11) none (.mv (.tmp 124))]))))))) (
     .reg [.op (some 31) none (.mv (.tmp 12)),
       .op (some 32) none (.bin .add (.tmp 31) (.const (.int .i64 (1)))),
       .op (some 12) none (.mv (.tmp 32))])))))) (
  .seq (
   .reg [.call (some 125) none (.func 14) [],
     .op (some 8) none (.mv (.tmp 125))]) (
  .ret)))))))
def k6 : Fun := ⟨126, [.tmp 8], k6c⟩
theorem k6_ok : compF Try.prog 6 = some k6 := by kernel_rfl
theorem k6_name : ((Try.prog.funcs[6]?).map fun fn => fn.name == "runtime.NumGoroutine") = some false := by kernel_rfl
/-- guerdon/guerdonlaw39.RecoveryComplete -/
def k7c : C :=
  .seq (
   .reg [.op (some 6) none (.box 9 (.tmp 2)),
     .op (some 8) none (.mv (.const (.bool false)))]) (
  .seq (
   .seq (
    .reg [.op (some 16) none (.mv (.tmp 0)),
      .op (some 17) none (.mv (.tmp 3)),
      .call (some 18) none (.func 15) [(.tmp 16), (.tmp 17)],
      .op (some 19) none (.un .not (.tmp 18))]) (
   .cond (.tmp 19) (
    .seq (
     .reg [.call (some 20) none (.func 14) [],
       .op (some 8) none (.mv (.tmp 20))]) (
    .ret)) (
    .skip))) (
  .seq (
   .reg [.op (some 21) none (.mv (.tmp 0)),
     .op (some 22) none (.mv (.tmp 1)),
     .op (some 23) none (.load true 9 (.tmp 6)),
     .op (some 24) none (.mv (.tmp 3)),
     .call (some 25) none (.func 17) [(.tmp 21), (.tmp 22), (.tmp 23), (.const (.int .i64 (5))), (.tmp 24)],
     .op (some 9) none (.mv (.tmp 25))]) (
  .seq (
   .reg [.op (some 26) none (.mv (.tmp 1)),
     .op (some 27) none (.load true 9 (.tmp 6)),
     .call (some 28) none (.func 12) [(.tmp 26), (.tmp 27)],
     .op (some 10) none (.mv (.tmp 28))]) (
  .seq (
   .seq (
    .reg [.op (some 11) none (.mv (.const (.int .i64 (0))))]) (
   .block 0 (
    .loop (
     .seq (
      .seq (
       .reg [.op (some 29) none (.mv (.tmp 11)),
         .op (some 30) none (.mv (.tmp 9)),
         .op (some 31) none (.len (.tmp 30)),
         .op (some 32) none (.bin .lss (.tmp 29) (.tmp 31))]) (
      .cond (.tmp 32) (
       .skip) (
       .exit 0))) (
     .seq (
      .block 1 (
       .reg [.op (some 35) none (.mv (.tmp 10)),
         .op (some 36) none (.mv (.tmp 9)),
         .op (some 37) none (.mv (.tmp 11)),
         .op (some 38) none (.iaddr 4 (.tmp 36) (.tmp 37)),
         .op (some 39) none (.faddr false 1 3 (.tmp 38)),
         .op (some 40) none (.load false 1 (.tmp 39)),
         .op (some 41) none (.bin .sub (.tmp 35) (.tmp 40)),
         .op (some 10) none (.mv (.tmp 41))])) (
     .reg [.op (some 33) none (.mv (.tmp 11)),
       .op (some 34) none (.bin .add (.tmp 33) (.const (.int .i64 (1)))),
       .op (some 11) none (.mv (.tmp 34))])))))) (
  .seq (
   .seq (
    .reg [.op (some 42) none (.mv (.tmp 10)),
      .op (some 43) none (.bin .leq (.tmp 42) (.const (.int .i64 (0))))]) (
   .cond (.tmp 43) (
    .seq (
     .reg [.op (some 44) none (.mv (.tmp 10)),
       .op (some 45) none (.bin .eql (.tmp 44) (.const (.int .i64 (0)))),
       .op (some 46) none (.mv (.tmp 45)),
       .call (some 47) (some (46, true)) (.func 14) [],
       .op (some 48) none (.pick (.tmp 46) (.tmp 47) (.const (.bool false))),
       .op (some 8) none (.mv (.tmp 48))]) (
    .ret)) (
    .skip))) (
  .seq (
   .reg [.op (some 12) none (.mv (.const (.int .i64 (0))))]) (
  .seq (
   .seq (
    .reg [.op (some 13) none (.mv (.const (.int .i64 (0))))]) (
   .block 2 (
    .loop (
     .seq (
      .seq (
       .reg [.op (some 49) none (.mv (.tmp 13)),
         .op (some 50) none (.mv (.tmp 0)),
         .op (some 51) none (.len (.tmp 50)),
         .op (some 52) none (.bin .lss (.tmp 49) (.tmp 51))]) (
      .cond (.tmp 52) (
       .skip) (
       .exit 2))) (
     .seq (
      .block 3 (
       .seq (
        .reg [.op (some 55) none (.mv (.tmp 0)),
          .op (some 56) none (.mv (.tmp 13)),
          .op (some 57) none (.iaddr 4 (.tmp 55) (.tmp 56)),
          .op (some 58) none (.load true 4 (.tmp 57)),
          .call (some 59) none (.func 21) [(.tmp 58)],
          .op (some 60) none (.bin .lss (.tmp 59) (.const (.int .i64 (1)))),
          .op (some 14) none (.mv (.tmp 60))]) (
       .seq (
        .seq (
         .reg [.op (some 15) none (.mv (.const (.int .i64 (0))))]) (
        .block 4 (
         .loop (
          .seq (
           .seq (
            .reg [.op (some 61) none (.mv (.tmp 15)),
              .op (some 62) none (.mv (.tmp 3)),
              .op (some 63) none (.len (.tmp 62)),
              .op (some 64) none (.bin .lss (.tmp 61) (.tmp 63))]) (
           .cond (.tmp 64) (
            .skip) (
            .exit 4))) (
          .seq (
           .block 5 (
            .draw 11 [.op (some 67) none (.mv (.tmp 14)),
              .op (some 68) none (.mv (.tmp 67)),
              .op (some 69) (some (68, false)) (.mv (.tmp 3)),
              .op (some 70) (some (68, false)) (.mv (.tmp 15)),
              .op (some 71) (some (68, false)) (.iaddr 1 (.tmp 69) (.tmp 70)),
              .op (some 72) (some (68, false)) (.load false 1 (.tmp 71)),
              .op (some 73) (some (68, false)) (.mv (.tmp 0)),
              .op (some 74) (some (68, false)) (.mv (.tmp 13)),
              .op (some 75) (some (68, false)) (.iaddr 4 (.tmp 73) (.tmp 74)),
              .op (some 76) (some (68, false)) (.faddr false 1 0 (.tmp 75)),
              .op (some 77) (some (68, false)) (.load false 1 (.tmp 76)),
              .op (some 78) (some (68, false)) (.bin .eql (.tmp 72) (.tmp 77)),
              .op (some 79) none (.pick (.tmp 68) (.const (.bool true)) (.tmp 78)),
              .op (some 14) none (.mv (.tmp 79))])) (
          .reg [.op (some 65) none (.mv (.tmp 15)),
            .op (some 66) none (.bin .add (.tmp 65) (.const (.int .i64 (1)))),
            .op (some 15) none (.mv (.tmp 66))])))))) (
       .seq (
        .seq (
         .reg [.op (some 80) none (.mv (.tmp 14))]) (
        .cond (.tmp 80) (
         .exit 3) (
         .skip))) (
       .seq (
        .seq (
         .draw 28 [.op (some 81) none (.mv (.tmp 12)),
           .op (some 82) none (.mv (.tmp 9)),
           .op (some 83) none (.len (.tmp 82)),
           .op (some 84) none (.bin .geq (.tmp 81) (.tmp 83)),
           .op (some 85) none (.mv (.tmp 84)),
           .op (some 86) (some (85, false)) (.mv (.tmp 9)),
           .op (some 87) (some (85, false)) (.mv (.tmp 12)),
           .op (some 88) (some (85, false)) (.iaddr 4 (.tmp 86) (.tmp 87)),
           .op (some 89) (some (85, false)) (.faddr false 1 1 (.tmp 88)),
           .op (some 90) (some (85, false)) (.load false 1 (.tmp 89)),
           .op (some 91) (some (85, false)) (.mv (.tmp 0)),
           .op (some 92) (some (85, false)) (.mv (.tmp 13)),
           .op (some 93) (some (85, false)) (.iaddr 4 (.tmp 91) (.tmp 92)),
           .op (some 94) (some (85, false)) (.faddr false 1 0 (.tmp 93)),
           .op (some 95) (some (85, false)) (.load false 1 (.tmp 94)),
           .op (some 96) (some (85, false)) (.bin .neq (.tmp 90) (.tmp 95)),
           .op (some 97) none (.pick (.tmp 85) (.const (.bool true)) (.tmp 96)),
           .op (some 98) none (.mv (.tmp 97)),
           .op (some 99) (some (98, false)) (.mv (.tmp 9)),
           .op (some 100) (some (98, false)) (.mv (.tmp 12)),
           .op (some 101) (some (98, false)) (.iaddr 4 (.tmp 99) (.tmp 100)),
           .op (some 102) (some (98, false)) (.faddr false 1 3 (.tmp 101)),
           .op (some 103) (some (98, false)) (.load false 1 (.tmp 102)),
           .op (some 104) (some (98, false)) (.mv (.tmp 0)),
           .op (some 105) (some (98, false)) (.mv (.tmp 13)),
           .op (some 106) (some (98, false)) (.iaddr 4 (.tmp 104) (.tmp 105)),
           .op (some 107) (some (98, false)) (.load true 4 (.tmp 106)),
           .call (some 108) (some (98, false)) (.func 21) [(.tmp 107)],
           .op (some 109) (some (98, false)) (.bin .neq (.tmp 103) (.tmp 108)),
           .op (some 110) none (.pick (.tmp 98) (.const (.bool true)) (.tmp 109))]) (
        .cond (.tmp 110) (
         .seq (
          .reg [.op (some 8) none (.mv (.const (.bool false)))]) (
         .ret)) (
         .skip))) (
       .reg [.op (some 111) none (.mv (.tmp 12)),
         .op (some 112) none (.bin .add (.tmp 111) (.const (.int .i64 (1)))),
         .op (some 12) none (.mv (.tmp 112))])))))) (
     .reg [.op (some 53) none (.mv (.tmp 13)),
       .op (some 54) none (.bin .add (.tmp 53) (.const (.int .i64 (1)))),
       .op (some 13) none (.mv (.tmp 54))])))))) (
  .seq (
   .reg [.op (some 113) none (.mv (.tmp 12)),
     .op (some 114) none (.mv (.tmp 9)),
     .op (some 115) none (.len (.tmp 114)),
     .op (some 116) none (.bin .eql (.tmp 113) (.tmp 115)),
     .op (some 117) none (.mv (.tmp 116)),
     .call (some 118) (some (117, true)) (.func 14) [],
     .op (some 119) none (.pick (.tmp 117) (.tmp 118) (.const (.bool false))),
     .op (some 8) none (.mv (.tmp 119))]) (
  .ret)))))))))
def k7 : Fun := ⟨120, [.tmp 8], k7c⟩
theorem k7_ok : compF Try.prog 7 = some k7 := by kernel_rfl
theorem k7_name : ((Try.prog.funcs[7]?).map fun fn => fn.name == "runtime.NumGoroutine") = some false := by kernel_rfl
/-- guerdon/guerdonlaw40.PaymentPay -/
def k8c : C :=
  .seq (
   .reg [.op (some 6) none (.box 9 (.tmp 2)),
     .op (some 8) none (.mv (.const (.bool false)))]) (
  .seq (
   .seq (
    .reg [.op (some 10) none (.mv (.tmp 0)),
      .op (some 11) none (.mv (.tmp 3)),
      .call (some 12) none (.func 22) [(.tmp 10), (.tmp 11)],
      .op (some 13) none (.un .not (.tmp 12)),
      .op (some 14) none (.mv (.tmp 13)),
      .op (some 15) (some (14, false)) (.load true 9 (.tmp 6)),
      .call (some 16) (some (14, false)) (.func 23) [(.tmp 15)],
      .op (some 17) (some (14, false)) (.un .not (.tmp 16)),
      .op (some 18) none (.pick (.tmp 14) (.const (.bool true)) (.tmp 17))]) (
   .cond (.tmp 18) (
    .seq (
     .reg [.call (some 19) none (.func 24) [],
       .op (some 8) none (.mv (.tmp 19))]) (
    .ret)) (
    .skip))) (
  .seq (
   .reg [.op (some 20) none (.faddr false 1 5 (.tmp 6)),
     .op (some 21) none (.load false 1 (.tmp 20)),
     .op (some 9) none (.mv (.tmp 21))]) (
  .seq (
   .draw 11 [.op (some 22) none (.mv (.tmp 0)),
     .op (some 23) none (.mv (.tmp 1)),
     .op (some 24) none (.load true 9 (.tmp 6)),
     .op (some 25) none (.mv (.tmp 9)),
     .op (some 26) none (.mv (.tmp 3)),
     .call (some 27) none (.func 25) [(.tmp 22), (.tmp 23), (.tmp 24), (.tmp 25), (.tmp 26)],
     .op (some 28) none (.mv (.tmp 0)),
     .op (some 29) none (.mv (.tmp 1)),
     .op (some 30) none (.load true 9 (.tmp 6)),
     .op (some 31) none (.mv (.tmp 9)),
     .op (some 32) none (.mv (.tmp 3)),
     .call (some 33) none (.func 26) [(.tmp 28), (.tmp 29), (.tmp 30), (.tmp 31), (.tmp 32)],
     .call (some 34) none (.func 16) [(.tmp 27), (.tmp 33)],
     .op (some 35) none (.mv (.tmp 34)),
     .call (some 36) (some (35, true)) (.func 24) [],
     .op (some 37) none (.pick (.tmp 35) (.tmp 36) (.const (.bool false))),
     .op (some 8) none (.mv (.tmp 37))]) (
  .ret))))
def k8 : Fun := ⟨38, [.tmp 8], k8c⟩
theorem k8_ok : compF Try.prog 8 = some k8 := by kernel_rfl
theorem k8_name : ((Try.prog.funcs[8]?).map fun fn => fn.name == "runtime.NumGoroutine") = some false := by kernel_rfl
/-- guerdon/guerdonlaw40.PaymentCash -/
def k9c : C :=
  .seq (
   .reg [.op (some 2) none (.mv (.const (.bool false)))]) (
  .seq (
   .seq (
    .reg [.op (some 3) none (.mv (.tmp 0)),
      .op (some 4) none (.len (.tmp 3)),
      .op (some 5) none (.bin .gtr (.tmp 4) (.const (.int .i64 (200))))]) (
   .cond (.tmp 5) (
    .seq (
     .reg [.call (some 6) none (.func 24) [],
       .op (some 2) none (.mv (.tmp 6))]) (
    .ret)) (
    .skip))) (
  .seq (
   .reg [.op (some 7) none (.mv (.tmp 0)),
     .call (some 8) none (.func 27) [(.tmp 7)],
     .op (some 9) none (.mv (.tmp 0)),
     .call (some 10) none (.func 28) [(.tmp 9)],
     .op (some 11) none (.bin .eql (.tmp 8) (.tmp 10)),
     .op (some 12) none (.mv (.tmp 11)),
     .call (some 13) (some (12, true)) (.func 24) [],
     .op (some 14) none (.pick (.tmp 12) (.tmp 13) (.const (.bool false))),
     .op (some 2) none (.mv (.tmp 14))]) (
  .ret)))
def k9 : Fun := ⟨15, [.tmp 2], k9c⟩
theorem k9_ok : compF Try.prog 9 = some k9 := by kernel_rfl
theorem k9_name : ((Try.prog.funcs[9]?).map fun fn => fn.name == "runtime.NumGoroutine") = some false := by kernel_rfl
/-- guerdon/guerdonlaw40.PaymentSchedule -/
def k10c : C :=
  .seq (
   .reg [.op (some 5) none (.box 9 (.tmp 2)),
     .op (some 6) none (.mv (.const (.bool false)))]) (
  .seq (
   .seq (
    .reg [.op (some 12) none (.load true 9 (.tmp 5)),
      .call (some 13) none (.func 23) [(.tmp 12)],
      .op (some 14) none (.un .not (.tmp 13))]) (
   .cond (.tmp 14) (
    .seq (
     .reg [.call (some 15) none (.func 24) [],
       .op (some 6) none (.mv (.tmp 15))]) (
    .ret)) (
    .skip))) (
  .seq (
   .reg [.op (some 17) none (.mv (.tmp 0)),
     .op (some 18) none (.mv (.tmp 1)),
     .op (some 19) none (.load true 9 (.tmp 5)),
     .call (some 20) none (.func 29) [(.tmp 17), (.tmp 18), (.tmp 19)],
     .op (some 16) none (.mv (.tmp 20)),
     .op (some 21) none (.extract (.tmp 16) 0),
     .op (some 22) none (.extract (.tmp 16) 1),
     .op (some 7) none (.mv (.tmp 21)),
     .op (some 8) none (.mv (.tmp 22))]) (
  .seq (
   .reg [.op (some 24) none (.mv (.tmp 0)),
     .op (some 25) none (.mv (.tmp 1)),
     .op (some 26) none (.load true 9 (.tmp 5)),
     .call (some 27) none (.func 30) [(.tmp 24), (.tmp 25), (.tmp 26)],
     .op (some 23) none (.mv (.tmp 27)),
     .op (some 28) none (.extract (.tmp 23) 0),
     .op (some 29) none (.extract (.tmp 23) 1),
     .op (some 9) none (.mv (.tmp 28)),
     .op (some 10) none (.mv (.tmp 29))]) (
  .seq (
   .seq (
    .reg [.op (some 30) none (.mv (.tmp 7)),
      .op (some 31) none (.mv (.tmp 9)),
      .op (some 32) none (.bin .neq (.tmp 30) (.tmp 31)),
      .op (some 33) none (.mv (.tmp 32)),
      .op (some 34) (some (33, false)) (.mv (.tmp 8)),
      .op (some 35) (some (33, false)) (.mv (.tmp 10)),
      .op (some 36) (some (33, false)) (.beq true (.tmp 34) (.tmp 35)),
      .op (some 37) none (.pick (.tmp 33) (.const (.bool true)) (.tmp 36))]) (
   .cond (.tmp 37) (
    .seq (
     .reg [.op (some 6) none (.mv (.const (.bool false)))]) (
    .ret)) (
    .skip))) (
  .seq (
   .seq (
    .reg [.op (some 38) none (.mv (.tmp 7)),
      .op (some 39) none (.bin .lss (.tmp 38) (.const (.int .i64 (1)))),
      .op (some 40) none (.mv (.tmp 39)),
      .op (some 41) (some (40, false)) (.mv (.tmp 0)),
      .op (some 42) (some (40, false)) (.bin .gtr (.tmp 41) (.const (.int .i64 (1099511627776)))),
      .op (some 43) none (.pick (.tmp 40) (.const (.bool true)) (.tmp 42))]) (
   .cond (.tmp 43) (
    .seq (
     .reg [.call (some 44) none (.func 24) [],
       .op (some 6) none (.mv (.tmp 44))]) (
    .ret)) (
    .skip))) (
  .seq (
   .reg [.op (some 45) none (.mv (.tmp 1)),
     .op (some 46) none (.load true 9 (.tmp 5)),
     .call (some 47) none (.func 12) [(.tmp 45), (.tmp 46)],
     .op (some 11) none (.mv (.tmp 47))]) (
  .seq (
   .reg [.op (some 48) none (.mv (.tmp 11)),
     .op (some 49) none (.bin .gtr (.tmp 48) (.const (.int .i64 (0)))),
     .op (some 50) none (.mv (.tmp 49)),
     .op (some 51) (some (50, true)) (.mv (.tmp 0)),
     .op (some 52) (some (50, true)) (.mv (.tmp 7)),
     .op (some 53) (some (50, true)) (.bin .sub (.tmp 52) (.const (.int .i64 (1)))),
     .op (some 54) (some (50, true)) (.mv (.tmp 11)),
     .op (some 55) (some (50, true)) (.bin .mul (.tmp 53) (.tmp 54)),
     .op (some 56) (some (50, true)) (.bin .gtr (.tmp 51) (.tmp 55)),
     .op (some 57) none (.pick (.tmp 50) (.tmp 56) (.const (.bool false))),
     .op (some 58) none (.mv (.tmp 57)),
     .op (some 59) (some (58, true)) (.mv (.tmp 0)),
     .op (some 60) (some (58, true)) (.mv (.tmp 7)),
     .op (some 61) (some (58, true)) (.bin .sub (.tmp 60) (.const (.int .i64 (1)))),
     .op (some 62) (some (58, true)) (.mv (.tmp 11)),
     .op (some 63) (some (58, true)) (.bin .mul (.tmp 61) (.tmp 62)),
     .op (some 64) (some (58, true)) (.bin .sub (.tmp 59) (.tmp 63)),
     .op (some 65) (some (58, true)) (.mv (.tmp 11)),
     .op (some 66) (some (58, true)) (.bin .leq (.tmp 64) (.tmp 65)),
     .op (some 67) none (.pick (.tmp 58) (.tmp 66) (.const (.bool false))),
     .op (some 68) none (.mv (.tmp 67)),
     .call (some 69) (some (68, true)) (.func 24) [],
     .op (some 70) none (.pick (.tmp 68) (.tmp 69) (.const (.bool false))),
     .op (some 6) none (.mv (.tmp 70))]) (
  .ret))))))))
def k10 : Fun := ⟨71, [.tmp 6], k10c⟩
theorem k10_ok : compF Try.prog 10 = some k10 := by kernel_rfl
theorem k10_name : ((Try.prog.funcs[10]?).map fun fn => fn.name == "runtime.NumGoroutine") = some false := by kernel_rfl
/-- guerdon/guerdonlaw40.PaymentClearsArrears -/
def k11c : C :=
  .seq (
   .reg [.op (some 6) none (.box 9 (.tmp 2)),
     .op (some 8) none (.mv (.const (.bool false)))]) (
  .seq (
   .seq (
    .reg [.op (some 15) none (.mv (.tmp 0)),
      .op (some 16) none (.mv (.tmp 3)),
      .call (some 17) none (.func 22) [(.tmp 15), (.tmp 16)],
      .op (some 18) none (.un .not (.tmp 17)),
      .op (some 19) none (.mv (.tmp 18)),
      .op (some 20) (some (19, false)) (.mv (.tmp 0)),
      .call (some 21) (some (19, false)) (.func 31) [(.tmp 20)],
      .op (some 22) (some (19, false)) (.un .not (.tmp 21)),
      .op (some 23) none (.pick (.tmp 19) (.const (.bool true)) (.tmp 22)),
      .op (some 24) none (.mv (.tmp 23)),
      .op (some 25) (some (24, false)) (.load true 9 (.tmp 6)),
      .call (some 26) (some (24, false)) (.func 23) [(.tmp 25)],
      .op (some 27) (some (24, false)) (.un .not (.tmp 26)),
      .op (some 28) none (.pick (.tmp 24) (.const (.bool true)) (.tmp 27))]) (
   .cond (.tmp 28) (
    .seq (
     .reg [.call (some 29) none (.func 24) [],
       .op (some 8) none (.mv (.tmp 29))]) (
    .ret)) (
    .skip))) (
  .seq (
   .reg [.op (some 30) none (.mv (.tmp 0)),
     .op (some 31) none (.mv (.tmp 1)),
     .op (some 32) none (.load true 9 (.tmp 6)),
     .op (some 33) none (.mv (.tmp 3)),
     .call (some 34) none (.func 25) [(.tmp 30), (.tmp 31), (.tmp 32), (.const (.int .i64 (9))), (.tmp 33)],
     .op (some 9) none (.mv (.tmp 34))]) (
  .seq (
   .reg [.op (some 10) none (.mv (.const (.int .i64 (0)))),
     .op (some 11) none (.mv (.const (.int .i64 (0))))]) (
  .seq (
   .seq (
    .reg [.op (some 12) none (.mv (.const (.int .i64 (0))))]) (
   .block 0 (
    .loop (
     .seq (
      .seq (
       .reg [.op (some 35) none (.mv (.tmp 12)),
         .op (some 36) none (.mv (.tmp 9)),
         .op (some 37) none (.len (.tmp 36)),
         .op (some 38) none (.bin .lss (.tmp 35) (.tmp 37))]) (
      .cond (.tmp 38) (
       .skip) (
       .exit 0))) (
     .seq (
      .block 1 (
       .seq (
        .seq (
         .reg [.op (some 41) none (.mv (.tmp 9)),
           .op (some 42) none (.mv (.tmp 12)),
           .op (some 43) none (.iaddr 4 (.tmp 41) (.tmp 42)),
           .op (some 44) none (.faddr false 1 0 (.tmp 43)),
           .op (some 45) none (.load false 1 (.tmp 44)),
           .op (some 46) none (.bin .neq (.tmp 45) (.const (.int .i64 (9)))),
           .op (some 47) none (.mv (.tmp 46)),
           .op (some 48) (some (47, false)) (.mv (.tmp 9)),
           .op (some 49) (some (47, false)) (.mv (.tmp 12)),
           .op (some 50) (some (47, false)) (.iaddr 4 (.tmp 48) (.tmp 49)),
           .op (some 51) (some (47, false)) (.faddr false 1 3 (.tmp 50)),
           .op (some 52) (some (47, false)) (.load false 1 (.tmp 51)),
           .op (some 53) (some (47, false)) (.bin .lss (.tmp 52) (.const (.int .i64 (1)))),
           .op (some 54) none (.pick (.tmp 47) (.const (.bool true)) (.tmp 53)),
           .op (some 55) none (.mv (.tmp 54)),
           .op (some 56) (some (55, false)) (.mv (.tmp 9)),
           .op (some 57) (some (55, false)) (.mv (.tmp 12)),
           .op (some 58) (some (55, false)) (.iaddr 4 (.tmp 56) (.tmp 57)),
           .op (some 59) (some (55, false)) (.faddr false 1 2 (.tmp 58)),
           .op (some 60) (some (55, false)) (.load false 1 (.tmp 59)),
           .op (some 61) (some (55, false)) (.bin .neq (.tmp 60) (.const (.int .i64 (1)))),
           .op (some 62) (some (55, false)) (.mv (.tmp 61)),
           .op (some 63) (some (62, true)) (.mv (.tmp 9)),
           .op (some 64) (some (62, true)) (.mv (.tmp 12)),
           .op (some 65) (some (62, true)) (.iaddr 4 (.tmp 63) (.tmp 64)),
           .op (some 66) (some (62, true)) (.faddr false 1 2 (.tmp 65)),
           .op (some 67) (some (62, true)) (.load false 1 (.tmp 66)),
           .op (some 68) (some (62, true)) (.bin .neq (.tmp 67) (.const (.int .i64 (2)))),
           .op (some 69) (some (55, false)) (.pick (.tmp 62) (.tmp 68) (.const (.bool false))),
           .op (some 70) none (.pick (.tmp 55) (.const (.bool true)) (.tmp 69))]) (
        .cond (.tmp 70) (
         .seq (
          .reg [.op (some 8) none (.mv (.const (.bool false)))]) (
         .ret)) (
         .skip))) (
       .seq (
        .reg [.op (some 71) none (.mv (.tmp 9)),
          .op (some 72) none (.mv (.tmp 12)),
          .op (some 73) none (.iaddr 4 (.tmp 71) (.tmp 72)),
          .op (some 74) none (.faddr false 1 2 (.tmp 73)),
          .op (some 75) none (.load false 1 (.tmp 74)),
          .op (some 76) none (.bin .eql (.tmp 75) (.const (.int .i64 (1))))]) (
       .cond (.tmp 76) (
        .reg [.op (some 77) none (.mv (.tmp 10)),
          .op (some 78) none (.mv (.tmp 9)),
          .op (some 79) none (.mv (.tmp 12)),
          .op (some 80) none (.iaddr 4 (.tmp 78) (.tmp 79)),
          .op (some 81) none (.faddr false 1 3 (.tmp 80)),
          .op (some 82) none (.load false 1 (.tmp 81)),
          .op (some 83) none (.bin .add (.tmp 77) (.tmp 82)),
          .op (some 10) none (.mv (.tmp 83))]) (
        .reg [.op (some 84) none (.mv (.tmp 11)),
          .op (some 85) none (.mv (.tmp 9)),
          .op (some 86) none (.mv (.tmp 12)),
          .op (some 87) none (.iaddr 4 (.tmp 85) (.tmp 86)),
          .op (some 88) none (.faddr false 1 3 (.tmp 87)),
          .op (some 89) none (.load false 1 (.tmp 88)),
          .op (some 90) none (.bin .add (.tmp 84) (.tmp 89)),
          .op (some 11) none (.mv (.tmp 90))]))))) (
     .reg [.op (some 39) none (.mv (.tmp 12)),
       .op (some 40) none (.bin .add (.tmp 39) (.const (.int .i64 (1)))),
       .op (some 12) none (.mv (.tmp 40))])))))) (
  .seq (
   .seq (
    .reg [.op (some 91) none (.mv (.tmp 10)),
      .op (some 92) none (.bin .leq (.tmp 91) (.const (.int .i64 (1000000000000000)))),
      .op (some 93) none (.mv (.tmp 92)),
      .op (some 94) (some (93, true)) (.mv (.tmp 11)),
      .op (some 95) (some (93, true)) (.mv (.tmp 10)),
      .op (some 96) (some (93, true)) (.load true 9 (.tmp 6)),
      .call (some 97) (some (93, true)) (.func 12) [(.tmp 95), (.tmp 96)],
      .op (some 98) (some (93, true)) (.bin .gtr (.tmp 94) (.tmp 97)),
      .op (some 99) (some (93, true)) (.mv (.tmp 98)),
      .op (some 100) (some (99, false)) (.faddr false 1 4 (.tmp 6)),
      .op (some 101) (some (99, false)) (.load false 1 (.tmp 100)),
      .op (some 102) (some (99, false)) (.bin .geq (.tmp 101) (.const (.int .i64 (0)))),
      .op (some 103) (some (99, false)) (.mv (.tmp 102)),
      .op (some 104) (some (103, true)) (.mv (.tmp 9)),
      .call (some 105) (some (103, true)) (.func 27) [(.tmp 104)],
      .op (some 106) (some (103, true)) (.bin .lss (.tmp 105) (.const (.int .i64 (0)))),
      .op (some 107) (some (99, false)) (.pick (.tmp 103) (.tmp 106) (.const (.bool false))),
      .op (some 108) (some (93, true)) (.pick (.tmp 99) (.const (.bool true)) (.tmp 107)),
      .op (some 109) none (.pick (.tmp 93) (.tmp 108) (.const (.bool false))),
      .op (some 110) none (.mv (.tmp 109)),
      .op (some 111) (some (110, false)) (.mv (.tmp 9)),
      .call (some 112) (some (110, false)) (.func 27) [(.tmp 111)],
      .op (some 113) (some (110, false)) (.mv (.tmp 10)),
      .op (some 114) (some (110, false)) (.mv (.tmp 11)),
      .op (some 115) (some (110, false)) (.bin .sub (.tmp 113) (.tmp 114)),
      .op (some 116) (some (110, false)) (.bin .neq (.tmp 112) (.tmp 115)),
      .op (some 117) none (.pick (.tmp 110) (.const (.bool true)) (.tmp 116))]) (
   .cond (.tmp 117) (
    .seq (
     .reg [.op (some 8) none (.mv (.const (.bool false)))]) (
    .ret)) (
    .skip))) (
  .seq (
   .seq (
    .reg [.op (some 13) none (.mv (.const (.int .i64 (0))))]) (
   .block 2 (
    .loop (
     .seq (
      .seq (
       .reg [.op (some 118) none (.mv (.tmp 13)),
         .op (some 119) none (.mv (.tmp 0)),
         .op (some 120) none (.len (.tmp 119)),
         .op (some 121) none (.bin .lss (.tmp 118) (.tmp 120))]) (
      .cond (.tmp 121) (
       .skip) (
       .exit 2))) (
     .seq (
      .block 3 (
       .seq (
        .reg [.op (some 124) none (.mv (.tmp 0)),
          .op (some 125) none (.mv (.tmp 13)),
          .op (some 126) none (.iaddr 4 (.tmp 124) (.tmp 125)),
          .op (some 127) none (.load true 4 (.tmp 126)),
          .op (some 14) none (.alloc 4 (.agg [(.v (.int .i64 (0))), (.v (.int .i64 (0))), (.v (.int .i64 (0))), (.v (.int .i64 (0)))])),
          .op none none (.store 4 (.tmp 14) (.tmp 127))]) (
       .seq (
        .reg [.op (some 128) none (.mv (.tmp 0)),
          .op (some 129) none (.mv (.tmp 13)),
          .op (some 130) none (.iaddr 4 (.tmp 128) (.tmp 129)),
          .op (some 131) none (.load true 4 (.tmp 130)),
          .op (some 132) none (.mv (.tmp 9)),
          .call (some 133) none (.func 32) [(.tmp 131), (.tmp 132)],
          .op (some 134) none (.faddr false 1 2 (.tmp 14)),
          .op none none (.store 1 (.tmp 134) (.tmp 133))]) (
       .seq (
        .draw 17 [.op (some 135) none (.faddr false 1 2 (.tmp 14)),
          .op (some 136) none (.load false 1 (.tmp 135)),
          .op (some 137) none (.bin .lss (.tmp 136) (.const (.int .i64 (0)))),
          .op (some 138) none (.mv (.tmp 137)),
          .op (some 139) (some (138, false)) (.load true 4 (.tmp 14)),
          .call (some 140) (some (138, false)) (.func 33) [(.tmp 139)],
          .op (some 141) (some (138, false)) (.mv (.tmp 0)),
          .op (some 142) (some (138, false)) (.mv (.tmp 13)),
          .op (some 143) (some (138, false)) (.iaddr 4 (.tmp 141) (.tmp 142)),
          .op (some 144) (some (138, false)) (.load true 4 (.tmp 143)),
          .call (some 145) (some (138, false)) (.func 33) [(.tmp 144)],
          .op (some 146) (some (138, false)) (.bin .gtr (.tmp 140) (.tmp 145)),
          .op (some 147) none (.pick (.tmp 138) (.const (.bool true)) (.tmp 146)),
          .op (some 148) none (.mv (.tmp 147)),
          .op (some 149) (some (148, false)) (.faddr false 1 0 (.tmp 14)),
          .op (some 150) (some (148, false)) (.load false 1 (.tmp 149)),
          .op (some 151) (some (148, false)) (.mv (.tmp 1)),
          .op (some 152) (some (148, false)) (.bin .leq (.tmp 150) (.tmp 151)),
          .op (some 153) (some (148, false)) (.mv (.tmp 152)),
          .op (some 154) (some (153, true)) (.load true 4 (.tmp 14)),
          .call (some 155) (some (153, true)) (.func 33) [(.tmp 154)],
          .op (some 156) (some (153, true)) (.bin .neq (.tmp 155) (.const (.int .i64 (0)))),
          .op (some 157) (some (148, false)) (.pick (.tmp 153) (.tmp 156) (.const (.bool false))),
          .op (some 158) none (.pick (.tmp 148) (.const (.bool true)) (.tmp 157))]) (
       .cond (.tmp 158) (
        .seq (
         .reg [.op (some 8) none (.mv (.const (.bool false)))]) (
        .ret)) (
        .skip)))))) (
     .reg [.op (some 122) none (.mv (.tmp 13)),
       .op (some 123) none (.bin .add (.tmp 122) (.const (.int .i64 (1)))),
       .op (some 13) none (.mv (.tmp 123))])))))) (
  .seq (
   .reg [.call (some 159) none (.func 24) [],
     .op (some 8) none (.mv (.tmp 159))]) (
  .ret))))))))
def k11 : Fun := ⟨160, [.tmp 8], k11c⟩
theorem k11_ok : compF Try.prog 11 = some k11 := by kernel_rfl
theorem k11_name : ((Try.prog.funcs[11]?).map fun fn => fn.name == "runtime.NumGoroutine") = some false := by kernel_rfl
/-- guerdon/recovery.Limit -/
def k12c : C :=
  .seq (
   .reg [.op (some 3) none (.box 9 (.tmp 1)),
     .op (some 4) none (.mv (.const (.int .i64 (0))))]) (
  .seq (
   .seq (
    .reg [.op (some 7) none (.mv (.tmp 0)),
      .op (some 8) none (.bin .lss (.tmp 7) (.const (.int .i64 (1))))]) (
   .cond (.tmp 8) (
    .seq (
     .reg [.op (some 4) none (.mv (.const (.int .i64 (0))))]) (
    .ret)) (
    .skip))) (
  .seq (
   .reg [.op (some 10) none (.mv (.tmp 0)),
     .op (some 11) none (.faddr false 1 3 (.tmp 3)),
     .op (some 12) none (.load false 1 (.tmp 11)),
     .call (some 13) none (.func 34) [(.tmp 10), (.tmp 12), (.const (.int .i64 (0)))],
     .op (some 9) none (.mv (.tmp 13)),
     .op (some 14) none (.extract (.tmp 9) 0),
     .op (some 15) none (.extract (.tmp 9) 1),
     .op (some 5) none (.mv (.tmp 14)),
     .op (some 6) none (.mv (.tmp 15))]) (
  .seq (
   .seq (
    .reg [.op (some 16) none (.mv (.tmp 6)),
      .op (some 17) none (.bin .neq (.tmp 16) (.const (.int .i64 (0))))]) (
   .cond (.tmp 17) (
    .seq (
     .reg [.op (some 4) none (.mv (.const (.int .i64 (0))))]) (
    .ret)) (
    .skip))) (
  .seq (
   .reg [.op (some 18) none (.mv (.tmp 0)),
     .op (some 19) none (.faddr false 1 4 (.tmp 3)),
     .op (some 20) none (.load false 1 (.tmp 19)),
     .op (some 21) none (.mm true [(.tmp 20), (.const (.int .i64 (0)))]),
     .op (some 22) none (.bin .sub (.tmp 18) (.tmp 21)),
     .op (some 23) none (.mv (.tmp 5)),
     .op (some 24) none (.mm false [(.tmp 22), (.tmp 23)]),
     .op (some 25) none (.mm true [(.tmp 24), (.const (.int .i64 (0)))]),
     .op (some 4) none (.mv (.tmp 25))]) (
  .ret)))))
def k12 : Fun := ⟨26, [.tmp 4], k12c⟩
theorem k12_ok : compF Try.prog 12 = some k12 := by kernel_rfl
theorem k12_name : ((Try.prog.funcs[12]?).map fun fn => fn.name == "runtime.NumGoroutine") = some false := by kernel_rfl
/-- guerdon/guerdonref39.Limit -/
def k13c : C :=
  .seq (
   .reg [.op (some 3) none (.box 9 (.tmp 1)),
     .op (some 4) none (.mv (.const (.int .i64 (0))))]) (
  .seq (
   .reg [.op (some 8) none (.mv (.tmp 0)),
     .op (some 9) none (.faddr false 1 3 (.tmp 3)),
     .op (some 10) none (.load false 1 (.tmp 9)),
     .call (some 11) none (.func 35) [(.tmp 8), (.tmp 10), (.const (.int .i64 (0)))],
     .op (some 7) none (.mv (.tmp 11)),
     .op (some 12) none (.extract (.tmp 7) 0),
     .op (some 13) none (.extract (.tmp 7) 1),
     .op (some 5) none (.mv (.tmp 12)),
     .op (some 6) none (.mv (.tmp 13))]) (
  .seq (
   .seq (
    .reg [.op (some 14) none (.mv (.tmp 6)),
      .op (some 15) none (.bin .neq (.tmp 14) (.const (.int .i64 (0)))),
      .op (some 16) none (.mv (.tmp 15)),
      .op (some 17) (some (16, false)) (.mv (.tmp 0)),
      .op (some 18) (some (16, false)) (.bin .lss (.tmp 17) (.const (.int .i64 (1)))),
      .op (some 19) none (.pick (.tmp 16) (.const (.bool true)) (.tmp 18))]) (
   .cond (.tmp 19) (
    .seq (
     .reg [.op (some 4) none (.mv (.const (.int .i64 (0))))]) (
    .ret)) (
    .skip))) (
  .seq (
   .reg [.op (some 20) none (.mv (.tmp 5)),
     .op (some 21) none (.mv (.tmp 0)),
     .op (some 22) none (.faddr false 1 4 (.tmp 3)),
     .op (some 23) none (.load false 1 (.tmp 22)),
     .op (some 24) none (.mm true [(.const (.int .i64 (0))), (.tmp 23)]),
     .op (some 25) none (.bin .sub (.tmp 21) (.tmp 24)),
     .op (some 26) none (.mm false [(.tmp 20), (.tmp 25)]),
     .op (some 27) none (.mm true [(.const (.int .i64 (0))), (.tmp 26)]),
     .op (some 4) none (.mv (.tmp 27))]) (
  .ret))))
def k13 : Fun := ⟨28, [.tmp 4], k13c⟩
theorem k13_ok : compF Try.prog 13 = some k13 := by kernel_rfl
theorem k13_name : ((Try.prog.funcs[13]?).map fun fn => fn.name == "runtime.NumGoroutine") = some false := by kernel_rfl
/-- guerdon/guerdonlaw39.awake -/
def k14c : C :=
  .seq (
   .reg [.op (some 0) none (.mv (.const (.bool false)))]) (
  .seq (
   .reg [.op (some 8) none (.build [(.v (.int .i64 (0))), (.v (.int .i64 (0))), (.v (.int .i64 (0))), (.v (.int .i64 (0))), (.v (.int .i64 (0))), (.v (.int .i64 (0))), (.v (.int .i64 (0))), (.v (.int .i64 (0))), (.v (.slice none 0 0))] [(3, 1, (.const (.int .i64 (100000)))), (4, 1, (.const (.int .i64 (5000))))]),
     .op (some 1) none (.alloc 9 (.agg [(.v (.int .i64 (0))), (.v (.int .i64 (0))), (.v (.int .i64 (0))), (.v (.int .i64 (0))), (.v (.int .i64 (0))), (.v (.int .i64 (0))), (.v (.int .i64 (0))), (.v (.int .i64 (0))), (.v (.slice none 0 0))])),
     .op none none (.store 9 (.tmp 1) (.tmp 8))]) (
  .seq (
   .reg [.op (some 9) none (.build [(.v (.int .i64 (0))), (.v (.int .i64 (0))), (.v (.int .i64 (0))), (.v (.int .i64 (0)))] [(0, 1, (.const (.int .i64 (3)))), (2, 1, (.const (.int .i64 (2000))))]),
     .op (some 10) none (.build [(.v (.int .i64 (0))), (.v (.int .i64 (0))), (.v (.int .i64 (0))), (.v (.int .i64 (0)))] [(0, 1, (.const (.int .i64 (4)))), (2, 1, (.const (.int .i64 (2000))))]),
     .op (some 11) none (.bslice 4 2 (.agg [(.v (.int .i64 (0))), (.v (.int .i64 (0))), (.v (.int .i64 (0))), (.v (.int .i64 (0)))]) [(0, (.tmp 9)), (1, (.tmp 10))]),
     .op (some 2) none (.mv (.tmp 11))]) (
  .seq (
   .reg [.op (some 12) none (.mv (.tmp 2)),
     .op (some 13) none (.load true 9 (.tmp 1)),
     .call (some 14) none (.func 17) [(.tmp 12), (.const (.int .i64 (30000))), (.tmp 13), (.const (.int .i64 (9))), (.const (.slice none 0 0))],
     .op (some 3) none (.mv (.tmp 14))]) (
  .seq (
   .reg [.op (some 16) none (.mv (.tmp 2)),
     .call (some 17) none (.func 19) [(.tmp 16), (.const (.int .i64 (5000))), (.const (.int .i64 (9)))],
     .op (some 15) none (.mv (.tmp 17)),
     .op (some 18) none (.extract (.tmp 15) 0),
     .op (some 19) none (.extract (.tmp 15) 1),
     .op (some 4) none (.mv (.tmp 18)),
     .op (some 5) none (.mv (.tmp 19))]) (
  .seq (
   .reg [.op (some 20) none (.build [(.v (.int .i64 (0))), (.v (.int .i64 (0))), (.v (.int .i64 (0))), (.v (.int .i64 (0)))] [(0, 1, (.const (.int .i64 (9)))), (1, 1, (.const (.int .i64 (3)))), (2, 1, (.const (.int .i64 (2)))), (3, 1, (.const (.int .i64 (2000))))]),
     .op (some 6) none (.alloc 4 (.agg [(.v (.int .i64 (0))), (.v (.int .i64 (0))), (.v (.int .i64 (0))), (.v (.int .i64 (0)))])),
     .op none none (.store 4 (.tmp 6) (.tmp 20))]) (
  .seq (
   .reg [.op (some 21) none (.build [(.v (.int .i64 (0))), (.v (.int .i64 (0))), (.v (.int .i64 (0))), (.v (.int .i64 (0)))] [(0, 1, (.const (.int .i64 (9)))), (1, 1, (.const (.int .i64 (4)))), (2, 1, (.const (.int .i64 (2)))), (3, 1, (.const (.int .i64 (1000))))]),
     .op (some 7) none (.alloc 4 (.agg [(.v (.int .i64 (0))), (.v (.int .i64 (0))), (.v (.int .i64 (0))), (.v (.int .i64 (0)))])),
     .op none none (.store 4 (.tmp 7) (.tmp 21))]) (
  .seq (
   .reg [.op (some 22) none (.load true 9 (.tmp 1)),
     .call (some 23) none (.func 12) [(.const (.int .i64 (30000))), (.tmp 22)],
     .op (some 24) none (.bin .eql (.tmp 23) (.const (.int .i64 (3000)))),
     .op (some 25) none (.mv (.tmp 24)),
     .op (some 26) (some (25, true)) (.load true 9 (.tmp 1)),
     .call (some 27) (some (25, true)) (.func 12) [(.const (.int .i64 (5200))), (.tmp 26)],
     .op (some 28) (some (25, true)) (.bin .eql (.tmp 27) (.const (.int .i64 (200)))),
     .op (some 29) none (.pick (.tmp 25) (.tmp 28) (.const (.bool false))),
     .op (some 30) none (.mv (.tmp 29)),
     .op (some 31) (some (30, true)) (.load true 9 (.tmp 1)),
     .call (some 32) (some (30, true)) (.func 12) [(.const (.int .i64 (4000))), (.tmp 31)],
     .op (some 33) (some (30, true)) (.bin .eql (.tmp 32) (.const (.int .i64 (0)))),
     .op (some 34) none (.pick (.tmp 30) (.tmp 33) (.const (.bool false))),
     .op (some 35) none (.mv (.tmp 34)),
     .op (some 36) (some (35, true)) (.mv (.tmp 3)),
     .op (some 37) (some (35, true)) (.load true 4 (.tmp 6)),
     .op (some 38) (some (35, true)) (.load true 4 (.tmp 7)),
     .op (some 39) (some (35, true)) (.bslice 4 2 (.agg [(.v (.int .i64 (0))), (.v (.int .i64 (0))), (.v (.int .i64 (0))), (.v (.int .i64 (0)))]) [(0, (.tmp 37)), (1, (.tmp 38))]),
     .call (some 40) (some (35, true)) (.func 16) [(.tmp 36), (.tmp 39)],
     .op (some 41) none (.pick (.tmp 35) (.tmp 40) (.const (.bool false))),
     .op (some 42) none (.mv (.tmp 41)),
     .op (some 43) (some (42, true)) (.mv (.tmp 4)),
     .op (some 44) (some (42, true)) (.len (.tmp 43)),
     .op (some 45) (some (42, true)) (.bin .eql (.tmp 44) (.const (.int .i64 (2)))),
     .op (some 46) none (.pick (.tmp 42) (.tmp 45) (.const (.bool false))),
     .op (some 47) none (.mv (.tmp 46)),
     .op (some 48) (some (47, true)) (.mv (.tmp 5)),
     .op (some 49) (some (47, true)) (.bin .eql (.tmp 48) (.const (.int .i64 (1000)))),
     .op (some 50) none (.pick (.tmp 47) (.tmp 49) (.const (.bool false))),
     .op (some 0) none (.mv (.tmp 50))]) (
  .ret))))))))
def k14 : Fun := ⟨51, [.tmp 0], k14c⟩
theorem k14_ok : compF Try.prog 14 = some k14 := by kernel_rfl
theorem k14_name : ((Try.prog.funcs[14]?).map fun fn => fn.name == "runtime.NumGoroutine") = some false := by kernel_rfl
/-- guerdon/guerdonlaw39.few -/
def k15c : C :=
  .seq (
   .reg [.op (some 4) none (.mv (.const (.bool false)))]) (
  .seq (
   .seq (
    .reg [.op (some 6) none (.mv (.tmp 0)),
      .op (some 7) none (.len (.tmp 6)),
      .op (some 8) none (.bin .gtr (.tmp 7) (.const (.int .i64 (150)))),
      .op (some 9) none (.mv (.tmp 8)),
      .op (some 10) (some (9, false)) (.mv (.tmp 1)),
      .op (some 11) (some (9, false)) (.len (.tmp 10)),
      .op (some 12) (some (9, false)) (.bin .gtr (.tmp 11) (.const (.int .i64 (150)))),
      .op (some 13) none (.pick (.tmp 9) (.const (.bool true)) (.tmp 12))]) (
   .cond (.tmp 13) (
    .seq (
     .reg [.op (some 4) none (.mv (.const (.bool false)))]) (
    .ret)) (
    .skip))) (
  .seq (
   .seq (
    .reg [.op (some 5) none (.mv (.const (.int .i64 (0))))]) (
   .block 0 (
    .loop (
     .seq (
      .seq (
       .reg [.op (some 14) none (.mv (.tmp 5)),
         .op (some 15) none (.mv (.tmp 0)),
         .op (some 16) none (.len (.tmp 15)),
         .op (some 17) none (.bin .lss (.tmp 14) (.tmp 16))]) (
      .cond (.tmp 17) (
       .skip) (
       .exit 0))) (
     .seq (
      .block 1 (
       .seq (
        .reg [.op (some 20) none (.mv (.tmp 0)),
          .op (some 21) none (.mv (.tmp 5)),
          .op (some 22) none (.iaddr 4 (.tmp 20) (.tmp 21)),
          .op (some 23) none (.load true 4 (.tmp 22)),
          .call (some 24) none (.func 36) [(.tmp 23), (.const (.int .i64 (1152921504606846976)))],
          .op (some 25) none (.un .not (.tmp 24))]) (
       .cond (.tmp 25) (
        .seq (
         .reg [.op (some 4) none (.mv (.const (.bool false)))]) (
        .ret)) (
        .skip)))) (
     .reg [.op (some 18) none (.mv (.tmp 5)),
       .op (some 19) none (.bin .add (.tmp 18) (.const (.int .i64 (1)))),
       .op (some 5) none (.mv (.tmp 19))])))))) (
  .seq (
   .reg [.op (some 4) none (.mv (.const (.bool true)))]) (
  .ret))))
def k15 : Fun := ⟨26, [.tmp 4], k15c⟩
theorem k15_ok : compF Try.prog 15 = some k15 := by kernel_rfl
theorem k15_name : ((Try.prog.funcs[15]?).map fun fn => fn.name == "runtime.NumGoroutine") = some false := by kernel_rfl
/-- guerdon/guerdonsame.Postings -/
def k16c : C :=
  .seq (
   .reg [.op (some 4) none (.mv (.const (.bool false)))]) (
  .seq (
   .seq (
    .reg [.op (some 6) none (.mv (.tmp 0)),
      .op (some 7) none (.len (.tmp 6)),
      .op (some 8) none (.mv (.tmp 1)),
      .op (some 9) none (.len (.tmp 8)),
      .op (some 10) none (.bin .neq (.tmp 7) (.tmp 9))]) (
   .cond (.tmp 10) (
    .seq (
     .reg [.op (some 4) none (.mv (.const (.bool false)))]) (
    .ret)) (
    .skip))) (
  .seq (
   .seq (
    .reg [.op (some 5) none (.mv (.const (.int .i64 (0))))]) (
   .block 0 (
    .loop (
     .seq (
      .seq (
       .reg [.op (some 11) none (.mv (.tmp 5)),
         .op (some 12) none (.mv (.tmp 0)),
         .op (some 13) none (.len (.tmp 12)),
         .op (some 14) none (.bin .lss (.tmp 11) (.tmp 13)),
         .op (some 15) none (.mv (.tmp 14)),
         .op (some 16) (some (15, true)) (.mv (.tmp 5)),
         .op (some 17) (some (15, true)) (.mv (.tmp 1)),
         .op (some 18) (some (15, true)) (.len (.tmp 17)),
         .op (some 19) (some (15, true)) (.bin .lss (.tmp 16) (.tmp 18)),
         .op (some 20) none (.pick (.tmp 15) (.tmp 19) (.const (.bool false)))]) (
      .cond (.tmp 20) (
       .skip) (
       .exit 0))) (
     .seq (
      .block 1 (
       .seq (
        .draw 8 [.op (some 23) none (.mv (.tmp 0)),
          .op (some 24) none (.mv (.tmp 5)),
          .op (some 25) none (.iaddr 4 (.tmp 23) (.tmp 24)),
          .op (some 26) none (.load true 4 (.tmp 25)),
          .op (some 27) none (.mv (.tmp 1)),
          .op (some 28) none (.mv (.tmp 5)),
          .op (some 29) none (.iaddr 4 (.tmp 27) (.tmp 28)),
          .op (some 30) none (.load true 4 (.tmp 29)),
          .op (some 31) none (.ceq true [0, 0, 0, 0] (.tmp 26) (.tmp 30))]) (
       .cond (.tmp 31) (
        .seq (
         .reg [.op (some 4) none (.mv (.const (.bool false)))]) (
        .ret)) (
        .skip)))) (
     .reg [.op (some 21) none (.mv (.tmp 5)),
       .op (some 22) none (.bin .add (.tmp 21) (.const (.int .i64 (1)))),
       .op (some 5) none (.mv (.tmp 22))])))))) (
  .seq (
   .reg [.op (some 4) none (.mv (.const (.bool true)))]) (
  .ret))))
def k16 : Fun := ⟨32, [.tmp 4], k16c⟩
theorem k16_ok : compF Try.prog 16 = some k16 := by kernel_rfl
theorem k16_name : ((Try.prog.funcs[16]?).map fun fn => fn.name == "runtime.NumGoroutine") = some false := by kernel_rfl
/-- guerdon/recovery.Plan -/
def k17c : C :=
  .seq (
   .reg [.op (some 7) none (.box 9 (.tmp 2)),
     .op (some 10) none (.mv (.const (.slice none 0 0)))]) (
  .seq (
   .reg [.op (some 16) none (.mkmap),
     .op (some 11) none (.mv (.tmp 16))]) (
  .seq (
   .seq (
    .reg [.op (some 17) none (.mv (.tmp 4)),
      .op (some 18) none (.len (.tmp 17)),
      .op (some 19) none (.mv (.const (.int .i64 (0))))]) (
   .block 0 (
    .loop (
     .seq (
      .reg [.op (some 20) none (.bin .lss (.tmp 19) (.tmp 18))]) (
     .seq (
      .cond (.tmp 20) (
       .skip) (
       .exit 0)) (
     .seq (
      .block 1 (
       .seq (
        .reg [.op (some 21) none (.iaddr 1 (.tmp 17) (.tmp 19)),
          .op (some 22) none (.load false 1 (.tmp 21)),
          .op (some 13) none (.mv (.tmp 22))]) (
       .reg [.op (some 23) none (.mv (.tmp 11)),
         .op (some 24) none (.mv (.tmp 13)),
         .op none none (.mput 0 (.tmp 23) (.tmp 24) (.const (.bool true)))]))) (
     .reg [.op (some 25) none (.bin .add (.tmp 19) (.const (.int .i64 (1)))),
       .op (some 19) none (.mv (.tmp 25))]))))))) (
  .seq (
   .reg [.op (some 27) none (.mv (.tmp 0)),
     .op (some 28) none (.mv (.tmp 1)),
     .op (some 29) none (.load true 9 (.tmp 7)),
     .call (some 30) none (.func 12) [(.tmp 28), (.tmp 29)],
     .op (some 31) none (.mv (.tmp 3)),
     .op (some 32) none (.mv (.tmp 11)),
     .call (some 33) none (.func 37) [(.tmp 27), (.tmp 30), (.const (.int .i64 (2))), (.tmp 31), (.tmp 32)],
     .op (some 26) none (.mv (.tmp 33)),
     .op (some 34) none (.extract (.tmp 26) 0),
     .op (some 35) none (.extract (.tmp 26) 1),
     .op (some 14) none (.mv (.tmp 34)),
     .op (some 15) none (.mv (.tmp 35))]) (
  .seq (
   .reg [.op (some 36) none (.mv (.tmp 14)),
     .op (some 10) none (.mv (.tmp 36))]) (
  .ret)))))
def k17 : Fun := ⟨37, [.tmp 10], k17c⟩
theorem k17_ok : compF Try.prog 17 = some k17 := by kernel_rfl
theorem k17_name : ((Try.prog.funcs[17]?).map fun fn => fn.name == "runtime.NumGoroutine") = some false := by kernel_rfl
/-- guerdon/guerdonref39.Plan -/
def k18c : C :=
  .seq (
   .reg [.op (some 7) none (.box 9 (.tmp 2)),
     .op (some 10) none (.mv (.const (.slice none 0 0)))]) (
  .seq (
   .reg [.op (some 14) none (.mv (.tmp 0)),
     .op (some 15) none (.mv (.tmp 1)),
     .op (some 16) none (.load true 9 (.tmp 7)),
     .call (some 17) none (.func 13) [(.tmp 15), (.tmp 16)],
     .op (some 18) none (.mv (.tmp 3)),
     .op (some 19) none (.mv (.tmp 4)),
     .call (some 20) none (.func 38) [(.tmp 14), (.tmp 17), (.tmp 18), (.const (.int .i64 (2))), (.tmp 19)],
     .op (some 13) none (.mv (.tmp 20)),
     .op (some 21) none (.extract (.tmp 13) 0),
     .op (some 22) none (.extract (.tmp 13) 1),
     .op (some 11) none (.mv (.tmp 21)),
     .op (some 12) none (.mv (.tmp 22))]) (
  .seq (
   .reg [.op (some 23) none (.mv (.tmp 11)),
     .op (some 10) none (.mv (.tmp 23))]) (
  .ret)))
def k18 : Fun := ⟨24, [.tmp 10], k18c⟩
theorem k18_ok : compF Try.prog 18 = some k18 := by kernel_rfl
theorem k18_name : ((Try.prog.funcs[18]?).map fun fn => fn.name == "runtime.NumGoroutine") = some false := by kernel_rfl
/-- guerdon/recovery.Repay -/
def k19c : C :=
  .seq (
   .reg [.op (some 6) none (.mv (.const (.slice none 0 0))),
     .op (some 7) none (.mv (.const (.int .i64 (0))))]) (
  .seq (
   .seq (
    .reg [.op (some 8) none (.mv (.tmp 1)),
      .op (some 9) none (.bin .lss (.tmp 8) (.const (.int .i64 (1))))]) (
   .cond (.tmp 9) (
    .seq (
     .reg [.op (some 6) none (.mv (.const (.slice none 0 0))),
       .op (some 7) none (.mv (.const (.int .i64 (0))))]) (
    .ret)) (
    .skip))) (
  .seq (
   .reg [.op (some 10) none (.mv (.tmp 0)),
     .op (some 11) none (.mv (.tmp 1)),
     .op (some 12) none (.mv (.tmp 2)),
     .call (some 13) none (.func 37) [(.tmp 10), (.tmp 11), (.const (.int .i64 (3))), (.tmp 12), (.const (.map none))],
     .op (some 14) none (.extract (.tmp 13) 0),
     .op (some 15) none (.extract (.tmp 13) 1),
     .op (some 6) none (.mv (.tmp 14)),
     .op (some 7) none (.mv (.tmp 15))]) (
  .ret)))
def k19 : Fun := ⟨16, [.tmp 6, .tmp 7], k19c⟩
theorem k19_ok : compF Try.prog 19 = some k19 := by kernel_rfl
theorem k19_name : ((Try.prog.funcs[19]?).map fun fn => fn.name == "runtime.NumGoroutine") = some false := by kernel_rfl
/-- guerdon/guerdonref39.Repay -/
def k20c : C :=
  .seq (
   .reg [.op (some 6) none (.mv (.const (.slice none 0 0))),
     .op (some 7) none (.mv (.const (.int .i64 (0))))]) (
  .seq (
   .reg [.op (some 8) none (.mv (.tmp 0)),
     .op (some 9) none (.mv (.tmp 1)),
     .op (some 10) none (.mm true [(.const (.int .i64 (0))), (.tmp 9)]),
     .op (some 11) none (.mv (.tmp 2)),
     .call (some 12) none (.func 38) [(.tmp 8), (.tmp 10), (.tmp 11), (.const (.int .i64 (3))), (.const (.slice none 0 0))],
     .op (some 13) none (.extract (.tmp 12) 0),
     .op (some 14) none (.extract (.tmp 12) 1),
     .op (some 6) none (.mv (.tmp 13)),
     .op (some 7) none (.mv (.tmp 14))]) (
  .ret))
def k20 : Fun := ⟨15, [.tmp 6, .tmp 7], k20c⟩
theorem k20_ok : compF Try.prog 20 = some k20 := by kernel_rfl
theorem k20_name : ((Try.prog.funcs[20]?).map fun fn => fn.name == "runtime.NumGoroutine") = some false := by kernel_rfl
/-- guerdon/guerdonref38.Overpayment -/
def k21c : C :=
  .seq (
   .reg [.op (some 1) none (.box 4 (.tmp 0)),
     .op (some 2) none (.mv (.const (.int .i64 (0))))]) (
  .seq (
   .reg [.op (some 3) none (.faddr false 1 2 (.tmp 1)),
     .op (some 4) none (.load false 1 (.tmp 3)),
     .op (some 5) none (.faddr false 1 1 (.tmp 1)),
     .op (some 6) none (.load false 1 (.tmp 5)),
     .op (some 7) none (.bin .sub (.tmp 4) (.tmp 6)),
     .op (some 8) none (.faddr false 1 3 (.tmp 1)),
     .op (some 9) none (.load false 1 (.tmp 8)),
     .op (some 10) none (.bin .sub (.tmp 7) (.tmp 9)),
     .op (some 11) none (.mm true [(.tmp 10), (.const (.int .i64 (0)))]),
     .op (some 2) none (.mv (.tmp 11))]) (
  .ret))
def k21 : Fun := ⟨12, [.tmp 2], k21c⟩
theorem k21_ok : compF Try.prog 21 = some k21 := by kernel_rfl
theorem k21_name : ((Try.prog.funcs[21]?).map fun fn => fn.name == "runtime.NumGoroutine") = some false := by kernel_rfl
/-- guerdon/guerdonref40.Moderate -/
def k22c : C :=
  .seq (
   .reg [.op (some 4) none (.mv (.const (.bool false)))]) (
  .seq (
   .seq (
    .reg [.op (some 7) none (.mv (.tmp 0)),
      .op (some 8) none (.len (.tmp 7)),
      .op (some 9) none (.bin .gtr (.tmp 8) (.const (.int .i64 (60)))),
      .op (some 10) none (.mv (.tmp 9)),
      .op (some 11) (some (10, false)) (.mv (.tmp 1)),
      .op (some 12) (some (10, false)) (.len (.tmp 11)),
      .op (some 13) (some (10, false)) (.bin .gtr (.tmp 12) (.const (.int .i64 (60)))),
      .op (some 14) none (.pick (.tmp 10) (.const (.bool true)) (.tmp 13))]) (
   .cond (.tmp 14) (
    .seq (
     .reg [.op (some 4) none (.mv (.const (.bool false)))]) (
    .ret)) (
    .skip))) (
  .seq (
   .seq (
    .reg [.op (some 5) none (.mv (.const (.int .i64 (0))))]) (
   .block 0 (
    .loop (
     .seq (
      .seq (
       .reg [.op (some 15) none (.mv (.tmp 5)),
         .op (some 16) none (.mv (.tmp 0)),
         .op (some 17) none (.len (.tmp 16)),
         .op (some 18) none (.bin .lss (.tmp 15) (.tmp 17))]) (
      .cond (.tmp 18) (
       .skip) (
       .exit 0))) (
     .seq (
      .block 1 (
       .seq (
        .reg [.op (some 21) none (.mv (.tmp 0)),
          .op (some 22) none (.mv (.tmp 5)),
          .op (some 23) none (.iaddr 4 (.tmp 21) (.tmp 22)),
          .op (some 24) none (.load true 4 (.tmp 23)),
          .op (some 6) none (.alloc 4 (.agg [(.v (.int .i64 (0))), (.v (.int .i64 (0))), (.v (.int .i64 (0))), (.v (.int .i64 (0)))])),
          .op none none (.store 4 (.tmp 6) (.tmp 24))]) (
       .seq (
        .reg [.op (some 25) none (.faddr false 1 1 (.tmp 6)),
          .op (some 26) none (.load false 1 (.tmp 25)),
          .op (some 27) none (.bin .gtr (.tmp 26) (.const (.int .i64 (1000000000000000)))),
          .op (some 28) none (.mv (.tmp 27)),
          .op (some 29) (some (28, false)) (.faddr false 1 1 (.tmp 6)),
          .op (some 30) (some (28, false)) (.load false 1 (.tmp 29)),
          .op (some 31) (some (28, false)) (.bin .lss (.tmp 30) (.const (.int .i64 (-1000000000000000)))),
          .op (some 32) none (.pick (.tmp 28) (.const (.bool true)) (.tmp 31)),
          .op (some 33) none (.mv (.tmp 32)),
          .op (some 34) (some (33, false)) (.faddr false 1 2 (.tmp 6)),
          .op (some 35) (some (33, false)) (.load false 1 (.tmp 34)),
          .op (some 36) (some (33, false)) (.bin .gtr (.tmp 35) (.const (.int .i64 (1000000000000000)))),
          .op (some 37) none (.pick (.tmp 33) (.const (.bool true)) (.tmp 36)),
          .op (some 38) none (.mv (.tmp 37)),
          .op (some 39) (some (38, false)) (.faddr false 1 2 (.tmp 6)),
          .op (some 40) (some (38, false)) (.load false 1 (.tmp 39)),
          .op (some 41) (some (38, false)) (.bin .lss (.tmp 40) (.const (.int .i64 (-1000000000000000)))),
          .op (some 42) none (.pick (.tmp 38) (.const (.bool true)) (.tmp 41)),
          .op (some 43) none (.mv (.tmp 42)),
          .op (some 44) (some (43, false)) (.faddr false 1 3 (.tmp 6)),
          .op (some 45) (some (43, false)) (.load false 1 (.tmp 44)),
          .op (some 46) (some (43, false)) (.bin .gtr (.tmp 45) (.const (.int .i64 (1000000000000000)))),
          .op (some 47) none (.pick (.tmp 43) (.const (.bool true)) (.tmp 46)),
          .op (some 48) none (.mv (.tmp 47)),
          .op (some 49) (some (48, false)) (.faddr false 1 3 (.tmp 6)),
          .op (some 50) (some (48, false)) (.load false 1 (.tmp 49)),
          .op (some 51) (some (48, false)) (.bin .lss (.tmp 50) (.const (.int .i64 (-1000000000000000)))),
          .op (some 52) none (.pick (.tmp 48) (.const (.bool true)) (.tmp 51))]) (
       .cond (.tmp 52) (
        .seq (
         .reg [.op (some 4) none (.mv (.const (.bool false)))]) (
        .ret)) (
        .skip))))) (
     .reg [.op (some 19) none (.mv (.tmp 5)),
       .op (some 20) none (.bin .add (.tmp 19) (.const (.int .i64 (1)))),
       .op (some 5) none (.mv (.tmp 20))])))))) (
  .seq (
   .reg [.op (some 4) none (.mv (.const (.bool true)))]) (
  .ret))))
def k22 : Fun := ⟨53, [.tmp 4], k22c⟩
theorem k22_ok : compF Try.prog 22 = some k22 := by kernel_rfl
theorem k22_name : ((Try.prog.funcs[22]?).map fun fn => fn.name == "runtime.NumGoroutine") = some false := by kernel_rfl
/-- guerdon/guerdonsame.SmallConfig -/
def k23c : C :=
  .seq (
   .reg [.op (some 1) none (.box 9 (.tmp 0)),
     .op (some 2) none (.mv (.const (.bool false)))]) (
  .seq (
   .reg [.op (some 3) none (.faddr true 2 7 (.tmp 1)),
     .op (some 4) none (.faddr false 1 1 (.tmp 3)),
     .op (some 5) none (.load false 1 (.tmp 4)),
     .op (some 6) none (.len (.tmp 5)),
     .op (some 7) none (.bin .leq (.tmp 6) (.const (.int .i64 (70)))),
     .op (some 2) none (.mv (.tmp 7))]) (
  .ret))
def k23 : Fun := ⟨8, [.tmp 2], k23c⟩
theorem k23_ok : compF Try.prog 23 = some k23 := by kernel_rfl
theorem k23_name : ((Try.prog.funcs[23]?).map fun fn => fn.name == "runtime.NumGoroutine") = some false := by kernel_rfl
/-- guerdon/guerdonlaw40.awake -/
def k24c : C :=
  .seq (
   .reg [.op (some 0) none (.mv (.const (.bool false)))]) (
  .seq (
   .reg [.op (some 7) none (.build [(.v (.int .i64 (0))), (.v (.int .i64 (0))), (.v (.int .i64 (0))), (.v (.int .i64 (0))), (.v (.int .i64 (0))), (.v (.int .i64 (0))), (.v (.int .i64 (0))), (.v (.int .i64 (0))), (.v (.slice none 0 0))] [(3, 1, (.const (.int .i64 (100000))))]),
     .op (some 1) none (.alloc 9 (.agg [(.v (.int .i64 (0))), (.v (.int .i64 (0))), (.v (.int .i64 (0))), (.v (.int .i64 (0))), (.v (.int .i64 (0))), (.v (.int .i64 (0))), (.v (.int .i64 (0))), (.v (.int .i64 (0))), (.v (.slice none 0 0))])),
     .op none none (.store 9 (.tmp 1) (.tmp 7))]) (
  .seq (
   .reg [.op (some 8) none (.build [(.v (.int .i64 (0))), (.v (.int .i64 (0))), (.v (.int .i64 (0))), (.v (.int .i64 (0)))] [(0, 1, (.const (.int .i64 (3)))), (1, 1, (.const (.int .i64 (500)))), (2, 1, (.const (.int .i64 (200))))]),
     .op (some 9) none (.build [(.v (.int .i64 (0))), (.v (.int .i64 (0))), (.v (.int .i64 (0))), (.v (.int .i64 (0)))] [(0, 1, (.const (.int .i64 (4)))), (1, 1, (.const (.int .i64 (500))))]),
     .op (some 10) none (.bslice 4 2 (.agg [(.v (.int .i64 (0))), (.v (.int .i64 (0))), (.v (.int .i64 (0))), (.v (.int .i64 (0)))]) [(0, (.tmp 8)), (1, (.tmp 9))]),
     .op (some 2) none (.mv (.tmp 10))]) (
  .seq (
   .reg [.op (some 11) none (.mv (.tmp 2)),
     .op (some 12) none (.load true 9 (.tmp 1)),
     .call (some 13) none (.func 25) [(.tmp 11), (.const (.int .i64 (4))), (.tmp 12), (.const (.int .i64 (9))), (.const (.slice none 0 0))],
     .op (some 3) none (.mv (.tmp 13))]) (
  .seq (
   .reg [.op (some 15) none (.load true 9 (.tmp 1)),
     .call (some 16) none (.func 29) [(.const (.int .i64 (10000))), (.const (.int .i64 (30000))), (.tmp 15)],
     .op (some 14) none (.mv (.tmp 16)),
     .op (some 17) none (.extract (.tmp 14) 0),
     .op (some 18) none (.extract (.tmp 14) 1),
     .op (some 4) none (.mv (.tmp 17)),
     .op (some 5) none (.mv (.tmp 18))]) (
  .seq (
   .reg [.op (some 19) none (.build [(.v (.int .i64 (0))), (.v (.int .i64 (0))), (.v (.int .i64 (0))), (.v (.int .i64 (0)))] [(0, 1, (.const (.int .i64 (9)))), (1, 1, (.const (.int .i64 (3)))), (2, 1, (.const (.int .i64 (1)))), (3, 1, (.const (.int .i64 (300))))]),
     .op (some 20) none (.build [(.v (.int .i64 (0))), (.v (.int .i64 (0))), (.v (.int .i64 (0))), (.v (.int .i64 (0)))] [(0, 1, (.const (.int .i64 (9)))), (1, 1, (.const (.int .i64 (4)))), (2, 1, (.const (.int .i64 (1)))), (3, 1, (.const (.int .i64 (500))))]),
     .op (some 21) none (.bslice 4 2 (.agg [(.v (.int .i64 (0))), (.v (.int .i64 (0))), (.v (.int .i64 (0))), (.v (.int .i64 (0)))]) [(0, (.tmp 19)), (1, (.tmp 20))]),
     .op (some 6) none (.mv (.tmp 21))]) (
  .seq (
   .reg [.op (some 22) none (.mv (.tmp 3)),
     .op (some 23) none (.mv (.tmp 6)),
     .call (some 24) none (.func 16) [(.tmp 22), (.tmp 23)],
     .op (some 25) none (.mv (.tmp 24)),
     .op (some 26) (some (25, true)) (.mv (.tmp 3)),
     .call (some 27) (some (25, true)) (.func 27) [(.tmp 26)],
     .op (some 28) (some (25, true)) (.bin .eql (.tmp 27) (.const (.int .i64 (800)))),
     .op (some 29) none (.pick (.tmp 25) (.tmp 28) (.const (.bool false))),
     .op (some 30) none (.mv (.tmp 29)),
     .op (some 31) (some (30, true)) (.mv (.tmp 4)),
     .op (some 32) (some (30, true)) (.bin .eql (.tmp 31) (.const (.int .i64 (4)))),
     .op (some 33) none (.pick (.tmp 30) (.tmp 32) (.const (.bool false))),
     .op (some 34) none (.mv (.tmp 33)),
     .op (some 35) (some (34, true)) (.mv (.tmp 5)),
     .op (some 36) none (.pick (.tmp 34) (.tmp 35) (.const (.bool false))),
     .op (some 0) none (.mv (.tmp 36))]) (
  .ret)))))))
def k24 : Fun := ⟨37, [.tmp 0], k24c⟩
theorem k24_ok : compF Try.prog 24 = some k24 := by kernel_rfl
theorem k24_name : ((Try.prog.funcs[24]?).map fun fn => fn.name == "runtime.NumGoroutine") = some false := by kernel_rfl
/-- guerdon/payment.Pay -/
def k25c : C :=
  .seq (
   .reg [.op (some 7) none (.box 9 (.tmp 2)),
     .op (some 10) none (.mv (.const (.slice none 0 0)))]) (
  .seq (
   .reg [.op (some 11) none (.mv (.const (.slice none 0 0)))]) (
  .seq (
   .reg [.op (some 12) none (.mv (.const (.int .i64 (0))))]) (
  .seq (
   .seq (
    .reg [.op (some 16) none (.mv (.tmp 0)),
      .op (some 17) none (.len (.tmp 16)),
      .op (some 18) none (.mv (.const (.int .i64 (0))))]) (
   .block 0 (
    .loop (
     .seq (
      .reg [.op (some 19) none (.bin .lss (.tmp 18) (.tmp 17))]) (
     .seq (
      .cond (.tmp 19) (
       .skip) (
       .exit 0)) (
     .seq (
      .block 1 (
       .seq (
        .reg [.op (some 20) none (.iaddr 4 (.tmp 16) (.tmp 18)),
          .op (some 21) none (.load true 4 (.tmp 20)),
          .op (some 14) none (.alloc 4 (.agg [(.v (.int .i64 (0))), (.v (.int .i64 (0))), (.v (.int .i64 (0))), (.v (.int .i64 (0)))])),
          .op none none (.store 4 (.tmp 14) (.tmp 21))]) (
       .seq (
        .reg [.op (some 22) none (.load true 4 (.tmp 14)),
          .call (some 23) none (.func 33) [(.tmp 22)],
          .op (some 15) none (.mv (.tmp 23))]) (
       .seq (
        .seq (
         .reg [.op (some 24) none (.faddr false 1 0 (.tmp 14)),
           .op (some 25) none (.load false 1 (.tmp 24)),
           .op (some 26) none (.mv (.tmp 1)),
           .op (some 27) none (.bin .gtr (.tmp 25) (.tmp 26)),
           .op (some 28) none (.mv (.tmp 27)),
           .op (some 29) (some (28, false)) (.mv (.tmp 15)),
           .op (some 30) (some (28, false)) (.bin .leq (.tmp 29) (.const (.int .i64 (0)))),
           .op (some 31) none (.pick (.tmp 28) (.const (.bool true)) (.tmp 30))]) (
        .cond (.tmp 31) (
         .exit 1) (
         .skip))) (
       .seq (
        .reg [.op (some 32) none (.mv (.tmp 11)),
          .op (some 33) none (.mv (.tmp 3)),
          .op (some 34) none (.faddr false 1 0 (.tmp 14)),
          .op (some 35) none (.load false 1 (.tmp 34)),
          .op (some 36) none (.mv (.tmp 15)),
          .op (some 37) none (.build [(.v (.int .i64 (0))), (.v (.int .i64 (0))), (.v (.int .i64 (0))), (.v (.int .i64 (0)))] [(0, 1, (.tmp 33)), (1, 1, (.tmp 35)), (2, 1, (.const (.int .i64 (1)))), (3, 1, (.tmp 36))]),
          .op (some 38) none (.bslice 4 1 (.agg [(.v (.int .i64 (0))), (.v (.int .i64 (0))), (.v (.int .i64 (0))), (.v (.int .i64 (0)))]) [(0, (.tmp 37))]),
          .op (some 39) none (.append 4 32 (.tmp 32) (.tmp 38)),
          .op (some 11) none (.mv (.tmp 39))]) (
       .reg [.op (some 40) none (.mv (.tmp 12)),
         .op (some 41) none (.mv (.tmp 15)),
         .op (some 42) none (.bin .add (.tmp 40) (.tmp 41)),
         .op (some 12) none (.mv (.tmp 42))])))))) (
     .reg [.op (some 43) none (.bin .add (.tmp 18) (.const (.int .i64 (1)))),
       .op (some 18) none (.mv (.tmp 43))]))))))) (
  .seq (
   .reg [.op (some 44) none (.mv (.tmp 11)),
     .op (some 45) none (.mv (.tmp 0)),
     .op (some 46) none (.mv (.tmp 12)),
     .op (some 47) none (.load true 9 (.tmp 7)),
     .op (some 48) none (.mv (.tmp 3)),
     .op (some 49) none (.mv (.tmp 4)),
     .call (some 50) none (.func 17) [(.tmp 45), (.tmp 46), (.tmp 47), (.tmp 48), (.tmp 49)],
     .op (some 51) none (.append 4 32 (.tmp 44) (.tmp 50)),
     .op (some 10) none (.mv (.tmp 51))]) (
  .ret)))))
def k25 : Fun := ⟨52, [.tmp 10], k25c⟩
theorem k25_ok : compF Try.prog 25 = some k25 := by kernel_rfl
theorem k25_name : ((Try.prog.funcs[25]?).map fun fn => fn.name == "runtime.NumGoroutine") = some false := by kernel_rfl
/-- guerdon/guerdonref40.Pay -/
def k26c : C :=
  .seq (
   .reg [.op (some 7) none (.box 9 (.tmp 2)),
     .op (some 10) none (.mv (.const (.slice none 0 0)))]) (
  .seq (
   .reg [.op (some 11) none (.mv (.const (.slice none 0 0)))]) (
  .seq (
   .reg [.op (some 12) none (.mv (.const (.int .i64 (0))))]) (
  .seq (
   .seq (
    .reg [.op (some 13) none (.mv (.const (.int .i64 (0))))]) (
   .block 0 (
    .loop (
     .seq (
      .seq (
       .reg [.op (some 15) none (.mv (.tmp 13)),
         .op (some 16) none (.mv (.tmp 0)),
         .op (some 17) none (.len (.tmp 16)),
         .op (some 18) none (.bin .lss (.tmp 15) (.tmp 17))]) (
      .cond (.tmp 18) (
       .skip) (
       .exit 0))) (
     .seq (
      .block 1 (
       .seq (
        .reg [.op (some 21) none (.mv (.tmp 0)),
          .op (some 22) none (.mv (.tmp 13)),
          .op (some 23) none (.iaddr 4 (.tmp 21) (.tmp 22)),
          .op (some 24) none (.load true 4 (.tmp 23)),
          .call (some 25) none (.func 39) [(.tmp 24)],
          .op (some 14) none (.mv (.tmp 25))]) (
       .seq (
        .reg [.op (some 26) none (.mv (.tmp 0)),
          .op (some 27) none (.mv (.tmp 13)),
          .op (some 28) none (.iaddr 4 (.tmp 26) (.tmp 27)),
          .op (some 29) none (.faddr false 1 0 (.tmp 28)),
          .op (some 30) none (.load false 1 (.tmp 29)),
          .op (some 31) none (.mv (.tmp 1)),
          .op (some 32) none (.bin .leq (.tmp 30) (.tmp 31)),
          .op (some 33) none (.mv (.tmp 32)),
          .op (some 34) (some (33, true)) (.mv (.tmp 14)),
          .op (some 35) (some (33, true)) (.bin .gtr (.tmp 34) (.const (.int .i64 (0)))),
          .op (some 36) none (.pick (.tmp 33) (.tmp 35) (.const (.bool false)))]) (
       .cond (.tmp 36) (
        .seq (
         .reg [.op (some 37) none (.mv (.tmp 11)),
           .op (some 38) none (.mv (.tmp 3)),
           .op (some 39) none (.mv (.tmp 0)),
           .op (some 40) none (.mv (.tmp 13)),
           .op (some 41) none (.iaddr 4 (.tmp 39) (.tmp 40)),
           .op (some 42) none (.faddr false 1 0 (.tmp 41)),
           .op (some 43) none (.load false 1 (.tmp 42)),
           .op (some 44) none (.mv (.tmp 14)),
           .op (some 45) none (.build [(.v (.int .i64 (0))), (.v (.int .i64 (0))), (.v (.int .i64 (0))), (.v (.int .i64 (0)))] [(0, 1, (.tmp 38)), (1, 1, (.tmp 43)), (2, 1, (.const (.int .i64 (1)))), (3, 1, (.tmp 44))]),
           .op (some 46) none (.bslice 4 1 (.agg [(.v (.int .i64 (0))), (.v (.int .i64 (0))), (.v (.int .i64 (0))), (.v (.int .i64 (0)))]) [(0, (.tmp 45))]),
           .op (some 47) none (.append 4 32 (.tmp 37) (.tmp 46)),
           .op (some 11) none (.mv (.tmp 47))]) (
        .reg [.op (some 48) none (.mv (.tmp 12)),
          .op (some 49) none (.mv (.tmp 14)),
          .op (some 50) none (.bin .add (.tmp 48) (.tmp 49)),
          .op (some 12) none (.mv (.tmp 50))])) (
        .skip))))) (
     .reg [.op (some 19) none (.mv (.tmp 13)),
       .op (some 20) none (.bin .add (.tmp 19) (.const (.int .i64 (1)))),
       .op (some 13) none (.mv (.tmp 20))])))))) (
  .seq (
   .reg [.op (some 51) none (.mv (.tmp 11)),
     .op (some 52) none (.mv (.tmp 0)),
     .op (some 53) none (.mv (.tmp 12)),
     .op (some 54) none (.load true 9 (.tmp 7)),
     .op (some 55) none (.mv (.tmp 3)),
     .op (some 56) none (.mv (.tmp 4)),
     .call (some 57) none (.func 18) [(.tmp 52), (.tmp 53), (.tmp 54), (.tmp 55), (.tmp 56)],
     .op (some 58) none (.append 4 32 (.tmp 51) (.tmp 57)),
     .op (some 11) none (.mv (.tmp 58))]) (
  .seq (
   .reg [.op (some 59) none (.mv (.tmp 11)),
     .op (some 10) none (.mv (.tmp 59))]) (
  .ret))))))
def k26 : Fun := ⟨60, [.tmp 10], k26c⟩
theorem k26_ok : compF Try.prog 26 = some k26 := by kernel_rfl
theorem k26_name : ((Try.prog.funcs[26]?).map fun fn => fn.name == "runtime.NumGoroutine") = some false := by kernel_rfl
/-- guerdon/payment.Cash -/
def k27c : C :=
  .seq (
   .reg [.op (some 2) none (.mv (.const (.int .i64 (0))))]) (
  .seq (
   .reg [.op (some 3) none (.mv (.const (.int .i64 (0))))]) (
  .seq (
   .seq (
    .reg [.op (some 6) none (.mv (.tmp 0)),
      .op (some 7) none (.len (.tmp 6)),
      .op (some 8) none (.mv (.const (.int .i64 (0))))]) (
   .block 0 (
    .loop (
     .seq (
      .reg [.op (some 9) none (.bin .lss (.tmp 8) (.tmp 7))]) (
     .seq (
      .cond (.tmp 9) (
       .skip) (
       .exit 0)) (
     .seq (
      .block 1 (
       .seq (
        .reg [.op (some 10) none (.iaddr 4 (.tmp 6) (.tmp 8)),
          .op (some 11) none (.load true 4 (.tmp 10)),
          .op (some 5) none (.alloc 4 (.agg [(.v (.int .i64 (0))), (.v (.int .i64 (0))), (.v (.int .i64 (0))), (.v (.int .i64 (0)))])),
          .op none none (.store 4 (.tmp 5) (.tmp 11))]) (
       .seq (
        .reg [.op (some 12) none (.faddr false 1 2 (.tmp 5)),
          .op (some 13) none (.load false 1 (.tmp 12))]) (
       .block 2 (
        .seq (
         .reg [.op (some 15) none (.bin .eql (.tmp 13) (.const (.int .i64 (1)))),
           .op (some 14) none (.mv (.tmp 15))]) (
        .cond (.tmp 14) (
         .reg [.op (some 16) none (.mv (.tmp 3)),
           .op (some 17) none (.faddr false 1 3 (.tmp 5)),
           .op (some 18) none (.load false 1 (.tmp 17)),
           .op (some 19) none (.bin .add (.tmp 16) (.tmp 18)),
           .op (some 3) none (.mv (.tmp 19))]) (
         .seq (
          .reg [.op (some 21) none (.bin .eql (.tmp 13) (.const (.int .i64 (2)))),
            .op (some 20) none (.mv (.tmp 21))]) (
         .cond (.tmp 20) (
          .reg [.op (some 22) none (.mv (.tmp 3)),
            .op (some 23) none (.faddr false 1 3 (.tmp 5)),
            .op (some 24) none (.load false 1 (.tmp 23)),
            .op (some 25) none (.bin .sub (.tmp 22) (.tmp 24)),
            .op (some 3) none (.mv (.tmp 25))]) (
          .skip))))))))) (
     .reg [.op (some 26) none (.bin .add (.tmp 8) (.const (.int .i64 (1)))),
       .op (some 8) none (.mv (.tmp 26))]))))))) (
  .seq (
   .reg [.op (some 27) none (.mv (.tmp 3)),
     .op (some 2) none (.mv (.tmp 27))]) (
  .ret))))
def k27 : Fun := ⟨28, [.tmp 2], k27c⟩
theorem k27_ok : compF Try.prog 27 = some k27 := by kernel_rfl
theorem k27_name : ((Try.prog.funcs[27]?).map fun fn => fn.name == "runtime.NumGoroutine") = some false := by kernel_rfl
/-- guerdon/guerdonref40.Cash -/
def k28c : C :=
  .seq (
   .reg [.op (some 2) none (.mv (.const (.int .i64 (0))))]) (
  .seq (
   .reg [.op (some 3) none (.mv (.const (.int .i64 (0))))]) (
  .seq (
   .seq (
    .reg [.op (some 4) none (.mv (.const (.int .i64 (0))))]) (
   .block 0 (
    .loop (
     .seq (
      .seq (
       .reg [.op (some 5) none (.mv (.tmp 4)),
         .op (some 6) none (.mv (.tmp 0)),
         .op (some 7) none (.len (.tmp 6)),
         .op (some 8) none (.bin .lss (.tmp 5) (.tmp 7))]) (
      .cond (.tmp 8) (
       .skip) (
       .exit 0))) (
     .seq (
      .block 1 (
       .seq (
        .seq (
         .reg [.op (some 11) none (.mv (.tmp 0)),
           .op (some 12) none (.mv (.tmp 4)),
           .op (some 13) none (.iaddr 4 (.tmp 11) (.tmp 12)),
           .op (some 14) none (.faddr false 1 2 (.tmp 13)),
           .op (some 15) none (.load false 1 (.tmp 14)),
           .op (some 16) none (.bin .eql (.tmp 15) (.const (.int .i64 (1))))]) (
        .cond (.tmp 16) (
         .reg [.op (some 17) none (.mv (.tmp 3)),
           .op (some 18) none (.mv (.tmp 0)),
           .op (some 19) none (.mv (.tmp 4)),
           .op (some 20) none (.iaddr 4 (.tmp 18) (.tmp 19)),
           .op (some 21) none (.faddr false 1 3 (.tmp 20)),
           .op (some 22) none (.load false 1 (.tmp 21)),
           .op (some 23) none (.bin .add (.tmp 17) (.tmp 22)),
           .op (some 3) none (.mv (.tmp 23))]) (
         .skip))) (
       .seq (
        .reg [.op (some 24) none (.mv (.tmp 0)),
          .op (some 25) none (.mv (.tmp 4)),
          .op (some 26) none (.iaddr 4 (.tmp 24) (.tmp 25)),
          .op (some 27) none (.faddr false 1 2 (.tmp 26)),
          .op (some 28) none (.load false 1 (.tmp 27)),
          .op (some 29) none (.bin .eql (.tmp 28) (.const (.int .i64 (2))))]) (
       .cond (.tmp 29) (
        .reg [.op (some 30) none (.mv (.tmp 3)),
          .op (some 31) none (.mv (.tmp 0)),
          .op (some 32) none (.mv (.tmp 4)),
          .op (some 33) none (.iaddr 4 (.tmp 31) (.tmp 32)),
          .op (some 34) none (.faddr false 1 3 (.tmp 33)),
          .op (some 35) none (.load false 1 (.tmp 34)),
          .op (some 36) none (.bin .sub (.tmp 30) (.tmp 35)),
          .op (some 3) none (.mv (.tmp 36))]) (
        .skip))))) (
     .reg [.op (some 9) none (.mv (.tmp 4)),
       .op (some 10) none (.bin .add (.tmp 9) (.const (.int .i64 (1)))),
       .op (some 4) none (.mv (.tmp 10))])))))) (
  .seq (
   .reg [.op (some 37) none (.mv (.tmp 3)),
     .op (some 2) none (.mv (.tmp 37))]) (
  .ret))))
def k28 : Fun := ⟨38, [.tmp 2], k28c⟩
theorem k28_ok : compF Try.prog 28 = some k28 := by kernel_rfl
theorem k28_name : ((Try.prog.funcs[28]?).map fun fn => fn.name == "runtime.NumGoroutine") = some false := by kernel_rfl
/-- guerdon/payment.PaymentsToClear -/
def k29c : C :=
  .seq (
   .reg [.op (some 5) none (.box 9 (.tmp 2)),
     .op (some 6) none (.mv (.const (.int .i64 (0)))),
     .op (some 7) none (.mv (.const (.bool false)))]) (
  .seq (
   .seq (
    .reg [.op (some 9) none (.mv (.tmp 0)),
      .op (some 10) none (.bin .lss (.tmp 9) (.const (.int .i64 (1))))]) (
   .cond (.tmp 10) (
    .seq (
     .reg [.op (some 6) none (.mv (.const (.int .i64 (0)))),
       .op (some 7) none (.mv (.const (.bool true)))]) (
    .ret)) (
    .skip))) (
  .seq (
   .reg [.op (some 11) none (.mv (.tmp 1)),
     .op (some 12) none (.load true 9 (.tmp 5)),
     .call (some 13) none (.func 12) [(.tmp 11), (.tmp 12)],
     .op (some 8) none (.mv (.tmp 13))]) (
  .seq (
   .seq (
    .reg [.op (some 14) none (.mv (.tmp 8)),
      .op (some 15) none (.bin .lss (.tmp 14) (.const (.int .i64 (1))))]) (
   .cond (.tmp 15) (
    .seq (
     .reg [.op (some 6) none (.mv (.const (.int .i64 (0)))),
       .op (some 7) none (.mv (.const (.bool false)))]) (
    .ret)) (
    .skip))) (
  .seq (
   .reg [.op (some 16) none (.mv (.tmp 0)),
     .op (some 17) none (.bin .sub (.tmp 16) (.const (.int .i64 (1)))),
     .op (some 18) none (.mv (.tmp 8)),
     .op (some 19) none (.bin .quo (.tmp 17) (.tmp 18)),
     .op (some 20) none (.bin .add (.tmp 19) (.const (.int .i64 (1)))),
     .op (some 6) none (.mv (.tmp 20)),
     .op (some 7) none (.mv (.const (.bool true)))]) (
  .ret)))))
def k29 : Fun := ⟨21, [.tmp 6, .tmp 7], k29c⟩
theorem k29_ok : compF Try.prog 29 = some k29 := by kernel_rfl
theorem k29_name : ((Try.prog.funcs[29]?).map fun fn => fn.name == "runtime.NumGoroutine") = some false := by kernel_rfl
/-- guerdon/guerdonref40.PaymentsToClear -/
def k30c : C :=
  .seq (
   .reg [.op (some 5) none (.box 9 (.tmp 2)),
     .op (some 6) none (.mv (.const (.int .i64 (0)))),
     .op (some 7) none (.mv (.const (.bool false)))]) (
  .seq (
   .seq (
    .reg [.op (some 10) none (.mv (.tmp 0)),
      .op (some 11) none (.bin .lss (.tmp 10) (.const (.int .i64 (1))))]) (
   .cond (.tmp 11) (
    .seq (
     .reg [.op (some 6) none (.mv (.const (.int .i64 (0)))),
       .op (some 7) none (.mv (.const (.bool true)))]) (
    .ret)) (
    .skip))) (
  .seq (
   .reg [.op (some 12) none (.mv (.tmp 1)),
     .op (some 13) none (.load true 9 (.tmp 5)),
     .call (some 14) none (.func 13) [(.tmp 12), (.tmp 13)],
     .op (some 8) none (.mv (.tmp 14))]) (
  .seq (
   .seq (
    .reg [.op (some 15) none (.mv (.tmp 8)),
      .op (some 16) none (.bin .eql (.tmp 15) (.const (.int .i64 (0))))]) (
   .cond (.tmp 16) (
    .seq (
     .reg [.op (some 6) none (.mv (.const (.int .i64 (0)))),
       .op (some 7) none (.mv (.const (.bool false)))]) (
    .ret)) (
    .skip))) (
  .seq (
   .reg [.op (some 17) none (.mv (.tmp 0)),
     .op (some 18) none (.mv (.tmp 8)),
     .op (some 19) none (.bin .quo (.tmp 17) (.tmp 18)),
     .op (some 9) none (.mv (.tmp 19))]) (
  .seq (
   .seq (
    .reg [.op (some 20) none (.mv (.tmp 0)),
      .op (some 21) none (.mv (.tmp 8)),
      .op (some 22) none (.bin .rem (.tmp 20) (.tmp 21)),
      .op (some 23) none (.bin .neq (.tmp 22) (.const (.int .i64 (0))))]) (
   .cond (.tmp 23) (
    .reg [.op (some 24) none (.mv (.tmp 9)),
      .op (some 25) none (.bin .add (.tmp 24) (.const (.int .i64 (1)))),
      .op (some 9) none (.mv (.tmp 25))]) (
    .skip))) (
  .seq (
   .reg [.op (some 26) none (.mv (.tmp 9)),
     .op (some 6) none (.mv (.tmp 26)),
     .op (some 7) none (.mv (.const (.bool true)))]) (
  .ret)))))))
def k30 : Fun := ⟨27, [.tmp 6, .tmp 7], k30c⟩
theorem k30_ok : compF Try.prog 30 = some k30 := by kernel_rfl
theorem k30_name : ((Try.prog.funcs[30]?).map fun fn => fn.name == "runtime.NumGoroutine") = some false := by kernel_rfl
/-- guerdon/guerdonref40.Clean -/
def k31c : C :=
  .seq (
   .reg [.op (some 2) none (.mv (.const (.bool false)))]) (
  .seq (
   .seq (
    .reg [.op (some 3) none (.mv (.const (.int .i64 (0))))]) (
   .block 0 (
    .loop (
     .seq (
      .seq (
       .reg [.op (some 5) none (.mv (.tmp 3)),
         .op (some 6) none (.mv (.tmp 0)),
         .op (some 7) none (.len (.tmp 6)),
         .op (some 8) none (.bin .lss (.tmp 5) (.tmp 7))]) (
      .cond (.tmp 8) (
       .skip) (
       .exit 0))) (
     .seq (
      .block 1 (
       .seq (
        .seq (
         .reg [.op (some 11) none (.mv (.tmp 0)),
           .op (some 12) none (.mv (.tmp 3)),
           .op (some 13) none (.iaddr 4 (.tmp 11) (.tmp 12)),
           .op (some 14) none (.faddr false 1 1 (.tmp 13)),
           .op (some 15) none (.load false 1 (.tmp 14)),
           .op (some 16) none (.bin .lss (.tmp 15) (.const (.int .i64 (0)))),
           .op (some 17) none (.mv (.tmp 16)),
           .op (some 18) (some (17, false)) (.mv (.tmp 0)),
           .op (some 19) (some (17, false)) (.mv (.tmp 3)),
           .op (some 20) (some (17, false)) (.iaddr 4 (.tmp 18) (.tmp 19)),
           .op (some 21) (some (17, false)) (.faddr false 1 2 (.tmp 20)),
           .op (some 22) (some (17, false)) (.load false 1 (.tmp 21)),
           .op (some 23) (some (17, false)) (.bin .lss (.tmp 22) (.const (.int .i64 (0)))),
           .op (some 24) none (.pick (.tmp 17) (.const (.bool true)) (.tmp 23)),
           .op (some 25) none (.mv (.tmp 24)),
           .op (some 26) (some (25, false)) (.mv (.tmp 0)),
           .op (some 27) (some (25, false)) (.mv (.tmp 3)),
           .op (some 28) (some (25, false)) (.iaddr 4 (.tmp 26) (.tmp 27)),
           .op (some 29) (some (25, false)) (.faddr false 1 3 (.tmp 28)),
           .op (some 30) (some (25, false)) (.load false 1 (.tmp 29)),
           .op (some 31) (some (25, false)) (.bin .lss (.tmp 30) (.const (.int .i64 (0)))),
           .op (some 32) none (.pick (.tmp 25) (.const (.bool true)) (.tmp 31))]) (
        .cond (.tmp 32) (
         .seq (
          .reg [.op (some 2) none (.mv (.const (.bool false)))]) (
         .ret)) (
         .skip))) (
       .seq (
        .reg [.op (some 4) none (.mv (.const (.int .i64 (0))))]) (
       .block 2 (
        .loop (
         .seq (
          .seq (
           .reg [.op (some 33) none (.mv (.tmp 4)),
             .op (some 34) none (.mv (.tmp 3)),
             .op (some 35) none (.bin .lss (.tmp 33) (.tmp 34))]) (
          .cond (.tmp 35) (
           .skip) (
           .exit 2))) (
         .seq (
          .block 3 (
           .seq (
            .draw 10 [.op (some 38) none (.mv (.tmp 0)),
              .op (some 39) none (.mv (.tmp 4)),
              .op (some 40) none (.iaddr 4 (.tmp 38) (.tmp 39)),
              .op (some 41) none (.faddr false 1 0 (.tmp 40)),
              .op (some 42) none (.load false 1 (.tmp 41)),
              .op (some 43) none (.mv (.tmp 0)),
              .op (some 44) none (.mv (.tmp 3)),
              .op (some 45) none (.iaddr 4 (.tmp 43) (.tmp 44)),
              .op (some 46) none (.faddr false 1 0 (.tmp 45)),
              .op (some 47) none (.load false 1 (.tmp 46)),
              .op (some 48) none (.bin .eql (.tmp 42) (.tmp 47))]) (
           .cond (.tmp 48) (
            .seq (
             .reg [.op (some 2) none (.mv (.const (.bool false)))]) (
            .ret)) (
            .skip)))) (
         .reg [.op (some 36) none (.mv (.tmp 4)),
           .op (some 37) none (.bin .add (.tmp 36) (.const (.int .i64 (1)))),
           .op (some 4) none (.mv (.tmp 37))])))))))) (
     .reg [.op (some 9) none (.mv (.tmp 3)),
       .op (some 10) none (.bin .add (.tmp 9) (.const (.int .i64 (1)))),
       .op (some 3) none (.mv (.tmp 10))])))))) (
  .seq (
   .reg [.op (some 2) none (.mv (.const (.bool true)))]) (
  .ret)))
def k31 : Fun := ⟨49, [.tmp 2], k31c⟩
theorem k31_ok : compF Try.prog 31 = some k31 := by kernel_rfl
theorem k31_name : ((Try.prog.funcs[31]?).map fun fn => fn.name == "runtime.NumGoroutine") = some false := by kernel_rfl
/-- guerdon/guerdonlaw40.received -/
def k32c : C :=
  .seq (
   .reg [.op (some 2) none (.box 4 (.tmp 0)),
     .op (some 4) none (.mv (.const (.int .i64 (0))))]) (
  .seq (
   .reg [.op (some 7) none (.faddr false 1 2 (.tmp 2)),
     .op (some 8) none (.load false 1 (.tmp 7)),
     .op (some 5) none (.mv (.tmp 8))]) (
  .seq (
   .seq (
    .reg [.op (some 6) none (.mv (.const (.int .i64 (0))))]) (
   .block 0 (
    .loop (
     .seq (
      .seq (
       .reg [.op (some 9) none (.mv (.tmp 6)),
         .op (some 10) none (.mv (.tmp 1)),
         .op (some 11) none (.len (.tmp 10)),
         .op (some 12) none (.bin .lss (.tmp 9) (.tmp 11))]) (
      .cond (.tmp 12) (
       .skip) (
       .exit 0))) (
     .seq (
      .block 1 (
       .seq (
        .seq (
         .draw 11 [.op (some 15) none (.mv (.tmp 1)),
           .op (some 16) none (.mv (.tmp 6)),
           .op (some 17) none (.iaddr 4 (.tmp 15) (.tmp 16)),
           .op (some 18) none (.faddr false 1 1 (.tmp 17)),
           .op (some 19) none (.load false 1 (.tmp 18)),
           .op (some 20) none (.faddr false 1 0 (.tmp 2)),
           .op (some 21) none (.load false 1 (.tmp 20)),
           .op (some 22) none (.bin .eql (.tmp 19) (.tmp 21)),
           .op (some 23) none (.mv (.tmp 22)),
           .op (some 24) (some (23, true)) (.mv (.tmp 1)),
           .op (some 25) (some (23, true)) (.mv (.tmp 6)),
           .op (some 26) (some (23, true)) (.iaddr 4 (.tmp 24) (.tmp 25)),
           .op (some 27) (some (23, true)) (.faddr false 1 2 (.tmp 26)),
           .op (some 28) (some (23, true)) (.load false 1 (.tmp 27)),
           .op (some 29) (some (23, true)) (.bin .eql (.tmp 28) (.const (.int .i64 (1)))),
           .op (some 30) none (.pick (.tmp 23) (.tmp 29) (.const (.bool false)))]) (
        .cond (.tmp 30) (
         .reg [.op (some 31) none (.mv (.tmp 5)),
           .op (some 32) none (.mv (.tmp 1)),
           .op (some 33) none (.mv (.tmp 6)),
           .op (some 34) none (.iaddr 4 (.tmp 32) (.tmp 33)),
           .op (some 35) none (.faddr false 1 3 (.tmp 34)),
           .op (some 36) none (.load false 1 (.tmp 35)),
           .op (some 37) none (.bin .add (.tmp 31) (.tmp 36)),
           .op (some 5) none (.mv (.tmp 37))]) (
         .skip))) (
       .seq (
        .draw 11 [.op (some 38) none (.mv (.tmp 1)),
          .op (some 39) none (.mv (.tmp 6)),
          .op (some 40) none (.iaddr 4 (.tmp 38) (.tmp 39)),
          .op (some 41) none (.faddr false 1 1 (.tmp 40)),
          .op (some 42) none (.load false 1 (.tmp 41)),
          .op (some 43) none (.faddr false 1 0 (.tmp 2)),
          .op (some 44) none (.load false 1 (.tmp 43)),
          .op (some 45) none (.bin .eql (.tmp 42) (.tmp 44)),
          .op (some 46) none (.mv (.tmp 45)),
          .op (some 47) (some (46, true)) (.mv (.tmp 1)),
          .op (some 48) (some (46, true)) (.mv (.tmp 6)),
          .op (some 49) (some (46, true)) (.iaddr 4 (.tmp 47) (.tmp 48)),
          .op (some 50) (some (46, true)) (.faddr false 1 2 (.tmp 49)),
          .op (some 51) (some (46, true)) (.load false 1 (.tmp 50)),
          .op (some 52) (some (46, true)) (.bin .eql (.tmp 51) (.const (.int .i64 (2)))),
          .op (some 53) none (.pick (.tmp 46) (.tmp 52) (.const (.bool false)))]) (
       .cond (.tmp 53) (
        .reg [.op (some 54) none (.mv (.tmp 5)),
          .op (some 55) none (.mv (.tmp 1)),
          .op (some 56) none (.mv (.tmp 6)),
          .op (some 57) none (.iaddr 4 (.tmp 55) (.tmp 56)),
          .op (some 58) none (.faddr false 1 3 (.tmp 57)),
          .op (some 59) none (.load false 1 (.tmp 58)),
          .op (some 60) none (.bin .sub (.tmp 54) (.tmp 59)),
          .op (some 5) none (.mv (.tmp 60))]) (
        .skip))))) (
     .reg [.op (some 13) none (.mv (.tmp 6)),
       .op (some 14) none (.bin .add (.tmp 13) (.const (.int .i64 (1)))),
       .op (some 6) none (.mv (.tmp 14))])))))) (
  .seq (
   .reg [.op (some 61) none (.mv (.tmp 5)),
     .op (some 4) none (.mv (.tmp 61))]) (
  .ret))))
def k32 : Fun := ⟨62, [.tmp 4], k32c⟩
theorem k32_ok : compF Try.prog 32 = some k32 := by kernel_rfl
theorem k32_name : ((Try.prog.funcs[32]?).map fun fn => fn.name == "runtime.NumGoroutine") = some false := by kernel_rfl
/-- guerdon/balance.Arrears -/
def k33c : C :=
  .seq (
   .reg [.op (some 1) none (.box 4 (.tmp 0)),
     .op (some 2) none (.mv (.const (.int .i64 (0))))]) (
  .seq (
   .reg [.op (some 3) none (.faddr false 1 1 (.tmp 1)),
     .op (some 4) none (.load false 1 (.tmp 3)),
     .op (some 5) none (.faddr false 1 2 (.tmp 1)),
     .op (some 6) none (.load false 1 (.tmp 5)),
     .op (some 7) none (.bin .sub (.tmp 4) (.tmp 6)),
     .op (some 8) none (.mm true [(.tmp 7), (.const (.int .i64 (0)))]),
     .op (some 2) none (.mv (.tmp 8))]) (
  .ret))
def k33 : Fun := ⟨9, [.tmp 2], k33c⟩
theorem k33_ok : compF Try.prog 33 = some k33 := by kernel_rfl
theorem k33_name : ((Try.prog.funcs[33]?).map fun fn => fn.name == "runtime.NumGoroutine") = some false := by kernel_rfl
/-- guerdon/rate.Apply -/
def k34c : C :=
  .seq (
   .reg [.op (some 6) none (.mv (.const (.int .i64 (0)))),
     .op (some 7) none (.mv (.const (.int .i64 (0))))]) (
  .seq (
   .reg [.op (some 8) none (.mv (.tmp 0)),
     .op (some 9) none (.mv (.tmp 1)),
     .op (some 10) none (.mv (.tmp 2)),
     .call (some 11) none (.func 40) [(.tmp 8), (.tmp 9), (.const (.int .i64 (1000000))), (.tmp 10)],
     .op (some 12) none (.extract (.tmp 11) 0),
     .op (some 13) none (.extract (.tmp 11) 1),
     .op (some 6) none (.mv (.tmp 12)),
     .op (some 7) none (.mv (.tmp 13))]) (
  .ret))
def k34 : Fun := ⟨14, [.tmp 6, .tmp 7], k34c⟩
theorem k34_ok : compF Try.prog 34 = some k34 := by kernel_rfl
theorem k34_name : ((Try.prog.funcs[34]?).map fun fn => fn.name == "runtime.NumGoroutine") = some false := by kernel_rfl
/-- guerdon/guerdonref03.Apply -/
def k35c : C :=
  .seq (
   .reg [.op (some 6) none (.mv (.const (.int .i64 (0)))),
     .op (some 7) none (.mv (.const (.int .i64 (0))))]) (
  .seq (
   .reg [.op (some 8) none (.mv (.tmp 0)),
     .op (some 9) none (.mv (.tmp 1)),
     .op (some 10) none (.mv (.tmp 2)),
     .call (some 11) none (.func 41) [(.tmp 8), (.tmp 9), (.const (.int .i64 (1000000))), (.tmp 10)],
     .op (some 12) none (.extract (.tmp 11) 0),
     .op (some 13) none (.extract (.tmp 11) 1),
     .op (some 6) none (.mv (.tmp 12)),
     .op (some 7) none (.mv (.tmp 13))]) (
  .ret))
def k35 : Fun := ⟨14, [.tmp 6, .tmp 7], k35c⟩
theorem k35_ok : compF Try.prog 35 = some k35 := by kernel_rfl
theorem k35_name : ((Try.prog.funcs[35]?).map fun fn => fn.name == "runtime.NumGoroutine") = some false := by kernel_rfl
/-- guerdon/guerdonref38.Within -/
def k36c : C :=
  .seq (
   .reg [.op (some 2) none (.box 4 (.tmp 0)),
     .op (some 4) none (.mv (.const (.bool false)))]) (
  .seq (
   .reg [.op (some 5) none (.faddr false 1 1 (.tmp 2)),
     .op (some 6) none (.load false 1 (.tmp 5)),
     .op (some 7) none (.mv (.tmp 1)),
     .op (some 8) none (.un .neg (.tmp 7)),
     .op (some 9) none (.bin .geq (.tmp 6) (.tmp 8)),
     .op (some 10) none (.mv (.tmp 9)),
     .op (some 11) (some (10, true)) (.faddr false 1 1 (.tmp 2)),
     .op (some 12) (some (10, true)) (.load false 1 (.tmp 11)),
     .op (some 13) (some (10, true)) (.mv (.tmp 1)),
     .op (some 14) (some (10, true)) (.bin .leq (.tmp 12) (.tmp 13)),
     .op (some 15) none (.pick (.tmp 10) (.tmp 14) (.const (.bool false))),
     .op (some 16) none (.mv (.tmp 15)),
     .op (some 17) (some (16, true)) (.faddr false 1 2 (.tmp 2)),
     .op (some 18) (some (16, true)) (.load false 1 (.tmp 17)),
     .op (some 19) (some (16, true)) (.mv (.tmp 1)),
     .op (some 20) (some (16, true)) (.un .neg (.tmp 19)),
     .op (some 21) (some (16, true)) (.bin .geq (.tmp 18) (.tmp 20)),
     .op (some 22) none (.pick (.tmp 16) (.tmp 21) (.const (.bool false))),
     .op (some 23) none (.mv (.tmp 22)),
     .op (some 24) (some (23, true)) (.faddr false 1 2 (.tmp 2)),
     .op (some 25) (some (23, true)) (.load false 1 (.tmp 24)),
     .op (some 26) (some (23, true)) (.mv (.tmp 1)),
     .op (some 27) (some (23, true)) (.bin .leq (.tmp 25) (.tmp 26)),
     .op (some 28) none (.pick (.tmp 23) (.tmp 27) (.const (.bool false))),
     .op (some 29) none (.mv (.tmp 28)),
     .op (some 30) (some (29, true)) (.faddr false 1 3 (.tmp 2)),
     .op (some 31) (some (29, true)) (.load false 1 (.tmp 30)),
     .op (some 32) (some (29, true)) (.mv (.tmp 1)),
     .op (some 33) (some (29, true)) (.un .neg (.tmp 32)),
     .op (some 34) (some (29, true)) (.bin .geq (.tmp 31) (.tmp 33)),
     .op (some 35) none (.pick (.tmp 29) (.tmp 34) (.const (.bool false))),
     .op (some 36) none (.mv (.tmp 35)),
     .op (some 37) (some (36, true)) (.faddr false 1 3 (.tmp 2)),
     .op (some 38) (some (36, true)) (.load false 1 (.tmp 37)),
     .op (some 39) (some (36, true)) (.mv (.tmp 1)),
     .op (some 40) (some (36, true)) (.bin .leq (.tmp 38) (.tmp 39)),
     .op (some 41) none (.pick (.tmp 36) (.tmp 40) (.const (.bool false))),
     .op (some 4) none (.mv (.tmp 41))]) (
  .ret))
def k36 : Fun := ⟨42, [.tmp 4], k36c⟩
theorem k36_ok : compF Try.prog 36 = some k36 := by kernel_rfl
theorem k36_name : ((Try.prog.funcs[36]?).map fun fn => fn.name == "runtime.NumGoroutine") = some false := by kernel_rfl
/-- guerdon/recovery.distribute -/
def k37c : C :=
  .seq (
   .reg [.op (some 10) none (.mv (.const (.slice none 0 0))),
     .op (some 11) none (.mv (.const (.int .i64 (0))))]) (
  .seq (
   .reg [.op (some 12) none (.mv (.const (.slice none 0 0)))]) (
  .seq (
   .seq (
    .reg [.op (some 17) none (.mv (.tmp 0)),
      .op (some 18) none (.mv (.tmp 0)),
      .op (some 19) none (.len (.tmp 18)),
      .op (some 20) none (.mv (.tmp 0)),
      .op (some 21) none (.len (.tmp 20)),
      .op (some 22) none (.slice 4 (.tmp 17) (some (.const (.int .i64 (0)))) (some (.tmp 19)) (some (.tmp 21))),
      .op (some 13) none (.mv (.tmp 22))]) (
   .block 0 (
    .loop (
     .seq (
      .seq (
       .reg [.op (some 23) none (.mv (.tmp 13)),
         .op (some 24) none (.len (.tmp 23)),
         .op (some 25) none (.bin .gtr (.tmp 24) (.const (.int .i64 (0)))),
         .op (some 26) none (.mv (.tmp 25)),
         .op (some 27) (some (26, true)) (.mv (.tmp 1)),
         .op (some 28) (some (26, true)) (.bin .gtr (.tmp 27) (.const (.int .i64 (0)))),
         .op (some 29) none (.pick (.tmp 26) (.tmp 28) (.const (.bool false)))]) (
      .cond (.tmp 29) (
       .skip) (
       .exit 0))) (
     .seq (
      .block 1 (
       .seq (
        .reg [.op (some 36) none (.mv (.tmp 13)),
          .op (some 37) none (.iaddr 4 (.tmp 36) (.const (.int .i64 (0)))),
          .op (some 38) none (.load true 4 (.tmp 37)),
          .op (some 14) none (.alloc 4 (.agg [(.v (.int .i64 (0))), (.v (.int .i64 (0))), (.v (.int .i64 (0))), (.v (.int .i64 (0)))])),
          .op none none (.store 4 (.tmp 14) (.tmp 38))]) (
       .seq (
        .reg [.op (some 39) none (.load true 4 (.tmp 14)),
          .call (some 40) none (.func 42) [(.tmp 39)],
          .op (some 15) none (.mv (.tmp 40))]) (
       .seq (
        .seq (
         .reg [.op (some 41) none (.mv (.tmp 15)),
           .op (some 42) none (.bin .leq (.tmp 41) (.const (.int .i64 (0)))),
           .op (some 43) none (.mv (.tmp 42)),
           .op (some 44) (some (43, false)) (.mv (.tmp 4)),
           .op (some 45) (some (43, false)) (.faddr false 1 0 (.tmp 14)),
           .op (some 46) (some (43, false)) (.load false 1 (.tmp 45)),
           .op (some 47) (some (43, false)) (.mlook 0 false (.v (.bool false)) (.tmp 44) (.tmp 46)),
           .op (some 48) none (.pick (.tmp 43) (.const (.bool true)) (.tmp 47))]) (
        .cond (.tmp 48) (
         .exit 1) (
         .skip))) (
       .seq (
        .reg [.op (some 49) none (.mv (.tmp 15)),
          .op (some 50) none (.mv (.tmp 1)),
          .op (some 51) none (.mm false [(.tmp 49), (.tmp 50)]),
          .op (some 16) none (.mv (.tmp 51))]) (
       .seq (
        .reg [.op (some 52) none (.mv (.tmp 12)),
          .op (some 53) none (.mv (.tmp 3)),
          .op (some 54) none (.faddr false 1 0 (.tmp 14)),
          .op (some 55) none (.load false 1 (.tmp 54)),
          .op (some 56) none (.mv (.tmp 2)),
          .op (some 57) none (.mv (.tmp 16)),
          .op (some 58) none (.build [(.v (.int .i64 (0))), (.v (.int .i64 (0))), (.v (.int .i64 (0))), (.v (.int .i64 (0)))] [(0, 1, (.tmp 53)), (1, 1, (.tmp 55)), (2, 1, (.tmp 56)), (3, 1, (.tmp 57))]),
          .op (some 59) none (.bslice 4 1 (.agg [(.v (.int .i64 (0))), (.v (.int .i64 (0))), (.v (.int .i64 (0))), (.v (.int .i64 (0)))]) [(0, (.tmp 58))]),
          .op (some 60) none (.append 4 32 (.tmp 52) (.tmp 59)),
          .op (some 12) none (.mv (.tmp 60))]) (
       .reg [.op (some 61) none (.mv (.tmp 1)),
         .op (some 62) none (.mv (.tmp 16)),
         .op (some 63) none (.bin .sub (.tmp 61) (.tmp 62)),
         .op (some 1) none (.mv (.tmp 63))]))))))) (
     .reg [.op (some 30) none (.mv (.tmp 13)),
       .op (some 31) none (.mv (.tmp 13)),
       .op (some 32) none (.len (.tmp 31)),
       .op (some 33) none (.mv (.tmp 13)),
       .op (some 34) none (.len (.tmp 33)),
       .op (some 35) none (.slice 4 (.tmp 30) (some (.const (.int .i64 (1)))) (some (.tmp 32)) (some (.tmp 34))),
       .op (some 13) none (.mv (.tmp 35))])))))) (
  .seq (
   .reg [.op (some 64) none (.mv (.tmp 12)),
     .op (some 65) none (.mv (.tmp 1)),
     .op (some 10) none (.mv (.tmp 64)),
     .op (some 11) none (.mv (.tmp 65))]) (
  .ret))))
def k37 : Fun := ⟨66, [.tmp 10, .tmp 11], k37c⟩
theorem k37_ok : compF Try.prog 37 = some k37 := by kernel_rfl
theorem k37_name : ((Try.prog.funcs[37]?).map fun fn => fn.name == "runtime.NumGoroutine") = some false := by kernel_rfl
/-- guerdon/guerdonref39.distribute -/
def k38c : C :=
  .seq (
   .reg [.op (some 10) none (.mv (.const (.slice none 0 0))),
     .op (some 11) none (.mv (.const (.int .i64 (0))))]) (
  .seq (
   .reg [.op (some 12) none (.mv (.const (.slice none 0 0)))]) (
  .seq (
   .seq (
    .reg [.op (some 13) none (.mv (.const (.int .i64 (0))))]) (
   .block 0 (
    .loop (
     .seq (
      .seq (
       .reg [.op (some 15) none (.mv (.tmp 13)),
         .op (some 16) none (.mv (.tmp 0)),
         .op (some 17) none (.len (.tmp 16)),
         .op (some 18) none (.bin .lss (.tmp 15) (.tmp 17)),
         .op (some 19) none (.mv (.tmp 18)),
         .op (some 20) (some (19, true)) (.mv (.tmp 1)),
         .op (some 21) (some (19, true)) (.bin .gtr (.tmp 20) (.const (.int .i64 (0)))),
         .op (some 22) none (.pick (.tmp 19) (.tmp 21) (.const (.bool false)))]) (
      .cond (.tmp 22) (
       .skip) (
       .exit 0))) (
     .seq (
      .block 1 (
       .seq (
        .reg [.op (some 25) none (.mv (.tmp 0)),
          .op (some 26) none (.mv (.tmp 13)),
          .op (some 27) none (.iaddr 4 (.tmp 25) (.tmp 26)),
          .op (some 28) none (.load true 4 (.tmp 27)),
          .call (some 29) none (.func 21) [(.tmp 28)],
          .op (some 30) none (.mv (.tmp 1)),
          .op (some 31) none (.mm false [(.tmp 29), (.tmp 30)]),
          .op (some 14) none (.mv (.tmp 31))]) (
       .seq (
        .seq (
         .reg [.op (some 32) none (.mv (.tmp 14)),
           .op (some 33) none (.bin .lss (.tmp 32) (.const (.int .i64 (1)))),
           .op (some 34) none (.mv (.tmp 33)),
           .op (some 35) (some (34, false)) (.mv (.tmp 4)),
           .op (some 36) (some (34, false)) (.mv (.tmp 0)),
           .op (some 37) (some (34, false)) (.mv (.tmp 13)),
           .op (some 38) (some (34, false)) (.iaddr 4 (.tmp 36) (.tmp 37)),
           .op (some 39) (some (34, false)) (.faddr false 1 0 (.tmp 38)),
           .op (some 40) (some (34, false)) (.load false 1 (.tmp 39)),
           .call (some 41) (some (34, false)) (.func 43) [(.tmp 35), (.tmp 40)],
           .op (some 42) none (.pick (.tmp 34) (.const (.bool true)) (.tmp 41))]) (
        .cond (.tmp 42) (
         .exit 1) (
         .skip))) (
       .seq (
        .reg [.op (some 43) none (.mv (.tmp 12)),
          .op (some 44) none (.mv (.tmp 2)),
          .op (some 45) none (.mv (.tmp 0)),
          .op (some 46) none (.mv (.tmp 13)),
          .op (some 47) none (.iaddr 4 (.tmp 45) (.tmp 46)),
          .op (some 48) none (.faddr false 1 0 (.tmp 47)),
          .op (some 49) none (.load false 1 (.tmp 48)),
          .op (some 50) none (.mv (.tmp 3)),
          .op (some 51) none (.mv (.tmp 14)),
          .op (some 52) none (.build [(.v (.int .i64 (0))), (.v (.int .i64 (0))), (.v (.int .i64 (0))), (.v (.int .i64 (0)))] [(0, 1, (.tmp 44)), (1, 1, (.tmp 49)), (2, 1, (.tmp 50)), (3, 1, (.tmp 51))]),
          .op (some 53) none (.bslice 4 1 (.agg [(.v (.int .i64 (0))), (.v (.int .i64 (0))), (.v (.int .i64 (0))), (.v (.int .i64 (0)))]) [(0, (.tmp 52))]),
          .op (some 54) none (.append 4 32 (.tmp 43) (.tmp 53)),
          .op (some 12) none (.mv (.tmp 54))]) (
       .reg [.op (some 55) none (.mv (.tmp 1)),
         .op (some 56) none (.mv (.tmp 14)),
         .op (some 57) none (.bin .sub (.tmp 55) (.tmp 56)),
         .op (some 1) none (.mv (.tmp 57))]))))) (
     .reg [.op (some 23) none (.mv (.tmp 13)),
       .op (some 24) none (.bin .add (.tmp 23) (.const (.int .i64 (1)))),
       .op (some 13) none (.mv (.tmp 24))])))))) (
  .seq (
   .reg [.op (some 58) none (.mv (.tmp 12)),
     .op (some 59) none (.mv (.tmp 1)),
     .op (some 10) none (.mv (.tmp 58)),
     .op (some 11) none (.mv (.tmp 59))]) (
  .ret))))
def k38 : Fun := ⟨60, [.tmp 10, .tmp 11], k38c⟩
theorem k38_ok : compF Try.prog 38 = some k38 := by kernel_rfl
theorem k38_name : ((Try.prog.funcs[38]?).map fun fn => fn.name == "runtime.NumGoroutine") = some false := by kernel_rfl
/-- guerdon/guerdonref38.Arrears -/
def k39c : C :=
  .seq (
   .reg [.op (some 1) none (.box 4 (.tmp 0)),
     .op (some 2) none (.mv (.const (.int .i64 (0))))]) (
  .seq (
   .reg [.op (some 3) none (.faddr false 1 1 (.tmp 1)),
     .op (some 4) none (.load false 1 (.tmp 3)),
     .op (some 5) none (.faddr false 1 2 (.tmp 1)),
     .op (some 6) none (.load false 1 (.tmp 5)),
     .op (some 7) none (.bin .sub (.tmp 4) (.tmp 6)),
     .op (some 8) none (.mm true [(.tmp 7), (.const (.int .i64 (0)))]),
     .op (some 2) none (.mv (.tmp 8))]) (
  .ret))
def k39 : Fun := ⟨9, [.tmp 2], k39c⟩
theorem k39_ok : compF Try.prog 39 = some k39 := by kernel_rfl
theorem k39_name : ((Try.prog.funcs[39]?).map fun fn => fn.name == "runtime.NumGoroutine") = some false := by kernel_rfl
/-- guerdon/money.MulDiv -/
def k40c : C :=
  .seq (
   .reg [.op (some 8) none (.mv (.const (.int .i64 (0)))),
     .op (some 9) none (.mv (.const (.int .i64 (0))))]) (
  .seq (
   .seq (
    .reg [.op (some 16) none (.mv (.tmp 3)),
      .call (some 17) none (.func 44) [(.tmp 16)],
      .op (some 18) none (.un .not (.tmp 17))]) (
   .cond (.tmp 18) (
    .seq (
     .reg [.op (some 8) none (.mv (.const (.int .i64 (0)))),
       .op (some 9) none (.mv (.const (.int .i64 (1))))]) (
    .ret)) (
    .skip))) (
  .seq (
   .seq (
    .reg [.op (some 19) none (.mv (.tmp 2)),
      .op (some 20) none (.bin .eql (.tmp 19) (.const (.int .i64 (0))))]) (
   .cond (.tmp 20) (
    .seq (
     .reg [.op (some 8) none (.mv (.const (.int .i64 (0)))),
       .op (some 9) none (.mv (.const (.int .i64 (12))))]) (
    .ret)) (
    .skip))) (
  .seq (
   .seq (
    .reg [.op (some 21) none (.mv (.tmp 0)),
      .call (some 22) none (.func 45) [(.tmp 21), (.const (.int .i64 (1000000000000000)))],
      .op (some 23) none (.mv (.tmp 22)),
      .op (some 24) (some (23, false)) (.mv (.tmp 1)),
      .call (some 25) (some (23, false)) (.func 45) [(.tmp 24), (.const (.int .i64 (1000000000)))],
      .op (some 26) none (.pick (.tmp 23) (.const (.bool true)) (.tmp 25)),
      .op (some 27) none (.mv (.tmp 26)),
      .op (some 28) (some (27, false)) (.mv (.tmp 2)),
      .call (some 29) (some (27, false)) (.func 45) [(.tmp 28), (.const (.int .i64 (1000000000)))],
      .op (some 30) none (.pick (.tmp 27) (.const (.bool true)) (.tmp 29))]) (
   .cond (.tmp 30) (
    .seq (
     .reg [.op (some 8) none (.mv (.const (.int .i64 (0)))),
       .op (some 9) none (.mv (.const (.int .i64 (3))))]) (
    .ret)) (
    .skip))) (
  .seq (
   .reg [.op (some 31) none (.mv (.tmp 0)),
     .op (some 32) none (.bin .lss (.tmp 31) (.const (.int .i64 (0)))),
     .op (some 33) none (.mv (.tmp 1)),
     .op (some 34) none (.bin .lss (.tmp 33) (.const (.int .i64 (0)))),
     .op (some 35) none (.beq true (.tmp 32) (.tmp 34)),
     .op (some 36) none (.mv (.tmp 2)),
     .op (some 37) none (.bin .lss (.tmp 36) (.const (.int .i64 (0)))),
     .op (some 38) none (.beq true (.tmp 35) (.tmp 37)),
     .op (some 10) none (.mv (.tmp 38))]) (
  .seq (
   .reg [.op (some 40) none (.mv (.tmp 0)),
     .call (some 41) none (.func 47) [(.tmp 40)],
     .op (some 42) none (.mv (.tmp 1)),
     .call (some 43) none (.func 47) [(.tmp 42)],
     .call (some 44) none (.func 46) [(.tmp 41), (.tmp 43)],
     .op (some 39) none (.mv (.tmp 44)),
     .op (some 45) none (.extract (.tmp 39) 0),
     .op (some 46) none (.extract (.tmp 39) 1),
     .op (some 11) none (.mv (.tmp 45)),
     .op (some 12) none (.mv (.tmp 46))]) (
  .seq (
   .reg [.op (some 47) none (.mv (.tmp 2)),
     .call (some 48) none (.func 47) [(.tmp 47)],
     .op (some 13) none (.mv (.tmp 48))]) (
  .seq (
   .seq (
    .reg [.op (some 49) none (.mv (.tmp 11)),
      .op (some 50) none (.mv (.tmp 13)),
      .op (some 51) none (.bin .geq (.tmp 49) (.tmp 50))]) (
   .cond (.tmp 51) (
    .seq (
     .reg [.op (some 8) none (.mv (.const (.int .i64 (0)))),
       .op (some 9) none (.mv (.const (.int .i64 (3))))]) (
    .ret)) (
    .skip))) (
  .seq (
   .reg [.op (some 53) none (.mv (.tmp 11)),
     .op (some 54) none (.mv (.tmp 12)),
     .op (some 55) none (.mv (.tmp 13)),
     .call (some 56) none (.func 48) [(.tmp 53), (.tmp 54), (.tmp 55)],
     .op (some 52) none (.mv (.tmp 56)),
     .op (some 57) none (.extract (.tmp 52) 0),
     .op (some 58) none (.extract (.tmp 52) 1),
     .op (some 14) none (.mv (.tmp 57)),
     .op (some 15) none (.mv (.tmp 58))]) (
  .seq (
   .seq (
    .reg [.op (some 59) none (.mv (.tmp 14)),
      .op (some 60) none (.bin .gtr (.tmp 59) (.const (.int .u64 (1000000000000000))))]) (
   .cond (.tmp 60) (
    .seq (
     .reg [.op (some 8) none (.mv (.const (.int .i64 (0)))),
       .op (some 9) none (.mv (.const (.int .i64 (3))))]) (
    .ret)) (
    .skip))) (
  .seq (
   .reg [.op (some 61) none (.mv (.tmp 14)),
     .op (some 62) none (.mv (.tmp 15)),
     .op (some 63) none (.mv (.tmp 13)),
     .op (some 64) none (.mv (.tmp 10)),
     .op (some 65) none (.mv (.tmp 3)),
     .call (some 66) none (.func 49) [(.tmp 61), (.tmp 62), (.tmp 63), (.tmp 64), (.tmp 65)],
     .op (some 14) none (.mv (.tmp 66))]) (
  .seq (
   .seq (
    .reg [.op (some 67) none (.mv (.tmp 14)),
      .op (some 68) none (.bin .gtr (.tmp 67) (.const (.int .u64 (1000000000000000))))]) (
   .cond (.tmp 68) (
    .seq (
     .reg [.op (some 8) none (.mv (.const (.int .i64 (0)))),
       .op (some 9) none (.mv (.const (.int .i64 (3))))]) (
    .ret)) (
    .skip))) (
  .seq (
   .reg [.op (some 69) none (.mv (.tmp 14)),
     .op (some 70) none (.mv (.tmp 10)),
     .call (some 71) none (.func 50) [(.tmp 69), (.tmp 70)],
     .op (some 8) none (.mv (.tmp 71)),
     .op (some 9) none (.mv (.const (.int .i64 (0))))]) (
  .ret)))))))))))))
def k40 : Fun := ⟨72, [.tmp 8, .tmp 9], k40c⟩
theorem k40_ok : compF Try.prog 40 = some k40 := by kernel_rfl
theorem k40_name : ((Try.prog.funcs[40]?).map fun fn => fn.name == "runtime.NumGoroutine") = some false := by kernel_rfl
/-- guerdon/guerdonref02.MulDiv -/
def k41c : C :=
  .seq (
   .reg [.op (some 8) none (.mv (.const (.int .i64 (0)))),
     .op (some 9) none (.mv (.const (.int .i64 (0))))]) (
  .seq (
   .seq (
    .reg [.op (some 16) none (.mv (.tmp 3)),
      .call (some 17) none (.func 51) [(.tmp 16)],
      .op (some 18) none (.un .not (.tmp 17))]) (
   .cond (.tmp 18) (
    .seq (
     .reg [.op (some 8) none (.mv (.const (.int .i64 (0)))),
       .op (some 9) none (.mv (.const (.int .i64 (1))))]) (
    .ret)) (
    .skip))) (
  .seq (
   .seq (
    .reg [.op (some 19) none (.mv (.tmp 2)),
      .op (some 20) none (.bin .eql (.tmp 19) (.const (.int .i64 (0))))]) (
   .cond (.tmp 20) (
    .seq (
     .reg [.op (some 8) none (.mv (.const (.int .i64 (0)))),
       .op (some 9) none (.mv (.const (.int .i64 (12))))]) (
    .ret)) (
    .skip))) (
  .seq (
   .seq (
    .reg [.op (some 21) none (.mv (.tmp 0)),
      .call (some 22) none (.func 52) [(.tmp 21), (.const (.int .i64 (1000000000000000)))],
      .op (some 23) none (.mv (.tmp 22)),
      .op (some 24) (some (23, false)) (.mv (.tmp 1)),
      .call (some 25) (some (23, false)) (.func 52) [(.tmp 24), (.const (.int .i64 (1000000000)))],
      .op (some 26) none (.pick (.tmp 23) (.const (.bool true)) (.tmp 25)),
      .op (some 27) none (.mv (.tmp 26)),
      .op (some 28) (some (27, false)) (.mv (.tmp 2)),
      .call (some 29) (some (27, false)) (.func 52) [(.tmp 28), (.const (.int .i64 (1000000000)))],
      .op (some 30) none (.pick (.tmp 27) (.const (.bool true)) (.tmp 29))]) (
   .cond (.tmp 30) (
    .seq (
     .reg [.op (some 8) none (.mv (.const (.int .i64 (0)))),
       .op (some 9) none (.mv (.const (.int .i64 (3))))]) (
    .ret)) (
    .skip))) (
  .seq (
   .reg [.op (some 31) none (.mv (.tmp 0)),
     .call (some 32) none (.func 53) [(.tmp 31)],
     .op (some 33) none (.mv (.tmp 1)),
     .call (some 34) none (.func 53) [(.tmp 33)],
     .op (some 35) none (.mv (.tmp 2)),
     .call (some 36) none (.func 53) [(.tmp 35)],
     .op (some 10) none (.mv (.tmp 32)),
     .op (some 11) none (.mv (.tmp 34)),
     .op (some 12) none (.mv (.tmp 36))]) (
  .seq (
   .seq (
    .draw 8 [.op (some 37) none (.mv (.tmp 11)),
      .op (some 38) none (.bin .gtr (.tmp 37) (.const (.int .i64 (0)))),
      .op (some 39) none (.mv (.tmp 38)),
      .op (some 40) (some (39, true)) (.mv (.tmp 10)),
      .op (some 41) (some (39, true)) (.mv (.tmp 12)),
      .op (some 42) (some (39, true)) (.bin .quo (.tmp 40) (.tmp 41)),
      .op (some 43) (some (39, true)) (.mv (.tmp 11)),
      .op (some 44) (some (39, true)) (.bin .quo (.const (.int .i64 (1000000000000000))) (.tmp 43)),
      .op (some 45) (some (39, true)) (.bin .gtr (.tmp 42) (.tmp 44)),
      .op (some 46) none (.pick (.tmp 39) (.tmp 45) (.const (.bool false)))]) (
   .cond (.tmp 46) (
    .seq (
     .reg [.op (some 8) none (.mv (.const (.int .i64 (0)))),
       .op (some 9) none (.mv (.const (.int .i64 (3))))]) (
    .ret)) (
    .skip))) (
  .seq (
   .reg [.op (some 47) none (.mv (.tmp 10)),
     .op (some 48) none (.mv (.tmp 12)),
     .op (some 49) none (.bin .rem (.tmp 47) (.tmp 48)),
     .op (some 50) none (.mv (.tmp 11)),
     .op (some 51) none (.bin .mul (.tmp 49) (.tmp 50)),
     .op (some 13) none (.mv (.tmp 51))]) (
  .seq (
   .reg [.op (some 52) none (.mv (.tmp 0)),
     .op (some 53) none (.bin .lss (.tmp 52) (.const (.int .i64 (0)))),
     .op (some 54) none (.mv (.tmp 1)),
     .op (some 55) none (.bin .lss (.tmp 54) (.const (.int .i64 (0)))),
     .op (some 56) none (.beq true (.tmp 53) (.tmp 55)),
     .op (some 57) none (.mv (.tmp 2)),
     .op (some 58) none (.bin .lss (.tmp 57) (.const (.int .i64 (0)))),
     .op (some 59) none (.beq true (.tmp 56) (.tmp 58)),
     .op (some 14) none (.mv (.tmp 59))]) (
  .seq (
   .draw 15 [.op (some 60) none (.mv (.tmp 10)),
     .op (some 61) none (.mv (.tmp 12)),
     .op (some 62) none (.bin .quo (.tmp 60) (.tmp 61)),
     .op (some 63) none (.mv (.tmp 11)),
     .op (some 64) none (.bin .mul (.tmp 62) (.tmp 63)),
     .op (some 65) none (.mv (.tmp 13)),
     .op (some 66) none (.mv (.tmp 12)),
     .op (some 67) none (.bin .quo (.tmp 65) (.tmp 66)),
     .op (some 68) none (.bin .add (.tmp 64) (.tmp 67)),
     .op (some 69) none (.mv (.tmp 13)),
     .op (some 70) none (.mv (.tmp 12)),
     .op (some 71) none (.bin .rem (.tmp 69) (.tmp 70)),
     .op (some 72) none (.mv (.tmp 12)),
     .op (some 73) none (.mv (.tmp 14)),
     .op (some 74) none (.mv (.tmp 3)),
     .call (some 75) none (.func 54) [(.tmp 68), (.tmp 71), (.tmp 72), (.tmp 73), (.tmp 74)],
     .op (some 15) none (.mv (.tmp 75))]) (
  .seq (
   .seq (
    .reg [.op (some 76) none (.mv (.tmp 15)),
      .call (some 77) none (.func 52) [(.tmp 76), (.const (.int .i64 (1000000000000000)))]]) (
   .cond (.tmp 77) (
    .seq (
     .reg [.op (some 8) none (.mv (.const (.int .i64 (0)))),
       .op (some 9) none (.mv (.const (.int .i64 (3))))]) (
    .ret)) (
    .skip))) (
  .seq (
   .reg [.op (some 78) none (.mv (.tmp 15)),
     .op (some 8) none (.mv (.tmp 78)),
     .op (some 9) none (.mv (.const (.int .i64 (0))))]) (
  .ret)))))))))))
def k41 : Fun := ⟨79, [.tmp 8, .tmp 9], k41c⟩
theorem k41_ok : compF Try.prog 41 = some k41 := by kernel_rfl
theorem k41_name : ((Try.prog.funcs[41]?).map fun fn => fn.name == "runtime.NumGoroutine") = some false := by kernel_rfl
/-- guerdon/balance.Overpayment -/
def k42c : C :=
  .seq (
   .reg [.op (some 1) none (.box 4 (.tmp 0)),
     .op (some 2) none (.mv (.const (.int .i64 (0))))]) (
  .seq (
   .reg [.op (some 3) none (.faddr false 1 2 (.tmp 1)),
     .op (some 4) none (.load false 1 (.tmp 3)),
     .op (some 5) none (.faddr false 1 1 (.tmp 1)),
     .op (some 6) none (.load false 1 (.tmp 5)),
     .op (some 7) none (.bin .sub (.tmp 4) (.tmp 6)),
     .op (some 8) none (.faddr false 1 3 (.tmp 1)),
     .op (some 9) none (.load false 1 (.tmp 8)),
     .op (some 10) none (.bin .sub (.tmp 7) (.tmp 9)),
     .op (some 11) none (.mm true [(.tmp 10), (.const (.int .i64 (0)))]),
     .op (some 2) none (.mv (.tmp 11))]) (
  .ret))
def k42 : Fun := ⟨12, [.tmp 2], k42c⟩
theorem k42_ok : compF Try.prog 42 = some k42 := by kernel_rfl
theorem k42_name : ((Try.prog.funcs[42]?).map fun fn => fn.name == "runtime.NumGoroutine") = some false := by kernel_rfl
/-- guerdon/guerdonref39.contains -/
def k43c : C :=
  .seq (
   .reg [.op (some 4) none (.mv (.const (.bool false)))]) (
  .seq (
   .seq (
    .reg [.op (some 5) none (.mv (.const (.int .i64 (0))))]) (
   .block 0 (
    .loop (
     .seq (
      .seq (
       .reg [.op (some 6) none (.mv (.tmp 5)),
         .op (some 7) none (.mv (.tmp 0)),
         .op (some 8) none (.len (.tmp 7)),
         .op (some 9) none (.bin .lss (.tmp 6) (.tmp 8))]) (
      .cond (.tmp 9) (
       .skip) (
       .exit 0))) (
     .seq (
      .block 1 (
       .seq (
        .reg [.op (some 12) none (.mv (.tmp 0)),
          .op (some 13) none (.mv (.tmp 5)),
          .op (some 14) none (.iaddr 1 (.tmp 12) (.tmp 13)),
          .op (some 15) none (.load false 1 (.tmp 14)),
          .op (some 16) none (.mv (.tmp 1)),
          .op (some 17) none (.bin .eql (.tmp 15) (.tmp 16))]) (
       .cond (.tmp 17) (
        .seq (
         .reg [.op (some 4) none (.mv (.const (.bool true)))]) (
        .ret)) (
        .skip)))) (
     .reg [.op (some 10) none (.mv (.tmp 5)),
       .op (some 11) none (.bin .add (.tmp 10) (.const (.int .i64 (1)))),
       .op (some 5) none (.mv (.tmp 11))])))))) (
  .seq (
   .reg [.op (some 4) none (.mv (.const (.bool false)))]) (
  .ret)))
def k43 : Fun := ⟨18, [.tmp 4], k43c⟩
theorem k43_ok : compF Try.prog 43 = some k43 := by kernel_rfl
theorem k43_name : ((Try.prog.funcs[43]?).map fun fn => fn.name == "runtime.NumGoroutine") = some false := by kernel_rfl
/-- guerdon/money.validMode -/
def k44c : C :=
  .seq (
   .reg [.op (some 2) none (.mv (.const (.bool false)))]) (
  .seq (
   .reg [.op (some 3) none (.mv (.tmp 0)),
     .op (some 4) none (.bin .geq (.tmp 3) (.const (.int .i64 (0)))),
     .op (some 5) none (.mv (.tmp 4)),
     .op (some 6) (some (5, true)) (.mv (.tmp 0)),
     .op (some 7) (some (5, true)) (.bin .leq (.tmp 6) (.const (.int .i64 (5)))),
     .op (some 8) none (.pick (.tmp 5) (.tmp 7) (.const (.bool false))),
     .op (some 2) none (.mv (.tmp 8))]) (
  .ret))
def k44 : Fun := ⟨9, [.tmp 2], k44c⟩
theorem k44_ok : compF Try.prog 44 = some k44 := by kernel_rfl
theorem k44_name : ((Try.prog.funcs[44]?).map fun fn => fn.name == "runtime.NumGoroutine") = some false := by kernel_rfl
/-- guerdon/money.beyond -/
def k45c : C :=
  .seq (
   .reg [.op (some 4) none (.mv (.const (.bool false)))]) (
  .seq (
   .reg [.op (some 5) none (.mv (.tmp 0)),
     .op (some 6) none (.mv (.tmp 1)),
     .op (some 7) none (.bin .gtr (.tmp 5) (.tmp 6)),
     .op (some 8) none (.mv (.tmp 7)),
     .op (some 9) (some (8, false)) (.mv (.tmp 0)),
     .op (some 10) (some (8, false)) (.mv (.tmp 1)),
     .op (some 11) (some (8, false)) (.un .neg (.tmp 10)),
     .op (some 12) (some (8, false)) (.bin .lss (.tmp 9) (.tmp 11)),
     .op (some 13) none (.pick (.tmp 8) (.const (.bool true)) (.tmp 12)),
     .op (some 4) none (.mv (.tmp 13))]) (
  .ret))
def k45 : Fun := ⟨14, [.tmp 4], k45c⟩
theorem k45_ok : compF Try.prog 45 = some k45 := by kernel_rfl
theorem k45_name : ((Try.prog.funcs[45]?).map fun fn => fn.name == "runtime.NumGoroutine") = some false := by kernel_rfl
/-- math/bits.Mul64 -/
def k46c : C :=
  .seq (
   .reg [.op (some 4) none (.mv (.const (.int .u64 (0)))),
     .op (some 5) none (.mv (.const (.int .u64 (0))))]) (
  .seq (
   .reg [.op (some 14) none (.mv (.tmp 0)),
     .op (some 15) none (.bin .and (.tmp 14) (.const (.int .u64 (4294967295)))),
     .op (some 6) none (.mv (.tmp 15))]) (
  .seq (
   .reg [.op (some 16) none (.mv (.tmp 0)),
     .op (some 17) none (.bin .shr (.tmp 16) (.const (.int .u64 (32)))),
     .op (some 7) none (.mv (.tmp 17))]) (
  .seq (
   .reg [.op (some 18) none (.mv (.tmp 1)),
     .op (some 19) none (.bin .and (.tmp 18) (.const (.int .u64 (4294967295)))),
     .op (some 8) none (.mv (.tmp 19))]) (
  .seq (
   .reg [.op (some 20) none (.mv (.tmp 1)),
     .op (some 21) none (.bin .shr (.tmp 20) (.const (.int .u64 (32)))),
     .op (some 9) none (.mv (.tmp 21))]) (
  .seq (
   .reg [.op (some 22) none (.mv (.tmp 6)),
     .op (some 23) none (.mv (.tmp 8)),
     .op (some 24) none (.bin .mul (.tmp 22) (.tmp 23)),
     .op (some 10) none (.mv (.tmp 24))]) (
  .seq (
   .reg [.op (some 25) none (.mv (.tmp 7)),
     .op (some 26) none (.mv (.tmp 8)),
     .op (some 27) none (.bin .mul (.tmp 25) (.tmp 26)),
     .op (some 28) none (.mv (.tmp 10)),
     .op (some 29) none (.bin .shr (.tmp 28) (.const (.int .u64 (32)))),
     .op (some 30) none (.bin .add (.tmp 27) (.tmp 29)),
     .op (some 11) none (.mv (.tmp 30))]) (
  .seq (
   .reg [.op (some 31) none (.mv (.tmp 11)),
     .op (some 32) none (.bin .and (.tmp 31) (.const (.int .u64 (4294967295)))),
     .op (some 12) none (.mv (.tmp 32))]) (
  .seq (
   .reg [.op (some 33) none (.mv (.tmp 11)),
     .op (some 34) none (.bin .shr (.tmp 33) (.const (.int .u64 (32)))),
     .op (some 13) none (.mv (.tmp 34))]) (
  .seq (
   .reg [.op (some 35) none (.mv (.tmp 12)),
     .op (some 36) none (.mv (.tmp 6)),
     .op (some 37) none (.mv (.tmp 9)),
     .op (some 38) none (.bin .mul (.tmp 36) (.tmp 37)),
     .op (some 39) none (.bin .add (.tmp 35) (.tmp 38)),
     .op (some 12) none (.mv (.tmp 39))]) (
  .seq (
   .reg [.op (some 40) none (.mv (.tmp 7)),
     .op (some 41) none (.mv (.tmp 9)),
     .op (some 42) none (.bin .mul (.tmp 40) (.tmp 41)),
     .op (some 43) none (.mv (.tmp 13)),
     .op (some 44) none (.bin .add (.tmp 42) (.tmp 43)),
     .op (some 45) none (.mv (.tmp 12)),
     .op (some 46) none (.bin .shr (.tmp 45) (.const (.int .u64 (32)))),
     .op (some 47) none (.bin .add (.tmp 44) (.tmp 46)),
     .op (some 4) none (.mv (.tmp 47))]) (
  .seq (
   .reg [.op (some 48) none (.mv (.tmp 0)),
     .op (some 49) none (.mv (.tmp 1)),
     .op (some 50) none (.bin .mul (.tmp 48) (.tmp 49)),
     .op (some 5) none (.mv (.tmp 50))]) (
  .ret))))))))))))
def k46 : Fun := ⟨51, [.tmp 4, .tmp 5], k46c⟩
theorem k46_ok : compF Try.prog 46 = some k46 := by kernel_rfl
theorem k46_name : ((Try.prog.funcs[46]?).map fun fn => fn.name == "runtime.NumGoroutine") = some false := by kernel_rfl
/-- guerdon/money.magnitude -/
def k47c : C :=
  .seq (
   .reg [.op (some 2) none (.mv (.const (.int .u64 (0))))]) (
  .seq (
   .seq (
    .reg [.op (some 3) none (.mv (.tmp 0)),
      .op (some 4) none (.bin .lss (.tmp 3) (.const (.int .i64 (0))))]) (
   .cond (.tmp 4) (
    .seq (
     .reg [.op (some 5) none (.mv (.tmp 0)),
       .op (some 6) none (.conv .u64 (.tmp 5)),
       .op (some 7) none (.un .neg (.tmp 6)),
       .op (some 2) none (.mv (.tmp 7))]) (
    .ret)) (
    .skip))) (
  .seq (
   .reg [.op (some 8) none (.mv (.tmp 0)),
     .op (some 9) none (.conv .u64 (.tmp 8)),
     .op (some 2) none (.mv (.tmp 9))]) (
  .ret)))
def k47 : Fun := ⟨10, [.tmp 2], k47c⟩
theorem k47_ok : compF Try.prog 47 = some k47 := by kernel_rfl
theorem k47_name : ((Try.prog.funcs[47]?).map fun fn => fn.name == "runtime.NumGoroutine") = some false := by kernel_rfl
/-- math/bits.Div64 -/
def k48c : C :=
  .seq (
   .reg [.op (some 6) none (.mv (.const (.int .u64 (0)))),
     .op (some 7) none (.mv (.const (.int .u64 (0))))]) (
  .seq (
   .seq (
    .reg [.op (some 19) none (.mv (.tmp 2)),
      .op (some 20) none (.bin .eql (.tmp 19) (.const (.int .u64 (0))))]) (
   .cond (.tmp 20) (
    .reg [.op (some 21) none (.load false 1 (.global 0)),
      .op none none (.fail)]) (
    .skip))) (
  .seq (
   .seq (
    .reg [.op (some 22) none (.mv (.tmp 2)),
      .op (some 23) none (.mv (.tmp 0)),
      .op (some 24) none (.bin .leq (.tmp 22) (.tmp 23))]) (
   .cond (.tmp 24) (
    .reg [.op (some 25) none (.load false 1 (.global 1)),
      .op none none (.fail)]) (
    .skip))) (
  .seq (
   .seq (
    .reg [.op (some 26) none (.mv (.tmp 0)),
      .op (some 27) none (.bin .eql (.tmp 26) (.const (.int .u64 (0))))]) (
   .cond (.tmp 27) (
    .seq (
     .draw 7 [.op (some 28) none (.mv (.tmp 1)),
       .op (some 29) none (.mv (.tmp 2)),
       .op (some 30) none (.bin .quo (.tmp 28) (.tmp 29)),
       .op (some 31) none (.mv (.tmp 1)),
       .op (some 32) none (.mv (.tmp 2)),
       .op (some 33) none (.bin .rem (.tmp 31) (.tmp 32)),
       .op (some 6) none (.mv (.tmp 30)),
       .op (some 7) none (.mv (.tmp 33))]) (
    .ret)) (
    .skip))) (
  .seq (
   .reg [.op (some 34) none (.mv (.tmp 2)),
     .call (some 35) none (.func 55) [(.tmp 34)],
     .op (some 36) none (.conv .u64 (.tmp 35)),
     .op (some 8) none (.mv (.tmp 36))]) (
  .seq (
   .reg [.op (some 37) none (.mv (.tmp 2)),
     .op (some 38) none (.mv (.tmp 8)),
     .op (some 39) none (.bin .shl (.tmp 37) (.tmp 38)),
     .op (some 2) none (.mv (.tmp 39))]) (
  .seq (
   .reg [.op (some 40) none (.mv (.tmp 2)),
     .op (some 41) none (.bin .shr (.tmp 40) (.const (.int .u64 (32)))),
     .op (some 9) none (.mv (.tmp 41))]) (
  .seq (
   .reg [.op (some 42) none (.mv (.tmp 2)),
     .op (some 43) none (.bin .and (.tmp 42) (.const (.int .u64 (4294967295)))),
     .op (some 10) none (.mv (.tmp 43))]) (
  .seq (
   .reg [.op (some 44) none (.mv (.tmp 0)),
     .op (some 45) none (.mv (.tmp 8)),
     .op (some 46) none (.bin .shl (.tmp 44) (.tmp 45)),
     .op (some 47) none (.mv (.tmp 1)),
     .op (some 48) none (.mv (.tmp 8)),
     .op (some 49) none (.bin .sub (.const (.int .u64 (64))) (.tmp 48)),
     .op (some 50) none (.bin .shr (.tmp 47) (.tmp 49)),
     .op (some 51) none (.bin .or (.tmp 46) (.tmp 50)),
     .op (some 11) none (.mv (.tmp 51))]) (
  .seq (
   .reg [.op (some 52) none (.mv (.tmp 1)),
     .op (some 53) none (.mv (.tmp 8)),
     .op (some 54) none (.bin .shl (.tmp 52) (.tmp 53)),
     .op (some 12) none (.mv (.tmp 54))]) (
  .seq (
   .reg [.op (some 55) none (.mv (.tmp 12)),
     .op (some 56) none (.bin .shr (.tmp 55) (.const (.int .u64 (32)))),
     .op (some 13) none (.mv (.tmp 56))]) (
  .seq (
   .reg [.op (some 57) none (.mv (.tmp 12)),
     .op (some 58) none (.bin .and (.tmp 57) (.const (.int .u64 (4294967295)))),
     .op (some 14) none (.mv (.tmp 58))]) (
  .seq (
   .reg [.op (some 59) none (.mv (.tmp 11)),
     .op (some 60) none (.mv (.tmp 9)),
     .op (some 61) none (.bin .quo (.tmp 59) (.tmp 60)),
     .op (some 15) none (.mv (.tmp 61))]) (
  .seq (
   .reg [.op (some 62) none (.mv (.tmp 11)),
     .op (some 63) none (.mv (.tmp 15)),
     .op (some 64) none (.mv (.tmp 9)),
     .op (some 65) none (.bin .mul (.tmp 63) (.tmp 64)),
     .op (some 66) none (.bin .sub (.tmp 62) (.tmp 65)),
     .op (some 16) none (.mv (.tmp 66))]) (
  .seq (
   .block 0 (
    .loop (
     .seq (
      .seq (
       .reg [.op (some 67) none (.mv (.tmp 15)),
         .op (some 68) none (.bin .geq (.tmp 67) (.const (.int .u64 (4294967296)))),
         .op (some 69) none (.mv (.tmp 68)),
         .op (some 70) (some (69, false)) (.mv (.tmp 15)),
         .op (some 71) (some (69, false)) (.mv (.tmp 10)),
         .op (some 72) (some (69, false)) (.bin .mul (.tmp 70) (.tmp 71)),
         .op (some 73) (some (69, false)) (.mv (.tmp 16)),
         .op (some 74) (some (69, false)) (.bin .mul (.const (.int .u64 (4294967296))) (.tmp 73)),
         .op (some 75) (some (69, false)) (.mv (.tmp 13)),
         .op (some 76) (some (69, false)) (.bin .add (.tmp 74) (.tmp 75)),
         .op (some 77) (some (69, false)) (.bin .gtr (.tmp 72) (.tmp 76)),
         .op (some 78) none (.pick (.tmp 69) (.const (.bool true)) (.tmp 77))]) (
      .cond (.tmp 78) (
       .skip) (
       .exit 0))) (
     .block 1 (
      .seq (
       .reg [.op (some 79) none (.mv (.tmp 15)),
         .op (some 80) none (.bin .sub (.tmp 79) (.const (.int .u64 (1)))),
         .op (some 15) none (.mv (.tmp 80))]) (
      .seq (
       .reg [.op (some 81) none (.mv (.tmp 16)),
         .op (some 82) none (.mv (.tmp 9)),
         .op (some 83) none (.bin .add (.tmp 81) (.tmp 82)),
         .op (some 16) none (.mv (.tmp 83))]) (
      .seq (
       .reg [.op (some 84) none (.mv (.tmp 16)),
         .op (some 85) none (.bin .geq (.tmp 84) (.const (.int .u64 (4294967296))))]) (
      .cond (.tmp 85) (
       .exit 0) (
       .skip))))))))) (
  .seq (
   .reg [.op (some 86) none (.mv (.tmp 11)),
     .op (some 87) none (.bin .mul (.tmp 86) (.const (.int .u64 (4294967296)))),
     .op (some 88) none (.mv (.tmp 13)),
     .op (some 89) none (.bin .add (.tmp 87) (.tmp 88)),
     .op (some 90) none (.mv (.tmp 15)),
     .op (some 91) none (.mv (.tmp 2)),
     .op (some 92) none (.bin .mul (.tmp 90) (.tmp 91)),
     .op (some 93) none (.bin .sub (.tmp 89) (.tmp 92)),
     .op (some 17) none (.mv (.tmp 93))]) (
  .seq (
   .reg [.op (some 94) none (.mv (.tmp 17)),
     .op (some 95) none (.mv (.tmp 9)),
     .op (some 96) none (.bin .quo (.tmp 94) (.tmp 95)),
     .op (some 18) none (.mv (.tmp 96))]) (
  .seq (
   .reg [.op (some 97) none (.mv (.tmp 17)),
     .op (some 98) none (.mv (.tmp 18)),
     .op (some 99) none (.mv (.tmp 9)),
     .op (some 100) none (.bin .mul (.tmp 98) (.tmp 99)),
     .op (some 101) none (.bin .sub (.tmp 97) (.tmp 100)),
     .op (some 16) none (.mv (.tmp 101))]) (
  .seq (
   .block 2 (
    .loop (
     .seq (
      .seq (
       .reg [.op (some 102) none (.mv (.tmp 18)),
         .op (some 103) none (.bin .geq (.tmp 102) (.const (.int .u64 (4294967296)))),
         .op (some 104) none (.mv (.tmp 103)),
         .op (some 105) (some (104, false)) (.mv (.tmp 18)),
         .op (some 106) (some (104, false)) (.mv (.tmp 10)),
         .op (some 107) (some (104, false)) (.bin .mul (.tmp 105) (.tmp 106)),
         .op (some 108) (some (104, false)) (.mv (.tmp 16)),
         .op (some 109) (some (104, false)) (.bin .mul (.const (.int .u64 (4294967296))) (.tmp 108)),
         .op (some 110) (some (104, false)) (.mv (.tmp 14)),
         .op (some 111) (some (104, false)) (.bin .add (.tmp 109) (.tmp 110)),
         .op (some 112) (some (104, false)) (.bin .gtr (.tmp 107) (.tmp 111)),
         .op (some 113) none (.pick (.tmp 104) (.const (.bool true)) (.tmp 112))]) (
      .cond (.tmp 113) (
       .skip) (
       .exit 2))) (
     .block 3 (
      .seq (
       .reg [.op (some 114) none (.mv (.tmp 18)),
         .op (some 115) none (.bin .sub (.tmp 114) (.const (.int .u64 (1)))),
         .op (some 18) none (.mv (.tmp 115))]) (
      .seq (
       .reg [.op (some 116) none (.mv (.tmp 16)),
         .op (some 117) none (.mv (.tmp 9)),
         .op (some 118) none (.bin .add (.tmp 116) (.tmp 117)),
         .op (some 16) none (.mv (.tmp 118))]) (
      .seq (
       .reg [.op (some 119) none (.mv (.tmp 16)),
         .op (some 120) none (.bin .geq (.tmp 119) (.const (.int .u64 (4294967296))))]) (
      .cond (.tmp 120) (
       .exit 2) (
       .skip))))))))) (
  .seq (
   .reg [.op (some 121) none (.mv (.tmp 15)),
     .op (some 122) none (.bin .mul (.tmp 121) (.const (.int .u64 (4294967296)))),
     .op (some 123) none (.mv (.tmp 18)),
     .op (some 124) none (.bin .add (.tmp 122) (.tmp 123)),
     .op (some 125) none (.mv (.tmp 17)),
     .op (some 126) none (.bin .mul (.tmp 125) (.const (.int .u64 (4294967296)))),
     .op (some 127) none (.mv (.tmp 14)),
     .op (some 128) none (.bin .add (.tmp 126) (.tmp 127)),
     .op (some 129) none (.mv (.tmp 18)),
     .op (some 130) none (.mv (.tmp 2)),
     .op (some 131) none (.bin .mul (.tmp 129) (.tmp 130)),
     .op (some 132) none (.bin .sub (.tmp 128) (.tmp 131)),
     .op (some 133) none (.mv (.tmp 8)),
     .op (some 134) none (.bin .shr (.tmp 132) (.tmp 133)),
     .op (some 6) none (.mv (.tmp 124)),
     .op (some 7) none (.mv (.tmp 134))]) (
  .ret))))))))))))))))))))
def k48 : Fun := ⟨135, [.tmp 6, .tmp 7], k48c⟩
theorem k48_ok : compF Try.prog 48 = some k48 := by kernel_rfl
theorem k48_name : ((Try.prog.funcs[48]?).map fun fn => fn.name == "runtime.NumGoroutine") = some false := by kernel_rfl
/-- guerdon/money.roundMagnitude -/
def k49c : C :=
  .seq (
   .reg [.op (some 10) none (.mv (.const (.int .u64 (0))))]) (
  .seq (
   .seq (
    .reg [.op (some 12) none (.mv (.tmp 1)),
      .op (some 13) none (.bin .eql (.tmp 12) (.const (.int .u64 (0))))]) (
   .cond (.tmp 13) (
    .seq (
     .reg [.op (some 14) none (.mv (.tmp 0)),
       .op (some 10) none (.mv (.tmp 14))]) (
    .ret)) (
    .skip))) (
  .seq (
   .reg [.op (some 11) none (.mv (.const (.bool false)))]) (
  .seq (
   .seq (
    .reg [.op (some 15) none (.mv (.tmp 4))]) (
   .block 0 (
    .seq (
     .reg [.op (some 17) none (.bin .eql (.tmp 15) (.const (.int .i64 (0)))),
       .op (some 16) none (.mv (.tmp 17))]) (
    .cond (.tmp 16) (
     .reg [.op (some 18) none (.mv (.tmp 3)),
       .op (some 11) none (.mv (.tmp 18))]) (
     .seq (
      .reg [.op (some 20) none (.bin .eql (.tmp 15) (.const (.int .i64 (1)))),
        .op (some 19) none (.mv (.tmp 20))]) (
     .cond (.tmp 19) (
      .reg [.op (some 21) none (.mv (.tmp 3)),
        .op (some 22) none (.un .not (.tmp 21)),
        .op (some 11) none (.mv (.tmp 22))]) (
      .seq (
       .reg [.op (some 24) none (.bin .eql (.tmp 15) (.const (.int .i64 (3)))),
         .op (some 23) none (.mv (.tmp 24))]) (
      .cond (.tmp 23) (
       .reg [.op (some 11) none (.mv (.const (.bool true)))]) (
       .seq (
        .reg [.op (some 26) none (.bin .eql (.tmp 15) (.const (.int .i64 (4)))),
          .op (some 25) none (.mv (.tmp 26))]) (
       .cond (.tmp 25) (
        .reg [.op (some 27) none (.mv (.tmp 1)),
          .op (some 28) none (.mv (.tmp 2)),
          .op (some 29) none (.mv (.tmp 1)),
          .op (some 30) none (.bin .sub (.tmp 28) (.tmp 29)),
          .op (some 31) none (.bin .geq (.tmp 27) (.tmp 30)),
          .op (some 11) none (.mv (.tmp 31))]) (
        .seq (
         .reg [.op (some 33) none (.bin .eql (.tmp 15) (.const (.int .i64 (5)))),
           .op (some 32) none (.mv (.tmp 33))]) (
        .cond (.tmp 32) (
         .reg [.op (some 34) none (.mv (.tmp 1)),
           .op (some 35) none (.mv (.tmp 2)),
           .op (some 36) none (.mv (.tmp 1)),
           .op (some 37) none (.bin .sub (.tmp 35) (.tmp 36)),
           .op (some 38) none (.bin .gtr (.tmp 34) (.tmp 37)),
           .op (some 39) none (.mv (.tmp 38)),
           .op (some 40) (some (39, false)) (.mv (.tmp 1)),
           .op (some 41) (some (39, false)) (.mv (.tmp 2)),
           .op (some 42) (some (39, false)) (.mv (.tmp 1)),
           .op (some 43) (some (39, false)) (.bin .sub (.tmp 41) (.tmp 42)),
           .op (some 44) (some (39, false)) (.bin .eql (.tmp 40) (.tmp 43)),
           .op (some 45) (some (39, false)) (.mv (.tmp 44)),
           .op (some 46) (some (45, true)) (.mv (.tmp 0)),
           .op (some 47) (some (45, true)) (.bin .rem (.tmp 46) (.const (.int .u64 (2)))),
           .op (some 48) (some (45, true)) (.bin .eql (.tmp 47) (.const (.int .u64 (1)))),
           .op (some 49) (some (39, false)) (.pick (.tmp 45) (.tmp 48) (.const (.bool false))),
           .op (some 50) none (.pick (.tmp 39) (.const (.bool true)) (.tmp 49)),
           .op (some 11) none (.mv (.tmp 50))]) (
         .skip))))))))))))) (
  .seq (
   .seq (
    .reg [.op (some 51) none (.mv (.tmp 11))]) (
   .cond (.tmp 51) (
    .reg [.op (some 52) none (.mv (.tmp 0)),
      .op (some 53) none (.bin .add (.tmp 52) (.const (.int .u64 (1)))),
      .op (some 0) none (.mv (.tmp 53))]) (
    .skip))) (
  .seq (
   .reg [.op (some 54) none (.mv (.tmp 0)),
     .op (some 10) none (.mv (.tmp 54))]) (
  .ret))))))
def k49 : Fun := ⟨55, [.tmp 10], k49c⟩
theorem k49_ok : compF Try.prog 49 = some k49 := by kernel_rfl
theorem k49_name : ((Try.prog.funcs[49]?).map fun fn => fn.name == "runtime.NumGoroutine") = some false := by kernel_rfl
/-- guerdon/money.signed -/
def k50c : C :=
  .seq (
   .reg [.op (some 4) none (.mv (.const (.int .i64 (0))))]) (
  .seq (
   .seq (
    .reg [.op (some 5) none (.mv (.tmp 1))]) (
   .cond (.tmp 5) (
    .seq (
     .reg [.op (some 6) none (.mv (.tmp 0)),
       .op (some 7) none (.conv .i64 (.tmp 6)),
       .op (some 8) none (.un .neg (.tmp 7)),
       .op (some 4) none (.mv (.tmp 8))]) (
    .ret)) (
    .skip))) (
  .seq (
   .reg [.op (some 9) none (.mv (.tmp 0)),
     .op (some 10) none (.conv .i64 (.tmp 9)),
     .op (some 4) none (.mv (.tmp 10))]) (
  .ret)))
def k50 : Fun := ⟨11, [.tmp 4], k50c⟩
theorem k50_ok : compF Try.prog 50 = some k50 := by kernel_rfl
theorem k50_name : ((Try.prog.funcs[50]?).map fun fn => fn.name == "runtime.NumGoroutine") = some false := by kernel_rfl
/-- guerdon/guerdonref02.Mode -/
def k51c : C :=
  .seq (
   .reg [.op (some 2) none (.mv (.const (.bool false)))]) (
  .seq (
   .reg [.op (some 3) none (.mv (.tmp 0)),
     .op (some 4) none (.bin .geq (.tmp 3) (.const (.int .i64 (0)))),
     .op (some 5) none (.mv (.tmp 4)),
     .op (some 6) (some (5, true)) (.mv (.tmp 0)),
     .op (some 7) (some (5, true)) (.bin .leq (.tmp 6) (.const (.int .i64 (5)))),
     .op (some 8) none (.pick (.tmp 5) (.tmp 7) (.const (.bool false))),
     .op (some 2) none (.mv (.tmp 8))]) (
  .ret))
def k51 : Fun := ⟨9, [.tmp 2], k51c⟩
theorem k51_ok : compF Try.prog 51 = some k51 := by kernel_rfl
theorem k51_name : ((Try.prog.funcs[51]?).map fun fn => fn.name == "runtime.NumGoroutine") = some false := by kernel_rfl
/-- guerdon/guerdonref02.Beyond -/
def k52c : C :=
  .seq (
   .reg [.op (some 4) none (.mv (.const (.bool false)))]) (
  .seq (
   .reg [.op (some 5) none (.mv (.tmp 0)),
     .op (some 6) none (.mv (.tmp 1)),
     .op (some 7) none (.bin .gtr (.tmp 5) (.tmp 6)),
     .op (some 8) none (.mv (.tmp 7)),
     .op (some 9) (some (8, false)) (.mv (.tmp 0)),
     .op (some 10) (some (8, false)) (.mv (.tmp 1)),
     .op (some 11) (some (8, false)) (.un .neg (.tmp 10)),
     .op (some 12) (some (8, false)) (.bin .lss (.tmp 9) (.tmp 11)),
     .op (some 13) none (.pick (.tmp 8) (.const (.bool true)) (.tmp 12)),
     .op (some 4) none (.mv (.tmp 13))]) (
  .ret))
def k52 : Fun := ⟨14, [.tmp 4], k52c⟩
theorem k52_ok : compF Try.prog 52 = some k52 := by kernel_rfl
theorem k52_name : ((Try.prog.funcs[52]?).map fun fn => fn.name == "runtime.NumGoroutine") = some false := by kernel_rfl
/-- guerdon/guerdonref02.Abs -/
def k53c : C :=
  .seq (
   .reg [.op (some 2) none (.mv (.const (.int .i64 (0))))]) (
  .seq (
   .seq (
    .reg [.op (some 3) none (.mv (.tmp 0)),
      .op (some 4) none (.bin .lss (.tmp 3) (.const (.int .i64 (0))))]) (
   .cond (.tmp 4) (
    .seq (
     .reg [.op (some 5) none (.mv (.tmp 0)),
       .op (some 6) none (.un .neg (.tmp 5)),
       .op (some 2) none (.mv (.tmp 6))]) (
    .ret)) (
    .skip))) (
  .seq (
   .reg [.op (some 7) none (.mv (.tmp 0)),
     .op (some 2) none (.mv (.tmp 7))]) (
  .ret)))
def k53 : Fun := ⟨8, [.tmp 2], k53c⟩
theorem k53_ok : compF Try.prog 53 = some k53 := by kernel_rfl
theorem k53_name : ((Try.prog.funcs[53]?).map fun fn => fn.name == "runtime.NumGoroutine") = some false := by kernel_rfl
/-- guerdon/guerdonref02.Rounded -/
def k54c : C :=
  .seq (
   .reg [.op (some 10) none (.mv (.const (.int .i64 (0))))]) (
  .seq (
   .reg [.op (some 11) none (.mv (.const (.bool false)))]) (
  .seq (
   .seq (
    .reg [.op (some 12) none (.mv (.tmp 4))]) (
   .block 0 (
    .seq (
     .reg [.op (some 14) none (.bin .eql (.tmp 12) (.const (.int .i64 (0)))),
       .op (some 13) none (.mv (.tmp 14))]) (
    .cond (.tmp 13) (
     .reg [.op (some 15) none (.mv (.tmp 3)),
       .op (some 16) none (.mv (.tmp 15)),
       .op (some 17) (some (16, true)) (.mv (.tmp 1)),
       .op (some 18) (some (16, true)) (.bin .gtr (.tmp 17) (.const (.int .i64 (0)))),
       .op (some 19) none (.pick (.tmp 16) (.tmp 18) (.const (.bool false))),
       .op (some 11) none (.mv (.tmp 19))]) (
     .seq (
      .reg [.op (some 21) none (.bin .eql (.tmp 12) (.const (.int .i64 (1)))),
        .op (some 20) none (.mv (.tmp 21))]) (
     .cond (.tmp 20) (
      .reg [.op (some 22) none (.mv (.tmp 3)),
        .op (some 23) none (.un .not (.tmp 22)),
        .op (some 24) none (.mv (.tmp 23)),
        .op (some 25) (some (24, true)) (.mv (.tmp 1)),
        .op (some 26) (some (24, true)) (.bin .gtr (.tmp 25) (.const (.int .i64 (0)))),
        .op (some 27) none (.pick (.tmp 24) (.tmp 26) (.const (.bool false))),
        .op (some 11) none (.mv (.tmp 27))]) (
      .seq (
       .reg [.op (some 29) none (.bin .eql (.tmp 12) (.const (.int .i64 (3)))),
         .op (some 28) none (.mv (.tmp 29))]) (
      .cond (.tmp 28) (
       .reg [.op (some 30) none (.mv (.tmp 1)),
         .op (some 31) none (.bin .gtr (.tmp 30) (.const (.int .i64 (0)))),
         .op (some 11) none (.mv (.tmp 31))]) (
       .seq (
        .reg [.op (some 33) none (.bin .eql (.tmp 12) (.const (.int .i64 (4)))),
          .op (some 32) none (.mv (.tmp 33))]) (
       .cond (.tmp 32) (
        .reg [.op (some 34) none (.mv (.tmp 1)),
          .op (some 35) none (.mv (.tmp 2)),
          .op (some 36) none (.mv (.tmp 1)),
          .op (some 37) none (.bin .sub (.tmp 35) (.tmp 36)),
          .op (some 38) none (.bin .geq (.tmp 34) (.tmp 37)),
          .op (some 11) none (.mv (.tmp 38))]) (
        .seq (
         .reg [.op (some 40) none (.bin .eql (.tmp 12) (.const (.int .i64 (5)))),
           .op (some 39) none (.mv (.tmp 40))]) (
        .cond (.tmp 39) (
         .reg [.op (some 41) none (.mv (.tmp 1)),
           .op (some 42) none (.mv (.tmp 2)),
           .op (some 43) none (.mv (.tmp 1)),
           .op (some 44) none (.bin .sub (.tmp 42) (.tmp 43)),
           .op (some 45) none (.bin .gtr (.tmp 41) (.tmp 44)),
           .op (some 46) none (.mv (.tmp 45)),
           .op (some 47) (some (46, false)) (.mv (.tmp 1)),
           .op (some 48) (some (46, false)) (.mv (.tmp 2)),
           .op (some 49) (some (46, false)) (.mv (.tmp 1)),
           .op (some 50) (some (46, false)) (.bin .sub (.tmp 48) (.tmp 49)),
           .op (some 51) (some (46, false)) (.bin .eql (.tmp 47) (.tmp 50)),
           .op (some 52) (some (46, false)) (.mv (.tmp 51)),
           .op (some 53) (some (52, true)) (.mv (.tmp 0)),
           .op (some 54) (some (52, true)) (.bin .rem (.tmp 53) (.const (.int .i64 (2)))),
           .op (some 55) (some (52, true)) (.bin .eql (.tmp 54) (.const (.int .i64 (1)))),
           .op (some 56) (some (46, false)) (.pick (.tmp 52) (.tmp 55) (.const (.bool false))),
           .op (some 57) none (.pick (.tmp 46) (.const (.bool true)) (.tmp 56)),
           .op (some 11) none (.mv (.tmp 57))]) (
         .skip))))))))))))) (
  .seq (
   .seq (
    .reg [.op (some 58) none (.mv (.tmp 11))]) (
   .cond (.tmp 58) (
    .reg [.op (some 59) none (.mv (.tmp 0)),
      .op (some 60) none (.bin .add (.tmp 59) (.const (.int .i64 (1)))),
      .op (some 0) none (.mv (.tmp 60))]) (
    .skip))) (
  .seq (
   .seq (
    .reg [.op (some 61) none (.mv (.tmp 3))]) (
   .cond (.tmp 61) (
    .seq (
     .reg [.op (some 62) none (.mv (.tmp 0)),
       .op (some 63) none (.un .neg (.tmp 62)),
       .op (some 10) none (.mv (.tmp 63))]) (
    .ret)) (
    .skip))) (
  .seq (
   .reg [.op (some 64) none (.mv (.tmp 0)),
     .op (some 10) none (.mv (.tmp 64))]) (
  .ret))))))
def k54 : Fun := ⟨65, [.tmp 10], k54c⟩
theorem k54_ok : compF Try.prog 54 = some k54 := by kernel_rfl
theorem k54_name : ((Try.prog.funcs[54]?).map fun fn => fn.name == "runtime.NumGoroutine") = some false := by kernel_rfl
/-- math/bits.LeadingZeros64 -/
def k55c : C :=
  .seq (
   .reg [.op (some 2) none (.mv (.const (.int .i64 (0))))]) (
  .seq (
   .reg [.op (some 3) none (.mv (.tmp 0)),
     .call (some 4) none (.func 56) [(.tmp 3)],
     .op (some 5) none (.bin .sub (.const (.int .i64 (64))) (.tmp 4)),
     .op (some 2) none (.mv (.tmp 5))]) (
  .ret))
def k55 : Fun := ⟨6, [.tmp 2], k55c⟩
theorem k55_ok : compF Try.prog 55 = some k55 := by kernel_rfl
theorem k55_name : ((Try.prog.funcs[55]?).map fun fn => fn.name == "runtime.NumGoroutine") = some false := by kernel_rfl
/-- math/bits.Len64 -/
def k56c : C :=
  .seq (
   .reg [.op (some 2) none (.mv (.const (.int .i64 (0))))]) (
  .seq (
   .seq (
    .reg [.op (some 3) none (.mv (.tmp 0)),
      .op (some 4) none (.bin .geq (.tmp 3) (.const (.int .u64 (4294967296))))]) (
   .cond (.tmp 4) (
    .seq (
     .reg [.op (some 5) none (.mv (.tmp 0)),
       .op (some 6) none (.bin .shr (.tmp 5) (.const (.int .u64 (32)))),
       .op (some 0) none (.mv (.tmp 6))]) (
    .reg [.op (some 2) none (.mv (.const (.int .i64 (32))))])) (
    .skip))) (
  .seq (
   .seq (
    .reg [.op (some 7) none (.mv (.tmp 0)),
      .op (some 8) none (.bin .geq (.tmp 7) (.const (.int .u64 (65536))))]) (
   .cond (.tmp 8) (
    .seq (
     .reg [.op (some 9) none (.mv (.tmp 0)),
       .op (some 10) none (.bin .shr (.tmp 9) (.const (.int .u64 (16)))),
       .op (some 0) none (.mv (.tmp 10))]) (
    .reg [.op (some 11) none (.mv (.tmp 2)),
      .op (some 12) none (.bin .add (.tmp 11) (.const (.int .i64 (16)))),
      .op (some 2) none (.mv (.tmp 12))])) (
    .skip))) (
  .seq (
   .seq (
    .reg [.op (some 13) none (.mv (.tmp 0)),
      .op (some 14) none (.bin .geq (.tmp 13) (.const (.int .u64 (256))))]) (
   .cond (.tmp 14) (
    .seq (
     .reg [.op (some 15) none (.mv (.tmp 0)),
       .op (some 16) none (.bin .shr (.tmp 15) (.const (.int .u64 (8)))),
       .op (some 0) none (.mv (.tmp 16))]) (
    .reg [.op (some 17) none (.mv (.tmp 2)),
      .op (some 18) none (.bin .add (.tmp 17) (.const (.int .i64 (8)))),
      .op (some 2) none (.mv (.tmp 18))])) (
    .skip))) (
  .seq (
   .reg [.op (some 19) none (.mv (.tmp 2)),
     .op (some 20) none (.mv (.tmp 0)),
     .op (some 21) none (.conv .u8 (.tmp 20)),
     .op (some 22) none (.sidx (.const (.string ⟨#[0, 1, 2, 2, 3, 3, 3, 3, 4, 4, 4, 4, 4, 4, 4, 4, 5, 5, 5, 5, 5, 5, 5, 5, 5, 5, 5, 5, 5, 5, 5, 5, 6, 6, 6, 6, 6, 6, 6, 6, 6, 6, 6, 6, 6, 6, 6, 6, 6, 6, 6, 6, 6, 6, 6, 6, 6, 6, 6, 6, 6, 6, 6, 6, 7, 7, 7, 7, 7, 7, 7, 7, 7, 7, 7, 7, 7, 7, 7, 7, 7, 7, 7, 7, 7, 7, 7, 7, 7, 7, 7, 7, 7, 7, 7, 7, 7, 7, 7, 7, 7, 7, 7, 7, 7, 7, 7, 7, 7, 7, 7, 7, 7, 7, 7, 7, 7, 7, 7, 7, 7, 7, 7, 7, 7, 7, 7, 7, 8, 8, 8, 8, 8, 8, 8, 8, 8, 8, 8, 8, 8, 8, 8, 8, 8, 8, 8, 8, 8, 8, 8, 8, 8, 8, 8, 8, 8, 8, 8, 8, 8, 8, 8, 8, 8, 8, 8, 8, 8, 8, 8, 8, 8, 8, 8, 8, 8, 8, 8, 8, 8, 8, 8, 8, 8, 8, 8, 8, 8, 8, 8, 8, 8, 8, 8, 8, 8, 8, 8, 8, 8, 8, 8, 8, 8, 8, 8, 8, 8, 8, 8, 8, 8, 8, 8, 8, 8, 8, 8, 8, 8, 8, 8, 8, 8, 8, 8, 8, 8, 8, 8, 8, 8, 8, 8, 8, 8, 8, 8, 8, 8, 8, 8, 8, 8, 8, 8, 8, 8, 8, 8, 8, 8, 8, 8, 8]⟩)) (.tmp 21)),
     .op (some 23) none (.conv .i64 (.tmp 22)),
     .op (some 24) none (.bin .add (.tmp 19) (.tmp 23)),
     .op (some 2) none (.mv (.tmp 24))]) (
  .ret)))))
def k56 : Fun := ⟨25, [.tmp 2], k56c⟩
theorem k56_ok : compF Try.prog 56 = some k56 := by kernel_rfl
theorem k56_name : ((Try.prog.funcs[56]?).map fun fn => fn.name == "runtime.NumGoroutine") = some false := by kernel_rfl
def tab : List (Nat × Fun) := [(2, k2), (3, k3), (4, k4), (5, k5), (6, k6), (7, k7), (8, k8), (9, k9), (10, k10), (11, k11), (12, k12), (13, k13), (14, k14), (15, k15), (16, k16), (17, k17), (18, k18), (19, k19), (20, k20), (21, k21), (22, k22), (23, k23), (24, k24), (25, k25), (26, k26), (27, k27), (28, k28), (29, k29), (30, k30), (31, k31), (32, k32), (33, k33), (34, k34), (35, k35), (36, k36), (37, k37), (38, k38), (39, k39), (40, k40), (41, k41), (42, k42), (43, k43), (44, k44), (45, k45), (46, k46), (47, k47), (48, k48), (49, k49), (50, k50), (51, k51), (52, k52), (53, k53), (54, k54), (55, k55), (56, k56)]
theorem tab_ok : TabOk Try.prog tab := by
  unfold TabOk tab
  simp only [List.forall_mem_cons]
  exact ⟨⟨k2_ok, k2_name⟩, ⟨k3_ok, k3_name⟩, ⟨k4_ok, k4_name⟩, ⟨k5_ok, k5_name⟩, ⟨k6_ok, k6_name⟩, ⟨k7_ok, k7_name⟩, ⟨k8_ok, k8_name⟩, ⟨k9_ok, k9_name⟩, ⟨k10_ok, k10_name⟩, ⟨k11_ok, k11_name⟩, ⟨k12_ok, k12_name⟩, ⟨k13_ok, k13_name⟩, ⟨k14_ok, k14_name⟩, ⟨k15_ok, k15_name⟩, ⟨k16_ok, k16_name⟩, ⟨k17_ok, k17_name⟩, ⟨k18_ok, k18_name⟩, ⟨k19_ok, k19_name⟩, ⟨k20_ok, k20_name⟩, ⟨k21_ok, k21_name⟩, ⟨k22_ok, k22_name⟩, ⟨k23_ok, k23_name⟩, ⟨k24_ok, k24_name⟩, ⟨k25_ok, k25_name⟩, ⟨k26_ok, k26_name⟩, ⟨k27_ok, k27_name⟩, ⟨k28_ok, k28_name⟩, ⟨k29_ok, k29_name⟩, ⟨k30_ok, k30_name⟩, ⟨k31_ok, k31_name⟩, ⟨k32_ok, k32_name⟩, ⟨k33_ok, k33_name⟩, ⟨k34_ok, k34_name⟩, ⟨k35_ok, k35_name⟩, ⟨k36_ok, k36_name⟩, ⟨k37_ok, k37_name⟩, ⟨k38_ok, k38_name⟩, ⟨k39_ok, k39_name⟩, ⟨k40_ok, k40_name⟩, ⟨k41_ok, k41_name⟩, ⟨k42_ok, k42_name⟩, ⟨k43_ok, k43_name⟩, ⟨k44_ok, k44_name⟩, ⟨k45_ok, k45_name⟩, ⟨k46_ok, k46_name⟩, ⟨k47_ok, k47_name⟩, ⟨k48_ok, k48_name⟩, ⟨k49_ok, k49_name⟩, ⟨k50_ok, k50_name⟩, ⟨k51_ok, k51_name⟩, ⟨k52_ok, k52_name⟩, ⟨k53_ok, k53_name⟩, ⟨k54_ok, k54_name⟩, ⟨k55_ok, k55_name⟩, ⟨k56_ok, k56_name⟩, fun _ h => (by cases h)⟩
end Go.Proofs.Ytlfhdejlpnljbaa
