/- What the functions of a bucket hand back, over plain values; no conditions. -/
import Derived.Test.YtcicoepkmiahbaaPlain5
namespace Go.Proofs.Ytcicoepkmiahbaa.Rate
open Go Go.Abs
set_option linter.unusedSimpArgs false
set_option linter.unusedVariables false
set_option maxRecDepth 100000
def lp8_0 : PC :=
  ((PC.reg [⟨.t 69, .mv false (.v 9), none⟩, ⟨.t 70, .mv false (.v 5), none⟩, ⟨.t 71, .bin .lss (.t 69) (.t 70), none⟩]).seq (PC.cond (.t 71) PC.skip
    (PC.exit 0))).seq ((PC.block 1 (((PC.reg [⟨.t 74, .fadr 0 0 (.v 8), none⟩, ⟨.t 75, .load 1 false (.t 74), none⟩, ⟨.t 76, .mv false (.v 1), none⟩, ⟨.t
    77, .bin .geq (.t 75) (.t 76), none⟩]).seq (PC.cond (.t 77) ((PC.reg [⟨.v 4, .mv true (.c (.v (.bool false))), none⟩]).seq PC.ret) PC.skip)).seq
    (PC.reg [⟨.t 78, .load 5 true (.v 8), none⟩, ⟨.t 79, .call 35 [.t 78], none⟩, ⟨.no, .store 5 (.v 8) (.t 79), none⟩]))).seq (PC.reg [⟨.t 72, .mv false
    (.v 9), none⟩, ⟨.t 73, .bin .add (.t 72) (.c (.v (.int .i64 1))), none⟩, ⟨.v 9, .mv true (.t 73), none⟩]))
def pf8 : PF :=
  PF.mk 2 10 87 ((PC.reg [⟨.v 2, .box (.v 0), none⟩, ⟨.v 4, .mv true (.c (.v (.bool false))), none⟩]).seq ((PC.reg [⟨.t 11, .load 5 true (.v 2), none⟩,
    ⟨.t 12, .mv false (.v 1), none⟩, ⟨.t 13, .call 32 [.t 11, .t 12], none⟩, ⟨.t 10, .mv false (.t 13), none⟩, ⟨.t 14, .ext (.t 10) 0, none⟩, ⟨.t 15,
    .ext (.t 10) 1, none⟩, ⟨.v 5, .mv true (.t 14), none⟩, ⟨.v 6, .mv true (.t 15), none⟩]).seq ((PC.reg [⟨.t 16, .load 5 true (.v 2), none⟩, ⟨.t 17,
    .call 33 [.t 16], none⟩, ⟨.t 18, .mv false (.t 17), none⟩, ⟨.t 19, .mv false (.v 1), some (.t 18, true)⟩, ⟨.t 20, .bin .geq (.t 19) (.c (.v (.int
    .i64 1))), some (.t 18, true)⟩, ⟨.t 21, .pick (.t 18) (.t 20) (.c (.v (.bool false))), none⟩, ⟨.t 22, .mv false (.t 21), none⟩, ⟨.t 23, .mv false (.v
    1), some (.t 22, true)⟩, ⟨.t 24, .bin .leq (.t 23) (.c (.v (.int .i64 1000))), some (.t 22, true)⟩, ⟨.t 25, .pick (.t 22) (.t 24) (.c (.v (.bool
    false))), none⟩, ⟨.v 7, .mv true (.t 25), none⟩]).seq (((PC.reg [⟨.t 26, .mv false (.v 7), none⟩, ⟨.t 27, .un .not (.t 26), none⟩]).seq (PC.cond (.t
    27) ((PC.reg [⟨.t 28, .mv false (.v 6), none⟩, ⟨.t 29, .bin .eql (.t 28) (.c (.v (.int .i64 1))), none⟩, ⟨.t 30, .mv false (.t 29), none⟩, ⟨.t 31,
    .mv false (.v 5), some (.t 30, true)⟩, ⟨.t 32, .bin .eql (.t 31) (.c (.v (.int .i64 0))), some (.t 30, true)⟩, ⟨.t 33, .pick (.t 30) (.t 32) (.c (.v
    (.bool false))), none⟩, ⟨.t 34, .mv false (.t 33), none⟩, ⟨.t 35, .call 34 [], some (.t 34, true)⟩, ⟨.t 36, .pick (.t 34) (.t 35) (.c (.v (.bool
    false))), none⟩, ⟨.v 4, .mv true (.t 36), none⟩]).seq PC.ret) PC.skip)).seq (((PC.reg [⟨.t 37, .mv false (.v 1), none⟩, ⟨.t 38, .fadr 1 1 (.v 2),
    none⟩, ⟨.t 39, .load 1 false (.t 38), none⟩, ⟨.t 40, .bin .gtr (.t 37) (.t 39), none⟩]).seq (PC.cond (.t 40) ((PC.reg [⟨.t 41, .mv false (.v 6),
    none⟩, ⟨.t 42, .bin .eql (.t 41) (.c (.v (.int .i64 3))), none⟩, ⟨.t 43, .mv false (.t 42), none⟩, ⟨.t 44, .mv false (.v 5), some (.t 43, true)⟩, ⟨.t
    45, .bin .eql (.t 44) (.c (.v (.int .i64 0))), some (.t 43, true)⟩, ⟨.t 46, .pick (.t 43) (.t 45) (.c (.v (.bool false))), none⟩, ⟨.t 47, .mv false
    (.t 46), none⟩, ⟨.t 48, .call 34 [], some (.t 47, true)⟩, ⟨.t 49, .pick (.t 47) (.t 48) (.c (.v (.bool false))), none⟩, ⟨.v 4, .mv true (.t 49),
    none⟩]).seq PC.ret) PC.skip)).seq (((PC.reg [⟨.t 50, .mv false (.v 6), none⟩, ⟨.t 51, .bin .neq (.t 50) (.c (.v (.int .i64 0))), none⟩, ⟨.t 52, .mv
    false (.t 51), none⟩, ⟨.t 53, .mv false (.v 5), some (.t 52, false)⟩, ⟨.t 54, .bin .lss (.t 53) (.c (.v (.int .i64 0))), some (.t 52, false)⟩, ⟨.t
    55, .pick (.t 52) (.c (.v (.bool true))) (.t 54), none⟩, ⟨.t 56, .mv false (.t 55), none⟩, ⟨.t 57, .mv false (.v 5), some (.t 56, false)⟩, ⟨.t 58,
    .bin .eql (.t 57) (.c (.v (.int .i64 0))), some (.t 56, false)⟩, ⟨.t 59, .mv false (.v 1), some (.t 56, false)⟩, ⟨.t 60, .fadr 0 0 (.v 2), some (.t
    56, false)⟩, ⟨.t 61, .load 1 false (.t 60), some (.t 56, false)⟩, ⟨.t 62, .bin .leq (.t 59) (.t 61), some (.t 56, false)⟩, ⟨.t 63, .binB .neq (.t 58)
    (.t 62), some (.t 56, false)⟩, ⟨.t 64, .pick (.t 56) (.c (.v (.bool true))) (.t 63), none⟩]).seq (PC.cond (.t 64) ((PC.reg [⟨.v 4, .mv true (.c (.v
    (.bool false))), none⟩]).seq PC.ret) PC.skip)).seq (((PC.reg [⟨.t 65, .mv false (.v 5), none⟩, ⟨.t 66, .bin .gtr (.t 65) (.c (.v (.int .i64 3000))),
    none⟩]).seq (PC.cond (.t 66) ((PC.reg [⟨.t 67, .call 34 [], none⟩, ⟨.v 4, .mv true (.t 67), none⟩]).seq PC.ret) PC.skip)).seq ((PC.reg [⟨.t 68, .load
    5 true (.v 2), none⟩, ⟨.v 8, .alloc (.agg [.int .i64 0, .int .i64 0, .int .i64 0, .int .i64 0, .int .i64 0]), none⟩, ⟨.no, .store 5 (.v 8) (.t 68),
    none⟩]).seq (((PC.reg [⟨.v 9, .mv true (.c (.v (.int .i64 0))), none⟩]).seq (PC.block 0 (PC.loop [1, 5, 8, 9] lp8_0))).seq ((PC.reg [⟨.t 80, .fadr 0
    0 (.v 8), none⟩, ⟨.t 81, .load 1 false (.t 80), none⟩, ⟨.t 82, .mv false (.v 1), none⟩, ⟨.t 83, .bin .geq (.t 81) (.t 82), none⟩, ⟨.t 84, .mv false
    (.t 83), none⟩, ⟨.t 85, .call 34 [], some (.t 84, true)⟩, ⟨.t 86, .pick (.t 84) (.t 85) (.c (.v (.bool false))), none⟩, ⟨.v 4, .mv true (.t 86),
    none⟩]).seq PC.ret)))))))))) [(.v 4, none)]
def pf32 : PF :=
  PF.mk 2 7 42 ((PC.reg [⟨.v 2, .box (.v 0), none⟩, ⟨.v 4, .mv true (.c (.v (.int .i64 0))), none⟩, ⟨.v 5, .mv true (.c (.v (.int .i64 0))), none⟩]).seq
    ((PC.block 0 (((PC.reg [⟨.t 8, .load 5 true (.v 2), none⟩, ⟨.t 9, .call 40 [.t 8], none⟩, ⟨.t 10, .bin .neq (.t 9) (.c (.v (.int .i64 0))), none⟩,
    ⟨.t 7, .mv true (.t 10), none⟩]).seq (PC.cond (.t 7) PC.skip (PC.reg [⟨.t 11, .mv false (.v 1), none⟩, ⟨.t 12, .call 47 [.t 11, .c (.v (.int .i64
    1)), .c (.v (.int .i64 1000))], none⟩, ⟨.t 13, .un .not (.t 12), none⟩, ⟨.t 7, .mv true (.t 13), none⟩]))).seq (PC.cond (.t 7) ((PC.reg [⟨.v 4, .mv
    true (.c (.v (.int .i64 0))), none⟩, ⟨.v 5, .mv true (.c (.v (.int .i64 1))), none⟩]).seq PC.ret) ((PC.reg [⟨.t 15, .mv false (.v 1), none⟩, ⟨.t 16,
    .fadr 1 1 (.v 2), none⟩, ⟨.t 17, .load 1 false (.t 16), none⟩, ⟨.t 18, .bin .gtr (.t 15) (.t 17), none⟩, ⟨.t 14, .mv true (.t 18), none⟩]).seq
    (PC.cond (.t 14) ((PC.reg [⟨.v 4, .mv true (.c (.v (.int .i64 0))), none⟩, ⟨.v 5, .mv true (.c (.v (.int .i64 3))), none⟩]).seq PC.ret) ((PC.reg [⟨.t
    20, .mv false (.v 1), none⟩, ⟨.t 21, .fadr 0 0 (.v 2), none⟩, ⟨.t 22, .load 1 false (.t 21), none⟩, ⟨.t 23, .bin .leq (.t 20) (.t 22), none⟩, ⟨.t 19,
    .mv true (.t 23), none⟩]).seq (PC.cond (.t 19) ((PC.reg [⟨.v 4, .mv true (.c (.v (.int .i64 0))), none⟩, ⟨.v 5, .mv true (.c (.v (.int .i64 0))),
    none⟩]).seq PC.ret) PC.skip))))))).seq ((PC.reg [⟨.t 24, .mv false (.v 1), none⟩, ⟨.t 25, .fadr 0 0 (.v 2), none⟩, ⟨.t 26, .load 1 false (.t 25),
    none⟩, ⟨.t 27, .bin .sub (.t 24) (.t 26), none⟩, ⟨.t 28, .fadr 2 2 (.v 2), none⟩, ⟨.t 29, .load 1 false (.t 28), none⟩, ⟨.t 30, .bin .add (.t 27) (.t
    29), none⟩, ⟨.t 31, .bin .sub (.t 30) (.c (.v (.int .i64 1))), none⟩, ⟨.t 32, .fadr 2 2 (.v 2), none⟩, ⟨.t 33, .load 1 false (.t 32), none⟩, ⟨.t 34,
    .bin .quo (.t 31) (.t 33), none⟩, ⟨.v 6, .mv true (.t 34), none⟩]).seq ((PC.reg [⟨.t 35, .mv false (.v 6), none⟩, ⟨.t 36, .fadr 3 3 (.v 2), none⟩,
    ⟨.t 37, .load 1 false (.t 36), none⟩, ⟨.t 38, .bin .mul (.t 35) (.t 37), none⟩, ⟨.t 39, .fadr 4 4 (.v 2), none⟩, ⟨.t 40, .load 1 false (.t 39),
    none⟩, ⟨.t 41, .bin .sub (.t 38) (.t 40), none⟩, ⟨.v 4, .mv true (.t 41), none⟩, ⟨.v 5, .mv true (.c (.v (.int .i64 0))), none⟩]).seq PC.ret)))) [(.v
    4, none), (.v 5, none)]
def pf33 : PF :=
  PF.mk 1 3 55 ((PC.reg [⟨.v 1, .box (.v 0), none⟩, ⟨.v 2, .mv true (.c (.v (.bool false))), none⟩]).seq ((PC.reg [⟨.t 3, .fadr 1 1 (.v 1), none⟩, ⟨.t 4,
    .load 1 false (.t 3), none⟩, ⟨.t 5, .bin .geq (.t 4) (.c (.v (.int .i64 1))), none⟩, ⟨.t 6, .mv false (.t 5), none⟩, ⟨.t 7, .fadr 1 1 (.v 1), some
    (.t 6, true)⟩, ⟨.t 8, .load 1 false (.t 7), some (.t 6, true)⟩, ⟨.t 9, .bin .leq (.t 8) (.c (.v (.int .i64 1000))), some (.t 6, true)⟩, ⟨.t 10, .pick
    (.t 6) (.t 9) (.c (.v (.bool false))), none⟩, ⟨.t 11, .mv false (.t 10), none⟩, ⟨.t 12, .fadr 0 0 (.v 1), some (.t 11, true)⟩, ⟨.t 13, .load 1 false
    (.t 12), some (.t 11, true)⟩, ⟨.t 14, .bin .geq (.t 13) (.c (.v (.int .i64 0))), some (.t 11, true)⟩, ⟨.t 15, .pick (.t 11) (.t 14) (.c (.v (.bool
    false))), none⟩, ⟨.t 16, .mv false (.t 15), none⟩, ⟨.t 17, .fadr 0 0 (.v 1), some (.t 16, true)⟩, ⟨.t 18, .load 1 false (.t 17), some (.t 16, true)⟩,
    ⟨.t 19, .fadr 1 1 (.v 1), some (.t 16, true)⟩, ⟨.t 20, .load 1 false (.t 19), some (.t 16, true)⟩, ⟨.t 21, .bin .leq (.t 18) (.t 20), some (.t 16,
    true)⟩, ⟨.t 22, .pick (.t 16) (.t 21) (.c (.v (.bool false))), none⟩, ⟨.t 23, .mv false (.t 22), none⟩, ⟨.t 24, .fadr 2 2 (.v 1), some (.t 23,
    true)⟩, ⟨.t 25, .load 1 false (.t 24), some (.t 23, true)⟩, ⟨.t 26, .bin .geq (.t 25) (.c (.v (.int .i64 1))), some (.t 23, true)⟩, ⟨.t 27, .pick (.t
    23) (.t 26) (.c (.v (.bool false))), none⟩, ⟨.t 28, .mv false (.t 27), none⟩, ⟨.t 29, .fadr 2 2 (.v 1), some (.t 28, true)⟩, ⟨.t 30, .load 1 false
    (.t 29), some (.t 28, true)⟩, ⟨.t 31, .bin .leq (.t 30) (.c (.v (.int .i64 1000))), some (.t 28, true)⟩, ⟨.t 32, .pick (.t 28) (.t 31) (.c (.v (.bool
    false))), none⟩, ⟨.t 33, .mv false (.t 32), none⟩, ⟨.t 34, .fadr 3 3 (.v 1), some (.t 33, true)⟩, ⟨.t 35, .load 1 false (.t 34), some (.t 33, true)⟩,
    ⟨.t 36, .bin .geq (.t 35) (.c (.v (.int .i64 1))), some (.t 33, true)⟩, ⟨.t 37, .pick (.t 33) (.t 36) (.c (.v (.bool false))), none⟩, ⟨.t 38, .mv
    false (.t 37), none⟩, ⟨.t 39, .fadr 3 3 (.v 1), some (.t 38, true)⟩, ⟨.t 40, .load 1 false (.t 39), some (.t 38, true)⟩, ⟨.t 41, .bin .leq (.t 40)
    (.c (.v (.int .i64 1000))), some (.t 38, true)⟩, ⟨.t 42, .pick (.t 38) (.t 41) (.c (.v (.bool false))), none⟩, ⟨.t 43, .mv false (.t 42), none⟩, ⟨.t
    44, .fadr 4 4 (.v 1), some (.t 43, true)⟩, ⟨.t 45, .load 1 false (.t 44), some (.t 43, true)⟩, ⟨.t 46, .bin .geq (.t 45) (.c (.v (.int .i64 0))),
    some (.t 43, true)⟩, ⟨.t 47, .pick (.t 43) (.t 46) (.c (.v (.bool false))), none⟩, ⟨.t 48, .mv false (.t 47), none⟩, ⟨.t 49, .fadr 4 4 (.v 1), some
    (.t 48, true)⟩, ⟨.t 50, .load 1 false (.t 49), some (.t 48, true)⟩, ⟨.t 51, .fadr 3 3 (.v 1), some (.t 48, true)⟩, ⟨.t 52, .load 1 false (.t 51),
    some (.t 48, true)⟩, ⟨.t 53, .bin .lss (.t 50) (.t 52), some (.t 48, true)⟩, ⟨.t 54, .pick (.t 48) (.t 53) (.c (.v (.bool false))), none⟩, ⟨.v 2, .mv
    true (.t 54), none⟩]).seq PC.ret)) [(.v 2, none)]
def pf34 : PF :=
  PF.mk 0 6 37 ((PC.reg [⟨.v 0, .mv true (.c (.v (.bool false))), none⟩]).seq ((PC.reg [⟨.t 7, .build (.agg [.int .i64 0, .int .i64 0, .int .i64 0, .int
    .i64 0, .int .i64 0]) [(1, .c (.v (.int .i64 5))), (2, .c (.v (.int .i64 1))), (3, .c (.v (.int .i64 3)))], none⟩, ⟨.t 8, .call 32 [.t 7, .c (.v
    (.int .i64 1))], none⟩, ⟨.t 6, .mv false (.t 8), none⟩, ⟨.t 9, .ext (.t 6) 0, none⟩, ⟨.t 10, .ext (.t 6) 1, none⟩, ⟨.v 1, .mv true (.t 9), none⟩, ⟨.v
    2, .mv true (.t 10), none⟩]).seq ((PC.reg [⟨.t 12, .build (.agg [.int .i64 0, .int .i64 0, .int .i64 0, .int .i64 0, .int .i64 0]) [(1, .c (.v (.int
    .i64 5))), (2, .c (.v (.int .i64 1))), (3, .c (.v (.int .i64 1)))], none⟩, ⟨.t 13, .buildS (some .i64) 1 (.int .i64 0) 4 [(0, .c (.v (.int .i64 0))),
    (1, .c (.v (.int .i64 0))), (2, .c (.v (.int .i64 2))), (3, .c (.v (.int .i64 1)))], none⟩, ⟨.t 14, .call 38 [.t 12, .t 13], none⟩, ⟨.t 11, .mv false
    (.t 14), none⟩, ⟨.t 15, .ext (.t 11) 0, none⟩, ⟨.t 16, .ext (.t 11) 1, none⟩, ⟨.t 17, .ext (.t 11) 2, none⟩, ⟨.v 3, .alloc (.agg [.int .i64 0, .int
    .i64 0, .int .i64 0, .int .i64 0, .int .i64 0]), none⟩, ⟨.no, .store 5 (.v 3) (.t 15), none⟩, ⟨.v 4, .mv true (.t 16), none⟩, ⟨.v 5, .mv true (.t
    17), none⟩]).seq ((PC.reg [⟨.t 18, .mv false (.v 2), none⟩, ⟨.t 19, .bin .eql (.t 18) (.c (.v (.int .i64 0))), none⟩, ⟨.t 20, .mv false (.t 19),
    none⟩, ⟨.t 21, .mv false (.v 1), some (.t 20, true)⟩, ⟨.t 22, .bin .eql (.t 21) (.c (.v (.int .i64 3))), some (.t 20, true)⟩, ⟨.t 23, .pick (.t 20)
    (.t 22) (.c (.v (.bool false))), none⟩, ⟨.t 24, .mv false (.t 23), none⟩, ⟨.t 25, .mv false (.v 5), some (.t 24, true)⟩, ⟨.t 26, .bin .eql (.t 25)
    (.c (.v (.int .i64 0))), some (.t 24, true)⟩, ⟨.t 27, .pick (.t 24) (.t 26) (.c (.v (.bool false))), none⟩, ⟨.t 28, .mv false (.t 27), none⟩, ⟨.t 29,
    .mv false (.v 4), some (.t 28, true)⟩, ⟨.t 30, .bin .eql (.t 29) (.c (.v (.int .i64 2))), some (.t 28, true)⟩, ⟨.t 31, .pick (.t 28) (.t 30) (.c (.v
    (.bool false))), none⟩, ⟨.t 32, .mv false (.t 31), none⟩, ⟨.t 33, .fadr 0 0 (.v 3), some (.t 32, true)⟩, ⟨.t 34, .load 1 false (.t 33), some (.t 32,
    true)⟩, ⟨.t 35, .bin .eql (.t 34) (.c (.v (.int .i64 0))), some (.t 32, true)⟩, ⟨.t 36, .pick (.t 32) (.t 35) (.c (.v (.bool false))), none⟩, ⟨.v 0,
    .mv true (.t 36), none⟩]).seq PC.ret)))) [(.v 0, none)]
def lp35_0 : PC :=
  ((PC.reg [⟨.t 16, .mv false (.v 3), none⟩, ⟨.t 17, .fadr 2 2 (.v 1), none⟩, ⟨.t 18, .load 1 false (.t 17), none⟩, ⟨.t 19, .bin .lss (.t 16) (.t 18),
    none⟩, ⟨.t 20, .mv false (.t 19), none⟩, ⟨.t 21, .fadr 0 0 (.v 1), some (.t 20, true)⟩, ⟨.t 22, .load 1 false (.t 21), some (.t 20, true)⟩, ⟨.t 23,
    .fadr 1 1 (.v 1), some (.t 20, true)⟩, ⟨.t 24, .load 1 false (.t 23), some (.t 20, true)⟩, ⟨.t 25, .bin .lss (.t 22) (.t 24), some (.t 20, true)⟩,
    ⟨.t 26, .pick (.t 20) (.t 25) (.c (.v (.bool false))), none⟩]).seq (PC.cond (.t 26) PC.skip (PC.exit 0))).seq ((PC.block 1 (PC.reg [⟨.t 29, .fadr 0 0
    (.v 1), none⟩, ⟨.t 30, .load 1 false (.t 29), none⟩, ⟨.t 31, .bin .add (.t 30) (.c (.v (.int .i64 1))), none⟩, ⟨.t 32, .fadr 0 0 (.v 1), none⟩, ⟨.no,
    .store 1 (.t 32) (.t 31), none⟩])).seq (PC.reg [⟨.t 27, .mv false (.v 3), none⟩, ⟨.t 28, .bin .add (.t 27) (.c (.v (.int .i64 1))), none⟩, ⟨.v 3, .mv
    true (.t 28), none⟩]))
def pf35 : PF :=
  PF.mk 1 4 34 ((PC.reg [⟨.v 1, .box (.v 0), none⟩, ⟨.v 2, .alloc (.agg [.int .i64 0, .int .i64 0, .int .i64 0, .int .i64 0, .int .i64 0]), none⟩]).seq
    (((PC.reg [⟨.t 4, .fadr 4 4 (.v 1), none⟩, ⟨.t 5, .load 1 false (.t 4), none⟩, ⟨.t 6, .bin .add (.t 5) (.c (.v (.int .i64 1))), none⟩, ⟨.t 7, .fadr 3
    3 (.v 1), none⟩, ⟨.t 8, .load 1 false (.t 7), none⟩, ⟨.t 9, .bin .lss (.t 6) (.t 8), none⟩]).seq (PC.cond (.t 9) ((PC.reg [⟨.t 10, .fadr 4 4 (.v 1),
    none⟩, ⟨.t 11, .load 1 false (.t 10), none⟩, ⟨.t 12, .bin .add (.t 11) (.c (.v (.int .i64 1))), none⟩, ⟨.t 13, .fadr 4 4 (.v 1), none⟩, ⟨.no, .store
    1 (.t 13) (.t 12), none⟩]).seq ((PC.reg [⟨.t 14, .load 5 true (.v 1), none⟩, ⟨.no, .store 5 (.v 2) (.t 14), none⟩]).seq PC.ret)) PC.skip)).seq
    ((PC.reg [⟨.t 15, .fadr 4 4 (.v 1), none⟩, ⟨.no, .store 1 (.t 15) (.c (.v (.int .i64 0))), none⟩]).seq (((PC.reg [⟨.v 3, .mv true (.c (.v (.int .i64
    0))), none⟩]).seq (PC.block 0 (PC.loop [1, 2, 3] lp35_0))).seq ((PC.reg [⟨.t 33, .load 5 true (.v 1), none⟩, ⟨.no, .store 5 (.v 2) (.t 33),
    none⟩]).seq PC.ret))))) [(.v 2, some (5, true))]
def pf36 : PF :=
  PF.mk 1 5 13 ((PC.reg [⟨.v 1, .box (.v 0), none⟩, ⟨.v 2, .alloc (.agg [.int .i64 0, .int .i64 0, .int .i64 0, .int .i64 0, .int .i64 0]), none⟩, ⟨.v 3,
    .mv true (.c (.v (.int .i64 0))), none⟩]).seq (((PC.reg [⟨.t 5, .load 5 true (.v 1), none⟩, ⟨.t 6, .call 40 [.t 5], none⟩, ⟨.v 4, .mv true (.t 6),
    none⟩]).seq ((PC.reg [⟨.t 7, .mv false (.v 4), none⟩, ⟨.t 8, .bin .neq (.t 7) (.c (.v (.int .i64 0))), none⟩]).seq (PC.cond (.t 8) ((PC.reg [⟨.t 9,
    .build (.agg [.int .i64 0, .int .i64 0, .int .i64 0, .int .i64 0, .int .i64 0]) [], none⟩, ⟨.t 10, .mv false (.v 4), none⟩, ⟨.no, .store 5 (.v 2) (.t
    9), none⟩, ⟨.v 3, .mv true (.t 10), none⟩]).seq PC.ret) PC.skip))).seq ((PC.reg [⟨.t 11, .load 5 true (.v 1), none⟩, ⟨.t 12, .call 48 [.t 11], none⟩,
    ⟨.no, .store 5 (.v 2) (.t 12), none⟩, ⟨.v 3, .mv true (.c (.v (.int .i64 0))), none⟩]).seq PC.ret))) [(.v 2, some (5, true)), (.v 3, none)]
def pf37 : PF :=
  PF.mk 2 6 26 ((PC.reg [⟨.v 2, .box (.v 0), none⟩, ⟨.v 4, .alloc (.agg [.int .i64 0, .int .i64 0, .int .i64 0, .int .i64 0, .int .i64 0]), none⟩, ⟨.v 5,
    .mv true (.c (.v (.int .i64 0))), none⟩]).seq ((PC.block 0 (((PC.reg [⟨.t 7, .load 5 true (.v 2), none⟩, ⟨.t 8, .call 40 [.t 7], none⟩, ⟨.t 9, .bin
    .neq (.t 8) (.c (.v (.int .i64 0))), none⟩, ⟨.t 6, .mv true (.t 9), none⟩]).seq (PC.cond (.t 6) PC.skip (PC.reg [⟨.t 10, .mv false (.v 1), none⟩, ⟨.t
    11, .call 47 [.t 10, .c (.v (.int .i64 1)), .c (.v (.int .i64 1000))], none⟩, ⟨.t 12, .un .not (.t 11), none⟩, ⟨.t 6, .mv true (.t 12), none⟩]))).seq
    (PC.cond (.t 6) ((PC.reg [⟨.t 13, .build (.agg [.int .i64 0, .int .i64 0, .int .i64 0, .int .i64 0, .int .i64 0]) [], none⟩, ⟨.no, .store 5 (.v 4)
    (.t 13), none⟩, ⟨.v 5, .mv true (.c (.v (.int .i64 1))), none⟩]).seq PC.ret) ((PC.reg [⟨.t 15, .fadr 0 0 (.v 2), none⟩, ⟨.t 16, .load 1 false (.t
    15), none⟩, ⟨.t 17, .mv false (.v 1), none⟩, ⟨.t 18, .bin .lss (.t 16) (.t 17), none⟩, ⟨.t 14, .mv true (.t 18), none⟩]).seq (PC.cond (.t 14)
    ((PC.reg [⟨.t 19, .build (.agg [.int .i64 0, .int .i64 0, .int .i64 0, .int .i64 0, .int .i64 0]) [], none⟩, ⟨.no, .store 5 (.v 4) (.t 19), none⟩,
    ⟨.v 5, .mv true (.c (.v (.int .i64 16))), none⟩]).seq PC.ret) PC.skip))))).seq ((PC.reg [⟨.t 20, .fadr 0 0 (.v 2), none⟩, ⟨.t 21, .load 1 false (.t
    20), none⟩, ⟨.t 22, .mv false (.v 1), none⟩, ⟨.t 23, .bin .sub (.t 21) (.t 22), none⟩, ⟨.t 24, .fadr 0 0 (.v 2), none⟩, ⟨.no, .store 1 (.t 24) (.t
    23), none⟩]).seq ((PC.reg [⟨.t 25, .load 5 true (.v 2), none⟩, ⟨.no, .store 5 (.v 4) (.t 25), none⟩, ⟨.v 5, .mv true (.c (.v (.int .i64 0))),
    none⟩]).seq PC.ret)))) [(.v 4, some (5, true)), (.v 5, none)]
def lp38_0 : PC :=
  (PC.reg [⟨.t 22, .bin .lss (.v 21) (.v 20), none⟩]).seq ((PC.cond (.t 22) PC.skip (PC.exit 0)).seq ((PC.block 1 ((PC.reg [⟨.t 23, .iadrS 1 (.v 19) (.v
    21), none⟩, ⟨.t 24, .load 1 false (.t 23), none⟩, ⟨.v 10, .mv true (.t 24), none⟩]).seq (((PC.reg [⟨.t 25, .mv false (.v 10), none⟩, ⟨.t 26, .bin
    .leq (.t 25) (.c (.v (.int .i64 0))), none⟩]).seq (PC.cond (.t 26) ((PC.reg [⟨.t 27, .load 5 true (.v 2), none⟩, ⟨.t 28, .call 48 [.t 27], none⟩,
    ⟨.no, .store 5 (.v 2) (.t 28), none⟩]).seq (PC.exit 1)) PC.skip)).seq ((PC.reg [⟨.t 30, .load 5 true (.v 2), none⟩, ⟨.t 31, .mv false (.v 10), none⟩,
    ⟨.t 32, .call 37 [.t 30, .t 31], none⟩, ⟨.t 29, .mv false (.t 32), none⟩, ⟨.t 33, .ext (.t 29) 0, none⟩, ⟨.t 34, .ext (.t 29) 1, none⟩, ⟨.v 11,
    .alloc (.agg [.int .i64 0, .int .i64 0, .int .i64 0, .int .i64 0, .int .i64 0]), none⟩, ⟨.no, .store 5 (.v 11) (.t 33), none⟩, ⟨.v 12, .mv true (.t
    34), none⟩]).seq ((PC.reg [⟨.t 35, .mv false (.v 12), none⟩, ⟨.t 36, .bin .eql (.t 35) (.c (.v (.int .i64 0))), none⟩]).seq (PC.cond (.t 36) ((PC.reg
    [⟨.t 37, .load 5 true (.v 11), none⟩, ⟨.no, .store 5 (.v 2) (.t 37), none⟩]).seq (PC.reg [⟨.t 38, .mv false (.v 8), none⟩, ⟨.t 39, .mv false (.v 10),
    none⟩, ⟨.t 40, .bin .add (.t 38) (.t 39), none⟩, ⟨.v 8, .mv true (.t 40), none⟩])) PC.skip)))))).seq (PC.reg [⟨.t 41, .bin .add (.v 21) (.c (.v (.int
    .i64 1))), none⟩, ⟨.v 21, .mv false (.t 41), none⟩])))
def pf38 : PF :=
  PF.mk 2 22 44 ((PC.reg [⟨.v 2, .box (.v 0), none⟩, ⟨.v 4, .alloc (.agg [.int .i64 0, .int .i64 0, .int .i64 0, .int .i64 0, .int .i64 0]), none⟩, ⟨.v
    5, .mv true (.c (.v (.int .i64 0))), none⟩, ⟨.v 6, .mv true (.c (.v (.int .i64 0))), none⟩]).seq (((PC.reg [⟨.v 13, .load 5 true (.v 2), none⟩, ⟨.v
    14, .call 40 [.v 13], none⟩, ⟨.v 7, .mv true (.v 14), none⟩]).seq ((PC.reg [⟨.v 15, .mv false (.v 7), none⟩, ⟨.v 16, .bin .neq (.v 15) (.c (.v (.int
    .i64 0))), none⟩]).seq (PC.cond (.v 16) ((PC.reg [⟨.v 17, .build (.agg [.int .i64 0, .int .i64 0, .int .i64 0, .int .i64 0, .int .i64 0]) [], none⟩,
    ⟨.v 18, .mv false (.v 7), none⟩, ⟨.no, .store 5 (.v 4) (.v 17), none⟩, ⟨.v 5, .mv true (.c (.v (.int .i64 0))), none⟩, ⟨.v 6, .mv true (.v 18),
    none⟩]).seq PC.ret) PC.skip))).seq ((PC.reg [⟨.v 8, .mv true (.c (.v (.int .i64 0))), none⟩]).seq (((PC.reg [⟨.v 19, .mv false (.v 1), none⟩, ⟨.v 20,
    .len (.v 19), none⟩, ⟨.v 21, .mv false (.c (.v (.int .i64 0))), none⟩]).seq (PC.block 0 (PC.loop [2, 4, 8, 19, 20, 21] lp38_0))).seq ((PC.reg [⟨.t
    42, .load 5 true (.v 2), none⟩, ⟨.t 43, .mv false (.v 8), none⟩, ⟨.no, .store 5 (.v 4) (.t 42), none⟩, ⟨.v 5, .mv true (.t 43), none⟩, ⟨.v 6, .mv
    true (.c (.v (.int .i64 0))), none⟩]).seq PC.ret))))) [(.v 4, some (5, true)), (.v 5, none), (.v 6, none)]
def pf39 : PF :=
  PF.mk 2 6 29 ((PC.reg [⟨.v 2, .box (.v 0), none⟩, ⟨.v 4, .alloc (.agg [.int .i64 0, .int .i64 0, .int .i64 0, .int .i64 0, .int .i64 0]), none⟩, ⟨.v 5,
    .mv true (.c (.v (.int .i64 0))), none⟩]).seq (((PC.reg [⟨.t 6, .load 5 true (.v 2), none⟩, ⟨.t 7, .call 33 [.t 6], none⟩, ⟨.t 8, .un .not (.t 7),
    none⟩, ⟨.t 9, .mv false (.t 8), none⟩, ⟨.t 10, .mv false (.v 1), some (.t 9, false)⟩, ⟨.t 11, .bin .lss (.t 10) (.c (.v (.int .i64 1))), some (.t 9,
    false)⟩, ⟨.t 12, .pick (.t 9) (.c (.v (.bool true))) (.t 11), none⟩, ⟨.t 13, .mv false (.t 12), none⟩, ⟨.t 14, .mv false (.v 1), some (.t 13,
    false)⟩, ⟨.t 15, .bin .gtr (.t 14) (.c (.v (.int .i64 1000))), some (.t 13, false)⟩, ⟨.t 16, .pick (.t 13) (.c (.v (.bool true))) (.t 15),
    none⟩]).seq (PC.cond (.t 16) ((PC.reg [⟨.t 17, .build (.agg [.int .i64 0, .int .i64 0, .int .i64 0, .int .i64 0, .int .i64 0]) [], none⟩, ⟨.no,
    .store 5 (.v 4) (.t 17), none⟩, ⟨.v 5, .mv true (.c (.v (.int .i64 1))), none⟩]).seq PC.ret) PC.skip)).seq (((PC.reg [⟨.t 18, .mv false (.v 1),
    none⟩, ⟨.t 19, .fadr 0 0 (.v 2), none⟩, ⟨.t 20, .load 1 false (.t 19), none⟩, ⟨.t 21, .bin .gtr (.t 18) (.t 20), none⟩]).seq (PC.cond (.t 21)
    ((PC.reg [⟨.t 22, .build (.agg [.int .i64 0, .int .i64 0, .int .i64 0, .int .i64 0, .int .i64 0]) [], none⟩, ⟨.no, .store 5 (.v 4) (.t 22), none⟩,
    ⟨.v 5, .mv true (.c (.v (.int .i64 16))), none⟩]).seq PC.ret) PC.skip)).seq ((PC.reg [⟨.t 23, .fadr 0 0 (.v 2), none⟩, ⟨.t 24, .load 1 false (.t 23),
    none⟩, ⟨.t 25, .mv false (.v 1), none⟩, ⟨.t 26, .bin .sub (.t 24) (.t 25), none⟩, ⟨.t 27, .fadr 0 0 (.v 2), none⟩, ⟨.no, .store 1 (.t 27) (.t 26),
    none⟩]).seq ((PC.reg [⟨.t 28, .load 5 true (.v 2), none⟩, ⟨.no, .store 5 (.v 4) (.t 28), none⟩, ⟨.v 5, .mv true (.c (.v (.int .i64 0))), none⟩]).seq
    PC.ret))))) [(.v 4, some (5, true)), (.v 5, none)]
def pf40 : PF :=
  PF.mk 1 3 36 ((PC.reg [⟨.v 1, .box (.v 0), none⟩, ⟨.v 2, .mv true (.c (.v (.int .i64 0))), none⟩]).seq (((PC.reg [⟨.t 3, .fadr 1 1 (.v 1), none⟩, ⟨.t
    4, .load 1 false (.t 3), none⟩, ⟨.t 5, .call 47 [.t 4, .c (.v (.int .i64 1)), .c (.v (.int .i64 1000))], none⟩, ⟨.t 6, .un .not (.t 5), none⟩, ⟨.t 7,
    .mv false (.t 6), none⟩, ⟨.t 8, .fadr 0 0 (.v 1), some (.t 7, false)⟩, ⟨.t 9, .load 1 false (.t 8), some (.t 7, false)⟩, ⟨.t 10, .fadr 1 1 (.v 1),
    some (.t 7, false)⟩, ⟨.t 11, .load 1 false (.t 10), some (.t 7, false)⟩, ⟨.t 12, .call 47 [.t 9, .c (.v (.int .i64 0)), .t 11], some (.t 7, false)⟩,
    ⟨.t 13, .un .not (.t 12), some (.t 7, false)⟩, ⟨.t 14, .pick (.t 7) (.c (.v (.bool true))) (.t 13), none⟩, ⟨.t 15, .mv false (.t 14), none⟩, ⟨.t 16,
    .fadr 2 2 (.v 1), some (.t 15, false)⟩, ⟨.t 17, .load 1 false (.t 16), some (.t 15, false)⟩, ⟨.t 18, .call 47 [.t 17, .c (.v (.int .i64 1)), .c (.v
    (.int .i64 1000))], some (.t 15, false)⟩, ⟨.t 19, .un .not (.t 18), some (.t 15, false)⟩, ⟨.t 20, .pick (.t 15) (.c (.v (.bool true))) (.t 19),
    none⟩, ⟨.t 21, .mv false (.t 20), none⟩, ⟨.t 22, .fadr 3 3 (.v 1), some (.t 21, false)⟩, ⟨.t 23, .load 1 false (.t 22), some (.t 21, false)⟩, ⟨.t 24,
    .call 47 [.t 23, .c (.v (.int .i64 1)), .c (.v (.int .i64 1000))], some (.t 21, false)⟩, ⟨.t 25, .un .not (.t 24), some (.t 21, false)⟩, ⟨.t 26,
    .pick (.t 21) (.c (.v (.bool true))) (.t 25), none⟩, ⟨.t 27, .mv false (.t 26), none⟩, ⟨.t 28, .fadr 4 4 (.v 1), some (.t 27, false)⟩, ⟨.t 29, .load
    1 false (.t 28), some (.t 27, false)⟩, ⟨.t 30, .fadr 3 3 (.v 1), some (.t 27, false)⟩, ⟨.t 31, .load 1 false (.t 30), some (.t 27, false)⟩, ⟨.t 32,
    .bin .sub (.t 31) (.c (.v (.int .i64 1))), some (.t 27, false)⟩, ⟨.t 33, .call 47 [.t 29, .c (.v (.int .i64 0)), .t 32], some (.t 27, false)⟩, ⟨.t
    34, .un .not (.t 33), some (.t 27, false)⟩, ⟨.t 35, .pick (.t 27) (.c (.v (.bool true))) (.t 34), none⟩]).seq (PC.cond (.t 35) ((PC.reg [⟨.v 2, .mv
    true (.c (.v (.int .i64 1))), none⟩]).seq PC.ret) PC.skip)).seq ((PC.reg [⟨.v 2, .mv true (.c (.v (.int .i64 0))), none⟩]).seq PC.ret))) [(.v 2,
    none)]
def pf47 : PF :=
  PF.mk 3 7 15 ((PC.reg [⟨.v 6, .mv true (.c (.v (.bool false))), none⟩]).seq ((PC.reg [⟨.t 7, .mv false (.v 0), none⟩, ⟨.t 8, .mv false (.v 1), none⟩,
    ⟨.t 9, .bin .geq (.t 7) (.t 8), none⟩, ⟨.t 10, .mv false (.t 9), none⟩, ⟨.t 11, .mv false (.v 0), some (.t 10, true)⟩, ⟨.t 12, .mv false (.v 2), some
    (.t 10, true)⟩, ⟨.t 13, .bin .leq (.t 11) (.t 12), some (.t 10, true)⟩, ⟨.t 14, .pick (.t 10) (.t 13) (.c (.v (.bool false))), none⟩, ⟨.v 6, .mv true
    (.t 14), none⟩]).seq PC.ret)) [(.v 6, none)]
def pf48 : PF :=
  PF.mk 1 3 23 ((PC.reg [⟨.v 1, .box (.v 0), none⟩, ⟨.v 2, .alloc (.agg [.int .i64 0, .int .i64 0, .int .i64 0, .int .i64 0, .int .i64 0]), none⟩]).seq
    ((PC.reg [⟨.t 3, .fadr 4 4 (.v 1), none⟩, ⟨.t 4, .load 1 false (.t 3), none⟩, ⟨.t 5, .bin .add (.t 4) (.c (.v (.int .i64 1))), none⟩, ⟨.t 6, .fadr 4
    4 (.v 1), none⟩, ⟨.no, .store 1 (.t 6) (.t 5), none⟩]).seq (((PC.reg [⟨.t 7, .fadr 4 4 (.v 1), none⟩, ⟨.t 8, .load 1 false (.t 7), none⟩, ⟨.t 9,
    .fadr 3 3 (.v 1), none⟩, ⟨.t 10, .load 1 false (.t 9), none⟩, ⟨.t 11, .bin .eql (.t 8) (.t 10), none⟩]).seq (PC.cond (.t 11) ((PC.reg [⟨.t 12, .fadr
    4 4 (.v 1), none⟩, ⟨.no, .store 1 (.t 12) (.c (.v (.int .i64 0))), none⟩]).seq (PC.reg [⟨.t 13, .fadr 0 0 (.v 1), none⟩, ⟨.t 14, .load 1 false (.t
    13), none⟩, ⟨.t 15, .fadr 2 2 (.v 1), none⟩, ⟨.t 16, .load 1 false (.t 15), none⟩, ⟨.t 17, .bin .add (.t 14) (.t 16), none⟩, ⟨.t 18, .fadr 1 1 (.v
    1), none⟩, ⟨.t 19, .load 1 false (.t 18), none⟩, ⟨.t 20, .mm false [.t 17, .t 19], none⟩, ⟨.t 21, .fadr 0 0 (.v 1), none⟩, ⟨.no, .store 1 (.t 21) (.t
    20), none⟩])) PC.skip)).seq ((PC.reg [⟨.t 22, .load 5 true (.v 1), none⟩, ⟨.no, .store 5 (.v 2) (.t 22), none⟩]).seq PC.ret)))) [(.v 2, some (5,
    true))]
def lp9_0 : PC :=
  ((PC.reg [⟨.t 93, .mv false (.v 19), none⟩, ⟨.t 94, .mv false (.v 2), none⟩, ⟨.t 95, .len (.t 94), none⟩, ⟨.t 96, .bin .lss (.t 93) (.t 95),
    none⟩]).seq (PC.cond (.t 96) PC.skip (PC.exit 0))).seq ((PC.block 1 (((PC.reg [⟨.t 99, .mv false (.v 2), none⟩, ⟨.t 100, .mv false (.v 19), none⟩,
    ⟨.t 101, .iadrS 1 (.t 99) (.t 100), none⟩, ⟨.t 102, .load 1 false (.t 101), none⟩, ⟨.t 103, .bin .leq (.t 102) (.c (.v (.int .i64 0))), none⟩]).seq
    (PC.cond (.t 103) ((PC.reg [⟨.t 104, .load 5 true (.v 17), none⟩, ⟨.t 105, .call 35 [.t 104], none⟩, ⟨.no, .store 5 (.v 17) (.t 105), none⟩]).seq
    (PC.exit 1)) PC.skip)).seq ((PC.regD 1 [⟨.t 107, .load 5 true (.v 17), none⟩, ⟨.t 108, .mv false (.v 2), none⟩, ⟨.t 109, .mv false (.v 19), none⟩,
    ⟨.t 110, .iadrS 1 (.t 108) (.t 109), none⟩, ⟨.t 111, .load 1 false (.t 110), none⟩, ⟨.t 112, .call 39 [.t 107, .t 111], none⟩, ⟨.t 106, .mv false (.t
    112), none⟩, ⟨.t 113, .ext (.t 106) 0, none⟩, ⟨.t 114, .ext (.t 106) 1, none⟩, ⟨.v 20, .allocAt 1 (.agg [.int .i64 0, .int .i64 0, .int .i64 0, .int
    .i64 0, .int .i64 0]), none⟩, ⟨.no, .store 5 (.v 20) (.t 113), none⟩, ⟨.v 21, .mv true (.t 114), none⟩] [(0, 9), (4, 9)]).seq ((PC.reg [⟨.t 115, .mv
    false (.v 21), none⟩, ⟨.t 116, .bin .eql (.t 115) (.c (.v (.int .i64 0))), none⟩]).seq (PC.cond (.t 116) ((PC.reg [⟨.t 117, .load 5 true (.v 20),
    none⟩, ⟨.no, .store 5 (.v 17) (.t 117), none⟩]).seq (PC.reg [⟨.t 118, .mv false (.v 18), none⟩, ⟨.t 119, .mv false (.v 2), none⟩, ⟨.t 120, .mv false
    (.v 19), none⟩, ⟨.t 121, .iadrS 1 (.t 119) (.t 120), none⟩, ⟨.t 122, .load 1 false (.t 121), none⟩, ⟨.t 123, .bin .add (.t 118) (.t 122), none⟩, ⟨.v
    18, .mv true (.t 123), none⟩])) PC.skip))))).seq (PC.reg [⟨.t 97, .mv false (.v 19), none⟩, ⟨.t 98, .bin .add (.t 97) (.c (.v (.int .i64 1))), none⟩,
    ⟨.v 19, .mv true (.t 98), none⟩]))
def pf9 : PF :=
  PF.mk 3 22 149 ((PC.reg [⟨.v 3, .box (.v 0), none⟩, ⟨.v 6, .mv true (.c (.v (.bool false))), none⟩]).seq (((PC.reg [⟨.t 22, .mv false (.v 2), none⟩,
    ⟨.t 23, .len (.t 22), none⟩, ⟨.t 24, .bin .gtr (.t 23) (.c (.v (.int .i64 200))), none⟩]).seq (PC.cond (.t 24) ((PC.reg [⟨.t 25, .call 34 [], none⟩,
    ⟨.v 6, .mv true (.t 25), none⟩]).seq PC.ret) PC.skip)).seq ((PC.reg [⟨.t 27, .load 5 true (.v 3), none⟩, ⟨.t 28, .call 36 [.t 27], none⟩, ⟨.t 26, .mv
    false (.t 28), none⟩, ⟨.t 29, .ext (.t 26) 0, none⟩, ⟨.t 30, .ext (.t 26) 1, none⟩, ⟨.v 7, .alloc (.agg [.int .i64 0, .int .i64 0, .int .i64 0, .int
    .i64 0, .int .i64 0]), none⟩, ⟨.no, .store 5 (.v 7) (.t 29), none⟩, ⟨.v 8, .mv true (.t 30), none⟩]).seq ((PC.reg [⟨.t 32, .load 5 true (.v 3),
    none⟩, ⟨.t 33, .mv false (.v 1), none⟩, ⟨.t 34, .call 37 [.t 32, .t 33], none⟩, ⟨.t 31, .mv false (.t 34), none⟩, ⟨.t 35, .ext (.t 31) 0, none⟩, ⟨.t
    36, .ext (.t 31) 1, none⟩, ⟨.v 9, .alloc (.agg [.int .i64 0, .int .i64 0, .int .i64 0, .int .i64 0, .int .i64 0]), none⟩, ⟨.no, .store 5 (.v 9) (.t
    35), none⟩, ⟨.v 10, .mv true (.t 36), none⟩]).seq ((PC.reg [⟨.t 38, .load 5 true (.v 3), none⟩, ⟨.t 39, .mv false (.v 2), none⟩, ⟨.t 40, .call 38 [.t
    38, .t 39], none⟩, ⟨.t 37, .mv false (.t 40), none⟩, ⟨.t 41, .ext (.t 37) 0, none⟩, ⟨.t 42, .ext (.t 37) 1, none⟩, ⟨.t 43, .ext (.t 37) 2, none⟩, ⟨.v
    11, .alloc (.agg [.int .i64 0, .int .i64 0, .int .i64 0, .int .i64 0, .int .i64 0]), none⟩, ⟨.no, .store 5 (.v 11) (.t 41), none⟩, ⟨.v 12, .mv true
    (.t 42), none⟩, ⟨.v 13, .mv true (.t 43), none⟩]).seq ((PC.reg [⟨.t 45, .load 5 true (.v 3), none⟩, ⟨.t 46, .mv false (.v 1), none⟩, ⟨.t 47, .call 39
    [.t 45, .t 46], none⟩, ⟨.t 44, .mv false (.t 47), none⟩, ⟨.t 48, .ext (.t 44) 0, none⟩, ⟨.t 49, .ext (.t 44) 1, none⟩, ⟨.v 14, .alloc (.agg [.int
    .i64 0, .int .i64 0, .int .i64 0, .int .i64 0, .int .i64 0]), none⟩, ⟨.no, .store 5 (.v 14) (.t 48), none⟩, ⟨.v 15, .mv true (.t 49), none⟩]).seq
    ((PC.reg [⟨.t 50, .load 5 true (.v 3), none⟩, ⟨.t 51, .call 33 [.t 50], none⟩, ⟨.v 16, .mv true (.t 51), none⟩]).seq (((PC.reg [⟨.t 52, .load 5 true
    (.v 3), none⟩, ⟨.t 53, .call 40 [.t 52], none⟩, ⟨.t 54, .bin .eql (.t 53) (.c (.v (.int .i64 0))), none⟩, ⟨.t 55, .mv false (.v 16), none⟩, ⟨.t 56,
    .binB .neq (.t 54) (.t 55), none⟩, ⟨.t 57, .mv false (.t 56), none⟩, ⟨.t 58, .load 5 true (.v 9), some (.t 57, false)⟩, ⟨.t 59, .load 5 true (.v 14),
    some (.t 57, false)⟩, ⟨.t 60, .eqa true (.agg (.cons 0 1 false .int (.cons 1 1 false .int (.cons 2 1 false .int (.cons 3 1 false .int (.cons 4 1
    false .int .nil)))))) (.t 58) (.t 59), some (.t 57, false)⟩, ⟨.t 61, .pick (.t 57) (.c (.v (.bool true))) (.t 60), none⟩, ⟨.t 62, .mv false (.t 61),
    none⟩, ⟨.t 63, .mv false (.v 10), some (.t 62, false)⟩, ⟨.t 64, .mv false (.v 15), some (.t 62, false)⟩, ⟨.t 65, .bin .neq (.t 63) (.t 64), some (.t
    62, false)⟩, ⟨.t 66, .pick (.t 62) (.c (.v (.bool true))) (.t 65), none⟩]).seq (PC.cond (.t 66) ((PC.reg [⟨.v 6, .mv true (.c (.v (.bool false))),
    none⟩]).seq PC.ret) PC.skip)).seq (((PC.reg [⟨.t 67, .mv false (.v 16), none⟩, ⟨.t 68, .un .not (.t 67), none⟩]).seq (PC.cond (.t 68) ((PC.reg [⟨.t
    69, .mv false (.v 8), none⟩, ⟨.t 70, .bin .eql (.t 69) (.c (.v (.int .i64 1))), none⟩, ⟨.t 71, .mv false (.t 70), none⟩, ⟨.t 72, .load 5 true (.v 7),
    some (.t 71, true)⟩, ⟨.t 73, .build (.agg [.int .i64 0, .int .i64 0, .int .i64 0, .int .i64 0, .int .i64 0]) [], some (.t 71, true)⟩, ⟨.t 74, .eqa
    false (.agg (.cons 0 1 false .int (.cons 1 1 false .int (.cons 2 1 false .int (.cons 3 1 false .int (.cons 4 1 false .int .nil)))))) (.t 72) (.t 73),
    some (.t 71, true)⟩, ⟨.t 75, .pick (.t 71) (.t 74) (.c (.v (.bool false))), none⟩, ⟨.t 76, .mv false (.t 75), none⟩, ⟨.t 77, .mv false (.v 13), some
    (.t 76, true)⟩, ⟨.t 78, .bin .eql (.t 77) (.c (.v (.int .i64 1))), some (.t 76, true)⟩, ⟨.t 79, .pick (.t 76) (.t 78) (.c (.v (.bool false))), none⟩,
    ⟨.t 80, .mv false (.t 79), none⟩, ⟨.t 81, .load 5 true (.v 11), some (.t 80, true)⟩, ⟨.t 82, .build (.agg [.int .i64 0, .int .i64 0, .int .i64 0,
    .int .i64 0, .int .i64 0]) [], some (.t 80, true)⟩, ⟨.t 83, .eqa false (.agg (.cons 0 1 false .int (.cons 1 1 false .int (.cons 2 1 false .int (.cons
    3 1 false .int (.cons 4 1 false .int .nil)))))) (.t 81) (.t 82), some (.t 80, true)⟩, ⟨.t 84, .pick (.t 80) (.t 83) (.c (.v (.bool false))), none⟩,
    ⟨.t 85, .mv false (.t 84), none⟩, ⟨.t 86, .mv false (.v 12), some (.t 85, true)⟩, ⟨.t 87, .bin .eql (.t 86) (.c (.v (.int .i64 0))), some (.t 85,
    true)⟩, ⟨.t 88, .pick (.t 85) (.t 87) (.c (.v (.bool false))), none⟩, ⟨.t 89, .mv false (.t 88), none⟩, ⟨.t 90, .call 34 [], some (.t 89, true)⟩, ⟨.t
    91, .pick (.t 89) (.t 90) (.c (.v (.bool false))), none⟩, ⟨.v 6, .mv true (.t 91), none⟩]).seq PC.ret) PC.skip)).seq ((PC.reg [⟨.t 92, .load 5 true
    (.v 3), none⟩, ⟨.v 17, .alloc (.agg [.int .i64 0, .int .i64 0, .int .i64 0, .int .i64 0, .int .i64 0]), none⟩, ⟨.no, .store 5 (.v 17) (.t 92),
    none⟩]).seq ((PC.reg [⟨.v 18, .mv true (.c (.v (.int .i64 0))), none⟩]).seq (((PC.reg [⟨.v 19, .mv true (.c (.v (.int .i64 0))), none⟩]).seq
    (PC.block 0 (PC.loop [2, 3, 7, 8, 11, 12, 13, 17, 18, 19] lp9_0))).seq ((PC.regD 0 [⟨.t 124, .mv false (.v 8), none⟩, ⟨.t 125, .bin .eql (.t 124) (.c
    (.v (.int .i64 0))), none⟩, ⟨.t 126, .mv false (.t 125), none⟩, ⟨.t 127, .load 5 true (.v 7), some (.t 126, true)⟩, ⟨.t 128, .load 5 true (.v 3),
    some (.t 126, true)⟩, ⟨.t 129, .call 35 [.t 128], some (.t 126, true)⟩, ⟨.t 130, .eqa false (.agg (.cons 0 1 false .int (.cons 1 1 false .int (.cons
    2 1 false .int (.cons 3 1 false .int (.cons 4 1 false .int .nil)))))) (.t 127) (.t 129), some (.t 126, true)⟩, ⟨.t 131, .pick (.t 126) (.t 130) (.c
    (.v (.bool false))), none⟩, ⟨.t 132, .mv false (.t 131), none⟩, ⟨.t 133, .mv false (.v 13), some (.t 132, true)⟩, ⟨.t 134, .bin .eql (.t 133) (.c (.v
    (.int .i64 0))), some (.t 132, true)⟩, ⟨.t 135, .pick (.t 132) (.t 134) (.c (.v (.bool false))), none⟩, ⟨.t 136, .mv false (.t 135), none⟩, ⟨.t 137,
    .load 5 true (.v 11), some (.t 136, true)⟩, ⟨.t 138, .load 5 true (.v 17), some (.t 136, true)⟩, ⟨.t 139, .eqa false (.agg (.cons 0 1 false .int
    (.cons 1 1 false .int (.cons 2 1 false .int (.cons 3 1 false .int (.cons 4 1 false .int .nil)))))) (.t 137) (.t 138), some (.t 136, true)⟩, ⟨.t 140,
    .pick (.t 136) (.t 139) (.c (.v (.bool false))), none⟩, ⟨.t 141, .mv false (.t 140), none⟩, ⟨.t 142, .mv false (.v 12), some (.t 141, true)⟩, ⟨.t
    143, .mv false (.v 18), some (.t 141, true)⟩, ⟨.t 144, .bin .eql (.t 142) (.t 143), some (.t 141, true)⟩, ⟨.t 145, .pick (.t 141) (.t 144) (.c (.v
    (.bool false))), none⟩, ⟨.t 146, .mv false (.t 145), none⟩, ⟨.t 147, .call 34 [], some (.t 146, true)⟩, ⟨.t 148, .pick (.t 146) (.t 147) (.c (.v
    (.bool false))), none⟩, ⟨.v 6, .mv true (.t 148), none⟩] []).seq PC.ret))))))))))))) [(.v 6, none)]
attribute [local irreducible] W Wops WopsD WL Wop WopD
variable {E : Env} {C : Abs.Spec} {l : List (Nat × Spec1)} {G : List (Nat × V)} {Q : R → List (Nat × V) → Prop}
set_option maxHeartbeats 1000000

def may (w t g e k : Int) : Prop := (1 ≤ t ∧ t ≤ 1000) ∧ (0 ≤ w ∧ w ≤ t) ∧ (1 ≤ g ∧ g ≤ 1000) ∧ (1 ≤ e ∧ e ≤ 1000) ∧ 0 ≤ k ∧ k < e
def bad (w t g e k n : Int) : Prop := ¬ may w t g e k ∨ n < 1 ∨ 1000 < n
def tkW (w t g e k : Int) : Int := if k + 1 = e then (if t < w + g then t else w + g) else w
def tkK (e k : Int) : Int := if k + 1 = e then 0 else k + 1
def wt (w g e k n : Int) : Int := if n ≤ w then 0 else (n - w + g - 1) / g * e - k
def run (t g e : Int) : Int → Int → Int → List Int → Int × Int × Int
  | w, k, s, [] => (w, k, s)
  | w, k, s, n :: l => if n ≤ 0 then run t g e (tkW w t g e k) (tkK e k) s l else if n ≤ 1000 ∧ n ≤ w then run t g e (w - n) k (IntKind.i64.wrap (s + n)) l else run t g e w k s l
theorem may_tick {w t g e k : Int} (h : may w t g e k) : may (tkW w t g e k) t g e (tkK e k) := by
  unfold may tkW tkK at *; repeat' split
  all_goals omega
def S47 : Spec1
  | [.int .i64 n, .int .i64 lo, .int .i64 hi], G, Q => Q (.v (.bool (decide (lo ≤ n) && decide (n ≤ hi)))) G
  | _, _, _ => False
theorem S47_eq {n lo hi} : S47 [.int .i64 n, .int .i64 lo, .int .i64 hi] G Q = (Q (.v (.bool (decide (lo ≤ n) && decide (n ≤ hi)))) G) := rfl
def S40 : Spec1
  | [.agg [.int .i64 w, .int .i64 t, .int .i64 g, .int .i64 e, .int .i64 k]], G, Q => (may w t g e k → Q (.v (.int .i64 0)) G) ∧ (¬ may w t g e k → Q (.v (.int .i64 1)) G)
  | _, _, _ => False
theorem S40_eq {w t g e k} : S40 [.agg [.int .i64 w, .int .i64 t, .int .i64 g, .int .i64 e, .int .i64 k]] G Q = ((may w t g e k → Q (.v (.int .i64 0)) G) ∧ (¬ may w t g e k → Q (.v (.int .i64 1)) G)) := rfl
def S33 : Spec1
  | [.agg [.int .i64 w, .int .i64 t, .int .i64 g, .int .i64 e, .int .i64 k]], G, Q => (may w t g e k → Q (.v (.bool true)) G) ∧ (¬ may w t g e k → Q (.v (.bool false)) G)
  | _, _, _ => False
theorem S33_eq {w t g e k} : S33 [.agg [.int .i64 w, .int .i64 t, .int .i64 g, .int .i64 e, .int .i64 k]] G Q = ((may w t g e k → Q (.v (.bool true)) G) ∧ (¬ may w t g e k → Q (.v (.bool false)) G)) := rfl
def S48 : Spec1
  | [.agg [.int .i64 w, .int .i64 t, .int .i64 g, .int .i64 e, .int .i64 k]], G, Q => may w t g e k ∧ Q (.v (.agg [.int .i64 (tkW w t g e k), .int .i64 t, .int .i64 g, .int .i64 e, .int .i64 (tkK e k)])) G
  | _, _, _ => False
theorem S48_eq {w t g e k} : S48 [.agg [.int .i64 w, .int .i64 t, .int .i64 g, .int .i64 e, .int .i64 k]] G Q = (may w t g e k ∧ Q (.v (.agg [.int .i64 (tkW w t g e k), .int .i64 t, .int .i64 g, .int .i64 e, .int .i64 (tkK e k)])) G) := rfl
def S36 : Spec1
  | [.agg [.int .i64 w, .int .i64 t, .int .i64 g, .int .i64 e, .int .i64 k]], G, Q => (may w t g e k → Q (.tup [.agg [.int .i64 (tkW w t g e k), .int .i64 t, .int .i64 g, .int .i64 e, .int .i64 (tkK e k)], .int .i64 0]) G) ∧ (¬ may w t g e k → Q (.tup [.agg [.int .i64 0, .int .i64 0, .int .i64 0, .int .i64 0, .int .i64 0], .int .i64 1]) G)
  | _, _, _ => False
theorem S36_eq {w t g e k} : S36 [.agg [.int .i64 w, .int .i64 t, .int .i64 g, .int .i64 e, .int .i64 k]] G Q = ((may w t g e k → Q (.tup [.agg [.int .i64 (tkW w t g e k), .int .i64 t, .int .i64 g, .int .i64 e, .int .i64 (tkK e k)], .int .i64 0]) G) ∧ (¬ may w t g e k → Q (.tup [.agg [.int .i64 0, .int .i64 0, .int .i64 0, .int .i64 0, .int .i64 0], .int .i64 1]) G)) := rfl
def S37 : Spec1
  | [.agg [.int .i64 w, .int .i64 t, .int .i64 g, .int .i64 e, .int .i64 k], .int .i64 n], G, Q => (bad w t g e k n → Q (.tup [.agg [.int .i64 0, .int .i64 0, .int .i64 0, .int .i64 0, .int .i64 0], .int .i64 1]) G) ∧ (¬ bad w t g e k n → (w < n → Q (.tup [.agg [.int .i64 0, .int .i64 0, .int .i64 0, .int .i64 0, .int .i64 0], .int .i64 16]) G) ∧ (¬ w < n → Q (.tup [.agg [.int .i64 (w - n), .int .i64 t, .int .i64 g, .int .i64 e, .int .i64 k], .int .i64 0]) G))
  | _, _, _ => False
theorem S37_eq {w t g e k n} : S37 [.agg [.int .i64 w, .int .i64 t, .int .i64 g, .int .i64 e, .int .i64 k], .int .i64 n] G Q = ((bad w t g e k n → Q (.tup [.agg [.int .i64 0, .int .i64 0, .int .i64 0, .int .i64 0, .int .i64 0], .int .i64 1]) G) ∧ (¬ bad w t g e k n → (w < n → Q (.tup [.agg [.int .i64 0, .int .i64 0, .int .i64 0, .int .i64 0, .int .i64 0], .int .i64 16]) G) ∧ (¬ w < n → Q (.tup [.agg [.int .i64 (w - n), .int .i64 t, .int .i64 g, .int .i64 e, .int .i64 k], .int .i64 0]) G))) := rfl
def S32 : Spec1
  | [.agg [.int .i64 w, .int .i64 t, .int .i64 g, .int .i64 e, .int .i64 k], .int .i64 n], G, Q => (bad w t g e k n → Q (.tup [.int .i64 0, .int .i64 1]) G) ∧ (¬ bad w t g e k n → (t < n → Q (.tup [.int .i64 0, .int .i64 3]) G) ∧ (¬ t < n → Q (.tup [.int .i64 (wt w g e k n), .int .i64 0]) G))
  | _, _, _ => False
theorem S32_eq {w t g e k n} : S32 [.agg [.int .i64 w, .int .i64 t, .int .i64 g, .int .i64 e, .int .i64 k], .int .i64 n] G Q = ((bad w t g e k n → Q (.tup [.int .i64 0, .int .i64 1]) G) ∧ (¬ bad w t g e k n → (t < n → Q (.tup [.int .i64 0, .int .i64 3]) G) ∧ (¬ t < n → Q (.tup [.int .i64 (wt w g e k n), .int .i64 0]) G))) := rfl
def S38 : Spec1
  | [.agg [.int .i64 w, .int .i64 t, .int .i64 g, .int .i64 e, .int .i64 k], .sli .i64 xs], G, Q => (xs.length : Int) ≤ 9223372036854775807 ∧ ((may w t g e k → Q (.tup [.agg [.int .i64 (run t g e w k 0 xs).1, .int .i64 t, .int .i64 g, .int .i64 e, .int .i64 (run t g e w k 0 xs).2.1], .int .i64 (run t g e w k 0 xs).2.2, .int .i64 0]) G) ∧ (¬ may w t g e k → Q (.tup [.agg [.int .i64 0, .int .i64 0, .int .i64 0, .int .i64 0, .int .i64 0], .int .i64 0, .int .i64 1]) G))
  | _, _, _ => False
theorem S38_eq {w t g e k xs} : S38 [.agg [.int .i64 w, .int .i64 t, .int .i64 g, .int .i64 e, .int .i64 k], .sli .i64 xs] G Q = ((xs.length : Int) ≤ 9223372036854775807 ∧ ((may w t g e k → Q (.tup [.agg [.int .i64 (run t g e w k 0 xs).1, .int .i64 t, .int .i64 g, .int .i64 e, .int .i64 (run t g e w k 0 xs).2.1], .int .i64 (run t g e w k 0 xs).2.2, .int .i64 0]) G) ∧ (¬ may w t g e k → Q (.tup [.agg [.int .i64 0, .int .i64 0, .int .i64 0, .int .i64 0, .int .i64 0], .int .i64 0, .int .i64 1]) G))) := rfl
def S34 : Spec1
  | [], G, Q => Q (.v (.bool true)) G
  | _, _, _ => False
theorem S34_eq : S34 [] G Q = (Q (.v (.bool true)) G) := rfl

theorem w47 {n lo hi} (h : Q (.v (.bool (decide (lo ≤ n) && decide (n ≤ hi)))) G) : Wf E C pf47 [.int .i64 n, .int .i64 lo, .int .i64 hi] G Q := by
  simp (maxSteps := 1000000) (implicitDefEqProofs := false) (disch := omega) only [pf47, go_sem, ↓reduceIte, decide_eq_true_eq, decide_eq_false_iff_not, ge_iff_le, gt_iff_lt, Int.not_le, Int.not_lt, w64, Bool.not_eq_true', Bool.not_eq_false', Bool.and_eq_true, Bool.and_eq_false_iff]
  refine ⟨fun c => finB h ?_, fun c => finB h ?_⟩ <;> simp [c]
  omega
theorem w40 {w t g e k : Int} (h47 : Abs.look l 47 = some S47) (h1 : may w t g e k → Q (.v (.int .i64 0)) G) (h2 : ¬ may w t g e k → Q (.v (.int .i64 1)) G) : Wf E (specOf l) pf40 [.agg [.int .i64 w, .int .i64 t, .int .i64 g, .int .i64 e, .int .i64 k]] G Q := by
  simp (maxSteps := 1000000) (implicitDefEqProofs := false) only [pf40, h47, S47_eq, go_sem, ↓reduceIte, decide_eq_true_eq, decide_eq_false_iff_not, ge_iff_le, gt_iff_lt, Int.not_le, Int.not_lt, Bool.not_eq_true', Bool.not_eq_false', Bool.and_eq_true, Bool.and_eq_false_iff]
  repeat' first | (intro _) | constructor
  all_goals first
    | (refine h2 fun hm => ?_; unfold may at hm; omega)
    | (rename_i c1 c2; rw [w64 (by omega) (by omega)] at c2; first | (refine h2 fun hm => ?_; unfold may at hm; omega) | (refine h1 ?_; unfold may; omega))
theorem w33 {w t g e k : Int} (h1 : may w t g e k → Q (.v (.bool true)) G) (h2 : ¬ may w t g e k → Q (.v (.bool false)) G) : Wf E C pf33 [.agg [.int .i64 w, .int .i64 t, .int .i64 g, .int .i64 e, .int .i64 k]] G Q := by
  simp (maxSteps := 1000000) (implicitDefEqProofs := false) only [pf33, go_sem, ↓reduceIte, decide_eq_true_eq, decide_eq_false_iff_not, ge_iff_le, gt_iff_lt, Int.not_le, Int.not_lt, Bool.not_eq_true', Bool.not_eq_false', Bool.and_eq_true, Bool.and_eq_false_iff]
  repeat' first | (intro _) | constructor
  all_goals first
    | (refine h2 fun hm => ?_; unfold may at hm; omega)
    | (by_cases c : k < e
       · rw [decide_eq_true c]; refine h1 ?_; unfold may; omega
       · rw [decide_eq_false c]; refine h2 fun hm => ?_; unfold may at hm; omega)
theorem w48 {w t g e k : Int} (hm : may w t g e k) (h : Q (.v (.agg [.int .i64 (tkW w t g e k), .int .i64 t, .int .i64 g, .int .i64 e, .int .i64 (tkK e k)])) G) : Wf E C pf48 [.agg [.int .i64 w, .int .i64 t, .int .i64 g, .int .i64 e, .int .i64 k]] G Q := by
  unfold may at hm
  simp (maxSteps := 1000000) (implicitDefEqProofs := false) (disch := omega) only [pf48, go_sem, ↓reduceIte, decide_eq_true_eq, decide_eq_false_iff_not, ge_iff_le, gt_iff_lt, Int.not_le, Int.not_lt, w64, Bool.not_eq_true', Bool.not_eq_false', Bool.and_eq_true, Bool.and_eq_false_iff]
  refine ⟨fun c => fin h ?_, fun c => fin h ?_⟩ <;> unfold tkW tkK
  · rw [if_pos c, if_pos c]
  · rw [if_neg c, if_neg c]
theorem loop35 {w0 t g e k : Int} {o b0 : Option D} {QQ : Ex → St → Prop} {z : Bx} (ht : 1 ≤ t ∧ t ≤ 1000) (hg : 1 ≤ g ∧ g ≤ 1000) (hw : 0 ≤ w0 ∧ w0 ≤ t)
    (hx : ∀ ts i, QQ (.exit 0) ⟨[none, some (.lp 0 []), some (.lp 1 []), some (.v (.int .i64 i))], ts, [⟨false, .agg [.int .i64 (if t < w0 + g then t else w0 + g), .int .i64 t, .int .i64 g, .int .i64 e, .int .i64 k]⟩, z], G⟩) :
    ∀ (m : Nat) (i w : Int), i + m = g → 0 ≤ i → w = (if t < w0 + i then t else w0 + i) → WL (W E C lp35_0) [1, 2, 3] QQ (m + 1) ⟨[none, some (.lp 0 []), some (.lp 1 []), some (.v (.int .i64 i))], [], [⟨false, .agg [.int .i64 w, .int .i64 t, .int .i64 g, .int .i64 e, .int .i64 k]⟩, z], G⟩ := by
  intro m
  induction m with
  | zero =>
    intro i w hi h0 hww
    obtain rfl : i = g := by omega
    refine WL_in lp35_0.eq_1 ?_
    simp (maxSteps := 1000000) (implicitDefEqProofs := false) (disch := omega) only [go_sem, ↓reduceIte, decide_eq_true_eq, decide_eq_false_iff_not, ge_iff_le, gt_iff_lt, Int.not_le, Int.not_lt, w64, Bool.not_eq_true', Bool.not_eq_false', Bool.and_eq_true, Bool.and_eq_false_iff]
    repeat' first | (intro _) | constructor
    all_goals first | (exfalso; omega) | (rw [hww]; exact hx _ _)
  | succ m ih =>
    intro i w hi h0 hww
    have hb : 0 ≤ w ∧ w ≤ 1000 := by rw [hww]; split <;> omega
    refine WL_in lp35_0.eq_1 ?_
    simp (maxSteps := 1000000) (implicitDefEqProofs := false) (disch := omega) only [go_sem, ↓reduceIte, decide_eq_true_eq, decide_eq_false_iff_not, ge_iff_le, gt_iff_lt, Int.not_le, Int.not_lt, w64, Bool.not_eq_true', Bool.not_eq_false', Bool.and_eq_true, Bool.and_eq_false_iff]
    repeat' first | (intro _) | constructor
    · refine ih _ _ (by omega) (by omega) ?_
      rename_i c1 c2
      rw [hww] at c2 ⊢
      split at c2 <;> split <;> omega
    · rename_i c1 c2
      have : w = (if t < w0 + g then t else w0 + g) := by rw [hww] at c2 ⊢; split at c2 <;> split <;> omega
      rw [this]; exact hx _ _
    · exfalso; omega
theorem w35 {w t g e k : Int} (hm : may w t g e k) (h : Q (.v (.agg [.int .i64 (tkW w t g e k), .int .i64 t, .int .i64 g, .int .i64 e, .int .i64 (tkK e k)])) G) : Wf E C pf35 [.agg [.int .i64 w, .int .i64 t, .int .i64 g, .int .i64 e, .int .i64 k]] G Q := by
  unfold may at hm
  simp (maxSteps := 1000000) (implicitDefEqProofs := false) (disch := omega) only [pf35, go_sem, ↓reduceIte, decide_eq_true_eq, decide_eq_false_iff_not, ge_iff_le, gt_iff_lt, Int.not_le, Int.not_lt, w64, Bool.not_eq_true', Bool.not_eq_false', Bool.and_eq_true, Bool.and_eq_false_iff]
  refine ⟨fun c => fin h ?_, fun c => ⟨g.toNat + 1, ?_⟩⟩
  · unfold tkW tkK; rw [if_neg (by omega), if_neg (by omega)]
  · simp (maxSteps := 1000000) (implicitDefEqProofs := false) (disch := omega) only [go_sem, ↓reduceIte, decide_eq_true_eq, decide_eq_false_iff_not, ge_iff_le, gt_iff_lt, Int.not_le, Int.not_lt, w64, Bool.not_eq_true', Bool.not_eq_false', Bool.and_eq_true, Bool.and_eq_false_iff]
    refine loop35 (w0 := w) (o := none) (b0 := none) (by omega) (by omega) (by omega) (fun ts i => ?_) _ 0 w (by omega) (by omega) (by rw [if_neg (by omega)]; omega)
    simp (maxSteps := 1000000) (implicitDefEqProofs := false) (disch := omega) only [go_sem, ↓reduceIte, decide_eq_true_eq, decide_eq_false_iff_not, ge_iff_le, gt_iff_lt, Int.not_le, Int.not_lt, w64, Bool.not_eq_true', Bool.not_eq_false', Bool.and_eq_true, Bool.and_eq_false_iff]
    refine fin h ?_
    have e1 : k + 1 = e := by omega
    unfold tkW tkK; simp only [e1, if_true]
theorem w36 {w t g e k : Int} (h40 : Abs.look l 40 = some S40) (h48 : Abs.look l 48 = some S48) (h : (may w t g e k → Q (.tup [.agg [.int .i64 (tkW w t g e k), .int .i64 t, .int .i64 g, .int .i64 e, .int .i64 (tkK e k)], .int .i64 0]) G) ∧ (¬ may w t g e k → Q (.tup [.agg [.int .i64 0, .int .i64 0, .int .i64 0, .int .i64 0, .int .i64 0], .int .i64 1]) G)) : Wf E (specOf l) pf36 [.agg [.int .i64 w, .int .i64 t, .int .i64 g, .int .i64 e, .int .i64 k]] G Q := by
  simp (maxSteps := 1000000) (implicitDefEqProofs := false) only [pf36, h40, h48, S40_eq, S48_eq, go_sem, ↓reduceIte, decide_eq_true_eq, decide_eq_false_iff_not, ge_iff_le, gt_iff_lt, Int.not_le, Int.not_lt, Bool.not_eq_true', Bool.not_eq_false', Bool.and_eq_true, Bool.and_eq_false_iff]
  exact ⟨fun hm => ⟨hm, h.1 hm⟩, h.2⟩
theorem w37 {w t g e k n : Int} (h40 : Abs.look l 40 = some S40) (h47 : Abs.look l 47 = some S47) (h : (bad w t g e k n → Q (.tup [.agg [.int .i64 0, .int .i64 0, .int .i64 0, .int .i64 0, .int .i64 0], .int .i64 1]) G) ∧ (¬ bad w t g e k n → (w < n → Q (.tup [.agg [.int .i64 0, .int .i64 0, .int .i64 0, .int .i64 0, .int .i64 0], .int .i64 16]) G) ∧ (¬ w < n → Q (.tup [.agg [.int .i64 (w - n), .int .i64 t, .int .i64 g, .int .i64 e, .int .i64 k], .int .i64 0]) G))) : Wf E (specOf l) pf37 [.agg [.int .i64 w, .int .i64 t, .int .i64 g, .int .i64 e, .int .i64 k], .int .i64 n] G Q := by
  simp (maxSteps := 1000000) (implicitDefEqProofs := false) only [pf37, h40, h47, S40_eq, S47_eq, go_sem, ↓reduceIte, decide_eq_true_eq, decide_eq_false_iff_not, ge_iff_le, gt_iff_lt, Int.not_le, Int.not_lt, Bool.not_eq_true', Bool.not_eq_false', Bool.and_eq_true, Bool.and_eq_false_iff]
  obtain ⟨h1, h2⟩ := h
  refine ⟨fun hm => ⟨fun c => h1 (.inr (by omega)), fun c => ?_⟩, fun hm => h1 (.inl hm)⟩
  obtain ⟨h3, h4⟩ := h2 (by unfold bad; rintro (e | e); exact e hm; omega)
  unfold may at hm
  refine ⟨h3, fun c2 => ?_⟩
  rw [w64 (by omega) (by omega)]; exact h4 (by omega)
theorem w39 {w t g e k n : Int} (h33 : Abs.look l 33 = some S33) (h : (bad w t g e k n → Q (.tup [.agg [.int .i64 0, .int .i64 0, .int .i64 0, .int .i64 0, .int .i64 0], .int .i64 1]) G) ∧ (¬ bad w t g e k n → (w < n → Q (.tup [.agg [.int .i64 0, .int .i64 0, .int .i64 0, .int .i64 0, .int .i64 0], .int .i64 16]) G) ∧ (¬ w < n → Q (.tup [.agg [.int .i64 (w - n), .int .i64 t, .int .i64 g, .int .i64 e, .int .i64 k], .int .i64 0]) G))) : Wf E (specOf l) pf39 [.agg [.int .i64 w, .int .i64 t, .int .i64 g, .int .i64 e, .int .i64 k], .int .i64 n] G Q := by
  simp (maxSteps := 1000000) (implicitDefEqProofs := false) only [pf39, h33, S33_eq, go_sem, ↓reduceIte, decide_eq_true_eq, decide_eq_false_iff_not, ge_iff_le, gt_iff_lt, Int.not_le, Int.not_lt, Bool.not_eq_true', Bool.not_eq_false', Bool.and_eq_true, Bool.and_eq_false_iff]
  obtain ⟨h1, h2⟩ := h
  refine ⟨fun hm => ⟨fun c => h1 (.inr (by omega)), fun c => ⟨fun c1 => h1 (.inr (by omega)), fun c1 => ?_⟩⟩, fun hm => h1 (.inl hm)⟩
  obtain ⟨h3, h4⟩ := h2 (by unfold bad; rintro (e | e); exact e hm; omega)
  unfold may at hm
  refine ⟨h3, fun c2 => ?_⟩
  rw [w64 (by omega) (by omega)]; exact h4 (by omega)
theorem w32 {w t g e k n : Int} (h40 : Abs.look l 40 = some S40) (h47 : Abs.look l 47 = some S47) (h : (bad w t g e k n → Q (.tup [.int .i64 0, .int .i64 1]) G) ∧ (¬ bad w t g e k n → (t < n → Q (.tup [.int .i64 0, .int .i64 3]) G) ∧ (¬ t < n → Q (.tup [.int .i64 (wt w g e k n), .int .i64 0]) G))) : Wf E (specOf l) pf32 [.agg [.int .i64 w, .int .i64 t, .int .i64 g, .int .i64 e, .int .i64 k], .int .i64 n] G Q := by
  simp (maxSteps := 1000000) (implicitDefEqProofs := false) only [pf32, h40, h47, S40_eq, S47_eq, go_sem, ↓reduceIte, decide_eq_true_eq, decide_eq_false_iff_not, ge_iff_le, gt_iff_lt, Int.not_le, Int.not_lt, Bool.not_eq_true', Bool.not_eq_false', Bool.and_eq_true, Bool.and_eq_false_iff]
  obtain ⟨h1, h2⟩ := h
  refine ⟨fun hm => ⟨fun c => h1 (.inr (by omega)), fun c => ?_⟩, fun hm => h1 (.inl hm)⟩
  obtain ⟨h3, h4⟩ := h2 (by unfold bad; rintro (e | e); exact e hm; omega)
  unfold may at hm
  refine ⟨h3, fun c2 => ⟨fun c3 => ?_, fun c3 => ⟨by omega, ?_⟩⟩⟩
  · refine fin (h4 (by omega)) ?_
    unfold wt; rw [if_pos c3]
  · refine fin (h4 (by omega)) ?_
    unfold wt; rw [if_neg (by omega), w64 (x := n - w) (by omega) (by omega), w64 (x := n - w + g) (by omega) (by omega), w64 (x := n - w + g - 1) (by omega) (by omega), Int.tdiv_eq_ediv_of_nonneg (by omega)]
    have q0 : 0 ≤ (n - w + g - 1) / g := Int.ediv_nonneg (by omega) (by omega)
    have q1 : (n - w + g - 1) / g ≤ 2000 := by
      have := Int.ediv_le_self g (show 0 ≤ n - w + g - 1 by omega)
      omega
    have q2 : 0 ≤ (n - w + g - 1) / g * e := Int.mul_nonneg q0 (by omega)
    have q3 : (n - w + g - 1) / g * e ≤ 2000 * 1000 := Int.mul_le_mul q1 (by omega) (by omega) (by omega)
    rw [w64 (x := (n - w + g - 1) / g) (by omega) (by omega), w64 (x := (n - w + g - 1) / g * e) (by omega) (by omega), w64 (by omega) (by omega)]
theorem loop38 {t g e n0 : Int} {xs : List Int} {z : Bx} {QQ : Ex → St → Prop} (h37 : Abs.look l 37 = some S37) (h48 : Abs.look l 48 = some S48) (hn : n0 = xs.length) (hl : (xs.length : Int) ≤ 9223372036854775807) {R0 : Int × Int × Int}
    (hx : ∀ ts L vs, L[0]? = some ⟨false, .agg [.int .i64 R0.1, .int .i64 t, .int .i64 g, .int .i64 e, .int .i64 R0.2.1]⟩ → L[1]? = some z → QQ (.exit 0) ⟨[none, none, some (.lp 0 []), none, some (.lp 1 []), none, none, none, some (.v (.int .i64 R0.2.2)), none, none, none, none, none, none, none, none, none, none, some (.v (.sli .i64 xs)), some (.v (.int .i64 n0)), some (.v (.int .i64 vs))], ts, L, G⟩) :
    ∀ (ys : List Int) (i : Nat) (w k s : Int) (L : List Bx), ys = xs.drop i → i ≤ xs.length → may w t g e k → run t g e w k s ys = R0 → L[0]? = some ⟨false, .agg [.int .i64 w, .int .i64 t, .int .i64 g, .int .i64 e, .int .i64 k]⟩ → L[1]? = some z →
      WL (W E (specOf l) lp38_0) [2, 4, 8, 19, 20, 21] QQ (ys.length + 1) ⟨[none, none, some (.lp 0 []), none, some (.lp 1 []), none, none, none, some (.v (.int .i64 s)), none, none, none, none, none, none, none, none, none, none, some (.v (.sli .i64 xs)), some (.v (.int .i64 n0)), some (.v (.int .i64 i))], [], L, G⟩ := by
  intro ys
  induction ys with
  | nil =>
    intro i w k s L hy hi hm hr hL hL1
    have : xs.length ≤ i := by
      have := congrArg List.length hy; simp at this; omega
    obtain rfl : i = xs.length := by omega
    simp only [run] at hr; subst hr
    refine WL_in lp38_0.eq_1 ?_
    simp (maxSteps := 1000000) (implicitDefEqProofs := false) only [hL, go_sem, ↓reduceIte, decide_eq_true_eq, decide_eq_false_iff_not, ge_iff_le, gt_iff_lt, Int.not_le, Int.not_lt, Bool.not_eq_true', Bool.not_eq_false', Bool.and_eq_true, Bool.and_eq_false_iff]
    refine ⟨fun c => by omega, fun c => hx _ _ _ hL hL1⟩
  | cons n ys ih =>
    intro i w k s L hy hi hm hr hL hL1
    have hlt : i < xs.length := by
      apply Classical.byContradiction; intro hc
      rw [List.drop_eq_nil_of_le (by omega)] at hy; cases hy
    have hni : xs.getD i 0 = n := by
      rw [List.drop_eq_getElem_cons hlt] at hy
      simp only [List.cons.injEq] at hy
      rw [List.getD_eq_getElem?_getD, List.getElem?_eq_getElem hlt, hy.1]; rfl
    have hys : ys = xs.drop (i + 1) := by
      rw [List.drop_eq_getElem_cons hlt] at hy
      simp only [List.cons.injEq] at hy; exact hy.2
    have hA : ∀ b, (L ++ [b])[0]? = some ⟨false, .agg [.int .i64 w, .int .i64 t, .int .i64 g, .int .i64 e, .int .i64 k]⟩ := fun b => by
      rw [List.getElem?_append_left (List.getElem?_eq_some_iff.1 hL).1]; exact hL
    refine WL_in lp38_0.eq_1 ?_
    simp (maxSteps := 1000000) (implicitDefEqProofs := false) only [hL, hA, h37, h48, S37_eq, S48_eq, Int.toNat_natCast, hni, go_sem, ↓reduceIte, decide_eq_true_eq, decide_eq_false_iff_not, ge_iff_le, gt_iff_lt, Int.not_le, Int.not_lt, Bool.not_eq_true', Bool.not_eq_false', Bool.and_eq_true, Bool.and_eq_false_iff]
    have hi1 : IntKind.i64.wrap ((i : Int) + 1) = ((i + 1 : Nat) : Int) := by rw [w64 (by omega) (by omega)]; simp
    rw [hi1]
    simp only [run] at hr
    refine ⟨fun c => ⟨by omega, fun c1 => ⟨hm, ?_⟩, fun c1 => ⟨fun hb => ?_, fun hb => ⟨fun c2 => ?_, fun c2 => ?_⟩⟩⟩, fun c => by omega⟩
    · rw [if_pos c1] at hr
      exact ih (i + 1) _ _ _ _ hys (by omega) (may_tick hm) hr (get_set hL) (get_set_ne (by decide) hL1)
    · rw [if_neg (by omega), if_neg (by unfold bad at hb; rintro ⟨c3, _⟩; rcases hb with hb | hb; exact hb hm; omega)] at hr
      exact ih (i + 1) _ _ _ _ hys (by omega) hm hr (get_app hL) (get_app hL1)
    · rw [if_neg (by omega), if_neg (by omega)] at hr
      exact ih (i + 1) _ _ _ _ hys (by omega) hm hr (get_app hL) (get_app hL1)
    · have hn1 : n ≤ 1000 := by unfold bad at hb; omega
      rw [if_neg (by omega), if_pos ⟨hn1, c2⟩] at hr
      exact ih (i + 1) _ _ _ _ hys (by omega) (by unfold may at *; omega) hr (get_set (get_app hL)) (get_set_ne (by decide) (get_app hL1))
theorem w38 {w t g e k : Int} {xs : List Int} (h40 : Abs.look l 40 = some S40) (h37 : Abs.look l 37 = some S37) (h48 : Abs.look l 48 = some S48) (hl : (xs.length : Int) ≤ 9223372036854775807) (h : (may w t g e k → Q (.tup [.agg [.int .i64 (run t g e w k 0 xs).1, .int .i64 t, .int .i64 g, .int .i64 e, .int .i64 (run t g e w k 0 xs).2.1], .int .i64 (run t g e w k 0 xs).2.2, .int .i64 0]) G) ∧ (¬ may w t g e k → Q (.tup [.agg [.int .i64 0, .int .i64 0, .int .i64 0, .int .i64 0, .int .i64 0], .int .i64 0, .int .i64 1]) G)) : Wf E (specOf l) pf38 [.agg [.int .i64 w, .int .i64 t, .int .i64 g, .int .i64 e, .int .i64 k], .sli .i64 xs] G Q := by
  simp (maxSteps := 1000000) (implicitDefEqProofs := false) only [pf38, h40, S40_eq, go_sem, ↓reduceIte, decide_eq_true_eq, decide_eq_false_iff_not, ge_iff_le, gt_iff_lt, Int.not_le, Int.not_lt, Bool.not_eq_true', Bool.not_eq_false', Bool.and_eq_true, Bool.and_eq_false_iff]
  refine ⟨fun hm => ?_, h.2⟩
  refine ⟨xs.length + 1, ?_⟩
  simp (maxSteps := 1000000) (implicitDefEqProofs := false) only [go_sem, ↓reduceIte, decide_eq_true_eq, decide_eq_false_iff_not, ge_iff_le, gt_iff_lt, Int.not_le, Int.not_lt, Bool.not_eq_true', Bool.not_eq_false', Bool.and_eq_true, Bool.and_eq_false_iff]
  refine loop38 (R0 := run t g e w k 0 xs) h37 h48 rfl hl (fun ts L vs hL hL1 => ?_) xs 0 w k 0 _ rfl (by omega) hm rfl rfl rfl
  have hS : ∀ y, (L.set 1 y)[1]? = some y := fun y => get_set hL1
  simp (maxSteps := 1000000) (implicitDefEqProofs := false) only [hL, hL1, hS, go_sem, ↓reduceIte, decide_eq_true_eq, decide_eq_false_iff_not, ge_iff_le, gt_iff_lt, Int.not_le, Int.not_lt, Bool.not_eq_true', Bool.not_eq_false', Bool.and_eq_true, Bool.and_eq_false_iff]
  exact h.1 hm
end Go.Proofs.Ytcicoepkmiahbaa.Rate
