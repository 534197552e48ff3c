/- What the functions of a pace hand back, over plain values; no conditions. -/
import Derived.Test.YtcicoepkmiahbaaPlain5
namespace Go.Proofs.Ytcicoepkmiahbaa.Pace
open Go Go.Abs
set_option linter.unusedSimpArgs false
set_option linter.unusedVariables false
set_option maxRecDepth 100000
def pf4 : PF :=
  PF.mk 3 17 102 ((PC.reg [⟨.v 3, .box (.v 0), none⟩, ⟨.v 6, .mv true (.c (.v (.bool false))), none⟩]).seq ((PC.reg [⟨.t 18, .load 3 true (.v 3), none⟩,
    ⟨.t 19, .call 17 [.t 18], none⟩, ⟨.t 17, .mv false (.t 19), none⟩, ⟨.t 20, .ext (.t 17) 0, none⟩, ⟨.t 21, .ext (.t 17) 1, none⟩, ⟨.t 22, .ext (.t 17)
    2, none⟩, ⟨.v 7, .alloc (.agg [.int .i64 0, .int .i64 0, .int .i64 0]), none⟩, ⟨.no, .store 3 (.v 7) (.t 20), none⟩, ⟨.v 8, .mv true (.t 21), none⟩,
    ⟨.v 9, .mv true (.t 22), none⟩]).seq ((PC.reg [⟨.t 24, .load 3 true (.v 3), none⟩, ⟨.t 25, .mv false (.v 1), none⟩, ⟨.t 26, .mv false (.v 2), none⟩,
    ⟨.t 27, .call 18 [.t 24, .t 25, .t 26], none⟩, ⟨.t 23, .mv false (.t 27), none⟩, ⟨.t 28, .ext (.t 23) 0, none⟩, ⟨.t 29, .ext (.t 23) 1, none⟩, ⟨.v
    10, .alloc (.agg [.int .i64 0, .int .i64 0, .int .i64 0]), none⟩, ⟨.no, .store 3 (.v 10) (.t 28), none⟩, ⟨.v 11, .mv true (.t 29), none⟩]).seq
    ((PC.reg [⟨.t 31, .load 3 true (.v 3), none⟩, ⟨.t 32, .mv false (.v 1), none⟩, ⟨.t 33, .mv false (.v 2), none⟩, ⟨.t 34, .call 19 [.t 31, .t 32, .t
    33], none⟩, ⟨.t 30, .mv false (.t 34), none⟩, ⟨.t 35, .ext (.t 30) 0, none⟩, ⟨.t 36, .ext (.t 30) 1, none⟩, ⟨.v 12, .alloc (.agg [.int .i64 0, .int
    .i64 0, .int .i64 0]), none⟩, ⟨.no, .store 3 (.v 12) (.t 35), none⟩, ⟨.v 13, .mv true (.t 36), none⟩]).seq ((PC.reg [⟨.t 37, .load 3 true (.v 3),
    none⟩, ⟨.t 38, .call 20 [.t 37], none⟩, ⟨.v 14, .mv true (.t 38), none⟩]).seq (((PC.reg [⟨.t 39, .load 3 true (.v 3), none⟩, ⟨.t 40, .call 21 [.t
    39], none⟩, ⟨.t 41, .bin .eql (.t 40) (.c (.v (.int .i64 0))), none⟩, ⟨.t 42, .mv false (.v 14), none⟩, ⟨.t 43, .binB .neq (.t 41) (.t 42), none⟩,
    ⟨.t 44, .mv false (.t 43), none⟩, ⟨.t 45, .load 3 true (.v 10), some (.t 44, false)⟩, ⟨.t 46, .load 3 true (.v 12), some (.t 44, false)⟩, ⟨.t 47,
    .eqa true (.agg (.cons 0 1 false .int (.cons 1 1 false .int (.cons 2 1 false .int .nil)))) (.t 45) (.t 46), some (.t 44, false)⟩, ⟨.t 48, .pick (.t
    44) (.c (.v (.bool true))) (.t 47), none⟩, ⟨.t 49, .mv false (.t 48), none⟩, ⟨.t 50, .mv false (.v 11), some (.t 49, false)⟩, ⟨.t 51, .mv false (.v
    13), some (.t 49, false)⟩, ⟨.t 52, .bin .neq (.t 50) (.t 51), some (.t 49, false)⟩, ⟨.t 53, .pick (.t 49) (.c (.v (.bool true))) (.t 52), none⟩, ⟨.t
    54, .mv false (.t 53), none⟩, ⟨.t 55, .mv false (.v 1), some (.t 54, false)⟩, ⟨.t 56, .call 22 [.t 55], some (.t 54, false)⟩, ⟨.t 57, .mv false (.v
    1), some (.t 54, false)⟩, ⟨.t 58, .call 23 [.t 57], some (.t 54, false)⟩, ⟨.t 59, .bin .neq (.t 56) (.t 58), some (.t 54, false)⟩, ⟨.t 60, .pick (.t
    54) (.c (.v (.bool true))) (.t 59), none⟩]).seq (PC.cond (.t 60) ((PC.reg [⟨.v 6, .mv true (.c (.v (.bool false))), none⟩]).seq PC.ret) PC.skip)).seq
    (((PC.reg [⟨.t 61, .mv false (.v 14), none⟩, ⟨.t 62, .un .not (.t 61), none⟩]).seq (PC.cond (.t 62) ((PC.reg [⟨.t 63, .mv false (.v 9), none⟩, ⟨.t
    64, .bin .eql (.t 63) (.c (.v (.int .i64 1))), none⟩, ⟨.t 65, .mv false (.t 64), none⟩, ⟨.t 66, .load 3 true (.v 7), some (.t 65, true)⟩, ⟨.t 67,
    .build (.agg [.int .i64 0, .int .i64 0, .int .i64 0]) [], some (.t 65, true)⟩, ⟨.t 68, .eqa false (.agg (.cons 0 1 false .int (.cons 1 1 false .int
    (.cons 2 1 false .int .nil)))) (.t 66) (.t 67), some (.t 65, true)⟩, ⟨.t 69, .pick (.t 65) (.t 68) (.c (.v (.bool false))), none⟩, ⟨.t 70, .mv false
    (.t 69), none⟩, ⟨.t 71, .mv false (.v 8), some (.t 70, true)⟩, ⟨.t 72, .un .not (.t 71), some (.t 70, true)⟩, ⟨.t 73, .pick (.t 70) (.t 72) (.c (.v
    (.bool false))), none⟩, ⟨.t 74, .mv false (.t 73), none⟩, ⟨.t 75, .call 24 [], some (.t 74, true)⟩, ⟨.t 76, .pick (.t 74) (.t 75) (.c (.v (.bool
    false))), none⟩, ⟨.v 6, .mv true (.t 76), none⟩]).seq PC.ret) PC.skip)).seq ((PC.reg [⟨.t 78, .load 3 true (.v 3), none⟩, ⟨.t 79, .call 25 [.t 78],
    none⟩, ⟨.t 77, .mv false (.t 79), none⟩, ⟨.t 80, .ext (.t 77) 0, none⟩, ⟨.t 81, .ext (.t 77) 1, none⟩, ⟨.v 15, .alloc (.agg [.int .i64 0, .int .i64
    0, .int .i64 0]), none⟩, ⟨.no, .store 3 (.v 15) (.t 80), none⟩, ⟨.v 16, .mv true (.t 81), none⟩]).seq ((PC.reg [⟨.t 82, .mv false (.v 9), none⟩, ⟨.t
    83, .bin .eql (.t 82) (.c (.v (.int .i64 0))), none⟩, ⟨.t 84, .mv false (.t 83), none⟩, ⟨.t 85, .load 3 true (.v 7), some (.t 84, true)⟩, ⟨.t 86,
    .load 3 true (.v 15), some (.t 84, true)⟩, ⟨.t 87, .eqa false (.agg (.cons 0 1 false .int (.cons 1 1 false .int (.cons 2 1 false .int .nil)))) (.t
    85) (.t 86), some (.t 84, true)⟩, ⟨.t 88, .pick (.t 84) (.t 87) (.c (.v (.bool false))), none⟩, ⟨.t 89, .mv false (.t 88), none⟩, ⟨.t 90, .mv false
    (.v 8), some (.t 89, true)⟩, ⟨.t 91, .mv false (.v 16), some (.t 89, true)⟩, ⟨.t 92, .binB .eql (.t 90) (.t 91), some (.t 89, true)⟩, ⟨.t 93, .pick
    (.t 89) (.t 92) (.c (.v (.bool false))), none⟩, ⟨.t 94, .mv false (.t 93), none⟩, ⟨.t 95, .load 3 true (.v 7), some (.t 94, true)⟩, ⟨.t 96, .call 21
    [.t 95], some (.t 94, true)⟩, ⟨.t 97, .bin .eql (.t 96) (.c (.v (.int .i64 0))), some (.t 94, true)⟩, ⟨.t 98, .pick (.t 94) (.t 97) (.c (.v (.bool
    false))), none⟩, ⟨.t 99, .mv false (.t 98), none⟩, ⟨.t 100, .call 24 [], some (.t 99, true)⟩, ⟨.t 101, .pick (.t 99) (.t 100) (.c (.v (.bool
    false))), none⟩, ⟨.v 6, .mv true (.t 101), none⟩]).seq PC.ret))))))))) [(.v 6, none)]
def lp5_0 : PC :=
  ((PC.reg [⟨.t 31, .mv false (.v 11), none⟩, ⟨.t 32, .mv false (.v 9), none⟩, ⟨.t 33, .bin .leq (.t 31) (.t 32), none⟩]).seq (PC.cond (.t 33) PC.skip
    (PC.exit 0))).seq ((PC.block 1 ((PC.reg [⟨.t 37, .load 3 true (.v 10), none⟩, ⟨.t 38, .call 17 [.t 37], none⟩, ⟨.t 36, .mv false (.t 38), none⟩, ⟨.t
    39, .ext (.t 36) 0, none⟩, ⟨.t 40, .ext (.t 36) 1, none⟩, ⟨.t 41, .ext (.t 36) 2, none⟩, ⟨.v 12, .alloc (.agg [.int .i64 0, .int .i64 0, .int .i64
    0]), none⟩, ⟨.no, .store 3 (.v 12) (.t 39), none⟩, ⟨.v 13, .mv true (.t 40), none⟩, ⟨.v 14, .mv true (.t 41), none⟩]).seq (((PC.reg [⟨.t 42, .mv
    false (.v 14), none⟩, ⟨.t 43, .bin .neq (.t 42) (.c (.v (.int .i64 0))), none⟩, ⟨.t 44, .mv false (.t 43), none⟩, ⟨.t 45, .mv false (.v 13), some (.t
    44, false)⟩, ⟨.t 46, .mv false (.v 11), some (.t 44, false)⟩, ⟨.t 47, .mv false (.v 9), some (.t 44, false)⟩, ⟨.t 48, .bin .eql (.t 46) (.t 47), some
    (.t 44, false)⟩, ⟨.t 49, .binB .neq (.t 45) (.t 48), some (.t 44, false)⟩, ⟨.t 50, .pick (.t 44) (.c (.v (.bool true))) (.t 49), none⟩]).seq (PC.cond
    (.t 50) ((PC.reg [⟨.v 6, .mv true (.c (.v (.bool false))), none⟩]).seq PC.ret) PC.skip)).seq (PC.reg [⟨.t 51, .load 3 true (.v 12), none⟩, ⟨.no,
    .store 3 (.v 10) (.t 51), none⟩])))).seq (PC.reg [⟨.t 34, .mv false (.v 11), none⟩, ⟨.t 35, .bin .add (.t 34) (.c (.v (.int .i64 1))), none⟩, ⟨.v 11,
    .mv true (.t 35), none⟩]))
def pf5 : PF :=
  PF.mk 3 17 73 ((PC.reg [⟨.v 3, .box (.v 0), none⟩, ⟨.v 6, .mv true (.c (.v (.bool false))), none⟩]).seq ((PC.reg [⟨.t 18, .load 3 true (.v 3), none⟩,
    ⟨.t 19, .mv false (.v 1), none⟩, ⟨.t 20, .mv false (.v 2), none⟩, ⟨.t 21, .call 18 [.t 18, .t 19, .t 20], none⟩, ⟨.t 17, .mv false (.t 21), none⟩,
    ⟨.t 22, .ext (.t 17) 0, none⟩, ⟨.t 23, .ext (.t 17) 1, none⟩, ⟨.v 7, .alloc (.agg [.int .i64 0, .int .i64 0, .int .i64 0]), none⟩, ⟨.no, .store 3 (.v
    7) (.t 22), none⟩, ⟨.v 8, .mv true (.t 23), none⟩]).seq (((PC.reg [⟨.t 24, .mv false (.v 8), none⟩, ⟨.t 25, .bin .neq (.t 24) (.c (.v (.int .i64
    0))), none⟩]).seq (PC.cond (.t 25) ((PC.reg [⟨.t 26, .call 24 [], none⟩, ⟨.v 6, .mv true (.t 26), none⟩]).seq PC.ret) PC.skip)).seq ((PC.reg [⟨.t 27,
    .fadr 2 2 (.v 7), none⟩, ⟨.t 28, .load 1 false (.t 27), none⟩, ⟨.t 29, .call 22 [.t 28], none⟩, ⟨.v 9, .mv true (.t 29), none⟩]).seq ((PC.reg [⟨.t
    30, .load 3 true (.v 7), none⟩, ⟨.v 10, .alloc (.agg [.int .i64 0, .int .i64 0, .int .i64 0]), none⟩, ⟨.no, .store 3 (.v 10) (.t 30), none⟩]).seq
    (((PC.reg [⟨.v 11, .mv true (.c (.v (.int .i64 1))), none⟩]).seq (PC.block 0 (PC.loop [1, 9, 10, 11] lp5_0))).seq (((PC.reg [⟨.t 52, .mv false (.v
    1), none⟩, ⟨.t 53, .bin .geq (.t 52) (.c (.v (.int .i64 1099511627776))), none⟩]).seq (PC.cond (.t 53) ((PC.reg [⟨.t 54, .call 24 [], none⟩, ⟨.v 6,
    .mv true (.t 54), none⟩]).seq PC.ret) PC.skip)).seq ((PC.reg [⟨.t 56, .load 3 true (.v 10), none⟩, ⟨.t 57, .mv false (.v 1), none⟩, ⟨.t 58, .bin .add
    (.t 57) (.c (.v (.int .i64 1))), none⟩, ⟨.t 59, .call 18 [.t 56, .t 58, .c (.v (.bool false))], none⟩, ⟨.t 55, .mv false (.t 59), none⟩, ⟨.t 60, .ext
    (.t 55) 0, none⟩, ⟨.t 61, .ext (.t 55) 1, none⟩, ⟨.v 15, .alloc (.agg [.int .i64 0, .int .i64 0, .int .i64 0]), none⟩, ⟨.no, .store 3 (.v 15) (.t
    60), none⟩, ⟨.v 16, .mv true (.t 61), none⟩]).seq ((PC.reg [⟨.t 62, .mv false (.v 16), none⟩, ⟨.t 63, .bin .eql (.t 62) (.c (.v (.int .i64 0))),
    none⟩, ⟨.t 64, .mv false (.t 63), none⟩, ⟨.t 65, .fadr 1 1 (.v 15), some (.t 64, true)⟩, ⟨.t 66, .load 1 false (.t 65), some (.t 64, true)⟩, ⟨.t 67,
    .mv false (.v 9), some (.t 64, true)⟩, ⟨.t 68, .bin .geq (.t 66) (.t 67), some (.t 64, true)⟩, ⟨.t 69, .pick (.t 64) (.t 68) (.c (.v (.bool false))),
    none⟩, ⟨.t 70, .mv false (.t 69), none⟩, ⟨.t 71, .call 24 [], some (.t 70, true)⟩, ⟨.t 72, .pick (.t 70) (.t 71) (.c (.v (.bool false))), none⟩, ⟨.v
    6, .mv true (.t 72), none⟩]).seq PC.ret))))))))) [(.v 6, none)]
def pf17 : PF :=
  PF.mk 1 6 21 ((PC.reg [⟨.v 1, .box (.v 0), none⟩, ⟨.v 2, .alloc (.agg [.int .i64 0, .int .i64 0, .int .i64 0]), none⟩, ⟨.v 3, .mv true (.c (.v (.bool
    false))), none⟩, ⟨.v 4, .mv true (.c (.v (.int .i64 0))), none⟩]).seq (((PC.reg [⟨.t 6, .load 3 true (.v 1), none⟩, ⟨.t 7, .call 21 [.t 6], none⟩,
    ⟨.v 5, .mv true (.t 7), none⟩]).seq ((PC.reg [⟨.t 8, .mv false (.v 5), none⟩, ⟨.t 9, .bin .neq (.t 8) (.c (.v (.int .i64 0))), none⟩]).seq (PC.cond
    (.t 9) ((PC.reg [⟨.t 10, .build (.agg [.int .i64 0, .int .i64 0, .int .i64 0]) [], none⟩, ⟨.t 11, .mv false (.v 5), none⟩, ⟨.no, .store 3 (.v 2) (.t
    10), none⟩, ⟨.v 3, .mv true (.c (.v (.bool false))), none⟩, ⟨.v 4, .mv true (.t 11), none⟩]).seq PC.ret) PC.skip))).seq ((PC.reg [⟨.t 12, .fadr 1 1
    (.v 1), none⟩, ⟨.t 13, .load 1 false (.t 12), none⟩, ⟨.t 14, .bin .sub (.t 13) (.c (.v (.int .i64 1))), none⟩, ⟨.t 15, .mm true [.t 14, .c (.v (.int
    .i64 0))], none⟩, ⟨.t 16, .fadr 1 1 (.v 1), none⟩, ⟨.no, .store 1 (.t 16) (.t 15), none⟩]).seq ((PC.regD 0 [⟨.t 17, .load 3 true (.v 1), none⟩, ⟨.t
    18, .fadr 1 1 (.v 1), none⟩, ⟨.t 19, .load 1 false (.t 18), none⟩, ⟨.t 20, .bin .eql (.t 19) (.c (.v (.int .i64 0))), none⟩, ⟨.no, .store 3 (.v 2)
    (.t 17), none⟩, ⟨.v 3, .mv true (.t 20), none⟩, ⟨.v 4, .mv true (.c (.v (.int .i64 0))), none⟩] [(2, 4)]).seq PC.ret)))) [(.v 2, some (3, true)), (.v
    3, none), (.v 4, none)]
def pf18 : PF :=
  PF.mk 3 9 33 ((PC.reg [⟨.v 3, .box (.v 0), none⟩, ⟨.v 6, .alloc (.agg [.int .i64 0, .int .i64 0, .int .i64 0]), none⟩, ⟨.v 7, .mv true (.c (.v (.int
    .i64 0))), none⟩]).seq ((PC.block 0 (((PC.reg [⟨.t 10, .load 3 true (.v 3), none⟩, ⟨.t 11, .call 21 [.t 10], none⟩, ⟨.t 12, .bin .neq (.t 11) (.c (.v
    (.int .i64 0))), none⟩, ⟨.t 9, .mv true (.t 12), none⟩]).seq (PC.cond (.t 9) PC.skip (PC.reg [⟨.t 13, .mv false (.v 1), none⟩, ⟨.t 14, .call 43 [.t
    13, .c (.v (.int .i64 1)), .c (.v (.int .i64 1099511627776))], none⟩, ⟨.t 15, .un .not (.t 14), none⟩, ⟨.t 9, .mv true (.t 15), none⟩]))).seq
    (PC.cond (.t 9) ((PC.reg [⟨.t 16, .build (.agg [.int .i64 0, .int .i64 0, .int .i64 0]) [], none⟩, ⟨.no, .store 3 (.v 6) (.t 16), none⟩, ⟨.v 7, .mv
    true (.c (.v (.int .i64 1))), none⟩]).seq PC.ret) ((PC.reg [⟨.t 18, .mv false (.v 1), none⟩, ⟨.t 19, .fadr 0 0 (.v 3), none⟩, ⟨.t 20, .load 1 false
    (.t 19), none⟩, ⟨.t 21, .bin .leq (.t 18) (.t 20), none⟩, ⟨.t 17, .mv true (.t 21), none⟩]).seq (PC.cond (.t 17) ((PC.reg [⟨.t 22, .build (.agg [.int
    .i64 0, .int .i64 0, .int .i64 0]) [], none⟩, ⟨.no, .store 3 (.v 6) (.t 22), none⟩, ⟨.v 7, .mv true (.c (.v (.int .i64 11))), none⟩]).seq PC.ret)
    PC.skip))))).seq ((PC.reg [⟨.t 23, .fadr 2 2 (.v 3), none⟩, ⟨.t 24, .load 1 false (.t 23), none⟩, ⟨.t 25, .bin .add (.t 24) (.c (.v (.int .i64 1))),
    none⟩, ⟨.t 26, .mm false [.t 25, .c (.v (.int .i64 60))], none⟩, ⟨.v 8, .mv true (.t 26), none⟩]).seq (((PC.reg [⟨.t 27, .mv false (.v 2),
    none⟩]).seq (PC.cond (.t 27) (PC.reg [⟨.v 8, .mv true (.c (.v (.int .i64 0))), none⟩]) PC.skip)).seq ((PC.reg [⟨.t 28, .mv false (.v 1), none⟩, ⟨.t
    29, .mv false (.v 8), none⟩, ⟨.t 30, .call 22 [.t 29], none⟩, ⟨.t 31, .mv false (.v 8), none⟩, ⟨.t 32, .build (.agg [.int .i64 0, .int .i64 0, .int
    .i64 0]) [(0, .t 28), (1, .t 30), (2, .t 31)], none⟩, ⟨.no, .store 3 (.v 6) (.t 32), none⟩, ⟨.v 7, .mv true (.c (.v (.int .i64 0))), none⟩]).seq
    PC.ret))))) [(.v 6, some (3, true)), (.v 7, none)]
def pf19 : PF :=
  PF.mk 3 8 41 ((PC.reg [⟨.v 3, .box (.v 0), none⟩, ⟨.v 6, .alloc (.agg [.int .i64 0, .int .i64 0, .int .i64 0]), none⟩, ⟨.v 7, .mv true (.c (.v (.int
    .i64 0))), none⟩]).seq (((PC.reg [⟨.t 8, .load 3 true (.v 3), none⟩, ⟨.t 9, .call 20 [.t 8], none⟩, ⟨.t 10, .un .not (.t 9), none⟩, ⟨.t 11, .mv false
    (.t 10), none⟩, ⟨.t 12, .mv false (.v 1), some (.t 11, false)⟩, ⟨.t 13, .bin .lss (.t 12) (.c (.v (.int .i64 1))), some (.t 11, false)⟩, ⟨.t 14,
    .pick (.t 11) (.c (.v (.bool true))) (.t 13), none⟩, ⟨.t 15, .mv false (.t 14), none⟩, ⟨.t 16, .mv false (.v 1), some (.t 15, false)⟩, ⟨.t 17, .bin
    .gtr (.t 16) (.c (.v (.int .i64 1099511627776))), some (.t 15, false)⟩, ⟨.t 18, .pick (.t 15) (.c (.v (.bool true))) (.t 17), none⟩]).seq (PC.cond
    (.t 18) ((PC.reg [⟨.t 19, .build (.agg [.int .i64 0, .int .i64 0, .int .i64 0]) [], none⟩, ⟨.no, .store 3 (.v 6) (.t 19), none⟩, ⟨.v 7, .mv true (.c
    (.v (.int .i64 1))), none⟩]).seq PC.ret) PC.skip)).seq (((PC.reg [⟨.t 20, .mv false (.v 1), none⟩, ⟨.t 21, .fadr 0 0 (.v 3), none⟩, ⟨.t 22, .load 1
    false (.t 21), none⟩, ⟨.t 23, .bin .leq (.t 20) (.t 22), none⟩]).seq (PC.cond (.t 23) ((PC.reg [⟨.t 24, .build (.agg [.int .i64 0, .int .i64 0, .int
    .i64 0]) [], none⟩, ⟨.no, .store 3 (.v 6) (.t 24), none⟩, ⟨.v 7, .mv true (.c (.v (.int .i64 11))), none⟩]).seq PC.ret) PC.skip)).seq ((PC.reg [⟨.t
    25, .mv false (.v 1), none⟩, ⟨.t 26, .fadr 0 0 (.v 3), none⟩, ⟨.no, .store 1 (.t 26) (.t 25), none⟩]).seq (((PC.reg [⟨.t 27, .mv false (.v 2),
    none⟩]).seq (PC.cond (.t 27) (PC.reg [⟨.t 28, .fadr 2 2 (.v 3), none⟩, ⟨.no, .store 1 (.t 28) (.c (.v (.int .i64 0))), none⟩]) ((PC.reg [⟨.t 29,
    .fadr 2 2 (.v 3), none⟩, ⟨.t 30, .load 1 false (.t 29), none⟩, ⟨.t 31, .bin .lss (.t 30) (.c (.v (.int .i64 60))), none⟩]).seq (PC.cond (.t 31)
    (PC.reg [⟨.t 32, .fadr 2 2 (.v 3), none⟩, ⟨.t 33, .load 1 false (.t 32), none⟩, ⟨.t 34, .bin .add (.t 33) (.c (.v (.int .i64 1))), none⟩, ⟨.t 35,
    .fadr 2 2 (.v 3), none⟩, ⟨.no, .store 1 (.t 35) (.t 34), none⟩]) PC.skip)))).seq ((PC.reg [⟨.t 36, .fadr 2 2 (.v 3), none⟩, ⟨.t 37, .load 1 false (.t
    36), none⟩, ⟨.t 38, .call 23 [.t 37], none⟩, ⟨.t 39, .fadr 1 1 (.v 3), none⟩, ⟨.no, .store 1 (.t 39) (.t 38), none⟩]).seq ((PC.reg [⟨.t 40, .load 3
    true (.v 3), none⟩, ⟨.no, .store 3 (.v 6) (.t 40), none⟩, ⟨.v 7, .mv true (.c (.v (.int .i64 0))), none⟩]).seq PC.ret))))))) [(.v 6, some (3, true)),
    (.v 7, none)]
def pf20 : PF :=
  PF.mk 1 3 31 ((PC.reg [⟨.v 1, .box (.v 0), none⟩, ⟨.v 2, .mv true (.c (.v (.bool false))), none⟩]).seq ((PC.reg [⟨.t 3, .fadr 0 0 (.v 1), none⟩, ⟨.t 4,
    .load 1 false (.t 3), none⟩, ⟨.t 5, .bin .geq (.t 4) (.c (.v (.int .i64 0))), none⟩, ⟨.t 6, .mv false (.t 5), none⟩, ⟨.t 7, .fadr 0 0 (.v 1), some
    (.t 6, true)⟩, ⟨.t 8, .load 1 false (.t 7), some (.t 6, true)⟩, ⟨.t 9, .bin .leq (.t 8) (.c (.v (.int .i64 1099511627776))), some (.t 6, true)⟩, ⟨.t
    10, .pick (.t 6) (.t 9) (.c (.v (.bool false))), none⟩, ⟨.t 11, .mv false (.t 10), none⟩, ⟨.t 12, .fadr 1 1 (.v 1), some (.t 11, true)⟩, ⟨.t 13,
    .load 1 false (.t 12), some (.t 11, true)⟩, ⟨.t 14, .bin .geq (.t 13) (.c (.v (.int .i64 0))), some (.t 11, true)⟩, ⟨.t 15, .pick (.t 11) (.t 14) (.c
    (.v (.bool false))), none⟩, ⟨.t 16, .mv false (.t 15), none⟩, ⟨.t 17, .fadr 1 1 (.v 1), some (.t 16, true)⟩, ⟨.t 18, .load 1 false (.t 17), some (.t
    16, true)⟩, ⟨.t 19, .bin .leq (.t 18) (.c (.v (.int .i64 64))), some (.t 16, true)⟩, ⟨.t 20, .pick (.t 16) (.t 19) (.c (.v (.bool false))), none⟩,
    ⟨.t 21, .mv false (.t 20), none⟩, ⟨.t 22, .fadr 2 2 (.v 1), some (.t 21, true)⟩, ⟨.t 23, .load 1 false (.t 22), some (.t 21, true)⟩, ⟨.t 24, .bin
    .geq (.t 23) (.c (.v (.int .i64 0))), some (.t 21, true)⟩, ⟨.t 25, .pick (.t 21) (.t 24) (.c (.v (.bool false))), none⟩, ⟨.t 26, .mv false (.t 25),
    none⟩, ⟨.t 27, .fadr 2 2 (.v 1), some (.t 26, true)⟩, ⟨.t 28, .load 1 false (.t 27), some (.t 26, true)⟩, ⟨.t 29, .bin .leq (.t 28) (.c (.v (.int
    .i64 60))), some (.t 26, true)⟩, ⟨.t 30, .pick (.t 26) (.t 29) (.c (.v (.bool false))), none⟩, ⟨.v 2, .mv true (.t 30), none⟩]).seq PC.ret)) [(.v 2,
    none)]
def pf21 : PF :=
  PF.mk 1 3 20 ((PC.reg [⟨.v 1, .box (.v 0), none⟩, ⟨.v 2, .mv true (.c (.v (.int .i64 0))), none⟩]).seq (((PC.regD 0 [⟨.t 3, .fadr 0 0 (.v 1), none⟩,
    ⟨.t 4, .load 1 false (.t 3), none⟩, ⟨.t 5, .call 43 [.t 4, .c (.v (.int .i64 0)), .c (.v (.int .i64 1099511627776))], none⟩, ⟨.t 6, .un .not (.t 5),
    none⟩, ⟨.t 7, .mv false (.t 6), none⟩, ⟨.t 8, .fadr 1 1 (.v 1), some (.t 7, false)⟩, ⟨.t 9, .load 1 false (.t 8), some (.t 7, false)⟩, ⟨.t 10, .call
    22 [.c (.v (.int .i64 4))], some (.t 7, false)⟩, ⟨.t 11, .call 43 [.t 9, .c (.v (.int .i64 0)), .t 10], some (.t 7, false)⟩, ⟨.t 12, .un .not (.t
    11), some (.t 7, false)⟩, ⟨.t 13, .pick (.t 7) (.c (.v (.bool true))) (.t 12), none⟩, ⟨.t 14, .mv false (.t 13), none⟩, ⟨.t 15, .fadr 2 2 (.v 1),
    some (.t 14, false)⟩, ⟨.t 16, .load 1 false (.t 15), some (.t 14, false)⟩, ⟨.t 17, .call 43 [.t 16, .c (.v (.int .i64 0)), .c (.v (.int .i64 60))],
    some (.t 14, false)⟩, ⟨.t 18, .un .not (.t 17), some (.t 14, false)⟩, ⟨.t 19, .pick (.t 14) (.c (.v (.bool true))) (.t 18), none⟩] []).seq (PC.cond
    (.t 19) ((PC.reg [⟨.v 2, .mv true (.c (.v (.int .i64 1))), none⟩]).seq PC.ret) PC.skip)).seq ((PC.reg [⟨.v 2, .mv true (.c (.v (.int .i64 0))),
    none⟩]).seq PC.ret))) [(.v 2, none)]
def pf22 : PF :=
  PF.mk 1 3 7 ((PC.reg [⟨.v 2, .mv true (.c (.v (.int .i64 0))), none⟩]).seq ((PC.reg [⟨.t 3, .mv false (.v 0), none⟩, ⟨.t 4, .mm true [.t 3, .c (.v
    (.int .i64 0))], none⟩, ⟨.t 5, .mm false [.t 4, .c (.v (.int .i64 4))], none⟩, ⟨.t 6, .bin .shl (.c (.v (.int .i64 4))) (.t 5), none⟩, ⟨.v 2, .mv
    true (.t 6), none⟩]).seq PC.ret)) [(.v 2, none)]
def lp23_0 : PC :=
  ((PC.reg [⟨.t 5, .mv false (.v 4), none⟩, ⟨.t 6, .mv false (.v 0), none⟩, ⟨.t 7, .bin .lss (.t 5) (.t 6), none⟩, ⟨.t 8, .mv false (.t 7), none⟩, ⟨.t 9,
    .mv false (.v 3), some (.t 8, true)⟩, ⟨.t 10, .bin .lss (.t 9) (.c (.v (.int .i64 64))), some (.t 8, true)⟩, ⟨.t 11, .pick (.t 8) (.t 10) (.c (.v
    (.bool false))), none⟩]).seq (PC.cond (.t 11) PC.skip (PC.exit 0))).seq ((PC.block 1 (PC.reg [⟨.t 14, .mv false (.v 3), none⟩, ⟨.t 15, .bin .mul (.c
    (.v (.int .i64 2))) (.t 14), none⟩, ⟨.v 3, .mv true (.t 15), none⟩])).seq (PC.reg [⟨.t 12, .mv false (.v 4), none⟩, ⟨.t 13, .bin .add (.t 12) (.c (.v
    (.int .i64 1))), none⟩, ⟨.v 4, .mv true (.t 13), none⟩]))
def pf23 : PF :=
  PF.mk 1 5 17 ((PC.reg [⟨.v 2, .mv true (.c (.v (.int .i64 0))), none⟩]).seq ((PC.reg [⟨.v 3, .mv true (.c (.v (.int .i64 4))), none⟩]).seq (((PC.reg
    [⟨.v 4, .mv true (.c (.v (.int .i64 0))), none⟩]).seq (PC.block 0 (PC.loop [0, 3, 4] lp23_0))).seq ((PC.reg [⟨.t 16, .mv false (.v 3), none⟩, ⟨.v 2,
    .mv true (.t 16), none⟩]).seq PC.ret)))) [(.v 2, none)]
def pf24 : PF :=
  PF.mk 0 3 23 ((PC.reg [⟨.v 0, .mv true (.c (.v (.bool false))), none⟩]).seq ((PC.reg [⟨.t 4, .build (.agg [.int .i64 0, .int .i64 0, .int .i64 0]) [],
    none⟩, ⟨.t 5, .call 18 [.t 4, .c (.v (.int .i64 1)), .c (.v (.bool true))], none⟩, ⟨.t 3, .mv false (.t 5), none⟩, ⟨.t 6, .ext (.t 3) 0, none⟩, ⟨.t
    7, .ext (.t 3) 1, none⟩, ⟨.v 1, .alloc (.agg [.int .i64 0, .int .i64 0, .int .i64 0]), none⟩, ⟨.no, .store 3 (.v 1) (.t 6), none⟩, ⟨.v 2, .mv true
    (.t 7), none⟩]).seq ((PC.reg [⟨.t 8, .mv false (.v 2), none⟩, ⟨.t 9, .bin .eql (.t 8) (.c (.v (.int .i64 0))), none⟩, ⟨.t 10, .mv false (.t 9),
    none⟩, ⟨.t 11, .fadr 1 1 (.v 1), some (.t 10, true)⟩, ⟨.t 12, .load 1 false (.t 11), some (.t 10, true)⟩, ⟨.t 13, .bin .eql (.t 12) (.c (.v (.int
    .i64 4))), some (.t 10, true)⟩, ⟨.t 14, .pick (.t 10) (.t 13) (.c (.v (.bool false))), none⟩, ⟨.t 15, .mv false (.t 14), none⟩, ⟨.t 16, .call 22 [.c
    (.v (.int .i64 9))], some (.t 15, true)⟩, ⟨.t 17, .bin .eql (.t 16) (.c (.v (.int .i64 64))), some (.t 15, true)⟩, ⟨.t 18, .pick (.t 15) (.t 17) (.c
    (.v (.bool false))), none⟩, ⟨.t 19, .mv false (.t 18), none⟩, ⟨.t 20, .call 22 [.c (.v (.int .i64 0))], some (.t 19, true)⟩, ⟨.t 21, .bin .eql (.t
    20) (.c (.v (.int .i64 4))), some (.t 19, true)⟩, ⟨.t 22, .pick (.t 19) (.t 21) (.c (.v (.bool false))), none⟩, ⟨.v 0, .mv true (.t 22), none⟩]).seq
    PC.ret))) [(.v 0, none)]
def pf25 : PF :=
  PF.mk 1 4 14 ((PC.reg [⟨.v 1, .box (.v 0), none⟩, ⟨.v 2, .alloc (.agg [.int .i64 0, .int .i64 0, .int .i64 0]), none⟩, ⟨.v 3, .mv true (.c (.v (.bool
    false))), none⟩]).seq (((PC.reg [⟨.t 4, .fadr 1 1 (.v 1), none⟩, ⟨.t 5, .load 1 false (.t 4), none⟩, ⟨.t 6, .bin .gtr (.t 5) (.c (.v (.int .i64 1))),
    none⟩]).seq (PC.cond (.t 6) ((PC.reg [⟨.t 7, .fadr 1 1 (.v 1), none⟩, ⟨.t 8, .load 1 false (.t 7), none⟩, ⟨.t 9, .bin .sub (.t 8) (.c (.v (.int .i64
    1))), none⟩, ⟨.t 10, .fadr 1 1 (.v 1), none⟩, ⟨.no, .store 1 (.t 10) (.t 9), none⟩]).seq ((PC.reg [⟨.t 11, .load 3 true (.v 1), none⟩, ⟨.no, .store 3
    (.v 2) (.t 11), none⟩, ⟨.v 3, .mv true (.c (.v (.bool false))), none⟩]).seq PC.ret)) PC.skip)).seq ((PC.reg [⟨.t 12, .fadr 1 1 (.v 1), none⟩, ⟨.no,
    .store 1 (.t 12) (.c (.v (.int .i64 0))), none⟩]).seq ((PC.reg [⟨.t 13, .load 3 true (.v 1), none⟩, ⟨.no, .store 3 (.v 2) (.t 13), none⟩, ⟨.v 3, .mv
    true (.c (.v (.bool true))), none⟩]).seq PC.ret)))) [(.v 2, some (3, true)), (.v 3, none)]
def pf43 : PF :=
  PF.mk 3 7 15 ((PC.reg [⟨.v 6, .mv true (.c (.v (.bool false))), none⟩]).seq ((PC.reg [⟨.t 7, .mv false (.v 0), none⟩, ⟨.t 8, .mv false (.v 1), none⟩,
    ⟨.t 9, .bin .geq (.t 7) (.t 8), none⟩, ⟨.t 10, .mv false (.t 9), none⟩, ⟨.t 11, .mv false (.v 0), some (.t 10, true)⟩, ⟨.t 12, .mv false (.v 2), some
    (.t 10, true)⟩, ⟨.t 13, .bin .leq (.t 11) (.t 12), some (.t 10, true)⟩, ⟨.t 14, .pick (.t 10) (.t 13) (.c (.v (.bool false))), none⟩, ⟨.v 6, .mv true
    (.t 14), none⟩]).seq PC.ret)) [(.v 6, none)]
attribute [local irreducible] W Wops WopsD WL Wop WopD
variable {E : Env} {C : Abs.Spec} {l : List (Nat × Spec1)} {G : List (Nat × V)} {Q : R → List (Nat × V) → Prop}
set_option maxHeartbeats 1000000

def wait (n : Int) : Int := if n ≤ 0 then 4 else if n = 1 then 8 else if n = 2 then 16 else if n = 3 then 32 else 64
def may (v l f : Int) : Prop := (0 ≤ v ∧ v ≤ 1099511627776) ∧ (0 ≤ l ∧ l ≤ 64) ∧ 0 ≤ f ∧ f ≤ 60
def S43 : Spec1
  | [.int .i64 n, .int .i64 lo, .int .i64 hi], G, Q => Q (.v (.bool (decide (lo ≤ n) && decide (n ≤ hi)))) G
  | _, _, _ => False
theorem S43_eq {n lo hi} : S43 [.int .i64 n, .int .i64 lo, .int .i64 hi] G Q = (Q (.v (.bool (decide (lo ≤ n) && decide (n ≤ hi)))) G) := rfl
def S22 : Spec1
  | [.int .i64 n], G, Q => Q (.v (.int .i64 (wait n))) G
  | _, _, _ => False
theorem S22_eq {n} : S22 [.int .i64 n] G Q = (Q (.v (.int .i64 (wait n))) G) := rfl

theorem w43 {n lo hi} (h : Q (.v (.bool (decide (lo ≤ n) && decide (n ≤ hi)))) G) : Wf E C pf43 [.int .i64 n, .int .i64 lo, .int .i64 hi] G Q := by
  simp (maxSteps := 1000000) (implicitDefEqProofs := false) (disch := omega) only [pf43, go_sem, ↓reduceIte, decide_eq_true_eq, decide_eq_false_iff_not, ge_iff_le, gt_iff_lt, Int.not_le, Int.not_lt, w64, Bool.not_eq_true', Bool.not_eq_false', Bool.and_eq_true, Bool.and_eq_false_iff]
  refine ⟨fun c => finB h ?_, fun c => finB h ?_⟩ <;> simp [c]
  omega
theorem wait_cases (n : Int) : (n ≤ 0 ∧ wait n = 4) ∨ (n = 1 ∧ wait n = 8) ∨ (n = 2 ∧ wait n = 16) ∨ (n = 3 ∧ wait n = 32) ∨ (4 ≤ n ∧ wait n = 64) := by
  unfold wait; repeat' split
  all_goals omega
theorem w22 {n} (h : Q (.v (.int .i64 (wait n))) G) : Wf E C pf22 [.int .i64 n] G Q := by
  simp (maxSteps := 1000000) (implicitDefEqProofs := false) only [pf22, go_sem, ↓reduceIte, decide_eq_true_eq, decide_eq_false_iff_not, ge_iff_le, gt_iff_lt, Int.not_le, Int.not_lt, Bool.not_eq_true', Bool.not_eq_false', Bool.and_eq_true, Bool.and_eq_false_iff]
  rcases wait_cases n with ⟨e, hw⟩ | ⟨e, hw⟩ | ⟨e, hw⟩ | ⟨e, hw⟩ | ⟨e, hw⟩ <;> rw [hw] at h
  · have : (if 4 < if n < 0 then 0 else n then 4 else if n < 0 then 0 else n) = 0 := by repeat' split
                                                                                        all_goals omega
    rw [this]; exact ⟨by decide, h⟩
  · subst e; exact ⟨by decide, h⟩
  · subst e; exact ⟨by decide, h⟩
  · subst e; exact ⟨by decide, h⟩
  · have : (if 4 < if n < 0 then 0 else n then 4 else if n < 0 then 0 else n) = 4 := by repeat' split
                                                                                        all_goals omega
    rw [this]; exact ⟨by decide, h⟩
theorem w21 {v k f} (h43 : Abs.look l 43 = some S43) (h22 : Abs.look l 22 = some S22) (h1 : may v k f → Q (.v (.int .i64 0)) G) (h2 : ¬ may v k f → Q (.v (.int .i64 1)) G) : Wf E (specOf l) pf21 [.agg [.int .i64 v, .int .i64 k, .int .i64 f]] G Q := by
  simp (maxSteps := 1000000) (implicitDefEqProofs := false) only [pf21, h43, h22, S43_eq, S22_eq, go_sem, ↓reduceIte, decide_eq_true_eq, decide_eq_false_iff_not, ge_iff_le, gt_iff_lt, Int.not_le, Int.not_lt, Bool.not_eq_true', Bool.not_eq_false', Bool.and_eq_true, Bool.and_eq_false_iff]
  have e : wait 4 = 64 := by decide
  rw [e]
  repeat' first | (intro _) | constructor
  all_goals first | (refine h2 fun hm => ?_; unfold may at hm; omega) | (refine h1 ?_; unfold may; omega)
theorem w20 {v k f} (h1 : may v k f → Q (.v (.bool true)) G) (h2 : ¬ may v k f → Q (.v (.bool false)) G) : Wf E C pf20 [.agg [.int .i64 v, .int .i64 k, .int .i64 f]] G Q := by
  simp (maxSteps := 1000000) (implicitDefEqProofs := false) only [pf20, go_sem, ↓reduceIte, decide_eq_true_eq, decide_eq_false_iff_not, ge_iff_le, gt_iff_lt, Int.not_le, Int.not_lt, Bool.not_eq_true', Bool.not_eq_false', Bool.and_eq_true, Bool.and_eq_false_iff]
  repeat' first | (intro _) | constructor
  · by_cases c : f ≤ 60
    · rw [decide_eq_true c]; refine h1 ?_; unfold may; omega
    · rw [decide_eq_false c]; refine h2 fun hm => ?_; unfold may at hm; omega
  all_goals (refine h2 fun hm => ?_; unfold may at hm; omega)
theorem w23 {n} (h : Q (.v (.int .i64 (wait n))) G) : Wf E C pf23 [.int .i64 n] G Q := by
  have hw := wait_cases n
  simp (maxSteps := 1000000) (implicitDefEqProofs := false) only [pf23, go_sem, ↓reduceIte, decide_eq_true_eq, decide_eq_false_iff_not, ge_iff_le, gt_iff_lt, Int.not_le, Int.not_lt, Bool.not_eq_true', Bool.not_eq_false', Bool.and_eq_true, Bool.and_eq_false_iff]
  refine ⟨5, ?_⟩
  simp (maxSteps := 1000000) (implicitDefEqProofs := false) only [go_sem, ↓reduceIte, decide_eq_true_eq, decide_eq_false_iff_not, ge_iff_le, gt_iff_lt, Int.not_le, Int.not_lt, Bool.not_eq_true', Bool.not_eq_false', Bool.and_eq_true, Bool.and_eq_false_iff]
  refine WL_in lp23_0.eq_1 ?_
  simp (maxSteps := 1000000) (implicitDefEqProofs := false) (disch := omega) only [go_sem, ↓reduceIte, decide_eq_true_eq, decide_eq_false_iff_not, ge_iff_le, gt_iff_lt, Int.not_le, Int.not_lt, w64, Bool.not_eq_true', Bool.not_eq_false', Bool.and_eq_true, Bool.and_eq_false_iff]
  refine ⟨fun c => ?_, fun c => finI h (by omega)⟩
  refine WL_in lp23_0.eq_1 ?_
  simp (maxSteps := 1000000) (implicitDefEqProofs := false) (disch := omega) only [go_sem, ↓reduceIte, decide_eq_true_eq, decide_eq_false_iff_not, ge_iff_le, gt_iff_lt, Int.not_le, Int.not_lt, w64, Bool.not_eq_true', Bool.not_eq_false', Bool.and_eq_true, Bool.and_eq_false_iff]
  refine ⟨fun c => ?_, fun c => finI h (by omega)⟩
  refine WL_in lp23_0.eq_1 ?_
  simp (maxSteps := 1000000) (implicitDefEqProofs := false) (disch := omega) only [go_sem, ↓reduceIte, decide_eq_true_eq, decide_eq_false_iff_not, ge_iff_le, gt_iff_lt, Int.not_le, Int.not_lt, w64, Bool.not_eq_true', Bool.not_eq_false', Bool.and_eq_true, Bool.and_eq_false_iff]
  refine ⟨fun c => ?_, fun c => finI h (by omega)⟩
  refine WL_in lp23_0.eq_1 ?_
  simp (maxSteps := 1000000) (implicitDefEqProofs := false) (disch := omega) only [go_sem, ↓reduceIte, decide_eq_true_eq, decide_eq_false_iff_not, ge_iff_le, gt_iff_lt, Int.not_le, Int.not_lt, w64, Bool.not_eq_true', Bool.not_eq_false', Bool.and_eq_true, Bool.and_eq_false_iff]
  refine ⟨fun c => ?_, fun c => finI h (by omega)⟩
  refine WL_in lp23_0.eq_1 ?_
  simp (maxSteps := 1000000) (implicitDefEqProofs := false) (disch := omega) only [go_sem, ↓reduceIte, decide_eq_true_eq, decide_eq_false_iff_not, ge_iff_le, gt_iff_lt, Int.not_le, Int.not_lt, w64, Bool.not_eq_true', Bool.not_eq_false', Bool.and_eq_true, Bool.and_eq_false_iff]
  repeat' first | (intro _) | constructor
  all_goals exact finI h (by omega)
def pac (v k f : Int) : V := .agg [.int .i64 v, .int .i64 k, .int .i64 f]
def S21 : Spec1
  | [.agg [.int .i64 v, .int .i64 k, .int .i64 f]], G, Q => (may v k f → Q (.v (.int .i64 0)) G) ∧ (¬ may v k f → Q (.v (.int .i64 1)) G)
  | _, _, _ => False
theorem S21_eq {v k f} : S21 [.agg [.int .i64 v, .int .i64 k, .int .i64 f]] G Q = ((may v k f → Q (.v (.int .i64 0)) G) ∧ (¬ may v k f → Q (.v (.int .i64 1)) G)) := rfl
def S20 : Spec1
  | [.agg [.int .i64 v, .int .i64 k, .int .i64 f]], G, Q => (may v k f → Q (.v (.bool true)) G) ∧ (¬ may v k f → Q (.v (.bool false)) G)
  | _, _, _ => False
theorem S20_eq {v k f} : S20 [.agg [.int .i64 v, .int .i64 k, .int .i64 f]] G Q = ((may v k f → Q (.v (.bool true)) G) ∧ (¬ may v k f → Q (.v (.bool false)) G)) := rfl

def tk (k : Int) : Int := if k ≤ 1 then 0 else k - 1
def nf (b : Bool) (f : Int) : Int := if b = true then 0 else if f < 60 then f + 1 else 60
def bad (v k f a : Int) : Prop := ¬ may v k f ∨ a < 1 ∨ 1099511627776 < a
def S17 : Spec1
  | [.agg [.int .i64 v, .int .i64 k, .int .i64 f]], G, Q => (may v k f → Q (.tup [.agg [.int .i64 v, .int .i64 (tk k), .int .i64 f], .bool (decide (k ≤ 1)), .int .i64 0]) G) ∧ (¬ may v k f → Q (.tup [.agg [.int .i64 0, .int .i64 0, .int .i64 0], .bool false, .int .i64 1]) G)
  | _, _, _ => False
theorem S17_eq {v k f} : S17 [.agg [.int .i64 v, .int .i64 k, .int .i64 f]] G Q = ((may v k f → Q (.tup [.agg [.int .i64 v, .int .i64 (tk k), .int .i64 f], .bool (decide (k ≤ 1)), .int .i64 0]) G) ∧ (¬ may v k f → Q (.tup [.agg [.int .i64 0, .int .i64 0, .int .i64 0], .bool false, .int .i64 1]) G)) := rfl
def S25 : Spec1
  | [.agg [.int .i64 v, .int .i64 k, .int .i64 f]], G, Q => may v k f ∧ Q (.tup [.agg [.int .i64 v, .int .i64 (tk k), .int .i64 f], .bool (decide (k ≤ 1))]) G
  | _, _, _ => False
theorem S25_eq {v k f} : S25 [.agg [.int .i64 v, .int .i64 k, .int .i64 f]] G Q = (may v k f ∧ Q (.tup [.agg [.int .i64 v, .int .i64 (tk k), .int .i64 f], .bool (decide (k ≤ 1))]) G) := rfl
def S18 : Spec1
  | [.agg [.int .i64 v, .int .i64 k, .int .i64 f], .int .i64 a, .bool b], G, Q => (bad v k f a → Q (.tup [.agg [.int .i64 0, .int .i64 0, .int .i64 0], .int .i64 1]) G) ∧ (¬ bad v k f a → (a ≤ v → Q (.tup [.agg [.int .i64 0, .int .i64 0, .int .i64 0], .int .i64 11]) G) ∧ (¬ a ≤ v → Q (.tup [.agg [.int .i64 a, .int .i64 (wait (nf b f)), .int .i64 (nf b f)], .int .i64 0]) G))
  | _, _, _ => False
theorem S18_eq {v k f a b} : S18 [.agg [.int .i64 v, .int .i64 k, .int .i64 f], .int .i64 a, .bool b] G Q = ((bad v k f a → Q (.tup [.agg [.int .i64 0, .int .i64 0, .int .i64 0], .int .i64 1]) G) ∧ (¬ bad v k f a → (a ≤ v → Q (.tup [.agg [.int .i64 0, .int .i64 0, .int .i64 0], .int .i64 11]) G) ∧ (¬ a ≤ v → Q (.tup [.agg [.int .i64 a, .int .i64 (wait (nf b f)), .int .i64 (nf b f)], .int .i64 0]) G))) := rfl
def S24 : Spec1
  | [], G, Q => Q (.v (.bool true)) G
  | _, _, _ => False
theorem S24_eq : S24 [] G Q = (Q (.v (.bool true)) G) := rfl

theorem w17 {v k f} (h21 : Abs.look l 21 = some S21) (h1 : may v k f → Q (.tup [.agg [.int .i64 v, .int .i64 (tk k), .int .i64 f], .bool (decide (k ≤ 1)), .int .i64 0]) G) (h2 : ¬ may v k f → Q (.tup [.agg [.int .i64 0, .int .i64 0, .int .i64 0], .bool false, .int .i64 1]) G) : Wf E (specOf l) pf17 [.agg [.int .i64 v, .int .i64 k, .int .i64 f]] G Q := by
  simp (maxSteps := 1000000) (implicitDefEqProofs := false) only [pf17, h21, S21_eq, go_sem, ↓reduceIte, decide_eq_true_eq, decide_eq_false_iff_not, ge_iff_le, gt_iff_lt, Int.not_le, Int.not_lt, Bool.not_eq_true', Bool.not_eq_false', Bool.and_eq_true, Bool.and_eq_false_iff]
  refine ⟨fun hm => fin (h1 hm) ?_, h2⟩
  unfold may at hm
  rw [w64 (by omega) (by omega)]
  have e1 : (if k - 1 < 0 then 0 else k - 1) = tk k := by unfold tk; split <;> split <;> omega
  have e2 : decide (tk k = 0) = decide (k ≤ 1) := by unfold tk; split <;> simp <;> omega
  rw [e1, e2]
theorem w25 {v k f} (hm : may v k f) (h : Q (.tup [.agg [.int .i64 v, .int .i64 (tk k), .int .i64 f], .bool (decide (k ≤ 1))]) G) : Wf E C pf25 [.agg [.int .i64 v, .int .i64 k, .int .i64 f]] G Q := by
  simp (maxSteps := 1000000) (implicitDefEqProofs := false) only [pf25, go_sem, ↓reduceIte, decide_eq_true_eq, decide_eq_false_iff_not, ge_iff_le, gt_iff_lt, Int.not_le, Int.not_lt, Bool.not_eq_true', Bool.not_eq_false', Bool.and_eq_true, Bool.and_eq_false_iff]
  unfold may at hm
  refine ⟨fun c => fin h ?_, fun c => fin h ?_⟩
  · rw [w64 (by omega) (by omega)]; unfold tk; rw [if_neg (by omega), decide_eq_false (by omega)]
  · unfold tk; rw [if_pos (by omega), decide_eq_true (by omega)]
theorem w18 {v k f a b} (h21 : Abs.look l 21 = some S21) (h22 : Abs.look l 22 = some S22) (h43 : Abs.look l 43 = some S43) (h : (bad v k f a → Q (.tup [.agg [.int .i64 0, .int .i64 0, .int .i64 0], .int .i64 1]) G) ∧ (¬ bad v k f a → (a ≤ v → Q (.tup [.agg [.int .i64 0, .int .i64 0, .int .i64 0], .int .i64 11]) G) ∧ (¬ a ≤ v → Q (.tup [.agg [.int .i64 a, .int .i64 (wait (nf b f)), .int .i64 (nf b f)], .int .i64 0]) G))) : Wf E (specOf l) pf18 [.agg [.int .i64 v, .int .i64 k, .int .i64 f], .int .i64 a, .bool b] G Q := by
  simp (maxSteps := 1000000) (implicitDefEqProofs := false) only [pf18, h21, S21_eq, h22, S22_eq, h43, S43_eq, go_sem, ↓reduceIte, decide_eq_true_eq, decide_eq_false_iff_not, ge_iff_le, gt_iff_lt, Int.not_le, Int.not_lt, Bool.not_eq_true', Bool.not_eq_false', Bool.and_eq_true, Bool.and_eq_false_iff]
  obtain ⟨h1, h2⟩ := h
  refine ⟨fun hm => ⟨fun c => h1 (.inr (by omega)), fun c => ?_⟩, fun hm => h1 (.inl hm)⟩
  obtain ⟨h3, h4⟩ := h2 (by unfold bad; rintro (e | e); exact e hm; omega)
  unfold may at hm
  refine ⟨h3, fun c2 => ⟨fun hb => ?_, fun hb => ?_⟩⟩
  · subst hb; exact h4 (by omega)
  · subst hb
    refine fin (h4 (by omega)) ?_
    rw [w64 (by omega) (by omega)]
    have : nf false f = if 60 < f + 1 then 60 else f + 1 := by unfold nf; simp only [Bool.false_eq_true, if_false]; split <;> split <;> omega
    rw [this]
theorem w19 {v k f a b} (h20 : Abs.look l 20 = some S20) (h23 : Abs.look l 23 = some S22) (h : (bad v k f a → Q (.tup [.agg [.int .i64 0, .int .i64 0, .int .i64 0], .int .i64 1]) G) ∧ (¬ bad v k f a → (a ≤ v → Q (.tup [.agg [.int .i64 0, .int .i64 0, .int .i64 0], .int .i64 11]) G) ∧ (¬ a ≤ v → Q (.tup [.agg [.int .i64 a, .int .i64 (wait (nf b f)), .int .i64 (nf b f)], .int .i64 0]) G))) : Wf E (specOf l) pf19 [.agg [.int .i64 v, .int .i64 k, .int .i64 f], .int .i64 a, .bool b] G Q := by
  simp (maxSteps := 1000000) (implicitDefEqProofs := false) only [pf19, h20, S20_eq, h23, S22_eq, go_sem, ↓reduceIte, decide_eq_true_eq, decide_eq_false_iff_not, ge_iff_le, gt_iff_lt, Int.not_le, Int.not_lt, Bool.not_eq_true', Bool.not_eq_false', Bool.and_eq_true, Bool.and_eq_false_iff]
  obtain ⟨h1, h2⟩ := h
  refine ⟨fun hm => ⟨fun c => h1 (.inr (by omega)), fun c => ⟨fun c1 => h1 (.inr (by omega)), fun c1 => ?_⟩⟩, fun hm => h1 (.inl hm)⟩
  obtain ⟨h3, h4⟩ := h2 (by unfold bad; rintro (e | e); exact e hm; omega)
  unfold may at hm
  refine ⟨h3, fun c2 => ⟨fun hb => ?_, fun hb => ⟨fun c3 => ?_, fun c3 => ?_⟩⟩⟩
  · subst hb; exact h4 (by omega)
  · subst hb
    refine fin (h4 (by omega)) ?_
    rw [w64 (by omega) (by omega)]
    have : nf false f = f + 1 := by unfold nf; simp only [Bool.false_eq_true, if_false]; rw [if_pos c3]
    rw [this]
  · subst hb
    refine fin (h4 (by omega)) ?_
    have : nf false f = f := by unfold nf; simp only [Bool.false_eq_true, if_false]; rw [if_neg (by omega)]; omega
    rw [this]
theorem w24 (h18 : Abs.look l 18 = some S18) (h22 : Abs.look l 22 = some S22) (h : Q (.v (.bool true)) G) : Wf E (specOf l) pf24 [] G Q := by
  simp (maxSteps := 1000000) (implicitDefEqProofs := false) only [pf24, h18, S18_eq, h22, S22_eq, go_sem, ↓reduceIte, decide_eq_true_eq, decide_eq_false_iff_not, ge_iff_le, gt_iff_lt, Int.not_le, Int.not_lt, Bool.not_eq_true', Bool.not_eq_false', Bool.and_eq_true, Bool.and_eq_false_iff]
  have e0 : ¬ bad 0 0 0 1 := by unfold bad may; omega
  have e1 : wait (nf true 0) = 4 := by decide
  have e2 : wait 9 = 64 := by decide
  have e3 : wait 0 = 4 := by decide
  repeat' first | (intro _) | constructor
  all_goals first | contradiction | (rw [decide_eq_true e3]; exact h)
theorem w4 {v k f a b} (h17 : Abs.look l 17 = some S17) (h18 : Abs.look l 18 = some S18) (h19 : Abs.look l 19 = some S18) (h20 : Abs.look l 20 = some S20) (h21 : Abs.look l 21 = some S21) (h22 : Abs.look l 22 = some S22) (h23 : Abs.look l 23 = some S22) (h24 : Abs.look l 24 = some S24) (h25 : Abs.look l 25 = some S25)
    (h : Q (.v (.bool true)) G) : Wf E (specOf l) pf4 [.agg [.int .i64 v, .int .i64 k, .int .i64 f], .int .i64 a, .bool b] G Q := by
  by_cases hm : may v k f
  · simp (maxSteps := 1000000) (implicitDefEqProofs := false) only [pf4, h17, h18, h19, h20, h21, h22, h23, h24, h25, S17_eq, S18_eq, S20_eq, S21_eq, S22_eq, S24_eq, S25_eq, hm, go_sem, ↓reduceIte, decide_eq_true_eq, decide_eq_false_iff_not, ge_iff_le, gt_iff_lt, Int.not_le, Int.not_lt, Bool.not_eq_true', Bool.not_eq_false', Bool.and_eq_true, Bool.and_eq_false_iff]
    have hm2 : may v (tk k) f := by unfold may tk at *; split <;> omega
    have hw : wait (nf b f) ≠ 0 := by have := wait_cases (nf b f); omega
    repeat' first | (intro _) | constructor
    all_goals first | exact h | contradiction | (exfalso; omega)
  · simp (maxSteps := 1000000) (implicitDefEqProofs := false) only [pf4, h17, h18, h19, h20, h21, h22, h23, h24, h25, S17_eq, S18_eq, S20_eq, S21_eq, S22_eq, S24_eq, S25_eq, hm, go_sem, ↓reduceIte, decide_eq_true_eq, decide_eq_false_iff_not, ge_iff_le, gt_iff_lt, Int.not_le, Int.not_lt, Bool.not_eq_true', Bool.not_eq_false', Bool.and_eq_true, Bool.and_eq_false_iff]
    have hw : wait (nf b f) ≠ 0 := by have := wait_cases (nf b f); omega
    repeat' first | (intro _) | constructor
    all_goals first | exact h | contradiction | (exfalso; omega)

end Go.Proofs.Ytcicoepkmiahbaa.Pace
