/- What the functions behind BudgetOf hand back, over plain values; no conditions. -/
import Derived.Test.YtcicoepkmiahbaaPlain5
namespace Go.Proofs.Ytcicoepkmiahbaa.BudgetOf
open Go Go.Abs
set_option linter.unusedSimpArgs false
set_option maxRecDepth 100000
def pf3 : PF :=
  PF.mk 1 12 124 ((PC.reg [⟨.v 1, .box (.v 0), none⟩, ⟨.v 2, .mv true (.c (.v (.bool false))), none⟩]).seq ((PC.regD 0 [⟨.t 12, .iadrA 4 (.v 1) (.c (.v
    (.int .i64 0))), none⟩, ⟨.t 13, .load 1 false (.t 12), none⟩, ⟨.t 14, .iadrA 4 (.v 1) (.c (.v (.int .i64 1))), none⟩, ⟨.t 15, .load 1 false (.t 14),
    none⟩, ⟨.t 16, .iadrA 4 (.v 1) (.c (.v (.int .i64 2))), none⟩, ⟨.t 17, .load 1 false (.t 16), none⟩, ⟨.t 18, .iadrA 4 (.v 1) (.c (.v (.int .i64 3))),
    none⟩, ⟨.t 19, .load 1 false (.t 18), none⟩, ⟨.v 3, .mv true (.t 13), none⟩, ⟨.v 4, .mv true (.t 15), none⟩, ⟨.v 5, .mv true (.t 17), none⟩, ⟨.v 6,
    .mv true (.t 19), none⟩] []).seq ((PC.reg [⟨.t 21, .mv false (.v 3), none⟩, ⟨.t 22, .call 10 [.t 21], none⟩, ⟨.t 20, .mv false (.t 22), none⟩, ⟨.t
    23, .ext (.t 20) 0, none⟩, ⟨.t 24, .ext (.t 20) 1, none⟩, ⟨.v 7, .alloc (.agg [.int .i64 0, .int .i64 0, .int .i64 0, .int .i64 0, .int .i64 0]),
    none⟩, ⟨.no, .store 5 (.v 7) (.t 23), none⟩, ⟨.v 8, .mv true (.t 24), none⟩]).seq ((PC.reg [⟨.t 25, .mv false (.v 3), none⟩, ⟨.t 26, .bin .geq (.t
    25) (.c (.v (.int .i64 1))), none⟩, ⟨.t 27, .mv false (.t 26), none⟩, ⟨.t 28, .mv false (.v 3), some (.t 27, true)⟩, ⟨.t 29, .bin .leq (.t 28) (.c
    (.v (.int .i64 10))), some (.t 27, true)⟩, ⟨.t 30, .pick (.t 27) (.t 29) (.c (.v (.bool false))), none⟩, ⟨.v 9, .mv true (.t 30), none⟩]).seq
    (((PC.reg [⟨.t 31, .mv false (.v 8), none⟩, ⟨.t 32, .bin .eql (.t 31) (.c (.v (.int .i64 0))), none⟩, ⟨.t 33, .mv false (.v 9), none⟩, ⟨.t 34, .binB
    .neq (.t 32) (.t 33), none⟩, ⟨.t 35, .mv false (.t 34), none⟩, ⟨.t 36, .mv false (.v 8), some (.t 35, false)⟩, ⟨.t 37, .bin .eql (.t 36) (.c (.v
    (.int .i64 1))), some (.t 35, false)⟩, ⟨.t 38, .mv false (.v 9), some (.t 35, false)⟩, ⟨.t 39, .un .not (.t 38), some (.t 35, false)⟩, ⟨.t 40, .binB
    .neq (.t 37) (.t 39), some (.t 35, false)⟩, ⟨.t 41, .pick (.t 35) (.c (.v (.bool true))) (.t 40), none⟩, ⟨.t 42, .mv false (.t 41), none⟩, ⟨.t 43,
    .mv false (.v 9), some (.t 42, false)⟩, ⟨.t 44, .un .not (.t 43), some (.t 42, false)⟩, ⟨.t 45, .mv false (.t 44), some (.t 42, false)⟩, ⟨.t 46,
    .load 5 true (.v 7), some (.t 45, true)⟩, ⟨.t 47, .build (.agg [.int .i64 0, .int .i64 0, .int .i64 0, .int .i64 0, .int .i64 0]) [], some (.t 45,
    true)⟩, ⟨.t 48, .eqa true (.agg (.cons 0 1 false .int (.cons 1 1 false .int (.cons 2 1 false .int (.cons 3 1 false .int (.cons 4 1 false .int
    .nil)))))) (.t 46) (.t 47), some (.t 45, true)⟩, ⟨.t 49, .pick (.t 45) (.t 48) (.c (.v (.bool false))), some (.t 42, false)⟩, ⟨.t 50, .pick (.t 42)
    (.c (.v (.bool true))) (.t 49), none⟩]).seq (PC.cond (.t 50) ((PC.reg [⟨.v 2, .mv true (.c (.v (.bool false))), none⟩]).seq PC.ret) PC.skip)).seq
    (((PC.regD 0 [⟨.t 51, .mv false (.v 9), none⟩, ⟨.t 52, .mv false (.t 51), none⟩, ⟨.t 53, .load 5 true (.v 7), some (.t 52, true)⟩, ⟨.t 54, .mv false
    (.v 3), some (.t 52, true)⟩, ⟨.t 55, .call 11 [.t 54], some (.t 52, true)⟩, ⟨.t 56, .eqa true (.agg (.cons 0 1 false .int (.cons 1 1 false .int
    (.cons 2 1 false .int (.cons 3 1 false .int (.cons 4 1 false .int .nil)))))) (.t 53) (.t 55), some (.t 52, true)⟩, ⟨.t 57, .mv false (.t 56), some
    (.t 52, true)⟩, ⟨.t 58, .fadr 2 2 (.v 7), some (.t 57, false)⟩, ⟨.t 59, .load 1 false (.t 58), some (.t 57, false)⟩, ⟨.t 60, .mv false (.v 3), some
    (.t 57, false)⟩, ⟨.t 61, .bin .leq (.t 59) (.t 60), some (.t 57, false)⟩, ⟨.t 62, .pick (.t 57) (.c (.v (.bool true))) (.t 61), some (.t 52, true)⟩,
    ⟨.t 63, .mv false (.t 62), some (.t 52, true)⟩, ⟨.t 64, .fadr 1 1 (.v 7), some (.t 63, false)⟩, ⟨.t 65, .load 1 false (.t 64), some (.t 63, false)⟩,
    ⟨.t 66, .mv false (.v 3), some (.t 63, false)⟩, ⟨.t 67, .bin .sub (.t 65) (.t 66), some (.t 63, false)⟩, ⟨.t 68, .fadr 2 2 (.v 7), some (.t 63,
    false)⟩, ⟨.t 69, .load 1 false (.t 68), some (.t 63, false)⟩, ⟨.t 70, .bin .lss (.t 67) (.t 69), some (.t 63, false)⟩, ⟨.t 71, .pick (.t 63) (.c (.v
    (.bool true))) (.t 70), some (.t 52, true)⟩, ⟨.t 72, .mv false (.t 71), some (.t 52, true)⟩, ⟨.t 73, .fadr 1 1 (.v 7), some (.t 72, false)⟩, ⟨.t 74,
    .load 1 false (.t 73), some (.t 72, false)⟩, ⟨.t 75, .call 12 [.t 74], some (.t 72, false)⟩, ⟨.t 76, .fadr 2 2 (.v 7), some (.t 72, false)⟩, ⟨.t 77,
    .load 1 false (.t 76), some (.t 72, false)⟩, ⟨.t 78, .bin .neq (.t 75) (.t 77), some (.t 72, false)⟩, ⟨.t 79, .pick (.t 72) (.c (.v (.bool true)))
    (.t 78), some (.t 52, true)⟩, ⟨.t 80, .pick (.t 52) (.t 79) (.c (.v (.bool false))), none⟩] []).seq (PC.cond (.t 80) ((PC.reg [⟨.v 2, .mv true (.c
    (.v (.bool false))), none⟩]).seq PC.ret) PC.skip)).seq ((PC.reg [⟨.v 10, .mv true (.c (.v (.int .i64 0))), none⟩]).seq (((PC.reg [⟨.t 81, .mv false
    (.v 5), none⟩, ⟨.t 82, .bin .geq (.t 81) (.c (.v (.int .i64 1))), none⟩, ⟨.t 83, .mv false (.t 82), none⟩, ⟨.t 84, .mv false (.v 5), some (.t 83,
    true)⟩, ⟨.t 85, .bin .leq (.t 84) (.c (.v (.int .i64 1000))), some (.t 83, true)⟩, ⟨.t 86, .pick (.t 83) (.t 85) (.c (.v (.bool false))), none⟩, ⟨.t
    87, .mv false (.t 86), none⟩, ⟨.t 88, .mv false (.v 6), some (.t 87, true)⟩, ⟨.t 89, .bin .geq (.t 88) (.c (.v (.int .i64 1))), some (.t 87, true)⟩,
    ⟨.t 90, .pick (.t 87) (.t 89) (.c (.v (.bool false))), none⟩, ⟨.t 91, .mv false (.t 90), none⟩, ⟨.t 92, .mv false (.v 6), some (.t 91, true)⟩, ⟨.t
    93, .bin .leq (.t 92) (.c (.v (.int .i64 3))), some (.t 91, true)⟩, ⟨.t 94, .pick (.t 91) (.t 93) (.c (.v (.bool false))), none⟩]).seq (PC.cond (.t
    94) (PC.reg [⟨.t 95, .mv false (.v 5), none⟩, ⟨.t 96, .bin .mul (.c (.v (.int .i64 64))) (.t 95), none⟩, ⟨.t 97, .mv false (.v 6), none⟩, ⟨.t 98,
    .bin .mul (.c (.v (.int .i64 8))) (.t 97), none⟩, ⟨.t 99, .bin .add (.t 96) (.t 98), none⟩, ⟨.v 10, .mv true (.t 99), none⟩]) PC.skip)).seq ((PC.reg
    [⟨.t 100, .mv false (.v 4), none⟩, ⟨.t 101, .call 13 [.t 100], none⟩, ⟨.v 11, .mv true (.t 101), none⟩]).seq ((PC.reg [⟨.t 102, .mv false (.v 11),
    none⟩, ⟨.t 103, .mv false (.v 4), none⟩, ⟨.t 104, .call 14 [.t 103], none⟩, ⟨.t 105, .bin .eql (.t 102) (.t 104), none⟩, ⟨.t 106, .mv false (.t 105),
    none⟩, ⟨.t 107, .mv false (.v 11), some (.t 106, true)⟩, ⟨.t 108, .bin .geq (.t 107) (.c (.v (.int .i64 1))), some (.t 106, true)⟩, ⟨.t 109, .mv
    false (.v 4), some (.t 106, true)⟩, ⟨.t 110, .call 12 [.t 109], some (.t 106, true)⟩, ⟨.t 111, .bin .gtr (.t 110) (.c (.v (.int .i64 0))), some (.t
    106, true)⟩, ⟨.t 112, .binB .eql (.t 108) (.t 111), some (.t 106, true)⟩, ⟨.t 113, .pick (.t 106) (.t 112) (.c (.v (.bool false))), none⟩, ⟨.t 114,
    .mv false (.t 113), none⟩, ⟨.t 115, .mv false (.v 5), some (.t 114, true)⟩, ⟨.t 116, .mv false (.v 6), some (.t 114, true)⟩, ⟨.t 117, .call 15 [.t
    115, .t 116], some (.t 114, true)⟩, ⟨.t 118, .mv false (.v 10), some (.t 114, true)⟩, ⟨.t 119, .bin .eql (.t 117) (.t 118), some (.t 114, true)⟩, ⟨.t
    120, .pick (.t 114) (.t 119) (.c (.v (.bool false))), none⟩, ⟨.t 121, .mv false (.t 120), none⟩, ⟨.t 122, .call 16 [], some (.t 121, true)⟩, ⟨.t 123,
    .pick (.t 121) (.t 122) (.c (.v (.bool false))), none⟩, ⟨.v 2, .mv true (.t 123), none⟩]).seq PC.ret)))))))))) [(.v 2, none)]
def pf10 : PF :=
  PF.mk 1 5 25 ((PC.reg [⟨.v 2, .alloc (.agg [.int .i64 0, .int .i64 0, .int .i64 0, .int .i64 0, .int .i64 0]), none⟩, ⟨.v 3, .mv true (.c (.v (.int
    .i64 0))), none⟩]).seq (((PC.reg [⟨.t 5, .mv false (.v 0), none⟩, ⟨.t 6, .call 41 [.t 5, .c (.v (.int .i64 1)), .c (.v (.int .i64 10))], none⟩, ⟨.t
    7, .un .not (.t 6), none⟩]).seq (PC.cond (.t 7) ((PC.reg [⟨.t 8, .build (.agg [.int .i64 0, .int .i64 0, .int .i64 0, .int .i64 0, .int .i64 0]) [],
    none⟩, ⟨.no, .store 5 (.v 2) (.t 8), none⟩, ⟨.v 3, .mv true (.c (.v (.int .i64 1))), none⟩]).seq PC.ret) PC.skip)).seq ((PC.reg [⟨.t 9, .mv false (.v
    0), none⟩, ⟨.t 10, .bin .mul (.c (.v (.int .i64 2))) (.t 9), none⟩, ⟨.t 11, .bin .add (.t 10) (.c (.v (.int .i64 1))), none⟩, ⟨.v 4, .mv true (.t
    11), none⟩]).seq ((PC.reg [⟨.t 12, .mv false (.v 0), none⟩, ⟨.t 13, .mv false (.v 4), none⟩, ⟨.t 14, .mv false (.v 4), none⟩, ⟨.t 15, .call 42 [.t
    14], none⟩, ⟨.t 16, .mv false (.v 4), none⟩, ⟨.t 17, .bin .mul (.c (.v (.int .i64 2))) (.t 16), none⟩, ⟨.t 18, .bin .add (.t 17) (.c (.v (.int .i64
    5))), none⟩, ⟨.t 19, .mv false (.v 4), none⟩, ⟨.t 20, .bin .sub (.t 19) (.c (.v (.int .i64 1))), none⟩, ⟨.t 21, .bin .mul (.t 18) (.t 20), none⟩, ⟨.t
    22, .mv false (.v 0), none⟩, ⟨.t 23, .bin .add (.t 22) (.c (.v (.int .i64 1))), none⟩, ⟨.t 24, .build (.agg [.int .i64 0, .int .i64 0, .int .i64 0,
    .int .i64 0, .int .i64 0]) [(0, .t 12), (1, .t 13), (2, .t 15), (3, .t 21), (4, .t 23)], none⟩, ⟨.no, .store 5 (.v 2) (.t 24), none⟩, ⟨.v 3, .mv true
    (.c (.v (.int .i64 0))), none⟩]).seq PC.ret)))) [(.v 2, some (5, true)), (.v 3, none)]
def lp11_0 : PC :=
  ((PC.reg [⟨.t 21, .mv false (.v 5), none⟩, ⟨.t 22, .fadr 1 1 (.v 3), none⟩, ⟨.t 23, .load 1 false (.t 22), none⟩, ⟨.t 24, .bin .leq (.t 21) (.t 23),
    none⟩]).seq (PC.cond (.t 24) PC.skip (PC.exit 2))).seq ((PC.block 3 ((PC.reg [⟨.t 27, .mv false (.v 4), none⟩, ⟨.t 28, .mv false (.v 5), none⟩, ⟨.t
    29, .bin .neq (.t 27) (.t 28), none⟩]).seq (PC.cond (.t 29) (PC.reg [⟨.t 30, .fadr 3 3 (.v 3), none⟩, ⟨.t 31, .load 1 false (.t 30), none⟩, ⟨.t 32,
    .bin .add (.t 31) (.c (.v (.int .i64 2))), none⟩, ⟨.t 33, .fadr 3 3 (.v 3), none⟩, ⟨.no, .store 1 (.t 33) (.t 32), none⟩]) PC.skip))).seq (PC.reg
    [⟨.t 25, .mv false (.v 5), none⟩, ⟨.t 26, .bin .add (.t 25) (.c (.v (.int .i64 1))), none⟩, ⟨.v 5, .mv true (.t 26), none⟩]))
def lp11_1 : PC :=
  ((PC.reg [⟨.t 15, .mv false (.v 4), none⟩, ⟨.t 16, .fadr 1 1 (.v 3), none⟩, ⟨.t 17, .load 1 false (.t 16), none⟩, ⟨.t 18, .bin .leq (.t 15) (.t 17),
    none⟩]).seq (PC.cond (.t 18) PC.skip (PC.exit 0))).seq ((PC.block 1 (((PC.reg [⟨.v 5, .mv true (.c (.v (.int .i64 1))), none⟩]).seq (PC.block 2
    (PC.loop [2, 3, 4, 5] lp11_0))).seq ((PC.reg [⟨.t 34, .mv false (.v 4), none⟩, ⟨.t 35, .bin .gtr (.t 34) (.c (.v (.int .i64 1))), none⟩]).seq
    (PC.cond (.t 35) (PC.reg [⟨.t 36, .fadr 3 3 (.v 3), none⟩, ⟨.t 37, .load 1 false (.t 36), none⟩, ⟨.t 38, .bin .add (.t 37) (.c (.v (.int .i64 5))),
    none⟩, ⟨.t 39, .fadr 3 3 (.v 3), none⟩, ⟨.no, .store 1 (.t 39) (.t 38), none⟩]) PC.skip)))).seq (PC.reg [⟨.t 19, .mv false (.v 4), none⟩, ⟨.t 20,
    .bin .add (.t 19) (.c (.v (.int .i64 1))), none⟩, ⟨.v 4, .mv true (.t 20), none⟩]))
def pf11 : PF :=
  PF.mk 1 6 41 ((PC.reg [⟨.v 2, .alloc (.agg [.int .i64 0, .int .i64 0, .int .i64 0, .int .i64 0, .int .i64 0]), none⟩]).seq ((PC.reg [⟨.t 6, .mv false
    (.v 0), none⟩, ⟨.t 7, .mv false (.v 0), none⟩, ⟨.t 8, .bin .mul (.c (.v (.int .i64 2))) (.t 7), none⟩, ⟨.t 9, .bin .add (.t 8) (.c (.v (.int .i64
    1))), none⟩, ⟨.t 10, .mv false (.v 0), none⟩, ⟨.t 11, .bin .add (.t 10) (.c (.v (.int .i64 1))), none⟩, ⟨.t 12, .mv false (.v 0), none⟩, ⟨.t 13, .bin
    .add (.t 12) (.c (.v (.int .i64 1))), none⟩, ⟨.t 14, .build (.agg [.int .i64 0, .int .i64 0, .int .i64 0, .int .i64 0, .int .i64 0]) [(0, .t 6), (1,
    .t 9), (2, .t 11), (4, .t 13)], none⟩, ⟨.v 3, .alloc (.agg [.int .i64 0, .int .i64 0, .int .i64 0, .int .i64 0, .int .i64 0]), none⟩, ⟨.no, .store 5
    (.v 3) (.t 14), none⟩]).seq (((PC.reg [⟨.v 4, .mv true (.c (.v (.int .i64 1))), none⟩]).seq (PC.block 0 (PC.loop [2, 3, 4] lp11_1))).seq ((PC.reg
    [⟨.t 40, .load 5 true (.v 3), none⟩, ⟨.no, .store 5 (.v 2) (.t 40), none⟩]).seq PC.ret)))) [(.v 2, some (5, true))]
def lp12_0 : PC :=
  ((PC.reg [⟨.t 4, .mv false (.v 3), none⟩, ⟨.t 5, .bin .leq (.t 4) (.c (.v (.int .i64 10))), none⟩]).seq (PC.cond (.t 5) PC.skip (PC.exit 0))).seq
    ((PC.block 1 ((PC.reg [⟨.t 8, .mv false (.v 0), none⟩, ⟨.t 9, .mv false (.v 3), none⟩, ⟨.t 10, .bin .mul (.c (.v (.int .i64 2))) (.t 9), none⟩, ⟨.t
    11, .bin .add (.t 10) (.c (.v (.int .i64 1))), none⟩, ⟨.t 12, .bin .eql (.t 8) (.t 11), none⟩]).seq (PC.cond (.t 12) ((PC.reg [⟨.t 13, .mv false (.v
    3), none⟩, ⟨.t 14, .bin .add (.t 13) (.c (.v (.int .i64 1))), none⟩, ⟨.v 2, .mv true (.t 14), none⟩]).seq PC.ret) PC.skip))).seq (PC.reg [⟨.t 6, .mv
    false (.v 3), none⟩, ⟨.t 7, .bin .add (.t 6) (.c (.v (.int .i64 1))), none⟩, ⟨.v 3, .mv true (.t 7), none⟩]))
def pf12 : PF :=
  PF.mk 1 4 15 ((PC.reg [⟨.v 2, .mv true (.c (.v (.int .i64 0))), none⟩]).seq (((PC.reg [⟨.v 3, .mv true (.c (.v (.int .i64 0))), none⟩]).seq (PC.block 0
    (PC.loop [0, 3] lp12_0))).seq ((PC.reg [⟨.v 2, .mv true (.c (.v (.int .i64 0))), none⟩]).seq PC.ret))) [(.v 2, none)]
def pf13 : PF :=
  PF.mk 1 4 12 ((PC.reg [⟨.v 2, .mv true (.c (.v (.int .i64 0))), none⟩]).seq ((PC.reg [⟨.t 4, .mv false (.v 0), none⟩, ⟨.t 5, .call 42 [.t 4], none⟩,
    ⟨.v 3, .mv true (.t 5), none⟩]).seq (((PC.reg [⟨.t 6, .mv false (.v 3), none⟩, ⟨.t 7, .bin .eql (.t 6) (.c (.v (.int .i64 0))), none⟩]).seq (PC.cond
    (.t 7) ((PC.reg [⟨.v 2, .mv true (.c (.v (.int .i64 0))), none⟩]).seq PC.ret) PC.skip)).seq ((PC.reg [⟨.t 8, .mv false (.v 3), none⟩, ⟨.t 9, .bin
    .mul (.c (.v (.int .i64 2))) (.t 8), none⟩, ⟨.t 10, .mv false (.v 0), none⟩, ⟨.t 11, .bin .sub (.t 9) (.t 10), none⟩, ⟨.v 2, .mv true (.t 11),
    none⟩]).seq PC.ret)))) [(.v 2, none)]
def lp14_0 : PC :=
  ((PC.reg [⟨.t 8, .mv false (.v 5), none⟩, ⟨.t 9, .mv false (.v 0), none⟩, ⟨.t 10, .bin .leq (.t 8) (.t 9), none⟩, ⟨.t 11, .mv false (.t 10), none⟩, ⟨.t
    12, .mv false (.v 5), some (.t 11, true)⟩, ⟨.t 13, .bin .leq (.t 12) (.c (.v (.int .i64 21))), some (.t 11, true)⟩, ⟨.t 14, .pick (.t 11) (.t 13) (.c
    (.v (.bool false))), none⟩]).seq (PC.cond (.t 14) PC.skip (PC.exit 0))).seq ((PC.block 1 ((PC.reg [⟨.t 17, .mv false (.v 5), none⟩, ⟨.t 18, .mv false
    (.v 3), none⟩, ⟨.t 19, .bin .leq (.t 17) (.t 18), none⟩, ⟨.t 20, .mv false (.t 19), none⟩, ⟨.t 21, .mv false (.v 5), some (.t 20, true)⟩, ⟨.t 22, .mv
    false (.v 0), some (.t 20, true)⟩, ⟨.t 23, .mv false (.v 3), some (.t 20, true)⟩, ⟨.t 24, .bin .sub (.t 22) (.t 23), some (.t 20, true)⟩, ⟨.t 25,
    .bin .gtr (.t 21) (.t 24), some (.t 20, true)⟩, ⟨.t 26, .pick (.t 20) (.t 25) (.c (.v (.bool false))), none⟩]).seq (PC.cond (.t 26) (PC.reg [⟨.t 27,
    .mv false (.v 4), none⟩, ⟨.t 28, .bin .add (.t 27) (.c (.v (.int .i64 1))), none⟩, ⟨.v 4, .mv true (.t 28), none⟩]) PC.skip))).seq (PC.reg [⟨.t 15,
    .mv false (.v 5), none⟩, ⟨.t 16, .bin .add (.t 15) (.c (.v (.int .i64 1))), none⟩, ⟨.v 5, .mv true (.t 16), none⟩]))
def pf14 : PF :=
  PF.mk 1 6 30 ((PC.reg [⟨.v 2, .mv true (.c (.v (.int .i64 0))), none⟩]).seq ((PC.reg [⟨.t 6, .mv false (.v 0), none⟩, ⟨.t 7, .call 12 [.t 6], none⟩,
    ⟨.v 3, .mv true (.t 7), none⟩]).seq ((PC.reg [⟨.v 4, .mv true (.c (.v (.int .i64 0))), none⟩]).seq (((PC.reg [⟨.v 5, .mv true (.c (.v (.int .i64
    1))), none⟩]).seq (PC.block 0 (PC.loop [0, 3, 4, 5] lp14_0))).seq ((PC.reg [⟨.t 29, .mv false (.v 4), none⟩, ⟨.v 2, .mv true (.t 29), none⟩]).seq
    PC.ret))))) [(.v 2, none)]
def pf15 : PF :=
  PF.mk 2 5 18 ((PC.reg [⟨.v 4, .mv true (.c (.v (.int .i64 0))), none⟩]).seq (((PC.reg [⟨.t 5, .mv false (.v 0), none⟩, ⟨.t 6, .call 41 [.t 5, .c (.v
    (.int .i64 1)), .c (.v (.int .i64 1000))], none⟩, ⟨.t 7, .un .not (.t 6), none⟩, ⟨.t 8, .mv false (.t 7), none⟩, ⟨.t 9, .mv false (.v 1), some (.t 8,
    false)⟩, ⟨.t 10, .call 41 [.t 9, .c (.v (.int .i64 1)), .c (.v (.int .i64 3))], some (.t 8, false)⟩, ⟨.t 11, .un .not (.t 10), some (.t 8, false)⟩,
    ⟨.t 12, .pick (.t 8) (.c (.v (.bool true))) (.t 11), none⟩]).seq (PC.cond (.t 12) ((PC.reg [⟨.v 4, .mv true (.c (.v (.int .i64 0))), none⟩]).seq
    PC.ret) PC.skip)).seq ((PC.reg [⟨.t 13, .mv false (.v 0), none⟩, ⟨.t 14, .bin .mul (.c (.v (.int .i64 64))) (.t 13), none⟩, ⟨.t 15, .mv false (.v 1),
    none⟩, ⟨.t 16, .bin .mul (.c (.v (.int .i64 8))) (.t 15), none⟩, ⟨.t 17, .bin .add (.t 14) (.t 16), none⟩, ⟨.v 4, .mv true (.t 17), none⟩]).seq
    PC.ret))) [(.v 4, none)]
def pf16 : PF :=
  PF.mk 0 3 28 ((PC.reg [⟨.v 0, .mv true (.c (.v (.bool false))), none⟩]).seq ((PC.reg [⟨.t 4, .call 10 [.c (.v (.int .i64 1))], none⟩, ⟨.t 3, .mv false
    (.t 4), none⟩, ⟨.t 5, .ext (.t 3) 0, none⟩, ⟨.t 6, .ext (.t 3) 1, none⟩, ⟨.v 1, .alloc (.agg [.int .i64 0, .int .i64 0, .int .i64 0, .int .i64 0,
    .int .i64 0]), none⟩, ⟨.no, .store 5 (.v 1) (.t 5), none⟩, ⟨.v 2, .mv true (.t 6), none⟩]).seq ((PC.reg [⟨.t 7, .mv false (.v 2), none⟩, ⟨.t 8, .bin
    .eql (.t 7) (.c (.v (.int .i64 0))), none⟩, ⟨.t 9, .mv false (.t 8), none⟩, ⟨.t 10, .fadr 1 1 (.v 1), some (.t 9, true)⟩, ⟨.t 11, .load 1 false (.t
    10), some (.t 9, true)⟩, ⟨.t 12, .bin .eql (.t 11) (.c (.v (.int .i64 3))), some (.t 9, true)⟩, ⟨.t 13, .pick (.t 9) (.t 12) (.c (.v (.bool false))),
    none⟩, ⟨.t 14, .mv false (.t 13), none⟩, ⟨.t 15, .fadr 2 2 (.v 1), some (.t 14, true)⟩, ⟨.t 16, .load 1 false (.t 15), some (.t 14, true)⟩, ⟨.t 17,
    .bin .eql (.t 16) (.c (.v (.int .i64 2))), some (.t 14, true)⟩, ⟨.t 18, .pick (.t 14) (.t 17) (.c (.v (.bool false))), none⟩, ⟨.t 19, .mv false (.t
    18), none⟩, ⟨.t 20, .fadr 3 3 (.v 1), some (.t 19, true)⟩, ⟨.t 21, .load 1 false (.t 20), some (.t 19, true)⟩, ⟨.t 22, .bin .eql (.t 21) (.c (.v
    (.int .i64 22))), some (.t 19, true)⟩, ⟨.t 23, .pick (.t 19) (.t 22) (.c (.v (.bool false))), none⟩, ⟨.t 24, .mv false (.t 23), none⟩, ⟨.t 25, .call
    13 [.c (.v (.int .i64 5))], some (.t 24, true)⟩, ⟨.t 26, .bin .eql (.t 25) (.c (.v (.int .i64 1))), some (.t 24, true)⟩, ⟨.t 27, .pick (.t 24) (.t
    26) (.c (.v (.bool false))), none⟩, ⟨.v 0, .mv true (.t 27), none⟩]).seq PC.ret))) [(.v 0, none)]
def pf41 : PF :=
  PF.mk 3 7 15 ((PC.reg [⟨.v 6, .mv true (.c (.v (.bool false))), none⟩]).seq ((PC.reg [⟨.t 7, .mv false (.v 0), none⟩, ⟨.t 8, .mv false (.v 1), none⟩,
    ⟨.t 9, .bin .geq (.t 7) (.t 8), none⟩, ⟨.t 10, .mv false (.t 9), none⟩, ⟨.t 11, .mv false (.v 0), some (.t 10, true)⟩, ⟨.t 12, .mv false (.v 2), some
    (.t 10, true)⟩, ⟨.t 13, .bin .leq (.t 11) (.t 12), some (.t 10, true)⟩, ⟨.t 14, .pick (.t 10) (.t 13) (.c (.v (.bool false))), none⟩, ⟨.v 6, .mv true
    (.t 14), none⟩]).seq PC.ret)) [(.v 6, none)]
def pf42 : PF :=
  PF.mk 1 3 14 ((PC.reg [⟨.v 2, .mv true (.c (.v (.int .i64 0))), none⟩]).seq (((PC.reg [⟨.t 3, .mv false (.v 0), none⟩, ⟨.t 4, .call 49 [.t 3], none⟩,
    ⟨.t 5, .un .not (.t 4), none⟩, ⟨.t 6, .mv false (.t 5), none⟩, ⟨.t 7, .mv false (.v 0), some (.t 6, false)⟩, ⟨.t 8, .bin .rem (.t 7) (.c (.v (.int
    .i64 2))), some (.t 6, false)⟩, ⟨.t 9, .bin .eql (.t 8) (.c (.v (.int .i64 0))), some (.t 6, false)⟩, ⟨.t 10, .pick (.t 6) (.c (.v (.bool true))) (.t
    9), none⟩]).seq (PC.cond (.t 10) ((PC.reg [⟨.v 2, .mv true (.c (.v (.int .i64 0))), none⟩]).seq PC.ret) PC.skip)).seq ((PC.reg [⟨.t 11, .mv false (.v
    0), none⟩, ⟨.t 12, .bin .quo (.t 11) (.c (.v (.int .i64 2))), none⟩, ⟨.t 13, .bin .add (.t 12) (.c (.v (.int .i64 1))), none⟩, ⟨.v 2, .mv true (.t
    13), none⟩]).seq PC.ret))) [(.v 2, none)]
def pf49 : PF :=
  PF.mk 1 3 9 ((PC.reg [⟨.v 2, .mv true (.c (.v (.bool false))), none⟩]).seq ((PC.reg [⟨.t 3, .mv false (.v 0), none⟩, ⟨.t 4, .bin .geq (.t 3) (.c (.v
    (.int .i64 1))), none⟩, ⟨.t 5, .mv false (.t 4), none⟩, ⟨.t 6, .mv false (.v 0), some (.t 5, true)⟩, ⟨.t 7, .bin .leq (.t 6) (.c (.v (.int .i64
    21))), some (.t 5, true)⟩, ⟨.t 8, .pick (.t 5) (.t 7) (.c (.v (.bool false))), none⟩, ⟨.v 2, .mv true (.t 8), none⟩]).seq PC.ret)) [(.v 2, none)]

attribute [local irreducible] W Wops WopsD WL Wop WopD
variable {E : Env} {C : Abs.Spec} {l : List (Nat × Spec1)} {G : List (Nat × V)} {Q : R → List (Nat × V) → Prop}
set_option maxHeartbeats 1000000
def quo (n : Int) : Int := if 1 ≤ n ∧ n ≤ 21 ∧ n % 2 = 1 then n / 2 + 1 else 0
def shr (n : Int) : Int := if 1 ≤ n ∧ n ≤ 21 ∧ n % 2 = 1 then 1 else 0
def tks (v k : Int) : Int := if 1 ≤ v ∧ v ≤ 1000 ∧ 1 ≤ k ∧ k ≤ 3 then 64 * v + 8 * k else 0
def bud (f : Int) : V := .agg [.int .i64 f, .int .i64 (2 * f + 1), .int .i64 (f + 1), .int .i64 ((2 * (2 * f + 1) + 5) * (2 * f)), .int .i64 (f + 1)]
def bud0 : V := .agg [.int .i64 0, .int .i64 0, .int .i64 0, .int .i64 0, .int .i64 0]
def S41 : Spec1
  | [.int .i64 n, .int .i64 lo, .int .i64 hi], G, Q => Q (.v (.bool (decide (lo ≤ n) && decide (n ≤ hi)))) G
  | _, _, _ => False
def S49 : Spec1
  | [.int .i64 n], G, Q => Q (.v (.bool (decide (1 ≤ n) && decide (n ≤ 21)))) G
  | _, _, _ => False
def S42 : Spec1
  | [.int .i64 n], G, Q => Q (.v (.int .i64 (quo n))) G
  | _, _, _ => False
theorem S41_eq {n lo hi} : S41 [.int .i64 n, .int .i64 lo, .int .i64 hi] G Q = Q (.v (.bool (decide (lo ≤ n) && decide (n ≤ hi)))) G := rfl
theorem S49_eq {n} : S49 [.int .i64 n] G Q = Q (.v (.bool (decide (1 ≤ n) && decide (n ≤ 21)))) G := rfl
theorem S42_eq {n} : S42 [.int .i64 n] G Q = Q (.v (.int .i64 (quo n))) G := rfl
theorem w41 {n lo hi} (h : Q (.v (.bool (decide (lo ≤ n) && decide (n ≤ hi)))) G) : Wf E C pf41 [.int .i64 n, .int .i64 lo, .int .i64 hi] G Q := by
  simp (maxSteps := 1000000) (implicitDefEqProofs := false) (disch := omega) only [pf41, go_sem, ↓reduceIte, decide_eq_true_eq, decide_eq_false_iff_not, ge_iff_le, gt_iff_lt, Int.not_le, Int.not_lt, w64, Bool.not_eq_true', Bool.not_eq_false', Bool.and_eq_true, Bool.and_eq_false_iff]
  refine ⟨fun c => finB h ?_, fun c => finB h ?_⟩ <;> simp [c]
  omega
theorem w49 {n} (h : Q (.v (.bool (decide (1 ≤ n) && decide (n ≤ 21)))) G) : Wf E C pf49 [.int .i64 n] G Q := by
  simp (maxSteps := 1000000) (implicitDefEqProofs := false) (disch := omega) only [pf49, go_sem, ↓reduceIte, decide_eq_true_eq, decide_eq_false_iff_not, ge_iff_le, gt_iff_lt, Int.not_le, Int.not_lt, w64, Bool.not_eq_true', Bool.not_eq_false', Bool.and_eq_true, Bool.and_eq_false_iff]
  refine ⟨fun c => finB h ?_, fun c => finB h ?_⟩ <;> simp [c]
  omega
theorem w42 {n} (h49 : Abs.look l 49 = some S49) (h : Q (.v (.int .i64 (quo n))) G) : Wf E (specOf l) pf42 [.int .i64 n] G Q := by
  simp (maxSteps := 1000000) (implicitDefEqProofs := false) (disch := omega) only [pf42, S49_eq, h49, go_sem, ↓reduceIte, decide_eq_true_eq, decide_eq_false_iff_not, ge_iff_le, gt_iff_lt, Int.not_le, Int.not_lt, w64, Bool.not_eq_true', Bool.not_eq_false', Bool.and_eq_true, Bool.and_eq_false_iff]
  refine ⟨fun c => finI h ?_, fun c => ⟨fun e => finI h ?_, fun e => finI h ?_⟩⟩
  · unfold quo; rw [if_neg (by omega)]
  · unfold quo; rw [Int.tmod_eq_emod_of_nonneg (by omega)] at e; rw [if_neg (by omega)]
  · rw [Int.tmod_eq_emod_of_nonneg (by omega)] at e
    rw [Int.tdiv_eq_ediv_of_nonneg (by omega)]
    simp (maxSteps := 1000000) (implicitDefEqProofs := false) (disch := omega) only [go_sem, ↓reduceIte, decide_eq_true_eq, decide_eq_false_iff_not, ge_iff_le, gt_iff_lt, Int.not_le, Int.not_lt, w64, Bool.not_eq_true', Bool.not_eq_false', Bool.and_eq_true, Bool.and_eq_false_iff]
    unfold quo; rw [if_pos (by omega)]
theorem loop12 {n : Int} {G} {QQ : Ex → St → Prop} (hx : ∀ ts, (∀ j : Int, 0 ≤ j → j ≤ 10 → n ≠ 2 * j + 1) → QQ (.exit 0) ⟨[some (.v (.int .i64 n)), none, none, some (.v (.int .i64 11))], ts, [], G⟩)
    (hr : ∀ (j : Int) ts, 0 ≤ j → j ≤ 10 → n = 2 * j + 1 → QQ .ret ⟨[some (.v (.int .i64 n)), none, some (.v (.int .i64 (j + 1))), some (.v (.int .i64 j))], ts, [], G⟩) :
    ∀ (k : Nat) (i : Int), i + k = 11 → 0 ≤ i → (∀ j : Int, 0 ≤ j → j < i → n ≠ 2 * j + 1) → WL (W E C lp12_0) [0, 3] QQ (k + 1) ⟨[some (.v (.int .i64 n)), none, none, some (.v (.int .i64 i))], [], [], G⟩ := by
  intro k
  induction k with
  | zero =>
    intro i hi h0 hj
    obtain rfl : i = 11 := by omega
    refine WL_in lp12_0.eq_1 ?_
    simp (maxSteps := 1000000) (implicitDefEqProofs := false) (disch := omega) only [go_sem, ↓reduceIte, decide_eq_true_eq, decide_eq_false_iff_not, ge_iff_le, gt_iff_lt, Int.not_le, Int.not_lt, w64, Bool.not_eq_true', Bool.not_eq_false', Bool.and_eq_true, Bool.and_eq_false_iff]
    exact hx _ (fun j h1 h2 => hj j h1 (by omega))
  | succ k ih =>
    intro i hi h0 hj
    refine WL_in lp12_0.eq_1 ?_
    simp (maxSteps := 1000000) (implicitDefEqProofs := false) (disch := omega) only [go_sem, ↓reduceIte, decide_eq_true_eq, decide_eq_false_iff_not, ge_iff_le, gt_iff_lt, Int.not_le, Int.not_lt, w64, Bool.not_eq_true', Bool.not_eq_false', Bool.and_eq_true, Bool.and_eq_false_iff]
    refine ⟨fun c => ⟨fun e => hr _ _ h0 c e, fun e => ih _ (by omega) (by omega) (fun j h1 h2 => ?_)⟩, fun c => by omega⟩
    by_cases ej : j = i
    · rw [ej]; exact e
    · exact hj j h1 (by omega)
theorem w12 {n G} {Q : R → List (Nat × V) → Prop} (h : Q (.v (.int .i64 (quo n))) G) : Wf E C pf12 [.int .i64 n] G Q := by
    simp (maxSteps := 1000000) (implicitDefEqProofs := false) (disch := omega) only [pf12, go_sem, ↓reduceIte, decide_eq_true_eq, decide_eq_false_iff_not, ge_iff_le, gt_iff_lt, Int.not_le, Int.not_lt, w64, Bool.not_eq_true', Bool.not_eq_false', Bool.and_eq_true, Bool.and_eq_false_iff]
    refine ⟨12, ?_⟩
    simp (maxSteps := 1000000) (implicitDefEqProofs := false) (disch := omega) only [go_sem, ↓reduceIte, decide_eq_true_eq, decide_eq_false_iff_not, ge_iff_le, gt_iff_lt, Int.not_le, Int.not_lt, w64, Bool.not_eq_true', Bool.not_eq_false', Bool.and_eq_true, Bool.and_eq_false_iff]
    refine loop12 (fun ts hj => ?_) (fun j ts h0 h1 e => ?_) 11 0 (by omega) (by omega) (fun j h1 h2 => by omega)
    · simp (maxSteps := 1000000) (implicitDefEqProofs := false) (disch := omega) only [go_sem, ↓reduceIte, decide_eq_true_eq, decide_eq_false_iff_not, ge_iff_le, gt_iff_lt, Int.not_le, Int.not_lt, w64, Bool.not_eq_true', Bool.not_eq_false', Bool.and_eq_true, Bool.and_eq_false_iff]
      refine fin h (congrArg (fun x => R.v (.int .i64 x)) ?_)
      unfold quo; split
      · rename_i c; exact absurd (show n = 2 * (n / 2) + 1 by omega) (hj (n / 2) (by omega) (by omega))
      · rfl
    · simp (maxSteps := 1000000) (implicitDefEqProofs := false) (disch := omega) only [go_sem, ↓reduceIte, decide_eq_true_eq, decide_eq_false_iff_not, ge_iff_le, gt_iff_lt, Int.not_le, Int.not_lt, w64, Bool.not_eq_true', Bool.not_eq_false', Bool.and_eq_true, Bool.and_eq_false_iff]
      refine fin h (congrArg (fun x => R.v (.int .i64 x)) ?_)
      unfold quo; rw [if_pos (by omega)]; omega
theorem w13 {n} (h42 : Abs.look l 42 = some S42) (h : Q (.v (.int .i64 (shr n))) G) : Wf E (specOf l) pf13 [.int .i64 n] G Q := by
  simp (maxSteps := 1000000) (implicitDefEqProofs := false) (disch := omega) only [pf13, S42_eq, h42, go_sem, ↓reduceIte, decide_eq_true_eq, decide_eq_false_iff_not, ge_iff_le, gt_iff_lt, Int.not_le, Int.not_lt, w64, Bool.not_eq_true', Bool.not_eq_false', Bool.and_eq_true, Bool.and_eq_false_iff]
  unfold quo shr at *
  refine ⟨fun c => finI h ?_, fun c => finI h ?_⟩
  · split <;> split at c <;> omega
  · split at c
    · rename_i e; rw [if_pos e, if_pos e]
      simp (maxSteps := 1000000) (implicitDefEqProofs := false) (disch := omega) only [go_sem, ↓reduceIte, decide_eq_true_eq, decide_eq_false_iff_not, ge_iff_le, gt_iff_lt, Int.not_le, Int.not_lt, w64, Bool.not_eq_true', Bool.not_eq_false', Bool.and_eq_true, Bool.and_eq_false_iff]
      omega
    · omega
theorem w15 {v k} (h41 : Abs.look l 41 = some S41) (h : Q (.v (.int .i64 (tks v k))) G) : Wf E (specOf l) pf15 [.int .i64 v, .int .i64 k] G Q := by
  simp (maxSteps := 1000000) (implicitDefEqProofs := false) (disch := omega) only [pf15, S41_eq, h41, go_sem, ↓reduceIte, decide_eq_true_eq, decide_eq_false_iff_not, ge_iff_le, gt_iff_lt, Int.not_le, Int.not_lt, w64, Bool.not_eq_true', Bool.not_eq_false', Bool.and_eq_true, Bool.and_eq_false_iff]
  unfold tks at h
  refine ⟨fun c => finI h ?_, fun c => ⟨fun e => finI h ?_, fun e => finI h ?_⟩⟩
  · rw [if_neg (by omega)]
  · rw [if_neg (by omega)]
  · simp (maxSteps := 1000000) (implicitDefEqProofs := false) (disch := omega) only [go_sem, ↓reduceIte, decide_eq_true_eq, decide_eq_false_iff_not, ge_iff_le, gt_iff_lt, Int.not_le, Int.not_lt, w64, Bool.not_eq_true', Bool.not_eq_false', Bool.and_eq_true, Bool.and_eq_false_iff]
    rw [if_pos (by omega)]
theorem cases10 {f : Int} (h : 1 ≤ f ∧ f ≤ 10) : f = 1 ∨ f = 2 ∨ f = 3 ∨ f = 4 ∨ f = 5 ∨ f = 6 ∨ f = 7 ∨ f = 8 ∨ f = 9 ∨ f = 10 := by omega
theorem w10 {f} (h41 : Abs.look l 41 = some S41) (h42 : Abs.look l 42 = some S42) (h : Q (.tup (if 1 ≤ f ∧ f ≤ 10 then [bud f, .int .i64 0] else [bud0, .int .i64 1])) G) : Wf E (specOf l) pf10 [.int .i64 f] G Q := by
  simp (maxSteps := 1000000) (implicitDefEqProofs := false) (disch := omega) only [pf10, S41_eq, h41, S42_eq, h42, go_sem, ↓reduceIte, decide_eq_true_eq, decide_eq_false_iff_not, ge_iff_le, gt_iff_lt, Int.not_le, Int.not_lt, w64, Bool.not_eq_true', Bool.not_eq_false', Bool.and_eq_true, Bool.and_eq_false_iff]
  refine ⟨fun c => ?_, fun c => ?_⟩
  · rw [if_neg (by omega)] at h; exact h
  · rw [if_pos c] at h
    refine fin h ?_
    unfold bud
    rcases cases10 c with rfl | rfl | rfl | rfl | rfl | rfl | rfl | rfl | rfl | rfl <;> rfl
theorem loop14 {n q r : Int} {QQ : Ex → St → Prop} (hq : q = 0 ∨ (n = 2 * q - 1 ∧ 1 ≤ q ∧ q ≤ 11)) (hr : r = if q = 0 then 0 else 1) (hn : -9223372036854775808 ≤ n ∧ n ≤ 9223372036854775807)
    (hx : ∀ i ts, QQ (.exit 0) ⟨[some (.v (.int .i64 n)), none, none, some (.v (.int .i64 q)), some (.v (.int .i64 r)), some (.v (.int .i64 i))], ts, [], G⟩) :
    ∀ (k : Nat) (i K : Int), i + k = 22 → 1 ≤ i → K = (if q ≠ 0 ∧ q < i then 1 else 0) → (i ≤ n + 1 ∨ i = 1) →
      WL (W E C lp14_0) [0, 3, 4, 5] QQ (k + 1) ⟨[some (.v (.int .i64 n)), none, none, some (.v (.int .i64 q)), some (.v (.int .i64 K)), some (.v (.int .i64 i))], [], [], G⟩ := by
  intro k
  induction k with
  | zero =>
    intro i K hi h1 hK hin
    obtain rfl : i = 22 := by omega
    obtain rfl : K = r := by rw [hK, hr]; split <;> split <;> omega
    refine WL_in lp14_0.eq_1 ?_
    simp (maxSteps := 1000000) (implicitDefEqProofs := false) (disch := omega) only [go_sem, ↓reduceIte, decide_eq_true_eq, decide_eq_false_iff_not, ge_iff_le, gt_iff_lt, Int.not_le, Int.not_lt, w64, Bool.not_eq_true', Bool.not_eq_false', Bool.and_eq_true, Bool.and_eq_false_iff]
    repeat' first | (intro _) | constructor
    all_goals first | (exfalso; omega) | exact hx _ _
  | succ k ih =>
    intro i K hi h1 hK hin
    refine WL_in lp14_0.eq_1 ?_
    simp (maxSteps := 1000000) (implicitDefEqProofs := false) (disch := omega) only [go_sem, ↓reduceIte, decide_eq_true_eq, decide_eq_false_iff_not, ge_iff_le, gt_iff_lt, Int.not_le, Int.not_lt, w64, Bool.not_eq_true', Bool.not_eq_false', Bool.and_eq_true, Bool.and_eq_false_iff]
    repeat' first | (intro _) | constructor
    all_goals first | (exfalso; omega) | skip
    · refine ih _ _ ?_ ?_ ?_ ?_ <;> first | omega | (rw [hK]; split <;> split <;> omega)
    · refine ih _ _ ?_ ?_ ?_ ?_ <;> first | omega | (rw [hK]; split <;> split <;> omega)
    · refine ih _ _ ?_ ?_ ?_ ?_ <;> first | omega | (rw [hK]; split <;> split <;> omega)
    · obtain rfl : K = r := by rw [hK, hr]; split <;> split <;> omega
      exact hx _ _
theorem quo_cases (n : Int) : quo n = 0 ∨ (n = 2 * quo n - 1 ∧ 1 ≤ quo n ∧ quo n ≤ 11) := by
  unfold quo; split <;> omega
theorem w14 {n} (h12 : Abs.look l 12 = some S42) (hn : -9223372036854775808 ≤ n ∧ n ≤ 9223372036854775807) (h : Q (.v (.int .i64 (shr n))) G) : Wf E (specOf l) pf14 [.int .i64 n] G Q := by
  simp (maxSteps := 1000000) (implicitDefEqProofs := false) (disch := omega) only [pf14, S42_eq, h12, go_sem, ↓reduceIte, decide_eq_true_eq, decide_eq_false_iff_not, ge_iff_le, gt_iff_lt, Int.not_le, Int.not_lt, w64, Bool.not_eq_true', Bool.not_eq_false', Bool.and_eq_true, Bool.and_eq_false_iff]
  refine ⟨22, ?_⟩
  simp (maxSteps := 1000000) (implicitDefEqProofs := false) (disch := omega) only [go_sem, ↓reduceIte, decide_eq_true_eq, decide_eq_false_iff_not, ge_iff_le, gt_iff_lt, Int.not_le, Int.not_lt, w64, Bool.not_eq_true', Bool.not_eq_false', Bool.and_eq_true, Bool.and_eq_false_iff]
  refine loop14 (r := shr n) (quo_cases n) ?_ hn (fun i ts => ?_) 21 1 0 (by omega) (by omega) ?_ (.inr rfl)
  · unfold quo shr; split <;> split <;> omega
  · simp (maxSteps := 1000000) (implicitDefEqProofs := false) (disch := omega) only [go_sem, ↓reduceIte, decide_eq_true_eq, decide_eq_false_iff_not, ge_iff_le, gt_iff_lt, Int.not_le, Int.not_lt, w64, Bool.not_eq_true', Bool.not_eq_false', Bool.and_eq_true, Bool.and_eq_false_iff]
    exact h
  · have := quo_cases n
    rw [if_neg (by omega)]
def S10 : Spec1
  | [.int .i64 f], G, Q => (1 ≤ f ∧ f ≤ 10 → Q (.tup [bud f, .int .i64 0]) G) ∧ (¬ (1 ≤ f ∧ f ≤ 10) → Q (.tup [bud0, .int .i64 1]) G)
  | _, _, _ => False
def S13 : Spec1
  | [.int .i64 n], G, Q => Q (.v (.int .i64 (shr n))) G
  | _, _, _ => False
theorem S10_eq {f} : S10 [.int .i64 f] G Q = ((1 ≤ f ∧ f ≤ 10 → Q (.tup [bud f, .int .i64 0]) G) ∧ (¬ (1 ≤ f ∧ f ≤ 10) → Q (.tup [bud0, .int .i64 1]) G)) := rfl
theorem S13_eq {n} : S13 [.int .i64 n] G Q = Q (.v (.int .i64 (shr n))) G := rfl
theorem w16 (h10 : Abs.look l 10 = some S10) (h13 : Abs.look l 13 = some S13) (h : Q (.v (.bool true)) G) : Wf E (specOf l) pf16 [] G Q := by
  simp (maxSteps := 1000000) (implicitDefEqProofs := false) (disch := omega) only [pf16, h10, h13, S10_eq, S13_eq, bud, bud0, go_sem, ↓reduceIte, decide_eq_true_eq, decide_eq_false_iff_not, ge_iff_le, gt_iff_lt, Int.not_le, Int.not_lt, w64, Bool.not_eq_true', Bool.not_eq_false', Bool.and_eq_true, Bool.and_eq_false_iff]
  simp [shr]
  exact h
/-- The messages of a view, counted. -/
theorem loop11 {N M0 fr q v f : Int} {b0 : Bx} {QQ : Ex → St → Prop} (hN : 3 ≤ N ∧ N ≤ 21) (hf : 1 ≤ fr ∧ fr ≤ N) (hM : 0 ≤ M0 ∧ M0 ≤ 10000)
    (hx : ∀ ts, QQ (.exit 2) ⟨[none, none, some (.lp 0 []), some (.lp 1 []), some (.v (.int .i64 fr)), some (.v (.int .i64 (N + 1)))], ts, [b0, ⟨false, .agg [.int .i64 f, .int .i64 N, .int .i64 q, .int .i64 (M0 + 2 * N - 2), .int .i64 v]⟩], G⟩) :
    ∀ (k : Nat) (i M : Int), i + k = N + 1 → 1 ≤ i → M = M0 + 2 * (i - 1) - (if fr < i then 2 else 0) →
      WL (W E C lp11_0) [2, 3, 4, 5] QQ (k + 1) ⟨[none, none, some (.lp 0 []), some (.lp 1 []), some (.v (.int .i64 fr)), some (.v (.int .i64 i))], [], [b0, ⟨false, .agg [.int .i64 f, .int .i64 N, .int .i64 q, .int .i64 M, .int .i64 v]⟩], G⟩ := by
  intro k
  induction k with
  | zero =>
    intro i M hi h1 hMi
    obtain rfl : i = N + 1 := by omega
    obtain rfl : M = M0 + 2 * N - 2 := by rw [hMi]; split <;> omega
    refine WL_in lp11_0.eq_1 ?_
    simp (maxSteps := 1000000) (implicitDefEqProofs := false) (disch := omega) only [go_sem, ↓reduceIte, decide_eq_true_eq, decide_eq_false_iff_not, ge_iff_le, gt_iff_lt, Int.not_le, Int.not_lt, w64, Bool.not_eq_true', Bool.not_eq_false', Bool.and_eq_true, Bool.and_eq_false_iff]
    repeat' first | (intro _) | constructor
    all_goals first | (exfalso; omega) | exact hx _
  | succ k ih =>
    intro i M hi h1 hMi
    have hb : 0 ≤ M ∧ M ≤ 10050 := by rw [hMi]; split <;> omega
    refine WL_in lp11_0.eq_1 ?_
    simp (maxSteps := 1000000) (implicitDefEqProofs := false) (disch := omega) only [go_sem, ↓reduceIte, decide_eq_true_eq, decide_eq_false_iff_not, ge_iff_le, gt_iff_lt, Int.not_le, Int.not_lt, w64, Bool.not_eq_true', Bool.not_eq_false', Bool.and_eq_true, Bool.and_eq_false_iff]
    repeat' first | (intro _) | constructor
    all_goals first | (exfalso; omega) | (refine ih _ _ ?_ ?_ ?_ <;> first | omega | (rw [hMi]; split <;> split <;> omega))
theorem loop11b {N q v f c T : Int} {b0 : Bx} {QQ : Ex → St → Prop} (hN : 3 ≤ N ∧ N ≤ 21) (hc : c = 2 * N + 3) (hT : 0 ≤ T ∧ T ≤ 10000)
    (hx : ∀ ts d, QQ (.exit 0) ⟨[none, none, some (.lp 0 []), some (.lp 1 []), some (.v (.int .i64 (N + 1))), d], ts, [b0, ⟨false, .agg [.int .i64 f, .int .i64 N, .int .i64 q, .int .i64 T, .int .i64 v]⟩], G⟩) :
    ∀ (k : Nat) (i M : Int), i + k = N + 1 → 1 ≤ i → 0 ≤ M → T = M + k * c - (if i ≤ 1 then 5 else 0) →
      WL (W E C lp11_1) [2, 3, 4] QQ (k + 1) ⟨[none, none, some (.lp 0 []), some (.lp 1 []), some (.v (.int .i64 i)), none], [], [b0, ⟨false, .agg [.int .i64 f, .int .i64 N, .int .i64 q, .int .i64 M, .int .i64 v]⟩], G⟩ := by
  intro k
  induction k with
  | zero =>
    intro i M hi h1 h0 hMi
    obtain rfl : i = N + 1 := by omega
    have e : ((0 : Nat) : Int) * c = 0 := by simp
    obtain rfl : M = T := by rw [hMi, e]; split <;> omega
    refine WL_in lp11_1.eq_1 ?_
    simp (maxSteps := 1000000) (implicitDefEqProofs := false) (disch := omega) only [go_sem, ↓reduceIte, decide_eq_true_eq, decide_eq_false_iff_not, ge_iff_le, gt_iff_lt, Int.not_le, Int.not_lt, w64, Bool.not_eq_true', Bool.not_eq_false', Bool.and_eq_true, Bool.and_eq_false_iff]
    repeat' first | (intro _) | constructor
    all_goals first | (exfalso; omega) | exact hx _ _
  | succ k ih =>
    intro i M hi h1 h0 hMi
    have e1 : ((k + 1 : Nat) : Int) * c = k * c + c := by rw [Int.natCast_add, Int.add_mul]; simp
    have e2 : 0 ≤ (k : Int) * c := Int.mul_nonneg (by omega) (by omega)
    rw [e1] at hMi
    have hb : 0 ≤ M ∧ M ≤ 10000 := by split at hMi <;> omega
    refine WL_in lp11_1.eq_1 ?_
    simp (maxSteps := 1000000) (implicitDefEqProofs := false) (disch := omega) only [go_sem, ↓reduceIte, decide_eq_true_eq, decide_eq_false_iff_not, ge_iff_le, gt_iff_lt, Int.not_le, Int.not_lt, w64, Bool.not_eq_true', Bool.not_eq_false', Bool.and_eq_true, Bool.and_eq_false_iff]
    refine ⟨fun hiN => ⟨N.toNat + 1, ?_⟩, fun c => by omega⟩
    simp (maxSteps := 1000000) (implicitDefEqProofs := false) (disch := omega) only [go_sem, ↓reduceIte, decide_eq_true_eq, decide_eq_false_iff_not, ge_iff_le, gt_iff_lt, Int.not_le, Int.not_lt, w64, Bool.not_eq_true', Bool.not_eq_false', Bool.and_eq_true, Bool.and_eq_false_iff]
    refine loop11 (M0 := M) hN ⟨h1, hiN⟩ hb (fun ts => ?_) N.toNat 1 M (by omega) (by omega) (by rw [if_neg (by omega)]; omega)
    simp (maxSteps := 1000000) (implicitDefEqProofs := false) (disch := omega) only [go_sem, ↓reduceIte, decide_eq_true_eq, decide_eq_false_iff_not, ge_iff_le, gt_iff_lt, Int.not_le, Int.not_lt, w64, Bool.not_eq_true', Bool.not_eq_false', Bool.and_eq_true, Bool.and_eq_false_iff]
    refine ⟨fun c1 => ?_, fun c1 => ?_⟩
    · rw [if_neg (by omega)] at hMi
      refine ih _ _ ?_ ?_ ?_ ?_ <;> first | omega | (rw [if_neg (by omega)]; omega)
    · rw [if_pos (by omega)] at hMi
      refine ih _ _ ?_ ?_ ?_ ?_ <;> first | omega | (rw [if_neg (by omega)]; omega)
theorem w11 {f} (hf : 1 ≤ f ∧ f ≤ 10) (h : Q (.v (bud f)) G) : Wf E C pf11 [.int .i64 f] G Q := by
  have e1 : IntKind.i64.wrap (2 * f) = 2 * f := w64 (by omega) (by omega)
  simp (maxSteps := 1000000) (implicitDefEqProofs := false) (disch := omega) only [pf11, e1, go_sem, ↓reduceIte, decide_eq_true_eq, decide_eq_false_iff_not, ge_iff_le, gt_iff_lt, Int.not_le, Int.not_lt, w64, Bool.not_eq_true', Bool.not_eq_false', Bool.and_eq_true, Bool.and_eq_false_iff]
  refine ⟨(2 * f + 1).toNat + 1, ?_⟩
  simp (maxSteps := 1000000) (implicitDefEqProofs := false) (disch := omega) only [go_sem, ↓reduceIte, decide_eq_true_eq, decide_eq_false_iff_not, ge_iff_le, gt_iff_lt, Int.not_le, Int.not_lt, w64, Bool.not_eq_true', Bool.not_eq_false', Bool.and_eq_true, Bool.and_eq_false_iff]
  refine loop11b (N := 2 * f + 1) (c := 2 * (2 * f + 1) + 3) (T := (2 * (2 * f + 1) + 5) * (2 * f)) (by omega) rfl ?_ (fun ts d => ?_) (2 * f + 1).toNat 1 0 (by omega) (by omega) (by omega) ?_
  · rcases cases10 hf with rfl | rfl | rfl | rfl | rfl | rfl | rfl | rfl | rfl | rfl <;> decide
  · simp (maxSteps := 1000000) (implicitDefEqProofs := false) (disch := omega) only [go_sem, ↓reduceIte, decide_eq_true_eq, decide_eq_false_iff_not, ge_iff_le, gt_iff_lt, Int.not_le, Int.not_lt, w64, Bool.not_eq_true', Bool.not_eq_false', Bool.and_eq_true, Bool.and_eq_false_iff]
    exact h
  · rcases cases10 hf with rfl | rfl | rfl | rfl | rfl | rfl | rfl | rfl | rfl | rfl <;> decide
def S11 : Spec1
  | [.int .i64 f], G, Q => (1 ≤ f ∧ f ≤ 10) ∧ Q (.v (bud f)) G
  | _, _, _ => False
def S14 : Spec1
  | [.int .i64 n], G, Q => (-9223372036854775808 ≤ n ∧ n ≤ 9223372036854775807) ∧ Q (.v (.int .i64 (shr n))) G
  | _, _, _ => False
def S15 : Spec1
  | [.int .i64 v, .int .i64 k], G, Q => Q (.v (.int .i64 (tks v k))) G
  | _, _, _ => False
def S16 : Spec1
  | [], G, Q => Q (.v (.bool true)) G
  | _, _, _ => False
theorem S11_eq {f} : S11 [.int .i64 f] G Q = ((1 ≤ f ∧ f ≤ 10) ∧ Q (.v (bud f)) G) := rfl
theorem S14_eq {n} : S14 [.int .i64 n] G Q = ((-9223372036854775808 ≤ n ∧ n ≤ 9223372036854775807) ∧ Q (.v (.int .i64 (shr n))) G) := rfl
theorem S15_eq {v k} : S15 [.int .i64 v, .int .i64 k] G Q = Q (.v (.int .i64 (tks v k))) G := rfl
theorem S16_eq : S16 [] G Q = Q (.v (.bool true)) G := rfl
theorem shr_quo (b : Int) : (decide (1 ≤ shr b) == decide (0 < quo b)) = true := by
  unfold shr quo; split <;> simp; omega
theorem tks_pos {v k : Int} (h1 : 1 ≤ v) (h2 : v ≤ 1000) (h3 : 1 ≤ k) (h4 : k ≤ 3) : tks v k = IntKind.i64.wrap (IntKind.i64.wrap (64 * v) + IntKind.i64.wrap (8 * k)) := by
  unfold tks; rw [if_pos ⟨h1, h2, h3, h4⟩]; rw [w64 (x := 64 * v) (by omega) (by omega), w64 (x := 8 * k) (by omega) (by omega), w64 (by omega) (by omega)]
theorem tks_neg {v k : Int} (h : ¬ (1 ≤ v ∧ v ≤ 1000 ∧ 1 ≤ k ∧ k ≤ 3)) : tks v k = 0 := by
  unfold tks; rw [if_neg h]
theorem w3 {a b c d : Int} (h10 : Abs.look l 10 = some S10) (h11 : Abs.look l 11 = some S11) (h12 : Abs.look l 12 = some S42) (h13 : Abs.look l 13 = some S13) (h14 : Abs.look l 14 = some S14) (h15 : Abs.look l 15 = some S15) (h16 : Abs.look l 16 = some S16)
    (ha : -9223372036854775808 ≤ b ∧ b ≤ 9223372036854775807) (h : Q (.v (.bool true)) G) : Wf E (specOf l) pf3 [.arr .i64 4 [a, b, c, d]] G Q := by
  have hsq := shr_quo b
  by_cases m1 : 1 ≤ a
  · by_cases m2 : a ≤ 10
    · simp (maxSteps := 1000000) (implicitDefEqProofs := false) only [pf3, h10, h11, h12, h13, h14, h15, h16, S10_eq, S11_eq, S42_eq, S13_eq, S14_eq, S15_eq, S16_eq, bud, bud0, m1, m2, hsq, not_true_eq_false, not_false_eq_true, false_implies, forall_const, true_implies, forall_const, and_false, false_and, go_sem, ↓reduceIte, decide_eq_true_eq, decide_eq_false_iff_not, ge_iff_le, gt_iff_lt, Int.not_le, Int.not_lt, Bool.not_eq_true', Bool.not_eq_false', Bool.and_eq_true, Bool.and_eq_false_iff]
      have e1 : IntKind.i64.wrap (2 * a + 1 - a) = a + 1 := by rw [w64 (by omega) (by omega)]; omega
      have e2 : quo (2 * a + 1) = a + 1 := by unfold quo; rw [if_pos (by omega)]; omega
      rw [e1, e2]
      repeat' first | (intro _) | constructor
      all_goals first | exact h | omega | (exfalso; first | omega | (rename_i x; exact x (tks_neg (by omega))) | (rename_i x; exact x (tks_pos (by assumption) (by assumption) (by assumption) (by assumption))))
    · simp (maxSteps := 1000000) (implicitDefEqProofs := false) only [pf3, h10, h11, h12, h13, h14, h15, h16, S10_eq, S11_eq, S42_eq, S13_eq, S14_eq, S15_eq, S16_eq, bud, bud0, m1, m2, hsq, not_true_eq_false, not_false_eq_true, false_implies, forall_const, true_implies, and_false, false_and, go_sem, ↓reduceIte, decide_eq_true_eq, decide_eq_false_iff_not, ge_iff_le, gt_iff_lt, Int.not_le, Int.not_lt, Bool.not_eq_true', Bool.not_eq_false', Bool.and_eq_true, Bool.and_eq_false_iff]
      repeat' first | (intro _) | constructor
      all_goals first | exact h | omega | (exfalso; first | omega | (rename_i x; exact x (tks_neg (by omega))) | (rename_i x; exact x (tks_pos (by assumption) (by assumption) (by assumption) (by assumption))))
  · simp (maxSteps := 1000000) (implicitDefEqProofs := false) only [pf3, h10, h11, h12, h13, h14, h15, h16, S10_eq, S11_eq, S42_eq, S13_eq, S14_eq, S15_eq, S16_eq, bud, bud0, m1, hsq, not_true_eq_false, not_false_eq_true, false_implies, forall_const, true_implies, and_false, false_and, go_sem, ↓reduceIte, decide_eq_true_eq, decide_eq_false_iff_not, ge_iff_le, gt_iff_lt, Int.not_le, Int.not_lt, Bool.not_eq_true', Bool.not_eq_false', Bool.and_eq_true, Bool.and_eq_false_iff]
    repeat' first | (intro _) | constructor
    all_goals first | exact h | omega | (exfalso; first | omega | (rename_i x; exact x (tks_neg (by omega))) | (rename_i x; exact x (tks_pos (by assumption) (by assumption) (by assumption) (by assumption))))
end Go.Proofs.Ytcicoepkmiahbaa.BudgetOf
