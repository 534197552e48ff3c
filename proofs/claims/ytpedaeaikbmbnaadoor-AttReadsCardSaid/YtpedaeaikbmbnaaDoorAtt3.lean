/- Laws over plain values, and what functions of the program hand back; no conditions. -/
import Derived.Test.YtpedaeaikbmbnaaDoorAtt2
import Derived.Test.YtpedaeaikbmbnaaDoorShaD
namespace Go.Proofs.YtpedaeaikbmbnaaDoor.Sha
open Go Go.Abs Go.Abs.Sha
set_option linter.unusedSimpArgs false
set_option linter.unusedVariables false
set_option maxRecDepth 100000
def pf16 : PF :=
  PF.mk 0 3 19 ((PC.reg [⟨.v 0, .mv true (.c (.v (.bool false))), none⟩]).seq ((PC.reg [⟨.t 3, .build (.agg [.int .i64 0, .int .i64 0, .int .i64 0, .int
    .i64 0, .arr .u8 32 [0, 0, 0, 0, 0, 0, 0, 0, 0, 0, 0, 0, 0, 0, 0, 0, 0, 0, 0, 0, 0, 0, 0, 0, 0, 0, 0, 0, 0, 0, 0, 0], .int .i64 0, .arr .u8 32 [0, 0,
    0, 0, 0, 0, 0, 0, 0, 0, 0, 0, 0, 0, 0, 0, 0, 0, 0, 0, 0, 0, 0, 0, 0, 0, 0, 0, 0, 0, 0, 0], .arr .u8 32 [0, 0, 0, 0, 0, 0, 0, 0, 0, 0, 0, 0, 0, 0, 0,
    0, 0, 0, 0, 0, 0, 0, 0, 0, 0, 0, 0, 0, 0, 0, 0, 0]]) [(0, .c (.v (.int .i64 2))), (1, .c (.v (.int .i64 1))), (2, .c (.v (.int .i64 3))), (3, .c (.v
    (.int .i64 1))), (5, .c (.v (.int .i64 2)))], none⟩, ⟨.t 4, .call 10 [.t 3], none⟩, ⟨.v 1, .alloc (.agg [.int .i64 0, .int .i64 0, .int .i64 0, .int
    .i64 0, .arr .u8 32 [0, 0, 0, 0, 0, 0, 0, 0, 0, 0, 0, 0, 0, 0, 0, 0, 0, 0, 0, 0, 0, 0, 0, 0, 0, 0, 0, 0, 0, 0, 0, 0], .int .i64 0, .arr .u8 32 [0, 0,
    0, 0, 0, 0, 0, 0, 0, 0, 0, 0, 0, 0, 0, 0, 0, 0, 0, 0, 0, 0, 0, 0, 0, 0, 0, 0, 0, 0, 0, 0], .arr .u8 32 [0, 0, 0, 0, 0, 0, 0, 0, 0, 0, 0, 0, 0, 0, 0,
    0, 0, 0, 0, 0, 0, 0, 0, 0, 0, 0, 0, 0, 0, 0, 0, 0]]), none⟩, ⟨.no, .store 101 (.v 1) (.t 4), none⟩]).seq ((PC.reg [⟨.t 5, .load 101 true (.v 1),
    none⟩, ⟨.v 2, .alloc (.agg [.int .i64 0, .int .i64 0, .int .i64 0, .int .i64 0, .arr .u8 32 [0, 0, 0, 0, 0, 0, 0, 0, 0, 0, 0, 0, 0, 0, 0, 0, 0, 0, 0,
    0, 0, 0, 0, 0, 0, 0, 0, 0, 0, 0, 0, 0], .int .i64 0, .arr .u8 32 [0, 0, 0, 0, 0, 0, 0, 0, 0, 0, 0, 0, 0, 0, 0, 0, 0, 0, 0, 0, 0, 0, 0, 0, 0, 0, 0, 0,
    0, 0, 0, 0], .arr .u8 32 [0, 0, 0, 0, 0, 0, 0, 0, 0, 0, 0, 0, 0, 0, 0, 0, 0, 0, 0, 0, 0, 0, 0, 0, 0, 0, 0, 0, 0, 0, 0, 0]]), none⟩, ⟨.no, .store 101
    (.v 2) (.t 5), none⟩]).seq ((PC.reg [⟨.t 6, .fadr 0 0 (.v 2), none⟩, ⟨.no, .store 1 (.t 6) (.c (.v (.int .i64 3))), none⟩]).seq ((PC.reg [⟨.t 7,
    .load 101 true (.v 1), none⟩, ⟨.t 8, .call 12 [.t 7], none⟩, ⟨.t 9, .mv false (.t 8), none⟩, ⟨.t 10, .load 101 true (.v 2), some (.t 9, true)⟩, ⟨.t
    11, .call 12 [.t 10], some (.t 9, true)⟩, ⟨.t 12, .un .not (.t 11), some (.t 9, true)⟩, ⟨.t 13, .pick (.t 9) (.t 12) (.c (.v (.bool false))), none⟩,
    ⟨.t 14, .mv false (.t 13), none⟩, ⟨.t 15, .load 101 true (.v 1), some (.t 14, true)⟩, ⟨.t 16, .load 101 true (.v 2), some (.t 14, true)⟩, ⟨.t 17,
    .call 14 [.t 15, .t 16], some (.t 14, true)⟩, ⟨.t 18, .pick (.t 14) (.t 17) (.c (.v (.bool false))), none⟩, ⟨.v 0, .mv true (.t 18), none⟩]).seq
    PC.ret))))) [(.v 0, none)]
def pf3 : PF :=
  PF.mk 2 7 61 ((PC.reg [⟨.v 2, .box (.v 0), none⟩, ⟨.v 3, .box (.v 1), none⟩, ⟨.v 4, .mv true (.c (.v (.bool false))), none⟩]).seq ((PC.reg [⟨.t 7,
    .load 101 true (.v 2), none⟩, ⟨.t 8, .call 9 [.t 7], none⟩, ⟨.v 5, .mv true (.t 8), none⟩]).seq ((PC.reg [⟨.t 9, .load 101 true (.v 2), none⟩, ⟨.t
    10, .call 10 [.t 9], none⟩, ⟨.v 6, .alloc (.agg [.int .i64 0, .int .i64 0, .int .i64 0, .int .i64 0, .arr .u8 32 [0, 0, 0, 0, 0, 0, 0, 0, 0, 0, 0, 0,
    0, 0, 0, 0, 0, 0, 0, 0, 0, 0, 0, 0, 0, 0, 0, 0, 0, 0, 0, 0], .int .i64 0, .arr .u8 32 [0, 0, 0, 0, 0, 0, 0, 0, 0, 0, 0, 0, 0, 0, 0, 0, 0, 0, 0, 0, 0,
    0, 0, 0, 0, 0, 0, 0, 0, 0, 0, 0], .arr .u8 32 [0, 0, 0, 0, 0, 0, 0, 0, 0, 0, 0, 0, 0, 0, 0, 0, 0, 0, 0, 0, 0, 0, 0, 0, 0, 0, 0, 0, 0, 0, 0, 0]]),
    none⟩, ⟨.no, .store 101 (.v 6) (.t 10), none⟩]).seq (((PC.regD 0 [⟨.t 11, .load 101 true (.v 2), none⟩, ⟨.t 12, .call 11 [.t 11], none⟩, ⟨.t 13, .bin
    .eql (.t 12) (.c (.v (.int .i64 0))), none⟩, ⟨.t 14, .mv false (.v 5), none⟩, ⟨.t 15, .binB .neq (.t 13) (.t 14), none⟩, ⟨.t 16, .mv false (.t 15),
    none⟩, ⟨.t 17, .load 101 true (.v 2), some (.t 16, false)⟩, ⟨.t 18, .call 12 [.t 17], some (.t 16, false)⟩, ⟨.t 19, .load 101 true (.v 2), some (.t
    16, false)⟩, ⟨.t 20, .call 13 [.t 19], some (.t 16, false)⟩, ⟨.t 21, .binB .neq (.t 18) (.t 20), some (.t 16, false)⟩, ⟨.t 22, .pick (.t 16) (.c (.v
    (.bool true))) (.t 21), none⟩, ⟨.t 23, .mv false (.t 22), none⟩, ⟨.t 24, .load 101 true (.v 2), some (.t 23, false)⟩, ⟨.t 25, .load 101 true (.v 3),
    some (.t 23, false)⟩, ⟨.t 26, .call 14 [.t 24, .t 25], some (.t 23, false)⟩, ⟨.t 27, .load 101 true (.v 2), some (.t 23, false)⟩, ⟨.t 28, .load 101
    true (.v 3), some (.t 23, false)⟩, ⟨.t 29, .call 15 [.t 27, .t 28], some (.t 23, false)⟩, ⟨.t 30, .binB .neq (.t 26) (.t 29), some (.t 23, false)⟩,
    ⟨.t 31, .pick (.t 23) (.c (.v (.bool true))) (.t 30), none⟩] []).seq (PC.cond (.t 31) ((PC.reg [⟨.v 4, .mv true (.c (.v (.bool false))), none⟩]).seq
    PC.ret) PC.skip)).seq (((PC.reg [⟨.t 32, .mv false (.v 5), none⟩, ⟨.t 33, .un .not (.t 32), none⟩]).seq (PC.cond (.t 33) ((PC.reg [⟨.t 34, .load 101
    true (.v 6), none⟩, ⟨.t 35, .build (.agg [.int .i64 0, .int .i64 0, .int .i64 0, .int .i64 0, .arr .u8 32 [0, 0, 0, 0, 0, 0, 0, 0, 0, 0, 0, 0, 0, 0,
    0, 0, 0, 0, 0, 0, 0, 0, 0, 0, 0, 0, 0, 0, 0, 0, 0, 0], .int .i64 0, .arr .u8 32 [0, 0, 0, 0, 0, 0, 0, 0, 0, 0, 0, 0, 0, 0, 0, 0, 0, 0, 0, 0, 0, 0, 0,
    0, 0, 0, 0, 0, 0, 0, 0, 0], .arr .u8 32 [0, 0, 0, 0, 0, 0, 0, 0, 0, 0, 0, 0, 0, 0, 0, 0, 0, 0, 0, 0, 0, 0, 0, 0, 0, 0, 0, 0, 0, 0, 0, 0]]) [], none⟩,
    ⟨.t 36, .eqa false (.agg (.cons 0 1 false .int (.cons 1 1 false .int (.cons 2 1 false .int (.cons 3 1 false .int (.cons 4 32 true (.arr 32) (.cons 36
    1 false .int (.cons 37 32 true (.arr 32) (.cons 69 32 true (.arr 32) .nil))))))))) (.t 34) (.t 35), none⟩, ⟨.t 37, .mv false (.t 36), none⟩, ⟨.t 38,
    .load 101 true (.v 6), some (.t 37, true)⟩, ⟨.t 39, .call 12 [.t 38], some (.t 37, true)⟩, ⟨.t 40, .un .not (.t 39), some (.t 37, true)⟩, ⟨.t 41,
    .pick (.t 37) (.t 40) (.c (.v (.bool false))), none⟩, ⟨.t 42, .mv false (.t 41), none⟩, ⟨.t 43, .call 16 [], some (.t 42, true)⟩, ⟨.t 44, .pick (.t
    42) (.t 43) (.c (.v (.bool false))), none⟩, ⟨.v 4, .mv true (.t 44), none⟩]).seq PC.ret) PC.skip)).seq ((PC.regD 0 [⟨.t 45, .load 101 true (.v 6),
    none⟩, ⟨.t 46, .load 101 true (.v 2), none⟩, ⟨.t 47, .call 17 [.t 46], none⟩, ⟨.t 48, .eqa false (.agg (.cons 0 1 false .int (.cons 1 1 false .int
    (.cons 2 1 false .int (.cons 3 1 false .int (.cons 4 32 true (.arr 32) (.cons 36 1 false .int (.cons 37 32 true (.arr 32) (.cons 69 32 true (.arr 32)
    .nil))))))))) (.t 45) (.t 47), none⟩, ⟨.t 49, .mv false (.t 48), none⟩, ⟨.t 50, .load 101 true (.v 6), some (.t 49, true)⟩, ⟨.t 51, .call 12 [.t 50],
    some (.t 49, true)⟩, ⟨.t 52, .pick (.t 49) (.t 51) (.c (.v (.bool false))), none⟩, ⟨.t 53, .mv false (.t 52), none⟩, ⟨.t 54, .load 101 true (.v 6),
    some (.t 53, true)⟩, ⟨.t 55, .load 101 true (.v 2), some (.t 53, true)⟩, ⟨.t 56, .call 14 [.t 54, .t 55], some (.t 53, true)⟩, ⟨.t 57, .pick (.t 53)
    (.t 56) (.c (.v (.bool false))), none⟩, ⟨.t 58, .mv false (.t 57), none⟩, ⟨.t 59, .call 16 [], some (.t 58, true)⟩, ⟨.t 60, .pick (.t 58) (.t 59) (.c
    (.v (.bool false))), none⟩, ⟨.v 4, .mv true (.t 60), none⟩] []).seq PC.ret)))))) [(.v 4, none)]
def pf4 : PF :=
  PF.mk 3 11 53 ((PC.reg [⟨.v 3, .box (.v 0), none⟩, ⟨.v 5, .box (.v 2), none⟩, ⟨.v 6, .mv true (.c (.v (.bool false))), none⟩]).seq ((PC.regD 3 [⟨.t 11,
    .iadrG 3 101 (.v 3) (.c (.v (.int .i64 0))), none⟩, ⟨.t 12, .load 101 true (.t 11), none⟩, ⟨.t 13, .iadrG 3 101 (.v 3) (.c (.v (.int .i64 1))),
    none⟩, ⟨.t 14, .load 101 true (.t 13), none⟩, ⟨.t 15, .iadrG 3 101 (.v 3) (.c (.v (.int .i64 2))), none⟩, ⟨.t 16, .load 101 true (.t 15), none⟩, ⟨.v
    7, .allocAt 3 (.agg [.int .i64 0, .int .i64 0, .int .i64 0, .int .i64 0, .arr .u8 32 [0, 0, 0, 0, 0, 0, 0, 0, 0, 0, 0, 0, 0, 0, 0, 0, 0, 0, 0, 0, 0,
    0, 0, 0, 0, 0, 0, 0, 0, 0, 0, 0], .int .i64 0, .arr .u8 32 [0, 0, 0, 0, 0, 0, 0, 0, 0, 0, 0, 0, 0, 0, 0, 0, 0, 0, 0, 0, 0, 0, 0, 0, 0, 0, 0, 0, 0, 0,
    0, 0], .arr .u8 32 [0, 0, 0, 0, 0, 0, 0, 0, 0, 0, 0, 0, 0, 0, 0, 0, 0, 0, 0, 0, 0, 0, 0, 0, 0, 0, 0, 0, 0, 0, 0, 0]]), none⟩, ⟨.v 8, .allocAt 2 (.agg
    [.int .i64 0, .int .i64 0, .int .i64 0, .int .i64 0, .arr .u8 32 [0, 0, 0, 0, 0, 0, 0, 0, 0, 0, 0, 0, 0, 0, 0, 0, 0, 0, 0, 0, 0, 0, 0, 0, 0, 0, 0, 0,
    0, 0, 0, 0], .int .i64 0, .arr .u8 32 [0, 0, 0, 0, 0, 0, 0, 0, 0, 0, 0, 0, 0, 0, 0, 0, 0, 0, 0, 0, 0, 0, 0, 0, 0, 0, 0, 0, 0, 0, 0, 0], .arr .u8 32
    [0, 0, 0, 0, 0, 0, 0, 0, 0, 0, 0, 0, 0, 0, 0, 0, 0, 0, 0, 0, 0, 0, 0, 0, 0, 0, 0, 0, 0, 0, 0, 0]]), none⟩, ⟨.v 9, .allocAt 1 (.agg [.int .i64 0, .int
    .i64 0, .int .i64 0, .int .i64 0, .arr .u8 32 [0, 0, 0, 0, 0, 0, 0, 0, 0, 0, 0, 0, 0, 0, 0, 0, 0, 0, 0, 0, 0, 0, 0, 0, 0, 0, 0, 0, 0, 0, 0, 0], .int
    .i64 0, .arr .u8 32 [0, 0, 0, 0, 0, 0, 0, 0, 0, 0, 0, 0, 0, 0, 0, 0, 0, 0, 0, 0, 0, 0, 0, 0, 0, 0, 0, 0, 0, 0, 0, 0], .arr .u8 32 [0, 0, 0, 0, 0, 0,
    0, 0, 0, 0, 0, 0, 0, 0, 0, 0, 0, 0, 0, 0, 0, 0, 0, 0, 0, 0, 0, 0, 0, 0, 0, 0]]), none⟩, ⟨.no, .store 101 (.v 7) (.t 12), none⟩, ⟨.no, .store 101 (.v
    8) (.t 14), none⟩, ⟨.no, .store 101 (.v 9) (.t 16), none⟩] [(0, 6), (1, 6), (2, 6), (3, 6), (4, 6), (5, 6), (0, 7), (1, 7), (2, 7), (3, 7), (4, 7),
    (5, 7), (6, 7), (0, 8), (1, 8), (2, 8), (3, 8), (4, 8), (5, 8), (6, 8), (7, 8), (3, 9), (5, 9), (5, 10)]).seq ((PC.reg [⟨.t 17, .load 101 true (.v
    7), none⟩, ⟨.v 10, .alloc (.agg [.int .i64 0, .int .i64 0, .int .i64 0, .int .i64 0, .arr .u8 32 [0, 0, 0, 0, 0, 0, 0, 0, 0, 0, 0, 0, 0, 0, 0, 0, 0,
    0, 0, 0, 0, 0, 0, 0, 0, 0, 0, 0, 0, 0, 0, 0], .int .i64 0, .arr .u8 32 [0, 0, 0, 0, 0, 0, 0, 0, 0, 0, 0, 0, 0, 0, 0, 0, 0, 0, 0, 0, 0, 0, 0, 0, 0, 0,
    0, 0, 0, 0, 0, 0], .arr .u8 32 [0, 0, 0, 0, 0, 0, 0, 0, 0, 0, 0, 0, 0, 0, 0, 0, 0, 0, 0, 0, 0, 0, 0, 0, 0, 0, 0, 0, 0, 0, 0, 0]]), none⟩, ⟨.no,
    .store 101 (.v 10) (.t 17), none⟩]).seq ((PC.regD 0 [⟨.t 18, .mv false (.v 1), none⟩, ⟨.t 19, .load 32 true (.v 5), none⟩, ⟨.t 20, .fadr 0 0 (.v 10),
    none⟩, ⟨.no, .store 1 (.t 20) (.t 18), none⟩, ⟨.t 21, .fadr 7 69 (.v 10), none⟩, ⟨.no, .store 32 (.t 21) (.t 19), none⟩] [(1, 3)]).seq (((PC.regD 0
    [⟨.t 22, .load 101 true (.v 7), none⟩, ⟨.t 23, .load 101 true (.v 10), none⟩, ⟨.t 24, .call 14 [.t 22, .t 23], none⟩, ⟨.t 25, .un .not (.t 24),
    none⟩, ⟨.t 26, .mv false (.t 25), none⟩, ⟨.t 27, .load 101 true (.v 7), some (.t 26, false)⟩, ⟨.t 28, .load 101 true (.v 8), some (.t 26, false)⟩,
    ⟨.t 29, .call 14 [.t 27, .t 28], some (.t 26, false)⟩, ⟨.t 30, .load 101 true (.v 8), some (.t 26, false)⟩, ⟨.t 31, .load 101 true (.v 7), some (.t
    26, false)⟩, ⟨.t 32, .call 14 [.t 30, .t 31], some (.t 26, false)⟩, ⟨.t 33, .binB .neq (.t 29) (.t 32), some (.t 26, false)⟩, ⟨.t 34, .pick (.t 26)
    (.c (.v (.bool true))) (.t 33), none⟩] []).seq (PC.cond (.t 34) ((PC.reg [⟨.v 6, .mv true (.c (.v (.bool false))), none⟩]).seq PC.ret) PC.skip)).seq
    ((PC.reg [⟨.t 35, .load 101 true (.v 7), none⟩, ⟨.t 36, .load 101 true (.v 8), none⟩, ⟨.t 37, .call 14 [.t 35, .t 36], none⟩, ⟨.t 38, .un .not (.t
    37), none⟩, ⟨.t 39, .mv false (.t 38), none⟩, ⟨.t 40, .load 101 true (.v 8), some (.t 39, false)⟩, ⟨.t 41, .load 101 true (.v 9), some (.t 39,
    false)⟩, ⟨.t 42, .call 14 [.t 40, .t 41], some (.t 39, false)⟩, ⟨.t 43, .un .not (.t 42), some (.t 39, false)⟩, ⟨.t 44, .pick (.t 39) (.c (.v (.bool
    true))) (.t 43), none⟩, ⟨.t 45, .mv false (.t 44), none⟩, ⟨.t 46, .load 101 true (.v 7), some (.t 45, false)⟩, ⟨.t 47, .load 101 true (.v 9), some
    (.t 45, false)⟩, ⟨.t 48, .call 14 [.t 46, .t 47], some (.t 45, false)⟩, ⟨.t 49, .pick (.t 45) (.c (.v (.bool true))) (.t 48), none⟩, ⟨.t 50, .mv
    false (.t 49), none⟩, ⟨.t 51, .call 16 [], some (.t 50, true)⟩, ⟨.t 52, .pick (.t 50) (.t 51) (.c (.v (.bool false))), none⟩, ⟨.v 6, .mv true (.t
    52), none⟩]).seq PC.ret)))))) [(.v 6, none)]
attribute [local irreducible] W Wops WopsD WL Wop WopD
variable {E : Env} {C : Abs.Spec} {l : List (Nat × Spec1)} {G : List (Nat × V)} {Q : R → List (Nat × V) → Prop}
set_option maxHeartbeats 1000000
def SAw : Spec1
  | [], G, Q => Q (.v (.bool true)) G
  | _, _, _ => False
theorem SAw_eq {G : List (Nat × V)} {Q : R → List (Nat × V) → Prop} : SAw [] G Q = (Q (.v (.bool true)) G) := rfl
theorem v_mk {a1 a2 a3 a4 a6 : Int} {a5 a7 a8 : List Int} : ((⟨a1, a2, a3, a4, a5, a6, a7, a8⟩ : AttS)).v = .agg [.int .i64 a1, .int .i64 a2, .int .i64 a3, .int .i64 a4, .arr .u8 32 a5, .int .i64 a6, .arr .u8 32 a7, .arr .u8 32 a8] := rfl
theorem walk16 (h10 : Abs.look l 10 = some (SSi K256)) (h12 : Abs.look l 12 = some (SRi K256)) (h14 : Abs.look l 14 = some SAl) (h : Q (.v (.bool true)) G) : Wf E (specOf l) pf16 [] G Q := by
  have hs : (⟨2, 1, 3, 1, [0, 0, 0, 0, 0, 0, 0, 0, 0, 0, 0, 0, 0, 0, 0, 0, 0, 0, 0, 0, 0, 0, 0, 0, 0, 0, 0, 0, 0, 0, 0, 0], 2, [0, 0, 0, 0, 0, 0, 0, 0, 0, 0, 0, 0, 0, 0, 0, 0, 0, 0, 0, 0, 0, 0, 0, 0, 0, 0, 0, 0, 0, 0, 0, 0], [0, 0, 0, 0, 0, 0, 0, 0, 0, 0, 0, 0, 0, 0, 0, 0, 0, 0, 0, 0, 0, 0, 0, 0, 0, 0, 0, 0, 0, 0, 0, 0]⟩ : AttS).sign K256 = ⟨2, 1, 3, 1, [0, 0, 0, 0, 0, 0, 0, 0, 0, 0, 0, 0, 0, 0, 0, 0, 0, 0, 0, 0, 0, 0, 0, 0, 0, 0, 0, 0, 0, 0, 0, 0], 2, [0, 0, 0, 0, 0, 0, 0, 0, 0, 0, 0, 0, 0, 0, 0, 0, 0, 0, 0, 0, 0, 0, 0, 0, 0, 0, 0, 0, 0, 0, 0, 0], (⟨2, 1, 3, 1, [0, 0, 0, 0, 0, 0, 0, 0, 0, 0, 0, 0, 0, 0, 0, 0, 0, 0, 0, 0, 0, 0, 0, 0, 0, 0, 0, 0, 0, 0, 0, 0], 2, [0, 0, 0, 0, 0, 0, 0, 0, 0, 0, 0, 0, 0, 0, 0, 0, 0, 0, 0, 0, 0, 0, 0, 0, 0, 0, 0, 0, 0, 0, 0, 0], [0, 0, 0, 0, 0, 0, 0, 0, 0, 0, 0, 0, 0, 0, 0, 0, 0, 0, 0, 0, 0, 0, 0, 0, 0, 0, 0, 0, 0, 0, 0, 0]⟩ : AttS).tag K256⟩ := by
    unfold AttS.sign; rw [if_pos (by decide)]; rfl
  have r1 : (⟨2, 1, 3, 1, [0, 0, 0, 0, 0, 0, 0, 0, 0, 0, 0, 0, 0, 0, 0, 0, 0, 0, 0, 0, 0, 0, 0, 0, 0, 0, 0, 0, 0, 0, 0, 0], 2, [0, 0, 0, 0, 0, 0, 0, 0, 0, 0, 0, 0, 0, 0, 0, 0, 0, 0, 0, 0, 0, 0, 0, 0, 0, 0, 0, 0, 0, 0, 0, 0], (⟨2, 1, 3, 1, [0, 0, 0, 0, 0, 0, 0, 0, 0, 0, 0, 0, 0, 0, 0, 0, 0, 0, 0, 0, 0, 0, 0, 0, 0, 0, 0, 0, 0, 0, 0, 0], 2, [0, 0, 0, 0, 0, 0, 0, 0, 0, 0, 0, 0, 0, 0, 0, 0, 0, 0, 0, 0, 0, 0, 0, 0, 0, 0, 0, 0, 0, 0, 0, 0], [0, 0, 0, 0, 0, 0, 0, 0, 0, 0, 0, 0, 0, 0, 0, 0, 0, 0, 0, 0, 0, 0, 0, 0, 0, 0, 0, 0, 0, 0, 0, 0]⟩ : AttS).tag K256⟩ : AttS).right K256 = true := awake8.1
  have r2 : (⟨3, 1, 3, 1, [0, 0, 0, 0, 0, 0, 0, 0, 0, 0, 0, 0, 0, 0, 0, 0, 0, 0, 0, 0, 0, 0, 0, 0, 0, 0, 0, 0, 0, 0, 0, 0], 2, [0, 0, 0, 0, 0, 0, 0, 0, 0, 0, 0, 0, 0, 0, 0, 0, 0, 0, 0, 0, 0, 0, 0, 0, 0, 0, 0, 0, 0, 0, 0, 0], (⟨2, 1, 3, 1, [0, 0, 0, 0, 0, 0, 0, 0, 0, 0, 0, 0, 0, 0, 0, 0, 0, 0, 0, 0, 0, 0, 0, 0, 0, 0, 0, 0, 0, 0, 0, 0], 2, [0, 0, 0, 0, 0, 0, 0, 0, 0, 0, 0, 0, 0, 0, 0, 0, 0, 0, 0, 0, 0, 0, 0, 0, 0, 0, 0, 0, 0, 0, 0, 0], [0, 0, 0, 0, 0, 0, 0, 0, 0, 0, 0, 0, 0, 0, 0, 0, 0, 0, 0, 0, 0, 0, 0, 0, 0, 0, 0, 0, 0, 0, 0, 0]⟩ : AttS).tag K256⟩ : AttS).right K256 = false := awake8.2
  have hT := h32_tag K256 ⟨2, 1, 3, 1, [0, 0, 0, 0, 0, 0, 0, 0, 0, 0, 0, 0, 0, 0, 0, 0, 0, 0, 0, 0, 0, 0, 0, 0, 0, 0, 0, 0, 0, 0, 0, 0], 2, [0, 0, 0, 0, 0, 0, 0, 0, 0, 0, 0, 0, 0, 0, 0, 0, 0, 0, 0, 0, 0, 0, 0, 0, 0, 0, 0, 0, 0, 0, 0, 0], [0, 0, 0, 0, 0, 0, 0, 0, 0, 0, 0, 0, 0, 0, 0, 0, 0, 0, 0, 0, 0, 0, 0, 0, 0, 0, 0, 0, 0, 0, 0, 0]⟩
  generalize hTg : (⟨2, 1, 3, 1, [0, 0, 0, 0, 0, 0, 0, 0, 0, 0, 0, 0, 0, 0, 0, 0, 0, 0, 0, 0, 0, 0, 0, 0, 0, 0, 0, 0, 0, 0, 0, 0], 2, [0, 0, 0, 0, 0, 0, 0, 0, 0, 0, 0, 0, 0, 0, 0, 0, 0, 0, 0, 0, 0, 0, 0, 0, 0, 0, 0, 0, 0, 0, 0, 0], [0, 0, 0, 0, 0, 0, 0, 0, 0, 0, 0, 0, 0, 0, 0, 0, 0, 0, 0, 0, 0, 0, 0, 0, 0, 0, 0, 0, 0, 0, 0, 0]⟩ : AttS).tag K256 = T at *
  have al : (⟨2, 1, 3, 1, [0, 0, 0, 0, 0, 0, 0, 0, 0, 0, 0, 0, 0, 0, 0, 0, 0, 0, 0, 0, 0, 0, 0, 0, 0, 0, 0, 0, 0, 0, 0, 0], 2, [0, 0, 0, 0, 0, 0, 0, 0, 0, 0, 0, 0, 0, 0, 0, 0, 0, 0, 0, 0, 0, 0, 0, 0, 0, 0, 0, 0, 0, 0, 0, 0], T⟩ : AttS).alike ⟨3, 1, 3, 1, [0, 0, 0, 0, 0, 0, 0, 0, 0, 0, 0, 0, 0, 0, 0, 0, 0, 0, 0, 0, 0, 0, 0, 0, 0, 0, 0, 0, 0, 0, 0, 0], 2, [0, 0, 0, 0, 0, 0, 0, 0, 0, 0, 0, 0, 0, 0, 0, 0, 0, 0, 0, 0, 0, 0, 0, 0, 0, 0, 0, 0, 0, 0, 0, 0], T⟩ = true := rfl
  have w0 : (⟨2, 1, 3, 1, [0, 0, 0, 0, 0, 0, 0, 0, 0, 0, 0, 0, 0, 0, 0, 0, 0, 0, 0, 0, 0, 0, 0, 0, 0, 0, 0, 0, 0, 0, 0, 0], 2, [0, 0, 0, 0, 0, 0, 0, 0, 0, 0, 0, 0, 0, 0, 0, 0, 0, 0, 0, 0, 0, 0, 0, 0, 0, 0, 0, 0, 0, 0, 0, 0], [0, 0, 0, 0, 0, 0, 0, 0, 0, 0, 0, 0, 0, 0, 0, 0, 0, 0, 0, 0, 0, 0, 0, 0, 0, 0, 0, 0, 0, 0, 0, 0]⟩ : AttS).wf := ⟨by decide, by decide, by decide, by decide, by decide, h32_zero, h32_zero, h32_zero⟩
  have w1 : (⟨2, 1, 3, 1, [0, 0, 0, 0, 0, 0, 0, 0, 0, 0, 0, 0, 0, 0, 0, 0, 0, 0, 0, 0, 0, 0, 0, 0, 0, 0, 0, 0, 0, 0, 0, 0], 2, [0, 0, 0, 0, 0, 0, 0, 0, 0, 0, 0, 0, 0, 0, 0, 0, 0, 0, 0, 0, 0, 0, 0, 0, 0, 0, 0, 0, 0, 0, 0, 0], T⟩ : AttS).wf := ⟨(show I64 2 by decide), (show I64 1 by decide), (show I64 3 by decide), (show I64 1 by decide), (show I64 2 by decide), h32_zero, h32_zero, hT⟩
  have w2 : (⟨3, 1, 3, 1, [0, 0, 0, 0, 0, 0, 0, 0, 0, 0, 0, 0, 0, 0, 0, 0, 0, 0, 0, 0, 0, 0, 0, 0, 0, 0, 0, 0, 0, 0, 0, 0], 2, [0, 0, 0, 0, 0, 0, 0, 0, 0, 0, 0, 0, 0, 0, 0, 0, 0, 0, 0, 0, 0, 0, 0, 0, 0, 0, 0, 0, 0, 0, 0, 0], T⟩ : AttS).wf := ⟨(show I64 3 by decide), (show I64 1 by decide), (show I64 3 by decide), (show I64 1 by decide), (show I64 2 by decide), h32_zero, h32_zero, hT⟩
  simp (maxSteps := 1000000) (implicitDefEqProofs := false) only [pf16, h10, SSi_eq, hs, v_mk, h12, SRi_eq, r1, r2, h14, SAl_eq, al, go_sem, ↓reduceIte, decide_eq_true_eq, decide_eq_false_iff_not, ge_iff_le, gt_iff_lt, Int.not_le, Int.not_lt, Bool.not_eq_true', Bool.not_eq_false', Bool.and_eq_true, Bool.and_eq_false_iff]
  exact ⟨w0, w1, w2, h⟩
theorem walk3 {a1 a2 a3 a4 a6 : Int} {a5 a7 a8 : List Int} {b1 b2 b3 b4 b6 : Int} {b5 b7 b8 : List Int} {kt : List Int} (h9 : Abs.look l 9 = some SMy) (h10 : Abs.look l 10 = some (SSi kt)) (h11 : Abs.look l 11 = some SCk) (h12 : Abs.look l 12 = some (SRi kt)) (h13 : Abs.look l 13 = some (SRi kt)) (h14 : Abs.look l 14 = some SAl) (h15 : Abs.look l 15 = some SAl) (h16 : Abs.look l 16 = some SAw) (h17 : Abs.look l 17 = some (SSr kt))
    (hw : ((⟨a1, a2, a3, a4, a5, a6, a7, a8⟩ : AttS)).wf) (hw2 : ((⟨b1, b2, b3, b4, b5, b6, b7, b8⟩ : AttS)).wf) (h : Q (.v (.bool true)) G) : Wf E (specOf l) pf3 [.agg [.int .i64 a1, .int .i64 a2, .int .i64 a3, .int .i64 a4, .arr .u8 32 a5, .int .i64 a6, .arr .u8 32 a7, .arr .u8 32 a8], .agg [.int .i64 b1, .int .i64 b2, .int .i64 b3, .int .i64 b4, .arr .u8 32 b5, .int .i64 b6, .arr .u8 32 b7, .arr .u8 32 b8]] G Q := by
  by_cases hm : ((⟨a1, a2, a3, a4, a5, a6, a7, a8⟩ : AttS)).May
  · have hmay : ((⟨a1, a2, a3, a4, a5, a6, a7, a8⟩ : AttS)).may = true := decide_eq_true hm
    have hs : ((⟨a1, a2, a3, a4, a5, a6, a7, a8⟩ : AttS)).sign kt = ⟨a1, a2, a3, a4, a5, a6, a7, ((⟨a1, a2, a3, a4, a5, a6, a7, a8⟩ : AttS)).tag kt⟩ := by unfold AttS.sign; rw [if_pos hmay]; rfl
    have hs2 : ((⟨a1, a2, a3, a4, a5, a6, a7, a8⟩ : AttS)).signed kt = ⟨a1, a2, a3, a4, a5, a6, a7, ((⟨a1, a2, a3, a4, a5, a6, a7, a8⟩ : AttS)).tag kt⟩ := rfl
    have hT := h32_tag kt ((⟨a1, a2, a3, a4, a5, a6, a7, a8⟩ : AttS))
    have hr : (⟨a1, a2, a3, a4, a5, a6, a7, ((⟨a1, a2, a3, a4, a5, a6, a7, a8⟩ : AttS)).tag kt⟩ : AttS).right kt = true := by
      have e1 : (⟨a1, a2, a3, a4, a5, a6, a7, ((⟨a1, a2, a3, a4, a5, a6, a7, a8⟩ : AttS)).tag kt⟩ : AttS).may = ((⟨a1, a2, a3, a4, a5, a6, a7, a8⟩ : AttS)).may := rfl
      have e2 : (⟨a1, a2, a3, a4, a5, a6, a7, ((⟨a1, a2, a3, a4, a5, a6, a7, a8⟩ : AttS)).tag kt⟩ : AttS).tag kt = ((⟨a1, a2, a3, a4, a5, a6, a7, a8⟩ : AttS)).tag kt := rfl
      unfold AttS.right; rw [e1, hmay, e2]; simp
    have hal : (⟨a1, a2, a3, a4, a5, a6, a7, ((⟨a1, a2, a3, a4, a5, a6, a7, a8⟩ : AttS)).tag kt⟩ : AttS).alike ((⟨a1, a2, a3, a4, a5, a6, a7, a8⟩ : AttS)) = true := by unfold AttS.alike; simp
    have w1 : (⟨a1, a2, a3, a4, a5, a6, a7, ((⟨a1, a2, a3, a4, a5, a6, a7, a8⟩ : AttS)).tag kt⟩ : AttS).wf := AttS.signed_wf hw
    generalize hTg : ((⟨a1, a2, a3, a4, a5, a6, a7, a8⟩ : AttS)).tag kt = T at *
    have hee : (T == T) = true := by simp
    have he5 : (a5 == a5) = true := by simp
    have he7 : (a7 == a7) = true := by simp
    simp (maxSteps := 1000000) (implicitDefEqProofs := false) only [pf3, h9, SMy_eq, hmay, h10, SSi_eq, hs, hs2, v_mk, h11, SCk_eq, h12, SRi_eq, h13, h14, h15, SAl_eq, h16, SAw_eq, h17, SSr_eq, hr, hal, hee, he5, he7, beq_self_eq_true, go_sem, ↓reduceIte, decide_eq_true_eq, decide_eq_false_iff_not, ge_iff_le, gt_iff_lt, Int.not_le, Int.not_lt, Bool.not_eq_true', Bool.not_eq_false', Bool.and_eq_true, Bool.and_eq_false_iff]
    exact ⟨hw, hw, hw, hw, hw, ⟨hw, hm⟩, w1, h⟩
  · have hmay : ((⟨a1, a2, a3, a4, a5, a6, a7, a8⟩ : AttS)).may = false := decide_eq_false hm
    have hs : ((⟨a1, a2, a3, a4, a5, a6, a7, a8⟩ : AttS)).sign kt = ⟨0, 0, 0, 0, [0, 0, 0, 0, 0, 0, 0, 0, 0, 0, 0, 0, 0, 0, 0, 0, 0, 0, 0, 0, 0, 0, 0, 0, 0, 0, 0, 0, 0, 0, 0, 0], 0, [0, 0, 0, 0, 0, 0, 0, 0, 0, 0, 0, 0, 0, 0, 0, 0, 0, 0, 0, 0, 0, 0, 0, 0, 0, 0, 0, 0, 0, 0, 0, 0], [0, 0, 0, 0, 0, 0, 0, 0, 0, 0, 0, 0, 0, 0, 0, 0, 0, 0, 0, 0, 0, 0, 0, 0, 0, 0, 0, 0, 0, 0, 0, 0]⟩ := by unfold AttS.sign; rw [if_neg (by rw [hmay]; exact Bool.false_ne_true)]; rfl
    have hr : (⟨0, 0, 0, 0, [0, 0, 0, 0, 0, 0, 0, 0, 0, 0, 0, 0, 0, 0, 0, 0, 0, 0, 0, 0, 0, 0, 0, 0, 0, 0, 0, 0, 0, 0, 0, 0], 0, [0, 0, 0, 0, 0, 0, 0, 0, 0, 0, 0, 0, 0, 0, 0, 0, 0, 0, 0, 0, 0, 0, 0, 0, 0, 0, 0, 0, 0, 0, 0, 0], [0, 0, 0, 0, 0, 0, 0, 0, 0, 0, 0, 0, 0, 0, 0, 0, 0, 0, 0, 0, 0, 0, 0, 0, 0, 0, 0, 0, 0, 0, 0, 0]⟩ : AttS).right kt = false := by
      have e1 : (⟨0, 0, 0, 0, [0, 0, 0, 0, 0, 0, 0, 0, 0, 0, 0, 0, 0, 0, 0, 0, 0, 0, 0, 0, 0, 0, 0, 0, 0, 0, 0, 0, 0, 0, 0, 0], 0, [0, 0, 0, 0, 0, 0, 0, 0, 0, 0, 0, 0, 0, 0, 0, 0, 0, 0, 0, 0, 0, 0, 0, 0, 0, 0, 0, 0, 0, 0, 0, 0], [0, 0, 0, 0, 0, 0, 0, 0, 0, 0, 0, 0, 0, 0, 0, 0, 0, 0, 0, 0, 0, 0, 0, 0, 0, 0, 0, 0, 0, 0, 0, 0]⟩ : AttS).may = false := by decide
      unfold AttS.right; rw [e1, Bool.false_and]
    have w1 : (⟨0, 0, 0, 0, [0, 0, 0, 0, 0, 0, 0, 0, 0, 0, 0, 0, 0, 0, 0, 0, 0, 0, 0, 0, 0, 0, 0, 0, 0, 0, 0, 0, 0, 0, 0, 0], 0, [0, 0, 0, 0, 0, 0, 0, 0, 0, 0, 0, 0, 0, 0, 0, 0, 0, 0, 0, 0, 0, 0, 0, 0, 0, 0, 0, 0, 0, 0, 0, 0], [0, 0, 0, 0, 0, 0, 0, 0, 0, 0, 0, 0, 0, 0, 0, 0, 0, 0, 0, 0, 0, 0, 0, 0, 0, 0, 0, 0, 0, 0, 0, 0]⟩ : AttS).wf := AttS.zero_wf
    have hzz : ([0, 0, 0, 0, 0, 0, 0, 0, 0, 0, 0, 0, 0, 0, 0, 0, 0, 0, 0, 0, 0, 0, 0, 0, 0, 0, 0, 0, 0, 0, 0, 0] == [0, 0, 0, 0, 0, 0, 0, 0, 0, 0, 0, 0, 0, 0, 0, 0, 0, 0, 0, 0, 0, 0, 0, 0, 0, 0, 0, 0, 0, 0, 0, 0]) = true := by decide
    simp (maxSteps := 1000000) (implicitDefEqProofs := false) only [pf3, h9, SMy_eq, hmay, h10, SSi_eq, hs, v_mk, h11, SCk_eq, h12, SRi_eq, h13, h14, h15, SAl_eq, h16, SAw_eq, hr, hzz, beq_self_eq_true, go_sem, ↓reduceIte, decide_eq_true_eq, decide_eq_false_iff_not, ge_iff_le, gt_iff_lt, Int.not_le, Int.not_lt, Bool.not_eq_true', Bool.not_eq_false', Bool.and_eq_true, Bool.and_eq_false_iff]
    exact ⟨hw, hw, hw, hw, hw, w1, h⟩
theorem walk4 {a1 a2 a3 a4 a6 : Int} {a5 a7 a8 : List Int} {b1 b2 b3 b4 b6 : Int} {b5 b7 b8 : List Int} {c1 c2 c3 c4 c6 : Int} {c5 c7 c8 : List Int} {by_ : Int} {tag : List Int} (h14 : Abs.look l 14 = some SAl) (h16 : Abs.look l 16 = some SAw)
    (h : Q (.v (.bool true)) G) : Wf E (specOf l) pf4 [.agg [.agg [.int .i64 a1, .int .i64 a2, .int .i64 a3, .int .i64 a4, .arr .u8 32 a5, .int .i64 a6, .arr .u8 32 a7, .arr .u8 32 a8], .agg [.int .i64 b1, .int .i64 b2, .int .i64 b3, .int .i64 b4, .arr .u8 32 b5, .int .i64 b6, .arr .u8 32 b7, .arr .u8 32 b8], .agg [.int .i64 c1, .int .i64 c2, .int .i64 c3, .int .i64 c4, .arr .u8 32 c5, .int .i64 c6, .arr .u8 32 c7, .arr .u8 32 c8]], .int .i64 by_, .arr .u8 32 tag] G Q := by
  have hself : ((⟨a1, a2, a3, a4, a5, a6, a7, a8⟩ : AttS)).alike ⟨by_, a2, a3, a4, a5, a6, a7, tag⟩ = true := by unfold AttS.alike; simp
  have hsym : ((⟨b1, b2, b3, b4, b5, b6, b7, b8⟩ : AttS)).alike ((⟨a1, a2, a3, a4, a5, a6, a7, a8⟩ : AttS)) = ((⟨a1, a2, a3, a4, a5, a6, a7, a8⟩ : AttS)).alike ((⟨b1, b2, b3, b4, b5, b6, b7, b8⟩ : AttS)) := by
    unfold AttS.alike; rw [decide_eq_decide]; dsimp only
    constructor <;> (rintro ⟨h1, h2, h3, h4, h5, h6⟩; exact ⟨h1.symm, h2.symm, h3.symm, h4.symm, h5.symm, h6.symm⟩)
  have htr : ((⟨a1, a2, a3, a4, a5, a6, a7, a8⟩ : AttS)).alike ((⟨b1, b2, b3, b4, b5, b6, b7, b8⟩ : AttS)) = true → ((⟨b1, b2, b3, b4, b5, b6, b7, b8⟩ : AttS)).alike ((⟨c1, c2, c3, c4, c5, c6, c7, c8⟩ : AttS)) = true → ((⟨a1, a2, a3, a4, a5, a6, a7, a8⟩ : AttS)).alike ((⟨c1, c2, c3, c4, c5, c6, c7, c8⟩ : AttS)) = true := by
    unfold AttS.alike; rw [decide_eq_true_eq, decide_eq_true_eq, decide_eq_true_eq]; dsimp only
    rintro ⟨h1, h2, h3, h4, h5, h6⟩ ⟨g1, g2, g3, g4, g5, g6⟩
    exact ⟨h1.trans g1, h2.trans g2, h3.trans g3, h4.trans g4, h5.trans g5, h6.trans g6⟩
  have hsz : ∀ x ∈ [.agg [.int .i64 a1, .int .i64 a2, .int .i64 a3, .int .i64 a4, .arr .u8 32 a5, .int .i64 a6, .arr .u8 32 a7, .arr .u8 32 a8], .agg [.int .i64 b1, .int .i64 b2, .int .i64 b3, .int .i64 b4, .arr .u8 32 b5, .int .i64 b6, .arr .u8 32 b7, .arr .u8 32 b8], .agg [.int .i64 c1, .int .i64 c2, .int .i64 c3, .int .i64 c4, .arr .u8 32 c5, .int .i64 c6, .arr .u8 32 c7, .arr .u8 32 c8]], V.size x = 101 := by
    intro x hx
    simp only [List.mem_cons, List.not_mem_nil, or_false] at hx
    rcases hx with rfl | rfl | rfl <;> rfl
  cases e1 : ((⟨a1, a2, a3, a4, a5, a6, a7, a8⟩ : AttS)).alike ((⟨b1, b2, b3, b4, b5, b6, b7, b8⟩ : AttS)) with
  | false =>
    simp (maxSteps := 1000000) (implicitDefEqProofs := false) only [pf4, h14, SAl_eq, hself, hsym, e1, h16, SAw_eq, go_sem, ↓reduceIte, decide_eq_true_eq, decide_eq_false_iff_not, ge_iff_le, gt_iff_lt, Int.not_le, Int.not_lt, Bool.not_eq_true', Bool.not_eq_false', Bool.and_eq_true, Bool.and_eq_false_iff]
    exact ⟨hsz, hsz, hsz, h⟩
  | true =>
    cases e2 : ((⟨b1, b2, b3, b4, b5, b6, b7, b8⟩ : AttS)).alike ((⟨c1, c2, c3, c4, c5, c6, c7, c8⟩ : AttS)) with
    | false =>
      simp (maxSteps := 1000000) (implicitDefEqProofs := false) only [pf4, h14, SAl_eq, hself, hsym, e1, e2, h16, SAw_eq, go_sem, ↓reduceIte, decide_eq_true_eq, decide_eq_false_iff_not, ge_iff_le, gt_iff_lt, Int.not_le, Int.not_lt, Bool.not_eq_true', Bool.not_eq_false', Bool.and_eq_true, Bool.and_eq_false_iff]
      exact ⟨hsz, hsz, hsz, h⟩
    | true =>
      have e3 := htr e1 e2
      simp (maxSteps := 1000000) (implicitDefEqProofs := false) only [pf4, h14, SAl_eq, hself, hsym, e1, e2, e3, h16, SAw_eq, go_sem, ↓reduceIte, decide_eq_true_eq, decide_eq_false_iff_not, ge_iff_le, gt_iff_lt, Int.not_le, Int.not_lt, Bool.not_eq_true', Bool.not_eq_false', Bool.and_eq_true, Bool.and_eq_false_iff]
      exact ⟨hsz, hsz, hsz, h⟩
end Go.Proofs.YtpedaeaikbmbnaaDoor.Sha
