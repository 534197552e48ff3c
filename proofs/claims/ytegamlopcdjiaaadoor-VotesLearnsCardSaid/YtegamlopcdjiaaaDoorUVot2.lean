/- Votes: what is known, the law. -/
import Derived.Test.YtegamlopcdjiaaaDoorUVot1
namespace Go.Proofs.YtegamlopcdjiaaaDoor.Sha
open Go Go.Abs Go.Abs.Sha Go.Abs.Srt
set_option linter.unusedSimpArgs false
set_option linter.unusedVariables false
set_option maxRecDepth 100000
def pf63 : PF :=
  PF.mk 1 6 22 ((PC.reg [nn (.v 2) (.alloc (.agg [.agg [.int .i64 0, .int .i64 0, .int .i64 0, .int .i64 0, .arr .u8 32 [0, 0, 0, 0, 0, 0, 0, 0, 0, 0, 0,
    0, 0, 0, 0, 0, 0, 0, 0, 0, 0, 0, 0, 0, 0, 0, 0, 0, 0, 0, 0, 0], .int .i64 0, .arr .u8 32 [0, 0, 0, 0, 0, 0, 0, 0, 0, 0, 0, 0, 0, 0, 0, 0, 0, 0, 0, 0,
    0, 0, 0, 0, 0, 0, 0, 0, 0, 0, 0, 0], .arr .u8 32 [0, 0, 0, 0, 0, 0, 0, 0, 0, 0, 0, 0, 0, 0, 0, 0, 0, 0, 0, 0, 0, 0, 0, 0, 0, 0, 0, 0, 0, 0, 0, 0]],
    .nils]))]).seq ((PC.reg [mm 7 0, nn (.t 8) (.build (.arr .u8 32 [0, 0, 0, 0, 0, 0, 0, 0, 0, 0, 0, 0, 0, 0, 0, 0, 0, 0, 0, 0, 0, 0, 0, 0, 0, 0, 0, 0,
    0, 0, 0, 0]) [(0, .c (.v (.int .u8 7)))]), nn (.t 9) (.build (.agg [.int .i64 0, .int .i64 0, .int .i64 0, .int .i64 0, .arr .u8 32 [0, 0, 0, 0, 0,
    0, 0, 0, 0, 0, 0, 0, 0, 0, 0, 0, 0, 0, 0, 0, 0, 0, 0, 0, 0, 0, 0, 0, 0, 0, 0, 0], .int .i64 0, .arr .u8 32 [0, 0, 0, 0, 0, 0, 0, 0, 0, 0, 0, 0, 0, 0,
    0, 0, 0, 0, 0, 0, 0, 0, 0, 0, 0, 0, 0, 0, 0, 0, 0, 0], .arr .u8 32 [0, 0, 0, 0, 0, 0, 0, 0, 0, 0, 0, 0, 0, 0, 0, 0, 0, 0, 0, 0, 0, 0, 0, 0, 0, 0, 0,
    0, 0, 0, 0, 0]]) [(0, .c (.v (.int .i64 1))), (1, .c (.v (.int .i64 2))), (2, .t 7), (3, .c (.v (.int .i64 2))), (4, .t 8)]), nn (.v 3) (.alloc (.agg
    [.int .i64 0, .int .i64 0, .int .i64 0, .int .i64 0, .arr .u8 32 [0, 0, 0, 0, 0, 0, 0, 0, 0, 0, 0, 0, 0, 0, 0, 0, 0, 0, 0, 0, 0, 0, 0, 0, 0, 0, 0, 0,
    0, 0, 0, 0], .int .i64 0, .arr .u8 32 [0, 0, 0, 0, 0, 0, 0, 0, 0, 0, 0, 0, 0, 0, 0, 0, 0, 0, 0, 0, 0, 0, 0, 0, 0, 0, 0, 0, 0, 0, 0, 0], .arr .u8 32
    [0, 0, 0, 0, 0, 0, 0, 0, 0, 0, 0, 0, 0, 0, 0, 0, 0, 0, 0, 0, 0, 0, 0, 0, 0, 0, 0, 0, 0, 0, 0, 0]])), nn .no (.store 101 (.v 3) (.t 9))]).seq ((PC.reg
    [nn (.t 10) (.load 101 true (.v 3)), nn (.v 4) (.alloc (.agg [.int .i64 0, .int .i64 0, .int .i64 0, .int .i64 0, .arr .u8 32 [0, 0, 0, 0, 0, 0, 0,
    0, 0, 0, 0, 0, 0, 0, 0, 0, 0, 0, 0, 0, 0, 0, 0, 0, 0, 0, 0, 0, 0, 0, 0, 0], .int .i64 0, .arr .u8 32 [0, 0, 0, 0, 0, 0, 0, 0, 0, 0, 0, 0, 0, 0, 0, 0,
    0, 0, 0, 0, 0, 0, 0, 0, 0, 0, 0, 0, 0, 0, 0, 0], .arr .u8 32 [0, 0, 0, 0, 0, 0, 0, 0, 0, 0, 0, 0, 0, 0, 0, 0, 0, 0, 0, 0, 0, 0, 0, 0, 0, 0, 0, 0, 0,
    0, 0, 0]])), nn .no (.store 101 (.v 4) (.t 10))]).seq ((PC.reg [nn (.t 11) (.fadr 0 0 (.v 4)), nn .no (.store 1 (.t 11) (.c (.v (.int .i64
    2))))]).seq ((PC.regD 1 [nn (.t 13) (.load 101 true (.v 3)), nn (.t 14) (.call 43 [.t 13]), nn (.t 15) (.load 101 true (.v 4)), nn (.t 16) (.call 43
    [.t 15]), nn (.t 17) (.buildS none 101 (.agg [.int .i64 0, .int .i64 0, .int .i64 0, .int .i64 0, .arr .u8 32 [0, 0, 0, 0, 0, 0, 0, 0, 0, 0, 0, 0, 0,
    0, 0, 0, 0, 0, 0, 0, 0, 0, 0, 0, 0, 0, 0, 0, 0, 0, 0, 0], .int .i64 0, .arr .u8 32 [0, 0, 0, 0, 0, 0, 0, 0, 0, 0, 0, 0, 0, 0, 0, 0, 0, 0, 0, 0, 0, 0,
    0, 0, 0, 0, 0, 0, 0, 0, 0, 0], .arr .u8 32 [0, 0, 0, 0, 0, 0, 0, 0, 0, 0, 0, 0, 0, 0, 0, 0, 0, 0, 0, 0, 0, 0, 0, 0, 0, 0, 0, 0, 0, 0, 0, 0]]) 2 [(0,
    .t 14), (1, .t 16)]), nn (.t 18) (.call 51 [.c (.v (.int .i64 3)), .t 17]), nn (.t 12) (.mv false (.t 18)), nn (.t 19) (.ext (.t 12) 0), nn (.t 20)
    (.ext (.t 12) 1), nn (.v 5) (.allocAt 1 (.agg [.agg [.int .i64 0, .int .i64 0, .int .i64 0, .int .i64 0, .arr .u8 32 [0, 0, 0, 0, 0, 0, 0, 0, 0, 0,
    0, 0, 0, 0, 0, 0, 0, 0, 0, 0, 0, 0, 0, 0, 0, 0, 0, 0, 0, 0, 0, 0], .int .i64 0, .arr .u8 32 [0, 0, 0, 0, 0, 0, 0, 0, 0, 0, 0, 0, 0, 0, 0, 0, 0, 0, 0,
    0, 0, 0, 0, 0, 0, 0, 0, 0, 0, 0, 0, 0], .arr .u8 32 [0, 0, 0, 0, 0, 0, 0, 0, 0, 0, 0, 0, 0, 0, 0, 0, 0, 0, 0, 0, 0, 0, 0, 0, 0, 0, 0, 0, 0, 0, 0,
    0]], .nils])), nn .no (.store 102 (.v 5) (.t 19)), nn (.t 6) (.mv true (.t 20))] [(0, 9), (2, 9)]).seq ((PC.reg [nn (.t 21) (.load 102 true (.v 5)),
    nn .no (.store 102 (.v 2) (.t 21))]).seq PC.ret)))))) [(.v 2, some (102, true))]
def pf19 : PF :=
  PF.mk 0 8 50 ((PC.reg [nn (.v 0) (.mv true (.c (.v (.bool false))))]).seq ((PC.reg [nn (.t 10) (.build (.agg [.agg [.agg [.int .i64 0, .int .i64 0,
    .int .i64 0, .int .i64 0, .arr .u8 32 [0, 0, 0, 0, 0, 0, 0, 0, 0, 0, 0, 0, 0, 0, 0, 0, 0, 0, 0, 0, 0, 0, 0, 0, 0, 0, 0, 0, 0, 0, 0, 0], .int .i64 0,
    .arr .u8 32 [0, 0, 0, 0, 0, 0, 0, 0, 0, 0, 0, 0, 0, 0, 0, 0, 0, 0, 0, 0, 0, 0, 0, 0, 0, 0, 0, 0, 0, 0, 0, 0], .arr .u8 32 [0, 0, 0, 0, 0, 0, 0, 0, 0,
    0, 0, 0, 0, 0, 0, 0, 0, 0, 0, 0, 0, 0, 0, 0, 0, 0, 0, 0, 0, 0, 0, 0]], .nils], .agg [.agg [.int .i64 0, .int .i64 0, .int .i64 0, .int .i64 0, .arr
    .u8 32 [0, 0, 0, 0, 0, 0, 0, 0, 0, 0, 0, 0, 0, 0, 0, 0, 0, 0, 0, 0, 0, 0, 0, 0, 0, 0, 0, 0, 0, 0, 0, 0], .int .i64 0, .arr .u8 32 [0, 0, 0, 0, 0, 0,
    0, 0, 0, 0, 0, 0, 0, 0, 0, 0, 0, 0, 0, 0, 0, 0, 0, 0, 0, 0, 0, 0, 0, 0, 0, 0], .arr .u8 32 [0, 0, 0, 0, 0, 0, 0, 0, 0, 0, 0, 0, 0, 0, 0, 0, 0, 0, 0,
    0, 0, 0, 0, 0, 0, 0, 0, 0, 0, 0, 0, 0]], .nils]]) []), nn (.t 11) (.call 63 [.c (.v (.int .i64 3))]), nn (.t 12) (.call 20 [.c (.v (.int .i64 3)), .t
    10, .t 11]), nn (.t 9) (.mv false (.t 12)), nn (.t 13) (.ext (.t 9) 0), nn (.t 14) (.ext (.t 9) 1), nn (.v 1) (.alloc (.agg [.agg [.agg [.int .i64 0,
    .int .i64 0, .int .i64 0, .int .i64 0, .arr .u8 32 [0, 0, 0, 0, 0, 0, 0, 0, 0, 0, 0, 0, 0, 0, 0, 0, 0, 0, 0, 0, 0, 0, 0, 0, 0, 0, 0, 0, 0, 0, 0, 0],
    .int .i64 0, .arr .u8 32 [0, 0, 0, 0, 0, 0, 0, 0, 0, 0, 0, 0, 0, 0, 0, 0, 0, 0, 0, 0, 0, 0, 0, 0, 0, 0, 0, 0, 0, 0, 0, 0], .arr .u8 32 [0, 0, 0, 0,
    0, 0, 0, 0, 0, 0, 0, 0, 0, 0, 0, 0, 0, 0, 0, 0, 0, 0, 0, 0, 0, 0, 0, 0, 0, 0, 0, 0]], .nils], .agg [.agg [.int .i64 0, .int .i64 0, .int .i64 0, .int
    .i64 0, .arr .u8 32 [0, 0, 0, 0, 0, 0, 0, 0, 0, 0, 0, 0, 0, 0, 0, 0, 0, 0, 0, 0, 0, 0, 0, 0, 0, 0, 0, 0, 0, 0, 0, 0], .int .i64 0, .arr .u8 32 [0, 0,
    0, 0, 0, 0, 0, 0, 0, 0, 0, 0, 0, 0, 0, 0, 0, 0, 0, 0, 0, 0, 0, 0, 0, 0, 0, 0, 0, 0, 0, 0], .arr .u8 32 [0, 0, 0, 0, 0, 0, 0, 0, 0, 0, 0, 0, 0, 0, 0,
    0, 0, 0, 0, 0, 0, 0, 0, 0, 0, 0, 0, 0, 0, 0, 0, 0]], .nils]])), nn .no (.store 204 (.v 1) (.t 13)), ma 2 14]).seq ((PC.regD 1 [nn (.t 16) (.load 204
    true (.v 1)), nn (.t 17) (.call 63 [.c (.v (.int .i64 2))]), nn (.t 18) (.call 20 [.c (.v (.int .i64 3)), .t 16, .t 17]), nn (.t 15) (.mv false (.t
    18)), nn (.t 19) (.ext (.t 15) 0), nn (.t 20) (.ext (.t 15) 1), nn (.v 3) (.allocAt 1 (.agg [.agg [.agg [.int .i64 0, .int .i64 0, .int .i64 0, .int
    .i64 0, .arr .u8 32 [0, 0, 0, 0, 0, 0, 0, 0, 0, 0, 0, 0, 0, 0, 0, 0, 0, 0, 0, 0, 0, 0, 0, 0, 0, 0, 0, 0, 0, 0, 0, 0], .int .i64 0, .arr .u8 32 [0, 0,
    0, 0, 0, 0, 0, 0, 0, 0, 0, 0, 0, 0, 0, 0, 0, 0, 0, 0, 0, 0, 0, 0, 0, 0, 0, 0, 0, 0, 0, 0], .arr .u8 32 [0, 0, 0, 0, 0, 0, 0, 0, 0, 0, 0, 0, 0, 0, 0,
    0, 0, 0, 0, 0, 0, 0, 0, 0, 0, 0, 0, 0, 0, 0, 0, 0]], .nils], .agg [.agg [.int .i64 0, .int .i64 0, .int .i64 0, .int .i64 0, .arr .u8 32 [0, 0, 0, 0,
    0, 0, 0, 0, 0, 0, 0, 0, 0, 0, 0, 0, 0, 0, 0, 0, 0, 0, 0, 0, 0, 0, 0, 0, 0, 0, 0, 0], .int .i64 0, .arr .u8 32 [0, 0, 0, 0, 0, 0, 0, 0, 0, 0, 0, 0, 0,
    0, 0, 0, 0, 0, 0, 0, 0, 0, 0, 0, 0, 0, 0, 0, 0, 0, 0, 0], .arr .u8 32 [0, 0, 0, 0, 0, 0, 0, 0, 0, 0, 0, 0, 0, 0, 0, 0, 0, 0, 0, 0, 0, 0, 0, 0, 0, 0,
    0, 0, 0, 0, 0, 0]], .nils]])), nn .no (.store 204 (.v 3) (.t 19)), ma 4 20] [(0, 6)]).seq ((PC.reg [nn (.t 22) (.load 204 true (.v 1)), nn (.t 23)
    (.call 23 [.t 22]), nn (.t 21) (.mv false (.t 23)), nn (.t 24) (.ext (.t 21) 0), nn (.t 25) (.ext (.t 21) 1), nn (.v 6) (.alloc (.arr .u8 32 [0, 0,
    0, 0, 0, 0, 0, 0, 0, 0, 0, 0, 0, 0, 0, 0, 0, 0, 0, 0, 0, 0, 0, 0, 0, 0, 0, 0, 0, 0, 0, 0])), ma 5 24, nn .no (.store 32 (.v 6) (.t 25))]).seq
    ((PC.reg [nn (.t 27) (.load 204 true (.v 1)), nn (.t 28) (.call 24 [.t 27]), nn (.t 26) (.mv false (.t 28)), nn (.t 29) (.ext (.t 26) 0), nn (.t 30)
    (.ext (.t 26) 1), nn (.t 8) (.alloc (.arr .u8 32 [0, 0, 0, 0, 0, 0, 0, 0, 0, 0, 0, 0, 0, 0, 0, 0, 0, 0, 0, 0, 0, 0, 0, 0, 0, 0, 0, 0, 0, 0, 0, 0])),
    ma 7 29, nn .no (.store 32 (.t 8) (.t 30))]).seq ((PC.reg [mm 31 2, nn (.t 32) (.bin .eql (.t 31) (.c (.v (.int .i64 0)))), nn (.t 33) (.mv false (.t
    32)), gm 34 4 33 true, ⟨.t 35, .bin .eql (.t 34) (.c (.v (.int .i64 11))), some (.t 33, true)⟩, nn (.t 36) (.pick (.t 33) (.t 35) (.c (.v (.bool
    false)))), nn (.t 37) (.mv false (.t 36)), gm 38 5 37 true, ⟨.t 39, .bin .eql (.t 38) (.c (.v (.int .i64 3))), some (.t 37, true)⟩, nn (.t 40) (.pick
    (.t 37) (.t 39) (.c (.v (.bool false)))), nn (.t 41) (.mv false (.t 40)), ⟨.t 42, .load 32 true (.v 6), some (.t 41, true)⟩, ⟨.t 43, .build (.arr .u8
    32 [0, 0, 0, 0, 0, 0, 0, 0, 0, 0, 0, 0, 0, 0, 0, 0, 0, 0, 0, 0, 0, 0, 0, 0, 0, 0, 0, 0, 0, 0, 0, 0]) [(0, .c (.v (.int .u8 7)))], some (.t 41,
    true)⟩, ⟨.t 44, .eqa false (.arr 32) (.t 42) (.t 43), some (.t 41, true)⟩, nn (.t 45) (.pick (.t 41) (.t 44) (.c (.v (.bool false)))), nn (.t 46)
    (.mv false (.t 45)), gm 47 7 46 true, ⟨.t 48, .bin .eql (.t 47) (.c (.v (.int .i64 0))), some (.t 46, true)⟩, nn (.t 49) (.pick (.t 46) (.t 48) (.c
    (.v (.bool false)))), ma 0 49]).seq PC.ret)))))) [(.v 0, none)]
def pf6 : PF :=
  PF.mk 3 15 140 ((PC.reg [nn (.v 4) (.box (.v 1)), nn (.v 5) (.box (.v 2)), nn (.v 6) (.mv true (.c (.v (.bool false))))]).seq (((PC.reg [nn (.t 15)
    (.iadrG 2 204 (.v 4) (.c (.v (.int .i64 0)))), nn (.t 16) (.load 204 true (.t 15)), nn (.t 17) (.call 21 [.t 16]), nn (.t 18) (.un .not (.t 17)), nn
    (.t 19) (.mv false (.t 18)), ⟨.t 20, .iadrG 2 204 (.v 4) (.c (.v (.int .i64 1))), some (.t 19, false)⟩, ⟨.t 21, .load 204 true (.t 20), some (.t 19,
    false)⟩, ⟨.t 22, .call 21 [.t 21], some (.t 19, false)⟩, ⟨.t 23, .un .not (.t 22), some (.t 19, false)⟩, nn (.t 24) (.pick (.t 19) (.c (.v (.bool
    true))) (.t 23)), nn (.t 25) (.mv false (.t 24)), ⟨.t 26, .fadr 1 101 (.v 5), some (.t 25, false)⟩, ⟨.t 27, .load 1 false (.t 26), some (.t 25,
    false)⟩, ⟨.t 28, .len (.t 27), some (.t 25, false)⟩, ⟨.t 29, .bin .gtr (.t 28) (.c (.v (.int .i64 30))), some (.t 25, false)⟩, nn (.t 30) (.pick (.t
    25) (.c (.v (.bool true))) (.t 29))]).seq (PC.cond (.t 30) ((PC.reg [nn (.t 31) (.call 19 []), ma 6 31]).seq PC.ret) PC.skip)).seq ((PC.reg [mm 33 0,
    nn (.t 34) (.iadrG 2 204 (.v 4) (.c (.v (.int .i64 0)))), nn (.t 35) (.load 204 true (.t 34)), nn (.t 36) (.load 102 true (.v 5)), nn (.t 37) (.call
    20 [.t 33, .t 35, .t 36]), nn (.t 32) (.mv false (.t 37)), nn (.t 38) (.ext (.t 32) 0), nn (.t 39) (.ext (.t 32) 1), nn (.v 7) (.alloc (.agg [.agg
    [.agg [.int .i64 0, .int .i64 0, .int .i64 0, .int .i64 0, .arr .u8 32 [0, 0, 0, 0, 0, 0, 0, 0, 0, 0, 0, 0, 0, 0, 0, 0, 0, 0, 0, 0, 0, 0, 0, 0, 0, 0,
    0, 0, 0, 0, 0, 0], .int .i64 0, .arr .u8 32 [0, 0, 0, 0, 0, 0, 0, 0, 0, 0, 0, 0, 0, 0, 0, 0, 0, 0, 0, 0, 0, 0, 0, 0, 0, 0, 0, 0, 0, 0, 0, 0], .arr
    .u8 32 [0, 0, 0, 0, 0, 0, 0, 0, 0, 0, 0, 0, 0, 0, 0, 0, 0, 0, 0, 0, 0, 0, 0, 0, 0, 0, 0, 0, 0, 0, 0, 0]], .nils], .agg [.agg [.int .i64 0, .int .i64
    0, .int .i64 0, .int .i64 0, .arr .u8 32 [0, 0, 0, 0, 0, 0, 0, 0, 0, 0, 0, 0, 0, 0, 0, 0, 0, 0, 0, 0, 0, 0, 0, 0, 0, 0, 0, 0, 0, 0, 0, 0], .int .i64
    0, .arr .u8 32 [0, 0, 0, 0, 0, 0, 0, 0, 0, 0, 0, 0, 0, 0, 0, 0, 0, 0, 0, 0, 0, 0, 0, 0, 0, 0, 0, 0, 0, 0, 0, 0], .arr .u8 32 [0, 0, 0, 0, 0, 0, 0, 0,
    0, 0, 0, 0, 0, 0, 0, 0, 0, 0, 0, 0, 0, 0, 0, 0, 0, 0, 0, 0, 0, 0, 0, 0]], .nils]])), nn .no (.store 204 (.v 7) (.t 38)), ma 8 39]).seq ((PC.reg [mm
    41 0, nn (.t 42) (.iadrG 2 204 (.v 4) (.c (.v (.int .i64 0)))), nn (.t 43) (.load 204 true (.t 42)), nn (.t 44) (.load 102 true (.v 5)), nn (.t 45)
    (.call 22 [.t 41, .t 43, .t 44]), nn (.t 40) (.mv false (.t 45)), nn (.t 46) (.ext (.t 40) 0), nn (.t 47) (.ext (.t 40) 1), nn (.v 9) (.alloc (.agg
    [.agg [.agg [.int .i64 0, .int .i64 0, .int .i64 0, .int .i64 0, .arr .u8 32 [0, 0, 0, 0, 0, 0, 0, 0, 0, 0, 0, 0, 0, 0, 0, 0, 0, 0, 0, 0, 0, 0, 0, 0,
    0, 0, 0, 0, 0, 0, 0, 0], .int .i64 0, .arr .u8 32 [0, 0, 0, 0, 0, 0, 0, 0, 0, 0, 0, 0, 0, 0, 0, 0, 0, 0, 0, 0, 0, 0, 0, 0, 0, 0, 0, 0, 0, 0, 0, 0],
    .arr .u8 32 [0, 0, 0, 0, 0, 0, 0, 0, 0, 0, 0, 0, 0, 0, 0, 0, 0, 0, 0, 0, 0, 0, 0, 0, 0, 0, 0, 0, 0, 0, 0, 0]], .nils], .agg [.agg [.int .i64 0, .int
    .i64 0, .int .i64 0, .int .i64 0, .arr .u8 32 [0, 0, 0, 0, 0, 0, 0, 0, 0, 0, 0, 0, 0, 0, 0, 0, 0, 0, 0, 0, 0, 0, 0, 0, 0, 0, 0, 0, 0, 0, 0, 0], .int
    .i64 0, .arr .u8 32 [0, 0, 0, 0, 0, 0, 0, 0, 0, 0, 0, 0, 0, 0, 0, 0, 0, 0, 0, 0, 0, 0, 0, 0, 0, 0, 0, 0, 0, 0, 0, 0], .arr .u8 32 [0, 0, 0, 0, 0, 0,
    0, 0, 0, 0, 0, 0, 0, 0, 0, 0, 0, 0, 0, 0, 0, 0, 0, 0, 0, 0, 0, 0, 0, 0, 0, 0]], .nils]])), nn .no (.store 204 (.v 9) (.t 46)), ma 10 47]).seq
    ((PC.reg [nn (.t 49) (.iadrG 2 204 (.v 4) (.c (.v (.int .i64 0)))), nn (.t 50) (.load 204 true (.t 49)), nn (.t 51) (.call 23 [.t 50]), nn (.t 48)
    (.mv false (.t 51)), nn (.t 52) (.ext (.t 48) 0), nn (.t 53) (.ext (.t 48) 1), nn (.v 12) (.alloc (.arr .u8 32 [0, 0, 0, 0, 0, 0, 0, 0, 0, 0, 0, 0,
    0, 0, 0, 0, 0, 0, 0, 0, 0, 0, 0, 0, 0, 0, 0, 0, 0, 0, 0, 0])), ma 11 52, nn .no (.store 32 (.v 12) (.t 53))]).seq ((PC.reg [nn (.t 55) (.iadrG 2 204
    (.v 4) (.c (.v (.int .i64 0)))), nn (.t 56) (.load 204 true (.t 55)), nn (.t 57) (.call 24 [.t 56]), nn (.t 54) (.mv false (.t 57)), nn (.t 58) (.ext
    (.t 54) 0), nn (.t 59) (.ext (.t 54) 1), nn (.v 14) (.alloc (.arr .u8 32 [0, 0, 0, 0, 0, 0, 0, 0, 0, 0, 0, 0, 0, 0, 0, 0, 0, 0, 0, 0, 0, 0, 0, 0, 0,
    0, 0, 0, 0, 0, 0, 0])), ma 13 58, nn .no (.store 32 (.v 14) (.t 59))]).seq ((PC.regD 0 [mm 60 8, mm 61 10, nn (.t 62) (.bin .eql (.t 60) (.t 61)), nn
    (.t 63) (.mv false (.t 62)), ⟨.t 64, .load 204 true (.v 7), some (.t 63, true)⟩, ⟨.t 65, .load 204 true (.v 9), some (.t 63, true)⟩, ⟨.t 66, .call 25
    [.t 64, .t 65], some (.t 63, true)⟩, nn (.t 67) (.pick (.t 63) (.t 66) (.c (.v (.bool false)))), nn (.t 68) (.mv false (.t 67)), ⟨.t 69, .load 204
    true (.v 7), some (.t 68, true)⟩, ⟨.t 70, .load 204 true (.v 9), some (.t 68, true)⟩, ⟨.t 71, .call 26 [.t 69, .t 70], some (.t 68, true)⟩, nn (.t
    72) (.pick (.t 68) (.t 71) (.c (.v (.bool false)))), nn (.t 73) (.mv false (.t 72)), ⟨.t 74, .iadrG 2 204 (.v 4) (.c (.v (.int .i64 0))), some (.t
    73, true)⟩, ⟨.t 75, .load 204 true (.t 74), some (.t 73, true)⟩, ⟨.t 76, .iadrG 2 204 (.v 4) (.c (.v (.int .i64 1))), some (.t 73, true)⟩, ⟨.t 77,
    .load 204 true (.t 76), some (.t 73, true)⟩, ⟨.t 78, .call 25 [.t 75, .t 77], some (.t 73, true)⟩, ⟨.t 79, .iadrG 2 204 (.v 4) (.c (.v (.int .i64
    0))), some (.t 73, true)⟩, ⟨.t 80, .load 204 true (.t 79), some (.t 73, true)⟩, ⟨.t 81, .iadrG 2 204 (.v 4) (.c (.v (.int .i64 1))), some (.t 73,
    true)⟩, ⟨.t 82, .load 204 true (.t 81), some (.t 73, true)⟩, ⟨.t 83, .call 26 [.t 80, .t 82], some (.t 73, true)⟩, ⟨.t 84, .binB .eql (.t 78) (.t
    83), some (.t 73, true)⟩, nn (.t 85) (.pick (.t 73) (.t 84) (.c (.v (.bool false)))), nn (.t 86) (.mv false (.t 85)), gm 87 0 86 true, ⟨.t 88, .iadrG
    2 204 (.v 4) (.c (.v (.int .i64 0))), some (.t 86, true)⟩, ⟨.t 89, .load 204 true (.t 88), some (.t 86, true)⟩, ⟨.t 90, .iadrG 2 204 (.v 4) (.c (.v
    (.int .i64 1))), some (.t 86, true)⟩, ⟨.t 91, .load 204 true (.t 90), some (.t 86, true)⟩, ⟨.t 92, .call 27 [.t 87, .t 89, .t 91], some (.t 86,
    true)⟩, gm 93 0 86 true, ⟨.t 94, .iadrG 2 204 (.v 4) (.c (.v (.int .i64 0))), some (.t 86, true)⟩, ⟨.t 95, .load 204 true (.t 94), some (.t 86,
    true)⟩, ⟨.t 96, .iadrG 2 204 (.v 4) (.c (.v (.int .i64 1))), some (.t 86, true)⟩, ⟨.t 97, .load 204 true (.t 96), some (.t 86, true)⟩, ⟨.t 98, .call
    28 [.t 93, .t 95, .t 97], some (.t 86, true)⟩, ⟨.t 99, .call 26 [.t 92, .t 98], some (.t 86, true)⟩, nn (.t 100) (.pick (.t 86) (.t 99) (.c (.v
    (.bool false)))), nn (.t 101) (.mv false (.t 100)), gm 102 11 101 true, ⟨.t 103, .iadrG 2 204 (.v 4) (.c (.v (.int .i64 0))), some (.t 101, true)⟩,
    ⟨.t 104, .fadr 0 0 (.t 103), some (.t 101, true)⟩, ⟨.t 105, .fadr 0 0 (.t 104), some (.t 101, true)⟩, ⟨.t 106, .fadr 2 2 (.t 105), some (.t 101,
    true)⟩, ⟨.t 107, .load 1 false (.t 106), some (.t 101, true)⟩, ⟨.t 108, .bin .eql (.t 102) (.t 107), some (.t 101, true)⟩, nn (.t 109) (.pick (.t
    101) (.t 108) (.c (.v (.bool false)))), nn (.t 110) (.mv false (.t 109)), ⟨.t 111, .load 32 true (.v 12), some (.t 110, true)⟩, ⟨.t 112, .iadrG 2 204
    (.v 4) (.c (.v (.int .i64 0))), some (.t 110, true)⟩, ⟨.t 113, .fadr 0 0 (.t 112), some (.t 110, true)⟩, ⟨.t 114, .fadr 0 0 (.t 113), some (.t 110,
    true)⟩, ⟨.t 115, .fadr 4 4 (.t 114), some (.t 110, true)⟩, ⟨.t 116, .load 32 true (.t 115), some (.t 110, true)⟩, ⟨.t 117, .eqa false (.arr 32) (.t
    111) (.t 116), some (.t 110, true)⟩, nn (.t 118) (.pick (.t 110) (.t 117) (.c (.v (.bool false)))), nn (.t 119) (.mv false (.t 118)), gm 120 13 119
    true, ⟨.t 121, .iadrG 2 204 (.v 4) (.c (.v (.int .i64 0))), some (.t 119, true)⟩, ⟨.t 122, .fadr 1 102 (.t 121), some (.t 119, true)⟩, ⟨.t 123, .fadr
    0 0 (.t 122), some (.t 119, true)⟩, ⟨.t 124, .fadr 2 2 (.t 123), some (.t 119, true)⟩, ⟨.t 125, .load 1 false (.t 124), some (.t 119, true)⟩, ⟨.t
    126, .bin .eql (.t 120) (.t 125), some (.t 119, true)⟩, nn (.t 127) (.pick (.t 119) (.t 126) (.c (.v (.bool false)))), nn (.t 128) (.mv false (.t
    127)), ⟨.t 129, .load 32 true (.v 14), some (.t 128, true)⟩, ⟨.t 130, .iadrG 2 204 (.v 4) (.c (.v (.int .i64 0))), some (.t 128, true)⟩, ⟨.t 131,
    .fadr 1 102 (.t 130), some (.t 128, true)⟩, ⟨.t 132, .fadr 0 0 (.t 131), some (.t 128, true)⟩, ⟨.t 133, .fadr 4 4 (.t 132), some (.t 128, true)⟩, ⟨.t
    134, .load 32 true (.t 133), some (.t 128, true)⟩, ⟨.t 135, .eqa false (.arr 32) (.t 129) (.t 134), some (.t 128, true)⟩, nn (.t 136) (.pick (.t 128)
    (.t 135) (.c (.v (.bool false)))), nn (.t 137) (.mv false (.t 136)), ⟨.t 138, .call 19 [], some (.t 137, true)⟩, nn (.t 139) (.pick (.t 137) (.t 138)
    (.c (.v (.bool false)))), ma 6 139] []).seq PC.ret))))))) [(.v 6, none)]
attribute [local irreducible] W Wops WopsD WL Wop WopD
variable {E : Env} {C : Abs.Spec} {l : List (Nat × Spec1)} {G : List (Nat × V)} {Q : R → List (Nat × V) → Prop}
set_option maxHeartbeats 1000000
def attv (k v : Int) : AttS := ⟨k, 2, v, 2, [7, 0, 0, 0, 0, 0, 0, 0, 0, 0, 0, 0, 0, 0, 0, 0, 0, 0, 0, 0, 0, 0, 0, 0, 0, 0, 0, 0, 0, 0, 0, 0], 0, zero32, zero32⟩
def oneC (kt : List Int) (v : Int) : CertS := ⟨attv 0 v, [(1, (attv 1 v).tag kt), (2, (attv 2 v).tag kt)]⟩
theorem h32_seven : H32 [7, 0, 0, 0, 0, 0, 0, 0, 0, 0, 0, 0, 0, 0, 0, 0, 0, 0, 0, 0, 0, 0, 0, 0, 0, 0, 0, 0, 0, 0, 0, 0] := ⟨by unfold Byt; decide, rfl⟩
theorem mayv {v : Int} (hv : v = 2 ∨ v = 3) : (attv 1 v).may = true ∧ (attv 2 v).may = true := by rcases hv with rfl | rfl <;> exact ⟨by decide, by decide⟩
theorem on_cert {kt : List Int} {v : Int} (hv : v = 2 ∨ v = 3) : mkCert kt 3 [(attv 1 v).signed kt, (attv 2 v).signed kt] = (oneC kt v, 0) := by
  have q : quo 3 = 2 := by decide
  have q0 : ¬ (2 : Int) = 0 := by decide
  obtain ⟨m1, m2⟩ := mayv hv
  have c1 : ([(attv 1 v).signed kt, (attv 2 v).signed kt].any fun x => !(x.right kt) || decide (3 < x.who)) = false := by
    simp only [List.any_cons, List.any_nil, right_signed, m1, m2]; rfl
  have c2 : ([(attv 1 v).signed kt, (attv 2 v).signed kt].any fun x => !(x.alike ((attv 1 v).signed kt))) = false := by
    rcases hv with rfl | rfl <;> rfl
  have c3 : ¬ ((firstsA 3 [(attv 1 v).signed kt, (attv 2 v).signed kt]).length : Int) < 2 := by
    show ¬ ((2 : Nat) : Int) < 2
    decide
  unfold mkCert
  simp only [q, q0, c1, c2, c3, Bool.false_eq_true, ↓reduceIte]
  rfl
theorem one_right {kt : List Int} {v : Int} (hv : v = 2 ∨ v = 3) : CertS.right kt 3 (oneC kt v) = true := by
  have h := mk_right (kt := kt) (n := 3) (l := [(attv 1 v).signed kt, (attv 2 v).signed kt])
  rw [on_cert hv] at h
  exact h rfl
theorem attv_wf {k v : Int} (hk : I64 k) (hv : I64 v) : (attv k v).wf := ⟨hk, (by decide : I64 2), hv, (by decide : I64 2), (by decide : I64 0), h32_seven, h32_zero, h32_zero⟩
theorem i64_23 {v : Int} (hv : v = 2 ∨ v = 3) : I64 v := by rcases hv with rfl | rfl <;> decide
theorem one_wf {kt : List Int} {v : Int} (hv : v = 2 ∨ v = 3) : (oneC kt v).wf := by
  refine ⟨attv_wf (by decide) (i64_23 hv), fun p hp => ?_⟩
  unfold oneC at hp
  rcases List.mem_cons.1 hp with rfl | hp
  · exact ⟨(by decide : I64 1), h32_tag kt (attv 1 v)⟩
  · rw [List.mem_singleton] at hp; subst hp; exact ⟨(by decide : I64 2), h32_tag kt (attv 2 v)⟩
theorem cert_zero_wf : CertS.zero.wf := ⟨AttS.zero_wf, fun p hp => by cases hp⟩
theorem known_zero_wf : KnownS.zero.wf := ⟨cert_zero_wf, cert_zero_wf, by decide, by decide⟩
theorem learn_1 {kt : List Int} : learnK kt 3 .zero (oneC kt 3) = (⟨oneC kt 3, .zero⟩, 0) := by
  unfold learnK
  rw [if_neg (by rw [one_right (.inr rfl)]; decide)]
  rfl
theorem learn_2 {kt : List Int} : learnK kt 3 ⟨oneC kt 3, .zero⟩ (oneC kt 2) = (⟨oneC kt 3, .zero⟩, 11) := by
  unfold learnK
  rw [if_neg (by rw [one_right (.inl rfl)]; decide)]
  rfl
def ZOn (kt : List Int) : Spec1
  | [.int .i64 v], G, Q => (v = 2 ∨ v = 3) ∧ Q (.v (oneC kt v).v) G
  | _, _, _ => False
theorem ZOn_eq {kt v} : ZOn kt [.int .i64 v] G Q = ((v = 2 ∨ v = 3) ∧ Q (.v (oneC kt v).v) G) := rfl
def ZA3 : Spec1
  | [], G, Q => Q (.v (.bool true)) G
  | _, _, _ => False
theorem ZA3_eq : ZA3 [] G Q = Q (.v (.bool true)) G := rfl
theorem walk63 (hS : Abs.look l 43 = some (SSi K256)) (hM : Abs.look l 51 = some (ZMk K256)) {v : Int} (hv : v = 2 ∨ v = 3) (h : Q (.v (oneC K256 v).v) G) : Wf E (specOf l) pf63 [.int .i64 v] G Q := by
  obtain ⟨m1, m2⟩ := mayv hv
  have s1 : (AttS.sign K256 ⟨1, 2, v, 2, [7, 0, 0, 0, 0, 0, 0, 0, 0, 0, 0, 0, 0, 0, 0, 0, 0, 0, 0, 0, 0, 0, 0, 0, 0, 0, 0, 0, 0, 0, 0, 0], 0, [0, 0, 0, 0, 0, 0, 0, 0, 0, 0, 0, 0, 0, 0, 0, 0, 0, 0, 0, 0, 0, 0, 0, 0, 0, 0, 0, 0, 0, 0, 0, 0], [0, 0, 0, 0, 0, 0, 0, 0, 0, 0, 0, 0, 0, 0, 0, 0, 0, 0, 0, 0, 0, 0, 0, 0, 0, 0, 0, 0, 0, 0, 0, 0]⟩).v = .agg [.int .i64 1, .int .i64 2, .int .i64 v, .int .i64 2, .arr .u8 32 [7, 0, 0, 0, 0, 0, 0, 0, 0, 0, 0, 0, 0, 0, 0, 0, 0, 0, 0, 0, 0, 0, 0, 0, 0, 0, 0, 0, 0, 0, 0, 0], .int .i64 0, .arr .u8 32 [0, 0, 0, 0, 0, 0, 0, 0, 0, 0, 0, 0, 0, 0, 0, 0, 0, 0, 0, 0, 0, 0, 0, 0, 0, 0, 0, 0, 0, 0, 0, 0], .arr .u8 32 ((attv 1 v).tag K256)] := by
    show (AttS.sign K256 (attv 1 v)).v = _
    unfold AttS.sign; rw [if_pos m1]; rfl
  have s2 : (AttS.sign K256 ⟨2, 2, v, 2, [7, 0, 0, 0, 0, 0, 0, 0, 0, 0, 0, 0, 0, 0, 0, 0, 0, 0, 0, 0, 0, 0, 0, 0, 0, 0, 0, 0, 0, 0, 0, 0], 0, [0, 0, 0, 0, 0, 0, 0, 0, 0, 0, 0, 0, 0, 0, 0, 0, 0, 0, 0, 0, 0, 0, 0, 0, 0, 0, 0, 0, 0, 0, 0, 0], [0, 0, 0, 0, 0, 0, 0, 0, 0, 0, 0, 0, 0, 0, 0, 0, 0, 0, 0, 0, 0, 0, 0, 0, 0, 0, 0, 0, 0, 0, 0, 0]⟩).v = .agg [.int .i64 2, .int .i64 2, .int .i64 v, .int .i64 2, .arr .u8 32 [7, 0, 0, 0, 0, 0, 0, 0, 0, 0, 0, 0, 0, 0, 0, 0, 0, 0, 0, 0, 0, 0, 0, 0, 0, 0, 0, 0, 0, 0, 0, 0], .int .i64 0, .arr .u8 32 [0, 0, 0, 0, 0, 0, 0, 0, 0, 0, 0, 0, 0, 0, 0, 0, 0, 0, 0, 0, 0, 0, 0, 0, 0, 0, 0, 0, 0, 0, 0, 0], .arr .u8 32 ((attv 2 v).tag K256)] := by
    show (AttS.sign K256 (attv 2 v)).v = _
    unfold AttS.sign; rw [if_pos m2]; rfl
  simp (maxSteps := 1000000) (implicitDefEqProofs := false) only [pf63, hS, SSi_eq, go_sem, ↓reduceIte]
  refine ⟨attv_wf (by decide) (i64_23 hv), attv_wf (by decide) (i64_23 hv), ?_⟩
  simp (maxSteps := 1000000) (implicitDefEqProofs := false) only [s1, s2, hM, ZMk_eq, go_sem, ↓reduceIte]
  refine ⟨[(attv 1 v).signed K256, (attv 2 v).signed K256], ⟨rfl, by decide, fun a ha => ?_, by show (2 : Nat) ≤ 39; decide⟩, ?_⟩
  · rcases List.mem_cons.1 ha with rfl | ha
    · exact AttS.signed_wf (attv_wf (by decide) (i64_23 hv))
    · rw [List.mem_singleton] at ha; subst ha; exact AttS.signed_wf (attv_wf (by decide) (i64_23 hv))
  rw [on_cert hv]
  obtain ⟨q1, q2, q3⟩ := cert_v (c := oneC K256 v)
  unfold V.isAgg at q2
  generalize (oneC K256 v).v = cv at *
  simp (maxSteps := 1000000) (implicitDefEqProofs := false) only [q1, q2, q3, go_sem, ↓reduceIte]
  exact h
theorem walk19 (hO : Abs.look l 63 = some (ZOn K256)) (hL : Abs.look l 20 = some (ZLe K256)) (hP : Abs.look l 23 = some ZPr) (hT : Abs.look l 24 = some ZSt) (h : Q (.v (.bool true)) G) : Wf E (specOf l) pf19 [] G Q := by
  have hk1 : KnownS.wf ⟨oneC K256 3, .zero⟩ := ⟨one_wf (.inr rfl), cert_zero_wf, by show (2 : Nat) < _; decide, by decide⟩
  have w3 := one_wf (kt := K256) (v := 3) (.inr rfl)
  have w2 := one_wf (kt := K256) (v := 2) (.inl rfl)
  have l3 : (oneC K256 3).sigs.length < 1000000 := by show (2 : Nat) < _; decide
  have l2 : (oneC K256 2).sigs.length < 1000000 := by show (2 : Nat) < _; decide
  obtain ⟨q1, q2, q3⟩ := known_v (c := ⟨oneC K256 3, .zero⟩)
  unfold V.isAgg at q2
  simp (maxSteps := 1000000) (implicitDefEqProofs := false) only [pf19, hO, ZOn_eq, go_sem, ↓reduceIte]
  simp (maxSteps := 1000000) (implicitDefEqProofs := false) only [hL, ZLe_eq, go_sem, ↓reduceIte]
  refine ⟨.zero, oneC K256 3, ⟨known_zero_wk, rfl, known_zero_wf, w3, l3, by decide⟩, ?_⟩
  rw [learn_1]
  simp (maxSteps := 1000000) (implicitDefEqProofs := false) only [q1, q2, q3, hO, ZOn_eq, go_sem, ↓reduceIte]
  simp (maxSteps := 1000000) (implicitDefEqProofs := false) only [q1, q2, q3, hL, ZLe_eq, go_sem, ↓reduceIte]
  refine ⟨⟨oneC K256 3, .zero⟩, oneC K256 2, ⟨V.Wk.refl _, rfl, hk1, w2, l2, by decide⟩, ?_⟩
  rw [learn_2]
  simp (maxSteps := 1000000) (implicitDefEqProofs := false) only [q1, q2, q3, hP, ZPr_eq, go_sem, ↓reduceIte]
  refine ⟨⟨oneC K256 3, .zero⟩, V.Wk.refl _, ?_⟩
  simp (maxSteps := 1000000) (implicitDefEqProofs := false) only [q1, q2, q3, hT, ZSt_eq, go_sem, ↓reduceIte]
  refine ⟨⟨oneC K256 3, .zero⟩, V.Wk.refl _, ?_⟩
  have d1 : (⟨oneC K256 3, .zero⟩ : KnownS).p.att.vi = 3 := rfl
  have d2 : (⟨oneC K256 3, .zero⟩ : KnownS).p.att.ha = [7, 0, 0, 0, 0, 0, 0, 0, 0, 0, 0, 0, 0, 0, 0, 0, 0, 0, 0, 0, 0, 0, 0, 0, 0, 0, 0, 0, 0, 0, 0, 0] := rfl
  have d3 : (⟨oneC K256 3, .zero⟩ : KnownS).q.att.vi = 0 := rfl
  have d4 : ([7, 0, 0, 0, 0, 0, 0, 0, 0, 0, 0, 0, 0, 0, 0, 0, 0, 0, 0, 0, 0, 0, 0, 0, 0, 0, 0, 0, 0, 0, 0, 0] == [7, 0, 0, 0, 0, 0, 0, 0, 0, 0, 0, 0, 0, 0, 0, 0, 0, 0, 0, 0, 0, 0, 0, 0, 0, 0, 0, 0, 0, 0, 0, 0]) = true := by decide
  simp (maxSteps := 1000000) (implicitDefEqProofs := false) only [q1, q2, q3, go_sem, ↓reduceIte]
  exact ⟨fun _ => ⟨fun _ => h, fun e => absurd e (by decide)⟩, fun e => absurd rfl e⟩
theorem walk6 (hA : Abs.look l 19 = some ZA3) (hL : Abs.look l 20 = some (ZLe K256)) (hR : Abs.look l 22 = some (ZLe K256)) (hP : Abs.look l 23 = some ZPr) (hT : Abs.look l 24 = some ZSt) (hS : Abs.look l 25 = some ZSk) (hS2 : Abs.look l 26 = some ZSk) (hM : Abs.look l 27 = some (ZMe K256)) (hM2 : Abs.look l 28 = some (ZMe K256)) (hLi : Abs.look l 21 = some ZLi)
    {n : Int} {a b : KnownS} {c : CertS} (hI : I64 n) (ha : a.p.wf ∧ a.q.wf) (hb : b.p.wf ∧ b.q.wf) (hc : c.wf) (h : Q (.v (.bool true)) G) : Wf E (specOf l) pf6 [.int .i64 n, .agg [a.v, b.v], c.v] G Q := by
  obtain ⟨e1, e2, e3⟩ := known_v (c := a)
  obtain ⟨f1, f2, f3⟩ := known_v (c := b)
  obtain ⟨g1, g2⟩ := cert_v' (c := c)
  unfold V.isAgg at e2 f2 g2
  have ev : a.v = .agg [a.p.v, a.q.v] := rfl
  have cvv : c.v = .agg [c.att.v, .sle 33 (c.sigs.map sgV)] := rfl
  have cs : V.size c.att.v + 0 = 101 := rfl
  generalize hav : a.v = av at *
  generalize hbv : b.v = bv at *
  generalize hcv : c.v = cv at *
  simp (maxSteps := 1000000) (implicitDefEqProofs := false) only [pf6, e1, e2, f1, f2, Nat.add_zero, hLi, ZLi_eq, go_sem, ↓reduceIte]
  have hsz : ∀ x ∈ [av, bv], V.size x = 204 := fun x hx => by
    simp only [List.mem_cons, List.not_mem_nil, or_false] at hx
    rcases hx with rfl | rfl <;> assumption
  refine ⟨hsz, a, hav.symm, fun hc1 => ?_, fun hc1 => ?_⟩
  · simp (maxSteps := 1000000) (implicitDefEqProofs := false) only [hA, ZA3_eq, go_sem, ↓reduceIte]
    exact h
  refine ⟨hsz, b, hbv.symm, fun hc2 => ?_, fun hc2 => ?_⟩
  · simp (maxSteps := 1000000) (implicitDefEqProofs := false) only [hA, ZA3_eq, go_sem, ↓reduceIte]
    exact h
  rw [cvv]
  simp (maxSteps := 1000000) (implicitDefEqProofs := false) only [cs, List.length_map, go_sem, ↓reduceIte]
  refine ⟨fun hc3 => ?_, fun hc3 => ?_⟩
  · simp (maxSteps := 1000000) (implicitDefEqProofs := false) only [hA, ZA3_eq, go_sem, ↓reduceIte]
    exact h
  rw [← cvv]
  have haw : a.wf := ⟨ha.1, ha.2, by omega, by omega⟩
  have hbw : b.wf := ⟨hb.1, hb.2, by omega, by omega⟩
  have hcl : c.sigs.length < 1000000 := by omega
  have hrw := learn_wf (kt := K256) (n := n) haw hc hcl
  have wka : V.Wk av a.v := by rw [hav]; exact V.Wk.refl _
  refine ⟨hsz, ?_⟩
  simp (maxSteps := 1000000) (implicitDefEqProofs := false) only [e1, e2, g1, g2, hL, ZLe_eq, go_sem, ↓reduceIte]
  refine ⟨a, c, ⟨wka, hcv.symm, haw, hc, hcl, hI⟩, ?_⟩
  generalize hr : learnK K256 n a c = r at *
  obtain ⟨r, er⟩ := r
  obtain ⟨j1, j2, j3⟩ := known_v (c := r)
  unfold V.isAgg at j2
  dsimp only at hrw
  generalize hrv : r.v = rv at *
  simp (maxSteps := 1000000) (implicitDefEqProofs := false) only [j1, j2, j3, go_sem, ↓reduceIte]
  refine ⟨hsz, ?_⟩
  simp (maxSteps := 1000000) (implicitDefEqProofs := false) only [e1, e2, g1, g2, j1, j2, j3, hR, ZLe_eq, go_sem, ↓reduceIte]
  refine ⟨a, c, ⟨wka, hcv.symm, haw, hc, hcl, hI⟩, ?_⟩
  rw [hr]
  dsimp only
  rw [hrv]
  simp (maxSteps := 1000000) (implicitDefEqProofs := false) only [j1, j2, j3, go_sem, ↓reduceIte]
  refine ⟨hsz, ?_⟩
  simp (maxSteps := 1000000) (implicitDefEqProofs := false) only [e1, e2, hP, ZPr_eq, go_sem, ↓reduceIte]
  refine ⟨a, wka, hsz, ?_⟩
  simp (maxSteps := 1000000) (implicitDefEqProofs := false) only [e1, e2, hT, ZSt_eq, go_sem, ↓reduceIte]
  refine ⟨a, wka, ?_⟩
  simp (maxSteps := 1000000) (implicitDefEqProofs := false) only [j1, j2, j3, hS, hS2, ZSk_eq, go_sem, ↓reduceIte]
  refine ⟨r, r, ⟨hrv.symm, hrv.symm, hrw, hrw⟩, ?_⟩
  rw [sameK_self]
  simp (maxSteps := 1000000) (implicitDefEqProofs := false) only [j1, j2, j3, hS, hS2, ZSk_eq, go_sem, ↓reduceIte]
  refine ⟨r, r, ⟨hrv.symm, hrv.symm, hrw, hrw⟩, ?_⟩
  rw [sameK_self]
  simp (maxSteps := 1000000) (implicitDefEqProofs := false) only [e1, e2, f1, f2, j1, j2, j3, hS, hS2, ZSk_eq, go_sem, ↓reduceIte]
  refine ⟨hsz, hsz, a, b, ⟨hav.symm, hbv.symm, haw, hbw⟩, hsz, hsz, a, b, ⟨hav.symm, hbv.symm, haw, hbw⟩, fun _ => ?_, fun e => by simp at e⟩
  refine ⟨hsz, hsz, ?_⟩
  have hm1 := learn_wf (kt := K256) (n := n) haw hb.1 hbw.lp
  have hmw : (mergeK K256 n a b).wf := learn_wf (kt := K256) (n := n) hm1 hb.2 hbw.lq
  simp (maxSteps := 1000000) (implicitDefEqProofs := false) only [hM, ZMe_eq, go_sem, ↓reduceIte]
  refine ⟨a, b, ⟨hav.symm, hbv.symm, haw, hbw, hI⟩, hsz, hsz, ?_⟩
  simp (maxSteps := 1000000) (implicitDefEqProofs := false) only [hM2, ZMe_eq, go_sem, ↓reduceIte]
  refine ⟨a, b, ⟨hav.symm, hbv.symm, haw, hbw, hI⟩, ?_⟩
  simp (maxSteps := 1000000) (implicitDefEqProofs := false) only [hS2, ZSk_eq, go_sem, ↓reduceIte]
  refine ⟨mergeK K256 n a b, mergeK K256 n a b, ⟨rfl, rfl, hmw, hmw⟩, ?_⟩
  rw [sameK_self]
  simp (maxSteps := 1000000) (implicitDefEqProofs := false) only [go_sem, ↓reduceIte]
  refine ⟨hsz, ?_⟩
  have evv : av = .agg [.agg [.agg [.int .i64 a.p.att.who, .int .i64 a.p.att.ki, .int .i64 a.p.att.vi, .int .i64 a.p.att.ph, .arr .u8 32 a.p.att.ha, .int .i64 a.p.att.pv, .arr .u8 32 a.p.att.pa, .arr .u8 32 a.p.att.ta], .sle 33 (a.p.sigs.map sgV)], .agg [.agg [.int .i64 a.q.att.who, .int .i64 a.q.att.ki, .int .i64 a.q.att.vi, .int .i64 a.q.att.ph, .arr .u8 32 a.q.att.ha, .int .i64 a.q.att.pv, .arr .u8 32 a.q.att.pa, .arr .u8 32 a.q.att.ta], .sle 33 (a.q.sigs.map sgV)]] := hav.symm
  clear hav wka ev
  subst evv
  simp (maxSteps := 1000000) (implicitDefEqProofs := false) only [beq_self_eq_true, Nat.add_zero, go_sem, ↓reduceIte]
  refine ⟨hsz, hsz, hsz, ?_⟩
  simp (maxSteps := 1000000) (implicitDefEqProofs := false) only [hA, ZA3_eq, go_sem, ↓reduceIte]
  exact h
end Go.Proofs.YtegamlopcdjiaaaDoor.Sha
