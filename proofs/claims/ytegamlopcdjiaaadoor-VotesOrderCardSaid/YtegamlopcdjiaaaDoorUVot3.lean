/- Votes: the theorem of order. -/
import Derived.Test.YtegamlopcdjiaaaDoorUVot2
namespace Go.Proofs.YtegamlopcdjiaaaDoor.Sha
open Go Go.Abs Go.Abs.Sha Go.Abs.Srt
set_option linter.unusedSimpArgs false
set_option linter.unusedVariables false
set_option maxRecDepth 100000
def lp5_0 : PC :=
  ((PC.reg [mm 93 12, mm 94 1, nn (.t 95) (.len (.t 94)), nn (.t 96) (.bin .lss (.t 93) (.t 95))]).seq (PC.cond (.t 96) PC.skip (PC.exit 4))).seq
    ((PC.block 5 ((PC.reg [nn (.v 13) (.mv true (.c (.v (.int .i64 0))))]).seq (((PC.reg [mm 99 12, mm 100 2, nn (.t 101) (.len (.t 100)), nn (.t 102)
    (.bin .lss (.t 99) (.t 101))]).seq (PC.cond (.t 102) (PC.reg [mm 103 2, mm 104 12, nn (.t 105) (.iadrS 1 (.t 103) (.t 104)), nn (.t 106) (.load 1
    false (.t 105)), nn (.t 107) (.conv .i64 (.t 106)), mm 108 11, nn (.t 109) (.len (.t 108)), nn (.t 110) (.bin .rem (.t 107) (.t 109)), ma 13 110])
    PC.skip)).seq ((PC.regD 1 [mm 112 0, nn (.t 113) (.load 204 true (.v 9)), mm 114 1, mm 115 12, nn (.t 116) (.iadrS 102 (.t 114) (.t 115)), nn (.t
    117) (.load 102 true (.t 116)), nn (.t 118) (.call 20 [.t 112, .t 113, .t 117]), nn (.t 111) (.mv false (.t 118)), nn (.t 119) (.ext (.t 111) 0), nn
    (.t 120) (.ext (.t 111) 1), nn (.v 14) (.allocAt 1 (.agg [.agg [.agg [.int .i64 0, .int .i64 0, .int .i64 0, .int .i64 0, .arr .u8 32 [0, 0, 0, 0, 0,
    0, 0, 0, 0, 0, 0, 0, 0, 0, 0, 0, 0, 0, 0, 0, 0, 0, 0, 0, 0, 0, 0, 0, 0, 0, 0, 0], .int .i64 0, .arr .u8 32 [0, 0, 0, 0, 0, 0, 0, 0, 0, 0, 0, 0, 0, 0,
    0, 0, 0, 0, 0, 0, 0, 0, 0, 0, 0, 0, 0, 0, 0, 0, 0, 0], .arr .u8 32 [0, 0, 0, 0, 0, 0, 0, 0, 0, 0, 0, 0, 0, 0, 0, 0, 0, 0, 0, 0, 0, 0, 0, 0, 0, 0, 0,
    0, 0, 0, 0, 0]], .nils], .agg [.agg [.int .i64 0, .int .i64 0, .int .i64 0, .int .i64 0, .arr .u8 32 [0, 0, 0, 0, 0, 0, 0, 0, 0, 0, 0, 0, 0, 0, 0, 0,
    0, 0, 0, 0, 0, 0, 0, 0, 0, 0, 0, 0, 0, 0, 0, 0], .int .i64 0, .arr .u8 32 [0, 0, 0, 0, 0, 0, 0, 0, 0, 0, 0, 0, 0, 0, 0, 0, 0, 0, 0, 0, 0, 0, 0, 0, 0,
    0, 0, 0, 0, 0, 0, 0], .arr .u8 32 [0, 0, 0, 0, 0, 0, 0, 0, 0, 0, 0, 0, 0, 0, 0, 0, 0, 0, 0, 0, 0, 0, 0, 0, 0, 0, 0, 0, 0, 0, 0, 0]], .nils]])), nn
    .no (.store 204 (.v 14) (.t 119)), nn (.t 15) (.mv true (.t 120))] [(1, 10), (5, 10)]).seq (((PC.reg [nn (.t 121) (.fadr 0 0 (.v 14)), nn (.t 122)
    (.fadr 0 0 (.t 121)), nn (.t 123) (.fadr 2 2 (.t 122)), nn (.t 124) (.load 1 false (.t 123)), nn (.t 125) (.fadr 0 0 (.v 9)), nn (.t 126) (.fadr 0 0
    (.t 125)), nn (.t 127) (.fadr 2 2 (.t 126)), nn (.t 128) (.load 1 false (.t 127)), nn (.t 129) (.bin .lss (.t 124) (.t 128)), nn (.t 130) (.mv false
    (.t 129)), ⟨.t 131, .fadr 1 102 (.v 14), some (.t 130, false)⟩, ⟨.t 132, .fadr 0 0 (.t 131), some (.t 130, false)⟩, ⟨.t 133, .fadr 2 2 (.t 132), some
    (.t 130, false)⟩, ⟨.t 134, .load 1 false (.t 133), some (.t 130, false)⟩, ⟨.t 135, .fadr 1 102 (.v 9), some (.t 130, false)⟩, ⟨.t 136, .fadr 0 0 (.t
    135), some (.t 130, false)⟩, ⟨.t 137, .fadr 2 2 (.t 136), some (.t 130, false)⟩, ⟨.t 138, .load 1 false (.t 137), some (.t 130, false)⟩, ⟨.t 139,
    .bin .lss (.t 134) (.t 138), some (.t 130, false)⟩, nn (.t 140) (.pick (.t 130) (.c (.v (.bool true))) (.t 139))]).seq (PC.cond (.t 140) ((PC.reg [nn
    (.v 6) (.mv true (.c (.v (.bool false))))]).seq PC.ret) PC.skip)).seq ((PC.reg [nn (.t 141) (.load 204 true (.v 14)), nn .no (.store 204 (.v 9) (.t
    141))]).seq ((PC.regD 0 [mm 143 0, nn (.t 144) (.load 204 true (.v 10)), mm 145 11, mm 146 13, nn (.t 147) (.iadrS 102 (.t 145) (.t 146)), nn (.t
    148) (.load 102 true (.t 147)), nn (.t 149) (.call 20 [.t 143, .t 144, .t 148]), nn (.t 142) (.mv false (.t 149)), nn (.t 150) (.ext (.t 142) 0), nn
    (.t 151) (.ext (.t 142) 1), nn .no (.store 204 (.v 10) (.t 150))] []).seq (PC.regD 0 [nn (.t 152) (.buildS none 102 (.agg [.agg [.int .i64 0, .int
    .i64 0, .int .i64 0, .int .i64 0, .arr .u8 32 [0, 0, 0, 0, 0, 0, 0, 0, 0, 0, 0, 0, 0, 0, 0, 0, 0, 0, 0, 0, 0, 0, 0, 0, 0, 0, 0, 0, 0, 0, 0, 0], .int
    .i64 0, .arr .u8 32 [0, 0, 0, 0, 0, 0, 0, 0, 0, 0, 0, 0, 0, 0, 0, 0, 0, 0, 0, 0, 0, 0, 0, 0, 0, 0, 0, 0, 0, 0, 0, 0], .arr .u8 32 [0, 0, 0, 0, 0, 0,
    0, 0, 0, 0, 0, 0, 0, 0, 0, 0, 0, 0, 0, 0, 0, 0, 0, 0, 0, 0, 0, 0, 0, 0, 0, 0]], .nils]) 0 []), mm 153 11, mm 154 13, nn (.t 155) (.slcS 102 (.t 153)
    none (some (.t 154)) none), nn (.t 156) (.app none 102 160 (.t 152) (.t 155)), mm 157 11, mm 158 13, nn (.t 159) (.bin .add (.t 158) (.c (.v (.int
    .i64 1)))), nn (.t 160) (.slcS 102 (.t 157) (some (.t 159)) none none), nn (.t 161) (.app none 102 160 (.t 156) (.t 160)), ma 11 161] [])))))))).seq
    (PC.reg [mm 97 12, nn (.t 98) (.bin .add (.t 97) (.c (.v (.int .i64 1)))), ma 12 98]))
def lp5_1 : PC :=
  ((PC.reg [mm 39 8, mm 40 7, nn (.t 41) (.bin .lss (.t 39) (.t 40))]).seq (PC.cond (.t 41) PC.skip (PC.exit 2))).seq ((PC.block 3 ((PC.regD 0 [mm 44 1,
    mm 45 7, nn (.t 46) (.iadrS 102 (.t 44) (.t 45)), nn (.t 47) (.fadr 0 0 (.t 46)), nn (.t 48) (.fadr 1 1 (.t 47)), nn (.t 49) (.load 1 false (.t 48)),
    mm 50 1, mm 51 8, nn (.t 52) (.iadrS 102 (.t 50) (.t 51)), nn (.t 53) (.fadr 0 0 (.t 52)), nn (.t 54) (.fadr 1 1 (.t 53)), nn (.t 55) (.load 1 false
    (.t 54)), nn (.t 56) (.bin .eql (.t 49) (.t 55)), nn (.t 57) (.mv false (.t 56)), gm 58 1 57 true, gm 59 7 57 true, ⟨.t 60, .iadrS 102 (.t 58) (.t
    59), some (.t 57, true)⟩, ⟨.t 61, .fadr 0 0 (.t 60), some (.t 57, true)⟩, ⟨.t 62, .fadr 2 2 (.t 61), some (.t 57, true)⟩, ⟨.t 63, .load 1 false (.t
    62), some (.t 57, true)⟩, gm 64 1 57 true, gm 65 8 57 true, ⟨.t 66, .iadrS 102 (.t 64) (.t 65), some (.t 57, true)⟩, ⟨.t 67, .fadr 0 0 (.t 66), some
    (.t 57, true)⟩, ⟨.t 68, .fadr 2 2 (.t 67), some (.t 57, true)⟩, ⟨.t 69, .load 1 false (.t 68), some (.t 57, true)⟩, ⟨.t 70, .bin .eql (.t 63) (.t
    69), some (.t 57, true)⟩, nn (.t 71) (.pick (.t 57) (.t 70) (.c (.v (.bool false)))), nn (.t 72) (.mv false (.t 71)), gm 73 1 72 true, gm 74 7 72
    true, ⟨.t 75, .iadrS 102 (.t 73) (.t 74), some (.t 72, true)⟩, ⟨.t 76, .fadr 0 0 (.t 75), some (.t 72, true)⟩, ⟨.t 77, .fadr 4 4 (.t 76), some (.t
    72, true)⟩, ⟨.t 78, .load 32 true (.t 77), some (.t 72, true)⟩, gm 79 1 72 true, gm 80 8 72 true, ⟨.t 81, .iadrS 102 (.t 79) (.t 80), some (.t 72,
    true)⟩, ⟨.t 82, .fadr 0 0 (.t 81), some (.t 72, true)⟩, ⟨.t 83, .fadr 4 4 (.t 82), some (.t 72, true)⟩, ⟨.t 84, .load 32 true (.t 83), some (.t 72,
    true)⟩, ⟨.t 85, .eqa true (.arr 32) (.t 78) (.t 84), some (.t 72, true)⟩, nn (.t 86) (.pick (.t 72) (.t 85) (.c (.v (.bool false))))] []).seq
    (PC.cond (.t 86) ((PC.reg [nn (.t 87) (.call 19 []), ma 6 87]).seq PC.ret) PC.skip))).seq (PC.reg [mm 42 8, nn (.t 43) (.bin .add (.t 42) (.c (.v
    (.int .i64 1)))), ma 8 43]))
def lp5_2 : PC :=
  ((PC.reg [mm 25 7, mm 26 1, nn (.t 27) (.len (.t 26)), nn (.t 28) (.bin .lss (.t 25) (.t 27))]).seq (PC.cond (.t 28) PC.skip (PC.exit 0))).seq
    ((PC.block 1 (((PC.reg [mm 31 1, mm 32 7, nn (.t 33) (.iadrS 102 (.t 31) (.t 32)), nn (.t 34) (.fadr 1 101 (.t 33)), nn (.t 35) (.load 1 false (.t
    34)), nn (.t 36) (.len (.t 35)), nn (.t 37) (.bin .gtr (.t 36) (.c (.v (.int .i64 30))))]).seq (PC.cond (.t 37) ((PC.reg [nn (.t 38) (.call 19 []),
    ma 6 38]).seq PC.ret) PC.skip)).seq ((PC.reg [nn (.v 8) (.mv true (.c (.v (.int .i64 0))))]).seq (PC.block 2 (PC.loop [0, 1, 2, 7, 8] lp5_1))))).seq
    (PC.reg [mm 29 7, nn (.t 30) (.bin .add (.t 29) (.c (.v (.int .i64 1)))), ma 7 30]))
def pf5 : PF :=
  PF.mk 3 15 207 ((PC.reg [nn (.v 6) (.mv true (.c (.v (.bool false))))]).seq (((PC.reg [mm 16 1, nn (.t 17) (.len (.t 16)), nn (.t 18) (.bin .gtr (.t
    17) (.c (.v (.int .i64 12)))), nn (.t 19) (.mv false (.t 18)), gm 20 2 19 false, ⟨.t 21, .len (.t 20), some (.t 19, false)⟩, ⟨.t 22, .bin .gtr (.t
    21) (.c (.v (.int .i64 30))), some (.t 19, false)⟩, nn (.t 23) (.pick (.t 19) (.c (.v (.bool true))) (.t 22))]).seq (PC.cond (.t 23) ((PC.reg [nn (.t
    24) (.call 19 []), ma 6 24]).seq PC.ret) PC.skip)).seq (((PC.reg [nn (.v 7) (.mv true (.c (.v (.int .i64 0))))]).seq (PC.block 0 (PC.loop [0, 1, 2,
    7] lp5_2))).seq ((PC.reg [nn (.t 88) (.build (.agg [.agg [.agg [.int .i64 0, .int .i64 0, .int .i64 0, .int .i64 0, .arr .u8 32 [0, 0, 0, 0, 0, 0, 0,
    0, 0, 0, 0, 0, 0, 0, 0, 0, 0, 0, 0, 0, 0, 0, 0, 0, 0, 0, 0, 0, 0, 0, 0, 0], .int .i64 0, .arr .u8 32 [0, 0, 0, 0, 0, 0, 0, 0, 0, 0, 0, 0, 0, 0, 0, 0,
    0, 0, 0, 0, 0, 0, 0, 0, 0, 0, 0, 0, 0, 0, 0, 0], .arr .u8 32 [0, 0, 0, 0, 0, 0, 0, 0, 0, 0, 0, 0, 0, 0, 0, 0, 0, 0, 0, 0, 0, 0, 0, 0, 0, 0, 0, 0, 0,
    0, 0, 0]], .nils], .agg [.agg [.int .i64 0, .int .i64 0, .int .i64 0, .int .i64 0, .arr .u8 32 [0, 0, 0, 0, 0, 0, 0, 0, 0, 0, 0, 0, 0, 0, 0, 0, 0, 0,
    0, 0, 0, 0, 0, 0, 0, 0, 0, 0, 0, 0, 0, 0], .int .i64 0, .arr .u8 32 [0, 0, 0, 0, 0, 0, 0, 0, 0, 0, 0, 0, 0, 0, 0, 0, 0, 0, 0, 0, 0, 0, 0, 0, 0, 0, 0,
    0, 0, 0, 0, 0], .arr .u8 32 [0, 0, 0, 0, 0, 0, 0, 0, 0, 0, 0, 0, 0, 0, 0, 0, 0, 0, 0, 0, 0, 0, 0, 0, 0, 0, 0, 0, 0, 0, 0, 0]], .nils]]) []), nn (.t
    89) (.build (.agg [.agg [.agg [.int .i64 0, .int .i64 0, .int .i64 0, .int .i64 0, .arr .u8 32 [0, 0, 0, 0, 0, 0, 0, 0, 0, 0, 0, 0, 0, 0, 0, 0, 0, 0,
    0, 0, 0, 0, 0, 0, 0, 0, 0, 0, 0, 0, 0, 0], .int .i64 0, .arr .u8 32 [0, 0, 0, 0, 0, 0, 0, 0, 0, 0, 0, 0, 0, 0, 0, 0, 0, 0, 0, 0, 0, 0, 0, 0, 0, 0, 0,
    0, 0, 0, 0, 0], .arr .u8 32 [0, 0, 0, 0, 0, 0, 0, 0, 0, 0, 0, 0, 0, 0, 0, 0, 0, 0, 0, 0, 0, 0, 0, 0, 0, 0, 0, 0, 0, 0, 0, 0]], .nils], .agg [.agg
    [.int .i64 0, .int .i64 0, .int .i64 0, .int .i64 0, .arr .u8 32 [0, 0, 0, 0, 0, 0, 0, 0, 0, 0, 0, 0, 0, 0, 0, 0, 0, 0, 0, 0, 0, 0, 0, 0, 0, 0, 0, 0,
    0, 0, 0, 0], .int .i64 0, .arr .u8 32 [0, 0, 0, 0, 0, 0, 0, 0, 0, 0, 0, 0, 0, 0, 0, 0, 0, 0, 0, 0, 0, 0, 0, 0, 0, 0, 0, 0, 0, 0, 0, 0], .arr .u8 32
    [0, 0, 0, 0, 0, 0, 0, 0, 0, 0, 0, 0, 0, 0, 0, 0, 0, 0, 0, 0, 0, 0, 0, 0, 0, 0, 0, 0, 0, 0, 0, 0]], .nils]]) []), nn (.v 9) (.alloc (.agg [.agg [.agg
    [.int .i64 0, .int .i64 0, .int .i64 0, .int .i64 0, .arr .u8 32 [0, 0, 0, 0, 0, 0, 0, 0, 0, 0, 0, 0, 0, 0, 0, 0, 0, 0, 0, 0, 0, 0, 0, 0, 0, 0, 0, 0,
    0, 0, 0, 0], .int .i64 0, .arr .u8 32 [0, 0, 0, 0, 0, 0, 0, 0, 0, 0, 0, 0, 0, 0, 0, 0, 0, 0, 0, 0, 0, 0, 0, 0, 0, 0, 0, 0, 0, 0, 0, 0], .arr .u8 32
    [0, 0, 0, 0, 0, 0, 0, 0, 0, 0, 0, 0, 0, 0, 0, 0, 0, 0, 0, 0, 0, 0, 0, 0, 0, 0, 0, 0, 0, 0, 0, 0]], .nils], .agg [.agg [.int .i64 0, .int .i64 0, .int
    .i64 0, .int .i64 0, .arr .u8 32 [0, 0, 0, 0, 0, 0, 0, 0, 0, 0, 0, 0, 0, 0, 0, 0, 0, 0, 0, 0, 0, 0, 0, 0, 0, 0, 0, 0, 0, 0, 0, 0], .int .i64 0, .arr
    .u8 32 [0, 0, 0, 0, 0, 0, 0, 0, 0, 0, 0, 0, 0, 0, 0, 0, 0, 0, 0, 0, 0, 0, 0, 0, 0, 0, 0, 0, 0, 0, 0, 0], .arr .u8 32 [0, 0, 0, 0, 0, 0, 0, 0, 0, 0,
    0, 0, 0, 0, 0, 0, 0, 0, 0, 0, 0, 0, 0, 0, 0, 0, 0, 0, 0, 0, 0, 0]], .nils]])), nn (.v 10) (.alloc (.agg [.agg [.agg [.int .i64 0, .int .i64 0, .int
    .i64 0, .int .i64 0, .arr .u8 32 [0, 0, 0, 0, 0, 0, 0, 0, 0, 0, 0, 0, 0, 0, 0, 0, 0, 0, 0, 0, 0, 0, 0, 0, 0, 0, 0, 0, 0, 0, 0, 0], .int .i64 0, .arr
    .u8 32 [0, 0, 0, 0, 0, 0, 0, 0, 0, 0, 0, 0, 0, 0, 0, 0, 0, 0, 0, 0, 0, 0, 0, 0, 0, 0, 0, 0, 0, 0, 0, 0], .arr .u8 32 [0, 0, 0, 0, 0, 0, 0, 0, 0, 0,
    0, 0, 0, 0, 0, 0, 0, 0, 0, 0, 0, 0, 0, 0, 0, 0, 0, 0, 0, 0, 0, 0]], .nils], .agg [.agg [.int .i64 0, .int .i64 0, .int .i64 0, .int .i64 0, .arr .u8
    32 [0, 0, 0, 0, 0, 0, 0, 0, 0, 0, 0, 0, 0, 0, 0, 0, 0, 0, 0, 0, 0, 0, 0, 0, 0, 0, 0, 0, 0, 0, 0, 0], .int .i64 0, .arr .u8 32 [0, 0, 0, 0, 0, 0, 0,
    0, 0, 0, 0, 0, 0, 0, 0, 0, 0, 0, 0, 0, 0, 0, 0, 0, 0, 0, 0, 0, 0, 0, 0, 0], .arr .u8 32 [0, 0, 0, 0, 0, 0, 0, 0, 0, 0, 0, 0, 0, 0, 0, 0, 0, 0, 0, 0,
    0, 0, 0, 0, 0, 0, 0, 0, 0, 0, 0, 0]], .nils]])), nn .no (.store 204 (.v 9) (.t 88)), nn .no (.store 204 (.v 10) (.t 89))]).seq ((PC.reg [nn (.t 90)
    (.buildS none 102 (.agg [.agg [.int .i64 0, .int .i64 0, .int .i64 0, .int .i64 0, .arr .u8 32 [0, 0, 0, 0, 0, 0, 0, 0, 0, 0, 0, 0, 0, 0, 0, 0, 0, 0,
    0, 0, 0, 0, 0, 0, 0, 0, 0, 0, 0, 0, 0, 0], .int .i64 0, .arr .u8 32 [0, 0, 0, 0, 0, 0, 0, 0, 0, 0, 0, 0, 0, 0, 0, 0, 0, 0, 0, 0, 0, 0, 0, 0, 0, 0, 0,
    0, 0, 0, 0, 0], .arr .u8 32 [0, 0, 0, 0, 0, 0, 0, 0, 0, 0, 0, 0, 0, 0, 0, 0, 0, 0, 0, 0, 0, 0, 0, 0, 0, 0, 0, 0, 0, 0, 0, 0]], .nils]) 0 []), mm 91
    1, nn (.t 92) (.app none 102 160 (.t 90) (.t 91)), ma 11 92]).seq (((PC.reg [nn (.v 12) (.mv true (.c (.v (.int .i64 0))))]).seq (PC.block 4 (PC.loop
    [0, 1, 2, 9, 10, 11, 12] lp5_0))).seq ((PC.reg [nn (.t 162) (.fadr 0 0 (.v 9)), nn (.t 163) (.fadr 0 0 (.t 162)), nn (.t 164) (.fadr 2 2 (.t 163)),
    nn (.t 165) (.load 1 false (.t 164)), nn (.t 166) (.fadr 0 0 (.v 10)), nn (.t 167) (.fadr 0 0 (.t 166)), nn (.t 168) (.fadr 2 2 (.t 167)), nn (.t
    169) (.load 1 false (.t 168)), nn (.t 170) (.bin .eql (.t 165) (.t 169)), nn (.t 171) (.mv false (.t 170)), ⟨.t 172, .fadr 0 0 (.v 9), some (.t 171,
    true)⟩, ⟨.t 173, .fadr 0 0 (.t 172), some (.t 171, true)⟩, ⟨.t 174, .fadr 4 4 (.t 173), some (.t 171, true)⟩, ⟨.t 175, .load 32 true (.t 174), some
    (.t 171, true)⟩, ⟨.t 176, .fadr 0 0 (.v 10), some (.t 171, true)⟩, ⟨.t 177, .fadr 0 0 (.t 176), some (.t 171, true)⟩, ⟨.t 178, .fadr 4 4 (.t 177),
    some (.t 171, true)⟩, ⟨.t 179, .load 32 true (.t 178), some (.t 171, true)⟩, ⟨.t 180, .eqa false (.arr 32) (.t 175) (.t 179), some (.t 171, true)⟩,
    nn (.t 181) (.pick (.t 171) (.t 180) (.c (.v (.bool false)))), nn (.t 182) (.mv false (.t 181)), ⟨.t 183, .fadr 1 102 (.v 9), some (.t 182, true)⟩,
    ⟨.t 184, .fadr 0 0 (.t 183), some (.t 182, true)⟩, ⟨.t 185, .fadr 2 2 (.t 184), some (.t 182, true)⟩, ⟨.t 186, .load 1 false (.t 185), some (.t 182,
    true)⟩, ⟨.t 187, .fadr 1 102 (.v 10), some (.t 182, true)⟩, ⟨.t 188, .fadr 0 0 (.t 187), some (.t 182, true)⟩, ⟨.t 189, .fadr 2 2 (.t 188), some (.t
    182, true)⟩, ⟨.t 190, .load 1 false (.t 189), some (.t 182, true)⟩, ⟨.t 191, .bin .eql (.t 186) (.t 190), some (.t 182, true)⟩, nn (.t 192) (.pick
    (.t 182) (.t 191) (.c (.v (.bool false)))), nn (.t 193) (.mv false (.t 192)), ⟨.t 194, .fadr 1 102 (.v 9), some (.t 193, true)⟩, ⟨.t 195, .fadr 0 0
    (.t 194), some (.t 193, true)⟩, ⟨.t 196, .fadr 4 4 (.t 195), some (.t 193, true)⟩, ⟨.t 197, .load 32 true (.t 196), some (.t 193, true)⟩, ⟨.t 198,
    .fadr 1 102 (.v 10), some (.t 193, true)⟩, ⟨.t 199, .fadr 0 0 (.t 198), some (.t 193, true)⟩, ⟨.t 200, .fadr 4 4 (.t 199), some (.t 193, true)⟩, ⟨.t
    201, .load 32 true (.t 200), some (.t 193, true)⟩, ⟨.t 202, .eqa false (.arr 32) (.t 197) (.t 201), some (.t 193, true)⟩, nn (.t 203) (.pick (.t 193)
    (.t 202) (.c (.v (.bool false)))), nn (.t 204) (.mv false (.t 203)), ⟨.t 205, .call 19 [], some (.t 204, true)⟩, nn (.t 206) (.pick (.t 204) (.t 205)
    (.c (.v (.bool false)))), ma 6 206]).seq PC.ret))))))) [(.v 6, none)]
attribute [local irreducible] W Wops WopsD WL Wop WopD
variable {E : Env} {C : Abs.Spec} {l : List (Nat × Spec1)} {G : List (Nat × V)} {Q : R → List (Nat × V) → Prop}
set_option maxHeartbeats 1000000
def Rt (kt : List Int) (n kd : Int) (d : CertS) : Prop := d.right kt n = true ∧ d.att.ki = kd
def Best (kt : List Int) (n kd : Int) (l : List CertS) (c : CertS) : Prop :=
  ((c.att.vi = 0 ∧ c.att.ha = zero32) ∨ (c ∈ l ∧ Rt kt n kd c)) ∧ ∀ d ∈ l, Rt kt n kd d → d.att.vi ≤ c.att.vi
theorem rt_pos {kt : List Int} {n kd : Int} {d : CertS} (h : Rt kt n kd d) : 1 ≤ d.att.vi := by
  obtain ⟨h, _⟩ := h
  unfold CertS.right at h
  split at h
  · cases h
  · rename_i hc
    have q0 : ¬ quo n = 0 := fun e => hc (.inl e)
    have hl : (d.sigs.length : Int) = quo n := Classical.byContradiction fun e => hc (.inr (.inl e))
    have hq := quo_nn n
    cases hs : d.sigs with
    | nil => rw [hs] at hl; simp at hl; omega
    | cons p r =>
      rw [hs, List.all_cons, Bool.and_eq_true] at h
      have hm := right_may h.1
      exact hm.2.2.2.1.1
theorem best_nil {kt : List Int} {n kd : Int} : Best kt n kd [] .zero := ⟨.inl ⟨rfl, rfl⟩, fun d hd => by cases hd⟩
theorem best_more {kt : List Int} {n kd : Int} {l : List CertS} {c d : CertS} (h : Best kt n kd l c) (hd : Rt kt n kd d → d.att.vi ≤ c.att.vi) : Best kt n kd (l ++ [d]) c := by
  refine ⟨h.1.imp id fun e => ⟨List.mem_append_left _ e.1, e.2⟩, fun x hx hr => ?_⟩
  rcases List.mem_append.1 hx with hx | hx
  · exact h.2 x hx hr
  · rw [List.mem_singleton] at hx; subst hx; exact hd hr
theorem best_new {kt : List Int} {n kd : Int} {l : List CertS} {c d : CertS} (h : Best kt n kd l c) (hr : Rt kt n kd d) (hv : c.att.vi ≤ d.att.vi) : Best kt n kd (l ++ [d]) d := by
  refine ⟨.inr ⟨List.mem_append_right _ (List.mem_singleton.2 rfl), hr⟩, fun x hx hx2 => ?_⟩
  rcases List.mem_append.1 hx with hx | hx
  · have := h.2 x hx hx2; omega
  · rw [List.mem_singleton] at hx; subst hx; exact Int.le_refl _
theorem learn_best {kt : List Int} {n : Int} {l : List CertS} {k : KnownS} {c : CertS} (h2 : Best kt n 2 l k.p) (h3 : Best kt n 3 l k.q) :
    Best kt n 2 (l ++ [c]) (learnK kt n k c).1.p ∧ Best kt n 3 (l ++ [c]) (learnK kt n k c).1.q ∧ k.p.att.vi ≤ (learnK kt n k c).1.p.att.vi ∧ k.q.att.vi ≤ (learnK kt n k c).1.q.att.vi := by
  unfold learnK
  by_cases hr : c.right kt n = false
  · rw [if_pos hr]
    exact ⟨best_more h2 (fun e => absurd e.1 (by rw [hr]; decide)), best_more h3 (fun e => absurd e.1 (by rw [hr]; decide)), Int.le_refl _, Int.le_refl _⟩
  rw [if_neg hr]
  have hrt : c.right kt n = true := by simpa using hr
  by_cases k2 : c.att.ki = 2
  · rw [if_pos k2]
    have n3 : Rt kt n 3 c → c.att.vi ≤ k.q.att.vi := fun e => by have := e.2; omega
    by_cases v : c.att.vi ≤ k.p.att.vi
    · rw [if_pos v]
      exact ⟨best_more h2 fun _ => v, best_more h3 n3, Int.le_refl _, Int.le_refl _⟩
    · rw [if_neg v]
      exact ⟨best_new h2 ⟨hrt, k2⟩ (by omega), best_more h3 n3, by dsimp only; omega, Int.le_refl _⟩
  rw [if_neg k2]
  have n2 : Rt kt n 2 c → c.att.vi ≤ k.p.att.vi := fun e => absurd e.2 k2
  by_cases k3 : c.att.ki = 3
  · rw [if_pos k3]
    by_cases v : c.att.vi ≤ k.q.att.vi
    · rw [if_pos v]
      exact ⟨best_more h2 n2, best_more h3 fun _ => v, Int.le_refl _, Int.le_refl _⟩
    · rw [if_neg v]
      exact ⟨best_more h2 n2, best_new h3 ⟨hrt, k3⟩ (by omega), Int.le_refl _, by dsimp only; omega⟩
  rw [if_neg k3]
  exact ⟨best_more h2 n2, best_more h3 fun e => absurd e.2 k3, Int.le_refl _, Int.le_refl _⟩
theorem best_one {kt : List Int} {n kd : Int} {l m : List CertS} {c d : CertS} (h : Best kt n kd l c) (h' : Best kt n kd m d) (hm : ∀ x, x ∈ l ↔ x ∈ m)
    (hc : ∀ x ∈ l, ∀ y ∈ l, x.att.ki = y.att.ki → x.att.vi = y.att.vi → x.att.ha = y.att.ha) : c.att.vi = d.att.vi ∧ c.att.ha = d.att.ha := by
  obtain ⟨h1, h2⟩ := h
  obtain ⟨g1, g2⟩ := h'
  rcases h1 with ⟨e1, e2⟩ | ⟨e1, e2⟩
  · rcases g1 with ⟨f1, f2⟩ | ⟨f1, f2⟩
    · exact ⟨by rw [e1, f1], by rw [e2, f2]⟩
    · have := h2 d ((hm d).2 f1) f2
      have := rt_pos f2
      omega
  · rcases g1 with ⟨f1, f2⟩ | ⟨f1, f2⟩
    · have := g2 c ((hm c).1 e1) e2
      have := rt_pos e2
      omega
    · have a1 := g2 c ((hm c).1 e1) e2
      have a2 := h2 d ((hm d).2 f1) f2
      have e : c.att.vi = d.att.vi := by omega
      exact ⟨e, hc c e1 d ((hm d).2 f1) (by rw [e2.2, f2.2]) e⟩
def Alike (x y : CertS) : Prop := x.att.ki = y.att.ki → x.att.vi = y.att.vi → x.att.ha = y.att.ha
theorem getD_c {lc : List CertS} {j : Nat} {c : CertS} (h : lc[j]? = some c) : (lc.map CertS.v).getD j V.nilp = c.v := by
  rw [List.getD_eq_getElem?_getD, List.getElem?_map, h]; rfl
theorem loop5_1 (hA : Abs.look l 19 = some ZA3) {QQ : Ex → St → Prop} {n : Int} {lc : List CertS} {tn : List Int} {i : Nat} {ci : CertS} {L : List Bx} (hl : lc.length < 1000) (hi : lc[i]? = some ci)
    (hx : ∀ ts (j : Nat), (∀ k, k < i → ∀ ck, lc[k]? = some ck → Alike ci ck) → QQ (.exit 2) ⟨[some (.v (.int .i64 n)), some (.v (.sle 102 (lc.map CertS.v))), some (.v (.sli .u8 tn)), none, none, none, none, some (.v (.int .i64 (i : Nat))), some (.v (.int .i64 (j : Nat))), none, none, none, none, none, none], ts, L, G⟩) (hr : ∀ σ : St, σ.G = G → St.ev σ (.v 6) = some (.v (.bool true)) → QQ .ret σ) :
    ∀ (r j : Nat), j + r = i → (∀ k, k < j → ∀ ck, lc[k]? = some ck → Alike ci ck) → WL (W E (specOf l) lp5_1) [0, 1, 2, 7, 8] QQ (r + 1) ⟨[some (.v (.int .i64 n)), some (.v (.sle 102 (lc.map CertS.v))), some (.v (.sli .u8 tn)), none, none, none, none, some (.v (.int .i64 (i : Nat))), some (.v (.int .i64 (j : Nat))), none, none, none, none, none, none], [], L, G⟩ := by
  have hil := (List.getElem?_eq_some_iff.1 hi).1
  intro r
  induction r with
  | zero =>
    intro j hj hp
    obtain rfl : j = i := by omega
    refine WL_in lp5_1.eq_1 ?_
    simp (maxSteps := 1000000) (implicitDefEqProofs := false) only [Int.lt_irrefl, go_sem, ↓reduceIte]
    exact hx _ _ hp
  | succ r ih =>
    intro j hj hp
    have c1 : (j : Int) < (i : Int) := by omega
    have c2 : (0 : Int) ≤ (j : Int) := by omega
    have c3 : (j : Int) < (lc.length : Int) := by omega
    have c4 : (i : Int) < (lc.length : Int) := by omega
    have c5 : (0 : Int) ≤ (i : Int) := by omega
    obtain ⟨ck, hk⟩ : ∃ ck, lc[j]? = some ck := ⟨lc[j]'(by omega), List.getElem?_eq_getElem (by omega)⟩
    have g := getD_c hi
    have g2 := getD_c hk
    have w1 : IntKind.i64.wrap ((j : Int) + 1) = ((j + 1 : Nat) : Int) := wc (by omega) (by omega)
    have next := fun (ha : Alike ci ck) => ih (j + 1) (by omega) fun k hk2 c hc => by
      by_cases e : k = j
      · subst e; rw [hk] at hc; cases hc; exact ha
      · exact hp k (by omega) c hc
    unfold Alike at next
    obtain ⟨⟨a1, a2, a3, a4, a5, a6, a7, a8⟩, sa⟩ := ci
    obtain ⟨⟨b1, b2, b3, b4, b5, b6, b7, b8⟩, sb⟩ := ck
    dsimp only at next
    refine WL_in lp5_1.eq_1 ?_
    by_cases q2 : a2 = b2
    case neg =>
      simp (maxSteps := 1000000) (implicitDefEqProofs := false) only [c1, c2, c3, c4, c5, g, g2, w1, CertS.v, AttS.v, Int.toNat_natCast, List.length_map, q2, go_sem, ↓reduceIte]
      exact next fun e => absurd e q2
    by_cases q3 : a3 = b3
    case neg =>
      simp (maxSteps := 1000000) (implicitDefEqProofs := false) only [c1, c2, c3, c4, c5, g, g2, w1, CertS.v, AttS.v, Int.toNat_natCast, List.length_map, q2, q3, go_sem, ↓reduceIte]
      exact next fun _ e => absurd e q3
    by_cases q5 : a5 = b5
    · have q5t : (a5 == b5) = true := by simpa using q5
      simp (maxSteps := 1000000) (implicitDefEqProofs := false) only [c1, c2, c3, c4, c5, g, g2, w1, CertS.v, AttS.v, Int.toNat_natCast, List.length_map, q2, q3, q5t, go_sem, ↓reduceIte]
      exact next fun _ _ => q5
    · have q5f : (a5 == b5) = false := by simpa using q5
      simp (maxSteps := 1000000) (implicitDefEqProofs := false) only [c1, c2, c3, c4, c5, g, g2, w1, CertS.v, AttS.v, Int.toNat_natCast, List.length_map, q2, q3, q5f, hA, ZA3_eq, go_sem, ↓reduceIte]
      exact hr _ rfl rfl
theorem loop5_2 (hA : Abs.look l 19 = some ZA3) {QQ : Ex → St → Prop} {n : Int} {lc : List CertS} {tn : List Int} {L : List Bx} (hl : lc.length < 1000)
    (hx : ∀ ts (j : Nat), (∀ c ∈ lc, c.sigs.length ≤ 30) → (∀ x ∈ lc, ∀ y ∈ lc, Alike x y) → QQ (.exit 0) ⟨[some (.v (.int .i64 n)), some (.v (.sle 102 (lc.map CertS.v))), some (.v (.sli .u8 tn)), none, none, none, none, some (.v (.int .i64 (j : Nat))), none, none, none, none, none, none, none], ts, L, G⟩) (hr : ∀ σ : St, σ.G = G → St.ev σ (.v 6) = some (.v (.bool true)) → QQ .ret σ) :
    ∀ (r j : Nat), j + r = lc.length → (∀ k, k < j → ∀ ck, lc[k]? = some ck → ck.sigs.length ≤ 30 ∧ ∀ i, i < k → ∀ ci, lc[i]? = some ci → Alike ck ci) → WL (W E (specOf l) lp5_2) [0, 1, 2, 7] QQ (r + 1) ⟨[some (.v (.int .i64 n)), some (.v (.sle 102 (lc.map CertS.v))), some (.v (.sli .u8 tn)), none, none, none, none, some (.v (.int .i64 (j : Nat))), none, none, none, none, none, none, none], [], L, G⟩ := by
  intro r
  induction r with
  | zero =>
    intro j hj hp
    obtain rfl : j = lc.length := by omega
    refine WL_in lp5_2.eq_1 ?_
    simp (maxSteps := 1000000) (implicitDefEqProofs := false) only [Int.lt_irrefl, List.length_map, go_sem, ↓reduceIte]
    refine hx _ _ (fun c hc => ?_) (fun x hx y hy => ?_)
    · obtain ⟨k, hk⟩ := List.getElem?_of_mem hc
      exact (hp k (List.getElem?_eq_some_iff.1 hk).1 c hk).1
    · obtain ⟨i, hi⟩ := List.getElem?_of_mem hx
      obtain ⟨k, hk⟩ := List.getElem?_of_mem hy
      have li := (List.getElem?_eq_some_iff.1 hi).1
      have lk := (List.getElem?_eq_some_iff.1 hk).1
      rcases Nat.lt_trichotomy i k with e | e | e
      · have := (hp k lk y hk).2 i e x hi
        exact fun e1 e2 => (this e1.symm e2.symm).symm
      · subst e; rw [hi] at hk; cases hk; exact fun _ _ => rfl
      · exact (hp i li x hi).2 k e y hk
  | succ r ih =>
    intro j hj hp
    have c1 : (j : Int) < (lc.length : Int) := by omega
    have c2 : (0 : Int) ≤ (j : Int) := by omega
    obtain ⟨cj, hcj⟩ : ∃ ck, lc[j]? = some ck := ⟨lc[j]'(by omega), List.getElem?_eq_getElem (by omega)⟩
    have g := getD_c hcj
    have w1 : IntKind.i64.wrap ((j : Int) + 1) = ((j + 1 : Nat) : Int) := wc (by omega) (by omega)
    have cs : V.size cj.att.v + 0 = 101 := rfl
    have evc : cj.v = .agg [cj.att.v, .sle 33 (cj.sigs.map sgV)] := rfl
    rw [evc] at g
    refine WL_in lp5_2.eq_1 ?_
    by_cases q : (30 : Int) < cj.sigs.length
    · simp (maxSteps := 1000000) (implicitDefEqProofs := false) only [c1, c2, g, cs, Int.toNat_natCast, List.length_map, q, hA, ZA3_eq, go_sem, ↓reduceIte]
      exact hr _ rfl rfl
    · simp (maxSteps := 1000000) (implicitDefEqProofs := false) only [c1, c2, g, cs, Int.toNat_natCast, List.length_map, q, go_sem, ↓reduceIte]
      refine ⟨j + 1, ?_⟩
      refine loop5_1 hA hl hcj (fun ts k hk => ?_) (fun σ e1 e2 => ?_) j 0 (by omega) (fun k hk => by omega)
      · simp (maxSteps := 1000000) (implicitDefEqProofs := false) only [w1, go_sem, ↓reduceIte]
        refine ih (j + 1) (by omega) fun k hk2 ck hck => ?_
        by_cases e : k = j
        · subst e; rw [hcj] at hck; cases hck
          exact ⟨by omega, hk⟩
        · exact hp k (by omega) ck hck
      · simp (maxSteps := 1000000) (implicitDefEqProofs := false) only [go_sem, ↓reduceIte]
        exact hr σ e1 e2
end Go.Proofs.YtegamlopcdjiaaaDoor.Sha
