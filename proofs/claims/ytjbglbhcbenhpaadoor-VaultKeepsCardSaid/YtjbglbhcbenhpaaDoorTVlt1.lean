/- The vault: its functions. -/
import Derived.Test.YtjbglbhcbenhpaaDoorTBlob2
import Derived.Test.YtjbglbhcbenhpaaDoorShaD
import Derived.Test.YtjbglbhcbenhpaaDoorPlain6
namespace Go.Proofs.YtjbglbhcbenhpaaDoor.Sha
open Go Go.Abs Go.Abs.Sha
set_option linter.unusedSimpArgs false
set_option linter.unusedVariables false
set_option maxRecDepth 100000
def pf36 : PF :=
  PF.mk 1 5 19 ((PC.reg [nn (.v 2) (.mv true (.c (.v .nilp))), nn (.v 3) (.mv true (.c (.v (.int .i64 0))))]).seq (((PC.reg [mm 5 0, nn (.t 6) (.bin .lss
    (.t 5) (.c (.v (.int .i64 0)))), nn (.t 7) (.mv false (.t 6)), gm 8 0 7 false, ⟨.t 9, .bin .gtr (.t 8) (.c (.v (.int .i64 1099511627776))), some (.t
    7, false)⟩, nn (.t 10) (.pick (.t 7) (.c (.v (.bool true))) (.t 9))]).seq (PC.cond (.t 10) ((PC.reg [nn (.v 2) (.mv true (.c (.v .nilp))), nn (.v 3)
    (.mv true (.c (.v (.int .i64 1))))]).seq PC.ret) PC.skip)).seq ((PC.reg [nn (.t 11) (.build (.agg [.agg [.agg [], .agg [], .int .i64 0], .bool
    false]) [(1, .c (.v (.bool true)))]), nn (.t 12) (.newB (.t 11)), ma 4 12]).seq ((PC.reg [mm 13 4, nn (.t 14) (.nilc (.t 13)), nn (.t 15) (.fad0 (.t
    14)), mm 16 0, nn (.t 17) (.call 83 [.t 15, .t 16])]).seq ((PC.reg [mm 18 4, ma 2 18, nn (.v 3) (.mv true (.c (.v (.int .i64 0))))]).seq PC.ret)))))
    [(.v 2, none), (.v 3, none)]
def pf47 : PF :=
  PF.mk 1 4 22 ((PC.reg [nn (.v 2) (.mv true (.c (.v (.int .i64 0)))), nn (.v 3) (.mv true (.c (.v (.int .i64 0))))]).seq ((PC.block 0 ((PC.reg [mm 5 0,
    nn (.t 6) (.binP .eql (.t 5) (.c (.v .nilp))), nn (.t 7) (.mv false (.t 6)), gm 8 0 7 false, ⟨.t 9, .nilc (.t 8), some (.t 7, false)⟩, ⟨.t 10, .fadr
    1 1 (.t 9), some (.t 7, false)⟩, ⟨.t 11, .load 1 false (.t 10), some (.t 7, false)⟩, ⟨.t 12, .un .not (.t 11), some (.t 7, false)⟩, nn (.t 13) (.pick
    (.t 7) (.c (.v (.bool true))) (.t 12)), nn (.t 4) (.mv true (.t 13))]).seq (PC.cond (.t 4) ((PC.reg [nn (.v 2) (.mv true (.c (.v (.int .i64 0)))), nn
    (.v 3) (.mv true (.c (.v (.int .i64 5))))]).seq PC.ret) ((PC.reg [mm 15 0, nn (.t 16) (.call 54 [.t 15]), nn (.t 17) (.bin .eql (.t 16) (.c (.v (.int
    .i64 1099511627776)))), nn (.t 14) (.mv true (.t 17))]).seq (PC.cond (.t 14) ((PC.reg [nn (.v 2) (.mv true (.c (.v (.int .i64 0)))), nn (.v 3) (.mv
    true (.c (.v (.int .i64 9))))]).seq PC.ret) PC.skip))))).seq ((PC.reg [mm 18 0, nn (.t 19) (.nilc (.t 18)), nn (.t 20) (.fad0 (.t 19)), nn (.t 21)
    (.call 88 [.t 20, .c (.v (.int .i64 1))]), ma 2 21, nn (.v 3) (.mv true (.c (.v (.int .i64 0))))]).seq PC.ret))) [(.v 2, none), (.v 3, none)]
def pf54 : PF :=
  PF.mk 1 3 9 ((PC.reg [nn (.v 2) (.mv true (.c (.v (.int .i64 0))))]).seq (((PC.reg [mm 3 0, nn (.t 4) (.binP .eql (.t 3) (.c (.v .nilp)))]).seq
    (PC.cond (.t 4) ((PC.reg [nn (.v 2) (.mv true (.c (.v (.int .i64 0))))]).seq PC.ret) PC.skip)).seq ((PC.reg [mm 5 0, nn (.t 6) (.nilc (.t 5)), nn (.t
    7) (.fad0 (.t 6)), nn (.t 8) (.call 98 [.t 7]), ma 2 8]).seq PC.ret))) [(.v 2, none)]
def pf83 : PF :=
  PF.mk 2 2 9 (PC.reg [mm 4 0, nn (.t 5) (.nilc (.t 4)), nn (.t 6) (.fadr 2 0 (.t 5)), mm 7 1, nn (.t 8) (.atSt (.t 6) (.t 7))]) []
def pf88 : PF :=
  PF.mk 2 5 10 ((PC.reg [nn (.v 4) (.mv true (.c (.v (.int .i64 0))))]).seq ((PC.reg [mm 5 0, nn (.t 6) (.nilc (.t 5)), nn (.t 7) (.fadr 2 0 (.t 6)), mm
    8 1, nn (.t 9) (.atAdd (.t 7) (.t 8)), ma 4 9]).seq PC.ret)) [(.v 4, none)]
def pf98 : PF :=
  PF.mk 1 3 7 ((PC.reg [nn (.v 2) (.mv true (.c (.v (.int .i64 0))))]).seq ((PC.reg [mm 3 0, nn (.t 4) (.nilc (.t 3)), nn (.t 5) (.fadr 2 0 (.t 4)), nn
    (.t 6) (.atLd (.t 5)), ma 2 6]).seq PC.ret)) [(.v 2, none)]
def pf11 : PF :=
  PF.mk 2 8 24 ((PC.reg [nn (.v 4) (.mv true (.c (.v .nilp))), nn (.v 5) (.mv true (.c (.v (.int .i64 0))))]).seq ((PC.reg [mm 9 1, nn (.t 10) (.call 36
    [.t 9]), nn (.t 8) (.mv false (.t 10)), nn (.t 11) (.ext (.t 8) 0), nn (.t 12) (.ext (.t 8) 1), ma 6 11, ma 7 12]).seq (((PC.reg [mm 13 7, nn (.t 14)
    (.bin .neq (.t 13) (.c (.v (.int .i64 0)))), nn (.t 15) (.mv false (.t 14)), gm 16 0 15 false, ⟨.t 17, .call 37 [.t 16], some (.t 15, false)⟩, ⟨.t
    18, .un .not (.t 17), some (.t 15, false)⟩, nn (.t 19) (.pick (.t 15) (.c (.v (.bool true))) (.t 18))]).seq (PC.cond (.t 19) ((PC.reg [nn (.v 4) (.mv
    true (.c (.v .nilp))), nn (.v 5) (.mv true (.c (.v (.int .i64 1))))]).seq PC.ret) PC.skip)).seq ((PC.reg [mm 20 0, mm 21 6, nn (.t 22) (.build (.agg
    [.int .i64 0, .agg [.nils, .nils], .nilp, .int .i64 0, .bool false, .nils, .int .i64 0]) [(0, .t 20), (2, .t 21), (3, .c (.v (.int .i64 ((-1)))))]),
    nn (.t 23) (.newB (.t 22)), ma 4 23, nn (.v 5) (.mv true (.c (.v (.int .i64 0))))]).seq PC.ret)))) [(.v 4, none), (.v 5, none)]
def pf15 : PF :=
  PF.mk 2 8 56 ((PC.reg [nn (.v 3) (.box (.v 1)), nn (.v 4) (.mv true (.c (.v (.int .i64 0))))]).seq ((PC.block 0 ((PC.reg [mm 9 0, nn (.t 10) (.call 42
    [.t 9]), nn (.t 11) (.un .not (.t 10)), nn (.t 8) (.mv true (.t 11))]).seq (PC.cond (.t 8) ((PC.reg [nn (.v 4) (.mv true (.c (.v (.int .i64
    5))))]).seq PC.ret) ((PC.reg [mm 13 0, nn (.t 14) (.nilc (.t 13)), nn (.t 15) (.fadr 4 5 (.t 14)), nn (.t 16) (.load 1 false (.t 15)), nn (.t 12)
    (.mv true (.t 16))]).seq (PC.cond (.t 12) ((PC.reg [nn (.v 4) (.mv true (.c (.v (.int .i64 6))))]).seq PC.ret) ((PC.reg [nn (.t 18) (.load 35 true
    (.v 3)), nn (.t 19) (.call 43 [.t 18]), nn (.t 20) (.bin .neq (.t 19) (.c (.v (.int .i64 0)))), nn (.t 17) (.mv true (.t 20))]).seq (PC.cond (.t 17)
    ((PC.reg [nn (.v 4) (.mv true (.c (.v (.int .i64 1))))]).seq PC.ret) PC.skip))))))).seq ((PC.reg [mm 21 0, nn (.t 22) (.call 24 [.t 21]), nn (.t 23)
    (.bin .add (.t 22) (.c (.v (.int .i64 1)))), ma 5 23]).seq ((PC.regD 0 [mm 25 0, nn (.t 26) (.nilc (.t 25)), nn (.t 27) (.fadr 0 0 (.t 26)), nn (.t
    28) (.load 1 false (.t 27)), mm 29 5, nn (.t 30) (.load 35 true (.v 3)), nn (.t 31) (.call 44 [.t 28, .t 29, .t 30]), nn (.t 24) (.mv false (.t 31)),
    nn (.t 32) (.ext (.t 24) 0), nn (.t 33) (.ext (.t 24) 1), ma 6 32, ma 7 33] []).seq (((PC.reg [mm 34 7, nn (.t 35) (.bin .neq (.t 34) (.c (.v (.int
    .i64 0))))]).seq (PC.cond (.t 35) ((PC.reg [nn (.v 4) (.mv true (.c (.v (.int .i64 9))))]).seq PC.ret) PC.skip)).seq (((PC.reg [mm 36 0, mm 37 5, nn
    (.t 38) (.bin .rem (.t 37) (.c (.v (.int .i64 2)))), mm 39 6, nn (.t 40) (.call 45 [.t 36, .t 38, .t 39]), nn (.t 41) (.un .not (.t 40)), nn (.t 42)
    (.mv false (.t 41)), gm 43 0 42 false, ⟨.t 44, .call 46 [.t 43], some (.t 42, false)⟩, ⟨.t 45, .un .not (.t 44), some (.t 42, false)⟩, nn (.t 46)
    (.pick (.t 42) (.c (.v (.bool true))) (.t 45))]).seq (PC.cond (.t 46) ((PC.reg [nn (.v 4) (.mv true (.c (.v (.int .i64 6))))]).seq PC.ret)
    PC.skip)).seq ((PC.reg [mm 48 0, nn (.t 49) (.nilc (.t 48)), nn (.t 50) (.fadr 2 3 (.t 49)), nn (.t 51) (.load 1 false (.t 50)), nn (.t 52) (.call 47
    [.t 51]), nn (.t 47) (.mv false (.t 52)), nn (.t 53) (.ext (.t 47) 0), nn (.t 54) (.ext (.t 47) 1), ma 7 54]).seq ((PC.reg [nn (.t 55) (.mv true (.v
    7)), ma 4 55]).seq PC.ret)))))))) [(.v 4, none)]
def pf17 : PF :=
  PF.mk 2 2 11 ((PC.reg [mm 4 0, nn (.t 5) (.call 42 [.t 4])]).seq (PC.cond (.t 5) (PC.reg [mm 6 0, mm 7 1, nn (.t 8) (.mm true [.t 7, .c (.v (.int .i64
    ((-1))))]), nn (.t 9) (.nilc (.t 6)), nn (.t 10) (.fadr 3 4 (.t 9)), nn .no (.store 1 (.t 10) (.t 8))]) PC.skip)) []
def pf18 : PF :=
  PF.mk 2 6 64 (((PC.reg [mm 6 0, nn (.t 7) (.call 42 [.t 6]), nn (.t 8) (.un .not (.t 7))]).seq (PC.cond (.t 8) PC.ret PC.skip)).seq (((PC.reg [mm 9 0,
    nn (.t 10) (.nilc (.t 9)), nn (.t 11) (.fadr 5 6 (.t 10)), nn (.t 12) (.load 1 false (.t 11)), nn (.t 13) (.len (.t 12)), nn (.t 14) (.bin .gtr (.t
    13) (.c (.v (.int .i64 0))))]).seq (PC.cond (.t 14) ((PC.regD 0 [mm 15 0, nn (.t 16) (.nilc (.t 15)), nn (.t 17) (.fadr 5 6 (.t 16)), nn (.t 18)
    (.load 1 false (.t 17)), mm 19 1, nn (.t 20) (.mm true [.t 19, .c (.v (.int .i64 0))]), mm 21 0, nn (.t 22) (.nilc (.t 21)), nn (.t 23) (.fadr 5 6
    (.t 22)), nn (.t 24) (.load 1 false (.t 23)), nn (.t 25) (.len (.t 24)), nn (.t 26) (.mm false [.t 20, .t 25]), nn (.t 27) (.slcS 1 (.t 18) none
    (some (.t 26)) none), ma 4 27] []).seq ((PC.regD 0 [mm 28 0, mm 29 0, nn (.t 30) (.nilc (.t 29)), nn (.t 31) (.fadr 6 7 (.t 30)), nn (.t 32) (.load 1
    false (.t 31)), nn (.t 33) (.nilc (.t 28)), nn (.t 34) (.fadr 1 1 (.t 33)), nn (.t 35) (.iadrG 2 1 (.t 34) (.t 32)), nn (.t 36) (.load 1 false (.t
    35)), ma 5 36] []).seq (PC.regD 0 [mm 37 0, mm 38 0, nn (.t 39) (.nilc (.t 38)), nn (.t 40) (.fadr 6 7 (.t 39)), nn (.t 41) (.load 1 false (.t 40)),
    mm 42 4, mm 43 5, mm 44 4, nn (.t 45) (.len (.t 44)), mm 46 5, nn (.t 47) (.len (.t 46)), nn (.t 48) (.mm false [.t 45, .t 47]), nn (.t 49) (.slcS 1
    (.t 43) (some (.t 48)) none none), nn (.t 50) (.buildS none 1 .nils 2 [(0, .t 42), (1, .t 49)]), nn (.t 51) (.call 48 [.t 50]), nn (.t 52) (.nilc (.t
    37)), nn (.t 53) (.fadr 1 1 (.t 52)), nn (.t 54) (.iadrG 2 1 (.t 53) (.t 41)), nn .no (.store 1 (.t 54) (.t 51))] []))) PC.skip)).seq (PC.reg [mm 55
    0, mm 56 0, mm 57 0, nn (.t 58) (.nilc (.t 55)), nn (.t 59) (.fadr 5 6 (.t 58)), nn .no (.store 1 (.t 59) (.c (.own .nils))), nn (.t 60) (.nilc (.t
    56)), nn (.t 61) (.fadr 4 5 (.t 60)), nn .no (.store 1 (.t 61) (.c (.v (.bool false)))), nn (.t 62) (.nilc (.t 57)), nn (.t 63) (.fadr 3 4 (.t 62)),
    nn .no (.store 1 (.t 63) (.c (.v (.int .i64 ((-1))))))]))) []
def lp19_0 : PC :=
  (PC.reg [nn (.t 30) (.bin .lss (.v 29) (.c (.v (.int .i64 2))))]).seq ((PC.cond (.t 30) PC.skip (PC.exit 1)).seq ((PC.block 2 ((PC.reg [nn (.t 31)
    (.idxA 2 (.v 28) (.v 29)), ma 5 31]).seq ((PC.reg [mm 33 0, nn (.t 34) (.nilc (.t 33)), nn (.t 35) (.fadr 0 0 (.t 34)), nn (.t 36) (.load 1 false (.t
    35)), mm 37 5, nn (.t 38) (.call 49 [.t 36, .t 37]), nn (.t 32) (.mv false (.t 38)), nn (.t 39) (.ext (.t 32) 0), nn (.t 40) (.ext (.t 32) 1), nn (.t
    41) (.ext (.t 32) 2), nn (.v 7) (.alloc (.agg [.int .i64 0, .int .i64 0, .int .i64 0, .arr .u8 32 [0, 0, 0, 0, 0, 0, 0, 0, 0, 0, 0, 0, 0, 0, 0, 0, 0,
    0, 0, 0, 0, 0, 0, 0, 0, 0, 0, 0, 0, 0, 0, 0]])), ma 6 39, nn .no (.store 35 (.v 7) (.t 40)), ma 8 41]).seq ((PC.reg [mm 42 8, nn (.t 43) (.bin .eql
    (.t 42) (.c (.v (.int .i64 0)))), nn (.t 44) (.mv false (.t 43)), gm 45 6 44 true, gm 46 0 44 true, ⟨.t 47, .call 24 [.t 46], some (.t 44, true)⟩,
    ⟨.t 48, .bin .eql (.t 45) (.t 47), some (.t 44, true)⟩, nn (.t 49) (.pick (.t 44) (.t 48) (.c (.v (.bool false))))]).seq (PC.cond (.t 49) ((PC.reg
    [nn (.t 50) (.load 35 true (.v 7)), nn .no (.store 35 (.v 2) (.t 50)), nn (.v 3) (.mv true (.c (.v (.int .i64 0))))]).seq PC.ret) PC.skip))))).seq
    (PC.reg [nn (.t 51) (.bin .add (.v 29) (.c (.v (.int .i64 1)))), nn (.v 29) (.mv false (.t 51))])))
def pf19 : PF :=
  PF.mk 1 30 53 ((PC.reg [nn (.v 2) (.alloc (.agg [.int .i64 0, .int .i64 0, .int .i64 0, .arr .u8 32 [0, 0, 0, 0, 0, 0, 0, 0, 0, 0, 0, 0, 0, 0, 0, 0, 0,
    0, 0, 0, 0, 0, 0, 0, 0, 0, 0, 0, 0, 0, 0, 0]])), nn (.v 3) (.mv true (.c (.v (.int .i64 0))))]).seq ((PC.block 0 ((PC.reg [nn (.v 10) (.mv false (.v
    0)), nn (.v 11) (.call 42 [.v 10]), nn (.v 12) (.un .not (.v 11)), nn (.v 9) (.mv true (.v 12))]).seq (PC.cond (.v 9) ((PC.reg [nn (.v 13) (.build
    (.agg [.int .i64 0, .int .i64 0, .int .i64 0, .arr .u8 32 [0, 0, 0, 0, 0, 0, 0, 0, 0, 0, 0, 0, 0, 0, 0, 0, 0, 0, 0, 0, 0, 0, 0, 0, 0, 0, 0, 0, 0, 0,
    0, 0]]) []), nn .no (.store 35 (.v 2) (.v 13)), nn (.v 3) (.mv true (.c (.v (.int .i64 5))))]).seq PC.ret) ((PC.reg [nn (.v 15) (.mv false (.v 0)),
    nn (.v 16) (.nilc (.v 15)), nn (.v 17) (.fadr 4 5 (.v 16)), nn (.v 18) (.load 1 false (.v 17)), nn (.v 14) (.mv true (.v 18))]).seq (PC.cond (.v 14)
    ((PC.reg [nn (.v 19) (.build (.agg [.int .i64 0, .int .i64 0, .int .i64 0, .arr .u8 32 [0, 0, 0, 0, 0, 0, 0, 0, 0, 0, 0, 0, 0, 0, 0, 0, 0, 0, 0, 0,
    0, 0, 0, 0, 0, 0, 0, 0, 0, 0, 0, 0]]) []), nn .no (.store 35 (.v 2) (.v 19)), nn (.v 3) (.mv true (.c (.v (.int .i64 6))))]).seq PC.ret) ((PC.reg [nn
    (.v 21) (.mv false (.v 0)), nn (.v 22) (.call 24 [.v 21]), nn (.v 23) (.bin .eql (.v 22) (.c (.v (.int .i64 0)))), nn (.v 20) (.mv true (.v
    23))]).seq (PC.cond (.v 20) ((PC.reg [nn (.v 24) (.build (.agg [.int .i64 0, .int .i64 0, .int .i64 0, .arr .u8 32 [0, 0, 0, 0, 0, 0, 0, 0, 0, 0, 0,
    0, 0, 0, 0, 0, 0, 0, 0, 0, 0, 0, 0, 0, 0, 0, 0, 0, 0, 0, 0, 0]]) []), nn .no (.store 35 (.v 2) (.v 24)), nn (.v 3) (.mv true (.c (.v (.int .i64
    0))))]).seq PC.ret) PC.skip))))))).seq (((PC.reg [nn (.v 25) (.mv false (.v 0)), nn (.v 26) (.nilc (.v 25)), nn (.v 27) (.fadr 1 1 (.v 26)), nn (.v
    28) (.load 2 true (.v 27)), nn (.v 29) (.mv false (.c (.v (.int .i64 0))))]).seq (PC.block 1 (PC.loop [0, 2, 28, 29] lp19_0))).seq ((PC.reg [nn (.t
    52) (.build (.agg [.int .i64 0, .int .i64 0, .int .i64 0, .arr .u8 32 [0, 0, 0, 0, 0, 0, 0, 0, 0, 0, 0, 0, 0, 0, 0, 0, 0, 0, 0, 0, 0, 0, 0, 0, 0, 0,
    0, 0, 0, 0, 0, 0]]) []), nn .no (.store 35 (.v 2) (.t 52)), nn (.v 3) (.mv true (.c (.v (.int .i64 8))))]).seq PC.ret)))) [(.v 2, some (35, true)),
    (.v 3, none)]
def pf20 : PF :=
  PF.mk 1 3 12 ((PC.reg [nn (.v 2) (.mv true (.c (.v (.bool false))))]).seq ((PC.reg [mm 3 0, nn (.t 4) (.call 42 [.t 3]), nn (.t 5) (.un .not (.t 4)),
    nn (.t 6) (.mv false (.t 5)), gm 7 0 6 false, ⟨.t 8, .nilc (.t 7), some (.t 6, false)⟩, ⟨.t 9, .fadr 4 5 (.t 8), some (.t 6, false)⟩, ⟨.t 10, .load 1
    false (.t 9), some (.t 6, false)⟩, nn (.t 11) (.pick (.t 6) (.c (.v (.bool true))) (.t 10)), ma 2 11]).seq PC.ret)) [(.v 2, none)]
def pf21 : PF :=
  PF.mk 3 7 26 ((PC.reg [nn (.v 6) (.mv true (.c (.v (.int .i64 0))))]).seq ((PC.block 0 ((PC.reg [mm 8 0, nn (.t 9) (.call 42 [.t 8]), nn (.t 10) (.un
    .not (.t 9)), nn (.t 7) (.mv true (.t 10))]).seq (PC.cond (.t 7) ((PC.reg [nn (.v 6) (.mv true (.c (.v (.int .i64 5))))]).seq PC.ret) (((PC.reg [mm
    12 1, nn (.t 13) (.bin .lss (.t 12) (.c (.v (.int .i64 0)))), nn (.t 11) (.mv true (.t 13))]).seq (PC.cond (.t 11) PC.skip ((PC.reg [mm 14 1, nn (.t
    15) (.bin .geq (.t 14) (.c (.v (.int .i64 2)))), nn (.t 11) (.mv true (.t 15))]).seq (PC.cond (.t 11) PC.skip (PC.reg [mm 16 2, nn (.t 17) (.len (.t
    16)), nn (.t 18) (.bin .gtr (.t 17) (.c (.v (.int .i64 1000)))), nn (.t 11) (.mv true (.t 18))]))))).seq (PC.cond (.t 11) ((PC.reg [nn (.v 6) (.mv
    true (.c (.v (.int .i64 1))))]).seq PC.ret) PC.skip))))).seq ((PC.regD 0 [mm 19 0, mm 20 1, mm 21 2, nn (.t 22) (.call 50 [.t 21]), nn (.t 23) (.nilc
    (.t 19)), nn (.t 24) (.fadr 1 1 (.t 23)), nn (.t 25) (.iadrG 2 1 (.t 24) (.t 20)), nn .no (.store 1 (.t 25) (.t 22))] []).seq ((PC.reg [nn (.v 6)
    (.mv true (.c (.v (.int .i64 0))))]).seq PC.ret)))) [(.v 6, none)]
def pf23 : PF :=
  PF.mk 2 5 23 ((PC.reg [nn (.v 4) (.mv true (.c (.own .nils)))]).seq (((PC.reg [mm 5 0, nn (.t 6) (.call 42 [.t 5]), nn (.t 7) (.un .not (.t 6)), nn (.t
    8) (.mv false (.t 7)), gm 9 1 8 false, ⟨.t 10, .bin .lss (.t 9) (.c (.v (.int .i64 0))), some (.t 8, false)⟩, nn (.t 11) (.pick (.t 8) (.c (.v (.bool
    true))) (.t 10)), nn (.t 12) (.mv false (.t 11)), gm 13 1 12 false, ⟨.t 14, .bin .geq (.t 13) (.c (.v (.int .i64 2))), some (.t 12, false)⟩, nn (.t
    15) (.pick (.t 12) (.c (.v (.bool true))) (.t 14))]).seq (PC.cond (.t 15) ((PC.reg [nn (.v 4) (.mv true (.c (.own .nils)))]).seq PC.ret)
    PC.skip)).seq ((PC.reg [mm 16 0, mm 17 1, nn (.t 18) (.nilc (.t 16)), nn (.t 19) (.fadr 1 1 (.t 18)), nn (.t 20) (.iadrG 2 1 (.t 19) (.t 17)), nn (.t
    21) (.load 1 false (.t 20)), nn (.t 22) (.call 50 [.t 21]), ma 4 22]).seq PC.ret))) [(.v 4, none)]
def pf24 : PF :=
  PF.mk 1 3 11 ((PC.reg [nn (.v 2) (.mv true (.c (.v (.int .i64 0))))]).seq (((PC.reg [mm 3 0, nn (.t 4) (.call 42 [.t 3]), nn (.t 5) (.un .not (.t
    4))]).seq (PC.cond (.t 5) ((PC.reg [nn (.v 2) (.mv true (.c (.v (.int .i64 0))))]).seq PC.ret) PC.skip)).seq ((PC.reg [mm 6 0, nn (.t 7) (.nilc (.t
    6)), nn (.t 8) (.fadr 2 3 (.t 7)), nn (.t 9) (.load 1 false (.t 8)), nn (.t 10) (.call 54 [.t 9]), ma 2 10]).seq PC.ret))) [(.v 2, none)]
def pf42 : PF :=
  PF.mk 1 3 12 ((PC.reg [nn (.v 2) (.mv true (.c (.v (.bool false))))]).seq ((PC.reg [mm 3 0, nn (.t 4) (.binP .neq (.t 3) (.c (.v .nilp))), nn (.t 5)
    (.mv false (.t 4)), gm 6 0 5 true, ⟨.t 7, .nilc (.t 6), some (.t 5, true)⟩, ⟨.t 8, .fadr 2 3 (.t 7), some (.t 5, true)⟩, ⟨.t 9, .load 1 false (.t 8),
    some (.t 5, true)⟩, ⟨.t 10, .binP .neq (.t 9) (.c (.v .nilp)), some (.t 5, true)⟩, nn (.t 11) (.pick (.t 5) (.t 10) (.c (.v (.bool false)))), ma 2
    11]).seq PC.ret)) [(.v 2, none)]
def pf45 : PF :=
  PF.mk 3 7 24 ((PC.reg [nn (.v 6) (.mv true (.c (.v (.bool false))))]).seq (((PC.reg [mm 7 0, nn (.t 8) (.call 46 [.t 7]), nn (.t 9) (.un .not (.t
    8))]).seq (PC.cond (.t 9) ((PC.reg [mm 10 0, mm 11 0, mm 12 2, mm 13 1, nn (.t 14) (.nilc (.t 10)), nn (.t 15) (.fadr 5 6 (.t 14)), nn .no (.store 1
    (.t 15) (.t 12)), nn (.t 16) (.nilc (.t 11)), nn (.t 17) (.fadr 6 7 (.t 16)), nn .no (.store 1 (.t 17) (.t 13))]).seq ((PC.reg [nn (.v 6) (.mv true
    (.c (.v (.bool false))))]).seq PC.ret)) PC.skip)).seq ((PC.reg [mm 18 0, mm 19 1, mm 20 2, nn (.t 21) (.nilc (.t 18)), nn (.t 22) (.fadr 1 1 (.t
    21)), nn (.t 23) (.iadrG 2 1 (.t 22) (.t 19)), nn .no (.store 1 (.t 23) (.t 20))]).seq ((PC.reg [nn (.v 6) (.mv true (.c (.v (.bool true))))]).seq
    PC.ret)))) [(.v 6, none)]
def pf46 : PF :=
  PF.mk 1 3 23 ((PC.reg [nn (.v 2) (.mv true (.c (.v (.bool false))))]).seq (((PC.reg [mm 3 0, nn (.t 4) (.nilc (.t 3)), nn (.t 5) (.fadr 3 4 (.t 4)), nn
    (.t 6) (.load 1 false (.t 5)), nn (.t 7) (.bin .eql (.t 6) (.c (.v (.int .i64 0))))]).seq (PC.cond (.t 7) ((PC.reg [mm 8 0, nn (.t 9) (.nilc (.t 8)),
    nn (.t 10) (.fadr 4 5 (.t 9)), nn .no (.store 1 (.t 10) (.c (.v (.bool true))))]).seq ((PC.reg [nn (.v 2) (.mv true (.c (.v (.bool false))))]).seq
    PC.ret)) PC.skip)).seq (((PC.reg [mm 11 0, nn (.t 12) (.nilc (.t 11)), nn (.t 13) (.fadr 3 4 (.t 12)), nn (.t 14) (.load 1 false (.t 13)), nn (.t 15)
    (.bin .gtr (.t 14) (.c (.v (.int .i64 0))))]).seq (PC.cond (.t 15) (PC.reg [mm 16 0, nn (.t 17) (.nilc (.t 16)), nn (.t 18) (.fadr 3 4 (.t 17)), nn
    (.t 19) (.load 1 false (.t 18)), nn (.t 20) (.bin .sub (.t 19) (.c (.v (.int .i64 1)))), nn (.t 21) (.nilc (.t 16)), nn (.t 22) (.fadr 3 4 (.t 21)),
    nn .no (.store 1 (.t 22) (.t 20))]) PC.skip)).seq ((PC.reg [nn (.v 2) (.mv true (.c (.v (.bool true))))]).seq PC.ret)))) [(.v 2, none)]
attribute [local irreducible] W Wops WopsD WL Wop WopD
variable {E : Env} {C : Abs.Spec} {l : List (Nat × Spec1)} {G : List (Nat × V)} {Q : R → List (Nat × V) → Prop}
set_option maxHeartbeats 1000000
abbrev CT (a : Int) (b : Bool) : V := .agg [.agg [.agg [], .agg [], .int .i64 (a)], .bool (b)]
def mxC : Int := 1099511627776
/-- A counter, or nobody's. -/
def CV (G : List (Nat × V)) (x : V) (a : Int) (b : Bool) : Prop := (x = .nilp ∧ a = 0 ∧ b = false) ∨ ∃ id, x = .ptr id ∧ Abs.look G id = some (CT a b)
def updC (G : List (Nat × V)) (x : V) (a : Int) (b : Bool) : List (Nat × V) := match x with
  | .ptr id => upd G id (CT a b)
  | _ => G
def upN (a : Int) (b : Bool) : Int := if b = true then (if a = 1099511627776 then 0 else a + 1) else 0
def upE (a : Int) (b : Bool) : Int := if b = true then (if a = 1099511627776 then 9 else 0) else 5
def upA (a : Int) (b : Bool) : Int := if b = true then (if a = 1099511627776 then a else a + 1) else a
def okC (a : Int) : Prop := 0 ≤ a ∧ a ≤ 1099511627776
instance (a : Int) : Decidable (okC a) := by unfold okC; infer_instance
theorem detIfN {c : Prop} {Q : R → Prop} {G : List (Nat × V)} {x : Nat → V} {a : Nat → R} {b : R} (h : (c → ∀ id, Abs.look G id = none → ((id, x id) :: G) = G ∧ Q (a id)) ∧ (¬ c → G = G ∧ Q b)) :
    ∃ r, Q r ∧ ∀ Q' : R → List (Nat × V) → Prop, Q' r G → (c → ∀ id, Abs.look G id = none → Q' (a id) ((id, x id) :: G)) ∧ (¬ c → Q' b G) := by
  by_cases hc : c
  · exact detN (h.1 hc)
  · exact ⟨b, (h.2 hc).2, fun Q' h' => ⟨fun n => absurd n hc, fun _ => h'⟩⟩
def S44 : Spec1
  | [.ptr id, .int .i64 n], G, Q => ∃ a b, Abs.look G id = some (CT a b) ∧ Q (.tup []) (upd G id (CT n b))
  | _, _, _ => False
theorem S44_eq {id n} : S44 [.ptr id, .int .i64 n] G Q = (∃ a b, Abs.look G id = some (CT a b) ∧ Q (.tup []) (upd G id (CT n b))) := rfl
def S45 : Spec1
  | [.ptr id, .int .i64 n], G, Q => ∃ a b, Abs.look G id = some (CT a b) ∧ Q (.v (.int .i64 (IntKind.i64.wrap (a + n)))) (upd G id (CT (IntKind.i64.wrap (a + n)) b))
  | _, _, _ => False
theorem S45_eq {id n} : S45 [.ptr id, .int .i64 n] G Q = (∃ a b, Abs.look G id = some (CT a b) ∧ Q (.v (.int .i64 (IntKind.i64.wrap (a + n)))) (upd G id (CT (IntKind.i64.wrap (a + n)) b))) := rfl
def S46 : Spec1
  | [.ptr id], G, Q => ∃ a b, Abs.look G id = some (CT a b) ∧ Q (.v (.int .i64 a)) G
  | _, _, _ => False
theorem S46_eq {id} : S46 [.ptr id] G Q = (∃ a b, Abs.look G id = some (CT a b) ∧ Q (.v (.int .i64 a)) G) := rfl
def S30 : Spec1
  | [x], G, Q => ∃ a b, CV G x a b ∧ Q (.v (.int .i64 a)) G
  | _, _, _ => False
theorem S30_eq {x} : S30 [x] G Q = (∃ a b, CV G x a b ∧ Q (.v (.int .i64 a)) G) := rfl
def S28 : Spec1
  | [x], G, Q => ∃ a b, (CV G x a b ∧ (b = true → okC a)) ∧ Q (.tup [.int .i64 (upN a b), .int .i64 (upE a b)]) (updC G x (upA a b) b)
  | _, _, _ => False
theorem S28_eq {x} : S28 [x] G Q = (∃ a b, (CV G x a b ∧ (b = true → okC a)) ∧ Q (.tup [.int .i64 (upN a b), .int .i64 (upE a b)]) (updC G x (upA a b) b)) := rfl
def S26 : Spec1
  | [.int .i64 n], G, Q => (okC n → ∀ id, Abs.look G id = none → Q (.tup [.ptr id, .int .i64 0]) ((id, CT n true) :: G)) ∧ (¬ okC n → Q (.tup [.nilp, .int .i64 1]) G)
  | _, _, _ => False
theorem S26_eq {n} : S26 [.int .i64 n] G Q = ((okC n → ∀ id, Abs.look G id = none → Q (.tup [.ptr id, .int .i64 0]) ((id, CT n true) :: G)) ∧ (¬ okC n → Q (.tup [.nilp, .int .i64 1]) G)) := rfl
theorem detS26 : S26.Det := by
  intro vs G Q h
  unfold S26 at h ⊢
  split at h
  · exact detIfN (x := fun _ => _) (a := fun id => .tup [.ptr id, .int .i64 0]) h
  · exact h.elim
theorem walk83 {id : Nat} {n a : Int} {b : Bool} (hL : Abs.look G id = some (CT a b)) (h : Q (.tup []) (upd G id (CT n b))) : Wf E C pf83 [.ptr id, .int .i64 n] G Q := by
  simp (maxSteps := 1000000) (implicitDefEqProofs := false) only [pf83, hL, go_sem, ↓reduceIte, decide_eq_true_eq, decide_eq_false_iff_not, ge_iff_le, gt_iff_lt, Int.not_le, Int.not_lt, Bool.not_eq_true', Bool.not_eq_false', Bool.and_eq_true, Bool.and_eq_false_iff]
  exact h
theorem walk88 {id : Nat} {n a : Int} {b : Bool} (hL : Abs.look G id = some (CT a b)) (h : Q (.v (.int .i64 (IntKind.i64.wrap (a + n)))) (upd G id (CT (IntKind.i64.wrap (a + n)) b))) : Wf E C pf88 [.ptr id, .int .i64 n] G Q := by
  simp (maxSteps := 1000000) (implicitDefEqProofs := false) only [pf88, hL, go_sem, ↓reduceIte, decide_eq_true_eq, decide_eq_false_iff_not, ge_iff_le, gt_iff_lt, Int.not_le, Int.not_lt, Bool.not_eq_true', Bool.not_eq_false', Bool.and_eq_true, Bool.and_eq_false_iff]
  exact h
theorem walk98 {id : Nat} {a : Int} {b : Bool} (hL : Abs.look G id = some (CT a b)) (h : Q (.v (.int .i64 a)) G) : Wf E C pf98 [.ptr id] G Q := by
  simp (maxSteps := 1000000) (implicitDefEqProofs := false) only [pf98, hL, go_sem, ↓reduceIte, decide_eq_true_eq, decide_eq_false_iff_not, ge_iff_le, gt_iff_lt, Int.not_le, Int.not_lt, Bool.not_eq_true', Bool.not_eq_false', Bool.and_eq_true, Bool.and_eq_false_iff]
  exact h
theorem walk54 {x : V} {a : Int} {b : Bool} (h46 : Abs.look l 98 = some S46) (hx : CV G x a b) (h : Q (.v (.int .i64 a)) G) : Wf E (specOf l) pf54 [x] G Q := by
  rcases hx with ⟨rfl, rfl, rfl⟩ | ⟨id, rfl, hL⟩
  · simp (maxSteps := 1000000) (implicitDefEqProofs := false) only [pf54, go_sem, ↓reduceIte, decide_eq_true_eq, decide_eq_false_iff_not, ge_iff_le, gt_iff_lt, Int.not_le, Int.not_lt, Bool.not_eq_true', Bool.not_eq_false', Bool.and_eq_true, Bool.and_eq_false_iff]
    exact h
  · simp (maxSteps := 1000000) (implicitDefEqProofs := false) only [pf54, h46, S46_eq, hL, go_sem, ↓reduceIte, decide_eq_true_eq, decide_eq_false_iff_not, ge_iff_le, gt_iff_lt, Int.not_le, Int.not_lt, Bool.not_eq_true', Bool.not_eq_false', Bool.and_eq_true, Bool.and_eq_false_iff]
    exact ⟨a, b, rfl, h⟩
theorem walk47 {x : V} {a : Int} {b : Bool} (h30 : Abs.look l 54 = some S30) (h45 : Abs.look l 88 = some S45) (hx : CV G x a b) (ha : b = true → okC a) (h : Q (.tup [.int .i64 (upN a b), .int .i64 (upE a b)]) (updC G x (upA a b) b)) : Wf E (specOf l) pf47 [x] G Q := by
  have hx' := hx
  unfold upN upE upA at h
  rcases hx with ⟨rfl, rfl, rfl⟩ | ⟨id, rfl, hL⟩
  · simp (maxSteps := 1000000) (implicitDefEqProofs := false) only [pf47, go_sem, ↓reduceIte, decide_eq_true_eq, decide_eq_false_iff_not, ge_iff_le, gt_iff_lt, Int.not_le, Int.not_lt, Bool.not_eq_true', Bool.not_eq_false', Bool.and_eq_true, Bool.and_eq_false_iff]
    exact h
  · cases b with
    | false =>
      simp (maxSteps := 1000000) (implicitDefEqProofs := false) only [pf47, hL, go_sem, ↓reduceIte, decide_eq_true_eq, decide_eq_false_iff_not, ge_iff_le, gt_iff_lt, Int.not_le, Int.not_lt, Bool.not_eq_true', Bool.not_eq_false', Bool.and_eq_true, Bool.and_eq_false_iff]
      simp only [updC] at h
      have e := upd_self hL
      rw [show (if false = true then (if a = 1099511627776 then a else a + 1) else a) = a from rfl, e] at h
      exact h
    | true =>
      have ha := ha rfl
      unfold okC at ha
      simp only [if_pos] at h
      by_cases e : a = 1099511627776
      · subst e
        simp (maxSteps := 1000000) (implicitDefEqProofs := false) only [pf47, hL, h30, S30_eq, go_sem, ↓reduceIte, decide_eq_true_eq, decide_eq_false_iff_not, ge_iff_le, gt_iff_lt, Int.not_le, Int.not_lt, Bool.not_eq_true', Bool.not_eq_false', Bool.and_eq_true, Bool.and_eq_false_iff]
        simp only [if_pos, updC] at h
        rw [upd_self hL] at h
        exact ⟨_, true, hx', fun _ => h, fun c => absurd rfl c⟩
      · rw [if_neg e, if_neg e, if_neg e] at h
        simp only [updC] at h
        simp (maxSteps := 1000000) (implicitDefEqProofs := false) only [pf47, hL, h30, S30_eq, h45, S45_eq, go_sem, ↓reduceIte, decide_eq_true_eq, decide_eq_false_iff_not, ge_iff_le, gt_iff_lt, Int.not_le, Int.not_lt, Bool.not_eq_true', Bool.not_eq_false', Bool.and_eq_true, Bool.and_eq_false_iff]
        refine ⟨a, true, hx', fun c => absurd c e, fun _ => ?_⟩
        skip
        refine ⟨a, true, rfl, ?_⟩
        rw [w64 (by omega) (by omega)]; exact h
theorem walk36 {n : Int} (h44 : Abs.look l 83 = some S44) (h1 : okC n → ∀ id, Abs.look G id = none → Q (.tup [.ptr id, .int .i64 0]) ((id, CT n true) :: G)) (h2 : ¬ okC n → Q (.tup [.nilp, .int .i64 1]) G) : Wf E (specOf l) pf36 [.int .i64 n] G Q := by
  by_cases hn : okC n
  · have h1 := h1 hn
    unfold okC at hn
    simp (maxSteps := 1000000) (implicitDefEqProofs := false) (disch := omega) only [pf36, h44, S44_eq, go_sem, ↓reduceIte, decide_eq_true_eq, decide_eq_false_iff_not, ge_iff_le, gt_iff_lt, Int.not_le, Int.not_lt, w64, Bool.not_eq_true', Bool.not_eq_false', Bool.and_eq_true, Bool.and_eq_false_iff]
    exact ⟨fun c => by omega, fun _ => ⟨fun c => by omega, fun _ id hid => ⟨_, _, rfl, h1 id hid⟩⟩⟩
  · have h2 := h2 hn
    unfold okC at hn
    simp (maxSteps := 1000000) (implicitDefEqProofs := false) (disch := omega) only [pf36, h44, S44_eq, go_sem, ↓reduceIte, decide_eq_true_eq, decide_eq_false_iff_not, ge_iff_le, gt_iff_lt, Int.not_le, Int.not_lt, w64, Bool.not_eq_true', Bool.not_eq_false', Bool.and_eq_true, Bool.and_eq_false_iff]
    exact ⟨fun _ => h2, fun c1 => ⟨fun _ => h2, fun c2 => absurd ⟨c1, c2⟩ hn⟩⟩
abbrev ZV : V := .agg [.int .i64 0, .agg [.nils, .nils], .nilp, .int .i64 0, .bool false, .nils, .int .i64 0]
/-- Nobody's vault. -/
def NB (G : List (Nat × V)) (x : V) : Prop := x = .nilp ∨ ∃ id, x = .ptr id ∧ Abs.look G id = some ZV
structure VS where
  i : Int
  s0 : V
  s1 : V
  c : Nat
  a : Int
  d : Bool
  h : V
  k : Int
  id : Nat
  n : Int
abbrev VS.val (s : VS) : V := .agg [.int .i64 s.i, .agg [s.s0, s.s1], .ptr s.c, .int .i64 s.a, .bool s.d, s.h, .int .i64 s.k]
structure VS.at (s : VS) (G : List (Nat × V)) (x : V) : Prop where
  x : x = .ptr s.id
  v : Abs.look G s.id = some s.val
  c : Abs.look G s.c = some (CT s.n true)
  ne : s.c ≠ s.id
  ok : okC s.n
  z0 : ∃ b, byV s.s0 = some b
  z1 : ∃ b, byV s.s1 = some b
def ISV (G : List (Nat × V)) (x : V) (b : Bool) : Prop := (NB G x ∧ b = false) ∨ ∃ s : VS, s.at G x ∧ b = true
def ATV (G : List (Nat × V)) (x : V) (n : Int) : Prop := (NB G x ∧ n = 0) ∨ ∃ s : VS, s.at G x ∧ n = s.n
def DDV (G : List (Nat × V)) (x : V) (b : Bool) : Prop := (NB G x ∧ b = true) ∨ ∃ s : VS, s.at G x ∧ b = s.d
def VS.slot (s : VS) (k : Int) : V := if k = 0 then s.s0 else s.s1
def VS.put (s : VS) (k : Int) (y : V) : VS := if k = 0 then { s with s0 := y } else { s with s1 := y }
def Ext (G G' : List (Nat × V)) : Prop := ∀ id x, Abs.look G id = some x → Abs.look G' id = some x
theorem Ext.refl (G : List (Nat × V)) : Ext G G := fun _ _ h => h
theorem Ext.cons {G : List (Nat × V)} {id : Nat} {x : V} (h : Abs.look G id = none) : Ext G ((id, x) :: G) := by
  intro j y hj
  rw [look_cons, if_neg]; exact hj
  rintro rfl; rw [h] at hj; cases hj
theorem Ext.trans {G G' G'' : List (Nat × V)} (h : Ext G G') (h' : Ext G' G'') : Ext G G'' := fun id x hx => h' id x (h id x hx)
theorem VS.at.ext {s : VS} {G G' : List (Nat × V)} {x : V} (h : s.at G x) (e : Ext G G') : s.at G' x := ⟨h.x, e _ _ h.v, e _ _ h.c, h.ne, h.ok, h.z0, h.z1⟩
theorem NB.ext {G G' : List (Nat × V)} {x : V} (h : NB G x) (e : Ext G G') : NB G' x := by
  rcases h with h | ⟨id, h1, h2⟩
  · exact .inl h
  · exact .inr ⟨id, h1, e _ _ h2⟩
theorem by_size {x : V} {b : List Int} (h : byV x = some b) : V.size x = 1 ∧ V.isAgg x = false := by
  rcases byV_cases h with rfl | ⟨rfl, rfl⟩ <;> exact ⟨rfl, rfl⟩
theorem two_sz {x y : V} (hx : V.size x = 1) (hy : V.size y = 1) : ∀ z ∈ [x, y], V.size z = 1 := by
  intro z hz
  simp only [List.mem_cons, List.not_mem_nil, or_false] at hz
  rcases hz with rfl | rfl
  · exact hx
  · exact hy
theorem two_sza {x y : V} (hx : V.size x = 1 ∧ V.isAgg x = false) (hy : V.size y = 1 ∧ V.isAgg y = false) : ∀ z ∈ [x, y], V.size z = 1 ∧ V.isAgg z = false := by
  intro z hz
  simp only [List.mem_cons, List.not_mem_nil, or_false] at hz
  rcases hz with rfl | rfl
  · exact hx
  · exact hy
/-- What is loaded. -/
def loadV (kt : List Int) (i n : Int) (b0 b1 : List Int) : SealS × Int :=
  if n = 0 then (.zero, 0) else if (getBlob kt i b0).2.2 = 0 ∧ (getBlob kt i b0).1 = n then ((getBlob kt i b0).2.1, 0)
  else if (getBlob kt i b1).2.2 = 0 ∧ (getBlob kt i b1).1 = n then ((getBlob kt i b1).2.1, 0) else (.zero, 8)
def SIs : Spec1
  | [x], G, Q => ∃ b, ISV G x b ∧ Q (.v (.bool b)) G
  | _, _, _ => False
theorem SIs_eq {x} : SIs [x] G Q = (∃ b, ISV G x b ∧ Q (.v (.bool b)) G) := rfl
def SVat : Spec1
  | [x], G, Q => ∃ n, ATV G x n ∧ Q (.v (.int .i64 n)) G
  | _, _, _ => False
theorem SVat_eq {x} : SVat [x] G Q = (∃ n, ATV G x n ∧ Q (.v (.int .i64 n)) G) := rfl
def SDead : Spec1
  | [x], G, Q => ∃ b, DDV G x b ∧ Q (.v (.bool b)) G
  | _, _, _ => False
theorem SDead_eq {x} : SDead [x] G Q = (∃ b, DDV G x b ∧ Q (.v (.bool b)) G) := rfl
def SNob : Spec1
  | [x, .int .i64 n], G, Q => NB G x ∧ Q (.tup []) G
  | _, _, _ => False
theorem SNob_eq {x n} : SNob [x, .int .i64 n] G Q = (NB G x ∧ Q (.tup []) G) := rfl
def SStep : Spec1
  | [x], G, Q => ∃ s : VS, (s.at G x ∧ s.a = -1) ∧ Q (.v (.bool true)) G
  | _, _, _ => False
theorem SStep_eq {x} : SStep [x] G Q = (∃ s : VS, (s.at G x ∧ s.a = -1) ∧ Q (.v (.bool true)) G) := rfl
def SWr : Spec1
  | [x, .int .i64 k, y], G, Q => ∃ s : VS, (s.at G x ∧ s.a = -1 ∧ (k = 0 ∨ k = 1) ∧ ∃ b, y = .sli .u8 b) ∧ Q (.v (.bool true)) (upd G s.id (s.put k y).val)
  | _, _, _ => False
theorem SWr_eq {x k y} : SWr [x, .int .i64 k, y] G Q = (∃ s : VS, (s.at G x ∧ s.a = -1 ∧ (k = 0 ∨ k = 1) ∧ ∃ b, y = .sli .u8 b) ∧ Q (.v (.bool true)) (upd G s.id (s.put k y).val)) := rfl
theorem walk42 {x : V} {b : Bool} (hx : ISV G x b) (h : Q (.v (.bool b)) G) : Wf E C pf42 [x] G Q := by
  rcases hx with ⟨rfl | ⟨id, rfl, hL⟩, rfl⟩ | ⟨s, hs, rfl⟩
  · simp (maxSteps := 1000000) (implicitDefEqProofs := false) only [pf42, go_sem, ↓reduceIte, decide_eq_true_eq, decide_eq_false_iff_not, ge_iff_le, gt_iff_lt, Int.not_le, Int.not_lt, Bool.not_eq_true', Bool.not_eq_false', Bool.and_eq_true, Bool.and_eq_false_iff]
    exact h
  · simp (maxSteps := 1000000) (implicitDefEqProofs := false) only [pf42, hL, go_sem, ↓reduceIte, decide_eq_true_eq, decide_eq_false_iff_not, ge_iff_le, gt_iff_lt, Int.not_le, Int.not_lt, Bool.not_eq_true', Bool.not_eq_false', Bool.and_eq_true, Bool.and_eq_false_iff]
    exact h
  · obtain ⟨rfl, hv, hc, hne, hok, ⟨b0, z0⟩, ⟨b1, z1⟩⟩ := hs
    obtain ⟨g0, _⟩ := by_size z0
    obtain ⟨g1, _⟩ := by_size z1
    simp (maxSteps := 1000000) (implicitDefEqProofs := false) only [pf42, hv, g0, g1, go_sem, ↓reduceIte, decide_eq_true_eq, decide_eq_false_iff_not, ge_iff_le, gt_iff_lt, Int.not_le, Int.not_lt, Bool.not_eq_true', Bool.not_eq_false', Bool.and_eq_true, Bool.and_eq_false_iff]
    exact h
theorem walk24 {x : V} {n : Int} (h1 : Abs.look l 42 = some SIs) (h2 : Abs.look l 54 = some S30) (hx : ATV G x n) (h : Q (.v (.int .i64 n)) G) : Wf E (specOf l) pf24 [x] G Q := by
  rcases hx with ⟨hn, rfl⟩ | ⟨s, hs, rfl⟩
  · simp (maxSteps := 1000000) (implicitDefEqProofs := false) only [pf24, h1, SIs_eq, go_sem, ↓reduceIte, decide_eq_true_eq, decide_eq_false_iff_not, ge_iff_le, gt_iff_lt, Int.not_le, Int.not_lt, Bool.not_eq_true', Bool.not_eq_false', Bool.and_eq_true, Bool.and_eq_false_iff]
    refine ⟨false, .inl ⟨hn, rfl⟩, ?_⟩
    try simp (maxSteps := 1000000) (implicitDefEqProofs := false) only [go_sem, ↓reduceIte, decide_eq_true_eq, decide_eq_false_iff_not, ge_iff_le, gt_iff_lt, Int.not_le, Int.not_lt, Bool.not_eq_true', Bool.not_eq_false', Bool.and_eq_true, Bool.and_eq_false_iff]
    exact h
  · have hs' := hs
    obtain ⟨rfl, hv, hc, hne, hok, ⟨b0, z0⟩, ⟨b1, z1⟩⟩ := hs
    obtain ⟨g0, _⟩ := by_size z0
    obtain ⟨g1, _⟩ := by_size z1
    simp (maxSteps := 1000000) (implicitDefEqProofs := false) only [pf24, h1, SIs_eq, h2, S30_eq, hv, g0, g1, go_sem, ↓reduceIte, decide_eq_true_eq, decide_eq_false_iff_not, ge_iff_le, gt_iff_lt, Int.not_le, Int.not_lt, Bool.not_eq_true', Bool.not_eq_false', Bool.and_eq_true, Bool.and_eq_false_iff]
    refine ⟨true, .inr ⟨s, hs', rfl⟩, ?_⟩
    simp (maxSteps := 1000000) (implicitDefEqProofs := false) only [h2, S30_eq, hv, g0, g1, go_sem, ↓reduceIte, decide_eq_true_eq, decide_eq_false_iff_not, ge_iff_le, gt_iff_lt, Int.not_le, Int.not_lt, Bool.not_eq_true', Bool.not_eq_false', Bool.and_eq_true, Bool.and_eq_false_iff]
    exact ⟨s.n, true, .inr ⟨s.c, rfl, hc⟩, h⟩
theorem walk20 {x : V} {b : Bool} (h1 : Abs.look l 42 = some SIs) (hx : DDV G x b) (h : Q (.v (.bool b)) G) : Wf E (specOf l) pf20 [x] G Q := by
  rcases hx with ⟨hn, rfl⟩ | ⟨s, hs, rfl⟩
  · simp (maxSteps := 1000000) (implicitDefEqProofs := false) only [pf20, h1, SIs_eq, go_sem, ↓reduceIte, decide_eq_true_eq, decide_eq_false_iff_not, ge_iff_le, gt_iff_lt, Int.not_le, Int.not_lt, Bool.not_eq_true', Bool.not_eq_false', Bool.and_eq_true, Bool.and_eq_false_iff]
    refine ⟨false, .inl ⟨hn, rfl⟩, ?_⟩
    try simp (maxSteps := 1000000) (implicitDefEqProofs := false) only [go_sem, ↓reduceIte, decide_eq_true_eq, decide_eq_false_iff_not, ge_iff_le, gt_iff_lt, Int.not_le, Int.not_lt, Bool.not_eq_true', Bool.not_eq_false', Bool.and_eq_true, Bool.and_eq_false_iff]
    exact h
  · have hs' := hs
    obtain ⟨rfl, hv, hc, hne, hok, ⟨b0, z0⟩, ⟨b1, z1⟩⟩ := hs
    obtain ⟨g0, _⟩ := by_size z0
    obtain ⟨g1, _⟩ := by_size z1
    simp (maxSteps := 1000000) (implicitDefEqProofs := false) only [pf20, h1, SIs_eq, hv, g0, g1, go_sem, ↓reduceIte, decide_eq_true_eq, decide_eq_false_iff_not, ge_iff_le, gt_iff_lt, Int.not_le, Int.not_lt, Bool.not_eq_true', Bool.not_eq_false', Bool.and_eq_true, Bool.and_eq_false_iff]
    refine ⟨true, .inr ⟨s, hs', rfl⟩, ?_⟩
    try simp (maxSteps := 1000000) (implicitDefEqProofs := false) only [go_sem, ↓reduceIte, decide_eq_true_eq, decide_eq_false_iff_not, ge_iff_le, gt_iff_lt, Int.not_le, Int.not_lt, Bool.not_eq_true', Bool.not_eq_false', Bool.and_eq_true, Bool.and_eq_false_iff]
    exact h
theorem walk17 {x : V} {n : Int} (h1 : Abs.look l 42 = some SIs) (hx : NB G x) (h : Q (.tup []) G) : Wf E (specOf l) pf17 [x, .int .i64 n] G Q := by
  simp (maxSteps := 1000000) (implicitDefEqProofs := false) only [pf17, h1, SIs_eq, go_sem, ↓reduceIte, decide_eq_true_eq, decide_eq_false_iff_not, ge_iff_le, gt_iff_lt, Int.not_le, Int.not_lt, Bool.not_eq_true', Bool.not_eq_false', Bool.and_eq_true, Bool.and_eq_false_iff]
  refine ⟨false, .inl ⟨hx, rfl⟩, ?_⟩
  try simp (maxSteps := 1000000) (implicitDefEqProofs := false) only [go_sem, ↓reduceIte, decide_eq_true_eq, decide_eq_false_iff_not, ge_iff_le, gt_iff_lt, Int.not_le, Int.not_lt, Bool.not_eq_true', Bool.not_eq_false', Bool.and_eq_true, Bool.and_eq_false_iff]
  exact h
theorem walk18 {x : V} {n : Int} (h1 : Abs.look l 42 = some SIs) (hx : NB G x) (h : Q (.tup []) G) : Wf E (specOf l) pf18 [x, .int .i64 n] G Q := by
  simp (maxSteps := 1000000) (implicitDefEqProofs := false) only [pf18, h1, SIs_eq, go_sem, ↓reduceIte, decide_eq_true_eq, decide_eq_false_iff_not, ge_iff_le, gt_iff_lt, Int.not_le, Int.not_lt, Bool.not_eq_true', Bool.not_eq_false', Bool.and_eq_true, Bool.and_eq_false_iff]
  refine ⟨false, .inl ⟨hx, rfl⟩, ?_⟩
  try simp (maxSteps := 1000000) (implicitDefEqProofs := false) only [go_sem, ↓reduceIte, decide_eq_true_eq, decide_eq_false_iff_not, ge_iff_le, gt_iff_lt, Int.not_le, Int.not_lt, Bool.not_eq_true', Bool.not_eq_false', Bool.and_eq_true, Bool.and_eq_false_iff]
  exact h
theorem walk46 {x : V} {s : VS} (hs : s.at G x) (ha : s.a = -1) (h : Q (.v (.bool true)) G) : Wf E C pf46 [x] G Q := by
  obtain ⟨rfl, hv, hc, hne, hok, ⟨b0, z0⟩, ⟨b1, z1⟩⟩ := hs
  obtain ⟨g0, _⟩ := by_size z0
  obtain ⟨g1, _⟩ := by_size z1
  unfold VS.val at hv
  rw [ha] at hv
  simp (maxSteps := 1000000) (implicitDefEqProofs := false) only [pf46, hv, g0, g1, go_sem, ↓reduceIte, decide_eq_true_eq, decide_eq_false_iff_not, ge_iff_le, gt_iff_lt, Int.not_le, Int.not_lt, Bool.not_eq_true', Bool.not_eq_false', Bool.and_eq_true, Bool.and_eq_false_iff]
  exact h
theorem walk45 {x y : V} {k : Int} {s : VS} (h1 : Abs.look l 46 = some SStep) (hs : s.at G x) (ha : s.a = -1) (hk : k = 0 ∨ k = 1) (hy : ∃ b, y = .sli .u8 b) (h : Q (.v (.bool true)) (upd G s.id (s.put k y).val)) : Wf E (specOf l) pf45 [x, .int .i64 k, y] G Q := by
  have hs' := hs
  obtain ⟨rfl, hv, hc, hne, hok, ⟨b0, z0⟩, ⟨b1, z1⟩⟩ := hs
  obtain ⟨b, rfl⟩ := hy
  rcases byV_cases z0 with e0 | ⟨e0, rfl⟩ <;> rcases byV_cases z1 with e1 | ⟨e1, rfl⟩ <;> unfold VS.val at hv <;> rw [e0, e1] at hv <;> rcases hk with rfl | rfl <;>
    (simp only [VS.put, VS.val, if_true, reduceIte, Int.reduceEq, e0, e1] at h) <;>
    (simp (maxSteps := 1000000) (implicitDefEqProofs := false) only [pf45, h1, SStep_eq, hv, go_sem, ↓reduceIte, decide_eq_true_eq, decide_eq_false_iff_not, ge_iff_le, gt_iff_lt, Int.not_le, Int.not_lt, Bool.not_eq_true', Bool.not_eq_false', Bool.and_eq_true, Bool.and_eq_false_iff]) <;>
    (refine ⟨s, ⟨hs', ha⟩, ?_⟩) <;> exact ⟨two_sz rfl rfl, h⟩
end Go.Proofs.YtjbglbhcbenhpaaDoor.Sha
