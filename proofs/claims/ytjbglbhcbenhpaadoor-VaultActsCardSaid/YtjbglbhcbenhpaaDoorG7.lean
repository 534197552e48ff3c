/- Laws over plain values, and what functions of the program hand back; no conditions. -/
import Derived.Test.YtjbglbhcbenhpaaDoorG6
import Derived.Test.YtjbglbhcbenhpaaDoorPlain6
namespace Go.Proofs.YtjbglbhcbenhpaaDoor.Sha
open Go Go.Abs Go.Abs.Sha
set_option linter.unusedSimpArgs false
set_option linter.unusedVariables false
set_option maxRecDepth 100000
def pf36:PF:=
 PF.mk 1 5 19 ((PC.reg [nn (.v 2) (.mv true (.c (.v .nilp))),nn (.v 3) (.mv true (.c (.v (.int .i64 0))))]).seq (((PC.reg [mm 5 0,nn (.t 6) (.bin .lss
  (.t 5) (.c (.v (.int .i64 0)))),nn (.t 7) (.mv false (.t 6)),gm 8 0 7 false,⟨.t 9,.bin .gtr (.t 8) (.c (.v (.int .i64 1099511627776))),some (.t
  7,false)⟩,nn (.t 10) (.pick (.t 7) (.c (.v (.bool true))) (.t 9))]).seq (PC.cond (.t 10) ((PC.reg [nn (.v 2) (.mv true (.c (.v .nilp))),nn (.v 3)
  (.mv true (.c (.v (.int .i64 1))))]).seq PC.ret) PC.skip)).seq ((PC.reg [nn (.t 11) (.build (.agg [.agg [.agg [],.agg [],.int .i64 0],.bool
  false]) [(1,.c (.v (.bool true)))]),nn (.t 12) (.newB (.t 11)),ma 4 12]).seq ((PC.reg [mm 13 4,nn (.t 14) (.nilc (.t 13)),nn (.t 15) (.fad0 (.t
  14)),mm 16 0,nn (.t 17) (.call 83 [.t 15,.t 16])]).seq ((PC.reg [mm 18 4,ma 2 18,nn (.v 3) (.mv true (.c (.v (.int .i64 0))))]).seq PC.ret)))))
  [(.v 2,none),(.v 3,none)]
def pf47:PF:=
 PF.mk 1 4 22 ((PC.reg [nn (.v 2) (.mv true (.c (.v (.int .i64 0)))),nn (.v 3) (.mv true (.c (.v (.int .i64 0))))]).seq ((PC.block 0 ((PC.reg [mm 5 0,
  nn (.t 6) (.binP .eql (.t 5) (.c (.v .nilp))),nn (.t 7) (.mv false (.t 6)),gm 8 0 7 false,⟨.t 9,.nilc (.t 8),some (.t 7,false)⟩,⟨.t 10,.fadr
  1 1 (.t 9),some (.t 7,false)⟩,⟨.t 11,.load 1 false (.t 10),some (.t 7,false)⟩,⟨.t 12,.un .not (.t 11),some (.t 7,false)⟩,nn (.t 13) (.pick
  (.t 7) (.c (.v (.bool true))) (.t 12)),nn (.t 4) (.mv true (.t 13))]).seq (PC.cond (.t 4) ((PC.reg [nn (.v 2) (.mv true (.c (.v (.int .i64 0)))),nn
  (.v 3) (.mv true (.c (.v (.int .i64 5))))]).seq PC.ret) ((PC.reg [mm 15 0,nn (.t 16) (.call 54 [.t 15]),nn (.t 17) (.bin .eql (.t 16) (.c (.v (.int
  .i64 1099511627776)))),nn (.t 14) (.mv true (.t 17))]).seq (PC.cond (.t 14) ((PC.reg [nn (.v 2) (.mv true (.c (.v (.int .i64 0)))),nn (.v 3) (.mv
  true (.c (.v (.int .i64 9))))]).seq PC.ret) PC.skip))))).seq ((PC.reg [mm 18 0,nn (.t 19) (.nilc (.t 18)),nn (.t 20) (.fad0 (.t 19)),nn (.t 21)
  (.call 88 [.t 20,.c (.v (.int .i64 1))]),ma 2 21,nn (.v 3) (.mv true (.c (.v (.int .i64 0))))]).seq PC.ret))) [(.v 2,none),(.v 3,none)]
def pf54:PF:=
 PF.mk 1 3 9 ((PC.reg [nn (.v 2) (.mv true (.c (.v (.int .i64 0))))]).seq (((PC.reg [mm 3 0,nn (.t 4) (.binP .eql (.t 3) (.c (.v .nilp)))]).seq
  (PC.cond (.t 4) ((PC.reg [nn (.v 2) (.mv true (.c (.v (.int .i64 0))))]).seq PC.ret) PC.skip)).seq ((PC.reg [mm 5 0,nn (.t 6) (.nilc (.t 5)),nn (.t
  7) (.fad0 (.t 6)),nn (.t 8) (.call 98 [.t 7]),ma 2 8]).seq PC.ret))) [(.v 2,none)]
def pf83:PF:=
 PF.mk 2 2 9 (PC.reg [mm 4 0,nn (.t 5) (.nilc (.t 4)),nn (.t 6) (.fadr 2 0 (.t 5)),mm 7 1,nn (.t 8) (.atSt (.t 6) (.t 7))]) []
def pf88:PF:=
 PF.mk 2 5 10 ((PC.reg [nn (.v 4) (.mv true (.c (.v (.int .i64 0))))]).seq ((PC.reg [mm 5 0,nn (.t 6) (.nilc (.t 5)),nn (.t 7) (.fadr 2 0 (.t 6)),mm
  8 1,nn (.t 9) (.atAdd (.t 7) (.t 8)),ma 4 9]).seq PC.ret)) [(.v 4,none)]
def pf98:PF:=
 PF.mk 1 3 7 ((PC.reg [nn (.v 2) (.mv true (.c (.v (.int .i64 0))))]).seq ((PC.reg [mm 3 0,nn (.t 4) (.nilc (.t 3)),nn (.t 5) (.fadr 2 0 (.t 4)),nn
  (.t 6) (.atLd (.t 5)),ma 2 6]).seq PC.ret)) [(.v 2,none)]
def pf11:PF:=
 PF.mk 2 8 24 ((PC.reg [nn (.v 4) (.mv true (.c (.v .nilp))),nn (.v 5) (.mv true (.c (.v (.int .i64 0))))]).seq ((PC.reg [mm 9 1,nn (.t 10) (.call 36
  [.t 9]),nn (.t 8) (.mv false (.t 10)),nn (.t 11) (.ext (.t 8) 0),nn (.t 12) (.ext (.t 8) 1),ma 6 11,ma 7 12]).seq (((PC.reg [mm 13 7,nn (.t 14)
  (.bin .neq (.t 13) (.c (.v (.int .i64 0)))),nn (.t 15) (.mv false (.t 14)),gm 16 0 15 false,⟨.t 17,.call 37 [.t 16],some (.t 15,false)⟩,⟨.t
  18,.un .not (.t 17),some (.t 15,false)⟩,nn (.t 19) (.pick (.t 15) (.c (.v (.bool true))) (.t 18))]).seq (PC.cond (.t 19) ((PC.reg [nn (.v 4) (.mv
  true (.c (.v .nilp))),nn (.v 5) (.mv true (.c (.v (.int .i64 1))))]).seq PC.ret) PC.skip)).seq ((PC.reg [mm 20 0,mm 21 6,nn (.t 22) (.build (.agg
  [.int .i64 0,.agg [.nils,.nils],.nilp,.int .i64 0,.bool false,.nils,.int .i64 0]) [(0,.t 20),(2,.t 21),(3,.c (.v (.int .i64 ((-1)))))]),
  nn (.t 23) (.newB (.t 22)),ma 4 23,nn (.v 5) (.mv true (.c (.v (.int .i64 0))))]).seq PC.ret)))) [(.v 4,none),(.v 5,none)]
def pf15:PF:=
 PF.mk 2 8 56 ((PC.reg [nn (.v 3) (.box (.v 1)),nn (.v 4) (.mv true (.c (.v (.int .i64 0))))]).seq ((PC.block 0 ((PC.reg [mm 9 0,nn (.t 10) (.call 42
  [.t 9]),nn (.t 11) (.un .not (.t 10)),nn (.t 8) (.mv true (.t 11))]).seq (PC.cond (.t 8) ((PC.reg [nn (.v 4) (.mv true (.c (.v (.int .i64
  5))))]).seq PC.ret) ((PC.reg [mm 13 0,nn (.t 14) (.nilc (.t 13)),nn (.t 15) (.fadr 4 5 (.t 14)),nn (.t 16) (.load 1 false (.t 15)),nn (.t 12)
  (.mv true (.t 16))]).seq (PC.cond (.t 12) ((PC.reg [nn (.v 4) (.mv true (.c (.v (.int .i64 6))))]).seq PC.ret) ((PC.reg [nn (.t 18) (.load 35 true
  (.v 3)),nn (.t 19) (.call 43 [.t 18]),nn (.t 20) (.bin .neq (.t 19) (.c (.v (.int .i64 0)))),nn (.t 17) (.mv true (.t 20))]).seq (PC.cond (.t 17)
  ((PC.reg [nn (.v 4) (.mv true (.c (.v (.int .i64 1))))]).seq PC.ret) PC.skip))))))).seq ((PC.reg [mm 21 0,nn (.t 22) (.call 24 [.t 21]),nn (.t 23)
  (.bin .add (.t 22) (.c (.v (.int .i64 1)))),ma 5 23]).seq ((PC.regD 0 [mm 25 0,nn (.t 26) (.nilc (.t 25)),nn (.t 27) (.fadr 0 0 (.t 26)),nn (.t
  28) (.load 1 false (.t 27)),mm 29 5,nn (.t 30) (.load 35 true (.v 3)),nn (.t 31) (.call 44 [.t 28,.t 29,.t 30]),nn (.t 24) (.mv false (.t 31)),
  nn (.t 32) (.ext (.t 24) 0),nn (.t 33) (.ext (.t 24) 1),ma 6 32,ma 7 33] []).seq (((PC.reg [mm 34 7,nn (.t 35) (.bin .neq (.t 34) (.c (.v (.int
  .i64 0))))]).seq (PC.cond (.t 35) ((PC.reg [nn (.v 4) (.mv true (.c (.v (.int .i64 9))))]).seq PC.ret) PC.skip)).seq (((PC.reg [mm 36 0,mm 37 5,nn
  (.t 38) (.bin .rem (.t 37) (.c (.v (.int .i64 2)))),mm 39 6,nn (.t 40) (.call 45 [.t 36,.t 38,.t 39]),nn (.t 41) (.un .not (.t 40)),nn (.t 42)
  (.mv false (.t 41)),gm 43 0 42 false,⟨.t 44,.call 46 [.t 43],some (.t 42,false)⟩,⟨.t 45,.un .not (.t 44),some (.t 42,false)⟩,nn (.t 46)
  (.pick (.t 42) (.c (.v (.bool true))) (.t 45))]).seq (PC.cond (.t 46) ((PC.reg [nn (.v 4) (.mv true (.c (.v (.int .i64 6))))]).seq PC.ret)
  PC.skip)).seq ((PC.reg [mm 48 0,nn (.t 49) (.nilc (.t 48)),nn (.t 50) (.fadr 2 3 (.t 49)),nn (.t 51) (.load 1 false (.t 50)),nn (.t 52) (.call 47
  [.t 51]),nn (.t 47) (.mv false (.t 52)),nn (.t 53) (.ext (.t 47) 0),nn (.t 54) (.ext (.t 47) 1),ma 7 54]).seq ((PC.reg [nn (.t 55) (.mv true (.v
  7)),ma 4 55]).seq PC.ret)))))))) [(.v 4,none)]
def pf17:PF:=
 PF.mk 2 2 11 ((PC.reg [mm 4 0,nn (.t 5) (.call 42 [.t 4])]).seq (PC.cond (.t 5) (PC.reg [mm 6 0,mm 7 1,nn (.t 8) (.mm true [.t 7,.c (.v (.int .i64
  ((-1))))]),nn (.t 9) (.nilc (.t 6)),nn (.t 10) (.fadr 3 4 (.t 9)),nn .no (.store 1 (.t 10) (.t 8))]) PC.skip)) []
def pf18:PF:=
 PF.mk 2 6 64 (((PC.reg [mm 6 0,nn (.t 7) (.call 42 [.t 6]),nn (.t 8) (.un .not (.t 7))]).seq (PC.cond (.t 8) PC.ret PC.skip)).seq (((PC.reg [mm 9 0,
  nn (.t 10) (.nilc (.t 9)),nn (.t 11) (.fadr 5 6 (.t 10)),nn (.t 12) (.load 1 false (.t 11)),nn (.t 13) (.len (.t 12)),nn (.t 14) (.bin .gtr (.t
  13) (.c (.v (.int .i64 0))))]).seq (PC.cond (.t 14) ((PC.regD 0 [mm 15 0,nn (.t 16) (.nilc (.t 15)),nn (.t 17) (.fadr 5 6 (.t 16)),nn (.t 18)
  (.load 1 false (.t 17)),mm 19 1,nn (.t 20) (.mm true [.t 19,.c (.v (.int .i64 0))]),mm 21 0,nn (.t 22) (.nilc (.t 21)),nn (.t 23) (.fadr 5 6
  (.t 22)),nn (.t 24) (.load 1 false (.t 23)),nn (.t 25) (.len (.t 24)),nn (.t 26) (.mm false [.t 20,.t 25]),nn (.t 27) (.slcS 1 (.t 18) none
  (some (.t 26)) none),ma 4 27] []).seq ((PC.regD 0 [mm 28 0,mm 29 0,nn (.t 30) (.nilc (.t 29)),nn (.t 31) (.fadr 6 7 (.t 30)),nn (.t 32) (.load 1
  false (.t 31)),nn (.t 33) (.nilc (.t 28)),nn (.t 34) (.fadr 1 1 (.t 33)),nn (.t 35) (.iadrG 2 1 (.t 34) (.t 32)),nn (.t 36) (.load 1 false (.t
  35)),ma 5 36] []).seq (PC.regD 0 [mm 37 0,mm 38 0,nn (.t 39) (.nilc (.t 38)),nn (.t 40) (.fadr 6 7 (.t 39)),nn (.t 41) (.load 1 false (.t 40)),
  mm 42 4,mm 43 5,mm 44 4,nn (.t 45) (.len (.t 44)),mm 46 5,nn (.t 47) (.len (.t 46)),nn (.t 48) (.mm false [.t 45,.t 47]),nn (.t 49) (.slcS 1
  (.t 43) (some (.t 48)) none none),nn (.t 50) (.buildS none 1 .nils 2 [(0,.t 42),(1,.t 49)]),nn (.t 51) (.call 48 [.t 50]),nn (.t 52) (.nilc (.t
  37)),nn (.t 53) (.fadr 1 1 (.t 52)),nn (.t 54) (.iadrG 2 1 (.t 53) (.t 41)),nn .no (.store 1 (.t 54) (.t 51))] []))) PC.skip)).seq (PC.reg [mm 55
  0,mm 56 0,mm 57 0,nn (.t 58) (.nilc (.t 55)),nn (.t 59) (.fadr 5 6 (.t 58)),nn .no (.store 1 (.t 59) (.c (.own .nils))),nn (.t 60) (.nilc (.t
  56)),nn (.t 61) (.fadr 4 5 (.t 60)),nn .no (.store 1 (.t 61) (.c (.v (.bool false)))),nn (.t 62) (.nilc (.t 57)),nn (.t 63) (.fadr 3 4 (.t 62)),
  nn .no (.store 1 (.t 63) (.c (.v (.int .i64 ((-1))))))]))) []
def lp19_0:PC:=
 (PC.reg [nn (.t 30) (.bin .lss (.v 29) (.c (.v (.int .i64 2))))]).seq ((PC.cond (.t 30) PC.skip (PC.exit 1)).seq ((PC.block 2 ((PC.reg [nn (.t 31)
  (.idxA 2 (.v 28) (.v 29)),ma 5 31]).seq ((PC.reg [mm 33 0,nn (.t 34) (.nilc (.t 33)),nn (.t 35) (.fadr 0 0 (.t 34)),nn (.t 36) (.load 1 false (.t
  35)),mm 37 5,nn (.t 38) (.call 49 [.t 36,.t 37]),nn (.t 32) (.mv false (.t 38)),nn (.t 39) (.ext (.t 32) 0),nn (.t 40) (.ext (.t 32) 1),nn (.t
  41) (.ext (.t 32) 2),nn (.v 7) (.alloc (.agg [.int .i64 0,.int .i64 0,.int .i64 0,.arr .u8 32 [0,0,0,0,0,0,0,0,0,0,0,0,0,0,0,0,0,
  0,0,0,0,0,0,0,0,0,0,0,0,0,0,0]])),ma 6 39,nn .no (.store 35 (.v 7) (.t 40)),ma 8 41]).seq ((PC.reg [mm 42 8,nn (.t 43) (.bin .eql
  (.t 42) (.c (.v (.int .i64 0)))),nn (.t 44) (.mv false (.t 43)),gm 45 6 44 true,gm 46 0 44 true,⟨.t 47,.call 24 [.t 46],some (.t 44,true)⟩,
  ⟨.t 48,.bin .eql (.t 45) (.t 47),some (.t 44,true)⟩,nn (.t 49) (.pick (.t 44) (.t 48) (.c (.v (.bool false))))]).seq (PC.cond (.t 49) ((PC.reg
  [nn (.t 50) (.load 35 true (.v 7)),nn .no (.store 35 (.v 2) (.t 50)),nn (.v 3) (.mv true (.c (.v (.int .i64 0))))]).seq PC.ret) PC.skip))))).seq
  (PC.reg [nn (.t 51) (.bin .add (.v 29) (.c (.v (.int .i64 1)))),nn (.v 29) (.mv false (.t 51))])))
def pf19:PF:=
 PF.mk 1 30 53 ((PC.reg [nn (.v 2) (.alloc (.agg [.int .i64 0,.int .i64 0,.int .i64 0,.arr .u8 32 [0,0,0,0,0,0,0,0,0,0,0,0,0,0,0,0,0,
  0,0,0,0,0,0,0,0,0,0,0,0,0,0,0]])),nn (.v 3) (.mv true (.c (.v (.int .i64 0))))]).seq ((PC.block 0 ((PC.reg [nn (.v 10) (.mv false (.v
  0)),nn (.v 11) (.call 42 [.v 10]),nn (.v 12) (.un .not (.v 11)),nn (.v 9) (.mv true (.v 12))]).seq (PC.cond (.v 9) ((PC.reg [nn (.v 13) (.build
  (.agg [.int .i64 0,.int .i64 0,.int .i64 0,.arr .u8 32 [0,0,0,0,0,0,0,0,0,0,0,0,0,0,0,0,0,0,0,0,0,0,0,0,0,0,0,0,0,0,
  0,0]]) []),nn .no (.store 35 (.v 2) (.v 13)),nn (.v 3) (.mv true (.c (.v (.int .i64 5))))]).seq PC.ret) ((PC.reg [nn (.v 15) (.mv false (.v 0)),
  nn (.v 16) (.nilc (.v 15)),nn (.v 17) (.fadr 4 5 (.v 16)),nn (.v 18) (.load 1 false (.v 17)),nn (.v 14) (.mv true (.v 18))]).seq (PC.cond (.v 14)
  ((PC.reg [nn (.v 19) (.build (.agg [.int .i64 0,.int .i64 0,.int .i64 0,.arr .u8 32 [0,0,0,0,0,0,0,0,0,0,0,0,0,0,0,0,0,0,0,0,
  0,0,0,0,0,0,0,0,0,0,0,0]]) []),nn .no (.store 35 (.v 2) (.v 19)),nn (.v 3) (.mv true (.c (.v (.int .i64 6))))]).seq PC.ret) ((PC.reg [nn
  (.v 21) (.mv false (.v 0)),nn (.v 22) (.call 24 [.v 21]),nn (.v 23) (.bin .eql (.v 22) (.c (.v (.int .i64 0)))),nn (.v 20) (.mv true (.v
  23))]).seq (PC.cond (.v 20) ((PC.reg [nn (.v 24) (.build (.agg [.int .i64 0,.int .i64 0,.int .i64 0,.arr .u8 32 [0,0,0,0,0,0,0,0,0,0,0,
  0,0,0,0,0,0,0,0,0,0,0,0,0,0,0,0,0,0,0,0,0]]) []),nn .no (.store 35 (.v 2) (.v 24)),nn (.v 3) (.mv true (.c (.v (.int .i64
  0))))]).seq PC.ret) PC.skip))))))).seq (((PC.reg [nn (.v 25) (.mv false (.v 0)),nn (.v 26) (.nilc (.v 25)),nn (.v 27) (.fadr 1 1 (.v 26)),nn (.v
  28) (.load 2 true (.v 27)),nn (.v 29) (.mv false (.c (.v (.int .i64 0))))]).seq (PC.block 1 (PC.loop [0,2,28,29] lp19_0))).seq ((PC.reg [nn (.t
  52) (.build (.agg [.int .i64 0,.int .i64 0,.int .i64 0,.arr .u8 32 [0,0,0,0,0,0,0,0,0,0,0,0,0,0,0,0,0,0,0,0,0,0,0,0,0,0,
  0,0,0,0,0,0]]) []),nn .no (.store 35 (.v 2) (.t 52)),nn (.v 3) (.mv true (.c (.v (.int .i64 8))))]).seq PC.ret)))) [(.v 2,some (35,true)),
  (.v 3,none)]
def pf20:PF:=
 PF.mk 1 3 12 ((PC.reg [nn (.v 2) (.mv true (.c (.v (.bool false))))]).seq ((PC.reg [mm 3 0,nn (.t 4) (.call 42 [.t 3]),nn (.t 5) (.un .not (.t 4)),
  nn (.t 6) (.mv false (.t 5)),gm 7 0 6 false,⟨.t 8,.nilc (.t 7),some (.t 6,false)⟩,⟨.t 9,.fadr 4 5 (.t 8),some (.t 6,false)⟩,⟨.t 10,.load 1
  false (.t 9),some (.t 6,false)⟩,nn (.t 11) (.pick (.t 6) (.c (.v (.bool true))) (.t 10)),ma 2 11]).seq PC.ret)) [(.v 2,none)]
def pf21:PF:=
 PF.mk 3 7 26 ((PC.reg [nn (.v 6) (.mv true (.c (.v (.int .i64 0))))]).seq ((PC.block 0 ((PC.reg [mm 8 0,nn (.t 9) (.call 42 [.t 8]),nn (.t 10) (.un
  .not (.t 9)),nn (.t 7) (.mv true (.t 10))]).seq (PC.cond (.t 7) ((PC.reg [nn (.v 6) (.mv true (.c (.v (.int .i64 5))))]).seq PC.ret) (((PC.reg [mm
  12 1,nn (.t 13) (.bin .lss (.t 12) (.c (.v (.int .i64 0)))),nn (.t 11) (.mv true (.t 13))]).seq (PC.cond (.t 11) PC.skip ((PC.reg [mm 14 1,nn (.t
  15) (.bin .geq (.t 14) (.c (.v (.int .i64 2)))),nn (.t 11) (.mv true (.t 15))]).seq (PC.cond (.t 11) PC.skip (PC.reg [mm 16 2,nn (.t 17) (.len (.t
  16)),nn (.t 18) (.bin .gtr (.t 17) (.c (.v (.int .i64 1000)))),nn (.t 11) (.mv true (.t 18))]))))).seq (PC.cond (.t 11) ((PC.reg [nn (.v 6) (.mv
  true (.c (.v (.int .i64 1))))]).seq PC.ret) PC.skip))))).seq ((PC.regD 0 [mm 19 0,mm 20 1,mm 21 2,nn (.t 22) (.call 50 [.t 21]),nn (.t 23) (.nilc
  (.t 19)),nn (.t 24) (.fadr 1 1 (.t 23)),nn (.t 25) (.iadrG 2 1 (.t 24) (.t 20)),nn .no (.store 1 (.t 25) (.t 22))] []).seq ((PC.reg [nn (.v 6)
  (.mv true (.c (.v (.int .i64 0))))]).seq PC.ret)))) [(.v 6,none)]
def pf23:PF:=
 PF.mk 2 5 23 ((PC.reg [nn (.v 4) (.mv true (.c (.own .nils)))]).seq (((PC.reg [mm 5 0,nn (.t 6) (.call 42 [.t 5]),nn (.t 7) (.un .not (.t 6)),nn (.t
  8) (.mv false (.t 7)),gm 9 1 8 false,⟨.t 10,.bin .lss (.t 9) (.c (.v (.int .i64 0))),some (.t 8,false)⟩,nn (.t 11) (.pick (.t 8) (.c (.v (.bool
  true))) (.t 10)),nn (.t 12) (.mv false (.t 11)),gm 13 1 12 false,⟨.t 14,.bin .geq (.t 13) (.c (.v (.int .i64 2))),some (.t 12,false)⟩,nn (.t
  15) (.pick (.t 12) (.c (.v (.bool true))) (.t 14))]).seq (PC.cond (.t 15) ((PC.reg [nn (.v 4) (.mv true (.c (.own .nils)))]).seq PC.ret)
  PC.skip)).seq ((PC.reg [mm 16 0,mm 17 1,nn (.t 18) (.nilc (.t 16)),nn (.t 19) (.fadr 1 1 (.t 18)),nn (.t 20) (.iadrG 2 1 (.t 19) (.t 17)),nn (.t
  21) (.load 1 false (.t 20)),nn (.t 22) (.call 50 [.t 21]),ma 4 22]).seq PC.ret))) [(.v 4,none)]
def pf24:PF:=
 PF.mk 1 3 11 ((PC.reg [nn (.v 2) (.mv true (.c (.v (.int .i64 0))))]).seq (((PC.reg [mm 3 0,nn (.t 4) (.call 42 [.t 3]),nn (.t 5) (.un .not (.t
  4))]).seq (PC.cond (.t 5) ((PC.reg [nn (.v 2) (.mv true (.c (.v (.int .i64 0))))]).seq PC.ret) PC.skip)).seq ((PC.reg [mm 6 0,nn (.t 7) (.nilc (.t
  6)),nn (.t 8) (.fadr 2 3 (.t 7)),nn (.t 9) (.load 1 false (.t 8)),nn (.t 10) (.call 54 [.t 9]),ma 2 10]).seq PC.ret))) [(.v 2,none)]
def pf42:PF:=
 PF.mk 1 3 12 ((PC.reg [nn (.v 2) (.mv true (.c (.v (.bool false))))]).seq ((PC.reg [mm 3 0,nn (.t 4) (.binP .neq (.t 3) (.c (.v .nilp))),nn (.t 5)
  (.mv false (.t 4)),gm 6 0 5 true,⟨.t 7,.nilc (.t 6),some (.t 5,true)⟩,⟨.t 8,.fadr 2 3 (.t 7),some (.t 5,true)⟩,⟨.t 9,.load 1 false (.t 8),
  some (.t 5,true)⟩,⟨.t 10,.binP .neq (.t 9) (.c (.v .nilp)),some (.t 5,true)⟩,nn (.t 11) (.pick (.t 5) (.t 10) (.c (.v (.bool false)))),ma 2
  11]).seq PC.ret)) [(.v 2,none)]
def pf45:PF:=
 PF.mk 3 7 24 ((PC.reg [nn (.v 6) (.mv true (.c (.v (.bool false))))]).seq (((PC.reg [mm 7 0,nn (.t 8) (.call 46 [.t 7]),nn (.t 9) (.un .not (.t
  8))]).seq (PC.cond (.t 9) ((PC.reg [mm 10 0,mm 11 0,mm 12 2,mm 13 1,nn (.t 14) (.nilc (.t 10)),nn (.t 15) (.fadr 5 6 (.t 14)),nn .no (.store 1
  (.t 15) (.t 12)),nn (.t 16) (.nilc (.t 11)),nn (.t 17) (.fadr 6 7 (.t 16)),nn .no (.store 1 (.t 17) (.t 13))]).seq ((PC.reg [nn (.v 6) (.mv true
  (.c (.v (.bool false))))]).seq PC.ret)) PC.skip)).seq ((PC.reg [mm 18 0,mm 19 1,mm 20 2,nn (.t 21) (.nilc (.t 18)),nn (.t 22) (.fadr 1 1 (.t
  21)),nn (.t 23) (.iadrG 2 1 (.t 22) (.t 19)),nn .no (.store 1 (.t 23) (.t 20))]).seq ((PC.reg [nn (.v 6) (.mv true (.c (.v (.bool true))))]).seq
  PC.ret)))) [(.v 6,none)]
def pf46:PF:=
 PF.mk 1 3 23 ((PC.reg [nn (.v 2) (.mv true (.c (.v (.bool false))))]).seq (((PC.reg [mm 3 0,nn (.t 4) (.nilc (.t 3)),nn (.t 5) (.fadr 3 4 (.t 4)),nn
  (.t 6) (.load 1 false (.t 5)),nn (.t 7) (.bin .eql (.t 6) (.c (.v (.int .i64 0))))]).seq (PC.cond (.t 7) ((PC.reg [mm 8 0,nn (.t 9) (.nilc (.t 8)),
  nn (.t 10) (.fadr 4 5 (.t 9)),nn .no (.store 1 (.t 10) (.c (.v (.bool true))))]).seq ((PC.reg [nn (.v 2) (.mv true (.c (.v (.bool false))))]).seq
  PC.ret)) PC.skip)).seq (((PC.reg [mm 11 0,nn (.t 12) (.nilc (.t 11)),nn (.t 13) (.fadr 3 4 (.t 12)),nn (.t 14) (.load 1 false (.t 13)),nn (.t 15)
  (.bin .gtr (.t 14) (.c (.v (.int .i64 0))))]).seq (PC.cond (.t 15) (PC.reg [mm 16 0,nn (.t 17) (.nilc (.t 16)),nn (.t 18) (.fadr 3 4 (.t 17)),nn
  (.t 19) (.load 1 false (.t 18)),nn (.t 20) (.bin .sub (.t 19) (.c (.v (.int .i64 1)))),nn (.t 21) (.nilc (.t 16)),nn (.t 22) (.fadr 3 4 (.t 21)),
  nn .no (.store 1 (.t 22) (.t 20))]) PC.skip)).seq ((PC.reg [nn (.v 2) (.mv true (.c (.v (.bool true))))]).seq PC.ret)))) [(.v 2,none)]
attribute [local irreducible] W Wops WopsD WL Wop WopD
variable {E:Env} {C:Abs.Spec} {l:List (Nat×Spec1)} {G:List (Nat×V)} {Q:R→List (Nat×V)→Prop}
set_option maxHeartbeats 1000000
abbrev CT (a:Int) (b:Bool):V:= .agg [.agg [.agg [],.agg [],.int .i64 (a)],.bool (b)]
def CV (G:List (Nat×V)) (x:V) (a:Int) (b:Bool):Prop:=(x= .nilp∧a=0∧b=false)∨∃id,x= .ptr id∧Abs.look G id=some (CT a b)
def updC (G:List (Nat×V)) (x:V) (a:Int) (b:Bool):List (Nat×V):=match x with
 | .ptr id=>upd G id (CT a b)
 |_=>G
def upN (a:Int) (b:Bool):Int:=if b=true then (if a=1099511627776 then 0 else a+1)else 0
def upE (a:Int) (b:Bool):Int:=if b=true then (if a=1099511627776 then 9 else 0)else 5
def upA (a:Int) (b:Bool):Int:=if b=true then (if a=1099511627776 then a else a+1)else a
def okC (a:Int):Prop:=0≤a∧a≤1099511627776
instance (a:Int):Decidable (okC a):=by unfold okC;infer_instance
theorem detIfN {c:Prop} {Q:R→Prop} {G:List (Nat×V)} {x:Nat→V} {a:Nat→R} {b:R} (h:(c→∀id,Abs.look G id=none→((id,x id)::G)=G∧Q (a id))∧(¬c→G=G∧Q b)):
  ∃r,Q r∧∀Q':R→List (Nat×V)→Prop,Q' r G→(c→∀id,Abs.look G id=none→Q' (a id) ((id,x id)::G))∧(¬c→Q' b G):=by
 by_cases hc:c
 ·exact detN (h.1 hc)
 ·exact⟨b,(h.2 hc).2,fun Q' h'=>⟨fun n=>absurd n hc,fun _=>h'⟩⟩
def S44:Spec1
 |[.ptr id,.int .i64 n],G,Q=>∃a b,Abs.look G id=some (CT a b)∧Q (.tup []) (upd G id (CT n b))
 |_,_,_=>False
theorem S44_eq {id n}:S44 [.ptr id,.int .i64 n] G Q=(∃a b,Abs.look G id=some (CT a b)∧Q (.tup []) (upd G id (CT n b))):=rfl
def S45:Spec1
 |[.ptr id,.int .i64 n],G,Q=>∃a b,Abs.look G id=some (CT a b)∧Q (.v (.int .i64 (IntKind.i64.wrap (a+n)))) (upd G id (CT (IntKind.i64.wrap (a+n)) b))
 |_,_,_=>False
theorem S45_eq {id n}:S45 [.ptr id,.int .i64 n] G Q=(∃a b,Abs.look G id=some (CT a b)∧Q (.v (.int .i64 (IntKind.i64.wrap (a+n)))) (upd G id (CT (IntKind.i64.wrap (a+n)) b))):=rfl
def S46:Spec1
 |[.ptr id],G,Q=>∃a b,Abs.look G id=some (CT a b)∧Q (.v (.int .i64 a)) G
 |_,_,_=>False
theorem S46_eq {id}:S46 [.ptr id] G Q=(∃a b,Abs.look G id=some (CT a b)∧Q (.v (.int .i64 a)) G):=rfl
def S30:Spec1
 |[x],G,Q=>∃a b,CV G x a b∧Q (.v (.int .i64 a)) G
 |_,_,_=>False
theorem S30_eq {x}:S30 [x] G Q=(∃a b,CV G x a b∧Q (.v (.int .i64 a)) G):=rfl
def S28:Spec1
 |[x],G,Q=>∃a b,(CV G x a b∧(b=true→okC a))∧Q (.tup [.int .i64 (upN a b),.int .i64 (upE a b)]) (updC G x (upA a b) b)
 |_,_,_=>False
theorem S28_eq {x}:S28 [x] G Q=(∃a b,(CV G x a b∧(b=true→okC a))∧Q (.tup [.int .i64 (upN a b),.int .i64 (upE a b)]) (updC G x (upA a b) b)):=rfl
def S26:Spec1
 |[.int .i64 n],G,Q=>(okC n→∀id,Abs.look G id=none→Q (.tup [.ptr id,.int .i64 0]) ((id,CT n true)::G))∧(¬okC n→Q (.tup [.nilp,.int .i64 1]) G)
 |_,_,_=>False
theorem S26_eq {n}:S26 [.int .i64 n] G Q=((okC n→∀id,Abs.look G id=none→Q (.tup [.ptr id,.int .i64 0]) ((id,CT n true)::G))∧(¬okC n→Q (.tup [.nilp,.int .i64 1]) G)):=rfl
theorem detS26:S26.Det:=by
 intro vs G Q h
 unfold S26 at h⊢
 split at h
 ·exact detIfN (x:=fun _=>_) (a:=fun id=> .tup [.ptr id,.int .i64 0]) h
 ·exact h.elim
theorem walk83 {id:Nat} {n a:Int} {b:Bool} (hL:Abs.look G id=some (CT a b)) (h:Q (.tup []) (upd G id (CT n b))):Wf E C pf83 [.ptr id,.int .i64 n] G Q:=by
 simp (maxSteps:=1000000) (implicitDefEqProofs:=false) only[pf83,hL,go_sem,↓reduceIte]
 exact h
theorem walk88 {id:Nat} {n a:Int} {b:Bool} (hL:Abs.look G id=some (CT a b)) (h:Q (.v (.int .i64 (IntKind.i64.wrap (a+n)))) (upd G id (CT (IntKind.i64.wrap (a+n)) b))):Wf E C pf88 [.ptr id,.int .i64 n] G Q:=by
 simp (maxSteps:=1000000) (implicitDefEqProofs:=false) only[pf88,hL,go_sem,↓reduceIte]
 exact h
theorem walk98 {id:Nat} {a:Int} {b:Bool} (hL:Abs.look G id=some (CT a b)) (h:Q (.v (.int .i64 a)) G):Wf E C pf98 [.ptr id] G Q:=by
 simp (maxSteps:=1000000) (implicitDefEqProofs:=false) only[pf98,hL,go_sem,↓reduceIte]
 exact h
theorem walk54 {x:V} {a:Int} {b:Bool} (h46:Abs.look l 98=some S46) (hx:CV G x a b) (h:Q (.v (.int .i64 a)) G):Wf E (specOf l) pf54 [x] G Q:=by
 rcases hx with⟨rfl,rfl,rfl⟩|⟨id,rfl,hL⟩
 ·simp (maxSteps:=1000000) (implicitDefEqProofs:=false) only[pf54,go_sem,↓reduceIte]
  exact h
 ·simp (maxSteps:=1000000) (implicitDefEqProofs:=false) only[pf54,h46,S46_eq,hL,go_sem,↓reduceIte]
  exact⟨a,b,rfl,h⟩
theorem walk47 {x:V} {a:Int} {b:Bool} (h30:Abs.look l 54=some S30) (h45:Abs.look l 88=some S45) (hx:CV G x a b) (ha:b=true→okC a) (h:Q (.tup [.int .i64 (upN a b),.int .i64 (upE a b)]) (updC G x (upA a b) b)):Wf E (specOf l) pf47 [x] G Q:=by
 have hx':=hx
 unfold upN upE upA at h
 rcases hx with⟨rfl,rfl,rfl⟩|⟨id,rfl,hL⟩
 ·simp (maxSteps:=1000000) (implicitDefEqProofs:=false) only[pf47,go_sem,↓reduceIte]
  exact h
 ·cases b with
  |false=>
   simp (maxSteps:=1000000) (implicitDefEqProofs:=false) only[pf47,hL,go_sem,↓reduceIte]
   simp only[updC]at h
   have e:=upd_self hL
   rw[show (if false=true then (if a=1099511627776 then a else a+1)else a)=a from rfl,e]at h
   exact h
  |true=>
   have ha:=ha rfl
   unfold okC at ha
   simp only[if_pos]at h
   by_cases e:a=1099511627776
   ·subst e
    simp (maxSteps:=1000000) (implicitDefEqProofs:=false) only[pf47,hL,h30,S30_eq,go_sem,↓reduceIte]
    simp only[if_pos,updC]at h
    rw[upd_self hL]at h
    exact⟨_,true,hx',fun _=>h,fun c=>absurd rfl c⟩
   ·rw[if_neg e,if_neg e,if_neg e]at h
    simp only[updC]at h
    simp (maxSteps:=1000000) (implicitDefEqProofs:=false) only[pf47,hL,h30,S30_eq,h45,S45_eq,go_sem,↓reduceIte]
    refine⟨a,true,hx',fun c=>absurd c e,fun _=> ?_⟩
    skip
    refine⟨a,true,rfl,?_⟩
    rw[w64 (by omega) (by omega)];exact h
theorem walk36 {n:Int} (h44:Abs.look l 83=some S44) (h1:okC n→∀id,Abs.look G id=none→Q (.tup [.ptr id,.int .i64 0]) ((id,CT n true)::G)) (h2:¬okC n→Q (.tup [.nilp,.int .i64 1]) G):Wf E (specOf l) pf36 [.int .i64 n] G Q:=by
 by_cases hn:okC n
 ·have h1:=h1 hn
  unfold okC at hn
  simp (maxSteps:=1000000) (implicitDefEqProofs:=false) (disch:=omega) only[pf36,h44,S44_eq,go_sem,↓reduceIte,w64]
  exact⟨fun c=>by omega,fun _=>⟨fun c=>by omega,fun _ id hid=>⟨_,_,rfl,h1 id hid⟩⟩⟩
 ·have h2:=h2 hn
  unfold okC at hn
  simp (maxSteps:=1000000) (implicitDefEqProofs:=false) (disch:=omega) only[pf36,h44,S44_eq,go_sem,↓reduceIte,w64]
  exact⟨fun _=>h2,fun c1=>⟨fun _=>h2,fun c2=>absurd ⟨c1,c2⟩ hn⟩⟩
abbrev ZV:V:= .agg [.int .i64 0,.agg [.nils,.nils],.nilp,.int .i64 0,.bool false,.nils,.int .i64 0]
def NB (G:List (Nat×V)) (x:V):Prop:=x= .nilp∨∃id,x= .ptr id∧Abs.look G id=some ZV
structure VS where
 i:Int
 s0:V
 s1:V
 c:Nat
 a:Int
 d:Bool
 h:V
 k:Int
 id:Nat
 n:Int
abbrev VS.val (s:VS):V:= .agg [.int .i64 s.i,.agg [s.s0,s.s1],.ptr s.c,.int .i64 s.a,.bool s.d,s.h,.int .i64 s.k]
structure VS.at (s:VS) (G:List (Nat×V)) (x:V):Prop where
 x:x= .ptr s.id
 v:Abs.look G s.id=some s.val
 c:Abs.look G s.c=some (CT s.n true)
 ne:s.c≠s.id
 ok:okC s.n
 z0:∃b,byV s.s0=some b
 z1:∃b,byV s.s1=some b
def ISV (G:List (Nat×V)) (x:V) (b:Bool):Prop:=(NB G x∧b=false)∨∃s:VS,s.at G x∧b=true
def ATV (G:List (Nat×V)) (x:V) (n:Int):Prop:=(NB G x∧n=0)∨∃s:VS,s.at G x∧n=s.n
def DDV (G:List (Nat×V)) (x:V) (b:Bool):Prop:=(NB G x∧b=true)∨∃s:VS,s.at G x∧b=s.d
def VS.slot (s:VS) (k:Int):V:=if k=0 then s.s0 else s.s1
def VS.put (s:VS) (k:Int) (y:V):VS:=if k=0 then { s with s0:=y }else { s with s1:=y }
def Ext (G G':List (Nat×V)):Prop:=∀id x,Abs.look G id=some x→Abs.look G' id=some x
theorem Ext.refl (G:List (Nat×V)):Ext G G:=fun _ _ h=>h
theorem Ext.cons {G:List (Nat×V)} {id:Nat} {x:V} (h:Abs.look G id=none):Ext G ((id,x)::G):=by
 intro j y hj
 rw[look_cons,if_neg];exact hj
 rintro rfl;rw[h]at hj;cases hj
theorem Ext.trans {G G' G'':List (Nat×V)} (h:Ext G G') (h':Ext G' G''):Ext G G'':=fun id x hx=>h' id x (h id x hx)
theorem VS.at.ext {s:VS} {G G':List (Nat×V)} {x:V} (h:s.at G x) (e:Ext G G'):s.at G' x:=⟨h.x,e _ _ h.v,e _ _ h.c,h.ne,h.ok,h.z0,h.z1⟩
theorem NB.ext {G G':List (Nat×V)} {x:V} (h:NB G x) (e:Ext G G'):NB G' x:=by
 rcases h with h|⟨id,h1,h2⟩
 ·exact .inl h
 ·exact .inr ⟨id,h1,e _ _ h2⟩
theorem by_size {x:V} {b:List Int} (h:byV x=some b):V.size x=1∧V.isAgg x=false:=by
 rcases byV_cases h with rfl|⟨rfl,rfl⟩<;>exact⟨rfl,rfl⟩
theorem two_sz {x y:V} (hx:V.size x=1) (hy:V.size y=1):∀z∈[x,y],V.size z=1:=by
 intro z hz
 simp only[List.mem_cons,List.not_mem_nil,or_false]at hz
 rcases hz with rfl|rfl
 ·exact hx
 ·exact hy
theorem two_sza {x y:V} (hx:V.size x=1∧V.isAgg x=false) (hy:V.size y=1∧V.isAgg y=false):∀z∈[x,y],V.size z=1∧V.isAgg z=false:=by
 intro z hz
 simp only[List.mem_cons,List.not_mem_nil,or_false]at hz
 rcases hz with rfl|rfl
 ·exact hx
 ·exact hy
def loadV (kt:List Int) (i n:Int) (b0 b1:List Int):SealS×Int:=
 if n=0 then (.zero,0)else if (getBlob kt i b0).2.2=0∧(getBlob kt i b0).1=n then ((getBlob kt i b0).2.1,0)
 else if (getBlob kt i b1).2.2=0∧(getBlob kt i b1).1=n then ((getBlob kt i b1).2.1,0)else (.zero,8)
def SIs:Spec1
 |[x],G,Q=>∃b,ISV G x b∧Q (.v (.bool b)) G
 |_,_,_=>False
theorem SIs_eq {x}:SIs [x] G Q=(∃b,ISV G x b∧Q (.v (.bool b)) G):=rfl
def SVat:Spec1
 |[x],G,Q=>∃n,ATV G x n∧Q (.v (.int .i64 n)) G
 |_,_,_=>False
theorem SVat_eq {x}:SVat [x] G Q=(∃n,ATV G x n∧Q (.v (.int .i64 n)) G):=rfl
def SDead:Spec1
 |[x],G,Q=>∃b,DDV G x b∧Q (.v (.bool b)) G
 |_,_,_=>False
theorem SDead_eq {x}:SDead [x] G Q=(∃b,DDV G x b∧Q (.v (.bool b)) G):=rfl
theorem walk42 {x:V} {b:Bool} (hx:ISV G x b) (h:Q (.v (.bool b)) G):Wf E C pf42 [x] G Q:=by
 rcases hx with⟨rfl|⟨id,rfl,hL⟩,rfl⟩|⟨s,hs,rfl⟩
 ·simp (maxSteps:=1000000) (implicitDefEqProofs:=false) only[pf42,go_sem,↓reduceIte]
  exact h
 ·simp (maxSteps:=1000000) (implicitDefEqProofs:=false) only[pf42,hL,go_sem,↓reduceIte]
  exact h
 ·obtain⟨rfl,hv,hc,hne,hok,⟨b0,z0⟩,⟨b1,z1⟩⟩:=hs
  obtain⟨g0,_⟩:=by_size z0
  obtain⟨g1,_⟩:=by_size z1
  simp (maxSteps:=1000000) (implicitDefEqProofs:=false) only[pf42,hv,g0,g1,go_sem,↓reduceIte]
  exact h
theorem walk24 {x:V} {n:Int} (h1:Abs.look l 42=some SIs) (h2:Abs.look l 54=some S30) (hx:ATV G x n) (h:Q (.v (.int .i64 n)) G):Wf E (specOf l) pf24 [x] G Q:=by
 rcases hx with⟨hn,rfl⟩|⟨s,hs,rfl⟩
 ·simp (maxSteps:=1000000) (implicitDefEqProofs:=false) only[pf24,h1,SIs_eq,go_sem,↓reduceIte]
  refine⟨false,.inl ⟨hn,rfl⟩,?_⟩
  try simp (maxSteps:=1000000) (implicitDefEqProofs:=false) only[go_sem,↓reduceIte]
  exact h
 ·have hs':=hs
  obtain⟨rfl,hv,hc,hne,hok,⟨b0,z0⟩,⟨b1,z1⟩⟩:=hs
  obtain⟨g0,_⟩:=by_size z0
  obtain⟨g1,_⟩:=by_size z1
  simp (maxSteps:=1000000) (implicitDefEqProofs:=false) only[pf24,h1,SIs_eq,h2,S30_eq,hv,g0,g1,go_sem,↓reduceIte]
  refine⟨true,.inr ⟨s,hs',rfl⟩,?_⟩
  simp (maxSteps:=1000000) (implicitDefEqProofs:=false) only[h2,S30_eq,hv,g0,g1,go_sem,↓reduceIte]
  exact⟨s.n,true,.inr ⟨s.c,rfl,hc⟩,h⟩
theorem walk20 {x:V} {b:Bool} (h1:Abs.look l 42=some SIs) (hx:DDV G x b) (h:Q (.v (.bool b)) G):Wf E (specOf l) pf20 [x] G Q:=by
 rcases hx with⟨hn,rfl⟩|⟨s,hs,rfl⟩
 ·simp (maxSteps:=1000000) (implicitDefEqProofs:=false) only[pf20,h1,SIs_eq,go_sem,↓reduceIte]
  refine⟨false,.inl ⟨hn,rfl⟩,?_⟩
  try simp (maxSteps:=1000000) (implicitDefEqProofs:=false) only[go_sem,↓reduceIte]
  exact h
 ·have hs':=hs
  obtain⟨rfl,hv,hc,hne,hok,⟨b0,z0⟩,⟨b1,z1⟩⟩:=hs
  obtain⟨g0,_⟩:=by_size z0
  obtain⟨g1,_⟩:=by_size z1
  simp (maxSteps:=1000000) (implicitDefEqProofs:=false) only[pf20,h1,SIs_eq,hv,g0,g1,go_sem,↓reduceIte]
  refine⟨true,.inr ⟨s,hs',rfl⟩,?_⟩
  try simp (maxSteps:=1000000) (implicitDefEqProofs:=false) only[go_sem,↓reduceIte]
  exact h
end Go.Proofs.YtjbglbhcbenhpaaDoor.Sha
namespace Go.Proofs.YtjbglbhcbenhpaaDoor.Sha
open Go Go.Abs Go.Abs.Sha
set_option linter.unusedSimpArgs false
set_option linter.unusedVariables false
set_option maxRecDepth 100000
attribute [local irreducible] W Wops WopsD WL Wop WopD
variable {E:Env} {C:Abs.Spec} {l:List (Nat×Spec1)} {G:List (Nat×V)} {Q:R→List (Nat×V)→Prop}
set_option maxHeartbeats 1000000
theorem VS.at.put {s:VS} {G:List (Nat×V)} {x:V} {k:Int} {b:List Int} (h:s.at G x) (hk:k=0∨k=1):(s.put k (.sli .u8 b)).at (upd G s.id (s.put k (.sli .u8 b)).val) x:=by
 rcases hk with rfl|rfl
 ·exact⟨h.x,look_upd_same h.v,by show Abs.look (upd _ _ _) s.c=_;rw[look_upd_ne h.ne];exact h.c,h.ne,h.ok,⟨_,rfl⟩,h.z1⟩
 ·exact⟨h.x,look_upd_same h.v,by show Abs.look (upd _ _ _) s.c=_;rw[look_upd_ne h.ne];exact h.c,h.ne,h.ok,h.z0,⟨_,rfl⟩⟩
def newV (i n:Int) (c id:Nat):VS:=⟨i,.nils,.nils,c,-1,false,.nils,0,id,n⟩
def SSw:Spec1
 |[x,.int .i64 k,y],G,Q=>(NB G x∧Q (.v (.int .i64 5)) G)∨∃(s:VS) (b:List Int),(s.at G x∧(k=0∨k=1)∧byV y=some b∧b.length≤1000)∧Q (.v (.int .i64 0)) (upd G s.id (s.put k (.sli .u8 b)).val)
 |_,_,_=>False
def SSlo:Spec1
 |[x,.int .i64 k],G,Q=>(NB G x∧Q (.own .nils) G)∨∃(s:VS) (b:List Int),(s.at G x∧(k=0∨k=1)∧byV (s.slot k)=some b∧b.length < 10000000000000)∧Q (.own (.sli .u8 b)) G
 |_,_,_=>False
def SNew:Spec1
 |[.int .i64 i,.int .i64 n],G,Q=>(okC n∧1≤i∧i≤21)∧∀c,Abs.look G c=none→∀id,Abs.look ((c,CT n true)::G) id=none→Q (.tup [.ptr id,.int .i64 0]) ((id,(newV i n c id).val)::(c,CT n true)::G)
 |_,_,_=>False
theorem SNew_eq {i n}:SNew [.int .i64 i,.int .i64 n] G Q=((okC n∧1≤i∧i≤21)∧∀c,Abs.look G c=none→∀id,Abs.look ((c,CT n true)::G) id=none→Q (.tup [.ptr id,.int .i64 0]) ((id,(newV i n c id).val)::(c,CT n true)::G)):=rfl
def SLd (kt:List Int):Spec1
 |[x],G,Q=>(NB G x∧Q (.tup [.agg [.int .i64 0,.int .i64 0,.int .i64 0,.arr .u8 32 [0,0,0,0,0,0,0,0,0,0,0,0,0,0,0,0,0,0,0,0,0,0,0,0,0,0,0,0,0,0,0,0]],.int .i64 5]) G)∨∃(s:VS) (b0 b1:List Int),(s.at G x∧s.d=false∧byV s.s0=some b0∧byV s.s1=some b1∧(Byt b0∧Byt b1)∧b0.length < 100000000000∧b1.length < 100000000000)∧∀G',Ext G G'→Q (.tup [(loadV kt s.i s.n b0 b1).1.v,.int .i64 (loadV kt s.i s.n b0 b1).2]) G'
 |_,_,_=>False
theorem walk21 {x y:V} {k:Int} (h1:Abs.look l 42=some SIs) (h2:Abs.look l 50=some SCl) (hh:SSw [x,.int .i64 k,y] G Q):Wf E (specOf l) pf21 [x,.int .i64 k,y] G Q:=by
 rcases hh with⟨hn,h⟩|⟨s,b,⟨hs,hk,hy,hl⟩,h⟩
 ·simp (maxSteps:=1000000) (implicitDefEqProofs:=false) only[pf21,h1,SIs_eq,go_sem,↓reduceIte]
  refine⟨false,.inl ⟨hn,rfl⟩,?_⟩
  try simp (maxSteps:=1000000) (implicitDefEqProofs:=false) only[go_sem,↓reduceIte]
  exact h
 ·have hs':=hs
  obtain⟨rfl,hv,hc,hne,hok,⟨b0,z0⟩,⟨b1,z1⟩⟩:=hs
  have hl':¬(1000:Int) < b.length:=by omega
  rcases byV_cases hy with rfl|⟨rfl,rfl⟩<;>rcases byV_cases z0 with e0|⟨e0,rfl⟩<;>rcases byV_cases z1 with e1|⟨e1,rfl⟩<;>unfold VS.val at hv<;>rw[e0,e1]at hv<;>rcases hk with rfl|rfl<;>
   (simp only[VS.put,VS.val,if_true,reduceIte,Int.reduceEq,e0,e1]at h)<;>
   (simp (maxSteps:=1000000) (implicitDefEqProofs:=false) only[pf21,h1,SIs_eq,h2,SCl_eq,hv,hl',go_sem,↓reduceIte])<;>
   (refine⟨true,.inr ⟨s,hs',rfl⟩,?_⟩)<;>(simp (maxSteps:=1000000) (implicitDefEqProofs:=false) only[h2,SCl_eq,hv,hl',go_sem,↓reduceIte])<;>first|exact⟨b,⟨rfl,by omega⟩,two_sz rfl rfl,h⟩|exact⟨[],⟨rfl,by simp⟩,two_sz rfl rfl,h⟩
theorem walk23 {x:V} {k:Int} (h1:Abs.look l 42=some SIs) (h2:Abs.look l 50=some SCl) (hh:SSlo [x,.int .i64 k] G Q):Wf E (specOf l) pf23 [x,.int .i64 k] G Q:=by
 rcases hh with⟨hn,h⟩|⟨s,b,⟨hs,hk,hy,hl⟩,h⟩
 ·simp (maxSteps:=1000000) (implicitDefEqProofs:=false) only[pf23,h1,SIs_eq,go_sem,↓reduceIte]
  refine⟨false,.inl ⟨hn,rfl⟩,?_⟩
  try simp (maxSteps:=1000000) (implicitDefEqProofs:=false) only[go_sem,↓reduceIte]
  exact h
 ·have hs':=hs
  obtain⟨rfl,hv,hc,hne,hok,⟨b0,z0⟩,⟨b1,z1⟩⟩:=hs
  rcases byV_cases z0 with e0|⟨e0,rfl⟩<;>rcases byV_cases z1 with e1|⟨e1,rfl⟩<;>unfold VS.val at hv<;>rw[e0,e1]at hv<;>rcases hk with rfl|rfl<;>
   (simp only[VS.slot,if_true,reduceIte,Int.reduceEq,e0,e1]at hy)<;>
   (simp (maxSteps:=1000000) (implicitDefEqProofs:=false) only[pf23,h1,SIs_eq,h2,SCl_eq,hv,go_sem,↓reduceIte])<;>
   (refine⟨true,.inr ⟨s,hs',rfl⟩,?_⟩)<;>(simp (maxSteps:=1000000) (implicitDefEqProofs:=false) only[h2,SCl_eq,hv,go_sem,↓reduceIte])<;>exact⟨two_sz rfl rfl,b,⟨hy,hl⟩,h⟩
theorem walk11 {i n:Int} (h1:Abs.look l 36=some S26) (h2:Abs.look l 37=some SNo) (hn:okC n) (hi:1≤i∧i≤21)
  (h:∀c,Abs.look G c=none→∀id,Abs.look ((c,CT n true)::G) id=none→Q (.tup [.ptr id,.int .i64 0]) ((id,(newV i n c id).val)::(c,CT n true)::G)):Wf E (specOf l) pf11 [.int .i64 i,.int .i64 n] G Q:=by
 simp (maxSteps:=1000000) (implicitDefEqProofs:=false) only[pf11,h1,S26_eq,h2,SNo_eq,hi,go_sem,↓reduceIte]
 exact⟨fun _ c hc id hid=>h c hc id (by rw[look_cons];exact hid),fun c=>absurd hn c⟩
theorem walk19 {kt:List Int} {x:V} (h1:Abs.look l 42=some SIs) (h3:Abs.look l 24=some SVat) (h4:Abs.look l 49=some (SBg kt)) (hh:SLd kt [x] G Q):Wf E (specOf l) pf19 [x] G Q:=by
 rcases hh with⟨hn,h⟩|⟨s,b0,b1,⟨hs,hd,z0,z1,⟨y0,y1⟩,l0,l1⟩,h⟩
 ·simp (maxSteps:=1000000) (implicitDefEqProofs:=false) only[pf19,h1,SIs_eq,go_sem,↓reduceIte]
  refine⟨false,.inl ⟨hn,rfl⟩,?_⟩
  try simp (maxSteps:=1000000) (implicitDefEqProofs:=false) only[go_sem,↓reduceIte]
  exact h
 ·have hs':=hs
  obtain⟨rfl,hv,hc,hne,hok,_,_⟩:=hs
  have g0:=(by_size z0).1
  have g1:=(by_size z1).1
  unfold VS.val at hv
  rw[hd]at hv
  simp (maxSteps:=1000000) (implicitDefEqProofs:=false) only[pf19,h1,SIs_eq,h3,SVat_eq,h4,SBg_eq,hv,g0,g1,go_sem,↓reduceIte]
  refine⟨true,.inr ⟨s,hs',rfl⟩,?_⟩
  simp (maxSteps:=1000000) (implicitDefEqProofs:=false) only[h3,SVat_eq,h4,SBg_eq,hv,g0,g1,go_sem,↓reduceIte]
  refine⟨s.n,.inr ⟨s,hs',rfl⟩,fun hz=> ?_,fun hz=>⟨3,?_⟩⟩
  ·have:=h G (Ext.refl G)
   have e:loadV kt s.i s.n b0 b1=(.zero,0):=by unfold loadV;rw[if_pos hz]
   rw[e]at this
   exact this
  have sza:=eq_true (two_sza (by_size z0) (by_size z1))
  simp (maxSteps:=1000000) (implicitDefEqProofs:=false) only[go_sem,↓reduceIte]
  refine WL_in lp19_0.eq_1 ?_
  simp (maxSteps:=1000000) (implicitDefEqProofs:=false) only[h3,SVat_eq,h4,SBg_eq,hv,g0,g1,go_sem,↓reduceIte]
  refine⟨two_sza (by_size z0) (by_size z1),b0,⟨z0,y0,l0⟩,fun id hid=> ?_⟩
  have hx1:=Ext.cons (x:=(rdBlob (b0,false)).2.2.2.v) hid
  rcases hg:getBlob kt s.i b0 with⟨v,⟨q1,q2,q3,q4⟩,e⟩
  have hgR:getR (v,⟨q1,q2,q3,q4⟩,e)= .tup [.int .i64 v,.agg [.int .i64 q1,.int .i64 q2,.int .i64 q3,.arr .u8 32 q4],.int .i64 e]:=rfl
  rw[hgR]
  simp (maxSteps:=1000000) (implicitDefEqProofs:=false) only[h3,SVat_eq,h4,SBg_eq,hv,g0,g1,go_sem,↓reduceIte]
  have at1:=hs'.ext hx1
  by_cases c1:e=0∧v=s.n
  ·have:=h _ hx1
   have el:loadV kt s.i s.n b0 b1=(⟨q1,q2,q3,q4⟩,0):=by unfold loadV;rw[if_neg hz,hg,if_pos c1]
   rw[el]at this
   exact⟨fun _=>⟨s.n,.inr ⟨s,at1,rfl⟩,fun _=>this,fun c=>absurd c1.2 c⟩,fun c=>absurd c1.1 c⟩
  have hv1:=at1.v
  unfold VS.val at hv1
  rw[hd]at hv1
  have h:∀G',Ext ((id,(rdBlob (b0,false)).2.2.2.v)::G) G'→Q (.tup [(loadV kt s.i s.n b0 b1).1.v,.int .i64 (loadV kt s.i s.n b0 b1).2]) G':=fun G' hG=>h G' (hx1.trans hG)
  have el:loadV kt s.i s.n b0 b1=if (getBlob kt s.i b1).2.2=0∧(getBlob kt s.i b1).1=s.n then ((getBlob kt s.i b1).2.1,0)else (.zero,8):=by unfold loadV;rw[if_neg hz,hg,if_neg c1]
  rw[el]at h
  have w1:IntKind.i64.wrap 1=1:=by decide
  have w2:IntKind.i64.wrap 2=2:=by decide
  refine⟨fun c=>⟨s.n,.inr ⟨s,at1,rfl⟩,fun c2=>absurd ⟨c,c2⟩ c1,fun _=> ?_⟩,fun c=> ?_⟩
  all_goals
   generalize (id,(rdBlob (b0,false)).2.2.2.v)::G=G1 at*
   refine WL_in lp19_0.eq_1 ?_
   simp (maxSteps:=1000000) (implicitDefEqProofs:=false) only[h3,SVat_eq,h4,SBg_eq,hv1,g0,g1,w1,w2,go_sem,↓reduceIte]
   refine⟨two_sza (by_size z0) (by_size z1),b1,⟨z1,y1,l1⟩,fun id2 hid2=> ?_⟩
   have hx2:=Ext.cons (x:=(rdBlob (b1,false)).2.2.2.v) hid2
   rcases hg2:getBlob kt s.i b1 with⟨v',⟨p1,p2,p3,p4⟩,e'⟩
   have hgR2:getR (v',⟨p1,p2,p3,p4⟩,e')= .tup [.int .i64 v',.agg [.int .i64 p1,.int .i64 p2,.int .i64 p3,.arr .u8 32 p4],.int .i64 e']:=rfl
   rw[hgR2]
   simp (maxSteps:=1000000) (implicitDefEqProofs:=false) only[h3,SVat_eq,h4,SBg_eq,hv1,g0,g1,w1,w2,go_sem,↓reduceIte]
   have at2:=at1.ext hx2
   have h:=h _ hx2
   rw[hg2]at h
   by_cases c2:e'=0∧v'=s.n
   ·rw[if_pos c2]at h
    exact⟨fun _=>⟨s.n,.inr ⟨s,at2,rfl⟩,fun _=>h,fun c=>absurd c2.2 c⟩,fun c=>absurd c2.1 c⟩
   ·rw[if_neg c2]at h
    generalize (id2,(rdBlob (b1,false)).2.2.2.v)::G1=G2 at*
    refine⟨fun c=>⟨s.n,.inr ⟨s,at2,rfl⟩,fun c3=>absurd ⟨c,c3⟩ c2,fun _=> ?_⟩,fun c=> ?_⟩
    all_goals
     refine WL_in lp19_0.eq_1 ?_
     simp (maxSteps:=1000000) (implicitDefEqProofs:=false) only[w1,w2,go_sem,↓reduceIte]
     exact h
end Go.Proofs.YtjbglbhcbenhpaaDoor.Sha
namespace Go.Proofs.YtjbglbhcbenhpaaDoor.Sha
open Go Go.Abs Go.Abs.Sha
set_option linter.unusedSimpArgs false
set_option linter.unusedVariables false
set_option maxRecDepth 100000
def pf10:PF:=
 PF.mk 0 11 70 ((PC.reg [nn (.v 0) (.mv true (.c (.v (.bool false))))]).seq ((PC.reg [nn (.t 12) (.call 11 [.c (.v (.int .i64 2)),.c (.v (.int .i64
  0))]),nn (.t 11) (.mv false (.t 12)),nn (.t 13) (.ext (.t 11) 0),nn (.t 14) (.ext (.t 11) 1),ma 1 13,ma 2 14]).seq (((PC.reg [mm 15 2,nn (.t
  16) (.bin .neq (.t 15) (.c (.v (.int .i64 0)))),nn (.t 17) (.mv false (.t 16)),gm 18 1 17 false,⟨.t 19,.binP .eql (.t 18) (.c (.v .nilp)),some
  (.t 17,false)⟩,nn (.t 20) (.pick (.t 17) (.c (.v (.bool true))) (.t 19))]).seq (PC.cond (.t 20) ((PC.reg [nn (.v 0) (.mv true (.c (.v (.bool
  false))))]).seq PC.ret) PC.skip)).seq ((PC.reg [mm 21 1,nn (.t 22) (.build (.agg [.int .i64 0,.int .i64 0,.int .i64 0,.arr .u8 32 [0,0,0,0,0,
  0,0,0,0,0,0,0,0,0,0,0,0,0,0,0,0,0,0,0,0,0,0,0,0,0,0,0]]) [(0,.c (.v (.int .i64 1))),(1,.c (.v (.int .i64 1)))]),nn (.t
  23) (.call 15 [.t 21,.t 22]),ma 3 23]).seq ((PC.reg [mm 24 1,nn (.t 25) (.call 23 [.t 24,.c (.v (.int .i64 1))]),ma 4 25]).seq ((PC.reg [mm 26
  1,nn (.t 27) (.build (.agg [.int .i64 0,.int .i64 0,.int .i64 0,.arr .u8 32 [0,0,0,0,0,0,0,0,0,0,0,0,0,0,0,0,0,0,0,0,0,0,0,
  0,0,0,0,0,0,0,0,0]]) [(0,.c (.v (.int .i64 2))),(1,.c (.v (.int .i64 1)))]),nn (.t 28) (.call 15 [.t 26,.t 27]),ma 5 28]).seq ((PC.reg
  [mm 30 1,nn (.t 31) (.call 19 [.t 30]),nn (.t 29) (.mv false (.t 31)),nn (.t 32) (.ext (.t 29) 0),nn (.t 33) (.ext (.t 29) 1),nn (.v 6) (.alloc
  (.agg [.int .i64 0,.int .i64 0,.int .i64 0,.arr .u8 32 [0,0,0,0,0,0,0,0,0,0,0,0,0,0,0,0,0,0,0,0,0,0,0,0,0,0,0,0,0,0,
  0,0]])),nn .no (.store 35 (.v 6) (.t 32)),ma 7 33]).seq ((PC.reg [mm 34 1,mm 35 4,nn (.t 36) (.call 21 [.t 34,.c (.v (.int .i64 0)),.t 35]),
  ma 8 36]).seq ((PC.reg [mm 38 1,nn (.t 39) (.call 19 [.t 38]),nn (.t 37) (.mv false (.t 39)),nn (.t 40) (.ext (.t 37) 0),nn (.t 41) (.ext (.t 37)
  1),nn (.v 9) (.alloc (.agg [.int .i64 0,.int .i64 0,.int .i64 0,.arr .u8 32 [0,0,0,0,0,0,0,0,0,0,0,0,0,0,0,0,0,0,0,0,0,0,0,
  0,0,0,0,0,0,0,0,0]])),nn .no (.store 35 (.v 9) (.t 40)),ma 10 41]).seq ((PC.reg [mm 42 3,nn (.t 43) (.bin .eql (.t 42) (.c (.v (.int .i64
  0)))),nn (.t 44) (.mv false (.t 43)),gm 45 5 44 true,⟨.t 46,.bin .eql (.t 45) (.c (.v (.int .i64 0))),some (.t 44,true)⟩,nn (.t 47) (.pick (.t
  44) (.t 46) (.c (.v (.bool false)))),nn (.t 48) (.mv false (.t 47)),gm 49 7 48 true,⟨.t 50,.bin .eql (.t 49) (.c (.v (.int .i64 0))),some (.t
  48,true)⟩,nn (.t 51) (.pick (.t 48) (.t 50) (.c (.v (.bool false)))),nn (.t 52) (.mv false (.t 51)),⟨.t 53,.fadr 0 0 (.v 6),some (.t 52,
  true)⟩,⟨.t 54,.load 1 false (.t 53),some (.t 52,true)⟩,⟨.t 55,.bin .eql (.t 54) (.c (.v (.int .i64 2))),some (.t 52,true)⟩,nn (.t 56) (.pick
  (.t 52) (.t 55) (.c (.v (.bool false)))),nn (.t 57) (.mv false (.t 56)),gm 58 8 57 true,⟨.t 59,.bin .eql (.t 58) (.c (.v (.int .i64 0))),some
  (.t 57,true)⟩,nn (.t 60) (.pick (.t 57) (.t 59) (.c (.v (.bool false)))),nn (.t 61) (.mv false (.t 60)),gm 62 10 61 true,⟨.t 63,.bin .eql (.t
  62) (.c (.v (.int .i64 8))),some (.t 61,true)⟩,nn (.t 64) (.pick (.t 61) (.t 63) (.c (.v (.bool false)))),nn (.t 65) (.mv false (.t 64)),gm 66 1
  65 true,⟨.t 67,.call 24 [.t 66],some (.t 65,true)⟩,⟨.t 68,.bin .eql (.t 67) (.c (.v (.int .i64 2))),some (.t 65,true)⟩,nn (.t 69) (.pick (.t
  65) (.t 68) (.c (.v (.bool false)))),ma 0 69]).seq PC.ret)))))))))) [(.v 0,none)]
attribute [local irreducible] W Wops WopsD WL Wop WopD
variable {E:Env} {C:Abs.Spec} {l:List (Nat×Spec1)} {G:List (Nat×V)} {Q:R→List (Nat×V)→Prop}
set_option maxHeartbeats 1000000
theorem VS.at.kept {s:VS} {G:List (Nat×V)} {x:V} {k n:Int} {b:List Int} (h:s.at G x) (hk:k=0∨k=1) (hn:okC n):({ s.put k (.sli .u8 b)with n:=n }:VS).at (upd (upd G s.id (s.put k (.sli .u8 b)).val) s.c (CT n true)) x:=by
 have hp:=h.put (b:=b) hk
 have e1:(s.put k (.sli .u8 b)).id=s.id:=by unfold VS.put;split<;>rfl
 have e2:(s.put k (.sli .u8 b)).c=s.c:=by unfold VS.put;split<;>rfl
 obtain⟨p1,p2,p3,p4,p5,p6,p7⟩:=hp
 rw[e2]at p3 p4
 refine⟨p1,?_,?_,by rw[←e2]at p4;exact p4,hn,p6,p7⟩
 ·show Abs.look _ (s.put k (.sli .u8 b)).id=_
  rw[look_upd_ne (by rw[e1];exact h.ne.symm)];exact p2
 ·show Abs.look _ (s.put k (.sli .u8 b)).c=_
  rw[e2];exact look_upd_same p3
theorem newV_at {i n:Int} {c id:Nat} {G:List (Nat×V)} (hn:okC n) (hid:(if id=c then some (CT n true)else Abs.look G id)=none):(newV i n c id).at ((id,(newV i n c id).val)::(c,CT n true)::G) (.ptr id):=by
 have hne:c≠id:=by
  rintro rfl
  rw[if_pos rfl]at hid;cases hid
 exact⟨rfl,by show Abs.look _ id=_;rw[look_cons,if_pos rfl],by show Abs.look _ c=_;rw[look_cons,if_neg hne,look_cons,if_pos rfl];rfl,hne,hn,⟨_,rfl⟩,⟨_,rfl⟩⟩
def SAv:Spec1
 |[],G,Q=>∀G',Q (.v (.bool true)) G'
 |_,_,_=>False
theorem SAv_eq {G:List (Nat×V)} {Q:R→List (Nat×V)→Prop}:SAv [] G Q=(∀G',Q (.v (.bool true)) G'):=rfl
theorem detSSw:SSw.Det:=by
 intro vs G Q h
 unfold SSw at h⊢
 split at h
 ·rcases h with⟨hn,h⟩|⟨s,b,hp,h⟩
  ·exact⟨_,h.2,fun Q' h'=> .inl ⟨hn,h'⟩⟩
  ·exact⟨_,h.2,fun Q' h'=> .inr ⟨s,b,hp,by rw[h.1];exact h'⟩⟩
 ·exact h.elim
theorem detSSlo:SSlo.Det:=by
 intro vs G Q h
 unfold SSlo at h⊢
 split at h
 ·rcases h with⟨hn,h⟩|⟨s,b,hp,h⟩
  ·exact⟨_,h.2,fun Q' h'=> .inl ⟨hn,h'⟩⟩
  ·exact⟨_,h.2,fun Q' h'=> .inr ⟨s,b,hp,h'⟩⟩
 ·exact h.elim
theorem wfS1:(⟨1,1,0,[0,0,0,0,0,0,0,0,0,0,0,0,0,0,0,0,0,0,0,0,0,0,0,0,0,0,0,0,0,0,0,0]⟩:SealS).wf:=⟨by decide,by decide,by decide,h32_zero⟩
theorem wfS2:(⟨2,1,0,[0,0,0,0,0,0,0,0,0,0,0,0,0,0,0,0,0,0,0,0,0,0,0,0,0,0,0,0,0,0,0,0]⟩:SealS).wf:=⟨by decide,by decide,by decide,h32_zero⟩
theorem mayS1:(⟨1,1,0,[0,0,0,0,0,0,0,0,0,0,0,0,0,0,0,0,0,0,0,0,0,0,0,0,0,0,0,0,0,0,0,0]⟩:SealS).May:=by decide
theorem mayS2:(⟨2,1,0,[0,0,0,0,0,0,0,0,0,0,0,0,0,0,0,0,0,0,0,0,0,0,0,0,0,0,0,0,0,0,0,0]⟩:SealS).May:=by decide
theorem blob_byt {kt:List Int} {s:SealS} {i ve:Int} (hw:s.wf) (hm:s.May) (hv:0≤ve∧ve≤1099511627776):Byt (s.blob kt i ve)∧(s.blob kt i ve).length≤104:=by
 obtain⟨s1,s2⟩:=SealS.said_ok hw hm hv
 exact⟨byt_app s1 (byt_tagH _ _ _ _),by unfold SealS.blob;rw[List.length_append,tagH_len];omega⟩
theorem getBlob_of {kt:List Int} {s:SealS} {i ve:Int} (hw:s.wf) (hm:s.May) (hi:1≤i∧i≤21) (hv:1≤ve∧ve≤1099511627776):getBlob kt i (s.blob kt i ve)=(ve,s,0):=by
 have e:=rdBlob_of (r:=[]) (ta:=tagH kt i 3 (s.said ve)) hw hm (ve:=ve) (by omega) (tagH_len _ _ _ _)
 rw[List.append_nil]at e
 unfold getBlob SealS.blob
 rw[e]
 simp only
 rw[if_neg (by rintro (h|h|h|h);exact absurd h (by decide);exact h rfl;omega;exact h hm),if_neg (by rintro (h|h);exact h hi;exact h rfl)]
end Go.Proofs.YtjbglbhcbenhpaaDoor.Sha
