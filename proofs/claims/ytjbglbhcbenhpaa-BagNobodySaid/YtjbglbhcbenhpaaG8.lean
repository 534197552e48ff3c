/- Laws over plain values, and what functions of the program hand back; no conditions. -/
import Derived.Test.YtjbglbhcbenhpaaG7
import Derived.Test.YtjbglbhcbenhpaaG5
import Derived.Test.YtjbglbhcbenhpaaG3
namespace Go.Proofs.Ytjbglbhcbenhpaa.Sha
open Go Go.Abs Go.Abs.Sha Go.Abs.Srt
set_option linter.unusedSimpArgs false
set_option linter.unusedVariables false
set_option maxRecDepth 100000
def pf70:PF:=
 PF.mk 2 5 66 ((PC.reg [nn (.v 2) (.box (.v 0)),nn (.v 3) (.box (.v 1)),nn (.v 4) (.mv true (.c (.v (.bool false))))]).seq ((PC.reg [nn (.t 5) (.fadr
  0 0 (.v 2)),nn (.t 6) (.load 1 false (.t 5)),nn (.t 7) (.fadr 0 0 (.v 3)),nn (.t 8) (.load 1 false (.t 7)),nn (.t 9) (.bin .eql (.t 6) (.t 8)),
  nn (.t 10) (.mv false (.t 9)),⟨.t 11,.fadr 1 1 (.v 2),some (.t 10,true)⟩,⟨.t 12,.load 1 false (.t 11),some (.t 10,true)⟩,⟨.t 13,.fadr 1 1
  (.v 3),some (.t 10,true)⟩,⟨.t 14,.load 1 false (.t 13),some (.t 10,true)⟩,⟨.t 15,.bin .eql (.t 12) (.t 14),some (.t 10,true)⟩,nn (.t 16)
  (.pick (.t 10) (.t 15) (.c (.v (.bool false)))),nn (.t 17) (.mv false (.t 16)),⟨.t 18,.fadr 2 2 (.v 2),some (.t 17,true)⟩,⟨.t 19,.load 1 false
  (.t 18),some (.t 17,true)⟩,⟨.t 20,.fadr 2 2 (.v 3),some (.t 17,true)⟩,⟨.t 21,.load 1 false (.t 20),some (.t 17,true)⟩,⟨.t 22,.bin .eql
  (.t 19) (.t 21),some (.t 17,true)⟩,nn (.t 23) (.pick (.t 17) (.t 22) (.c (.v (.bool false)))),nn (.t 24) (.mv false (.t 23)),⟨.t 25,.fadr 3 3
  (.v 2),some (.t 24,true)⟩,⟨.t 26,.load 101 true (.t 25),some (.t 24,true)⟩,⟨.t 27,.fadr 3 3 (.v 3),some (.t 24,true)⟩,⟨.t 28,.load 101
  true (.t 27),some (.t 24,true)⟩,⟨.t 29,.eqa false (.agg (.cons 0 1 false .int (.cons 1 1 false .int (.cons 2 1 false .int (.cons 3 1 false .int
  (.cons 4 32 true (.arr 32) (.cons 36 1 false .int (.cons 37 32 true (.arr 32) (.cons 69 32 true (.arr 32) .nil))))))))) (.t 26) (.t 28),some (.t 24,
  true)⟩,nn (.t 30) (.pick (.t 24) (.t 29) (.c (.v (.bool false)))),nn (.t 31) (.mv false (.t 30)),⟨.t 32,.fadr 4 104 (.v 2),some (.t 31,true)⟩,
  ⟨.t 33,.load 102 true (.t 32),some (.t 31,true)⟩,⟨.t 34,.fadr 4 104 (.v 3),some (.t 31,true)⟩,⟨.t 35,.load 102 true (.t 34),some (.t 31,
  true)⟩,⟨.t 36,.call 92 [.t 33,.t 35],some (.t 31,true)⟩,nn (.t 37) (.pick (.t 31) (.t 36) (.c (.v (.bool false)))),nn (.t 38) (.mv false (.t
  37)),⟨.t 39,.fadr 5 206 (.v 2),some (.t 38,true)⟩,⟨.t 40,.load 68 true (.t 39),some (.t 38,true)⟩,⟨.t 41,.fadr 5 206 (.v 3),some (.t 38,
  true)⟩,⟨.t 42,.load 68 true (.t 41),some (.t 38,true)⟩,⟨.t 43,.call 93 [.t 40,.t 42],some (.t 38,true)⟩,nn (.t 44) (.pick (.t 38) (.t 43)
  (.c (.v (.bool false)))),nn (.t 45) (.mv false (.t 44)),⟨.t 46,.fadr 6 274 (.v 2),some (.t 45,true)⟩,⟨.t 47,.load 36 true (.t 46),some (.t
  45,true)⟩,⟨.t 48,.fadr 6 274 (.v 3),some (.t 45,true)⟩,⟨.t 49,.load 36 true (.t 48),some (.t 45,true)⟩,⟨.t 50,.call 94 [.t 47,.t 49],
  some (.t 45,true)⟩,nn (.t 51) (.pick (.t 45) (.t 50) (.c (.v (.bool false)))),nn (.t 52) (.mv false (.t 51)),⟨.t 53,.fadr 7 310 (.v 2),some (.t
  52,true)⟩,⟨.t 54,.load 32 true (.t 53),some (.t 52,true)⟩,⟨.t 55,.fadr 7 310 (.v 3),some (.t 52,true)⟩,⟨.t 56,.load 32 true (.t 55),some
  (.t 52,true)⟩,⟨.t 57,.eqa false (.arr 32) (.t 54) (.t 56),some (.t 52,true)⟩,nn (.t 58) (.pick (.t 52) (.t 57) (.c (.v (.bool false)))),nn (.t
  59) (.mv false (.t 58)),⟨.t 60,.fadr 8 342 (.v 2),some (.t 59,true)⟩,⟨.t 61,.load 7 true (.t 60),some (.t 59,true)⟩,⟨.t 62,.fadr 8 342 (.v
  3),some (.t 59,true)⟩,⟨.t 63,.load 7 true (.t 62),some (.t 59,true)⟩,⟨.t 64,.eqa false (.agg (.cons 0 1 false .int (.cons 1 1 false .int
  (.cons 2 1 false .int (.cons 3 1 false .int (.cons 4 1 false .int (.cons 5 1 false .str (.cons 6 1 false .str .nil)))))))) (.t 61) (.t 63),some (.t
  59,true)⟩,nn (.t 65) (.pick (.t 59) (.t 64) (.c (.v (.bool false)))),ma 4 65]).seq PC.ret)) [(.v 4,none)]
def pf15:PF:=
 PF.mk 2 5 66 ((PC.reg [nn (.v 2) (.box (.v 0)),nn (.v 3) (.box (.v 1)),nn (.v 4) (.mv true (.c (.v (.bool false))))]).seq ((PC.reg [nn (.t 5) (.fadr
  0 0 (.v 2)),nn (.t 6) (.load 1 false (.t 5)),nn (.t 7) (.fadr 0 0 (.v 3)),nn (.t 8) (.load 1 false (.t 7)),nn (.t 9) (.bin .eql (.t 6) (.t 8)),
  nn (.t 10) (.mv false (.t 9)),⟨.t 11,.fadr 1 1 (.v 2),some (.t 10,true)⟩,⟨.t 12,.load 1 false (.t 11),some (.t 10,true)⟩,⟨.t 13,.fadr 1 1
  (.v 3),some (.t 10,true)⟩,⟨.t 14,.load 1 false (.t 13),some (.t 10,true)⟩,⟨.t 15,.bin .eql (.t 12) (.t 14),some (.t 10,true)⟩,nn (.t 16)
  (.pick (.t 10) (.t 15) (.c (.v (.bool false)))),nn (.t 17) (.mv false (.t 16)),⟨.t 18,.fadr 2 2 (.v 2),some (.t 17,true)⟩,⟨.t 19,.load 1 false
  (.t 18),some (.t 17,true)⟩,⟨.t 20,.fadr 2 2 (.v 3),some (.t 17,true)⟩,⟨.t 21,.load 1 false (.t 20),some (.t 17,true)⟩,⟨.t 22,.bin .eql
  (.t 19) (.t 21),some (.t 17,true)⟩,nn (.t 23) (.pick (.t 17) (.t 22) (.c (.v (.bool false)))),nn (.t 24) (.mv false (.t 23)),⟨.t 25,.fadr 3 3
  (.v 2),some (.t 24,true)⟩,⟨.t 26,.load 101 true (.t 25),some (.t 24,true)⟩,⟨.t 27,.fadr 3 3 (.v 3),some (.t 24,true)⟩,⟨.t 28,.load 101
  true (.t 27),some (.t 24,true)⟩,⟨.t 29,.eqa false (.agg (.cons 0 1 false .int (.cons 1 1 false .int (.cons 2 1 false .int (.cons 3 1 false .int
  (.cons 4 32 true (.arr 32) (.cons 36 1 false .int (.cons 37 32 true (.arr 32) (.cons 69 32 true (.arr 32) .nil))))))))) (.t 26) (.t 28),some (.t 24,
  true)⟩,nn (.t 30) (.pick (.t 24) (.t 29) (.c (.v (.bool false)))),nn (.t 31) (.mv false (.t 30)),⟨.t 32,.fadr 4 104 (.v 2),some (.t 31,true)⟩,
  ⟨.t 33,.load 102 true (.t 32),some (.t 31,true)⟩,⟨.t 34,.fadr 4 104 (.v 3),some (.t 31,true)⟩,⟨.t 35,.load 102 true (.t 34),some (.t 31,
  true)⟩,⟨.t 36,.call 46 [.t 33,.t 35],some (.t 31,true)⟩,nn (.t 37) (.pick (.t 31) (.t 36) (.c (.v (.bool false)))),nn (.t 38) (.mv false (.t
  37)),⟨.t 39,.fadr 5 206 (.v 2),some (.t 38,true)⟩,⟨.t 40,.load 68 true (.t 39),some (.t 38,true)⟩,⟨.t 41,.fadr 5 206 (.v 3),some (.t 38,
  true)⟩,⟨.t 42,.load 68 true (.t 41),some (.t 38,true)⟩,⟨.t 43,.call 47 [.t 40,.t 42],some (.t 38,true)⟩,nn (.t 44) (.pick (.t 38) (.t 43)
  (.c (.v (.bool false)))),nn (.t 45) (.mv false (.t 44)),⟨.t 46,.fadr 6 274 (.v 2),some (.t 45,true)⟩,⟨.t 47,.load 36 true (.t 46),some (.t
  45,true)⟩,⟨.t 48,.fadr 6 274 (.v 3),some (.t 45,true)⟩,⟨.t 49,.load 36 true (.t 48),some (.t 45,true)⟩,⟨.t 50,.call 48 [.t 47,.t 49],
  some (.t 45,true)⟩,nn (.t 51) (.pick (.t 45) (.t 50) (.c (.v (.bool false)))),nn (.t 52) (.mv false (.t 51)),⟨.t 53,.fadr 7 310 (.v 2),some (.t
  52,true)⟩,⟨.t 54,.load 32 true (.t 53),some (.t 52,true)⟩,⟨.t 55,.fadr 7 310 (.v 3),some (.t 52,true)⟩,⟨.t 56,.load 32 true (.t 55),some
  (.t 52,true)⟩,⟨.t 57,.eqa false (.arr 32) (.t 54) (.t 56),some (.t 52,true)⟩,nn (.t 58) (.pick (.t 52) (.t 57) (.c (.v (.bool false)))),nn (.t
  59) (.mv false (.t 58)),⟨.t 60,.fadr 8 342 (.v 2),some (.t 59,true)⟩,⟨.t 61,.load 7 true (.t 60),some (.t 59,true)⟩,⟨.t 62,.fadr 8 342 (.v
  3),some (.t 59,true)⟩,⟨.t 63,.load 7 true (.t 62),some (.t 59,true)⟩,⟨.t 64,.eqa false (.agg (.cons 0 1 false .int (.cons 1 1 false .int
  (.cons 2 1 false .int (.cons 3 1 false .int (.cons 4 1 false .int (.cons 5 1 false .str (.cons 6 1 false .str .nil)))))))) (.t 61) (.t 63),some (.t
  59,true)⟩,nn (.t 65) (.pick (.t 59) (.t 64) (.c (.v (.bool false)))),ma 4 65]).seq PC.ret)) [(.v 4,none)]
def pf71:PF:=
 PF.mk 1 13 55 ((PC.reg [nn (.v 1) (.box (.v 0)),nn (.v 2) (.alloc (.agg [.int .i64 0,.int .i64 0,.int .i64 0,.agg [.int .i64 0,.int .i64 0,.int
  .i64 0,.int .i64 0,.arr .u8 32 zz2,.int .i64 0,.arr
  .u8 32 zz2,.arr .u8 32 [0,0,0,0,0,0,0,0,0,0,
  0,0,0,0,0,0,0,0,0,0,0,0,0,0,0,0,0,0,0,0,0,0]],.agg [.agg [.int .i64 0,.int .i64 0,.int .i64 0,.int .i64 0,.arr .u8 32 [0,
  0,0,0,0,0,0,0,0,0,0,0,0,0,0,0,0,0,0,0,0,0,0,0,0,0,0,0,0,0,0,0],.int .i64 0,.arr .u8 32 [0,0,0,0,0,0,0,0,0,0,
  0,0,0,0,0,0,0,0,0,0,0,0,0,0,0,0,0,0,0,0,0,0],.arr .u8 32 [0,0,0,0,0,0,0,0,0,0,0,0,0,0,0,0,0,0,0,0,0,0,0,
  0,0,0,0,0,0,0,0,0]],.nils],.agg [.int .i64 0,.int .i64 0,.int .i64 0,.arr .u8 32 [0,0,0,0,0,0,0,0,0,0,0,0,0,0,0,0,0,0,
  0,0,0,0,0,0,0,0,0,0,0,0,0,0],.nils,.arr .u8 32 [0,0,0,0,0,0,0,0,0,0,0,0,0,0,0,0,0,0,0,0,0,0,0,0,0,0,0,0,0,
  0,0,0]],.agg [.arr .u8 32 zz2,.int .i64 0,.int .i64
  0,.int .i64 0,.nils],.arr .u8 32 zz2,.agg [.int .i64
  0,.int .i64 0,.int .i64 0,.int .i64 0,.int .i64 0,.str ⟨⟨[]⟩⟩,.str ⟨⟨[]⟩⟩]]))]).seq ((PC.reg [nn (.v 4) (.fadr 0 0 (.v 1)),nn (.v 5) (.load 1
  false (.v 4)),nn (.v 6) (.fadr 1 1 (.v 1)),nn (.v 7) (.load 1 false (.v 6)),nn (.v 8) (.fadr 2 2 (.v 1)),nn (.v 9) (.load 1 false (.v 8)),nn (.v
  10) (.build (.agg [.int .i64 0,.int .i64 0,.int .i64 0,.agg [.int .i64 0,.int .i64 0,.int .i64 0,.int .i64 0,.arr .u8 32 [0,0,0,0,0,0,0,
  0,0,0,0,0,0,0,0,0,0,0,0,0,0,0,0,0,0,0,0,0,0,0,0,0],.int .i64 0,.arr .u8 32 [0,0,0,0,0,0,0,0,0,0,0,0,0,0,0,0,
  0,0,0,0,0,0,0,0,0,0,0,0,0,0,0,0],.arr .u8 32 [0,0,0,0,0,0,0,0,0,0,0,0,0,0,0,0,0,0,0,0,0,0,0,0,0,0,0,0,0,
  0,0,0]],.agg [.agg [.int .i64 0,.int .i64 0,.int .i64 0,.int .i64 0,.arr .u8 32 [0,0,0,0,0,0,0,0,0,0,0,0,0,0,0,0,0,0,0,0,
  0,0,0,0,0,0,0,0,0,0,0,0],.int .i64 0,.arr .u8 32 [0,0,0,0,0,0,0,0,0,0,0,0,0,0,0,0,0,0,0,0,0,0,0,0,0,0,0,0,0,
  0,0,0],.arr .u8 32 zz2],.nils],.agg [.int .i64 0,
  .int .i64 0,.int .i64 0,.arr .u8 32 zz2,.nils,.arr
  .u8 32 zz2],.agg [.arr .u8 32 [0,0,0,0,0,0,0,0,
  0,0,0,0,0,0,0,0,0,0,0,0,0,0,0,0,0,0,0,0,0,0,0,0],.int .i64 0,.int .i64 0,.int .i64 0,.nils],.arr .u8 32 [0,0,0,0,0,
  0,0,0,0,0,0,0,0,0,0,0,0,0,0,0,0,0,0,0,0,0,0,0,0,0,0,0],.agg [.int .i64 0,.int .i64 0,.int .i64 0,.int .i64 0,.int .i64
  0,.str ⟨⟨[]⟩⟩,.str ⟨⟨[]⟩⟩]]) [(0,.v 5),(1,.v 7),(2,.v 9)]),nn (.v 3) (.alloc (.agg [.int .i64 0,.int .i64 0,.int .i64 0,.agg [.int .i64 0,
  .int .i64 0,.int .i64 0,.int .i64 0,.arr .u8 32 zz2,
  .int .i64 0,.arr .u8 32 zz2,.arr .u8 32 [0,0,0,0,
  0,0,0,0,0,0,0,0,0,0,0,0,0,0,0,0,0,0,0,0,0,0,0,0,0,0,0,0]],.agg [.agg [.int .i64 0,.int .i64 0,.int .i64 0,.int .i64 0,
  .arr .u8 32 zz2,.int .i64 0,.arr .u8 32 [0,0,0,0,
  0,0,0,0,0,0,0,0,0,0,0,0,0,0,0,0,0,0,0,0,0,0,0,0,0,0,0,0],.arr .u8 32 [0,0,0,0,0,0,0,0,0,0,0,0,0,0,0,0,0,
  0,0,0,0,0,0,0,0,0,0,0,0,0,0,0]],.nils],.agg [.int .i64 0,.int .i64 0,.int .i64 0,.arr .u8 32 [0,0,0,0,0,0,0,0,0,0,0,0,
  0,0,0,0,0,0,0,0,0,0,0,0,0,0,0,0,0,0,0,0],.nils,.arr .u8 32 [0,0,0,0,0,0,0,0,0,0,0,0,0,0,0,0,0,0,0,0,0,0,0,
  0,0,0,0,0,0,0,0,0]],.agg [.arr .u8 32 zz2,.int
  .i64 0,.int .i64 0,.int .i64 0,.nils],.arr .u8 32 [0,0,0,0,0,0,0,0,0,0,0,0,0,0,0,0,0,0,0,0,0,0,0,0,0,0,0,0,0,0,0,
  0],.agg [.int .i64 0,.int .i64 0,.int .i64 0,.int .i64 0,.int .i64 0,.str ⟨⟨[]⟩⟩,.str ⟨⟨[]⟩⟩]])),nn .no (.store 349 (.v 3) (.v 10))]).seq
  (((PC.reg [nn (.v 11) (.fadr 0 0 (.v 1)),nn (.v 12) (.load 1 false (.v 11))]).seq (PC.block 0 (((PC.reg [nn (.t 14) (.bin .eql (.v 12) (.c (.v (.int
  .i64 1)))),nn (.t 13) (.mv true (.t 14))]).seq (PC.cond (.t 13) PC.skip ((PC.reg [nn (.t 15) (.bin .eql (.v 12) (.c (.v (.int .i64 3)))),nn (.t 13)
  (.mv true (.t 15))]).seq (PC.cond (.t 13) PC.skip (PC.reg [nn (.t 16) (.bin .eql (.v 12) (.c (.v (.int .i64 5)))),nn (.t 13) (.mv true (.t
  16))]))))).seq (PC.cond (.t 13) (PC.reg [nn (.t 17) (.fadr 3 3 (.v 1)),nn (.t 18) (.load 101 true (.t 17)),nn (.t 19) (.fadr 3 3 (.v 3)),nn .no
  (.store 101 (.t 19) (.t 18))]) ((PC.reg [nn (.t 21) (.bin .eql (.v 12) (.c (.v (.int .i64 2)))),nn (.t 20) (.mv true (.t 21))]).seq (PC.cond (.t 20)
  (PC.regD 0 [nn (.t 22) (.fadr 6 274 (.v 1)),nn (.t 23) (.load 36 true (.t 22)),nn (.t 24) (.fadr 5 206 (.v 1)),nn (.t 25) (.load 68 true (.t 24)),
  nn (.t 26) (.fadr 6 274 (.v 3)),nn .no (.store 36 (.t 26) (.t 23)),nn (.t 27) (.fadr 5 206 (.v 3)),nn .no (.store 68 (.t 27) (.t 25))] [(3,5)])
  (((PC.reg [nn (.t 29) (.bin .eql (.v 12) (.c (.v (.int .i64 4)))),nn (.t 28) (.mv true (.t 29))]).seq (PC.cond (.t 28) PC.skip (PC.reg [nn (.t 30)
  (.bin .eql (.v 12) (.c (.v (.int .i64 6)))),nn (.t 28) (.mv true (.t 30))]))).seq (PC.cond (.t 28) (PC.reg [nn (.t 31) (.fadr 4 104 (.v 1)),nn (.t
  32) (.load 102 true (.t 31)),nn (.t 33) (.fadr 4 104 (.v 3)),nn .no (.store 102 (.t 33) (.t 32))]) ((PC.reg [nn (.t 35) (.bin .eql (.v 12) (.c (.v
  (.int .i64 7)))),nn (.t 34) (.mv true (.t 35))]).seq (PC.cond (.t 34) (PC.reg [nn (.t 36) (.fadr 7 310 (.v 1)),nn (.t 37) (.load 32 true (.t 36)),
  nn (.t 38) (.fadr 7 310 (.v 3)),nn .no (.store 32 (.t 38) (.t 37))]) ((PC.reg [nn (.t 40) (.bin .eql (.v 12) (.c (.v (.int .i64 8)))),nn (.t 39)
  (.mv true (.t 40))]).seq (PC.cond (.t 39) (PC.reg [nn (.t 41) (.fadr 6 274 (.v 1)),nn (.t 42) (.load 36 true (.t 41)),nn (.t 43) (.fadr 6 274 (.v
  3)),nn .no (.store 36 (.t 43) (.t 42))]) ((PC.reg [nn (.t 45) (.bin .eql (.v 12) (.c (.v (.int .i64 9)))),nn (.t 44) (.mv true (.t 45))]).seq
  (PC.cond (.t 44) (PC.reg [nn (.t 46) (.fadr 8 342 (.v 1)),nn (.t 47) (.load 7 true (.t 46)),nn (.t 48) (.fadr 8 342 (.v 3)),nn .no (.store 7 (.t
  48) (.t 47))]) ((PC.reg [nn (.t 50) (.bin .eql (.v 12) (.c (.v (.int .i64 10)))),nn (.t 49) (.mv true (.t 50))]).seq (PC.cond (.t 49) (PC.reg [nn
  (.t 51) (.fadr 5 206 (.v 1)),nn (.t 52) (.load 68 true (.t 51)),nn (.t 53) (.fadr 5 206 (.v 3)),nn .no (.store 68 (.t 53) (.t 52))])
  PC.skip)))))))))))))))).seq ((PC.reg [nn (.t 54) (.load 349 true (.v 3)),nn .no (.store 349 (.v 2) (.t 54))]).seq PC.ret)))) [(.v 2,some (349,
  true))]
def pf73:PF:=
 PF.mk 1 5 13 ((PC.reg [nn (.v 1) (.box (.v 0)),nn (.v 2) (.mv true (.c (.v (.int .i64 0))))]).seq (((PC.reg [nn (.v 3) (.fadr 0 0 (.v 1)),nn (.v 4)
  (.load 1 false (.v 3))]).seq (PC.block 0 ((PC.reg [nn (.t 6) (.bin .eql (.v 4) (.c (.v (.int .i64 1)))),nn (.t 5) (.mv true (.t 6))]).seq (PC.cond
  (.t 5) ((PC.reg [nn (.v 2) (.mv true (.c (.v (.int .i64 1))))]).seq PC.ret) (((PC.reg [nn (.t 8) (.bin .eql (.v 4) (.c (.v (.int .i64 3)))),nn (.t
  7) (.mv true (.t 8))]).seq (PC.cond (.t 7) PC.skip (PC.reg [nn (.t 9) (.bin .eql (.v 4) (.c (.v (.int .i64 4)))),nn (.t 7) (.mv true (.t 9))]))).seq
  (PC.cond (.t 7) ((PC.reg [nn (.v 2) (.mv true (.c (.v (.int .i64 2))))]).seq PC.ret) (((PC.reg [nn (.t 11) (.bin .eql (.v 4) (.c (.v (.int .i64
  5)))),nn (.t 10) (.mv true (.t 11))]).seq (PC.cond (.t 10) PC.skip (PC.reg [nn (.t 12) (.bin .eql (.v 4) (.c (.v (.int .i64 6)))),nn (.t 10) (.mv
  true (.t 12))]))).seq (PC.cond (.t 10) ((PC.reg [nn (.v 2) (.mv true (.c (.v (.int .i64 3))))]).seq PC.ret) PC.skip)))))))).seq ((PC.reg [nn (.v 2)
  (.mv true (.c (.v (.int .i64 0))))]).seq PC.ret))) [(.v 2,none)]
attribute [local irreducible] W Wops WopsD WL Wop WopD
variable {E:Env} {C:Abs.Spec} {l:List (Nat×Spec1)} {G:List (Nat×V)} {Q:R→List (Nat×V)→Prop}
set_option maxHeartbeats 1000000
theorem sameT_eq {a b:AttS}:sameT a b=true↔a=b:=by
 cases a;cases b;unfold sameT;simp
theorem sameC_eq {a b:CertS}:sameC a b=true↔a=b:=by
 cases a;cases b;unfold sameC;simp[sameT_eq]
theorem sameA_eq {a b:AccS}:sameA a b=true↔a=b:=by
 cases a;cases b;unfold sameA;simp
theorem BV_v (b:BlkS):b.v=BV b (.sle 7 (b.txs.map TxS.v)):=rfl
def MsgS.sh (m:MsgS):Prop:=m.ce.sigs.length < 1000000∧m.ac.fr.length < 1000000∧m.bl.txs.length < 1000000
theorem _root_.Go.Abs.Sha.MsgS.ok.sh {m:MsgS} (h:m.ok):MsgS.sh m:=⟨h.cel,h.acl,h.bl.2.2⟩
def ZMs:Spec1
 |[x,y],G,Q=>∃a b:MsgS,(V.Wk x a.v∧V.Wk y b.v∧MsgS.sh a∧MsgS.sh b)∧Q (.v (.bool (decide (a=b)))) G
 |_,_,_=>False
theorem ZMs_eq {x y}:ZMs [x,y] G Q=(∃a b:MsgS,(V.Wk x a.v∧V.Wk y b.v∧MsgS.sh a∧MsgS.sh b)∧Q (.v (.bool (decide (a=b)))) G):=rfl
theorem _root_.Go.Abs.Sha.CertS.vs (c:CertS):V.size c.v=102∧V.isAgg c.v=true:=⟨rfl,rfl⟩
theorem _root_.Go.Abs.Sha.AccS.vs (c:AccS):V.size c.v=68∧V.isAgg c.v=true:=⟨rfl,rfl⟩
theorem _root_.Go.Abs.Sha.BlkS.vs (c:BlkS):V.size c.v=36∧V.isAgg c.v=true:=⟨rfl,rfl⟩
theorem _root_.Go.Abs.Sha.TxS.vs (c:TxS):V.size c.v=7∧V.isAgg c.v=true:=⟨rfl,rfl⟩
theorem _root_.Go.Abs.Sha.AttS.vs (c:AttS):V.size c.v=101∧V.isAgg c.v=true:=⟨rfl,rfl⟩
theorem _root_.Go.Abs.Sha.MsgS.vs (c:MsgS):V.size c.v=349∧V.isAgg c.v=true:=⟨rfl,rfl⟩
theorem walk70 {a b:MsgS} (hC:Abs.look l 92=some ZSn) (hA:Abs.look l 93=some ZS10) (hB:Abs.look l 94=some ZBs)
  (ha:MsgS.sh a) (hb:MsgS.sh b) (h:Q (.v (.bool (decide (a=b)))) G):Wf E (specOf l) pf70 [a.v,b.v] G Q:=by
 have no:a≠b→Q (.v (.bool false)) G:=fun hn=>finB h (by rw[decide_eq_false_iff_not];exact hn)
 have yes:a=b→Q (.v (.bool true)) G:=fun hn=>finB h (by rw[decide_eq_true_iff];exact hn)
 have yn:=h
 clear h
 obtain⟨k1,f1,t1,a1,c1,x1,b1,h1,y1⟩:=a
 obtain⟨k2,f2,t2,a2,c2,x2,b2,h2,y2⟩:=b
 obtain⟨a1a,a1b,a1c,a1d,a1e,a1f,a1g,a1h⟩:=a1
 obtain⟨a2a,a2b,a2c,a2d,a2e,a2f,a2g,a2h⟩:=a2
 obtain⟨y1a,y1b,y1c,y1d,y1e,y1f,y1g⟩:=y1
 obtain⟨y2a,y2b,y2c,y2d,y2e,y2f,y2g⟩:=y2
 obtain⟨z1,z2⟩:=CertS.vs c1
 obtain⟨z3,z4⟩:=CertS.vs c2
 obtain⟨z5,z6⟩:=AccS.vs x1
 obtain⟨z7,z8⟩:=AccS.vs x2
 obtain⟨z9,z10⟩:=BlkS.vs b1
 obtain⟨z11,z12⟩:=BlkS.vs b2
 unfold V.isAgg at z2 z4 z6 z8 z10 z12
 simp -implicitDefEqProofs only[pf70,MsgS.v,AttS.v,TxS.v,z1,z2,z3,z4,z5,z6,z7,z8,z9,z10,z11,z12,hC,ZSn_eq,hA,ZS10_eq,hB,ZBs_eq,go_sem,↓reduceIte]
 refine⟨fun e1=>⟨fun e2=>⟨fun e3=>⟨fun e4=>⟨c1,c2,⟨rfl,rfl,ha.1,hb.1⟩,fun e5=>⟨x1,x2,⟨rfl,rfl,ha.2.1,hb.2.1⟩,fun e6=>⟨b1,b2,_,_,⟨BV_v b1,BV_v b2,.inl ⟨.inl rfl,.inl rfl⟩,ha.2.2,hb.2.2⟩,fun e7=>⟨fun e8=> ?_,fun e8=>no (fun e=> ?_)⟩,fun e7=>no (fun e=> ?_)⟩,fun e6=>no (fun e=> ?_)⟩,fun e5=>no (fun e=> ?_)⟩,fun e4=>no (fun e=> ?_)⟩,fun e3=>no (fun e=> ?_)⟩,fun e2=>no (fun e=> ?_)⟩,fun e1=>no (fun e=> ?_)⟩
 ·have e5:=sameC_eq.1 e5
  have e6:=sameA_eq.1 e6
  have e8:=eq_of_beq e8
  obtain⟨g1,g2,g3,g4,g5,g6,g7,g8⟩:=e4
  have g5:=eq_of_beq g5
  have g7:=eq_of_beq g7
  have g8:=eq_of_beq g8
  subst e1;subst e2;subst e3;subst e5;subst e6;subst e7;subst e8;subst g1;subst g2;subst g3;subst g4;subst g5;subst g6;subst g7;subst g8
  refine finB yn ?_
  rw[bs_eq,bs_eq]
  simp only[MsgS.mk.injEq,TxS.mk.injEq,true_and,Bool.decide_and]
 ·cases e;simp at e8
 ·cases e;exact e7 rfl
 ·cases e;rw[sameA_eq.2 rfl]at e6;cases e6
 ·cases e;rw[sameC_eq.2 rfl]at e5;cases e5
 ·cases e;simp at e4
 ·cases e;exact e3 rfl
 ·cases e;exact e2 rfl
 ·cases e;exact e1 rfl
theorem walk15 {a b:MsgS} (hC:Abs.look l 46=some ZSn) (hA:Abs.look l 47=some ZS10) (hB:Abs.look l 48=some ZBs)
  (ha:MsgS.sh a) (hb:MsgS.sh b) (h:Q (.v (.bool (decide (a=b)))) G):Wf E (specOf l) pf15 [a.v,b.v] G Q:=by
 have no:a≠b→Q (.v (.bool false)) G:=fun hn=>finB h (by rw[decide_eq_false_iff_not];exact hn)
 have yes:a=b→Q (.v (.bool true)) G:=fun hn=>finB h (by rw[decide_eq_true_iff];exact hn)
 have yn:=h
 clear h
 obtain⟨k1,f1,t1,a1,c1,x1,b1,h1,y1⟩:=a
 obtain⟨k2,f2,t2,a2,c2,x2,b2,h2,y2⟩:=b
 obtain⟨a1a,a1b,a1c,a1d,a1e,a1f,a1g,a1h⟩:=a1
 obtain⟨a2a,a2b,a2c,a2d,a2e,a2f,a2g,a2h⟩:=a2
 obtain⟨y1a,y1b,y1c,y1d,y1e,y1f,y1g⟩:=y1
 obtain⟨y2a,y2b,y2c,y2d,y2e,y2f,y2g⟩:=y2
 obtain⟨z1,z2⟩:=CertS.vs c1
 obtain⟨z3,z4⟩:=CertS.vs c2
 obtain⟨z5,z6⟩:=AccS.vs x1
 obtain⟨z7,z8⟩:=AccS.vs x2
 obtain⟨z9,z10⟩:=BlkS.vs b1
 obtain⟨z11,z12⟩:=BlkS.vs b2
 unfold V.isAgg at z2 z4 z6 z8 z10 z12
 simp -implicitDefEqProofs only[pf15,MsgS.v,AttS.v,TxS.v,z1,z2,z3,z4,z5,z6,z7,z8,z9,z10,z11,z12,hC,ZSn_eq,hA,ZS10_eq,hB,ZBs_eq,go_sem,↓reduceIte]
 refine⟨fun e1=>⟨fun e2=>⟨fun e3=>⟨fun e4=>⟨c1,c2,⟨rfl,rfl,ha.1,hb.1⟩,fun e5=>⟨x1,x2,⟨rfl,rfl,ha.2.1,hb.2.1⟩,fun e6=>⟨b1,b2,_,_,⟨BV_v b1,BV_v b2,.inl ⟨.inl rfl,.inl rfl⟩,ha.2.2,hb.2.2⟩,fun e7=>⟨fun e8=> ?_,fun e8=>no (fun e=> ?_)⟩,fun e7=>no (fun e=> ?_)⟩,fun e6=>no (fun e=> ?_)⟩,fun e5=>no (fun e=> ?_)⟩,fun e4=>no (fun e=> ?_)⟩,fun e3=>no (fun e=> ?_)⟩,fun e2=>no (fun e=> ?_)⟩,fun e1=>no (fun e=> ?_)⟩
 ·have e5:=sameC_eq.1 e5
  have e6:=sameA_eq.1 e6
  have e8:=eq_of_beq e8
  obtain⟨g1,g2,g3,g4,g5,g6,g7,g8⟩:=e4
  have g5:=eq_of_beq g5
  have g7:=eq_of_beq g7
  have g8:=eq_of_beq g8
  subst e1;subst e2;subst e3;subst e5;subst e6;subst e7;subst e8;subst g1;subst g2;subst g3;subst g4;subst g5;subst g6;subst g7;subst g8
  refine finB yn ?_
  rw[bs_eq,bs_eq]
  simp only[MsgS.mk.injEq,TxS.mk.injEq,true_and,Bool.decide_and]
 ·cases e;simp at e8
 ·cases e;exact e7 rfl
 ·cases e;rw[sameA_eq.2 rfl]at e6;cases e6
 ·cases e;rw[sameC_eq.2 rfl]at e5;cases e5
 ·cases e;simp at e4
 ·cases e;exact e3 rfl
 ·cases e;exact e2 rfl
 ·cases e;exact e1 rfl
theorem wkL_nil:V.WkL [] []:=by unfold V.WkL;rfl
theorem wkL_cons {x y:V} {l m:List V} (h:V.Wk x y) (h2:V.WkL l m):V.WkL (x::l) (y::m):=by unfold V.WkL;exact⟨y,m,rfl,h,h2⟩
theorem wk_agg {l m:List V} (h:V.WkL l m):V.Wk (.agg l) (.agg m):=by unfold V.Wk;exact⟨m,rfl,h⟩
theorem wk_nils {sz:Nat}:V.Wk .nils (.sle sz []):=by unfold V.Wk;exact .inr (.inr ⟨sz,rfl⟩)
theorem wk_nili {k:IntKind}:V.Wk .nils (.sli k []):=by unfold V.Wk;exact .inr (.inl ⟨k,rfl⟩)
def ceN:V:= .agg [AttS.zero.v,.nils]
def acN:V:= .agg [.int .i64 0,.int .i64 0,.int .i64 0,.arr .u8 32 zero32,.nils,.arr .u8 32 zero32]
theorem wk_ce:V.Wk ceN CertS.zero.v:=wk_agg (wkL_cons (V.Wk.refl _) (wkL_cons wk_nils wkL_nil))
theorem wk_ac:V.Wk acN AccS.zero.v:=wk_agg (wkL_cons (V.Wk.refl _) (wkL_cons (V.Wk.refl _) (wkL_cons (V.Wk.refl _) (wkL_cons (V.Wk.refl _) (wkL_cons wk_nili (wkL_cons (V.Wk.refl _) wkL_nil))))))
theorem wk_bl:V.Wk BlkS.zeroV BlkS.zero.v:=wk_agg (wkL_cons (V.Wk.refl _) (wkL_cons (V.Wk.refl _) (wkL_cons (V.Wk.refl _) (wkL_cons (V.Wk.refl _) (wkL_cons wk_nils wkL_nil)))))
theorem wk_msg {m:MsgS} {c x b:V} (hc:V.Wk c m.ce.v) (hx:V.Wk x m.ac.v) (hb:V.Wk b m.bl.v):V.Wk (.agg [.int .i64 m.ki,.int .i64 m.fr,.int .i64 m.to,m.at_.v,c,x,b,.arr .u8 32 m.ha,m.tx.v]) m.v:=
 wk_agg (wkL_cons (V.Wk.refl _) (wkL_cons (V.Wk.refl _) (wkL_cons (V.Wk.refl _) (wkL_cons (V.Wk.refl _) (wkL_cons hc (wkL_cons hx (wkL_cons hb (wkL_cons (V.Wk.refl _) (wkL_cons (V.Wk.refl _) wkL_nil)))))))))
theorem low_msg {x:V} {m:MsgS} (h:V.Wk x m.v):Low G (.v x) G (.v m.v) G:= .wk (by simp only[R.Wk];exact⟨_,rfl,h⟩) (WkG.refl _) (.refl _ _)
def ZNm:Spec1
 |[x],G,Q=>∃m:MsgS,V.Wk x m.v∧Q (.v m.named.v) G
 |_,_,_=>False
theorem ZNm_eq {x}:ZNm [x] G Q=(∃m:MsgS,V.Wk x m.v∧Q (.v m.named.v) G):=rfl
def kindM (k:Int):Int:=if k=1 then 1 else if k=3∨k=4 then 2 else if k=5∨k=6 then 3 else 0
def ZKi:Spec1
 |[x],G,Q=>∃m:MsgS,V.Wk x m.v∧Q (.v (.int .i64 (kindM m.ki))) G
 |_,_,_=>False
theorem ZKi_eq {x}:ZKi [x] G Q=(∃m:MsgS,V.Wk x m.v∧Q (.v (.int .i64 (kindM m.ki))) G):=rfl
theorem walk73 {m:MsgS} (h:Q (.v (.int .i64 (kindM m.ki))) G):Wf E C pf73 [m.v] G Q:=by
 obtain⟨k,f,t,a,c,x,b,hh,y⟩:=m
 simp -implicitDefEqProofs only[pf73,MsgS.v,go_sem,↓reduceIte]
 dsimp only at h
 have key:∀n,kindM k=n→Q (.v (.int .i64 n)) G:=fun n e=>by rw[←e];exact h
 refine⟨fun e1=>key _ (by subst e1;rfl),fun e1=>⟨fun e3=>⟨fun _=>key _ (by subst e3;rfl),fun e=>absurd e3 e⟩,fun e3=>⟨fun e4=>key _ (by subst e4;rfl),fun e4=>⟨fun e5=>⟨fun _=>key _ (by subst e5;rfl),fun e=>absurd e5 e⟩,fun e5=>⟨fun e6=>key _ (by subst e6;rfl),fun e6=>key _ ?_⟩⟩⟩⟩⟩
 unfold kindM;rw[if_neg e1,if_neg (by omega),if_neg (by omega)]
theorem walk71 {m:MsgS} (h:Q (.v m.named.v) G):Wf E C pf71 [m.v] G (fun r G'=>∃r2 G2,Low G r G' r2 G2∧Q r2 G2):=by
 obtain⟨k,f,t,⟨a1,a2,a3,a4,a5,a6,a7,a8⟩,⟨⟨c1,c2,c3,c4,c5,c6,c7,c8⟩,cs⟩,⟨x1,x2,x3,x4,x5,x6⟩,⟨b1,b2,b3,b4,b5⟩,hh,⟨y1,y2,y3,y4,y5,y6,y7⟩⟩:=m
 by_cases k1:k=1
 ·subst k1
  simp -implicitDefEqProofs only[pf71,MsgS.v,AttS.v,CertS.v,AccS.v,BlkS.v,TxS.v,go_sem,↓reduceIte]
  exact⟨_,_,low_msg (m:=⟨1,f,t,⟨a1,a2,a3,a4,a5,a6,a7,a8⟩,.zero,.zero,.zero,zero32,.zero⟩) (wk_msg wk_ce wk_ac wk_bl),h⟩
 by_cases k3:k=3
 ·subst k3
  simp -implicitDefEqProofs only[pf71,MsgS.v,AttS.v,CertS.v,AccS.v,BlkS.v,TxS.v,go_sem,↓reduceIte]
  exact⟨_,_,low_msg (m:=⟨3,f,t,⟨a1,a2,a3,a4,a5,a6,a7,a8⟩,.zero,.zero,.zero,zero32,.zero⟩) (wk_msg wk_ce wk_ac wk_bl),h⟩
 by_cases k5:k=5
 ·subst k5
  simp -implicitDefEqProofs only[pf71,MsgS.v,AttS.v,CertS.v,AccS.v,BlkS.v,TxS.v,go_sem,↓reduceIte]
  exact⟨_,_,low_msg (m:=⟨5,f,t,⟨a1,a2,a3,a4,a5,a6,a7,a8⟩,.zero,.zero,.zero,zero32,.zero⟩) (wk_msg wk_ce wk_ac wk_bl),h⟩
 by_cases k2:k=2
 ·subst k2
  simp -implicitDefEqProofs only[pf71,MsgS.v,AttS.v,CertS.v,AccS.v,BlkS.v,TxS.v,go_sem,↓reduceIte]
  exact⟨_,_,low_msg (m:=⟨2,f,t,.zero,.zero,⟨x1,x2,x3,x4,x5,x6⟩,⟨b1,b2,b3,b4,b5⟩,zero32,.zero⟩) (wk_msg wk_ce (V.Wk.refl _) (V.Wk.refl _)),h⟩
 by_cases k4:k=4
 ·subst k4
  simp -implicitDefEqProofs only[pf71,MsgS.v,AttS.v,CertS.v,AccS.v,BlkS.v,TxS.v,go_sem,↓reduceIte]
  exact⟨_,_,low_msg (m:=⟨4,f,t,.zero,⟨⟨c1,c2,c3,c4,c5,c6,c7,c8⟩,cs⟩,.zero,.zero,zero32,.zero⟩) (wk_msg (V.Wk.refl _) wk_ac wk_bl),h⟩
 by_cases k6:k=6
 ·subst k6
  simp -implicitDefEqProofs only[pf71,MsgS.v,AttS.v,CertS.v,AccS.v,BlkS.v,TxS.v,go_sem,↓reduceIte]
  exact⟨_,_,low_msg (m:=⟨6,f,t,.zero,⟨⟨c1,c2,c3,c4,c5,c6,c7,c8⟩,cs⟩,.zero,.zero,zero32,.zero⟩) (wk_msg (V.Wk.refl _) wk_ac wk_bl),h⟩
 by_cases k7:k=7
 ·subst k7
  simp -implicitDefEqProofs only[pf71,MsgS.v,AttS.v,CertS.v,AccS.v,BlkS.v,TxS.v,go_sem,↓reduceIte]
  exact⟨_,_,low_msg (m:=⟨7,f,t,.zero,.zero,.zero,.zero,hh,.zero⟩) (wk_msg wk_ce wk_ac wk_bl),h⟩
 by_cases k8:k=8
 ·subst k8
  simp -implicitDefEqProofs only[pf71,MsgS.v,AttS.v,CertS.v,AccS.v,BlkS.v,TxS.v,go_sem,↓reduceIte]
  exact⟨_,_,low_msg (m:=⟨8,f,t,.zero,.zero,.zero,⟨b1,b2,b3,b4,b5⟩,zero32,.zero⟩) (wk_msg wk_ce wk_ac (V.Wk.refl _)),h⟩
 by_cases k9:k=9
 ·subst k9
  simp -implicitDefEqProofs only[pf71,MsgS.v,AttS.v,CertS.v,AccS.v,BlkS.v,TxS.v,go_sem,↓reduceIte]
  exact⟨_,_,low_msg (m:=⟨9,f,t,.zero,.zero,.zero,.zero,zero32,⟨y1,y2,y3,y4,y5,y6,y7⟩⟩) (wk_msg wk_ce wk_ac wk_bl),h⟩
 by_cases k10:k=10
 ·subst k10
  simp -implicitDefEqProofs only[pf71,MsgS.v,AttS.v,CertS.v,AccS.v,BlkS.v,TxS.v,go_sem,↓reduceIte]
  exact⟨_,_,low_msg (m:=⟨10,f,t,.zero,.zero,⟨x1,x2,x3,x4,x5,x6⟩,.zero,zero32,.zero⟩) (wk_msg wk_ce (V.Wk.refl _) wk_bl),h⟩
 have e:MsgS.named ⟨k,f,t,⟨a1,a2,a3,a4,a5,a6,a7,a8⟩,⟨⟨c1,c2,c3,c4,c5,c6,c7,c8⟩,cs⟩,⟨x1,x2,x3,x4,x5,x6⟩,⟨b1,b2,b3,b4,b5⟩,hh,⟨y1,y2,y3,y4,y5,y6,y7⟩⟩=MsgS.bare k f t:=by
  unfold MsgS.named;dsimp only
  rw[if_neg (by omega),if_neg k2,if_neg (by omega),if_neg k7,if_neg k8,if_neg k9,if_neg k10]
 rw[e]at h
 simp -implicitDefEqProofs only[pf71,MsgS.v,AttS.v,CertS.v,AccS.v,BlkS.v,TxS.v,k1,k2,k3,k4,k5,k6,k7,k8,k9,k10,go_sem,↓reduceIte]
 exact⟨_,_,low_msg (m:=MsgS.bare k f t) (wk_msg wk_ce wk_ac wk_bl),h⟩
def pf72:PF:=
 PF.mk 1 8 69 ((PC.reg [nn (.v 1) (.box (.v 0)),nn (.v 2) (.mv true (.c (.own .nils)))]).seq (((PC.reg [nn (.v 6) (.fadr 0 0 (.v 1)),nn (.v 7) (.load
  1 false (.v 6))]).seq (PC.block 0 (((PC.reg [nn (.t 9) (.bin .eql (.v 7) (.c (.v (.int .i64 1)))),nn (.t 8) (.mv true (.t 9))]).seq (PC.cond (.t 8)
  PC.skip ((PC.reg [nn (.t 10) (.bin .eql (.v 7) (.c (.v (.int .i64 3)))),nn (.t 8) (.mv true (.t 10))]).seq (PC.cond (.t 8) PC.skip (PC.reg [nn (.t
  11) (.bin .eql (.v 7) (.c (.v (.int .i64 5)))),nn (.t 8) (.mv true (.t 11))]))))).seq (PC.cond (.t 8) ((PC.reg [nn (.t 12) (.fadr 3 3 (.v 1)),nn
  (.t 13) (.load 101 true (.t 12)),nn (.t 14) (.call 95 [.c (.own .nils),.t 13]),ma 2 14]).seq PC.ret) (((PC.reg [nn (.t 16) (.bin .eql (.v 7) (.c
  (.v (.int .i64 4)))),nn (.t 15) (.mv true (.t 16))]).seq (PC.cond (.t 15) PC.skip (PC.reg [nn (.t 17) (.bin .eql (.v 7) (.c (.v (.int .i64 6)))),nn
  (.t 15) (.mv true (.t 17))]))).seq (PC.cond (.t 15) ((PC.reg [nn (.t 18) (.fadr 4 104 (.v 1)),nn (.t 19) (.load 102 true (.t 18)),nn (.t 20) (.call
  96 [.c (.own .nils),.t 19]),ma 2 20]).seq PC.ret) ((PC.reg [nn (.t 22) (.bin .eql (.v 7) (.c (.v (.int .i64 7)))),nn (.t 21) (.mv true (.t
  22))]).seq (PC.cond (.t 21) ((PC.reg [nn (.t 23) (.fadr 7 310 (.v 1)),nn (.t 24) (.load 32 true (.t 23)),nn (.t 25) (.call 97 [.c (.own .nils),.t
  24]),ma 2 25]).seq PC.ret) ((PC.reg [nn (.t 27) (.bin .eql (.v 7) (.c (.v (.int .i64 9)))),nn (.t 26) (.mv true (.t 27))]).seq (PC.cond (.t 26)
  ((PC.reg [nn (.t 28) (.fadr 8 342 (.v 1)),nn (.t 29) (.load 7 true (.t 28)),nn (.t 30) (.call 98 [.c (.own .nils),.t 29]),ma 2 30]).seq PC.ret)
  ((PC.reg [nn (.t 32) (.bin .eql (.v 7) (.c (.v (.int .i64 10)))),nn (.t 31) (.mv true (.t 32))]).seq (PC.cond (.t 31) ((PC.reg [nn (.t 33) (.fadr 5
  206 (.v 1)),nn (.t 34) (.load 68 true (.t 33)),nn (.t 35) (.call 99 [.c (.own .nils),.t 34]),ma 2 35]).seq PC.ret) (((PC.reg [nn (.t 37) (.bin
  .eql (.v 7) (.c (.v (.int .i64 2)))),nn (.t 36) (.mv true (.t 37))]).seq (PC.cond (.t 36) PC.skip (PC.reg [nn (.t 38) (.bin .eql (.v 7) (.c (.v
  (.int .i64 8)))),nn (.t 36) (.mv true (.t 38))]))).seq (PC.cond (.t 36) ((PC.reg [nn (.t 40) (.fadr 6 274 (.v 1)),nn (.t 41) (.load 36 true (.t
  40)),nn (.t 42) (.call 100 [.t 41]),nn (.t 39) (.mv false (.t 42)),nn (.t 43) (.ext (.t 39) 0),nn (.t 44) (.ext (.t 39) 1),ma 3 43,ma 4
  44]).seq ((PC.reg [nn (.t 45) (.fadr 5 206 (.v 1)),nn (.t 46) (.load 68 true (.t 45)),nn (.t 47) (.call 99 [.c (.own .nils),.t 46]),ma 5 47]).seq
  (((PC.reg [mm 48 4,nn (.t 49) (.bin .neq (.t 48) (.c (.v (.int .i64 0)))),nn (.t 50) (.mv false (.t 49)),⟨.t 51,.fadr 6 274 (.v 1),some (.t 50,
  false)⟩,⟨.t 52,.fadr 1 32 (.t 51),some (.t 50,false)⟩,⟨.t 53,.load 1 false (.t 52),some (.t 50,false)⟩,⟨.t 54,.bin .eql (.t 53) (.c (.v
  (.int .i64 0))),some (.t 50,false)⟩,nn (.t 55) (.pick (.t 50) (.c (.v (.bool true))) (.t 54)),nn (.t 56) (.mv false (.t 55)),⟨.t 57,.fadr 0 0
  (.v 1),some (.t 56,false)⟩,⟨.t 58,.load 1 false (.t 57),some (.t 56,false)⟩,⟨.t 59,.bin .eql (.t 58) (.c (.v (.int .i64 2))),some (.t 56,
  false)⟩,gm 60 5 56 false,⟨.t 61,.len (.t 60),some (.t 56,false)⟩,⟨.t 62,.bin .gtr (.t 61) (.c (.v (.int .i64 0))),some (.t 56,false)⟩,⟨.t
  63,.binB .neq (.t 59) (.t 62),some (.t 56,false)⟩,nn (.t 64) (.pick (.t 56) (.c (.v (.bool true))) (.t 63))]).seq (PC.cond (.t 64) ((PC.reg [nn
  (.v 2) (.mv true (.c (.own .nils)))]).seq PC.ret) PC.skip)).seq ((PC.reg [mm 65 3,nn (.t 66) (.call 101 [.c (.own .nils),.t 65]),mm 67 5,nn (.t
  68) (.app (some .u8) 1 1 (.t 66) (.t 67)),ma 2 68]).seq PC.ret)))) PC.skip)))))))))))))).seq ((PC.reg [nn (.v 2) (.mv true (.c (.own .nils)))]).seq
  PC.ret))) [(.v 2,none)]
def pf43:PF:=
 PF.mk 1 3 46 ((PC.reg [nn (.v 1) (.box (.v 0)),nn (.v 2) (.mv true (.c (.v (.int .i64 0))))]).seq (((PC.regD 0 [nn (.t 3) (.fadr 1 1 (.v 1)),nn (.t
  4) (.load 1 false (.t 3)),nn (.t 5) (.call 69 [.t 4]),nn (.t 6) (.un .not (.t 5)),nn (.t 7) (.mv false (.t 6)),⟨.t 8,.fadr 2 2 (.v 1),some (.t
  7,false)⟩,⟨.t 9,.load 1 false (.t 8),some (.t 7,false)⟩,⟨.t 10,.call 69 [.t 9],some (.t 7,false)⟩,⟨.t 11,.un .not (.t 10),some (.t 7,
  false)⟩,nn (.t 12) (.pick (.t 7) (.c (.v (.bool true))) (.t 11)),nn (.t 13) (.mv false (.t 12)),⟨.t 14,.fadr 1 1 (.v 1),some (.t 13,false)⟩,
  ⟨.t 15,.load 1 false (.t 14),some (.t 13,false)⟩,⟨.t 16,.fadr 2 2 (.v 1),some (.t 13,false)⟩,⟨.t 17,.load 1 false (.t 16),some (.t 13,
  false)⟩,⟨.t 18,.bin .eql (.t 15) (.t 17),some (.t 13,false)⟩,nn (.t 19) (.pick (.t 13) (.c (.v (.bool true))) (.t 18)),nn (.t 20) (.mv false
  (.t 19)),⟨.t 21,.load 349 true (.v 1),some (.t 20,false)⟩,⟨.t 22,.load 349 true (.v 1),some (.t 20,false)⟩,⟨.t 23,.call 71 [.t 22],some
  (.t 20,false)⟩,⟨.t 24,.call 70 [.t 21,.t 23],some (.t 20,false)⟩,⟨.t 25,.un .not (.t 24),some (.t 20,false)⟩,nn (.t 26) (.pick (.t 20) (.c
  (.v (.bool true))) (.t 25)),nn (.t 27) (.mv false (.t 26)),⟨.t 28,.load 349 true (.v 1),some (.t 27,false)⟩,⟨.t 29,.call 72 [.t 28],some (.t
  27,false)⟩,⟨.t 30,.len (.t 29),some (.t 27,false)⟩,⟨.t 31,.bin .eql (.t 30) (.c (.v (.int .i64 0))),some (.t 27,false)⟩,nn (.t 32) (.pick
  (.t 27) (.c (.v (.bool true))) (.t 31)),nn (.t 33) (.mv false (.t 32)),⟨.t 34,.fadr 3 3 (.v 1),some (.t 33,false)⟩,⟨.t 35,.fadr 1 1 (.t 34),
  some (.t 33,false)⟩,⟨.t 36,.load 1 false (.t 35),some (.t 33,false)⟩,⟨.t 37,.fadr 4 104 (.v 1),some (.t 33,false)⟩,⟨.t 38,.fadr 0 0 (.t
  37),some (.t 33,false)⟩,⟨.t 39,.fadr 1 1 (.t 38),some (.t 33,false)⟩,⟨.t 40,.load 1 false (.t 39),some (.t 33,false)⟩,⟨.t 41,.bin .add
  (.t 36) (.t 40),some (.t 33,false)⟩,⟨.t 42,.load 349 true (.v 1),some (.t 33,false)⟩,⟨.t 43,.call 73 [.t 42],some (.t 33,false)⟩,⟨.t 44,
  .bin .neq (.t 41) (.t 43),some (.t 33,false)⟩,nn (.t 45) (.pick (.t 33) (.c (.v (.bool true))) (.t 44))] []).seq (PC.cond (.t 45) ((PC.reg [nn (.v
  2) (.mv true (.c (.v (.int .i64 1))))]).seq PC.ret) PC.skip)).seq ((PC.reg [nn (.v 2) (.mv true (.c (.v (.int .i64 0))))]).seq PC.ret))) [(.v 2,
  none)]
theorem low_own {l:List Int} (h:l=[]):Low G (.own .nils) G (.own (.sli .u8 l)) G:=by subst h;exact .wk (by unfold R.Wk;exact .inr (.inr ⟨rfl,_,rfl,wk_nili⟩)) (WkG.refl _) (.refl _ _)
theorem txt_len {b:List Int} (h:b.length < 1000000):(txt b).length≤b.length+10:=by
 have:=(num_ok (n:=b.length) (by omega)).2
 unfold txt;rw[List.length_append];omega
def ZBo:Spec1
 |[x],G,Q=>∃m:MsgS,(V.Wk x m.v∧m.ok)∧Q (.own (.sli .u8 m.body)) G
 |_,_,_=>False
theorem ZBo_eq {x}:ZBo [x] G Q=(∃m:MsgS,(V.Wk x m.v∧m.ok)∧Q (.own (.sli .u8 m.body)) G):=rfl
theorem walk72 {m:MsgS} (hA:Abs.look l 95=some SAp) (hC:Abs.look l 96=some ZPc) (hH:Abs.look l 97=some SHa) (hT:Abs.look l 98=some ZPt) (hX:Abs.look l 99=some ZPu) (hB:Abs.look l 100=some ZBp) (hO:Abs.look l 101=some ZTt)
  (ok:m.ok) (h:Q (.own (.sli .u8 m.body)) G):Wf E (specOf l) pf72 [m.v] G (fun r G'=>∃r2 G2,Low G r G' r2 G2∧Q r2 G2):=by
 have fin:∀l,m.body=l→∃r2 G2,Low G (.own (.sli .u8 l)) G r2 G2∧Q r2 G2:=fun l e=>⟨_,_,.refl _ _,by rw[←e];exact h⟩
 have fin0:m.body=[]→∃r2 G2,Low G (.own .nils) G r2 G2∧Q r2 G2:=fun e=>⟨_,_,low_own e,h⟩
 clear h
 obtain⟨o1,o2,o3,o4,o5,o6,o7,o8,o9⟩:=ok
 obtain⟨k,f,t,a,c,x,b,hh,y⟩:=m
 dsimp only at o1 o2 o3 o4 o5 o6 o7 o8 o9
 obtain⟨z1,z2⟩:=CertS.vs c
 obtain⟨z5,z6⟩:=AccS.vs x
 obtain⟨z9,z10⟩:=BlkS.vs b
 obtain⟨z11,z12⟩:=TxS.vs y
 have lh:hh.length=32:=o7.2
 unfold V.isAgg at z2 z6 z10 z12
 obtain⟨a1,a2,a3,a4,a5,a6,a7,a8⟩:=a
 by_cases k1:k=1
 ·subst k1
  simp -implicitDefEqProofs only[pf72,MsgS.v,AttS.v,z1,z2,z5,z6,z9,z10,z11,z12,hA,SAp_eq,go_sem,↓reduceIte]
  exact⟨[],⟨rfl,by decide,o1⟩,fin _ rfl⟩
 by_cases k3:k=3
 ·subst k3
  simp -implicitDefEqProofs only[pf72,MsgS.v,AttS.v,z1,z2,z5,z6,z9,z10,z11,z12,hA,SAp_eq,go_sem,↓reduceIte]
  exact⟨[],⟨rfl,by decide,o1⟩,fin _ rfl⟩
 by_cases k5:k=5
 ·subst k5
  simp -implicitDefEqProofs only[pf72,MsgS.v,AttS.v,z1,z2,z5,z6,z9,z10,z11,z12,hA,SAp_eq,go_sem,↓reduceIte]
  exact⟨[],⟨rfl,by decide,o1⟩,fin _ rfl⟩
 by_cases k4:k=4
 ·subst k4
  simp -implicitDefEqProofs only[pf72,MsgS.v,AttS.v,z1,z2,z5,z6,z9,z10,z11,z12,hC,ZPc_eq,go_sem,↓reduceIte]
  exact⟨[],c,⟨rfl,by decide,rfl,o2,o3⟩,fin _ rfl⟩
 by_cases k6:k=6
 ·subst k6
  simp -implicitDefEqProofs only[pf72,MsgS.v,AttS.v,z1,z2,z5,z6,z9,z10,z11,z12,hC,ZPc_eq,go_sem,↓reduceIte]
  exact⟨[],c,⟨rfl,by decide,rfl,o2,o3⟩,fin _ rfl⟩
 by_cases k7:k=7
 ·subst k7
  simp -implicitDefEqProofs only[pf72,MsgS.v,AttS.v,z1,z2,z5,z6,z9,z10,z11,z12,lh,hH,SHa_eq,go_sem,↓reduceIte]
  exact⟨[],⟨rfl,by decide⟩,fin _ rfl⟩
 by_cases k9:k=9
 ·subst k9
  simp -implicitDefEqProofs only[pf72,MsgS.v,AttS.v,z1,z2,z5,z6,z9,z10,z11,z12,hT,ZPt_eq,go_sem,↓reduceIte]
  exact⟨[],y,⟨rfl,by decide,rfl,o8,o9⟩,fin _ rfl⟩
 by_cases k10:k=10
 ·subst k10
  simp -implicitDefEqProofs only[pf72,MsgS.v,AttS.v,z1,z2,z5,z6,z9,z10,z11,z12,hX,ZPu_eq,go_sem,↓reduceIte]
  exact⟨[],x,⟨rfl,by decide,rfl,o4,o5⟩,fin _ rfl⟩
 by_cases k2:k=2
 ·subst k2
  obtain⟨b1,b2,b3,b4,b5⟩:=b
  have px:=AccS.bytes_pos x
  cases bm:(⟨b1,b2,b3,b4,b5⟩:BlkS).may with
  |false=>
   simp -implicitDefEqProofs only[pf72,MsgS.v,AttS.v,z1,z2,z5,z6,z9,z10,z11,z12,BlkS.v,hB,ZBp_eq,hX,ZPu_eq,go_sem,↓reduceIte]
   refine⟨⟨b1,b2,b3,b4,b5⟩,_,⟨rfl,.inl rfl,o6.2,o6.1⟩,?_⟩
   simp -implicitDefEqProofs only[bm,hX,ZPu_eq,go_sem,↓reduceIte]
   refine⟨[],x,⟨rfl,by decide,rfl,o4,o5⟩,?_⟩
   exact fin0 (by simp[MsgS.body,bm])
  |true=>
   have bl:=(BlkS_bytes_ok (b:=⟨b1,b2,b3,b4,b5⟩) o6.1 (of_decide_eq_true bm)).2
   have tl:=txt_len (b:=(⟨b1,b2,b3,b4,b5⟩:BlkS).bytes) (by omega)
   cases xm:x.may with
   |false=>
    simp -implicitDefEqProofs only[pf72,MsgS.v,AttS.v,z1,z2,z5,z6,z9,z10,z11,z12,BlkS.v,hB,ZBp_eq,hX,ZPu_eq,go_sem,↓reduceIte]
    refine⟨⟨b1,b2,b3,b4,b5⟩,_,⟨rfl,.inl rfl,o6.2,o6.1⟩,?_⟩
    simp -implicitDefEqProofs only[bm,hX,ZPu_eq,go_sem,↓reduceIte]
    refine⟨[],x,⟨rfl,by decide,rfl,o4,o5⟩,?_⟩
    simp -implicitDefEqProofs only[bm,xm,hO,ZTt_eq,go_sem,↓reduceIte]
    exact⟨fun h0=>fin0 (by simp[MsgS.body,xm]),fun h0=>fin0 (by simp[MsgS.body,xm])⟩
   |true=>
    have xl:=(AccS.bytes_ok o4 (of_decide_eq_true xm)).2
    simp -implicitDefEqProofs only[pf72,MsgS.v,AttS.v,z1,z2,z5,z6,z9,z10,z11,z12,BlkS.v,hB,ZBp_eq,hX,ZPu_eq,go_sem,↓reduceIte]
    refine⟨⟨b1,b2,b3,b4,b5⟩,_,⟨rfl,.inl rfl,o6.2,o6.1⟩,?_⟩
    simp -implicitDefEqProofs only[bm,hX,ZPu_eq,go_sem,↓reduceIte]
    refine⟨[],x,⟨rfl,by decide,rfl,o4,o5⟩,?_⟩
    simp -implicitDefEqProofs only[bm,xm,hO,ZTt_eq,go_sem,↓reduceIte]
    exact⟨fun h0=>fin0 (by simp[MsgS.body,h0]),fun h0=>⟨fun hl=>absurd hl (by omega),fun _=>⟨[],⟨rfl,by decide,by omega⟩,by simp only[List.length_nil];omega,fin _ (by simp[MsgS.body,bm,xm,h0])⟩⟩⟩
 by_cases k8:k=8
 ·subst k8
  obtain⟨b1,b2,b3,b4,b5⟩:=b
  have px:=AccS.bytes_pos x
  cases bm:(⟨b1,b2,b3,b4,b5⟩:BlkS).may with
  |false=>
   simp -implicitDefEqProofs only[pf72,MsgS.v,AttS.v,z1,z2,z5,z6,z9,z10,z11,z12,BlkS.v,hB,ZBp_eq,hX,ZPu_eq,go_sem,↓reduceIte]
   refine⟨⟨b1,b2,b3,b4,b5⟩,_,⟨rfl,.inl rfl,o6.2,o6.1⟩,?_⟩
   simp -implicitDefEqProofs only[bm,hX,ZPu_eq,go_sem,↓reduceIte]
   refine⟨[],x,⟨rfl,by decide,rfl,o4,o5⟩,?_⟩
   exact fin0 (by simp[MsgS.body,bm])
  |true=>
   have bl:=(BlkS_bytes_ok (b:=⟨b1,b2,b3,b4,b5⟩) o6.1 (of_decide_eq_true bm)).2
   have tl:=txt_len (b:=(⟨b1,b2,b3,b4,b5⟩:BlkS).bytes) (by omega)
   cases xm:x.may with
   |false=>
    simp -implicitDefEqProofs only[pf72,MsgS.v,AttS.v,z1,z2,z5,z6,z9,z10,z11,z12,BlkS.v,hB,ZBp_eq,hX,ZPu_eq,go_sem,↓reduceIte]
    refine⟨⟨b1,b2,b3,b4,b5⟩,_,⟨rfl,.inl rfl,o6.2,o6.1⟩,?_⟩
    simp -implicitDefEqProofs only[bm,hX,ZPu_eq,go_sem,↓reduceIte]
    refine⟨[],x,⟨rfl,by decide,rfl,o4,o5⟩,?_⟩
    simp -implicitDefEqProofs only[bm,xm,hO,ZTt_eq,go_sem,↓reduceIte]
    exact⟨fun h0=>fin0 (by simp[MsgS.body,h0]),fun h0=>⟨[],⟨rfl,by decide,by omega⟩,by simp only[List.length_nil];omega,fin _ (by simp[MsgS.body,bm,xm,h0])⟩⟩
   |true=>
    have xl:=(AccS.bytes_ok o4 (of_decide_eq_true xm)).2
    simp -implicitDefEqProofs only[pf72,MsgS.v,AttS.v,z1,z2,z5,z6,z9,z10,z11,z12,BlkS.v,hB,ZBp_eq,hX,ZPu_eq,go_sem,↓reduceIte]
    refine⟨⟨b1,b2,b3,b4,b5⟩,_,⟨rfl,.inl rfl,o6.2,o6.1⟩,?_⟩
    simp -implicitDefEqProofs only[bm,hX,ZPu_eq,go_sem,↓reduceIte]
    refine⟨[],x,⟨rfl,by decide,rfl,o4,o5⟩,?_⟩
    simp -implicitDefEqProofs only[bm,xm,hO,ZTt_eq,go_sem,↓reduceIte]
    exact⟨fun h0=>fin0 (by simp[MsgS.body,h0]),fun h0=>⟨fun _=>fin0 (by simp[MsgS.body,xm]),fun hl=>absurd hl (by omega)⟩⟩
 simp -implicitDefEqProofs only[pf72,MsgS.v,AttS.v,z1,z2,z5,z6,z9,z10,z11,z12,k1,k2,k3,k4,k5,k6,k7,k8,k9,k10,go_sem,↓reduceIte]
 exact fin0 (by simp[MsgS.body,k1,k2,k3,k4,k5,k6,k7,k8,k9,k10])
def ZCh:Spec1
 |[x],G,Q=>∃m:MsgS,(V.Wk x m.v∧m.ok)∧Q (.v (.int .i64 (if m.may=true then 0 else 1))) G
 |_,_,_=>False
theorem ZCh_eq {x}:ZCh [x] G Q=(∃m:MsgS,(V.Wk x m.v∧m.ok)∧Q (.v (.int .i64 (if m.may=true then 0 else 1))) G):=rfl
theorem sum_kind {m:MsgS} (hn:m=m.named):m.at_.ki=0∨m.ce.att.ki=0:=by
 obtain⟨k,f,t,a,c,x,b,hh,y⟩:=m
 unfold MsgS.named MsgS.bare at hn
 dsimp only at hn⊢
 repeat' split at hn
 all_goals (simp only[MsgS.mk.injEq]at hn;obtain⟨_,_,_,e1,e2,_⟩:=hn;first|(rw[e1];exact .inl rfl)|(rw[e2];exact .inr rfl))
theorem wsum {a b:Int} (h:a=0∨b=0) (ha:I64 a) (hb:I64 b):IntKind.i64.wrap (a+b)=a+b:=by
 unfold I64 at ha hb
 rcases h with rfl|rfl
 ·rw[Int.zero_add];exact w64 hb.1 hb.2
 ·rw[Int.add_zero];exact w64 ha.1 ha.2
theorem walk43 {m:MsgS} (hN:Abs.look l 69=some SNo) (hD:Abs.look l 71=some ZNm) (hS:Abs.look l 70=some ZMs) (hB:Abs.look l 72=some ZBo) (hK:Abs.look l 73=some ZKi)
  (ok:m.ok) (h:Q (.v (.int .i64 (if m.may=true then 0 else 1))) G):Wf E (specOf l) pf43 [m.v] G Q:=by
 have yes:m.May→Q (.v (.int .i64 0)) G:=fun e=>by
  have:m.may=true:=decide_eq_true e
  rw[this]at h;exact h
 have no:¬m.May→Q (.v (.int .i64 1)) G:=fun e=>by
  have:m.may=false:=decide_eq_false e
  rw[this]at h;exact h
 clear h
 have hi:=MsgS.may_iff (m:=m) ok.ha.2
 have hsk:=sum_kind (m:=m)
 have hkd:kindM m.ki=(if m.ki=1 then 1 else if m.ki=3∨m.ki=4 then 2 else if m.ki=5∨m.ki=6 then 3 else 0):=rfl
 rw[←hkd]at hi
 have hmm:m.May↔((1≤m.fr∧m.fr≤21)∧(1≤m.to∧m.to≤21)∧m.fr≠m.to)∧m.has=true∧m=m.named:=Iff.rfl
 have shm:=ok.sh
 have shn:MsgS.sh m.named:=by
  unfold MsgS.sh MsgS.named MsgS.bare
  obtain⟨q1,q2,q3⟩:=shm
  repeat' split
  all_goals exact⟨by first|exact q1|exact (show CertS.zero.sigs.length < 1000000 by decide),by first|exact q2|exact (show AccS.zero.fr.length < 1000000 by decide),by first|exact q3|exact (show BlkS.zero.txs.length < 1000000 by decide)⟩
 have hv:m.v= .agg [.int .i64 m.ki,.int .i64 m.fr,.int .i64 m.to,.agg [.int .i64 m.at_.who,.int .i64 m.at_.ki,.int .i64 m.at_.vi,.int .i64 m.at_.ph,.arr .u8 32 m.at_.ha,.int .i64 m.at_.pv,.arr .u8 32 m.at_.pa,.arr .u8 32 m.at_.ta],.agg [.agg [.int .i64 m.ce.att.who,.int .i64 m.ce.att.ki,.int .i64 m.ce.att.vi,.int .i64 m.ce.att.ph,.arr .u8 32 m.ce.att.ha,.int .i64 m.ce.att.pv,.arr .u8 32 m.ce.att.pa,.arr .u8 32 m.ce.att.ta],.sle 33 (m.ce.sigs.map sgV)],m.ac.v,m.bl.v,.arr .u8 32 m.ha,m.tx.v]:=rfl
 have hvw:∀x,x=m.v→V.Wk x m.v:=fun x e=>by rw[e];exact V.Wk.refl _
 have nb:∃q,m.body=q∧q.length=m.body.length:=⟨_,rfl,rfl⟩
 rw[hv]at hvw⊢
 obtain⟨z5,z6⟩:=AccS.vs m.ac
 obtain⟨z9,z10⟩:=BlkS.vs m.bl
 obtain⟨z11,z12⟩:=TxS.vs m.tx
 obtain⟨z13,z14⟩:=MsgS.vs m
 unfold V.isAgg at z6 z10 z12 z14
 simp -implicitDefEqProofs only[pf43,hN,SNo_eq,hD,ZNm_eq,hS,ZMs_eq,hB,ZBo_eq,hK,ZKi_eq,z5,z6,z9,z10,z11,z12,z13,z14,go_sem,↓reduceIte]
 refine⟨fun e1=>no fun e=>e1 e.1.1,fun e1=>⟨fun e2=>no fun e=>e2 e.1.2.1,fun e2=>⟨fun e3=>no fun e=>e.1.2.2 e3,fun e3=>⟨m,hvw _ rfl,m,m.named,⟨hvw _ rfl,V.Wk.refl _,shm,shn⟩,fun e4=>no fun e=>e4 e.2.2,fun e4=>⟨m,⟨hvw _ rfl,ok⟩,fun e5=>no fun e=> ?_,fun e5=>⟨m,hvw _ rfl,fun e6=>no fun e=> ?_,fun e6=>yes ?_⟩⟩⟩⟩⟩⟩
 ·have:=((hi e.2.2).1 e.2.1).1
  omega
 ·have h1:=((hi e.2.2).1 e.2.1).2
  apply e6
  rw[←h1]
  exact wsum (hsk e.2.2) ok.at_.ki ok.ce.1.ki
 ·have hw:IntKind.i64.wrap (m.at_.ki+m.ce.att.ki)=m.at_.ki+m.ce.att.ki:=wsum (hsk e4) ok.at_.ki ok.ce.1.ki
  rw[hw]at e6
  exact⟨⟨e1,e2,e3⟩,(hi e4).2 ⟨by omega,e6⟩,e4⟩
theorem MsgS.body_ok {m:MsgS} (ok:m.ok) (hm:m.has=true):Byt m.body∧m.body.length≤5000:=by
 obtain⟨o1,o2,o3,o4,o5,o6,o7,o8,o9⟩:=ok
 obtain⟨k,f,t,a,c,x,b,hh,y⟩:=m
 dsimp only at o1 o2 o3 o4 o5 o6 o7 o8 o9
 have ha:a.may=true→Byt a.bytes∧a.bytes.length≤5000:=fun h=>by
  obtain⟨s1,s2⟩:=AttS.said_ok o1 (of_decide_eq_true h)
  have hw:=(of_decide_eq_true h:a.May).1
  obtain⟨r1,n1⟩:=num_ok (n:=a.who.toNat) (by omega)
  have:=o1.ta.2
  exact⟨byt_app (byt_app r1 s1) o1.ta.1,by unfold AttS.bytes;simp only[List.length_append];omega⟩
 have hc:c.may=true→Byt c.bytes∧c.bytes.length≤5000:=fun h=>by
  obtain⟨s1,s2⟩:=CertS.bytes_ok o2 (of_decide_eq_true h);exact⟨s1,by omega⟩
 have hx:x.may=true→Byt x.bytes∧x.bytes.length≤400:=fun h=>AccS.bytes_ok o4 (of_decide_eq_true h)
 have hb:b.may=true→Byt b.bytes∧b.bytes.length≤3000:=fun h=>BlkS_bytes_ok o6.1 (of_decide_eq_true h)
 have hy:y.may=true→Byt y.bytes∧y.bytes.length≤5000:=fun h=>by
  obtain⟨s1,s2,_⟩:=TxS.bytes_ok (of_decide_eq_true h);exact⟨s1,by omega⟩
 have n0:Byt ([]:List Int)∧([]:List Int).length≤5000:=⟨byt_nil,by decide⟩
 have htx:b.may=true→Byt (txt b.bytes)∧(txt b.bytes).length≤3010:=fun h=>by
  obtain⟨s1,s2⟩:=hb h
  have:=txt_len (b:=b.bytes) (by omega)
  exact⟨byt_app (num_ok (by omega)).1 s1,by omega⟩
 unfold MsgS.body
 dsimp only
 split
 ·split
  ·rename_i h;exact ha h
  ·exact n0
 split
 ·split
  ·rename_i h;exact hc h
  ·exact n0
 split
 ·exact⟨o7.1,by have:=o7.2;omega⟩
 split
 ·split
  ·rename_i h;exact hy h
  ·exact n0
 split
 ·split
  ·rename_i h;obtain⟨s1,s2⟩:=hx h;exact⟨s1,by omega⟩
  ·exact n0
 split
 ·split
  ·rename_i h
   obtain⟨s1,s2⟩:=htx h.1
   split
   ·rename_i h;obtain⟨s3,s4⟩:=hx h
    exact⟨byt_app s1 s3,by rw[List.length_append];omega⟩
   ·exact⟨by rw[List.append_nil];exact s1,by rw[List.append_nil];omega⟩
  ·exact n0
 exact n0
theorem has_ki {m:MsgS} (h:m.has=true):1≤m.ki∧m.ki≤10:=by
 unfold MsgS.has at h
 repeat' split at h
 all_goals first|omega|cases h
theorem MsgS.bytes_ok {m:MsgS} (ok:m.ok) (hm:m.May):Byt m.bytes∧m.bytes.length≤5100:=by
 obtain⟨s1,s2⟩:=MsgS.body_ok ok hm.2.1
 have hk:=has_ki hm.2.1
 obtain⟨⟨h1,h2,_⟩,_⟩:=hm
 obtain⟨r1,n1⟩:=num_ok (n:=m.ki.toNat) (by omega)
 obtain⟨r2,n2⟩:=num_ok (n:=m.fr.toNat) (by omega)
 obtain⟨r3,n3⟩:=num_ok (n:=m.to.toNat) (by omega)
 exact⟨byt_app (byt_app (byt_app r1 r2) r3) s1,by unfold MsgS.bytes;simp only[List.length_append];omega⟩
def _root_.Go.Abs.Sha.MsgS.rv (m:MsgS):V:= .agg [.int .i64 m.ki,.int .i64 m.fr,.int .i64 m.to,m.at_.v,if m.ki=4∨m.ki=6 then m.ce.v else ceN,if m.ki=2∨m.ki=10 then m.ac.v else acN,if m.ki=2∨m.ki=8 then m.bl.v else BlkS.zeroV,.arr .u8 32 m.ha,m.tx.v]
end Go.Proofs.Ytjbglbhcbenhpaa.Sha
