/- Bags: any acts. -/
import Derived.Test.YtjbglbhcbenhpaaWBag6
namespace Go.Proofs.Ytjbglbhcbenhpaa.Sha
open Go Go.Abs Go.Abs.Sha Go.Abs.Srt
set_option linter.unusedSimpArgs false
set_option linter.unusedVariables false
set_option maxRecDepth 100000
def lp3_0:PC:=
 ((PC.reg [mm 148 17,mm 149 6,nn (.t 150) (.len (.t 149)),nn (.t 151) (.bin .lss (.t 148) (.t 150))]).seq (PC.cond (.t 151) PC.skip (PC.exit 3))).seq
  ((PC.block 4 ((PC.reg [mm 154 6,mm 155 17,nn (.t 156) (.iadrS 349 (.t 154) (.t 155)),nn (.t 157) (.fadr 2 2 (.t 156)),nn (.t 158) (.load 1 false
  (.t 157)),mm 159 1,nn (.t 160) (.bin .eql (.t 158) (.t 159))]).seq (PC.cond (.t 160) (((PC.reg [mm 161 16,mm 162 15,nn (.t 163) (.len (.t 162)),
  nn (.t 164) (.bin .geq (.t 161) (.t 163)),nn (.t 165) (.mv false (.t 164)),gm 166 15 165 false,gm 167 16 165 false,⟨.t 168,.iadrS 1 (.t 166) (.t
  167),some (.t 165,false)⟩,⟨.t 169,.load 1 false (.t 168),some (.t 165,false)⟩,gm 170 17 165 false,⟨.t 171,.bin .neq (.t 169) (.t 170),some
  (.t 165,false)⟩,nn (.t 172) (.pick (.t 165) (.c (.v (.bool true))) (.t 171))]).seq (PC.cond (.t 172) ((PC.reg [nn (.v 4) (.mv true (.c (.v (.bool
  false))))]).seq PC.ret) PC.skip)).seq (PC.reg [mm 173 16,nn (.t 174) (.bin .add (.t 173) (.c (.v (.int .i64 1)))),ma 16 174])) PC.skip))).seq
  (PC.reg [mm 152 17,nn (.t 153) (.bin .add (.t 152) (.c (.v (.int .i64 1)))),ma 17 153]))
def lp3_1:PC:=
 ((PC.reg [nn (.v 24) (.mv false (.v 7)),nn (.v 25) (.mv false (.v 0)),nn (.v 26) (.len (.v 25)),nn (.v 27) (.bin .lss (.v 24) (.v 26))]).seq
  (PC.cond (.v 27) PC.skip (PC.exit 0))).seq ((PC.block 1 ((PC.reg [nn (.v 30) (.mv false (.v 0)),nn (.v 31) (.mv false (.v 7)),nn (.v 32) (.iadrS 3
  (.v 30) (.v 31)),nn (.v 33) (.load 3 true (.v 32)),nn (.v 8) (.alloc (.agg [.int .i64 0,.nils,.int .i64 0])),nn .no (.store 3 (.v 8) (.v
  33))]).seq ((PC.reg [nn (.v 34) (.fadr 2 2 (.v 8)),nn (.v 35) (.load 1 false (.v 34)),nn (.v 36) (.bin .geq (.v 35) (.c (.v (.int .i64 0)))),nn
  (.v 37) (.mv false (.v 36)),⟨.v 38,.fadr 2 2 (.v 8),some (.v 37,true)⟩,⟨.v 39,.load 1 false (.v 38),some (.v 37,true)⟩,⟨.v 40,.mv false (.v
  6),some (.v 37,true)⟩,⟨.v 41,.len (.v 40),some (.v 37,true)⟩,⟨.v 42,.bin .lss (.v 39) (.v 41),some (.v 37,true)⟩,nn (.v 43) (.pick (.v 37)
  (.v 42) (.c (.v (.bool false)))),nn (.v 9) (.mv true (.v 43))]).seq ((PC.reg [nn (.v 10) (.mv true (.c (.v (.int .i64 0))))]).seq (((PC.reg [nn (.v
  44) (.mv false (.v 9)),nn (.v 45) (.un .not (.v 44))]).seq (PC.cond (.v 45) (PC.reg [nn (.v 10) (.mv true (.c (.v (.int .i64 3))))]) PC.skip)).seq
  (((PC.reg [nn (.v 46) (.fadr 0 0 (.v 8)),nn (.v 47) (.load 1 false (.v 46))]).seq (PC.block 2 ((PC.reg [nn (.t 60) (.bin .eql (.v 47) (.c (.v (.int
  .i64 0)))),nn (.t 59) (.mv true (.t 60))]).seq (PC.cond (.t 59) ((PC.reg [mm 62 6,nn (.t 63) (.fadr 1 1 (.v 8)),nn (.t 64) (.load 1 false (.t
  63)),nn (.t 65) (.call 12 [.t 62,.t 64]),nn (.t 61) (.mv false (.t 65)),nn (.t 66) (.ext (.t 61) 0),nn (.t 67) (.ext (.t 61) 1),ma 11 66,ma 12
  67]).seq ((PC.reg [nn (.t 68) (.mv true (.v 11)),ma 6 68]).seq ((PC.reg [mm 69 5,nn (.t 70) (.fadr 1 1 (.v 8)),nn (.t 71) (.load 1 false (.t 70)),
  nn (.t 72) (.call 13 [.t 69,.t 71]),mm 73 12,nn (.t 74) (.bin .neq (.t 72) (.t 73))]).seq (PC.cond (.t 74) ((PC.reg [nn (.v 4) (.mv true (.c (.v
  (.bool false))))]).seq PC.ret) PC.skip)))) ((PC.reg [nn (.t 76) (.bin .eql (.v 47) (.c (.v (.int .i64 1)))),nn (.t 75) (.mv true (.t 76))]).seq
  (PC.cond (.t 75) ((PC.reg [mm 78 5,nn (.t 79) (.fadr 2 2 (.v 8)),nn (.t 80) (.load 1 false (.t 79)),nn (.t 81) (.call 14 [.t 78,.t 80]),nn (.t
  77) (.mv false (.t 81)),nn (.t 82) (.ext (.t 77) 0),nn (.t 83) (.ext (.t 77) 1),nn (.v 13) (.alloc (.agg [.int .i64 0,.int .i64 0,.int .i64 0,
  .agg [.int .i64 0,.int .i64 0,.int .i64 0,.int .i64 0,.arr .u8 32 [0,0,0,0,0,0,0,0,0,0,0,0,0,0,0,0,0,0,0,0,0,0,0,0,0,0,
  0,0,0,0,0,0],.int .i64 0,.arr .u8 32 zz2,.arr
  .u8 32 zz2],.agg [.agg [.int .i64 0,.int .i64 0,.int
  .i64 0,.int .i64 0,.arr .u8 32 zz2,.int .i64 0,.arr
  .u8 32 zz2,.arr .u8 32 [0,0,0,0,0,0,0,0,0,0,
  0,0,0,0,0,0,0,0,0,0,0,0,0,0,0,0,0,0,0,0,0,0]],.nils],.agg [.int .i64 0,.int .i64 0,.int .i64 0,.arr .u8 32 [0,0,0,0,0,
  0,0,0,0,0,0,0,0,0,0,0,0,0,0,0,0,0,0,0,0,0,0,0,0,0,0,0],.nils,.arr .u8 32 [0,0,0,0,0,0,0,0,0,0,0,0,0,0,0,0,
  0,0,0,0,0,0,0,0,0,0,0,0,0,0,0,0]],.agg [.arr .u8 32 [0,0,0,0,0,0,0,0,0,0,0,0,0,0,0,0,0,0,0,0,0,0,0,0,0,0,0,
  0,0,0,0,0],.int .i64 0,.int .i64 0,.int .i64 0,.nils],.arr .u8 32 [0,0,0,0,0,0,0,0,0,0,0,0,0,0,0,0,0,0,0,0,0,0,0,0,
  0,0,0,0,0,0,0,0],.agg [.int .i64 0,.int .i64 0,.int .i64 0,.int .i64 0,.int .i64 0,.str ⟨⟨[]⟩⟩,.str ⟨⟨[]⟩⟩]])),nn .no (.store 349 (.v
  13) (.t 82)),ma 14 83]).seq (((PC.regD 0 [mm 84 14,mm 85 10,nn (.t 86) (.bin .neq (.t 84) (.t 85)),nn (.t 87) (.mv false (.t 86)),gm 88 9 87
  false,⟨.t 89,.mv false (.t 88),some (.t 87,false)⟩,⟨.t 90,.load 349 true (.v 13),some (.t 89,true)⟩,gm 91 6 89 true,⟨.t 92,.fadr 2 2 (.v
  8),some (.t 89,true)⟩,⟨.t 93,.load 1 false (.t 92),some (.t 89,true)⟩,⟨.t 94,.iadrS 349 (.t 91) (.t 93),some (.t 89,true)⟩,⟨.t 95,.load
  349 true (.t 94),some (.t 89,true)⟩,⟨.t 96,.call 15 [.t 90,.t 95],some (.t 89,true)⟩,⟨.t 97,.un .not (.t 96),some (.t 89,true)⟩,⟨.t 98,
  .pick (.t 89) (.t 97) (.c (.v (.bool false))),some (.t 87,false)⟩,nn (.t 99) (.pick (.t 87) (.c (.v (.bool true))) (.t 98)),nn (.t 100) (.mv
  false (.t 99)),gm 101 9 100 false,⟨.t 102,.un .not (.t 101),some (.t 100,false)⟩,⟨.t 103,.mv false (.t 102),some (.t 100,false)⟩,⟨.t 104,
  .load 349 true (.v 13),some (.t 103,true)⟩,⟨.t 105,.build (.agg [.int .i64 0,.int .i64 0,.int .i64 0,.agg [.int .i64 0,.int .i64 0,.int .i64
  0,.int .i64 0,.arr .u8 32 zz2,.int .i64 0,.arr .u8
  32 zz2,.arr .u8 32 [0,0,0,0,0,0,0,0,0,0,0,0,
  0,0,0,0,0,0,0,0,0,0,0,0,0,0,0,0,0,0,0,0]],.agg [.agg [.int .i64 0,.int .i64 0,.int .i64 0,.int .i64 0,.arr .u8 32 [0,0,0,
  0,0,0,0,0,0,0,0,0,0,0,0,0,0,0,0,0,0,0,0,0,0,0,0,0,0,0,0,0],.int .i64 0,.arr .u8 32 [0,0,0,0,0,0,0,0,0,0,0,0,
  0,0,0,0,0,0,0,0,0,0,0,0,0,0,0,0,0,0,0,0],.arr .u8 32 [0,0,0,0,0,0,0,0,0,0,0,0,0,0,0,0,0,0,0,0,0,0,0,0,0,
  0,0,0,0,0,0,0]],.nils],.agg [.int .i64 0,.int .i64 0,.int .i64 0,.arr .u8 32 [0,0,0,0,0,0,0,0,0,0,0,0,0,0,0,0,0,0,0,0,
  0,0,0,0,0,0,0,0,0,0,0,0],.nils,.arr .u8 32 [0,0,0,0,0,0,0,0,0,0,0,0,0,0,0,0,0,0,0,0,0,0,0,0,0,0,0,0,0,0,0,
  0]],.agg [.arr .u8 32 zz2,.int .i64 0,.int .i64 0,
  .int .i64 0,.nils],.arr .u8 32 zz2,.agg [.int .i64 0,
  .int .i64 0,.int .i64 0,.int .i64 0,.int .i64 0,.str ⟨⟨[]⟩⟩,.str ⟨⟨[]⟩⟩]]) [],some (.t 103,true)⟩,⟨.t 106,.call 15 [.t 104,.t 105],some
  (.t 103,true)⟩,⟨.t 107,.un .not (.t 106),some (.t 103,true)⟩,⟨.t 108,.pick (.t 103) (.t 107) (.c (.v (.bool false))),some (.t 100,false)⟩,
  nn (.t 109) (.pick (.t 100) (.c (.v (.bool true))) (.t 108))] []).seq (PC.cond (.t 109) ((PC.reg [nn (.v 4) (.mv true (.c (.v (.bool false))))]).seq
  PC.ret) PC.skip)).seq ((PC.reg [mm 110 9]).seq (PC.cond (.t 110) (PC.reg [mm 111 6,nn (.t 112) (.fadr 2 2 (.v 8)),nn (.t 113) (.load 1 false (.t
  112)),nn (.t 114) (.call 16 [.t 111,.t 113]),ma 6 114]) PC.skip)))) ((PC.reg [nn (.t 116) (.bin .eql (.v 47) (.c (.v (.int .i64 2)))),nn (.t 115)
  (.mv true (.t 116))]).seq (PC.cond (.t 115) (((PC.reg [mm 117 9,nn (.t 118) (.mv false (.t 117)),gm 119 6 118 true,⟨.t 120,.len (.t 119),some
  (.t 118,true)⟩,⟨.t 121,.bin .geq (.t 120) (.c (.v (.int .i64 400))),some (.t 118,true)⟩,nn (.t 122) (.pick (.t 118) (.t 121) (.c (.v (.bool
  false))))]).seq (PC.cond (.t 122) (PC.reg [nn (.v 10) (.mv true (.c (.v (.int .i64 4))))]) ((PC.reg [mm 123 9]).seq (PC.cond (.t 123) (PC.regD 0 [nn
  (.t 124) (.buildS none 349 (.agg [.int .i64 0,.int .i64 0,.int .i64 0,.agg [.int .i64 0,.int .i64 0,.int .i64 0,.int .i64 0,.arr .u8 32 [0,0,
  0,0,0,0,0,0,0,0,0,0,0,0,0,0,0,0,0,0,0,0,0,0,0,0,0,0,0,0,0,0],.int .i64 0,.arr .u8 32 [0,0,0,0,0,0,0,0,0,0,0,
  0,0,0,0,0,0,0,0,0,0,0,0,0,0,0,0,0,0,0,0,0],.arr .u8 32 [0,0,0,0,0,0,0,0,0,0,0,0,0,0,0,0,0,0,0,0,0,0,0,0,
  0,0,0,0,0,0,0,0]],.agg [.agg [.int .i64 0,.int .i64 0,.int .i64 0,.int .i64 0,.arr .u8 32 [0,0,0,0,0,0,0,0,0,0,0,0,0,0,0,
  0,0,0,0,0,0,0,0,0,0,0,0,0,0,0,0,0],.int .i64 0,.arr .u8 32 [0,0,0,0,0,0,0,0,0,0,0,0,0,0,0,0,0,0,0,0,0,0,0,0,
  0,0,0,0,0,0,0,0],.arr .u8 32 zz2],.nils],.agg
  [.int .i64 0,.int .i64 0,.int .i64 0,.arr .u8 32 zz2,
  .nils,.arr .u8 32 zz2],.agg [.arr .u8 32 [0,0,0,0,
  0,0,0,0,0,0,0,0,0,0,0,0,0,0,0,0,0,0,0,0,0,0,0,0,0,0,0,0],.int .i64 0,.int .i64 0,.int .i64 0,.nils],.arr .u8 32 [0,
  0,0,0,0,0,0,0,0,0,0,0,0,0,0,0,0,0,0,0,0,0,0,0,0,0,0,0,0,0,0,0],.agg [.int .i64 0,.int .i64 0,.int .i64 0,.int .i64
  0,.int .i64 0,.str ⟨⟨[]⟩⟩,.str ⟨⟨[]⟩⟩]]) 0 []),mm 125 6,nn (.t 126) (.app none 349 616 (.t 124) (.t 125)),mm 127 6,nn (.t 128) (.fadr 2 2 (.v
  8)),nn (.t 129) (.load 1 false (.t 128)),nn (.t 130) (.iadrS 349 (.t 127) (.t 129)),nn (.t 131) (.load 349 true (.t 130)),nn (.t 132) (.buildS
  none 349 (.agg [.int .i64 0,.int .i64 0,.int .i64 0,.agg [.int .i64 0,.int .i64 0,.int .i64 0,.int .i64 0,.arr .u8 32 [0,0,0,0,0,0,0,0,
  0,0,0,0,0,0,0,0,0,0,0,0,0,0,0,0,0,0,0,0,0,0,0,0],.int .i64 0,.arr .u8 32 [0,0,0,0,0,0,0,0,0,0,0,0,0,0,0,0,0,
  0,0,0,0,0,0,0,0,0,0,0,0,0,0,0],.arr .u8 32 [0,0,0,0,0,0,0,0,0,0,0,0,0,0,0,0,0,0,0,0,0,0,0,0,0,0,0,0,0,0,
  0,0]],.agg [.agg [.int .i64 0,.int .i64 0,.int .i64 0,.int .i64 0,.arr .u8 32 [0,0,0,0,0,0,0,0,0,0,0,0,0,0,0,0,0,0,0,0,0,
  0,0,0,0,0,0,0,0,0,0,0],.int .i64 0,.arr .u8 32 [0,0,0,0,0,0,0,0,0,0,0,0,0,0,0,0,0,0,0,0,0,0,0,0,0,0,0,0,0,0,
  0,0],.arr .u8 32 zz2],.nils],.agg [.int .i64 0,.int
  .i64 0,.int .i64 0,.arr .u8 32 zz2,.nils,.arr .u8 32
  zz2],.agg [.arr .u8 32 [0,0,0,0,0,0,0,0,0,0,
  0,0,0,0,0,0,0,0,0,0,0,0,0,0,0,0,0,0,0,0,0,0],.int .i64 0,.int .i64 0,.int .i64 0,.nils],.arr .u8 32 [0,0,0,0,0,0,0,
  0,0,0,0,0,0,0,0,0,0,0,0,0,0,0,0,0,0,0,0,0,0,0,0,0],.agg [.int .i64 0,.int .i64 0,.int .i64 0,.int .i64 0,.int .i64 0,
  .str ⟨⟨[]⟩⟩,.str ⟨⟨[]⟩⟩]]) 1 [(0,.t 131)]),nn (.t 133) (.app none 349 616 (.t 126) (.t 132)),ma 6 133] []) PC.skip)))).seq ((PC.reg [mm 134 5,nn
  (.t 135) (.fadr 2 2 (.v 8)),nn (.t 136) (.load 1 false (.t 135)),nn (.t 137) (.call 17 [.t 134,.t 136]),mm 138 10,nn (.t 139) (.bin .neq (.t
  137) (.t 138))]).seq (PC.cond (.t 139) ((PC.reg [nn (.v 4) (.mv true (.c (.v (.bool false))))]).seq PC.ret) PC.skip))) (((PC.reg [mm 48 5,nn (.t 49)
  (.fadr 2 2 (.v 8)),nn (.t 50) (.load 1 false (.t 49)),nn (.t 51) (.call 18 [.t 48,.t 50]),mm 52 10,nn (.t 53) (.bin .neq (.t 51) (.t 52))]).seq
  (PC.cond (.t 53) ((PC.reg [nn (.v 4) (.mv true (.c (.v (.bool false))))]).seq PC.ret) PC.skip)).seq ((PC.reg [mm 54 9]).seq (PC.cond (.t 54) (PC.reg
  [mm 55 6,nn (.t 56) (.fadr 2 2 (.v 8)),nn (.t 57) (.load 1 false (.t 56)),nn (.t 58) (.call 16 [.t 55,.t 57]),ma 6 58]) PC.skip))))))))))).seq
  ((PC.reg [mm 140 5,nn (.t 141) (.call 20 [.t 140]),mm 142 6,nn (.t 143) (.call 19 [.t 141,.t 142]),nn (.t 144) (.un .not (.t 143))]).seq
  (PC.cond (.t 144) ((PC.reg [nn (.v 4) (.mv true (.c (.v (.bool false))))]).seq PC.ret) PC.skip)))))))).seq (PC.reg [nn (.v 28) (.mv false (.v 7)),nn
  (.v 29) (.bin .add (.v 28) (.c (.v (.int .i64 1)))),nn (.v 7) (.mv true (.v 29))]))
def pf3:PF:=
 PF.mk 2 48 182 ((PC.reg [nn (.v 4) (.mv true (.c (.v (.bool false))))]).seq (((PC.reg [nn (.v 18) (.mv false (.v 0)),nn (.v 19) (.call 9 [.v 18]),nn
  (.v 20) (.un .not (.v 19))]).seq (PC.cond (.v 20) ((PC.reg [nn (.v 21) (.call 10 []),nn (.v 4) (.mv true (.v 21))]).seq PC.ret) PC.skip)).seq
  ((PC.reg [nn (.v 22) (.call 11 []),nn (.v 5) (.mv true (.v 22))]).seq ((PC.reg [nn (.v 23) (.buildS none 349 (.agg [.int .i64 0,.int .i64 0,.int
  .i64 0,.agg [.int .i64 0,.int .i64 0,.int .i64 0,.int .i64 0,.arr .u8 32 [0,0,0,0,0,0,0,0,0,0,0,0,0,0,0,0,0,0,0,0,0,0,0,
  0,0,0,0,0,0,0,0,0],.int .i64 0,.arr .u8 32 [0,0,0,0,0,0,0,0,0,0,0,0,0,0,0,0,0,0,0,0,0,0,0,0,0,0,0,0,0,0,0,
  0],.arr .u8 32 zz2],.agg [.agg [.int .i64 0,.int .i64
  0,.int .i64 0,.int .i64 0,.arr .u8 32 zz2,.int .i64
  0,.arr .u8 32 zz2,.arr .u8 32 [0,0,0,0,0,0,0,0,
  0,0,0,0,0,0,0,0,0,0,0,0,0,0,0,0,0,0,0,0,0,0,0,0]],.nils],.agg [.int .i64 0,.int .i64 0,.int .i64 0,.arr .u8 32 [0,0,0,
  0,0,0,0,0,0,0,0,0,0,0,0,0,0,0,0,0,0,0,0,0,0,0,0,0,0,0,0,0],.nils,.arr .u8 32 [0,0,0,0,0,0,0,0,0,0,0,0,0,0,
  0,0,0,0,0,0,0,0,0,0,0,0,0,0,0,0,0,0]],.agg [.arr .u8 32 [0,0,0,0,0,0,0,0,0,0,0,0,0,0,0,0,0,0,0,0,0,0,0,0,0,
  0,0,0,0,0,0,0],.int .i64 0,.int .i64 0,.int .i64 0,.nils],.arr .u8 32 [0,0,0,0,0,0,0,0,0,0,0,0,0,0,0,0,0,0,0,0,0,0,
  0,0,0,0,0,0,0,0,0,0],.agg [.int .i64 0,.int .i64 0,.int .i64 0,.int .i64 0,.int .i64 0,.str ⟨⟨[]⟩⟩,.str ⟨⟨[]⟩⟩]]) 0 []),nn (.v 6)
  (.mv true (.v 23))]).seq (((PC.reg [nn (.v 7) (.mv true (.c (.v (.int .i64 0))))]).seq (PC.block 0 (PC.loop [0,1,5,6,7] lp3_1))).seq ((PC.reg [mm
  145 5,mm 146 1,nn (.t 147) (.call 21 [.t 145,.t 146]),ma 15 147]).seq ((PC.reg [nn (.v 16) (.mv true (.c (.v (.int .i64 0))))]).seq (((PC.reg [nn
  (.v 17) (.mv true (.c (.v (.int .i64 0))))]).seq (PC.block 3 (PC.loop [1,6,15,16,17] lp3_0))).seq ((PC.reg [mm 175 16,mm 176 15,nn (.t 177)
  (.len (.t 176)),nn (.t 178) (.bin .eql (.t 175) (.t 177)),nn (.t 179) (.mv false (.t 178)),⟨.t 180,.call 10 [],some (.t 179,true)⟩,nn (.t 181)
  (.pick (.t 179) (.t 180) (.c (.v (.bool false)))),ma 4 181]).seq PC.ret))))))))) [(.v 4,none)]
attribute [local irreducible] W Wops WopsD WL Wop WopD
variable {E:Env} {C:Abs.Spec} {l:List (Nat×Spec1)} {G:List (Nat×V)} {Q:R→List (Nat×V)→Prop}
set_option maxHeartbeats 20000000
theorem lightA_of {l:List ActS} (hw:∀a∈l,∀m∈a.l,m.wf) (h:lightAs l=true):l.length≤40∧∀a∈l,a.l.length≤20∧∀m∈a.l,m.ok:=by
 unfold lightAs at h
 rw[decide_eq_true_eq]at h
 refine⟨h.1,fun a ha=> ?_⟩
 have h2:=h.2 a ha
 unfold lightA at h2
 rw[decide_eq_true_eq]at h2
 exact⟨h2.1,fun m hm=>light_ok (hw a ha m hm) (h2.2 m hm)⟩
theorem putB_sh:∀{l r:List MsgS},(∀m∈l,MsgS.sh m)→(∀m∈r,MsgS.sh m)→∀m∈(putB l r).1,MsgS.sh m
 |l,[],h1,_=>h1
 |l,p::r,h1,h2=>by
  unfold putB
  split
  ·refine putB_sh (fun m hm=> ?_) (fun m hm=>h2 m (List.mem_cons_of_mem _ hm))
   rcases List.mem_append.1 hm with hm|hm
   ·exact h1 m hm
   ·rw[List.mem_singleton.1 hm];exact h2 p (List.mem_cons_self ..)
  ·exact putB_sh h1 (fun m hm=>h2 m (List.mem_cons_of_mem _ hm))
theorem getD_as2 {l:List ActS} {j:Nat} {p:ActS} {r:List ActS} (h:l.drop j=p::r):(l.map ActS.v).getD j V.nilp= .agg [.int .i64 p.do_,.sle 349 (p.l.map MsgS.v),.int .i64 p.n]:=getD_as h
theorem loop3 (hRP:Abs.look l 12=some ZRp) (hP:Abs.look l 13=some ZPb) (hT:Abs.look l 14=some ZTk) (hS:Abs.look l 15=some ZMs) (hRD:Abs.look l 16=some ZRd6) (hC:Abs.look l 17=some ZCy6) (hD:Abs.look l 18=some ZDp) (hA:Abs.look l 20=some ZAl) (hR6:Abs.look l 19=some ZSm6)
  {QQ:Ex→St→Prop} {id:Nat} {to:Int} {as_:List ActS} (hok:∀a∈as_,a.l.length≤20∧∀m∈a.l,m.ok) (hl:as_.length≤40)
  (hx:∀ts G' w d6 L,(d6= .own (.sle 349 (w.map MsgS.v))∨d6= .v (.sle 349 (w.map MsgS.v)))→BagAt G' id w true→w.length≤400→QQ (.exit 0) ⟨[some (.v (.sle 3 (as_.map ActS.v))),some (.v (.int .i64 to)),none,none,none,some (.v (.ptr id)),some d6,some (.v (.int .i64 (as_.length:Nat))),none,none,none,none,none,none,none,none,none,none,none,none,none,none,none,none,some (.v (.int .i64 (as_.length:Nat))),some (.v (.sle 3 (as_.map ActS.v))),some (.v (.int .i64 (as_.length:Nat))),some (.v (.bool false)),none,none,none,none,none,none,none,none,none,none,none,none,none,none,none,none,none,none,none,none],ts,L,G'⟩):
  ∀(r:List ActS) (i:Nat) (w:List MsgS) (d6:D) (G:List (Nat×V)) (rest:List Bx),(d6= .own (.sle 349 (w.map MsgS.v))∨d6= .v (.sle 349 (w.map MsgS.v)))→as_.drop i=r→i≤as_.length→BagAt G id w true→w.length≤400→(∀m∈w,MsgS.sh m)→
   WL (W E (specOf l) lp3_1) [0,1,5,6,7] QQ (r.length+1) ⟨[some (.v (.sle 3 (as_.map ActS.v))),some (.v (.int .i64 to)),none,none,none,some (.v (.ptr id)),some d6,some (.v (.int .i64 (i:Nat))),none,none,none,none,none,none,none,none,none,none,none,none,none,none,none,none,none,none,none,none,none,none,none,none,none,none,none,none,none,none,none,none,none,none,none,none,none,none,none,none],[],rest,G⟩:=by
 have sm:∀m:MsgS,V.same m.v (.agg [.int .i64 0,.int .i64 0,.int .i64 0,.agg [.int .i64 0,.int .i64 0,.int .i64 0,.int .i64 0,.arr .u8 32 zz2,.int .i64 0,.arr .u8 32 zz2,.arr .u8 32 zz2],.agg [.agg [.int .i64 0,.int .i64 0,.int .i64 0,.int .i64 0,.arr .u8 32 zz2,.int .i64 0,.arr .u8 32 zz2,.arr .u8 32 zz2],.nils],.agg [.int .i64 0,.int .i64 0,.int .i64 0,.arr .u8 32 zz2,.nils,.arr .u8 32 zz2],.agg [.arr .u8 32 zz2,.int .i64 0,.int .i64 0,.int .i64 0,.nils],.arr .u8 32 zz2,.agg [.int .i64 0,.int .i64 0,.int .i64 0,.int .i64 0,.int .i64 0,.str ⟨⟨[]⟩⟩,.str ⟨⟨[]⟩⟩]])=true:=fun m=>rfl
 have sz:∀m:MsgS,V.size m.v=349:=fun m=>rfl
 have si:∀m:MsgS,V.isAgg m.v=true:=fun m=>rfl
 unfold V.isAgg at si
 intro r
 induction r with
 |nil=>
  intro i w d6 G rest h6 hd hi hB hw hs
  have:=drop_none hd
  have c1:¬(i:Int) < (as_.length:Int):=by omega
  obtain rfl:i=as_.length:=by omega
  refine WL_in lp3_1.eq_1 ?_
  rcases h6 with rfl|rfl
  ·simp -implicitDefEqProofs only[c1,List.length_map,go_sem,↓reduceIte]
   exact hx _ _ _ _ _ (.inl rfl) hB hw
  ·simp -implicitDefEqProofs only[c1,List.length_map,go_sem,↓reduceIte]
   exact hx _ _ _ _ _ (.inr rfl) hB hw
 |cons a r ih=>
  intro i w d6 G rest h6 hd hi hB hw hs
  obtain⟨hd2,hj2,hlen⟩:=drop_one hd
  have g:=getD_as2 hd
  have am:a∈as_:=List.mem_of_mem_drop (i:=i) (by rw[hd];exact List.mem_cons_self ..)
  obtain⟨al,aok⟩:=hok a am
  have c1:(i:Int) < (as_.length:Int):=by omega
  have c3:(0:Int)≤i:=by omega
  have w1:IntKind.i64.wrap ((i:Int)+1)=((i+1:Nat):Int):=wc (by omega) (by omega)
  have hA0:∀x:Bx,(rest++[x])[rest.length]? =some x:=fun x=>by simp
  have hS0:∀x z:Bx,(rest++[x]).set rest.length z=rest++[z]:=fun x z=>by simp
  have hA1:∀x y:Bx,(rest++[x]++[y])[rest.length]? =some x:=fun x y=>by simp
  have hA2:∀x y:Bx,(rest++[x]++[y])[rest.length+1]? =some y:=fun x y=>by simp
  have hS1:∀x y z:Bx,(rest++[x]++[y]).set rest.length z=rest++[z]++[y]:=fun x y z=>by simp
  have hS2:∀x y z:Bx,(rest++[x]++[y]).set (rest.length+1) z=rest++[x]++[z]:=fun x y z=>by
   rw[show rest.length+1=(rest++[x]).length by simp,List.set_append_right _ _ (Nat.le_refl _)];simp
  have fin:∀(w2:List MsgS) (d7:D) (G2:List (Nat×V)) (rest2:List Bx),(d7= .own (.sle 349 (w2.map MsgS.v))∨d7= .v (.sle 349 (w2.map MsgS.v)))→BagAt G2 id w2 true→w2.length≤400→(∀m∈w2,MsgS.sh m)→WL (W E (specOf l) lp3_1) [0,1,5,6,7] QQ (r.length+1) ⟨[some (.v (.sle 3 (as_.map ActS.v))),some (.v (.int .i64 to)),none,none,none,some (.v (.ptr id)),some d7,some (.v (.int .i64 (i+1:Nat))),none,none,none,none,none,none,none,none,none,none,none,none,none,none,none,none,none,none,none,none,none,none,none,none,none,none,none,none,none,none,none,none,none,none,none,none,none,none,none,none],[],rest2,G2⟩:=fun w2 d7 G2 rest2 h0 h1 h2 h3=>ih (i+1) w2 d7 G2 rest2 h0 hd2 (by omega) h1 h2 h3
  obtain⟨ado,al_,an⟩:=a
  dsimp only at g al aok
  obtain⟨pb1,pb2,pb3,pb4⟩:=putB_len w al_
  have pb4:=pb4 hw
  have psh:=putB_sh hs (fun m hm=>(aok m hm).sh)
  have aoks:al_.length < 1000000:=by omega
  by_cases ht:0≤an∧an < (w.length:Int)
  ·obtain⟨k,rfl⟩:∃k:Nat,an=k:=⟨an.toNat,by omega⟩
   obtain⟨k0,k1⟩:=ht
   have hk:k < w.length:=by omega
   have eat:atE w true (k:Nat)=0:=by unfold atE;rw[if_neg (by decide),if_neg (by omega)]
   have etk:takeB w true (k:Nat)=(w.getD k .zero,w.eraseIdx k):=by unfold takeB;rw[if_pos eat,Int.toNat_natCast]
   have gk:(w.map MsgS.v).getD k V.nilp=(w.getD k .zero).v:=by
    rw[List.getD_eq_getElem?_getD,List.getD_eq_getElem?_getD,List.getElem?_map,List.getElem?_eq_getElem hk];rfl
   have pm:w.getD k .zero∈w:=by rw[List.getD_eq_getElem?_getD,List.getElem?_eq_getElem hk];exact List.getElem_mem hk
   have le:(w.eraseIdx k).length≤400:=by rw[List.length_eraseIdx,if_pos hk];omega
   have se:∀m∈w.eraseIdx k,MsgS.sh m:=fun m hm=>hs m (List.mem_of_mem_eraseIdx hm)
   have spm:=hs _ pm
   generalize hpd:w.getD k .zero=p at etk gk spm
   by_cases d0:ado=0
   ·subst d0
    rcases h6 with rfl|rfl
    ·refine WL_in lp3_1.eq_1 ?_
     simp -implicitDefEqProofs only[c1,c3,g,w1,k0,k1,Int.toNat_natCast,List.length_map,hA0,hS0,hA1,hA2,hS1,hS2,hRP,ZRp_eq,go_sem,↓reduceIte]
     refine⟨w,al_,⟨rfl,rfl,aok,aoks,hw⟩,?_⟩
     simp -implicitDefEqProofs only[k0,k1,Int.toNat_natCast,List.length_map,hA0,hS0,hA1,hA2,hS1,hS2,hP,ZPb,go_sem,↓reduceIte]
     refine⟨w,true,al_,⟨hB,V.Wk.refl _,aok,aoks,hw⟩,fun G1 hB2=> ?_⟩
     rw[if_pos rfl]at hB2⊢
     simp -implicitDefEqProofs only[k0,k1,Int.toNat_natCast,List.length_map,hA0,hS0,hA1,hA2,hS1,hS2,hA,ZAl,w1,go_sem,↓reduceIte]
     refine⟨(putB w al_).1,true,⟨hB2,pb4⟩,?_⟩
     simp -implicitDefEqProofs only[k0,k1,Int.toNat_natCast,List.length_map,hA0,hS0,hA1,hA2,hS1,hS2,hR6,ZSm6_eq,w1,go_sem,↓reduceIte]
     refine⟨(putB w al_).1,(putB w al_).1,⟨rfl,rfl,psh,psh,Nat.lt_of_le_of_lt pb4 (by decide)⟩,fun hn=>absurd rfl hn,fun _=> ?_⟩
     try simp -implicitDefEqProofs only[k0,k1,Int.toNat_natCast,List.length_map,hA0,hS0,hA1,hA2,hS1,hS2,w1,go_sem,↓reduceIte]
     exact fin ((putB w al_).1) _ _ _ (.inr rfl) hB2 pb4 psh
    ·refine WL_in lp3_1.eq_1 ?_
     simp -implicitDefEqProofs only[c1,c3,g,w1,k0,k1,Int.toNat_natCast,List.length_map,hA0,hS0,hA1,hA2,hS1,hS2,hRP,ZRp_eq,go_sem,↓reduceIte]
     refine⟨w,al_,⟨rfl,rfl,aok,aoks,hw⟩,?_⟩
     simp -implicitDefEqProofs only[k0,k1,Int.toNat_natCast,List.length_map,hA0,hS0,hA1,hA2,hS1,hS2,hP,ZPb,go_sem,↓reduceIte]
     refine⟨w,true,al_,⟨hB,V.Wk.refl _,aok,aoks,hw⟩,fun G1 hB2=> ?_⟩
     rw[if_pos rfl]at hB2⊢
     simp -implicitDefEqProofs only[k0,k1,Int.toNat_natCast,List.length_map,hA0,hS0,hA1,hA2,hS1,hS2,hA,ZAl,w1,go_sem,↓reduceIte]
     refine⟨(putB w al_).1,true,⟨hB2,pb4⟩,?_⟩
     simp -implicitDefEqProofs only[k0,k1,Int.toNat_natCast,List.length_map,hA0,hS0,hA1,hA2,hS1,hS2,hR6,ZSm6_eq,w1,go_sem,↓reduceIte]
     refine⟨(putB w al_).1,(putB w al_).1,⟨rfl,rfl,psh,psh,Nat.lt_of_le_of_lt pb4 (by decide)⟩,fun hn=>absurd rfl hn,fun _=> ?_⟩
     try simp -implicitDefEqProofs only[k0,k1,Int.toNat_natCast,List.length_map,hA0,hS0,hA1,hA2,hS1,hS2,w1,go_sem,↓reduceIte]
     exact fin ((putB w al_).1) _ _ _ (.inr rfl) hB2 pb4 psh
   by_cases d1:ado=1
   ·subst d1
    rcases h6 with rfl|rfl
    ·refine WL_in lp3_1.eq_1 ?_
     simp -implicitDefEqProofs only[c1,c3,g,w1,k0,k1,Int.toNat_natCast,List.length_map,hA0,hS0,hA1,hA2,hS1,hS2,hT,ZTk,go_sem,↓reduceIte]
     refine⟨w,true,⟨hB,hw⟩,fun G1 hB2=> ?_⟩
     rw[etk]at hB2⊢
     rw[eat]
     dsimp only at hB2⊢
     simp -implicitDefEqProofs only[k0,k1,Int.toNat_natCast,List.length_map,hA0,hS0,hA1,hA2,hS1,hS2,sm,sz,si,hS,ZMs_eq,gk,go_sem,↓reduceIte]
     refine⟨p,p,⟨V.Wk.refl _,V.Wk.refl _,spm,spm⟩,fun hn=>absurd rfl hn,fun _=> ?_⟩
     simp -implicitDefEqProofs only[k0,k1,Int.toNat_natCast,List.length_map,hA0,hS0,hA1,hA2,hS1,hS2,hRD,ZRd6_eq,go_sem,↓reduceIte]
     refine⟨w,k,⟨rfl,rfl,hk,hw⟩,?_⟩
     simp -implicitDefEqProofs only[k0,k1,Int.toNat_natCast,List.length_map,hA0,hS0,hA1,hA2,hS1,hS2,hA,ZAl,w1,go_sem,↓reduceIte]
     refine⟨w.eraseIdx k,true,⟨hB2,le⟩,?_⟩
     simp -implicitDefEqProofs only[k0,k1,Int.toNat_natCast,List.length_map,hA0,hS0,hA1,hA2,hS1,hS2,hR6,ZSm6_eq,w1,go_sem,↓reduceIte]
     refine⟨w.eraseIdx k,w.eraseIdx k,⟨rfl,rfl,se,se,Nat.lt_of_le_of_lt le (by decide)⟩,fun hn=>absurd rfl hn,fun _=> ?_⟩
     try simp -implicitDefEqProofs only[k0,k1,Int.toNat_natCast,List.length_map,hA0,hS0,hA1,hA2,hS1,hS2,w1,go_sem,↓reduceIte]
     exact fin (w.eraseIdx k) _ _ _ (.inl rfl) hB2 le se
    ·refine WL_in lp3_1.eq_1 ?_
     simp -implicitDefEqProofs only[c1,c3,g,w1,k0,k1,Int.toNat_natCast,List.length_map,hA0,hS0,hA1,hA2,hS1,hS2,hT,ZTk,go_sem,↓reduceIte]
     refine⟨w,true,⟨hB,hw⟩,fun G1 hB2=> ?_⟩
     rw[etk]at hB2⊢
     rw[eat]
     dsimp only at hB2⊢
     simp -implicitDefEqProofs only[k0,k1,Int.toNat_natCast,List.length_map,hA0,hS0,hA1,hA2,hS1,hS2,sm,sz,si,hS,ZMs_eq,gk,go_sem,↓reduceIte]
     refine⟨p,p,⟨V.Wk.refl _,V.Wk.refl _,spm,spm⟩,fun hn=>absurd rfl hn,fun _=> ?_⟩
     simp -implicitDefEqProofs only[k0,k1,Int.toNat_natCast,List.length_map,hA0,hS0,hA1,hA2,hS1,hS2,hRD,ZRd6_eq,go_sem,↓reduceIte]
     refine⟨w,k,⟨rfl,rfl,hk,hw⟩,?_⟩
     simp -implicitDefEqProofs only[k0,k1,Int.toNat_natCast,List.length_map,hA0,hS0,hA1,hA2,hS1,hS2,hA,ZAl,w1,go_sem,↓reduceIte]
     refine⟨w.eraseIdx k,true,⟨hB2,le⟩,?_⟩
     simp -implicitDefEqProofs only[k0,k1,Int.toNat_natCast,List.length_map,hA0,hS0,hA1,hA2,hS1,hS2,hR6,ZSm6_eq,w1,go_sem,↓reduceIte]
     refine⟨w.eraseIdx k,w.eraseIdx k,⟨rfl,rfl,se,se,Nat.lt_of_le_of_lt le (by decide)⟩,fun hn=>absurd rfl hn,fun _=> ?_⟩
     try simp -implicitDefEqProofs only[k0,k1,Int.toNat_natCast,List.length_map,hA0,hS0,hA1,hA2,hS1,hS2,w1,go_sem,↓reduceIte]
     exact fin (w.eraseIdx k) _ _ _ (.inl rfl) hB2 le se
   by_cases d2:ado=2
   ·subst d2
    rcases h6 with rfl|rfl
    ·refine WL_in lp3_1.eq_1 ?_
     simp -implicitDefEqProofs only[c1,c3,g,w1,k0,k1,Int.toNat_natCast,List.length_map,hA0,hS0,hA1,hA2,hS1,hS2,sm,sz,si,gk,hC,ZCy6,go_sem,↓reduceIte]
     refine⟨fun h4=> ?_,fun h4=> ?_⟩
     ·have ec:copE w true (k:Nat)=4:=by unfold copE;rw[if_pos ⟨eat,by omega⟩]
      have eb:copyB w true (k:Nat)=w:=by unfold copyB;rw[ec,if_neg (by decide)]
      refine⟨w,true,⟨hB,hw⟩,fun G1 hB2=> ?_⟩
      rw[eb]at hB2
      refine⟨fun hn=>absurd ec hn,fun _=> ?_⟩
      simp -implicitDefEqProofs only[k0,k1,Int.toNat_natCast,List.length_map,hA0,hS0,hA1,hA2,hS1,hS2,hA,ZAl,w1,go_sem,↓reduceIte]
      refine⟨w,true,⟨hB2,hw⟩,?_⟩
      simp -implicitDefEqProofs only[k0,k1,Int.toNat_natCast,List.length_map,hA0,hS0,hA1,hA2,hS1,hS2,hR6,ZSm6_eq,w1,go_sem,↓reduceIte]
      refine⟨w,w,⟨rfl,rfl,hs,hs,Nat.lt_of_le_of_lt hw (by decide)⟩,fun hn=>absurd rfl hn,fun _=> ?_⟩
      try simp -implicitDefEqProofs only[k0,k1,Int.toNat_natCast,List.length_map,hA0,hS0,hA1,hA2,hS1,hS2,w1,go_sem,↓reduceIte]
      exact fin (w) _ _ _ (.inl rfl) hB2 hw hs
     ·have ec:copE w true (k:Nat)=0:=by unfold copE;rw[if_neg (fun h=>by omega),eat]
      have eb:copyB w true (k:Nat)=w++[p]:=by unfold copyB;rw[if_pos ec,Int.toNat_natCast,hpd]
      have l9:(w++[p]).length≤400:=by rw[List.length_append,List.length_singleton];omega
      have s9:∀m∈w++[p],MsgS.sh m:=fun m hm=>by
       rcases List.mem_append.1 hm with hm|hm
       ·exact hs m hm
       ·rw[List.mem_singleton.1 hm];exact spm
      have m9:(w++[p]).map MsgS.v=w.map MsgS.v++[p.v]:=by simp
      refine⟨by omega,by omega,?_⟩
      refine⟨w,true,⟨hB,hw⟩,fun G1 hB2=> ?_⟩
      rw[eb]at hB2
      refine⟨fun hn=>absurd ec hn,fun _=> ?_⟩
      rw[←m9]
      simp -implicitDefEqProofs only[k0,k1,Int.toNat_natCast,List.length_map,hA0,hS0,hA1,hA2,hS1,hS2,hA,ZAl,w1,go_sem,↓reduceIte]
      refine⟨w++[p],true,⟨hB2,l9⟩,?_⟩
      simp -implicitDefEqProofs only[k0,k1,Int.toNat_natCast,List.length_map,hA0,hS0,hA1,hA2,hS1,hS2,hR6,ZSm6_eq,w1,go_sem,↓reduceIte]
      refine⟨w++[p],w++[p],⟨rfl,rfl,s9,s9,Nat.lt_of_le_of_lt l9 (by decide)⟩,fun hn=>absurd rfl hn,fun _=> ?_⟩
      try simp -implicitDefEqProofs only[k0,k1,Int.toNat_natCast,List.length_map,hA0,hS0,hA1,hA2,hS1,hS2,w1,go_sem,↓reduceIte]
      exact fin (w++[p]) _ _ _ (.inl rfl) hB2 l9 s9
    ·refine WL_in lp3_1.eq_1 ?_
     simp -implicitDefEqProofs only[c1,c3,g,w1,k0,k1,Int.toNat_natCast,List.length_map,hA0,hS0,hA1,hA2,hS1,hS2,sm,sz,si,gk,hC,ZCy6,go_sem,↓reduceIte]
     refine⟨fun h4=> ?_,fun h4=> ?_⟩
     ·have ec:copE w true (k:Nat)=4:=by unfold copE;rw[if_pos ⟨eat,by omega⟩]
      have eb:copyB w true (k:Nat)=w:=by unfold copyB;rw[ec,if_neg (by decide)]
      refine⟨w,true,⟨hB,hw⟩,fun G1 hB2=> ?_⟩
      rw[eb]at hB2
      refine⟨fun hn=>absurd ec hn,fun _=> ?_⟩
      simp -implicitDefEqProofs only[k0,k1,Int.toNat_natCast,List.length_map,hA0,hS0,hA1,hA2,hS1,hS2,hA,ZAl,w1,go_sem,↓reduceIte]
      refine⟨w,true,⟨hB2,hw⟩,?_⟩
      simp -implicitDefEqProofs only[k0,k1,Int.toNat_natCast,List.length_map,hA0,hS0,hA1,hA2,hS1,hS2,hR6,ZSm6_eq,w1,go_sem,↓reduceIte]
      refine⟨w,w,⟨rfl,rfl,hs,hs,Nat.lt_of_le_of_lt hw (by decide)⟩,fun hn=>absurd rfl hn,fun _=> ?_⟩
      try simp -implicitDefEqProofs only[k0,k1,Int.toNat_natCast,List.length_map,hA0,hS0,hA1,hA2,hS1,hS2,w1,go_sem,↓reduceIte]
      exact fin (w) _ _ _ (.inr rfl) hB2 hw hs
     ·have ec:copE w true (k:Nat)=0:=by unfold copE;rw[if_neg (fun h=>by omega),eat]
      have eb:copyB w true (k:Nat)=w++[p]:=by unfold copyB;rw[if_pos ec,Int.toNat_natCast,hpd]
      have l9:(w++[p]).length≤400:=by rw[List.length_append,List.length_singleton];omega
      have s9:∀m∈w++[p],MsgS.sh m:=fun m hm=>by
       rcases List.mem_append.1 hm with hm|hm
       ·exact hs m hm
       ·rw[List.mem_singleton.1 hm];exact spm
      have m9:(w++[p]).map MsgS.v=w.map MsgS.v++[p.v]:=by simp
      refine⟨by omega,by omega,?_⟩
      refine⟨w,true,⟨hB,hw⟩,fun G1 hB2=> ?_⟩
      rw[eb]at hB2
      refine⟨fun hn=>absurd ec hn,fun _=> ?_⟩
      rw[←m9]
      simp -implicitDefEqProofs only[k0,k1,Int.toNat_natCast,List.length_map,hA0,hS0,hA1,hA2,hS1,hS2,hA,ZAl,w1,go_sem,↓reduceIte]
      refine⟨w++[p],true,⟨hB2,l9⟩,?_⟩
      simp -implicitDefEqProofs only[k0,k1,Int.toNat_natCast,List.length_map,hA0,hS0,hA1,hA2,hS1,hS2,hR6,ZSm6_eq,w1,go_sem,↓reduceIte]
      refine⟨w++[p],w++[p],⟨rfl,rfl,s9,s9,Nat.lt_of_le_of_lt l9 (by decide)⟩,fun hn=>absurd rfl hn,fun _=> ?_⟩
      try simp -implicitDefEqProofs only[k0,k1,Int.toNat_natCast,List.length_map,hA0,hS0,hA1,hA2,hS1,hS2,w1,go_sem,↓reduceIte]
      exact fin (w++[p]) _ _ _ (.inl rfl) hB2 l9 s9
   rcases h6 with rfl|rfl
   ·refine WL_in lp3_1.eq_1 ?_
    simp -implicitDefEqProofs only[c1,c3,g,w1,d0,d1,d2,k0,k1,Int.toNat_natCast,List.length_map,hA0,hS0,hA1,hA2,hS1,hS2,hD,ZDp,go_sem,↓reduceIte]
    refine⟨w,true,⟨hB,hw⟩,fun G1 hB2=> ?_⟩
    rw[etk]at hB2
    rw[eat]
    dsimp only at hB2
    simp -implicitDefEqProofs only[k0,k1,Int.toNat_natCast,List.length_map,hA0,hS0,hA1,hA2,hS1,hS2,sm,sz,si,hRD,ZRd6_eq,go_sem,↓reduceIte]
    refine⟨w,k,⟨rfl,rfl,hk,hw⟩,?_⟩
    simp -implicitDefEqProofs only[k0,k1,Int.toNat_natCast,List.length_map,hA0,hS0,hA1,hA2,hS1,hS2,hA,ZAl,w1,go_sem,↓reduceIte]
    refine⟨w.eraseIdx k,true,⟨hB2,le⟩,?_⟩
    simp -implicitDefEqProofs only[k0,k1,Int.toNat_natCast,List.length_map,hA0,hS0,hA1,hA2,hS1,hS2,hR6,ZSm6_eq,w1,go_sem,↓reduceIte]
    refine⟨w.eraseIdx k,w.eraseIdx k,⟨rfl,rfl,se,se,Nat.lt_of_le_of_lt le (by decide)⟩,fun hn=>absurd rfl hn,fun _=> ?_⟩
    try simp -implicitDefEqProofs only[k0,k1,Int.toNat_natCast,List.length_map,hA0,hS0,hA1,hA2,hS1,hS2,w1,go_sem,↓reduceIte]
    exact fin (w.eraseIdx k) _ _ _ (.inl rfl) hB2 le se
   ·refine WL_in lp3_1.eq_1 ?_
    simp -implicitDefEqProofs only[c1,c3,g,w1,d0,d1,d2,k0,k1,Int.toNat_natCast,List.length_map,hA0,hS0,hA1,hA2,hS1,hS2,hD,ZDp,go_sem,↓reduceIte]
    refine⟨w,true,⟨hB,hw⟩,fun G1 hB2=> ?_⟩
    rw[etk]at hB2
    rw[eat]
    dsimp only at hB2
    simp -implicitDefEqProofs only[k0,k1,Int.toNat_natCast,List.length_map,hA0,hS0,hA1,hA2,hS1,hS2,sm,sz,si,hRD,ZRd6_eq,go_sem,↓reduceIte]
    refine⟨w,k,⟨rfl,rfl,hk,hw⟩,?_⟩
    simp -implicitDefEqProofs only[k0,k1,Int.toNat_natCast,List.length_map,hA0,hS0,hA1,hA2,hS1,hS2,hA,ZAl,w1,go_sem,↓reduceIte]
    refine⟨w.eraseIdx k,true,⟨hB2,le⟩,?_⟩
    simp -implicitDefEqProofs only[k0,k1,Int.toNat_natCast,List.length_map,hA0,hS0,hA1,hA2,hS1,hS2,hR6,ZSm6_eq,w1,go_sem,↓reduceIte]
    refine⟨w.eraseIdx k,w.eraseIdx k,⟨rfl,rfl,se,se,Nat.lt_of_le_of_lt le (by decide)⟩,fun hn=>absurd rfl hn,fun _=> ?_⟩
    try simp -implicitDefEqProofs only[k0,k1,Int.toNat_natCast,List.length_map,hA0,hS0,hA1,hA2,hS1,hS2,w1,go_sem,↓reduceIte]
    exact fin (w.eraseIdx k) _ _ _ (.inl rfl) hB2 le se
  ·by_cases h0:0≤an
   ·have n2:¬an < (w.length:Int):=by omega
    have eat:atE w true an=3:=by unfold atE;rw[if_neg (by decide),if_pos (by omega)]
    have etk:takeB w true an=(.zero,w):=by unfold takeB;rw[if_neg (by rw[eat];decide)]
    have ec:copE w true an=3:=by unfold copE;rw[if_neg (fun h=>by rw[eat]at h;exact absurd h.1 (by decide)),eat]
    have eb:copyB w true an=w:=by unfold copyB;rw[if_neg (by rw[ec];decide)]
    have zs:=(MsgS.bare_ok 0 0 0).sh
    by_cases d0:ado=0
    ·subst d0
     rcases h6 with rfl|rfl
     ·refine WL_in lp3_1.eq_1 ?_
      simp -implicitDefEqProofs only[c1,c3,g,w1,h0,n2,Int.toNat_natCast,List.length_map,hA0,hS0,hA1,hA2,hS1,hS2,hRP,ZRp_eq,go_sem,↓reduceIte]
      refine⟨w,al_,⟨rfl,rfl,aok,aoks,hw⟩,?_⟩
      simp -implicitDefEqProofs only[h0,n2,Int.toNat_natCast,List.length_map,hA0,hS0,hA1,hA2,hS1,hS2,hP,ZPb,go_sem,↓reduceIte]
      refine⟨w,true,al_,⟨hB,V.Wk.refl _,aok,aoks,hw⟩,fun G1 hB2=> ?_⟩
      rw[if_pos rfl]at hB2⊢
      simp -implicitDefEqProofs only[h0,n2,Int.toNat_natCast,List.length_map,hA0,hS0,hA1,hA2,hS1,hS2,hA,ZAl,w1,go_sem,↓reduceIte]
      refine⟨(putB w al_).1,true,⟨hB2,pb4⟩,?_⟩
      simp -implicitDefEqProofs only[h0,n2,Int.toNat_natCast,List.length_map,hA0,hS0,hA1,hA2,hS1,hS2,hR6,ZSm6_eq,w1,go_sem,↓reduceIte]
      refine⟨(putB w al_).1,(putB w al_).1,⟨rfl,rfl,psh,psh,Nat.lt_of_le_of_lt pb4 (by decide)⟩,fun hn=>absurd rfl hn,fun _=> ?_⟩
      try simp -implicitDefEqProofs only[h0,n2,Int.toNat_natCast,List.length_map,hA0,hS0,hA1,hA2,hS1,hS2,w1,go_sem,↓reduceIte]
      exact fin ((putB w al_).1) _ _ _ (.inr rfl) hB2 pb4 psh
     ·refine WL_in lp3_1.eq_1 ?_
      simp -implicitDefEqProofs only[c1,c3,g,w1,h0,n2,Int.toNat_natCast,List.length_map,hA0,hS0,hA1,hA2,hS1,hS2,hRP,ZRp_eq,go_sem,↓reduceIte]
      refine⟨w,al_,⟨rfl,rfl,aok,aoks,hw⟩,?_⟩
      simp -implicitDefEqProofs only[h0,n2,Int.toNat_natCast,List.length_map,hA0,hS0,hA1,hA2,hS1,hS2,hP,ZPb,go_sem,↓reduceIte]
      refine⟨w,true,al_,⟨hB,V.Wk.refl _,aok,aoks,hw⟩,fun G1 hB2=> ?_⟩
      rw[if_pos rfl]at hB2⊢
      simp -implicitDefEqProofs only[h0,n2,Int.toNat_natCast,List.length_map,hA0,hS0,hA1,hA2,hS1,hS2,hA,ZAl,w1,go_sem,↓reduceIte]
      refine⟨(putB w al_).1,true,⟨hB2,pb4⟩,?_⟩
      simp -implicitDefEqProofs only[h0,n2,Int.toNat_natCast,List.length_map,hA0,hS0,hA1,hA2,hS1,hS2,hR6,ZSm6_eq,w1,go_sem,↓reduceIte]
      refine⟨(putB w al_).1,(putB w al_).1,⟨rfl,rfl,psh,psh,Nat.lt_of_le_of_lt pb4 (by decide)⟩,fun hn=>absurd rfl hn,fun _=> ?_⟩
      try simp -implicitDefEqProofs only[h0,n2,Int.toNat_natCast,List.length_map,hA0,hS0,hA1,hA2,hS1,hS2,w1,go_sem,↓reduceIte]
      exact fin ((putB w al_).1) _ _ _ (.inr rfl) hB2 pb4 psh
    by_cases d1:ado=1
    ·subst d1
     rcases h6 with rfl|rfl
     ·refine WL_in lp3_1.eq_1 ?_
      simp -implicitDefEqProofs only[c1,c3,g,w1,h0,n2,Int.toNat_natCast,List.length_map,hA0,hS0,hA1,hA2,hS1,hS2,hT,ZTk,go_sem,↓reduceIte]
      refine⟨w,true,⟨hB,hw⟩,fun G1 hB2=> ?_⟩
      rw[etk]at hB2⊢
      rw[eat]
      dsimp only at hB2⊢
      simp -implicitDefEqProofs only[h0,n2,Int.toNat_natCast,List.length_map,hA0,hS0,hA1,hA2,hS1,hS2,sm,sz,si,hS,ZMs_eq,go_sem,↓reduceIte]
      refine⟨.zero,.zero,⟨V.Wk.refl _,wk_msg (m:= .zero) wk_ce wk_ac wk_bl,zs,zs⟩,fun hn=>absurd rfl hn,fun _=> ?_⟩
      simp -implicitDefEqProofs only[h0,n2,Int.toNat_natCast,List.length_map,hA0,hS0,hA1,hA2,hS1,hS2,hA,ZAl,w1,go_sem,↓reduceIte]
      refine⟨w,true,⟨hB2,hw⟩,?_⟩
      simp -implicitDefEqProofs only[h0,n2,Int.toNat_natCast,List.length_map,hA0,hS0,hA1,hA2,hS1,hS2,hR6,ZSm6_eq,w1,go_sem,↓reduceIte]
      refine⟨w,w,⟨rfl,rfl,hs,hs,Nat.lt_of_le_of_lt hw (by decide)⟩,fun hn=>absurd rfl hn,fun _=> ?_⟩
      try simp -implicitDefEqProofs only[h0,n2,Int.toNat_natCast,List.length_map,hA0,hS0,hA1,hA2,hS1,hS2,w1,go_sem,↓reduceIte]
      exact fin (w) _ _ _ (.inl rfl) hB2 hw hs
     ·refine WL_in lp3_1.eq_1 ?_
      simp -implicitDefEqProofs only[c1,c3,g,w1,h0,n2,Int.toNat_natCast,List.length_map,hA0,hS0,hA1,hA2,hS1,hS2,hT,ZTk,go_sem,↓reduceIte]
      refine⟨w,true,⟨hB,hw⟩,fun G1 hB2=> ?_⟩
      rw[etk]at hB2⊢
      rw[eat]
      dsimp only at hB2⊢
      simp -implicitDefEqProofs only[h0,n2,Int.toNat_natCast,List.length_map,hA0,hS0,hA1,hA2,hS1,hS2,sm,sz,si,hS,ZMs_eq,go_sem,↓reduceIte]
      refine⟨.zero,.zero,⟨V.Wk.refl _,wk_msg (m:= .zero) wk_ce wk_ac wk_bl,zs,zs⟩,fun hn=>absurd rfl hn,fun _=> ?_⟩
      simp -implicitDefEqProofs only[h0,n2,Int.toNat_natCast,List.length_map,hA0,hS0,hA1,hA2,hS1,hS2,hA,ZAl,w1,go_sem,↓reduceIte]
      refine⟨w,true,⟨hB2,hw⟩,?_⟩
      simp -implicitDefEqProofs only[h0,n2,Int.toNat_natCast,List.length_map,hA0,hS0,hA1,hA2,hS1,hS2,hR6,ZSm6_eq,w1,go_sem,↓reduceIte]
      refine⟨w,w,⟨rfl,rfl,hs,hs,Nat.lt_of_le_of_lt hw (by decide)⟩,fun hn=>absurd rfl hn,fun _=> ?_⟩
      try simp -implicitDefEqProofs only[h0,n2,Int.toNat_natCast,List.length_map,hA0,hS0,hA1,hA2,hS1,hS2,w1,go_sem,↓reduceIte]
      exact fin (w) _ _ _ (.inr rfl) hB2 hw hs
    by_cases d2:ado=2
    ·subst d2
     rcases h6 with rfl|rfl
     ·refine WL_in lp3_1.eq_1 ?_
      simp -implicitDefEqProofs only[c1,c3,g,w1,h0,n2,Int.toNat_natCast,List.length_map,hA0,hS0,hA1,hA2,hS1,hS2,sm,sz,si,hC,ZCy6,go_sem,↓reduceIte]
      refine⟨w,true,⟨hB,hw⟩,fun G1 hB2=> ?_⟩
      rw[eb]at hB2
      refine⟨fun hn=>absurd ec hn,fun _=> ?_⟩
      simp -implicitDefEqProofs only[h0,n2,Int.toNat_natCast,List.length_map,hA0,hS0,hA1,hA2,hS1,hS2,hA,ZAl,w1,go_sem,↓reduceIte]
      refine⟨w,true,⟨hB2,hw⟩,?_⟩
      simp -implicitDefEqProofs only[h0,n2,Int.toNat_natCast,List.length_map,hA0,hS0,hA1,hA2,hS1,hS2,hR6,ZSm6_eq,w1,go_sem,↓reduceIte]
      refine⟨w,w,⟨rfl,rfl,hs,hs,Nat.lt_of_le_of_lt hw (by decide)⟩,fun hn=>absurd rfl hn,fun _=> ?_⟩
      try simp -implicitDefEqProofs only[h0,n2,Int.toNat_natCast,List.length_map,hA0,hS0,hA1,hA2,hS1,hS2,w1,go_sem,↓reduceIte]
      exact fin (w) _ _ _ (.inl rfl) hB2 hw hs
     ·refine WL_in lp3_1.eq_1 ?_
      simp -implicitDefEqProofs only[c1,c3,g,w1,h0,n2,Int.toNat_natCast,List.length_map,hA0,hS0,hA1,hA2,hS1,hS2,sm,sz,si,hC,ZCy6,go_sem,↓reduceIte]
      refine⟨w,true,⟨hB,hw⟩,fun G1 hB2=> ?_⟩
      rw[eb]at hB2
      refine⟨fun hn=>absurd ec hn,fun _=> ?_⟩
      simp -implicitDefEqProofs only[h0,n2,Int.toNat_natCast,List.length_map,hA0,hS0,hA1,hA2,hS1,hS2,hA,ZAl,w1,go_sem,↓reduceIte]
      refine⟨w,true,⟨hB2,hw⟩,?_⟩
      simp -implicitDefEqProofs only[h0,n2,Int.toNat_natCast,List.length_map,hA0,hS0,hA1,hA2,hS1,hS2,hR6,ZSm6_eq,w1,go_sem,↓reduceIte]
      refine⟨w,w,⟨rfl,rfl,hs,hs,Nat.lt_of_le_of_lt hw (by decide)⟩,fun hn=>absurd rfl hn,fun _=> ?_⟩
      try simp -implicitDefEqProofs only[h0,n2,Int.toNat_natCast,List.length_map,hA0,hS0,hA1,hA2,hS1,hS2,w1,go_sem,↓reduceIte]
      exact fin (w) _ _ _ (.inr rfl) hB2 hw hs
    rcases h6 with rfl|rfl
    ·refine WL_in lp3_1.eq_1 ?_
     simp -implicitDefEqProofs only[c1,c3,g,w1,d0,d1,d2,h0,n2,Int.toNat_natCast,List.length_map,hA0,hS0,hA1,hA2,hS1,hS2,hD,ZDp,go_sem,↓reduceIte]
     refine⟨w,true,⟨hB,hw⟩,fun G1 hB2=> ?_⟩
     rw[etk]at hB2
     rw[eat]
     dsimp only at hB2
     simp -implicitDefEqProofs only[h0,n2,Int.toNat_natCast,List.length_map,hA0,hS0,hA1,hA2,hS1,hS2,hA,ZAl,w1,go_sem,↓reduceIte]
     refine⟨w,true,⟨hB2,hw⟩,?_⟩
     simp -implicitDefEqProofs only[h0,n2,Int.toNat_natCast,List.length_map,hA0,hS0,hA1,hA2,hS1,hS2,hR6,ZSm6_eq,w1,go_sem,↓reduceIte]
     refine⟨w,w,⟨rfl,rfl,hs,hs,Nat.lt_of_le_of_lt hw (by decide)⟩,fun hn=>absurd rfl hn,fun _=> ?_⟩
     try simp -implicitDefEqProofs only[h0,n2,Int.toNat_natCast,List.length_map,hA0,hS0,hA1,hA2,hS1,hS2,w1,go_sem,↓reduceIte]
     exact fin (w) _ _ _ (.inl rfl) hB2 hw hs
    ·refine WL_in lp3_1.eq_1 ?_
     simp -implicitDefEqProofs only[c1,c3,g,w1,d0,d1,d2,h0,n2,Int.toNat_natCast,List.length_map,hA0,hS0,hA1,hA2,hS1,hS2,hD,ZDp,go_sem,↓reduceIte]
     refine⟨w,true,⟨hB,hw⟩,fun G1 hB2=> ?_⟩
     rw[etk]at hB2
     rw[eat]
     dsimp only at hB2
     simp -implicitDefEqProofs only[h0,n2,Int.toNat_natCast,List.length_map,hA0,hS0,hA1,hA2,hS1,hS2,hA,ZAl,w1,go_sem,↓reduceIte]
     refine⟨w,true,⟨hB2,hw⟩,?_⟩
     simp -implicitDefEqProofs only[h0,n2,Int.toNat_natCast,List.length_map,hA0,hS0,hA1,hA2,hS1,hS2,hR6,ZSm6_eq,w1,go_sem,↓reduceIte]
     refine⟨w,w,⟨rfl,rfl,hs,hs,Nat.lt_of_le_of_lt hw (by decide)⟩,fun hn=>absurd rfl hn,fun _=> ?_⟩
     try simp -implicitDefEqProofs only[h0,n2,Int.toNat_natCast,List.length_map,hA0,hS0,hA1,hA2,hS1,hS2,w1,go_sem,↓reduceIte]
     exact fin (w) _ _ _ (.inr rfl) hB2 hw hs
   ·have eat:atE w true an=3:=by unfold atE;rw[if_neg (by decide),if_pos (by omega)]
    have etk:takeB w true an=(.zero,w):=by unfold takeB;rw[if_neg (by rw[eat];decide)]
    have ec:copE w true an=3:=by unfold copE;rw[if_neg (fun h=>by rw[eat]at h;exact absurd h.1 (by decide)),eat]
    have eb:copyB w true an=w:=by unfold copyB;rw[if_neg (by rw[ec];decide)]
    have zs:=(MsgS.bare_ok 0 0 0).sh
    by_cases d0:ado=0
    ·subst d0
     rcases h6 with rfl|rfl
     ·refine WL_in lp3_1.eq_1 ?_
      simp -implicitDefEqProofs only[c1,c3,g,w1,h0,Int.toNat_natCast,List.length_map,hA0,hS0,hA1,hA2,hS1,hS2,hRP,ZRp_eq,go_sem,↓reduceIte]
      refine⟨w,al_,⟨rfl,rfl,aok,aoks,hw⟩,?_⟩
      simp -implicitDefEqProofs only[h0,Int.toNat_natCast,List.length_map,hA0,hS0,hA1,hA2,hS1,hS2,hP,ZPb,go_sem,↓reduceIte]
      refine⟨w,true,al_,⟨hB,V.Wk.refl _,aok,aoks,hw⟩,fun G1 hB2=> ?_⟩
      rw[if_pos rfl]at hB2⊢
      simp -implicitDefEqProofs only[h0,Int.toNat_natCast,List.length_map,hA0,hS0,hA1,hA2,hS1,hS2,hA,ZAl,w1,go_sem,↓reduceIte]
      refine⟨(putB w al_).1,true,⟨hB2,pb4⟩,?_⟩
      simp -implicitDefEqProofs only[h0,Int.toNat_natCast,List.length_map,hA0,hS0,hA1,hA2,hS1,hS2,hR6,ZSm6_eq,w1,go_sem,↓reduceIte]
      refine⟨(putB w al_).1,(putB w al_).1,⟨rfl,rfl,psh,psh,Nat.lt_of_le_of_lt pb4 (by decide)⟩,fun hn=>absurd rfl hn,fun _=> ?_⟩
      try simp -implicitDefEqProofs only[h0,Int.toNat_natCast,List.length_map,hA0,hS0,hA1,hA2,hS1,hS2,w1,go_sem,↓reduceIte]
      exact fin ((putB w al_).1) _ _ _ (.inr rfl) hB2 pb4 psh
     ·refine WL_in lp3_1.eq_1 ?_
      simp -implicitDefEqProofs only[c1,c3,g,w1,h0,Int.toNat_natCast,List.length_map,hA0,hS0,hA1,hA2,hS1,hS2,hRP,ZRp_eq,go_sem,↓reduceIte]
      refine⟨w,al_,⟨rfl,rfl,aok,aoks,hw⟩,?_⟩
      simp -implicitDefEqProofs only[h0,Int.toNat_natCast,List.length_map,hA0,hS0,hA1,hA2,hS1,hS2,hP,ZPb,go_sem,↓reduceIte]
      refine⟨w,true,al_,⟨hB,V.Wk.refl _,aok,aoks,hw⟩,fun G1 hB2=> ?_⟩
      rw[if_pos rfl]at hB2⊢
      simp -implicitDefEqProofs only[h0,Int.toNat_natCast,List.length_map,hA0,hS0,hA1,hA2,hS1,hS2,hA,ZAl,w1,go_sem,↓reduceIte]
      refine⟨(putB w al_).1,true,⟨hB2,pb4⟩,?_⟩
      simp -implicitDefEqProofs only[h0,Int.toNat_natCast,List.length_map,hA0,hS0,hA1,hA2,hS1,hS2,hR6,ZSm6_eq,w1,go_sem,↓reduceIte]
      refine⟨(putB w al_).1,(putB w al_).1,⟨rfl,rfl,psh,psh,Nat.lt_of_le_of_lt pb4 (by decide)⟩,fun hn=>absurd rfl hn,fun _=> ?_⟩
      try simp -implicitDefEqProofs only[h0,Int.toNat_natCast,List.length_map,hA0,hS0,hA1,hA2,hS1,hS2,w1,go_sem,↓reduceIte]
      exact fin ((putB w al_).1) _ _ _ (.inr rfl) hB2 pb4 psh
    by_cases d1:ado=1
    ·subst d1
     rcases h6 with rfl|rfl
     ·refine WL_in lp3_1.eq_1 ?_
      simp -implicitDefEqProofs only[c1,c3,g,w1,h0,Int.toNat_natCast,List.length_map,hA0,hS0,hA1,hA2,hS1,hS2,hT,ZTk,go_sem,↓reduceIte]
      refine⟨w,true,⟨hB,hw⟩,fun G1 hB2=> ?_⟩
      rw[etk]at hB2⊢
      rw[eat]
      dsimp only at hB2⊢
      simp -implicitDefEqProofs only[h0,Int.toNat_natCast,List.length_map,hA0,hS0,hA1,hA2,hS1,hS2,sm,sz,si,hS,ZMs_eq,go_sem,↓reduceIte]
      refine⟨.zero,.zero,⟨V.Wk.refl _,wk_msg (m:= .zero) wk_ce wk_ac wk_bl,zs,zs⟩,fun hn=>absurd rfl hn,fun _=> ?_⟩
      simp -implicitDefEqProofs only[h0,Int.toNat_natCast,List.length_map,hA0,hS0,hA1,hA2,hS1,hS2,hA,ZAl,w1,go_sem,↓reduceIte]
      refine⟨w,true,⟨hB2,hw⟩,?_⟩
      simp -implicitDefEqProofs only[h0,Int.toNat_natCast,List.length_map,hA0,hS0,hA1,hA2,hS1,hS2,hR6,ZSm6_eq,w1,go_sem,↓reduceIte]
      refine⟨w,w,⟨rfl,rfl,hs,hs,Nat.lt_of_le_of_lt hw (by decide)⟩,fun hn=>absurd rfl hn,fun _=> ?_⟩
      try simp -implicitDefEqProofs only[h0,Int.toNat_natCast,List.length_map,hA0,hS0,hA1,hA2,hS1,hS2,w1,go_sem,↓reduceIte]
      exact fin (w) _ _ _ (.inl rfl) hB2 hw hs
     ·refine WL_in lp3_1.eq_1 ?_
      simp -implicitDefEqProofs only[c1,c3,g,w1,h0,Int.toNat_natCast,List.length_map,hA0,hS0,hA1,hA2,hS1,hS2,hT,ZTk,go_sem,↓reduceIte]
      refine⟨w,true,⟨hB,hw⟩,fun G1 hB2=> ?_⟩
      rw[etk]at hB2⊢
      rw[eat]
      dsimp only at hB2⊢
      simp -implicitDefEqProofs only[h0,Int.toNat_natCast,List.length_map,hA0,hS0,hA1,hA2,hS1,hS2,sm,sz,si,hS,ZMs_eq,go_sem,↓reduceIte]
      refine⟨.zero,.zero,⟨V.Wk.refl _,wk_msg (m:= .zero) wk_ce wk_ac wk_bl,zs,zs⟩,fun hn=>absurd rfl hn,fun _=> ?_⟩
      simp -implicitDefEqProofs only[h0,Int.toNat_natCast,List.length_map,hA0,hS0,hA1,hA2,hS1,hS2,hA,ZAl,w1,go_sem,↓reduceIte]
      refine⟨w,true,⟨hB2,hw⟩,?_⟩
      simp -implicitDefEqProofs only[h0,Int.toNat_natCast,List.length_map,hA0,hS0,hA1,hA2,hS1,hS2,hR6,ZSm6_eq,w1,go_sem,↓reduceIte]
      refine⟨w,w,⟨rfl,rfl,hs,hs,Nat.lt_of_le_of_lt hw (by decide)⟩,fun hn=>absurd rfl hn,fun _=> ?_⟩
      try simp -implicitDefEqProofs only[h0,Int.toNat_natCast,List.length_map,hA0,hS0,hA1,hA2,hS1,hS2,w1,go_sem,↓reduceIte]
      exact fin (w) _ _ _ (.inr rfl) hB2 hw hs
    by_cases d2:ado=2
    ·subst d2
     rcases h6 with rfl|rfl
     ·refine WL_in lp3_1.eq_1 ?_
      simp -implicitDefEqProofs only[c1,c3,g,w1,h0,Int.toNat_natCast,List.length_map,hA0,hS0,hA1,hA2,hS1,hS2,sm,sz,si,hC,ZCy6,go_sem,↓reduceIte]
      refine⟨w,true,⟨hB,hw⟩,fun G1 hB2=> ?_⟩
      rw[eb]at hB2
      refine⟨fun hn=>absurd ec hn,fun _=> ?_⟩
      simp -implicitDefEqProofs only[h0,Int.toNat_natCast,List.length_map,hA0,hS0,hA1,hA2,hS1,hS2,hA,ZAl,w1,go_sem,↓reduceIte]
      refine⟨w,true,⟨hB2,hw⟩,?_⟩
      simp -implicitDefEqProofs only[h0,Int.toNat_natCast,List.length_map,hA0,hS0,hA1,hA2,hS1,hS2,hR6,ZSm6_eq,w1,go_sem,↓reduceIte]
      refine⟨w,w,⟨rfl,rfl,hs,hs,Nat.lt_of_le_of_lt hw (by decide)⟩,fun hn=>absurd rfl hn,fun _=> ?_⟩
      try simp -implicitDefEqProofs only[h0,Int.toNat_natCast,List.length_map,hA0,hS0,hA1,hA2,hS1,hS2,w1,go_sem,↓reduceIte]
      exact fin (w) _ _ _ (.inl rfl) hB2 hw hs
     ·refine WL_in lp3_1.eq_1 ?_
      simp -implicitDefEqProofs only[c1,c3,g,w1,h0,Int.toNat_natCast,List.length_map,hA0,hS0,hA1,hA2,hS1,hS2,sm,sz,si,hC,ZCy6,go_sem,↓reduceIte]
      refine⟨w,true,⟨hB,hw⟩,fun G1 hB2=> ?_⟩
      rw[eb]at hB2
      refine⟨fun hn=>absurd ec hn,fun _=> ?_⟩
      simp -implicitDefEqProofs only[h0,Int.toNat_natCast,List.length_map,hA0,hS0,hA1,hA2,hS1,hS2,hA,ZAl,w1,go_sem,↓reduceIte]
      refine⟨w,true,⟨hB2,hw⟩,?_⟩
      simp -implicitDefEqProofs only[h0,Int.toNat_natCast,List.length_map,hA0,hS0,hA1,hA2,hS1,hS2,hR6,ZSm6_eq,w1,go_sem,↓reduceIte]
      refine⟨w,w,⟨rfl,rfl,hs,hs,Nat.lt_of_le_of_lt hw (by decide)⟩,fun hn=>absurd rfl hn,fun _=> ?_⟩
      try simp -implicitDefEqProofs only[h0,Int.toNat_natCast,List.length_map,hA0,hS0,hA1,hA2,hS1,hS2,w1,go_sem,↓reduceIte]
      exact fin (w) _ _ _ (.inr rfl) hB2 hw hs
    rcases h6 with rfl|rfl
    ·refine WL_in lp3_1.eq_1 ?_
     simp -implicitDefEqProofs only[c1,c3,g,w1,d0,d1,d2,h0,Int.toNat_natCast,List.length_map,hA0,hS0,hA1,hA2,hS1,hS2,hD,ZDp,go_sem,↓reduceIte]
     refine⟨w,true,⟨hB,hw⟩,fun G1 hB2=> ?_⟩
     rw[etk]at hB2
     rw[eat]
     dsimp only at hB2
     simp -implicitDefEqProofs only[h0,Int.toNat_natCast,List.length_map,hA0,hS0,hA1,hA2,hS1,hS2,hA,ZAl,w1,go_sem,↓reduceIte]
     refine⟨w,true,⟨hB2,hw⟩,?_⟩
     simp -implicitDefEqProofs only[h0,Int.toNat_natCast,List.length_map,hA0,hS0,hA1,hA2,hS1,hS2,hR6,ZSm6_eq,w1,go_sem,↓reduceIte]
     refine⟨w,w,⟨rfl,rfl,hs,hs,Nat.lt_of_le_of_lt hw (by decide)⟩,fun hn=>absurd rfl hn,fun _=> ?_⟩
     try simp -implicitDefEqProofs only[h0,Int.toNat_natCast,List.length_map,hA0,hS0,hA1,hA2,hS1,hS2,w1,go_sem,↓reduceIte]
     exact fin (w) _ _ _ (.inl rfl) hB2 hw hs
    ·refine WL_in lp3_1.eq_1 ?_
     simp -implicitDefEqProofs only[c1,c3,g,w1,d0,d1,d2,h0,Int.toNat_natCast,List.length_map,hA0,hS0,hA1,hA2,hS1,hS2,hD,ZDp,go_sem,↓reduceIte]
     refine⟨w,true,⟨hB,hw⟩,fun G1 hB2=> ?_⟩
     rw[etk]at hB2
     rw[eat]
     dsimp only at hB2
     simp -implicitDefEqProofs only[h0,Int.toNat_natCast,List.length_map,hA0,hS0,hA1,hA2,hS1,hS2,hA,ZAl,w1,go_sem,↓reduceIte]
     refine⟨w,true,⟨hB2,hw⟩,?_⟩
     simp -implicitDefEqProofs only[h0,Int.toNat_natCast,List.length_map,hA0,hS0,hA1,hA2,hS1,hS2,hR6,ZSm6_eq,w1,go_sem,↓reduceIte]
     refine⟨w,w,⟨rfl,rfl,hs,hs,Nat.lt_of_le_of_lt hw (by decide)⟩,fun hn=>absurd rfl hn,fun _=> ?_⟩
     try simp -implicitDefEqProofs only[h0,Int.toNat_natCast,List.length_map,hA0,hS0,hA1,hA2,hS1,hS2,w1,go_sem,↓reduceIte]
     exact fin (w) _ _ _ (.inr rfl) hB2 hw hs
end Go.Proofs.Ytjbglbhcbenhpaa.Sha
