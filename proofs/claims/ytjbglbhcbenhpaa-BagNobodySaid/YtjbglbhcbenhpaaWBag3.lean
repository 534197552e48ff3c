/- Bags: taken, copied. -/
import Derived.Test.YtjbglbhcbenhpaaWBag2
namespace Go.Proofs.Ytjbglbhcbenhpaa.Sha
open Go Go.Abs Go.Abs.Sha Go.Abs.Srt
set_option linter.unusedSimpArgs false
set_option linter.unusedVariables false
set_option maxRecDepth 100000
def pf14:PF:=
 PF.mk 2 8 34 ((PC.reg [nn (.v 4) (.alloc (.agg [.int .i64 0,.int .i64 0,.int .i64 0,.agg [.int .i64 0,.int .i64 0,.int .i64 0,.int .i64 0,.arr
  .u8 32 zz2,.int .i64 0,.arr .u8 32 [0,0,0,0,0,0,
  0,0,0,0,0,0,0,0,0,0,0,0,0,0,0,0,0,0,0,0,0,0,0,0,0,0],.arr .u8 32 [0,0,0,0,0,0,0,0,0,0,0,0,0,0,0,0,0,0,0,
  0,0,0,0,0,0,0,0,0,0,0,0,0]],.agg [.agg [.int .i64 0,.int .i64 0,.int .i64 0,.int .i64 0,.arr .u8 32 [0,0,0,0,0,0,0,0,0,0,
  0,0,0,0,0,0,0,0,0,0,0,0,0,0,0,0,0,0,0,0,0,0],.int .i64 0,.arr .u8 32 [0,0,0,0,0,0,0,0,0,0,0,0,0,0,0,0,0,0,0,
  0,0,0,0,0,0,0,0,0,0,0,0,0],.arr .u8 32 [0,0,0,0,0,0,0,0,0,0,0,0,0,0,0,0,0,0,0,0,0,0,0,0,0,0,0,0,0,0,0,
  0]],.nils],.agg [.int .i64 0,.int .i64 0,.int .i64 0,.arr .u8 32 [0,0,0,0,0,0,0,0,0,0,0,0,0,0,0,0,0,0,0,0,0,0,0,0,0,0,
  0,0,0,0,0,0],.nils,.arr .u8 32 zz2],.agg [.arr
  .u8 32 zz2,.int .i64 0,.int .i64 0,.int .i64 0,
  .nils],.arr .u8 32 zz2,.agg [.int .i64 0,.int .i64 0,
  .int .i64 0,.int .i64 0,.int .i64 0,.str ⟨⟨[]⟩⟩,.str ⟨⟨[]⟩⟩]])),nn (.v 5) (.mv true (.c (.v (.int .i64 0))))]).seq (((PC.reg [mm 8 0,mm 9 1,nn
  (.t 10) (.call 44 [.t 8,.t 9]),ma 6 10]).seq ((PC.reg [mm 11 6,nn (.t 12) (.bin .neq (.t 11) (.c (.v (.int .i64 0))))]).seq (PC.cond (.t 12)
  ((PC.reg [nn (.t 13) (.build (.agg [.int .i64 0,.int .i64 0,.int .i64 0,.agg [.int .i64 0,.int .i64 0,.int .i64 0,.int .i64 0,.arr .u8 32 [0,
  0,0,0,0,0,0,0,0,0,0,0,0,0,0,0,0,0,0,0,0,0,0,0,0,0,0,0,0,0,0,0],.int .i64 0,.arr .u8 32 [0,0,0,0,0,0,0,0,0,0,
  0,0,0,0,0,0,0,0,0,0,0,0,0,0,0,0,0,0,0,0,0,0],.arr .u8 32 [0,0,0,0,0,0,0,0,0,0,0,0,0,0,0,0,0,0,0,0,0,0,0,
  0,0,0,0,0,0,0,0,0]],.agg [.agg [.int .i64 0,.int .i64 0,.int .i64 0,.int .i64 0,.arr .u8 32 [0,0,0,0,0,0,0,0,0,0,0,0,0,0,
  0,0,0,0,0,0,0,0,0,0,0,0,0,0,0,0,0,0],.int .i64 0,.arr .u8 32 [0,0,0,0,0,0,0,0,0,0,0,0,0,0,0,0,0,0,0,0,0,0,0,
  0,0,0,0,0,0,0,0,0],.arr .u8 32 zz2],.nils],
  .agg [.int .i64 0,.int .i64 0,.int .i64 0,.arr .u8 32 [0,0,0,0,0,0,0,0,0,0,0,0,0,0,0,0,0,0,0,0,0,0,0,0,0,0,0,0,0,0,
  0,0],.nils,.arr .u8 32 zz2],.agg [.arr .u8 32 [0,0,
  0,0,0,0,0,0,0,0,0,0,0,0,0,0,0,0,0,0,0,0,0,0,0,0,0,0,0,0,0,0],.int .i64 0,.int .i64 0,.int .i64 0,.nils],.arr .u8 32
  zz2,.agg [.int .i64 0,.int .i64 0,.int .i64 0,.int
  .i64 0,.int .i64 0,.str ⟨⟨[]⟩⟩,.str ⟨⟨[]⟩⟩]]) []),mm 14 6,nn .no (.store 349 (.v 4) (.t 13)),ma 5 14]).seq PC.ret) PC.skip))).seq ((PC.reg [mm
  15 0,nn (.t 16) (.nilc (.t 15)),nn (.t 17) (.fadr 0 0 (.t 16)),nn (.t 18) (.load 1 false (.t 17)),mm 19 1,nn (.t 20) (.iadrS 349 (.t 18) (.t
  19)),nn (.t 21) (.load 349 true (.t 20)),nn (.v 7) (.alloc (.agg [.int .i64 0,.int .i64 0,.int .i64 0,.agg [.int .i64 0,.int .i64 0,.int .i64
  0,.int .i64 0,.arr .u8 32 zz2,.int .i64 0,.arr .u8
  32 zz2,.arr .u8 32 [0,0,0,0,0,0,0,0,0,0,0,0,
  0,0,0,0,0,0,0,0,0,0,0,0,0,0,0,0,0,0,0,0]],.agg [.agg [.int .i64 0,.int .i64 0,.int .i64 0,.int .i64 0,.arr .u8 32 [0,0,0,
  0,0,0,0,0,0,0,0,0,0,0,0,0,0,0,0,0,0,0,0,0,0,0,0,0,0,0,0,0],.int .i64 0,.arr .u8 32 [0,0,0,0,0,0,0,0,0,0,0,0,
  0,0,0,0,0,0,0,0,0,0,0,0,0,0,0,0,0,0,0,0],.arr .u8 32 [0,0,0,0,0,0,0,0,0,0,0,0,0,0,0,0,0,0,0,0,0,0,0,0,0,
  0,0,0,0,0,0,0]],.nils],.agg [.int .i64 0,.int .i64 0,.int .i64 0,.arr .u8 32 [0,0,0,0,0,0,0,0,0,0,0,0,0,0,0,0,0,0,0,0,
  0,0,0,0,0,0,0,0,0,0,0,0],.nils,.arr .u8 32 [0,0,0,0,0,0,0,0,0,0,0,0,0,0,0,0,0,0,0,0,0,0,0,0,0,0,0,0,0,0,0,
  0]],.agg [.arr .u8 32 zz2,.int .i64 0,.int .i64 0,
  .int .i64 0,.nils],.arr .u8 32 zz2,.agg [.int .i64 0,
  .int .i64 0,.int .i64 0,.int .i64 0,.int .i64 0,.str ⟨⟨[]⟩⟩,.str ⟨⟨[]⟩⟩]])),nn .no (.store 349 (.v 7) (.t 21))]).seq ((PC.reg [mm 22 0,mm 23
  0,nn (.t 24) (.nilc (.t 23)),nn (.t 25) (.fadr 0 0 (.t 24)),nn (.t 26) (.load 1 false (.t 25)),mm 27 1,mm 28 1,nn (.t 29) (.bin .add (.t 28)
  (.c (.v (.int .i64 1)))),nn (.t 30) (.call 45 [.t 26,.t 27,.t 29]),nn (.t 31) (.nilc (.t 22)),nn (.t 32) (.fadr 0 0 (.t 31)),nn .no (.store 1
  (.t 32) (.t 30))]).seq ((PC.reg [nn (.t 33) (.load 349 true (.v 7)),nn .no (.store 349 (.v 4) (.t 33)),nn (.v 5) (.mv true (.c (.v (.int .i64
  0))))]).seq PC.ret))))) [(.v 4,some (349,true)),(.v 5,none)]
def pf17:PF:=
 PF.mk 2 6 36 ((PC.reg [nn (.v 4) (.mv true (.c (.v (.int .i64 0))))]).seq (((PC.reg [mm 6 0,mm 7 1,nn (.t 8) (.call 44 [.t 6,.t 7]),ma 5 8]).seq
  (PC.block 0 ((PC.reg [mm 10 5,nn (.t 11) (.bin .neq (.t 10) (.c (.v (.int .i64 0)))),nn (.t 9) (.mv true (.t 11))]).seq (PC.cond (.t 9) ((PC.reg
  [nn (.t 12) (.mv true (.v 5)),ma 4 12]).seq PC.ret) ((PC.reg [mm 14 0,nn (.t 15) (.nilc (.t 14)),nn (.t 16) (.fadr 0 0 (.t 15)),nn (.t 17) (.load
  1 false (.t 16)),nn (.t 18) (.len (.t 17)),nn (.t 19) (.bin .eql (.t 18) (.c (.v (.int .i64 400)))),nn (.t 13) (.mv true (.t 19))]).seq (PC.cond
  (.t 13) ((PC.reg [nn (.v 4) (.mv true (.c (.v (.int .i64 4))))]).seq PC.ret) PC.skip)))))).seq ((PC.regW 0 [(0,mm 20 0),(1,mm 21 0),(2,nn (.t
  22) (.nilc (.t 21))),(3,nn (.t 23) (.fadr 0 0 (.t 22))),(4,nn (.t 24) (.load 1 false (.t 23))),(5,mm 25 0),(6,nn (.t 26) (.nilc (.t 25))),
  (7,nn (.t 27) (.fadr 0 0 (.t 26))),(8,nn (.t 28) (.load 1 false (.t 27))),(9,mm 29 1),(10,nn (.t 30) (.iadrS 349 (.t 28) (.t 29))),(11,nn
  (.t 31) (.load 349 true (.t 30))),(12,nn (.t 32) (.buildS none 349 (.agg [.int .i64 0,.int .i64 0,.int .i64 0,.agg [.int .i64 0,.int .i64 0,
  .int .i64 0,.int .i64 0,.arr .u8 32 zz2,.int .i64 0,
  .arr .u8 32 zz2,.arr .u8 32 [0,0,0,0,0,0,0,0,0,
  0,0,0,0,0,0,0,0,0,0,0,0,0,0,0,0,0,0,0,0,0,0,0]],.agg [.agg [.int .i64 0,.int .i64 0,.int .i64 0,.int .i64 0,.arr .u8 32
  zz2,.int .i64 0,.arr .u8 32 [0,0,0,0,0,0,0,0,
  0,0,0,0,0,0,0,0,0,0,0,0,0,0,0,0,0,0,0,0,0,0,0,0],.arr .u8 32 [0,0,0,0,0,0,0,0,0,0,0,0,0,0,0,0,0,0,0,0,0,
  0,0,0,0,0,0,0,0,0,0,0]],.nils],.agg [.int .i64 0,.int .i64 0,.int .i64 0,.arr .u8 32 [0,0,0,0,0,0,0,0,0,0,0,0,0,0,0,0,
  0,0,0,0,0,0,0,0,0,0,0,0,0,0,0,0],.nils,.arr .u8 32 [0,0,0,0,0,0,0,0,0,0,0,0,0,0,0,0,0,0,0,0,0,0,0,0,0,0,0,
  0,0,0,0,0]],.agg [.arr .u8 32 zz2,.int .i64 0,
  .int .i64 0,.int .i64 0,.nils],.arr .u8 32 zz2,.agg
  [.int .i64 0,.int .i64 0,.int .i64 0,.int .i64 0,.int .i64 0,.str ⟨⟨[]⟩⟩,.str ⟨⟨[]⟩⟩]]) 1 [(0,.t 31)])),(13,nn (.t 33) (.appR 349 616 (.agg
  [.int .i64 0,.int .i64 0,.int .i64 0,.agg [.int .i64 0,.int .i64 0,.int .i64 0,.int .i64 0,.arr .u8 32 [0,0,0,0,0,0,0,0,0,0,0,0,0,
  0,0,0,0,0,0,0,0,0,0,0,0,0,0,0,0,0,0,0],.int .i64 0,.arr .u8 32 [0,0,0,0,0,0,0,0,0,0,0,0,0,0,0,0,0,0,0,0,0,0,
  0,0,0,0,0,0,0,0,0,0],.arr .u8 32 zz2],.agg
  [.agg [.int .i64 0,.int .i64 0,.int .i64 0,.int .i64 0,.arr .u8 32 [0,0,0,0,0,0,0,0,0,0,0,0,0,0,0,0,0,0,0,0,0,0,0,0,0,0,
  0,0,0,0,0,0],.int .i64 0,.arr .u8 32 zz2,.arr
  .u8 32 zz2],.nils],.agg [.int .i64 0,.int .i64 0,
  .int .i64 0,.arr .u8 32 zz2,.nils,.arr .u8 32 [0,0,
  0,0,0,0,0,0,0,0,0,0,0,0,0,0,0,0,0,0,0,0,0,0,0,0,0,0,0,0,0,0]],.agg [.arr .u8 32 [0,0,0,0,0,0,0,0,0,0,0,0,0,
  0,0,0,0,0,0,0,0,0,0,0,0,0,0,0,0,0,0,0],.int .i64 0,.int .i64 0,.int .i64 0,.nils],.arr .u8 32 [0,0,0,0,0,0,0,0,0,0,
  0,0,0,0,0,0,0,0,0,0,0,0,0,0,0,0,0,0,0,0,0,0],.agg [.int .i64 0,.int .i64 0,.int .i64 0,.int .i64 0,.int .i64 0,.str
  ⟨⟨[]⟩⟩,.str ⟨⟨[]⟩⟩]]) (.t 24) (.t 32))),(14,nn (.t 34) (.nilc (.t 20))),(15,nn (.t 35) (.fadr 0 0 (.t 34))),(16,nn .no (.store 1 (.t 35) (.t
  33)))] []).seq ((PC.reg [nn (.v 4) (.mv true (.c (.v (.int .i64 0))))]).seq PC.ret)))) [(.v 4,none)]
def pf18:PF:=
 PF.mk 2 7 14 ((PC.reg [nn (.v 4) (.mv true (.c (.v (.int .i64 0))))]).seq ((PC.reg [mm 8 0,mm 9 1,nn (.t 10) (.call 14 [.t 8,.t 9]),nn (.t 7) (.mv
  false (.t 10)),nn (.t 11) (.ext (.t 7) 0),nn (.t 12) (.ext (.t 7) 1),nn (.v 5) (.alloc (.agg [.int .i64 0,.int .i64 0,.int .i64 0,.agg [.int
  .i64 0,.int .i64 0,.int .i64 0,.int .i64 0,.arr .u8 32 [0,0,0,0,0,0,0,0,0,0,0,0,0,0,0,0,0,0,0,0,0,0,0,0,0,0,0,0,0,0,
  0,0],.int .i64 0,.arr .u8 32 zz2,.arr .u8 32 [0,0,
  0,0,0,0,0,0,0,0,0,0,0,0,0,0,0,0,0,0,0,0,0,0,0,0,0,0,0,0,0,0]],.agg [.agg [.int .i64 0,.int .i64 0,.int .i64 0,.int
  .i64 0,.arr .u8 32 zz2,.int .i64 0,.arr .u8 32 [0,0,
  0,0,0,0,0,0,0,0,0,0,0,0,0,0,0,0,0,0,0,0,0,0,0,0,0,0,0,0,0,0],.arr .u8 32 [0,0,0,0,0,0,0,0,0,0,0,0,0,0,0,
  0,0,0,0,0,0,0,0,0,0,0,0,0,0,0,0,0]],.nils],.agg [.int .i64 0,.int .i64 0,.int .i64 0,.arr .u8 32 [0,0,0,0,0,0,0,0,0,0,
  0,0,0,0,0,0,0,0,0,0,0,0,0,0,0,0,0,0,0,0,0,0],.nils,.arr .u8 32 [0,0,0,0,0,0,0,0,0,0,0,0,0,0,0,0,0,0,0,0,0,
  0,0,0,0,0,0,0,0,0,0,0]],.agg [.arr .u8 32 [0,0,0,0,0,0,0,0,0,0,0,0,0,0,0,0,0,0,0,0,0,0,0,0,0,0,0,0,0,0,0,
  0],.int .i64 0,.int .i64 0,.int .i64 0,.nils],.arr .u8 32 [0,0,0,0,0,0,0,0,0,0,0,0,0,0,0,0,0,0,0,0,0,0,0,0,0,0,0,0,
  0,0,0,0],.agg [.int .i64 0,.int .i64 0,.int .i64 0,.int .i64 0,.int .i64 0,.str ⟨⟨[]⟩⟩,.str ⟨⟨[]⟩⟩]])),nn .no (.store 349 (.v 5) (.t 11)),
  ma 6 12]).seq ((PC.reg [nn (.t 13) (.mv true (.v 6)),ma 4 13]).seq PC.ret))) [(.v 4,none)]
def pf20:PF:=
 PF.mk 1 3 10 ((PC.reg [nn (.v 2) (.mv true (.c (.own .nils)))]).seq (((PC.reg [mm 3 0,nn (.t 4) (.binP .eql (.t 3) (.c (.v .nilp)))]).seq (PC.cond (.t
  4) ((PC.reg [nn (.v 2) (.mv true (.c (.own .nils)))]).seq PC.ret) PC.skip)).seq ((PC.reg [mm 5 0,nn (.t 6) (.nilc (.t 5)),nn (.t 7) (.fadr 0 0 (.t
  6)),nn (.t 8) (.load 1 false (.t 7)),nn (.t 9) (.call 49 [.t 8]),ma 2 9]).seq PC.ret))) [(.v 2,none)]
def lp21_0:PC:=
 (PC.reg [nn (.t 12) (.bin .lss (.v 11) (.v 10))]).seq ((PC.cond (.t 12) PC.skip (PC.exit 0)).seq ((PC.block 1 ((PC.reg [mm 13 11,nn (.t 14) (.iadrS
  349 (.v 9) (.v 11)),nn (.t 15) (.load 349 true (.t 14)),nn (.v 7) (.alloc (.agg [.int .i64 0,.int .i64 0,.int .i64 0,.agg [.int .i64 0,.int
  .i64 0,.int .i64 0,.int .i64 0,.arr .u8 32 zz2,.int
  .i64 0,.arr .u8 32 zz2,.arr .u8 32 [0,0,0,0,0,0,
  0,0,0,0,0,0,0,0,0,0,0,0,0,0,0,0,0,0,0,0,0,0,0,0,0,0]],.agg [.agg [.int .i64 0,.int .i64 0,.int .i64 0,.int .i64 0,.arr
  .u8 32 zz2,.int .i64 0,.arr .u8 32 [0,0,0,0,0,0,
  0,0,0,0,0,0,0,0,0,0,0,0,0,0,0,0,0,0,0,0,0,0,0,0,0,0],.arr .u8 32 [0,0,0,0,0,0,0,0,0,0,0,0,0,0,0,0,0,0,0,
  0,0,0,0,0,0,0,0,0,0,0,0,0]],.nils],.agg [.int .i64 0,.int .i64 0,.int .i64 0,.arr .u8 32 [0,0,0,0,0,0,0,0,0,0,0,0,0,0,
  0,0,0,0,0,0,0,0,0,0,0,0,0,0,0,0,0,0],.nils,.arr .u8 32 [0,0,0,0,0,0,0,0,0,0,0,0,0,0,0,0,0,0,0,0,0,0,0,0,0,
  0,0,0,0,0,0,0]],.agg [.arr .u8 32 zz2,.int .i64
  0,.int .i64 0,.int .i64 0,.nils],.arr .u8 32 zz2,
  .agg [.int .i64 0,.int .i64 0,.int .i64 0,.int .i64 0,.int .i64 0,.str ⟨⟨[]⟩⟩,.str ⟨⟨[]⟩⟩]])),ma 6 13,nn .no (.store 349 (.v 7) (.t
  15))]).seq ((PC.reg [nn (.t 16) (.fadr 2 2 (.v 7)),nn (.t 17) (.load 1 false (.t 16)),mm 18 1,nn (.t 19) (.bin .eql (.t 17) (.t 18))]).seq
  (PC.cond (.t 19) (PC.reg [nn (.t 20) (.mv true (.v 5)),mm 21 6,nn (.t 22) (.buildS (some .i64) 1 (.int .i64 0) 1 [(0,.t 21)]),nn (.t 23) (.app
  (some .i64) 1 8 (.t 20) (.t 22)),ma 5 23]) PC.skip)))).seq (PC.reg [nn (.t 24) (.bin .add (.v 11) (.c (.v (.int .i64 1)))),nn (.v 11) (.mv false
  (.t 24))])))
def pf21:PF:=
 PF.mk 2 12 26 ((PC.reg [nn (.v 4) (.mv true (.c (.own .nils)))]).seq ((PC.reg [nn (.v 5) (.mv true (.c (.own .nils)))]).seq (((PC.reg [nn (.v 8) (.mv
  false (.v 0)),nn (.v 9) (.call 20 [.v 8]),nn (.v 10) (.len (.v 9)),nn (.v 11) (.mv false (.c (.v (.int .i64 0))))]).seq (PC.block 0 (PC.loop [1,
  5,9,10,11] lp21_0))).seq ((PC.reg [nn (.t 25) (.mv true (.v 5)),ma 4 25]).seq PC.ret)))) [(.v 4,none)]
attribute [local irreducible] W Wops WopsD WL Wop WopD
variable {E:Env} {C:Abs.Spec} {l:List (Nat×Spec1)} {G:List (Nat×V)} {Q:R→List (Nat×V)→Prop}
set_option maxHeartbeats 1000000
def takeB (l:List MsgS) (b:Bool) (i:Int):MsgS×List MsgS:=if atE l b i=0 then (l.getD i.toNat .zero,l.eraseIdx i.toNat)else (.zero,l)
def ZTk:Spec1
 |[.nilp,.int .i64 i],G,Q=>Q (.tup [MsgS.zero.v,.int .i64 5]) G
 |[.ptr id,.int .i64 i],G,Q=>∃l b,(BagAt G id l b∧l.length≤400)∧∀G',BagAt G' id (takeB l b i).2 b→Q (.tup [(takeB l b i).1.v,.int .i64 (atE l b i)]) G'
 |_,_,_=>False
theorem atE_ok {l:List MsgS} {b:Bool} {i:Int} (h:atE l b i=0):b=true∧0≤i∧i < l.length:=by
 unfold atE at h
 cases b with
 |false=>rw[if_pos rfl]at h;cases h
 |true=>
  rw[if_neg (by decide)]at h
  split at h
  ·cases h
  ·rename_i h2;exact⟨rfl,by omega,by omega⟩
theorem low_tup {x e:V} {m:MsgS} {G':List (Nat×V)} (h:V.Wk x m.v):Low G (.tup [x,e]) G' (.tup [m.v,e]) G':=
 .wk (by unfold R.Wk;exact⟨_,rfl,wkL_cons h (wkL_cons (V.Wk.refl _) wkL_nil)⟩) (WkG.refl _) (.refl _ _)
theorem walk14n {i:Int} (hA:Abs.look l 44=some ZAt) (h:Q (.tup [MsgS.zero.v,.int .i64 5]) G):Wf E (specOf l) pf14 [.nilp,.int .i64 i] G (fun r G'=>∃r2 G2,Low G r G' r2 G2∧Q r2 G2):=by
 simp -implicitDefEqProofs only[pf14,hA,ZAt,go_sem,↓reduceIte]
 exact⟨_,_,low_tup (m:= .zero) (wk_msg (m:= .zero) wk_ce wk_ac wk_bl),h⟩
theorem walk14 {id:Nat} {i:Int} {l2:List MsgS} {b:Bool} (hA:Abs.look l 44=some ZAt) (hD:Abs.look l 45=some ZDe) (hB:BagAt G id l2 b) (hl:l2.length≤400)
  (h:∀G',BagAt G' id (takeB l2 b i).2 b→Q (.tup [(takeB l2 b i).1.v,.int .i64 (atE l2 b i)]) G'):Wf E (specOf l) pf14 [.ptr id,.int .i64 i] G (fun r G'=>∃r2 G2,Low G r G' r2 G2∧Q r2 G2):=by
 have hB0:=hB
 obtain⟨x,hR⟩:=hB
 have h1:Abs.look G id=some (.agg [x,.bool b]):=hR.1 id _ (by rw[look_cons,if_pos rfl])
 have h2:=hR.lenI
 rw[List.length_map]at h2
 obtain⟨h3,h4⟩:=hR.one
 unfold V.isAgg at h4
 by_cases e:atE l2 b i=0
 ·obtain⟨rfl,i1,i2⟩:=atE_ok e
  have et:takeB l2 true i=(l2.getD i.toNat .zero,l2.eraseIdx i.toNat):=by unfold takeB;rw[if_pos e]
  rw[et,e]at h
  obtain⟨k,rfl⟩:∃k:Nat,i=k:=⟨i.toNat,by omega⟩
  rw[Int.toNat_natCast]at h
  obtain⟨he,⟨rfl,h0⟩|⟨rid,c,L,rfl,r1,r2,r3,r4,r5,r6⟩⟩:=hR
  ·rw[List.map_eq_nil_iff.1 h0]at i2;simp at i2;omega
  rw[List.length_map]at r3 r5 he r1
  have hk:k < l2.length:=by omega
  have gk:L[((k:Nat):Int).toNat]? =some (l2.getD k .zero).v:=by
   rw[Int.toNat_natCast]
   have:(L.take l2.length)[k]? =(l2.map MsgS.v)[k]? :=by rw[r5]
   rw[List.getElem?_take,if_pos hk,List.getElem?_map]at this
   rw[List.getD_eq_getElem?_getD,this]
   rw[List.getElem?_eq_getElem hk];rfl
  have wk1:IntKind.i64.wrap ((k:Int)+1)=((k+1:Nat):Int):=wc (by omega) (by omega)
  generalize l2.getD k .zero=p at gk h
  obtain⟨z1,z2⟩:=MsgS.vs p
  unfold V.isAgg at z2
  have sm:V.same p.v (.agg [.int .i64 0,.int .i64 0,.int .i64 0,.agg [.int .i64 0,.int .i64 0,.int .i64 0,.int .i64 0,.arr .u8 32 zz2,.int .i64 0,.arr .u8 32 zz2,.arr .u8 32 zz2],.agg [.agg [.int .i64 0,.int .i64 0,.int .i64 0,.int .i64 0,.arr .u8 32 zz2,.int .i64 0,.arr .u8 32 zz2,.arr .u8 32 zz2],.nils],.agg [.int .i64 0,.int .i64 0,.int .i64 0,.arr .u8 32 zz2,.nils,.arr .u8 32 zz2],.agg [.arr .u8 32 zz2,.int .i64 0,.int .i64 0,.int .i64 0,.nils],.arr .u8 32 zz2,.agg [.int .i64 0,.int .i64 0,.int .i64 0,.int .i64 0,.int .i64 0,.str ⟨⟨[]⟩⟩,.str ⟨⟨[]⟩⟩]])=true:=rfl
  have hall:(L.all fun x=>x.size==349)=true:=List.all_eq_true.2 fun y hy=>by rw[(r6 y hy).1];rfl
  simp -implicitDefEqProofs only[pf14,hA,ZAt,go_sem,↓reduceIte]
  refine⟨l2,true,hB0,?_⟩
  simp -implicitDefEqProofs only[e,h1,h3,h4,r2,List.length_map,hall,gk,z1,z2,sm,wk1,hD,ZDe,go_sem,↓reduceIte]
  refine⟨⟨⟨by omega,by omega⟩,by omega,fun y hy=>(r6 y hy).1⟩,[(id,.agg [.sob rid 349 0 l2.length c,.bool true])],l2,k,⟨⟨he,.inr ⟨rid,c,L,by rw[List.length_map],r1,r2,by rw[List.length_map];exact r3,r4,by rw[List.length_map];exact r5,r6⟩⟩,rfl,rfl,hk,by omega⟩,fun x' G' hR'=> ?_⟩
  obtain⟨q1,q2⟩:=hR'.one
  unfold V.isAgg at q2
  have h1':Abs.look G' id=some (.agg [.sob rid 349 0 l2.length c,.bool true]):=hR'.1 id _ (by rw[look_cons,if_pos rfl])
  have hup:=hR'.upd (id:=id) (u:= .agg [.sob rid 349 0 l2.length c,.bool true]) (y:= .agg [x',.bool true]) (by rw[look_cons,if_pos rfl])
  have e9:Abs.upd [(id,V.agg [.sob rid 349 0 l2.length c,.bool true])] id (.agg [x',.bool true])=[(id,V.agg [x',.bool true])]:=by simp[Abs.upd]
  rw[e9]at hup
  have yl:V.same x' (.sob rid 349 0 l2.length c)=true:=by
   obtain⟨_,⟨rfl,_⟩|⟨_,_,_,rfl,_⟩⟩:=hR'<;>rfl
  simp -implicitDefEqProofs only[h1',q1,q2,yl,z1,z2,sm,go_sem,↓reduceIte]
  exact⟨_,_,.refl _ _,h _ ⟨x',hup⟩⟩
 ·have et:takeB l2 b i=(.zero,l2):=by unfold takeB;rw[if_neg e]
  rw[et]at h
  simp -implicitDefEqProofs only[pf14,hA,ZAt,go_sem,↓reduceIte]
  refine⟨l2,b,hB0,?_⟩
  simp -implicitDefEqProofs only[e,go_sem,↓reduceIte]
  exact⟨_,_,low_tup (m:= .zero) (wk_msg (m:= .zero) wk_ce wk_ac wk_bl),h G hB0⟩
theorem row_app_s {G0:List (Nat×V)} {rid c bytes:Nat} {L:List V} {l2:List MsgS} {p:MsgS} (h:Row G0 G 349 (.agg [.int .i64 0,.int .i64 0,.int .i64 0,.agg [.int .i64 0,.int .i64 0,.int .i64 0,.int .i64 0,.arr .u8 32 zz2,.int .i64 0,.arr .u8 32 zz2,.arr .u8 32 zz2],.agg [.agg [.int .i64 0,.int .i64 0,.int .i64 0,.int .i64 0,.arr .u8 32 zz2,.int .i64 0,.arr .u8 32 zz2,.arr .u8 32 zz2],.nils],.agg [.int .i64 0,.int .i64 0,.int .i64 0,.arr .u8 32 zz2,.nils,.arr .u8 32 zz2],.agg [.arr .u8 32 zz2,.int .i64 0,.int .i64 0,.int .i64 0,.nils],.arr .u8 32 zz2,.agg [.int .i64 0,.int .i64 0,.int .i64 0,.int .i64 0,.int .i64 0,.str ⟨⟨[]⟩⟩,.str ⟨⟨[]⟩⟩]]) (.sob rid 349 0 l2.length c) (l2.map MsgS.v)) (hL:Abs.look G rid=some (.agg L)) (hb:((l2.length+1:Nat):Int)*bytes≤140737488355328):
  (l2.length+1≤c→V.sameL (putL L l2.length [p.v]) L=true∧Row G0 (Abs.upd G rid (.agg (putL L l2.length [p.v]))) 349 (.agg [.int .i64 0,.int .i64 0,.int .i64 0,.agg [.int .i64 0,.int .i64 0,.int .i64 0,.int .i64 0,.arr .u8 32 zz2,.int .i64 0,.arr .u8 32 zz2,.arr .u8 32 zz2],.agg [.agg [.int .i64 0,.int .i64 0,.int .i64 0,.int .i64 0,.arr .u8 32 zz2,.int .i64 0,.arr .u8 32 zz2,.arr .u8 32 zz2],.nils],.agg [.int .i64 0,.int .i64 0,.int .i64 0,.arr .u8 32 zz2,.nils,.arr .u8 32 zz2],.agg [.arr .u8 32 zz2,.int .i64 0,.int .i64 0,.int .i64 0,.nils],.arr .u8 32 zz2,.agg [.int .i64 0,.int .i64 0,.int .i64 0,.int .i64 0,.int .i64 0,.str ⟨⟨[]⟩⟩,.str ⟨⟨[]⟩⟩]]) (.sob rid 349 0 (l2.length+1) c) ((l2++[p]).map MsgS.v))∧
  (∀id c',Abs.look G id=none→l2.length+1≤c'→Row G0 ((id,.agg ((l2.map MsgS.v++[p.v])++List.replicate (c'-(l2.length+1)) (.agg [.int .i64 0,.int .i64 0,.int .i64 0,.agg [.int .i64 0,.int .i64 0,.int .i64 0,.int .i64 0,.arr .u8 32 zz2,.int .i64 0,.arr .u8 32 zz2,.arr .u8 32 zz2],.agg [.agg [.int .i64 0,.int .i64 0,.int .i64 0,.int .i64 0,.arr .u8 32 zz2,.int .i64 0,.arr .u8 32 zz2,.arr .u8 32 zz2],.nils],.agg [.int .i64 0,.int .i64 0,.int .i64 0,.arr .u8 32 zz2,.nils,.arr .u8 32 zz2],.agg [.arr .u8 32 zz2,.int .i64 0,.int .i64 0,.int .i64 0,.nils],.arr .u8 32 zz2,.agg [.int .i64 0,.int .i64 0,.int .i64 0,.int .i64 0,.int .i64 0,.str ⟨⟨[]⟩⟩,.str ⟨⟨[]⟩⟩]])))::G) 349 (.agg [.int .i64 0,.int .i64 0,.int .i64 0,.agg [.int .i64 0,.int .i64 0,.int .i64 0,.int .i64 0,.arr .u8 32 zz2,.int .i64 0,.arr .u8 32 zz2,.arr .u8 32 zz2],.agg [.agg [.int .i64 0,.int .i64 0,.int .i64 0,.int .i64 0,.arr .u8 32 zz2,.int .i64 0,.arr .u8 32 zz2,.arr .u8 32 zz2],.nils],.agg [.int .i64 0,.int .i64 0,.int .i64 0,.arr .u8 32 zz2,.nils,.arr .u8 32 zz2],.agg [.arr .u8 32 zz2,.int .i64 0,.int .i64 0,.int .i64 0,.nils],.arr .u8 32 zz2,.agg [.int .i64 0,.int .i64 0,.int .i64 0,.int .i64 0,.int .i64 0,.str ⟨⟨[]⟩⟩,.str ⟨⟨[]⟩⟩]]) (.sob id 349 0 (l2.length+1) c') ((l2++[p]).map MsgS.v)):=by
 have key:=Row.app (bytes:=bytes) (K:=fun τ=>∃x',Abs.look τ.ts 0=some (.v x')∧Row G0 τ.G 349 (.agg [.int .i64 0,.int .i64 0,.int .i64 0,.agg [.int .i64 0,.int .i64 0,.int .i64 0,.int .i64 0,.arr .u8 32 zz2,.int .i64 0,.arr .u8 32 zz2,.arr .u8 32 zz2],.agg [.agg [.int .i64 0,.int .i64 0,.int .i64 0,.int .i64 0,.arr .u8 32 zz2,.int .i64 0,.arr .u8 32 zz2,.arr .u8 32 zz2],.nils],.agg [.int .i64 0,.int .i64 0,.int .i64 0,.arr .u8 32 zz2,.nils,.arr .u8 32 zz2],.agg [.arr .u8 32 zz2,.int .i64 0,.int .i64 0,.int .i64 0,.nils],.arr .u8 32 zz2,.agg [.int .i64 0,.int .i64 0,.int .i64 0,.int .i64 0,.int .i64 0,.str ⟨⟨[]⟩⟩,.str ⟨⟨[]⟩⟩]]) x' ((l2++[p]).map MsgS.v)) (σ:=⟨[],[],[],G⟩) (dst:= .t 0) (y:=p.v) h (by rw[List.length_map];exact hb) ⟨rfl,rfl⟩ rfl (fun u hu=>rw_map hu) (fun x' G' hr=>⟨x',rfl,by rw[List.map_append];exact hr⟩)
 rw[appRK_s]at key
 obtain⟨_,key⟩:=key
 have hL':Abs.look (St.G ⟨[],[],[],G⟩) rid=some (.agg L):=hL
 rw[hL']at key
 obtain⟨_,k1,k2⟩:=key
 refine⟨fun hc=> ?_,fun id c' h1 h2=> ?_⟩
 ·obtain⟨s1,x',s2,s3⟩:=k1 hc
  rw[Nat.zero_add]at s1 s3
  cases s2
  exact⟨s1,s3⟩
 ·have hlm:((l2++[p]).map MsgS.v).length=l2.length+1:=by simp
  have hem:(l2++[p]).map MsgS.v=l2.map MsgS.v++[p.v]:=by simp
  refine⟨Ext.cons' h.1 (h.1.none h1),.inr ⟨id,c',_,by rw[hlm],h.1.none h1,by rw[look_cons,if_pos rfl],by rw[hlm];exact h2,by simp;omega,by rw[hem,List.take_left],fun y hy=> ?_⟩⟩
  rcases List.mem_append.1 hy with hy|hy
  ·rw[←hem]at hy;exact rw_map hy
  ·rw[List.eq_of_mem_replicate hy];exact⟨rfl,rfl⟩
def copE (l:List MsgS) (b:Bool) (i:Int):Int:=if atE l b i=0∧l.length=400 then 4 else atE l b i
def copyB (l:List MsgS) (b:Bool) (i:Int):List MsgS:=if copE l b i=0 then l++[l.getD i.toNat .zero]else l
def ZCy6:Spec1
 |[.nilp,.int .i64 i],G,Q=>Q (.v (.int .i64 5)) G
 |[.ptr id,.int .i64 i],G,Q=>∃l b,(BagAt G id l b∧l.length≤400)∧∀G',BagAt G' id (copyB l b i) b→Q (.v (.int .i64 (copE l b i))) G'
 |_,_,_=>False
theorem walk17n {i:Int} (hA:Abs.look l 44=some ZAt) (h:Q (.v (.int .i64 5)) G):Wf E (specOf l) pf17 [.nilp,.int .i64 i] G Q:=by
 simp -implicitDefEqProofs only[pf17,hA,ZAt,go_sem,↓reduceIte]
 exact h
theorem walk17 {id:Nat} {i:Int} {l2:List MsgS} {b:Bool} (hA:Abs.look l 44=some ZAt) (hB:BagAt G id l2 b) (hl:l2.length≤400)
  (h:∀G',BagAt G' id (copyB l2 b i) b→Q (.v (.int .i64 (copE l2 b i))) G'):Wf E (specOf l) pf17 [.ptr id,.int .i64 i] G Q:=by
 have hB0:=hB
 obtain⟨x,hR⟩:=hB
 have h1:Abs.look G id=some (.agg [x,.bool b]):=hR.1 id _ (by rw[look_cons,if_pos rfl])
 have h2:=hR.lenI
 rw[List.length_map]at h2
 obtain⟨h3,h4⟩:=hR.one
 unfold V.isAgg at h4
 by_cases e:atE l2 b i=0
 ·obtain⟨rfl,i1,i2⟩:=atE_ok e
  obtain⟨k,rfl⟩:∃k:Nat,i=k:=⟨i.toNat,by omega⟩
  have hR0:=hR
  obtain⟨he,⟨rfl,h0⟩|⟨rid,c,L,rfl,r1,r2,r3,r4,r5,r6⟩⟩:=hR
  ·rw[List.map_eq_nil_iff.1 h0]at i2;simp at i2;omega
  rw[List.length_map]at r3 r5 he r1 hR0
  have hk:k < l2.length:=by omega
  have gk:L[((k:Nat):Int).toNat]? =some (l2.getD k .zero).v:=by
   rw[Int.toNat_natCast]
   have:(L.take l2.length)[k]? =(l2.map MsgS.v)[k]? :=by rw[r5]
   rw[List.getElem?_take,if_pos hk,List.getElem?_map]at this
   rw[List.getD_eq_getElem?_getD,this]
   rw[List.getElem?_eq_getElem hk];rfl
  have hall:(L.all fun x=>x.size==349)=true:=List.all_eq_true.2 fun y hy=>by rw[(r6 y hy).1];rfl
  by_cases e4:l2.length=400
  ·have ec:copE l2 true k=4:=by unfold copE;rw[if_pos ⟨e,e4⟩]
   have eb:copyB l2 true k=l2:=by unfold copyB;rw[ec];rfl
   rw[ec,eb]at h
   have e5:(l2.length:Int)=400:=by omega
   simp -implicitDefEqProofs only[pf17,hA,ZAt,go_sem,↓reduceIte]
   refine⟨l2,true,hB0,?_⟩
   simp -implicitDefEqProofs only[e,h1,h3,h4,List.length_map,e5,go_sem,↓reduceIte]
   exact h G hB0
  ·have ec:copE l2 true k=0:=by unfold copE;rw[if_neg (fun h=>e4 h.2),e]
   have eb:copyB l2 true k=l2++[l2.getD k .zero]:=by unfold copyB;rw[if_pos ec,Int.toNat_natCast]
   rw[ec,eb]at h
   have e5:¬(l2.length:Int)=400:=by omega
   generalize l2.getD k .zero=p at gk h
   obtain⟨z1,z2⟩:=MsgS.vs p
   unfold V.isAgg at z2
   have sm:V.same p.v (.agg [.int .i64 0,.int .i64 0,.int .i64 0,.agg [.int .i64 0,.int .i64 0,.int .i64 0,.int .i64 0,.arr .u8 32 zz2,.int .i64 0,.arr .u8 32 zz2,.arr .u8 32 zz2],.agg [.agg [.int .i64 0,.int .i64 0,.int .i64 0,.int .i64 0,.arr .u8 32 zz2,.int .i64 0,.arr .u8 32 zz2,.arr .u8 32 zz2],.nils],.agg [.int .i64 0,.int .i64 0,.int .i64 0,.arr .u8 32 zz2,.nils,.arr .u8 32 zz2],.agg [.arr .u8 32 zz2,.int .i64 0,.int .i64 0,.int .i64 0,.nils],.arr .u8 32 zz2,.agg [.int .i64 0,.int .i64 0,.int .i64 0,.int .i64 0,.int .i64 0,.str ⟨⟨[]⟩⟩,.str ⟨⟨[]⟩⟩]])=true:=rfl
   simp -implicitDefEqProofs only[pf17,hA,ZAt,go_sem,↓reduceIte]
   refine⟨l2,true,hB0,?_⟩
   obtain⟨rs,rn⟩:=row_app_s (bytes:=616) (p:=p) hR0 r2 (by omega)
   simp -implicitDefEqProofs only[e,h1,h3,h4,r2,List.length_map,hall,e5,gk,z1,z2,sm,go_sem,↓reduceIte]
   refine⟨⟨⟨by omega,by omega⟩,by omega,fun y hy=>(r6 y hy).1⟩,⟨by omega,r3,r4,fun y hy=>(r6 y hy).1,fun y hy=>by rw[List.mem_singleton.1 hy];rfl⟩,fun hc=> ?_,fun hc=> ?_⟩
   ·obtain⟨s1,s2⟩:=rs hc
    refine⟨s1,?_⟩
    have s2:Row [(id,.agg [.sob rid 349 0 l2.length c,.bool true])] (Abs.upd G rid (.agg (List.take l2.length L++p.v::List.drop (l2.length+1) L))) 349 (.agg [.int .i64 0,.int .i64 0,.int .i64 0,.agg [.int .i64 0,.int .i64 0,.int .i64 0,.int .i64 0,.arr .u8 32 zz2,.int .i64 0,.arr .u8 32 zz2,.arr .u8 32 zz2],.agg [.agg [.int .i64 0,.int .i64 0,.int .i64 0,.int .i64 0,.arr .u8 32 zz2,.int .i64 0,.arr .u8 32 zz2,.arr .u8 32 zz2],.nils],.agg [.int .i64 0,.int .i64 0,.int .i64 0,.arr .u8 32 zz2,.nils,.arr .u8 32 zz2],.agg [.arr .u8 32 zz2,.int .i64 0,.int .i64 0,.int .i64 0,.nils],.arr .u8 32 zz2,.agg [.int .i64 0,.int .i64 0,.int .i64 0,.int .i64 0,.int .i64 0,.str ⟨⟨[]⟩⟩,.str ⟨⟨[]⟩⟩]]) (.sob rid 349 0 (l2.length+1) c) ((l2++[p]).map MsgS.v):=s2
    have h1':=s2.1 id _ (by rw[look_cons,if_pos rfl])
    have hup:=s2.upd (id:=id) (u:= .agg [.sob rid 349 0 l2.length c,.bool true]) (y:= .agg [.sob rid 349 0 (l2.length+1) c,.bool true]) (by rw[look_cons,if_pos rfl])
    have e9:Abs.upd [(id,V.agg [.sob rid 349 0 l2.length c,.bool true])] id (.agg [.sob rid 349 0 (l2.length+1) c,.bool true])=[(id,V.agg [.sob rid 349 0 (l2.length+1) c,.bool true])]:=by simp[Abs.upd]
    rw[e9]at hup
    generalize Abs.upd G rid (.agg (List.take l2.length L++p.v::List.drop (l2.length+1) L))=G2 at h1' hup⊢
    simp -implicitDefEqProofs only[h1',go_sem,↓reduceIte]
    exact h _ ⟨_,hup⟩
   ·intro id' c' hid hc'
    have hne:¬id=id':=by rintro rfl;rw[h1]at hid;cases hid
    have hc2:l2.length+1≤c':=by rw[List.drop_zero,r5,List.length_map]at hc';exact hc'
    have s2:=rn id' c' hid hc2
    have hup:=s2.upd (id:=id) (u:= .agg [.sob rid 349 0 l2.length c,.bool true]) (y:= .agg [.sob id' 349 0 (l2.length+1) c',.bool true]) (by rw[look_cons,if_pos rfl])
    have e9:Abs.upd [(id,V.agg [.sob rid 349 0 l2.length c,.bool true])] id (.agg [.sob id' 349 0 (l2.length+1) c',.bool true])=[(id,V.agg [.sob id' 349 0 (l2.length+1) c',.bool true])]:=by simp[Abs.upd]
    rw[e9]at hup
    have hb:(id==id')=false:=by simpa using hne
    simp only[Abs.upd,hb,cond_false]at hup
    simp -implicitDefEqProofs only[hne,hb,h1,List.drop_zero,r5,List.length_map,go_sem,↓reduceIte]
    exact h _ ⟨_,hup⟩
 ·have ec:copE l2 b i=atE l2 b i:=by unfold copE;rw[if_neg (fun h=>e h.1)]
  have eb:copyB l2 b i=l2:=by unfold copyB;rw[ec,if_neg e]
  rw[ec,eb]at h
  simp -implicitDefEqProofs only[pf17,hA,ZAt,go_sem,↓reduceIte]
  refine⟨l2,b,hB0,?_⟩
  simp -implicitDefEqProofs only[e,go_sem,↓reduceIte]
  exact h G hB0
def ZDp:Spec1
 |[.nilp,.int .i64 i],G,Q=>Q (.v (.int .i64 5)) G
 |[.ptr id,.int .i64 i],G,Q=>∃l b,(BagAt G id l b∧l.length≤400)∧∀G',BagAt G' id (takeB l b i).2 b→Q (.v (.int .i64 (atE l b i))) G'
 |_,_,_=>False
theorem walk18n {i:Int} (hT:Abs.look l 14=some ZTk) (h:Q (.v (.int .i64 5)) G):Wf E (specOf l) pf18 [.nilp,.int .i64 i] G Q:=by
 have z1:V.size MsgS.zero.v=349:=rfl
 have sm:V.same MsgS.zero.v (.agg [.int .i64 0,.int .i64 0,.int .i64 0,.agg [.int .i64 0,.int .i64 0,.int .i64 0,.int .i64 0,.arr .u8 32 zz2,.int .i64 0,.arr .u8 32 zz2,.arr .u8 32 zz2],.agg [.agg [.int .i64 0,.int .i64 0,.int .i64 0,.int .i64 0,.arr .u8 32 zz2,.int .i64 0,.arr .u8 32 zz2,.arr .u8 32 zz2],.nils],.agg [.int .i64 0,.int .i64 0,.int .i64 0,.arr .u8 32 zz2,.nils,.arr .u8 32 zz2],.agg [.arr .u8 32 zz2,.int .i64 0,.int .i64 0,.int .i64 0,.nils],.arr .u8 32 zz2,.agg [.int .i64 0,.int .i64 0,.int .i64 0,.int .i64 0,.int .i64 0,.str ⟨⟨[]⟩⟩,.str ⟨⟨[]⟩⟩]])=true:=rfl
 simp -implicitDefEqProofs only[pf18,hT,ZTk,z1,sm,go_sem,↓reduceIte]
 exact h
theorem walk18 {id:Nat} {i:Int} {l2:List MsgS} {b:Bool} (hT:Abs.look l 14=some ZTk) (hB:BagAt G id l2 b) (hl:l2.length≤400)
  (h:∀G',BagAt G' id (takeB l2 b i).2 b→Q (.v (.int .i64 (atE l2 b i))) G'):Wf E (specOf l) pf18 [.ptr id,.int .i64 i] G Q:=by
 have z1:∀m:MsgS,V.size m.v=349:=fun m=>rfl
 have sm:∀m:MsgS,V.same m.v (.agg [.int .i64 0,.int .i64 0,.int .i64 0,.agg [.int .i64 0,.int .i64 0,.int .i64 0,.int .i64 0,.arr .u8 32 zz2,.int .i64 0,.arr .u8 32 zz2,.arr .u8 32 zz2],.agg [.agg [.int .i64 0,.int .i64 0,.int .i64 0,.int .i64 0,.arr .u8 32 zz2,.int .i64 0,.arr .u8 32 zz2,.arr .u8 32 zz2],.nils],.agg [.int .i64 0,.int .i64 0,.int .i64 0,.arr .u8 32 zz2,.nils,.arr .u8 32 zz2],.agg [.arr .u8 32 zz2,.int .i64 0,.int .i64 0,.int .i64 0,.nils],.arr .u8 32 zz2,.agg [.int .i64 0,.int .i64 0,.int .i64 0,.int .i64 0,.int .i64 0,.str ⟨⟨[]⟩⟩,.str ⟨⟨[]⟩⟩]])=true:=fun m=>rfl
 simp -implicitDefEqProofs only[pf18,hT,ZTk,go_sem,↓reduceIte]
 refine⟨l2,b,⟨hB,hl⟩,fun G' hB'=> ?_⟩
 simp -implicitDefEqProofs only[z1,sm,go_sem,↓reduceIte]
 exact h G' hB'
def ZAl:Spec1
 |[.nilp],G,Q=>Q (.v (.sle 349 [])) G
 |[.ptr id],G,Q=>∃l b,(BagAt G id l b∧l.length≤400)∧Q (.v (.sle 349 (l.map MsgS.v))) G
 |_,_,_=>False
theorem walk20n (h:Q (.v (.sle 349 [])) G):Wf E C pf20 [.nilp] G (fun r G'=>∃r2 G2,Low G r G' r2 G2∧Q r2 G2):=by
 simp -implicitDefEqProofs only[pf20,go_sem,↓reduceIte]
 exact⟨_,_,low_nil,h⟩
theorem walk20 {id:Nat} {l2:List MsgS} {b:Bool} (hC:Abs.look l 49=some ZCl6) (hB:BagAt G id l2 b) (hl:l2.length≤400)
  (h:Q (.v (.sle 349 (l2.map MsgS.v))) G):Wf E (specOf l) pf20 [.ptr id] G (fun r G'=>∃r2 G2,Low G r G' r2 G2∧Q r2 G2):=by
 obtain⟨x,hR⟩:=hB
 have h1:Abs.look G id=some (.agg [x,.bool b]):=hR.1 id _ (by rw[look_cons,if_pos rfl])
 obtain⟨h3,h4⟩:=hR.one
 unfold V.isAgg at h4
 simp -implicitDefEqProofs only[pf20,h1,h3,h4,hC,ZCl6,go_sem,↓reduceIte]
 exact⟨_,l2,⟨hR,by omega⟩,_,_,.refl _ _,h⟩
def toB (to:Int):Nat→List MsgS→List Int
 |_,[]=>[]
 |k,m::l=>if m.to=to then (k:Int)::toB to (k+1) l else toB to (k+1) l
def ZTo:Spec1
 |[.nilp,.int .i64 i],G,Q=>Q (.v (.sli .i64 [])) G
 |[.ptr id,.int .i64 i],G,Q=>∃l b,(BagAt G id l b∧l.length≤400)∧Q (.v (.sli .i64 (toB i 0 l))) G
 |_,_,_=>False
theorem toB_len (to:Int):∀(k:Nat) (l:List MsgS),(toB to k l).length≤l.length
 |_,[]=>Nat.le_refl _
 |k,m::l=>by
  unfold toB
  have:=toB_len to (k+1) l
  split
  ·simp only[List.length_cons];omega
  ·simp only[List.length_cons];omega
theorem low_ow {xs:List Int}:Low G (.own (.sli .i64 xs)) G (.v (.sli .i64 xs)) G:= .wk (by unfold R.Wk;exact .inl ⟨_,rfl,V.Wk.refl _⟩) (WkG.refl _) (.refl _ _)
theorem low_owN:Low G (.own .nils) G (.v (.sli .i64 [])) G:= .wk (by unfold R.Wk;exact .inl ⟨_,rfl,wk_nili⟩) (WkG.refl _) (.refl _ _)
theorem loop21 {QQ:Ex→St→Prop} {to:Int} {ls:List MsgS} (hl:ls.length≤400):
  ∀(r:List MsgS) (j:Nat) (x:V) (out:List Int) (rest:List Bx),ls.drop j=r→j≤ls.length→out.length≤j→(x= .sli .i64 out∨(x= .nils∧out=[]))→
   (∀ts L x',(x'= .sli .i64 (out++toB to j r)∨(x'= .nils∧out++toB to j r=[]))→QQ (.exit 0) ⟨[none,some (.v (.int .i64 to)),none,none,none,some (.own (x')),none,none,none,some (.v (.sle 349 (ls.map MsgS.v))),some (.v (.int .i64 (ls.length:Nat))),some (.v (.int .i64 (ls.length:Nat)))],ts,L,G⟩)→
   WL (W E C lp21_0) [1,5,9,10,11] QQ (r.length+1) ⟨[none,some (.v (.int .i64 to)),none,none,none,some (.own (x)),none,none,none,some (.v (.sle 349 (ls.map MsgS.v))),some (.v (.int .i64 (ls.length:Nat))),some (.v (.int .i64 (j:Nat)))],[],rest,G⟩:=by
 intro r
 induction r with
 |nil=>
  intro j x out rest hd hj ho hx0 hx
  have:=drop_none hd
  have c1:¬(j:Int) < (ls.length:Int):=by omega
  obtain rfl:j=ls.length:=by omega
  refine WL_in lp21_0.eq_1 ?_
  rcases hx0 with rfl|⟨rfl,rfl⟩
  ·simp -implicitDefEqProofs only[c1,go_sem,↓reduceIte]
   simp only[toB,List.append_nil]at hx
   exact hx _ _ _ (.inl rfl)
  ·simp -implicitDefEqProofs only[c1,go_sem,↓reduceIte]
   exact hx _ _ _ (.inr ⟨rfl,rfl⟩)
 |cons p r ih=>
  intro j x out rest hd hj ho hx0 hx
  obtain⟨hd2,hj2,hlen⟩:=drop_one hd
  have g:=getD_ms hd
  have c1:(j:Int) < (ls.length:Int):=by omega
  have c2:(0:Int)≤(j:Int):=by omega
  have w1:IntKind.i64.wrap ((j:Int)+1)=((j+1:Nat):Int):=wc (by omega) (by omega)
  have hA:∀x:Bx,(rest++[x])[rest.length]? =some x:=fun x=>by simp
  have hS:∀x z:Bx,(rest++[x]).set rest.length z=rest++[z]:=fun x z=>by simp
  obtain⟨p1,p2,p3,p4,p5,p6,p7,p8,p9⟩:=p
  have gv:MsgS.v ⟨p1,p2,p3,p4,p5,p6,p7,p8,p9⟩= .agg [.int .i64 p1,.int .i64 p2,.int .i64 p3,p4.v,p5.v,p6.v,p7.v,.arr .u8 32 p8,p9.v]:=rfl
  rw[gv]at g
  have sm:V.same (.agg [.int .i64 p1,.int .i64 p2,.int .i64 p3,p4.v,p5.v,p6.v,p7.v,.arr .u8 32 p8,p9.v]) (.agg [.int .i64 0,.int .i64 0,.int .i64 0,.agg [.int .i64 0,.int .i64 0,.int .i64 0,.int .i64 0,.arr .u8 32 zz2,.int .i64 0,.arr .u8 32 zz2,.arr .u8 32 zz2],.agg [.agg [.int .i64 0,.int .i64 0,.int .i64 0,.int .i64 0,.arr .u8 32 zz2,.int .i64 0,.arr .u8 32 zz2,.arr .u8 32 zz2],.nils],.agg [.int .i64 0,.int .i64 0,.int .i64 0,.arr .u8 32 zz2,.nils,.arr .u8 32 zz2],.agg [.arr .u8 32 zz2,.int .i64 0,.int .i64 0,.int .i64 0,.nils],.arr .u8 32 zz2,.agg [.int .i64 0,.int .i64 0,.int .i64 0,.int .i64 0,.int .i64 0,.str ⟨⟨[]⟩⟩,.str ⟨⟨[]⟩⟩]])=true:=rfl
  have z1:V.size p4.v=101:=rfl
  have z2:V.size p5.v=102:=rfl
  have z3:V.size p6.v=68:=rfl
  have z4:V.size p7.v=36:=rfl
  have z5:V.size p9.v=7:=rfl
  have y1:V.same p4.v (.agg [.int .i64 0,.int .i64 0,.int .i64 0,.int .i64 0,.arr .u8 32 zz2,.int .i64 0,.arr .u8 32 zz2,.arr .u8 32 zz2])=true:=rfl
  have y2:V.same p5.v (.agg [.agg [.int .i64 0,.int .i64 0,.int .i64 0,.int .i64 0,.arr .u8 32 zz2,.int .i64 0,.arr .u8 32 zz2,.arr .u8 32 zz2],.nils])=true:=rfl
  have y3:V.same p6.v (.agg [.int .i64 0,.int .i64 0,.int .i64 0,.arr .u8 32 zz2,.nils,.arr .u8 32 zz2])=true:=rfl
  have y4:V.same p7.v (.agg [.arr .u8 32 zz2,.int .i64 0,.int .i64 0,.int .i64 0,.nils])=true:=rfl
  have y5:V.same p9.v (.agg [.int .i64 0,.int .i64 0,.int .i64 0,.int .i64 0,.int .i64 0,.str ⟨⟨[]⟩⟩,.str ⟨⟨[]⟩⟩])=true:=rfl
  refine WL_in lp21_0.eq_1 ?_
  by_cases e:p3=to
  ·have hx1:∀ts L x',(x'= .sli .i64 ((out++[(j:Int)])++toB to (j+1) r)∨(x'= .nils∧(out++[(j:Int)])++toB to (j+1) r=[]))→QQ (.exit 0) ⟨[none,some (.v (.int .i64 to)),none,none,none,some (.own (x')),none,none,none,some (.v (.sle 349 (ls.map MsgS.v))),some (.v (.int .i64 (ls.length:Nat))),some (.v (.int .i64 (ls.length:Nat)))],ts,L,G⟩:=fun ts L x' hx'=>hx ts L x' (by
    have:toB to j (⟨p1,p2,p3,p4,p5,p6,p7,p8,p9⟩::r)=(j:Int)::toB to (j+1) r:=by rw[toB,if_pos e]
    rw[this];simpa using hx')
   rcases hx0 with rfl|⟨rfl,rfl⟩
   ·simp -implicitDefEqProofs only[c1,c2,g,w1,z1,z2,z3,z4,z5,y1,y2,y3,y4,y5,Int.toNat_natCast,List.length_map,hA,hS,e,go_sem,↓reduceIte]
    exact⟨by omega,ih (j+1) _ (out++[(j:Int)]) _ hd2 (by omega) (by rw[List.length_append,List.length_singleton];omega) (.inl rfl) hx1⟩
   ·simp -implicitDefEqProofs only[c1,c2,g,w1,z1,z2,z3,z4,z5,y1,y2,y3,y4,y5,Int.toNat_natCast,List.length_map,hA,hS,e,go_sem,↓reduceIte]
    exact ih (j+1) _ [(j:Int)] _ hd2 (by omega) (by simp) (.inl rfl) hx1
  ·have hx1:∀ts L x',(x'= .sli .i64 (out++toB to (j+1) r)∨(x'= .nils∧out++toB to (j+1) r=[]))→QQ (.exit 0) ⟨[none,some (.v (.int .i64 to)),none,none,none,some (.own (x')),none,none,none,some (.v (.sle 349 (ls.map MsgS.v))),some (.v (.int .i64 (ls.length:Nat))),some (.v (.int .i64 (ls.length:Nat)))],ts,L,G⟩:=fun ts L x' hx'=>hx ts L x' (by
    have:toB to j (⟨p1,p2,p3,p4,p5,p6,p7,p8,p9⟩::r)=toB to (j+1) r:=by rw[toB,if_neg e]
    rw[this];exact hx')
   rcases hx0 with rfl|⟨rfl,rfl⟩
   ·simp -implicitDefEqProofs only[c1,c2,g,w1,z1,z2,z3,z4,z5,y1,y2,y3,y4,y5,Int.toNat_natCast,List.length_map,hA,hS,e,go_sem,↓reduceIte]
    exact ih (j+1) _ out _ hd2 (by omega) (by omega) (.inl rfl) hx1
   ·simp -implicitDefEqProofs only[c1,c2,g,w1,z1,z2,z3,z4,z5,y1,y2,y3,y4,y5,Int.toNat_natCast,List.length_map,hA,hS,e,go_sem,↓reduceIte]
    exact ih (j+1) _ [] _ hd2 (by omega) (by simp) (.inr ⟨rfl,rfl⟩) hx1
theorem walk21n {i:Int} (hA:Abs.look l 20=some ZAl) (h:Q (.v (.sli .i64 [])) G):Wf E (specOf l) pf21 [.nilp,.int .i64 i] G (fun r G'=>∃r2 G2,Low G r G' r2 G2∧Q r2 G2):=by
 simp -implicitDefEqProofs only[pf21,hA,ZAl,go_sem,↓reduceIte]
 refine⟨1,?_⟩
 try simp -implicitDefEqProofs only[go_sem,↓reduceIte]
 refine WL_in lp21_0.eq_1 ?_
 simp -implicitDefEqProofs only[go_sem,↓reduceIte]
 exact⟨_,_,low_owN,h⟩
theorem walk21 {id:Nat} {to:Int} {l2:List MsgS} {b:Bool} (hA:Abs.look l 20=some ZAl) (hB:BagAt G id l2 b) (hl:l2.length≤400)
  (h:Q (.v (.sli .i64 (toB to 0 l2))) G):Wf E (specOf l) pf21 [.ptr id,.int .i64 to] G (fun r G'=>∃r2 G2,Low G r G' r2 G2∧Q r2 G2):=by
 simp -implicitDefEqProofs only[pf21,hA,ZAl,go_sem,↓reduceIte]
 refine⟨l2,b,⟨hB,hl⟩,?_⟩
 simp -implicitDefEqProofs only[List.length_map,go_sem,↓reduceIte]
 refine⟨l2.length+1,?_⟩
 try simp -implicitDefEqProofs only[go_sem,↓reduceIte]
 refine loop21 (to:=to) (ls:=l2) hl l2 0 .nils [] [] rfl (Nat.zero_le _) (Nat.le_refl _) (.inr ⟨rfl,rfl⟩) (fun ts L x' hx'=> ?_)
 rcases hx' with rfl|⟨rfl,e⟩
 ·simp -implicitDefEqProofs only[go_sem,↓reduceIte]
  exact⟨_,_,low_ow,h⟩
 ·simp -implicitDefEqProofs only[go_sem,↓reduceIte]
  rw[List.nil_append]at e;rw[e]at h
  exact⟨_,_,low_owN,h⟩
end Go.Proofs.Ytjbglbhcbenhpaa.Sha
