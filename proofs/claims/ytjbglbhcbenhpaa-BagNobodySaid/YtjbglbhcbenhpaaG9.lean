/- Laws over plain values, and what functions of the program hand back; no conditions. -/
import Derived.Test.YtjbglbhcbenhpaaG8
namespace Go.Proofs.Ytjbglbhcbenhpaa.Sha
open Go Go.Abs Go.Abs.Sha Go.Abs.Srt
set_option linter.unusedSimpArgs false
set_option linter.unusedVariables false
set_option maxRecDepth 100000
def pf23:PF:=
 PF.mk 1 33 133 ((PC.reg [nn (.v 1) (.box (.v 0)),nn (.v 2) (.mv true (.c (.v (.bool false))))]).seq (((PC.reg [nn (.v 5) (.fadr 1 1 (.v 1)),nn (.v 6)
  (.load 1 false (.v 5)),nn (.v 7) (.bin .lss (.v 6) (.c (.v (.int .i64 1)))),nn (.v 8) (.mv false (.v 7)),⟨.v 9,.fadr 1 1 (.v 1),some (.v 8,
  false)⟩,⟨.v 10,.load 1 false (.v 9),some (.v 8,false)⟩,⟨.v 11,.bin .gtr (.v 10) (.c (.v (.int .i64 21))),some (.v 8,false)⟩,nn (.v 12)
  (.pick (.v 8) (.c (.v (.bool true))) (.v 11)),nn (.v 13) (.mv false (.v 12)),⟨.v 14,.fadr 2 2 (.v 1),some (.v 13,false)⟩,⟨.v 15,.load 1 false
  (.v 14),some (.v 13,false)⟩,⟨.v 16,.bin .lss (.v 15) (.c (.v (.int .i64 1))),some (.v 13,false)⟩,nn (.v 17) (.pick (.v 13) (.c (.v (.bool
  true))) (.v 16)),nn (.v 18) (.mv false (.v 17)),⟨.v 19,.fadr 2 2 (.v 1),some (.v 18,false)⟩,⟨.v 20,.load 1 false (.v 19),some (.v 18,
  false)⟩,⟨.v 21,.bin .gtr (.v 20) (.c (.v (.int .i64 21))),some (.v 18,false)⟩,nn (.v 22) (.pick (.v 18) (.c (.v (.bool true))) (.v 21)),nn (.v
  23) (.mv false (.v 22)),⟨.v 24,.fadr 1 1 (.v 1),some (.v 23,false)⟩,⟨.v 25,.load 1 false (.v 24),some (.v 23,false)⟩,⟨.v 26,.fadr 2 2 (.v
  1),some (.v 23,false)⟩,⟨.v 27,.load 1 false (.v 26),some (.v 23,false)⟩,⟨.v 28,.bin .eql (.v 25) (.v 27),some (.v 23,false)⟩,nn (.v 29)
  (.pick (.v 23) (.c (.v (.bool true))) (.v 28))]).seq (PC.cond (.v 29) ((PC.reg [nn (.v 2) (.mv true (.c (.v (.bool false))))]).seq PC.ret)
  PC.skip)).seq ((PC.reg [nn (.v 30) (.load 349 true (.v 1)),nn (.v 3) (.alloc (.agg [.int .i64 0,.int .i64 0,.int .i64 0,.agg [.int .i64 0,.int
  .i64 0,.int .i64 0,.int .i64 0,.arr .u8 32 zz2,.int
  .i64 0,.arr .u8 32 zz2,.arr .u8 32 [0,0,0,0,0,0,
  0,0,0,0,0,0,0,0,0,0,0,0,0,0,0,0,0,0,0,0,0,0,0,0,0,0]],.agg [.agg [.int .i64 0,.int .i64 0,.int .i64 0,.int .i64 0,.arr
  .u8 32 zz2,.int .i64 0,.arr .u8 32 [0,0,0,0,0,0,
  0,0,0,0,0,0,0,0,0,0,0,0,0,0,0,0,0,0,0,0,0,0,0,0,0,0],.arr .u8 32 [0,0,0,0,0,0,0,0,0,0,0,0,0,0,0,0,0,0,0,
  0,0,0,0,0,0,0,0,0,0,0,0,0]],.nils],.agg [.int .i64 0,.int .i64 0,.int .i64 0,.arr .u8 32 [0,0,0,0,0,0,0,0,0,0,0,0,0,0,
  0,0,0,0,0,0,0,0,0,0,0,0,0,0,0,0,0,0],.nils,.arr .u8 32 [0,0,0,0,0,0,0,0,0,0,0,0,0,0,0,0,0,0,0,0,0,0,0,0,0,
  0,0,0,0,0,0,0]],.agg [.arr .u8 32 zz2,.int .i64
  0,.int .i64 0,.int .i64 0,.nils],.arr .u8 32 zz2,
  .agg [.int .i64 0,.int .i64 0,.int .i64 0,.int .i64 0,.int .i64 0,.str ⟨⟨[]⟩⟩,.str ⟨⟨[]⟩⟩]])),nn .no (.store 349 (.v 3) (.v 30))]).seq
  ((PC.reg [nn (.v 4) (.mv true (.c (.v (.bool false))))]).seq (((PC.reg [nn (.v 31) (.fadr 0 0 (.v 1)),nn (.v 32) (.load 1 false (.v 31))]).seq
  (PC.block 0 (((PC.reg [nn (.t 34) (.bin .eql (.v 32) (.c (.v (.int .i64 1)))),nn (.t 33) (.mv true (.t 34))]).seq (PC.cond (.t 33) PC.skip ((PC.reg
  [nn (.t 35) (.bin .eql (.v 32) (.c (.v (.int .i64 3)))),nn (.t 33) (.mv true (.t 35))]).seq (PC.cond (.t 33) PC.skip (PC.reg [nn (.t 36) (.bin .eql
  (.v 32) (.c (.v (.int .i64 5)))),nn (.t 33) (.mv true (.t 36))]))))).seq (PC.cond (.t 33) ((PC.reg [nn (.t 37) (.fadr 3 3 (.v 1)),nn (.t 38) (.load
  101 true (.t 37)),nn (.t 39) (.call 51 [.t 38]),nn (.t 40) (.mv false (.t 39)),⟨.t 41,.fadr 3 3 (.v 1),some (.t 40,true)⟩,⟨.t 42,.fadr 1 1
  (.t 41),some (.t 40,true)⟩,⟨.t 43,.load 1 false (.t 42),some (.t 40,true)⟩,⟨.t 44,.fadr 0 0 (.v 1),some (.t 40,true)⟩,⟨.t 45,.load 1
  false (.t 44),some (.t 40,true)⟩,⟨.t 46,.bin .add (.t 45) (.c (.v (.int .i64 1))),some (.t 40,true)⟩,⟨.t 47,.bin .quo (.t 46) (.c (.v (.int
  .i64 2))),some (.t 40,true)⟩,⟨.t 48,.bin .eql (.t 43) (.t 47),some (.t 40,true)⟩,nn (.t 49) (.pick (.t 40) (.t 48) (.c (.v (.bool false)))),
  ma 4 49]).seq (PC.reg [nn (.t 50) (.build (.agg [.int .i64 0,.int .i64 0,.int .i64 0,.int .i64 0,.arr .u8 32 [0,0,0,0,0,0,0,0,0,0,0,0,
  0,0,0,0,0,0,0,0,0,0,0,0,0,0,0,0,0,0,0,0],.int .i64 0,.arr .u8 32 [0,0,0,0,0,0,0,0,0,0,0,0,0,0,0,0,0,0,0,0,0,
  0,0,0,0,0,0,0,0,0,0,0],.arr .u8 32 zz2]) []),
  nn (.t 51) (.fadr 3 3 (.v 3)),nn .no (.store 101 (.t 51) (.t 50))])) ((PC.reg [nn (.t 53) (.bin .eql (.v 32) (.c (.v (.int .i64 2)))),nn (.t 52)
  (.mv true (.t 53))]).seq (PC.cond (.t 52) ((PC.reg [nn (.t 54) (.fadr 6 274 (.v 1)),nn (.t 55) (.load 36 true (.t 54)),nn (.t 56) (.call 52 [.t
  55]),nn (.t 57) (.mv false (.t 56)),⟨.t 58,.fadr 6 274 (.v 1),some (.t 57,true)⟩,⟨.t 59,.fadr 1 32 (.t 58),some (.t 57,true)⟩,⟨.t 60,.load
  1 false (.t 59),some (.t 57,true)⟩,⟨.t 61,.bin .gtr (.t 60) (.c (.v (.int .i64 0))),some (.t 57,true)⟩,nn (.t 62) (.pick (.t 57) (.t 61) (.c
  (.v (.bool false)))),nn (.t 63) (.mv false (.t 62)),⟨.t 64,.fadr 5 206 (.v 1),some (.t 63,true)⟩,⟨.t 65,.load 68 true (.t 64),some (.t 63,
  true)⟩,⟨.t 66,.call 53 [.t 65],some (.t 63,true)⟩,nn (.t 67) (.pick (.t 63) (.t 66) (.c (.v (.bool false)))),ma 4 67]).seq (PC.reg [nn (.t 68)
  (.build (.agg [.arr .u8 32 zz2,.int .i64 0,.int .i64
  0,.int .i64 0,.nils]) []),nn (.t 69) (.build (.agg [.int .i64 0,.int .i64 0,.int .i64 0,.arr .u8 32 [0,0,0,0,0,0,0,0,0,0,0,0,0,0,
  0,0,0,0,0,0,0,0,0,0,0,0,0,0,0,0,0,0],.nils,.arr .u8 32 [0,0,0,0,0,0,0,0,0,0,0,0,0,0,0,0,0,0,0,0,0,0,0,0,0,
  0,0,0,0,0,0,0]]) []),nn (.t 70) (.fadr 6 274 (.v 3)),nn .no (.store 36 (.t 70) (.t 68)),nn (.t 71) (.fadr 5 206 (.v 3)),nn .no (.store 68
  (.t 71) (.t 69))])) (((PC.reg [nn (.t 73) (.bin .eql (.v 32) (.c (.v (.int .i64 4)))),nn (.t 72) (.mv true (.t 73))]).seq (PC.cond (.t 72) PC.skip
  (PC.reg [nn (.t 74) (.bin .eql (.v 32) (.c (.v (.int .i64 6)))),nn (.t 72) (.mv true (.t 74))]))).seq (PC.cond (.t 72) ((PC.reg [nn (.t 75) (.fadr 4
  104 (.v 1)),nn (.t 76) (.load 102 true (.t 75)),nn (.t 77) (.call 54 [.t 76]),nn (.t 78) (.mv false (.t 77)),⟨.t 79,.fadr 4 104 (.v 1),some (.t
  78,true)⟩,⟨.t 80,.fadr 0 0 (.t 79),some (.t 78,true)⟩,⟨.t 81,.fadr 1 1 (.t 80),some (.t 78,true)⟩,⟨.t 82,.load 1 false (.t 81),some (.t
  78,true)⟩,⟨.t 83,.fadr 0 0 (.v 1),some (.t 78,true)⟩,⟨.t 84,.load 1 false (.t 83),some (.t 78,true)⟩,⟨.t 85,.bin .quo (.t 84) (.c (.v
  (.int .i64 2))),some (.t 78,true)⟩,⟨.t 86,.bin .eql (.t 82) (.t 85),some (.t 78,true)⟩,nn (.t 87) (.pick (.t 78) (.t 86) (.c (.v (.bool
  false)))),ma 4 87]).seq (PC.reg [nn (.t 88) (.build (.agg [.agg [.int .i64 0,.int .i64 0,.int .i64 0,.int .i64 0,.arr .u8 32 [0,0,0,0,0,0,
  0,0,0,0,0,0,0,0,0,0,0,0,0,0,0,0,0,0,0,0,0,0,0,0,0,0],.int .i64 0,.arr .u8 32 [0,0,0,0,0,0,0,0,0,0,0,0,0,0,0,
  0,0,0,0,0,0,0,0,0,0,0,0,0,0,0,0,0],.arr .u8 32 [0,0,0,0,0,0,0,0,0,0,0,0,0,0,0,0,0,0,0,0,0,0,0,0,0,0,0,0,
  0,0,0,0]],.nils]) []),nn (.t 89) (.fadr 4 104 (.v 3)),nn .no (.store 102 (.t 89) (.t 88))])) ((PC.reg [nn (.t 91) (.bin .eql (.v 32) (.c (.v
  (.int .i64 7)))),nn (.t 90) (.mv true (.t 91))]).seq (PC.cond (.t 90) ((PC.reg [nn (.v 4) (.mv true (.c (.v (.bool true))))]).seq (PC.reg [nn (.t
  92) (.build (.arr .u8 32 zz2) []),nn (.t 93) (.fadr 7
  310 (.v 3)),nn .no (.store 32 (.t 93) (.t 92))])) ((PC.reg [nn (.t 95) (.bin .eql (.v 32) (.c (.v (.int .i64 8)))),nn (.t 94) (.mv true (.t
  95))]).seq (PC.cond (.t 94) ((PC.reg [nn (.t 96) (.fadr 6 274 (.v 1)),nn (.t 97) (.load 36 true (.t 96)),nn (.t 98) (.call 52 [.t 97]),nn (.t 99)
  (.mv false (.t 98)),⟨.t 100,.fadr 6 274 (.v 1),some (.t 99,true)⟩,⟨.t 101,.fadr 1 32 (.t 100),some (.t 99,true)⟩,⟨.t 102,.load 1 false (.t
  101),some (.t 99,true)⟩,⟨.t 103,.bin .gtr (.t 102) (.c (.v (.int .i64 0))),some (.t 99,true)⟩,nn (.t 104) (.pick (.t 99) (.t 103) (.c (.v
  (.bool false)))),ma 4 104]).seq (PC.reg [nn (.t 105) (.build (.agg [.arr .u8 32 [0,0,0,0,0,0,0,0,0,0,0,0,0,0,0,0,0,0,0,0,0,0,
  0,0,0,0,0,0,0,0,0,0],.int .i64 0,.int .i64 0,.int .i64 0,.nils]) []),nn (.t 106) (.fadr 6 274 (.v 3)),nn .no (.store 36 (.t 106) (.t
  105))])) ((PC.reg [nn (.t 108) (.bin .eql (.v 32) (.c (.v (.int .i64 9)))),nn (.t 107) (.mv true (.t 108))]).seq (PC.cond (.t 107) ((PC.reg [nn (.t
  109) (.fadr 8 342 (.v 1)),nn (.t 110) (.load 7 true (.t 109)),nn (.t 111) (.call 55 [.t 110]),ma 4 111]).seq (PC.reg [nn (.t 112) (.build (.agg
  [.int .i64 0,.int .i64 0,.int .i64 0,.int .i64 0,.int .i64 0,.str ⟨⟨[]⟩⟩,.str ⟨⟨[]⟩⟩]) []),nn (.t 113) (.fadr 8 342 (.v 3)),nn .no (.store 7
  (.t 113) (.t 112))])) ((PC.reg [nn (.t 115) (.bin .eql (.v 32) (.c (.v (.int .i64 10)))),nn (.t 114) (.mv true (.t 115))]).seq (PC.cond (.t 114)
  ((PC.reg [nn (.t 116) (.fadr 5 206 (.v 1)),nn (.t 117) (.load 68 true (.t 116)),nn (.t 118) (.call 53 [.t 117]),ma 4 118]).seq (PC.reg [nn (.t
  119) (.build (.agg [.int .i64 0,.int .i64 0,.int .i64 0,.arr .u8 32 [0,0,0,0,0,0,0,0,0,0,0,0,0,0,0,0,0,0,0,0,0,0,0,0,0,0,
  0,0,0,0,0,0],.nils,.arr .u8 32 zz2]) []),nn (.t
  120) (.fadr 5 206 (.v 3)),nn .no (.store 68 (.t 120) (.t 119))])) PC.skip)))))))))))))))).seq ((PC.reg [mm 121 4,nn (.t 122) (.mv false (.t 121)),
  ⟨.t 123,.load 349 true (.v 3),some (.t 122,true)⟩,⟨.t 124,.fadr 0 0 (.v 1),some (.t 122,true)⟩,⟨.t 125,.load 1 false (.t 124),some (.t 122,
  true)⟩,⟨.t 126,.fadr 1 1 (.v 1),some (.t 122,true)⟩,⟨.t 127,.load 1 false (.t 126),some (.t 122,true)⟩,⟨.t 128,.fadr 2 2 (.v 1),some (.t
  122,true)⟩,⟨.t 129,.load 1 false (.t 128),some (.t 122,true)⟩,⟨.t 130,.build (.agg [.int .i64 0,.int .i64 0,.int .i64 0,.agg [.int .i64 0,
  .int .i64 0,.int .i64 0,.int .i64 0,.arr .u8 32 zz2,
  .int .i64 0,.arr .u8 32 zz2,.arr .u8 32 [0,0,0,0,
  0,0,0,0,0,0,0,0,0,0,0,0,0,0,0,0,0,0,0,0,0,0,0,0,0,0,0,0]],.agg [.agg [.int .i64 0,.int .i64 0,.int .i64 0,.int .i64 0,
  .arr .u8 32 zz2,.int .i64 0,.arr .u8 32 [0,0,0,0,
  0,0,0,0,0,0,0,0,0,0,0,0,0,0,0,0,0,0,0,0,0,0,0,0,0,0,0,0],.arr .u8 32 [0,0,0,0,0,0,0,0,0,0,0,0,0,0,0,0,0,
  0,0,0,0,0,0,0,0,0,0,0,0,0,0,0]],.nils],.agg [.int .i64 0,.int .i64 0,.int .i64 0,.arr .u8 32 [0,0,0,0,0,0,0,0,0,0,0,0,
  0,0,0,0,0,0,0,0,0,0,0,0,0,0,0,0,0,0,0,0],.nils,.arr .u8 32 [0,0,0,0,0,0,0,0,0,0,0,0,0,0,0,0,0,0,0,0,0,0,0,
  0,0,0,0,0,0,0,0,0]],.agg [.arr .u8 32 zz2,.int
  .i64 0,.int .i64 0,.int .i64 0,.nils],.arr .u8 32 [0,0,0,0,0,0,0,0,0,0,0,0,0,0,0,0,0,0,0,0,0,0,0,0,0,0,0,0,0,0,0,
  0],.agg [.int .i64 0,.int .i64 0,.int .i64 0,.int .i64 0,.int .i64 0,.str ⟨⟨[]⟩⟩,.str ⟨⟨[]⟩⟩]]) [(0,.t 125),(1,.t 127),(2,.t 129)],some
  (.t 122,true)⟩,⟨.t 131,.call 15 [.t 123,.t 130],some (.t 122,true)⟩,nn (.t 132) (.pick (.t 122) (.t 131) (.c (.v (.bool false)))),ma 2
  132]).seq PC.ret)))))) [(.v 2,none)]
attribute [local irreducible] W Wops WopsD WL Wop WopD
variable {E:Env} {C:Abs.Spec} {l:List (Nat×Spec1)} {G:List (Nat×V)} {Q:R→List (Nat×V)→Prop}
set_option maxHeartbeats 1000000
def ZYm:Spec1
 |[x],G,Q=>∃m:MsgS,(V.Wk x m.v∧m.ok)∧Q (.v (.bool m.may)) G
 |_,_,_=>False
theorem ZYm_eq {x}:ZYm [x] G Q=(∃m:MsgS,(V.Wk x m.v∧m.ok)∧Q (.v (.bool m.may)) G):=rfl
theorem may_of {m n z:MsgS} (h1:(1≤m.fr∧m.fr≤21)∧(1≤m.to∧m.to≤21)∧m.fr≠m.to) (h2:m.has=true) (h3:m=m.named↔n=z):m.may=decide (n=z):=by
 unfold MsgS.may;rw[decide_eq_decide];exact⟨fun h=>h3.1 h.2.2,fun h=>⟨h1,h2,h3.2 h⟩⟩
theorem walk23 {m:MsgS} (hA:Abs.look l 51=some SMy) (hB:Abs.look l 52=some ZKm) (hX:Abs.look l 53=some ZM10) (hC:Abs.look l 54=some ZMc) (hT:Abs.look l 55=some ZTm) (hS:Abs.look l 15=some ZMs)
  (ok:m.ok) (h:Q (.v (.bool m.may)) G):Wf E (specOf l) pf23 [m.v] G Q:=by
 have no:¬m.May→Q (.v (.bool false)) G:=fun hn=>finB h (by unfold MsgS.may;rw[decide_eq_false_iff_not];exact hn)
 have key:∀c:Bool,m.may=c→Q (.v (.bool c)) G:=fun c e=>by rw[←e];exact h
 clear h
 have shm:=ok.sh
 obtain⟨o1,o2,o3,o4,o5,o6,o7,o8,o9⟩:=ok
 obtain⟨k,f,t,a,c,x,b,hh,y⟩:=m
 obtain⟨a1,a2,a3,a4,a5,a6,a7,a8⟩:=a
 obtain⟨⟨c1,c2,c3,c4,c5,c6,c7,c8⟩,cs⟩:=c
 obtain⟨x1,x2,x3,x4,x5,x6⟩:=x
 obtain⟨b1,b2,b3,b4,b5⟩:=b
 obtain⟨y1,y2,y3,y4,y5,y6,y7⟩:=y
 dsimp only at o1 o2 o3 o4 o5 o6 o7 o8 o9
 have lh:hh.length=32:=o7.2
 show Wf E (specOf l) pf23 [.agg [.int .i64 k,.int .i64 f,.int .i64 t,.agg [.int .i64 a1,.int .i64 a2,.int .i64 a3,.int .i64 a4,.arr .u8 32 a5,.int .i64 a6,.arr .u8 32 a7,.arr .u8 32 a8],.agg [.agg [.int .i64 c1,.int .i64 c2,.int .i64 c3,.int .i64 c4,.arr .u8 32 c5,.int .i64 c6,.arr .u8 32 c7,.arr .u8 32 c8],.sle 33 (cs.map sgV)],.agg [.int .i64 x1,.int .i64 x2,.int .i64 x3,.arr .u8 32 x4,.sli .i64 x5,.arr .u8 32 x6],.agg [.arr .u8 32 b1,.int .i64 b2,.int .i64 b3,.int .i64 b4,.sle 7 (b5.map TxS.v)],.arr .u8 32 hh,.agg [.int .i64 y1,.int .i64 y2,.int .i64 y3,.int .i64 y4,.int .i64 y5,.str y6,.str y7]]] G Q
 by_cases k1:k=1
 ·subst k1
  have w:IntKind.i64.wrap ((IntKind.i64.wrap 2).tdiv 2)=1:=by decide
  simp -implicitDefEqProofs only[pf23,lh,hA,SMy_eq,hS,ZMs_eq,w,go_sem,↓reduceIte]
  have shb:MsgS.sh (MsgS.bare 1 f t):=(MsgS.bare_ok 1 f t).sh
  refine⟨fun e=>no fun h=>by have:=h.1.1.1;dsimp only at this;omega,fun e1=>⟨fun e=>no fun h=>by have:=h.1.1.2;dsimp only at this;omega,fun e2=>⟨fun e=>no fun h=>by have:=h.1.2.1.1;dsimp only at this;omega,fun e3=>⟨fun e=>no fun h=>by have:=h.1.2.1.2;dsimp only at this;omega,fun e4=>⟨fun e=>no fun h=>h.1.2.2 e,fun e5=> ?_⟩⟩⟩⟩⟩
  exact⟨o1,fun e6=>⟨fun e7=>⟨⟨1,f,t,.zero,⟨⟨c1,c2,c3,c4,c5,c6,c7,c8⟩,cs⟩,⟨x1,x2,x3,x4,x5,x6⟩,⟨b1,b2,b3,b4,b5⟩,hh,⟨y1,y2,y3,y4,y5,y6,y7⟩⟩,MsgS.bare 1 f t,⟨wk_msg (m:=⟨1,f,t,.zero,⟨⟨c1,c2,c3,c4,c5,c6,c7,c8⟩,cs⟩,⟨x1,x2,x3,x4,x5,x6⟩,⟨b1,b2,b3,b4,b5⟩,hh,⟨y1,y2,y3,y4,y5,y6,y7⟩⟩) (V.Wk.refl _) (V.Wk.refl _) (V.Wk.refl _),wk_msg (m:=MsgS.bare 1 f t) wk_ce wk_ac wk_bl,⟨shm.1,shm.2.1,shm.2.2⟩,shb⟩,key _ (may_of ⟨⟨e1,e2⟩,⟨e3,e4⟩,e5⟩ (by subst e7;simp[MsgS.has,e6]) (by simp[MsgS.named,MsgS.bare]))⟩,fun e7=>no fun h=>by have:=h.2.1;simp[MsgS.has,e6,e7]at this⟩,fun e6=>no fun h=>by have:=h.2.1;simp[MsgS.has,e6]at this⟩
 by_cases k3:k=3
 ·subst k3
  have w:IntKind.i64.wrap ((IntKind.i64.wrap 4).tdiv 2)=2:=by decide
  simp -implicitDefEqProofs only[pf23,lh,hA,SMy_eq,hS,ZMs_eq,w,go_sem,↓reduceIte]
  have shb:MsgS.sh (MsgS.bare 3 f t):=(MsgS.bare_ok 3 f t).sh
  refine⟨fun e=>no fun h=>by have:=h.1.1.1;dsimp only at this;omega,fun e1=>⟨fun e=>no fun h=>by have:=h.1.1.2;dsimp only at this;omega,fun e2=>⟨fun e=>no fun h=>by have:=h.1.2.1.1;dsimp only at this;omega,fun e3=>⟨fun e=>no fun h=>by have:=h.1.2.1.2;dsimp only at this;omega,fun e4=>⟨fun e=>no fun h=>h.1.2.2 e,fun e5=> ?_⟩⟩⟩⟩⟩
  exact⟨o1,fun e6=>⟨fun e7=>⟨⟨3,f,t,.zero,⟨⟨c1,c2,c3,c4,c5,c6,c7,c8⟩,cs⟩,⟨x1,x2,x3,x4,x5,x6⟩,⟨b1,b2,b3,b4,b5⟩,hh,⟨y1,y2,y3,y4,y5,y6,y7⟩⟩,MsgS.bare 3 f t,⟨wk_msg (m:=⟨3,f,t,.zero,⟨⟨c1,c2,c3,c4,c5,c6,c7,c8⟩,cs⟩,⟨x1,x2,x3,x4,x5,x6⟩,⟨b1,b2,b3,b4,b5⟩,hh,⟨y1,y2,y3,y4,y5,y6,y7⟩⟩) (V.Wk.refl _) (V.Wk.refl _) (V.Wk.refl _),wk_msg (m:=MsgS.bare 3 f t) wk_ce wk_ac wk_bl,⟨shm.1,shm.2.1,shm.2.2⟩,shb⟩,key _ (may_of ⟨⟨e1,e2⟩,⟨e3,e4⟩,e5⟩ (by subst e7;simp[MsgS.has,e6]) (by simp[MsgS.named,MsgS.bare]))⟩,fun e7=>no fun h=>by have:=h.2.1;simp[MsgS.has,e6,e7]at this⟩,fun e6=>no fun h=>by have:=h.2.1;simp[MsgS.has,e6]at this⟩
 by_cases k5:k=5
 ·subst k5
  have w:IntKind.i64.wrap ((IntKind.i64.wrap 6).tdiv 2)=3:=by decide
  simp -implicitDefEqProofs only[pf23,lh,hA,SMy_eq,hS,ZMs_eq,w,go_sem,↓reduceIte]
  have shb:MsgS.sh (MsgS.bare 5 f t):=(MsgS.bare_ok 5 f t).sh
  refine⟨fun e=>no fun h=>by have:=h.1.1.1;dsimp only at this;omega,fun e1=>⟨fun e=>no fun h=>by have:=h.1.1.2;dsimp only at this;omega,fun e2=>⟨fun e=>no fun h=>by have:=h.1.2.1.1;dsimp only at this;omega,fun e3=>⟨fun e=>no fun h=>by have:=h.1.2.1.2;dsimp only at this;omega,fun e4=>⟨fun e=>no fun h=>h.1.2.2 e,fun e5=> ?_⟩⟩⟩⟩⟩
  exact⟨o1,fun e6=>⟨fun e7=>⟨⟨5,f,t,.zero,⟨⟨c1,c2,c3,c4,c5,c6,c7,c8⟩,cs⟩,⟨x1,x2,x3,x4,x5,x6⟩,⟨b1,b2,b3,b4,b5⟩,hh,⟨y1,y2,y3,y4,y5,y6,y7⟩⟩,MsgS.bare 5 f t,⟨wk_msg (m:=⟨5,f,t,.zero,⟨⟨c1,c2,c3,c4,c5,c6,c7,c8⟩,cs⟩,⟨x1,x2,x3,x4,x5,x6⟩,⟨b1,b2,b3,b4,b5⟩,hh,⟨y1,y2,y3,y4,y5,y6,y7⟩⟩) (V.Wk.refl _) (V.Wk.refl _) (V.Wk.refl _),wk_msg (m:=MsgS.bare 5 f t) wk_ce wk_ac wk_bl,⟨shm.1,shm.2.1,shm.2.2⟩,shb⟩,key _ (may_of ⟨⟨e1,e2⟩,⟨e3,e4⟩,e5⟩ (by subst e7;simp[MsgS.has,e6]) (by simp[MsgS.named,MsgS.bare]))⟩,fun e7=>no fun h=>by have:=h.2.1;simp[MsgS.has,e6,e7]at this⟩,fun e6=>no fun h=>by have:=h.2.1;simp[MsgS.has,e6]at this⟩
 by_cases k4:k=4
 ·subst k4
  have w:IntKind.i64.wrap (Int.tdiv 4 2)=2:=by decide
  simp -implicitDefEqProofs only[pf23,lh,hC,ZMc_eq,hS,ZMs_eq,w,go_sem,↓reduceIte]
  have shb:MsgS.sh (MsgS.bare 4 f t):=(MsgS.bare_ok 4 f t).sh
  refine⟨fun e=>no fun h=>by have:=h.1.1.1;dsimp only at this;omega,fun e1=>⟨fun e=>no fun h=>by have:=h.1.1.2;dsimp only at this;omega,fun e2=>⟨fun e=>no fun h=>by have:=h.1.2.1.1;dsimp only at this;omega,fun e3=>⟨fun e=>no fun h=>by have:=h.1.2.1.2;dsimp only at this;omega,fun e4=>⟨fun e=>no fun h=>h.1.2.2 e,fun e5=> ?_⟩⟩⟩⟩⟩
  exact⟨⟨c1,c2,c3,c4,c5,c6,c7,c8⟩,_,cs,⟨rfl,.inl rfl,o2.1,o3⟩,fun e6=>⟨fun e7=>⟨⟨4,f,t,⟨a1,a2,a3,a4,a5,a6,a7,a8⟩,.zero,⟨x1,x2,x3,x4,x5,x6⟩,⟨b1,b2,b3,b4,b5⟩,hh,⟨y1,y2,y3,y4,y5,y6,y7⟩⟩,MsgS.bare 4 f t,⟨wk_msg (m:=⟨4,f,t,⟨a1,a2,a3,a4,a5,a6,a7,a8⟩,.zero,⟨x1,x2,x3,x4,x5,x6⟩,⟨b1,b2,b3,b4,b5⟩,hh,⟨y1,y2,y3,y4,y5,y6,y7⟩⟩) wk_ce (V.Wk.refl _) (V.Wk.refl _),wk_msg (m:=MsgS.bare 4 f t) wk_ce wk_ac wk_bl,⟨(show CertS.zero.sigs.length < 1000000 by decide),shm.2.1,shm.2.2⟩,shb⟩,key _ (may_of ⟨⟨e1,e2⟩,⟨e3,e4⟩,e5⟩ (by subst e7;simp[MsgS.has,e6]) (by simp[MsgS.named,MsgS.bare]))⟩,fun e7=>no fun h=>by have:=h.2.1;simp[MsgS.has,e6,e7]at this⟩,fun e6=>no fun h=>by have:=h.2.1;simp[MsgS.has,e6]at this⟩
 by_cases k6:k=6
 ·subst k6
  have w:IntKind.i64.wrap (Int.tdiv 6 2)=3:=by decide
  simp -implicitDefEqProofs only[pf23,lh,hC,ZMc_eq,hS,ZMs_eq,w,go_sem,↓reduceIte]
  have shb:MsgS.sh (MsgS.bare 6 f t):=(MsgS.bare_ok 6 f t).sh
  refine⟨fun e=>no fun h=>by have:=h.1.1.1;dsimp only at this;omega,fun e1=>⟨fun e=>no fun h=>by have:=h.1.1.2;dsimp only at this;omega,fun e2=>⟨fun e=>no fun h=>by have:=h.1.2.1.1;dsimp only at this;omega,fun e3=>⟨fun e=>no fun h=>by have:=h.1.2.1.2;dsimp only at this;omega,fun e4=>⟨fun e=>no fun h=>h.1.2.2 e,fun e5=> ?_⟩⟩⟩⟩⟩
  exact⟨⟨c1,c2,c3,c4,c5,c6,c7,c8⟩,_,cs,⟨rfl,.inl rfl,o2.1,o3⟩,fun e6=>⟨fun e7=>⟨⟨6,f,t,⟨a1,a2,a3,a4,a5,a6,a7,a8⟩,.zero,⟨x1,x2,x3,x4,x5,x6⟩,⟨b1,b2,b3,b4,b5⟩,hh,⟨y1,y2,y3,y4,y5,y6,y7⟩⟩,MsgS.bare 6 f t,⟨wk_msg (m:=⟨6,f,t,⟨a1,a2,a3,a4,a5,a6,a7,a8⟩,.zero,⟨x1,x2,x3,x4,x5,x6⟩,⟨b1,b2,b3,b4,b5⟩,hh,⟨y1,y2,y3,y4,y5,y6,y7⟩⟩) wk_ce (V.Wk.refl _) (V.Wk.refl _),wk_msg (m:=MsgS.bare 6 f t) wk_ce wk_ac wk_bl,⟨(show CertS.zero.sigs.length < 1000000 by decide),shm.2.1,shm.2.2⟩,shb⟩,key _ (may_of ⟨⟨e1,e2⟩,⟨e3,e4⟩,e5⟩ (by subst e7;simp[MsgS.has,e6]) (by simp[MsgS.named,MsgS.bare]))⟩,fun e7=>no fun h=>by have:=h.2.1;simp[MsgS.has,e6,e7]at this⟩,fun e6=>no fun h=>by have:=h.2.1;simp[MsgS.has,e6]at this⟩
 by_cases k2:k=2
 ·subst k2
  simp -implicitDefEqProofs only[pf23,lh,hB,ZKm_eq,hX,ZM10_eq,hS,ZMs_eq,go_sem,↓reduceIte]
  have shb:MsgS.sh (MsgS.bare 2 f t):=(MsgS.bare_ok 2 f t).sh
  refine⟨fun e=>no fun h=>by have:=h.1.1.1;dsimp only at this;omega,fun e1=>⟨fun e=>no fun h=>by have:=h.1.1.2;dsimp only at this;omega,fun e2=>⟨fun e=>no fun h=>by have:=h.1.2.1.1;dsimp only at this;omega,fun e3=>⟨fun e=>no fun h=>by have:=h.1.2.1.2;dsimp only at this;omega,fun e4=>⟨fun e=>no fun h=>h.1.2.2 e,fun e5=> ?_⟩⟩⟩⟩⟩
  exact⟨⟨b1,b2,b3,b4,b5⟩,_,⟨rfl,.inl (.inl rfl),o6.2⟩,fun e6=>⟨fun e7=>⟨x5,⟨.inl rfl,o4,o5⟩,fun e8=>⟨⟨2,f,t,⟨a1,a2,a3,a4,a5,a6,a7,a8⟩,⟨⟨c1,c2,c3,c4,c5,c6,c7,c8⟩,cs⟩,.zero,.zero,hh,⟨y1,y2,y3,y4,y5,y6,y7⟩⟩,MsgS.bare 2 f t,⟨wk_msg (m:=⟨2,f,t,⟨a1,a2,a3,a4,a5,a6,a7,a8⟩,⟨⟨c1,c2,c3,c4,c5,c6,c7,c8⟩,cs⟩,.zero,.zero,hh,⟨y1,y2,y3,y4,y5,y6,y7⟩⟩) (V.Wk.refl _) wk_ac wk_bl,wk_msg (m:=MsgS.bare 2 f t) wk_ce wk_ac wk_bl,⟨shm.1,(show AccS.zero.fr.length < 1000000 by decide),(show BlkS.zero.txs.length < 1000000 by decide)⟩,shb⟩,key _ (may_of ⟨⟨e1,e2⟩,⟨e3,e4⟩,e5⟩ (by simp[MsgS.has,e6,e7,e8]) (by simp[MsgS.named,MsgS.bare]))⟩,fun e8=>no fun h=>by have:=h.2.1;simp[MsgS.has,e6,e7,e8]at this⟩,fun e7=>no fun h=>by have:=h.2.1;simp[MsgS.has,e6]at this;omega⟩,fun e6=>no fun h=>by have:=h.2.1;simp[MsgS.has,e6]at this⟩
 by_cases k8:k=8
 ·subst k8
  simp -implicitDefEqProofs only[pf23,lh,hB,ZKm_eq,hX,ZM10_eq,hS,ZMs_eq,go_sem,↓reduceIte]
  have shb:MsgS.sh (MsgS.bare 8 f t):=(MsgS.bare_ok 8 f t).sh
  refine⟨fun e=>no fun h=>by have:=h.1.1.1;dsimp only at this;omega,fun e1=>⟨fun e=>no fun h=>by have:=h.1.1.2;dsimp only at this;omega,fun e2=>⟨fun e=>no fun h=>by have:=h.1.2.1.1;dsimp only at this;omega,fun e3=>⟨fun e=>no fun h=>by have:=h.1.2.1.2;dsimp only at this;omega,fun e4=>⟨fun e=>no fun h=>h.1.2.2 e,fun e5=> ?_⟩⟩⟩⟩⟩
  exact⟨⟨b1,b2,b3,b4,b5⟩,_,⟨rfl,.inl (.inl rfl),o6.2⟩,fun e6=>⟨fun e7=>⟨⟨8,f,t,⟨a1,a2,a3,a4,a5,a6,a7,a8⟩,⟨⟨c1,c2,c3,c4,c5,c6,c7,c8⟩,cs⟩,⟨x1,x2,x3,x4,x5,x6⟩,.zero,hh,⟨y1,y2,y3,y4,y5,y6,y7⟩⟩,MsgS.bare 8 f t,⟨wk_msg (m:=⟨8,f,t,⟨a1,a2,a3,a4,a5,a6,a7,a8⟩,⟨⟨c1,c2,c3,c4,c5,c6,c7,c8⟩,cs⟩,⟨x1,x2,x3,x4,x5,x6⟩,.zero,hh,⟨y1,y2,y3,y4,y5,y6,y7⟩⟩) (V.Wk.refl _) (V.Wk.refl _) wk_bl,wk_msg (m:=MsgS.bare 8 f t) wk_ce wk_ac wk_bl,⟨shm.1,shm.2.1,(show BlkS.zero.txs.length < 1000000 by decide)⟩,shb⟩,key _ (may_of ⟨⟨e1,e2⟩,⟨e3,e4⟩,e5⟩ (by simp[MsgS.has,e6,e7]) (by simp[MsgS.named,MsgS.bare]))⟩,fun e7=>no fun h=>by have:=h.2.1;simp[MsgS.has,e6]at this;omega⟩,fun e6=>no fun h=>by have:=h.2.1;simp[MsgS.has,e6]at this⟩
 by_cases k7:k=7
 ·subst k7
  simp -implicitDefEqProofs only[pf23,lh,hS,ZMs_eq,go_sem,↓reduceIte]
  have shb:MsgS.sh (MsgS.bare 7 f t):=(MsgS.bare_ok 7 f t).sh
  refine⟨fun e=>no fun h=>by have:=h.1.1.1;dsimp only at this;omega,fun e1=>⟨fun e=>no fun h=>by have:=h.1.1.2;dsimp only at this;omega,fun e2=>⟨fun e=>no fun h=>by have:=h.1.2.1.1;dsimp only at this;omega,fun e3=>⟨fun e=>no fun h=>by have:=h.1.2.1.2;dsimp only at this;omega,fun e4=>⟨fun e=>no fun h=>h.1.2.2 e,fun e5=> ?_⟩⟩⟩⟩⟩
  exact⟨⟨7,f,t,⟨a1,a2,a3,a4,a5,a6,a7,a8⟩,⟨⟨c1,c2,c3,c4,c5,c6,c7,c8⟩,cs⟩,⟨x1,x2,x3,x4,x5,x6⟩,⟨b1,b2,b3,b4,b5⟩,zero32,⟨y1,y2,y3,y4,y5,y6,y7⟩⟩,MsgS.bare 7 f t,⟨wk_msg (m:=⟨7,f,t,⟨a1,a2,a3,a4,a5,a6,a7,a8⟩,⟨⟨c1,c2,c3,c4,c5,c6,c7,c8⟩,cs⟩,⟨x1,x2,x3,x4,x5,x6⟩,⟨b1,b2,b3,b4,b5⟩,zero32,⟨y1,y2,y3,y4,y5,y6,y7⟩⟩) (V.Wk.refl _) (V.Wk.refl _) (V.Wk.refl _),wk_msg (m:=MsgS.bare 7 f t) wk_ce wk_ac wk_bl,⟨shm.1,shm.2.1,shm.2.2⟩,shb⟩,key _ (may_of ⟨⟨e1,e2⟩,⟨e3,e4⟩,e5⟩ (by simp[MsgS.has,true_or]) (by simp[MsgS.named,MsgS.bare]))⟩
 by_cases k9:k=9
 ·subst k9
  simp -implicitDefEqProofs only[pf23,lh,hT,ZTm_eq,hS,ZMs_eq,go_sem,↓reduceIte]
  have shb:MsgS.sh (MsgS.bare 9 f t):=(MsgS.bare_ok 9 f t).sh
  refine⟨fun e=>no fun h=>by have:=h.1.1.1;dsimp only at this;omega,fun e1=>⟨fun e=>no fun h=>by have:=h.1.1.2;dsimp only at this;omega,fun e2=>⟨fun e=>no fun h=>by have:=h.1.2.1.1;dsimp only at this;omega,fun e3=>⟨fun e=>no fun h=>by have:=h.1.2.1.2;dsimp only at this;omega,fun e4=>⟨fun e=>no fun h=>h.1.2.2 e,fun e5=> ?_⟩⟩⟩⟩⟩
  exact⟨⟨y1,y2,y3,y4,y5,y6,y7⟩,⟨rfl,o8,o9⟩,fun e6=>⟨⟨9,f,t,⟨a1,a2,a3,a4,a5,a6,a7,a8⟩,⟨⟨c1,c2,c3,c4,c5,c6,c7,c8⟩,cs⟩,⟨x1,x2,x3,x4,x5,x6⟩,⟨b1,b2,b3,b4,b5⟩,hh,.zero⟩,MsgS.bare 9 f t,⟨wk_msg (m:=⟨9,f,t,⟨a1,a2,a3,a4,a5,a6,a7,a8⟩,⟨⟨c1,c2,c3,c4,c5,c6,c7,c8⟩,cs⟩,⟨x1,x2,x3,x4,x5,x6⟩,⟨b1,b2,b3,b4,b5⟩,hh,.zero⟩) (V.Wk.refl _) (V.Wk.refl _) (V.Wk.refl _),wk_msg (m:=MsgS.bare 9 f t) wk_ce wk_ac wk_bl,⟨shm.1,shm.2.1,shm.2.2⟩,shb⟩,key _ (may_of ⟨⟨e1,e2⟩,⟨e3,e4⟩,e5⟩ (by simp[MsgS.has,e6]) (by simp[MsgS.named,MsgS.bare]))⟩,fun e6=>no fun h=>by have:=h.2.1;simp[MsgS.has,e6]at this⟩
 by_cases k10:k=10
 ·subst k10
  simp -implicitDefEqProofs only[pf23,lh,hX,ZM10_eq,hS,ZMs_eq,go_sem,↓reduceIte]
  have shb:MsgS.sh (MsgS.bare 10 f t):=(MsgS.bare_ok 10 f t).sh
  refine⟨fun e=>no fun h=>by have:=h.1.1.1;dsimp only at this;omega,fun e1=>⟨fun e=>no fun h=>by have:=h.1.1.2;dsimp only at this;omega,fun e2=>⟨fun e=>no fun h=>by have:=h.1.2.1.1;dsimp only at this;omega,fun e3=>⟨fun e=>no fun h=>by have:=h.1.2.1.2;dsimp only at this;omega,fun e4=>⟨fun e=>no fun h=>h.1.2.2 e,fun e5=> ?_⟩⟩⟩⟩⟩
  exact⟨x5,⟨.inl rfl,o4,o5⟩,fun e6=>⟨⟨10,f,t,⟨a1,a2,a3,a4,a5,a6,a7,a8⟩,⟨⟨c1,c2,c3,c4,c5,c6,c7,c8⟩,cs⟩,.zero,⟨b1,b2,b3,b4,b5⟩,hh,⟨y1,y2,y3,y4,y5,y6,y7⟩⟩,MsgS.bare 10 f t,⟨wk_msg (m:=⟨10,f,t,⟨a1,a2,a3,a4,a5,a6,a7,a8⟩,⟨⟨c1,c2,c3,c4,c5,c6,c7,c8⟩,cs⟩,.zero,⟨b1,b2,b3,b4,b5⟩,hh,⟨y1,y2,y3,y4,y5,y6,y7⟩⟩) (V.Wk.refl _) wk_ac (V.Wk.refl _),wk_msg (m:=MsgS.bare 10 f t) wk_ce wk_ac wk_bl,⟨shm.1,(show AccS.zero.fr.length < 1000000 by decide),shm.2.2⟩,shb⟩,key _ (may_of ⟨⟨e1,e2⟩,⟨e3,e4⟩,e5⟩ (by simp[MsgS.has,e6]) (by simp[MsgS.named,MsgS.bare]))⟩,fun e6=>no fun h=>by have:=h.2.1;simp[MsgS.has,e6]at this⟩
 simp -implicitDefEqProofs only[pf23,lh,k1,k2,k3,k4,k5,k6,k7,k8,k9,k10,go_sem,↓reduceIte]
 refine⟨fun e=>no fun h=>by have:=h.1.1.1;dsimp only at this;omega,fun e1=>⟨fun e=>no fun h=>by have:=h.1.1.2;dsimp only at this;omega,fun e2=>⟨fun e=>no fun h=>by have:=h.1.2.1.1;dsimp only at this;omega,fun e3=>⟨fun e=>no fun h=>by have:=h.1.2.1.2;dsimp only at this;omega,fun e4=>⟨fun e=>no fun h=>h.1.2.2 e,fun e5=> ?_⟩⟩⟩⟩⟩
 exact no fun h=>by have:=h.2.1;simp[MsgS.has,k1,k2,k3,k4,k5,k6,k7,k8,k9,k10]at this
def pf22:PF:=
 PF.mk 1 3 25 ((PC.reg [nn (.v 1) (.box (.v 0)),nn (.v 2) (.mv true (.c (.v (.bool false))))]).seq ((PC.reg [nn (.t 3) (.fadr 4 104 (.v 1)),nn (.t 4)
  (.fadr 1 101 (.t 3)),nn (.t 5) (.load 1 false (.t 4)),nn (.t 6) (.len (.t 5)),nn (.t 7) (.bin .leq (.t 6) (.c (.v (.int .i64 30)))),nn (.t 8)
  (.mv false (.t 7)),⟨.t 9,.fadr 5 206 (.v 1),some (.t 8,true)⟩,⟨.t 10,.fadr 4 35 (.t 9),some (.t 8,true)⟩,⟨.t 11,.load 1 false (.t 10),some
  (.t 8,true)⟩,⟨.t 12,.len (.t 11),some (.t 8,true)⟩,⟨.t 13,.bin .leq (.t 12) (.c (.v (.int .i64 30))),some (.t 8,true)⟩,nn (.t 14) (.pick
  (.t 8) (.t 13) (.c (.v (.bool false)))),nn (.t 15) (.mv false (.t 14)),⟨.t 16,.fadr 6 274 (.v 1),some (.t 15,true)⟩,⟨.t 17,.load 36 true (.t
  16),some (.t 15,true)⟩,⟨.t 18,.call 50 [.t 17],some (.t 15,true)⟩,nn (.t 19) (.pick (.t 15) (.t 18) (.c (.v (.bool false)))),nn (.t 20) (.mv
  false (.t 19)),⟨.t 21,.fadr 8 342 (.v 1),some (.t 20,true)⟩,⟨.t 22,.load 7 true (.t 21),some (.t 20,true)⟩,⟨.t 23,.call 26 [.t 22],some
  (.t 20,true)⟩,nn (.t 24) (.pick (.t 20) (.t 23) (.c (.v (.bool false)))),ma 2 24]).seq PC.ret)) [(.v 2,none)]
def lp50_0:PC:=
 ((PC.reg [mm 4 3,nn (.t 5) (.fadr 4 35 (.v 1)),nn (.t 6) (.load 1 false (.t 5)),nn (.t 7) (.len (.t 6)),nn (.t 8) (.bin .lss (.t 4) (.t 7)),nn (.t
  9) (.mv false (.t 8)),gm 10 3 9 true,⟨.t 11,.bin .leq (.t 10) (.c (.v (.int .i64 20))),some (.t 9,true)⟩,nn (.t 12) (.pick (.t 9) (.t 11) (.c
  (.v (.bool false))))]).seq (PC.cond (.t 12) PC.skip (PC.exit 0))).seq ((PC.block 1 ((PC.reg [nn (.t 15) (.fadr 4 35 (.v 1)),nn (.t 16) (.load 1
  false (.t 15)),mm 17 3,nn (.t 18) (.iadrS 7 (.t 16) (.t 17)),nn (.t 19) (.load 7 true (.t 18)),nn (.t 20) (.call 26 [.t 19]),nn (.t 21) (.un
  .not (.t 20))]).seq (PC.cond (.t 21) ((PC.reg [nn (.v 2) (.mv true (.c (.v (.bool false))))]).seq PC.ret) PC.skip))).seq (PC.reg [mm 13 3,nn (.t 14)
  (.bin .add (.t 13) (.c (.v (.int .i64 1)))),ma 3 14]))
def pf50:PF:=
 PF.mk 1 4 26 ((PC.reg [nn (.v 1) (.box (.v 0)),nn (.v 2) (.mv true (.c (.v (.bool false))))]).seq (((PC.reg [nn (.v 3) (.mv true (.c (.v (.int .i64
  0))))]).seq (PC.block 0 (PC.loop [1,3] lp50_0))).seq ((PC.reg [nn (.t 22) (.fadr 4 35 (.v 1)),nn (.t 23) (.load 1 false (.t 22)),nn (.t 24) (.len
  (.t 23)),nn (.t 25) (.bin .leq (.t 24) (.c (.v (.int .i64 20)))),ma 2 25]).seq PC.ret))) [(.v 2,none)]
def pf26:PF:=
 PF.mk 1 3 13 ((PC.reg [nn (.v 1) (.box (.v 0)),nn (.v 2) (.mv true (.c (.v (.bool false))))]).seq ((PC.reg [nn (.t 3) (.fadr 5 5 (.v 1)),nn (.t 4)
  (.load 1 false (.t 3)),nn (.t 5) (.lenT (.t 4)),nn (.t 6) (.bin .leq (.t 5) (.c (.v (.int .i64 100)))),nn (.t 7) (.mv false (.t 6)),⟨.t 8,.fadr
  6 6 (.v 1),some (.t 7,true)⟩,⟨.t 9,.load 1 false (.t 8),some (.t 7,true)⟩,⟨.t 10,.lenT (.t 9),some (.t 7,true)⟩,⟨.t 11,.bin .leq (.t 10)
  (.c (.v (.int .i64 400))),some (.t 7,true)⟩,nn (.t 12) (.pick (.t 7) (.t 11) (.c (.v (.bool false)))),ma 2 12]).seq PC.ret)) [(.v 2,none)]
def lightT (t:TxS):Bool:=decide (t.key.size≤100∧t.val.size≤400)
def lightB (b:BlkS):Bool:=decide (b.txs.length≤20∧∀t∈b.txs,lightT t=true)
def lightM (m:MsgS):Bool:=decide (m.ce.sigs.length≤30∧m.ac.fr.length≤30)&&lightB m.bl&&lightT m.tx
def ZLt:Spec1
 |[y],G,Q=>∃t:TxS,y=t.v∧Q (.v (.bool (lightT t))) G
 |_,_,_=>False
theorem ZLt_eq {y}:ZLt [y] G Q=(∃t:TxS,y=t.v∧Q (.v (.bool (lightT t))) G):=rfl
def ZLb:Spec1
 |[y],G,Q=>∃b:BlkS,y=b.v∧Q (.v (.bool (lightB b))) G
 |_,_,_=>False
theorem ZLb_eq {y}:ZLb [y] G Q=(∃b:BlkS,y=b.v∧Q (.v (.bool (lightB b))) G):=rfl
def ZLm:Spec1
 |[y],G,Q=>∃m:MsgS,V.Wk y m.v∧Q (.v (.bool (lightM m))) G
 |_,_,_=>False
theorem ZLm_eq {y}:ZLm [y] G Q=(∃m:MsgS,V.Wk y m.v∧Q (.v (.bool (lightM m))) G):=rfl
theorem walk26 {t:TxS} (h:Q (.v (.bool (lightT t))) G):Wf E C pf26 [t.v] G Q:=by
 have key:∀c:Bool,lightT t=c→Q (.v (.bool c)) G:=fun c e=>by rw[←e];exact h
 clear h
 obtain⟨y1,y2,y3,y4,y5,y6,y7⟩:=t
 show Wf E C pf26 [.agg [.int .i64 y1,.int .i64 y2,.int .i64 y3,.int .i64 y4,.int .i64 y5,.str y6,.str y7]] G Q
 simp -implicitDefEqProofs only[pf26,go_sem,↓reduceIte]
 refine⟨fun h1=>key _ ?_,fun h1=>key _ ?_⟩
 ·unfold lightT;dsimp only;rw[decide_eq_decide];constructor<;>intro h<;>omega
 ·unfold lightT;dsimp only;rw[decide_eq_false_iff_not];omega
theorem loop50 (hT:Abs.look l 26=some ZLt) {QQ:Ex→St→Prop} {b:BlkS} {L:List Bx} {n:Nat} (hL:L=[⟨false,b.v⟩]) (hn:n=min b.txs.length 21)
  (hx:∀ts,(∀t∈b.txs.take n,lightT t=true)→QQ (.exit 0) ⟨[none,some (.lp 0 []),none,some (.v (.int .i64 (n:Nat)))],ts,L,G⟩) (hr:∀ts (v3:Option D) t,t∈b.txs→lightT t=false→QQ .ret ⟨[none,some (.lp 0 []),some (.v (.bool false)),v3],ts,L,G⟩):
  ∀(e i:Nat),i+e=n→(∀t∈b.txs.take i,lightT t=true)→WL (W E (specOf l) lp50_0) [1,3] QQ (e+1) ⟨[none,some (.lp 0 []),none,some (.v (.int .i64 (i:Nat)))],[],L,G⟩:=by
 subst hL
 intro e
 induction e with
 |zero=>
  intro i hi ht
  obtain rfl:i=n:=by omega
  refine WL_in lp50_0.eq_1 ?_
  by_cases c1:(i:Int) < (b.txs.length:Int)
  ·have c2:¬(i:Int)≤20:=by omega
   simp -implicitDefEqProofs only[BlkS.v,List.length_map,c1,c2,go_sem,↓reduceIte]
   exact hx _ ht
  ·simp -implicitDefEqProofs only[BlkS.v,List.length_map,c1,go_sem,↓reduceIte]
   exact hx _ ht
 |succ e ih=>
  intro i hi ht
  have c1:(i:Int) < (b.txs.length:Int):=by omega
  have c2:(i:Int)≤20:=by omega
  have c3:(0:Int)≤i:=by omega
  have w1:IntKind.i64.wrap ((i:Int)+1)=((i+1:Nat):Int):=wc (by omega) (by omega)
  obtain⟨p,r,hp⟩:∃p r,b.txs.drop i=p::r:=by
   cases hq:b.txs.drop i with
   |nil=>have:=drop_none hq;omega
   |cons p r=>exact⟨p,r,rfl⟩
  have a1:=at_drop2 hp
  have g1:(b.txs.map TxS.v).getD i V.nilp=p.v:=getD_tx hp
  obtain⟨zp,zq⟩:=TxS.vs p
  unfold V.isAgg at zq
  refine WL_in lp50_0.eq_1 ?_
  simp -implicitDefEqProofs only[BlkS.v,c1,c2,c3,w1,g1,zp,zq,Int.toNat_natCast,List.length_map,hT,ZLt_eq,go_sem,↓reduceIte]
  refine⟨p,rfl,fun hf=>hr _ _ p (List.mem_of_getElem? a1) hf,fun hf=>ih (i+1) (by omega) (fun t ht2=> ?_)⟩
  rw[List.take_add_one,a1]at ht2
  rcases List.mem_append.1 ht2 with h|h
  ·exact ht t h
  ·simp at h;rw[h];exact hf
theorem walk50 (hT:Abs.look l 26=some ZLt) {b:BlkS} (h:Q (.v (.bool (lightB b))) G):Wf E (specOf l) pf50 [b.v] G Q:=by
 have key:∀c:Bool,lightB b=c→Q (.v (.bool c)) G:=fun c e=>by rw[←e];exact h
 simp -implicitDefEqProofs only[pf50,go_sem,↓reduceIte]
 refine⟨min b.txs.length 21+1,?_⟩
 simp -implicitDefEqProofs only[go_sem,↓reduceIte]
 refine loop50 (b:=b) (n:=min b.txs.length 21) hT rfl rfl (fun ts ht=> ?_) (fun ts v3 t ht hf=> ?_) _ 0 (by omega) (fun t ht=>by simp at ht)
 ·simp -implicitDefEqProofs only[BlkS.v,List.length_map,go_sem,↓reduceIte]
  refine key _ ?_
  unfold lightB
  rw[decide_eq_decide]
  refine⟨fun h=>by omega,fun h=>⟨by omega,fun t hm=>ht t ?_⟩⟩
  rw[List.take_of_length_le (by omega)];exact hm
 ·simp -implicitDefEqProofs only[go_sem,↓reduceIte]
  refine key _ ?_
  unfold lightB
  rw[decide_eq_false_iff_not]
  intro hh
  rw[hh.2 t ht]at hf;cases hf
theorem walk22 {m:MsgS} (hB:Abs.look l 50=some ZLb) (hT:Abs.look l 26=some ZLt) (h:Q (.v (.bool (lightM m))) G):Wf E (specOf l) pf22 [m.v] G Q:=by
 have key:∀c:Bool,lightM m=c→Q (.v (.bool c)) G:=fun c e=>by rw[←e];exact h
 clear h
 obtain⟨k,f,t,a,c,x,b,hh,y⟩:=m
 obtain⟨c,cs⟩:=c
 obtain⟨x1,x2,x3,x4,x5,x6⟩:=x
 show Wf E (specOf l) pf22 [.agg [.int .i64 k,.int .i64 f,.int .i64 t,a.v,.agg [c.v,.sle 33 (cs.map sgV)],.agg [.int .i64 x1,.int .i64 x2,.int .i64 x3,.arr .u8 32 x4,.sli .i64 x5,.arr .u8 32 x6],b.v,.arr .u8 32 hh,y.v]] G Q
 obtain⟨z1,z2⟩:=AttS.vs a
 obtain⟨z3,z4⟩:=AttS.vs c
 obtain⟨z9,z10⟩:=BlkS.vs b
 obtain⟨z11,z12⟩:=TxS.vs y
 unfold V.isAgg at z2 z4 z10 z12
 simp -implicitDefEqProofs only[pf22,z1,z2,z3,z4,z9,z10,z11,z12,hB,ZLb_eq,hT,ZLt_eq,List.length_map,go_sem,↓reduceIte]
 refine⟨fun h1=>⟨fun h2=>⟨b,rfl,fun h3=>⟨y,rfl,key _ ?_⟩,fun h3=>key _ ?_⟩,fun h2=>key _ ?_⟩,fun h1=>key _ ?_⟩
 ·unfold lightM;dsimp only;rw[h3,decide_eq_true ⟨by omega,by omega⟩];rfl
 ·unfold lightM;dsimp only;rw[h3];simp
 ·unfold lightM;dsimp only;rw[decide_eq_false (fun h=>by omega)];rfl
 ·unfold lightM;dsimp only;rw[decide_eq_false (fun h=>by omega)];rfl
structure _root_.Go.Abs.Sha.MsgS.wf (m:MsgS):Prop where
 at_:m.at_.wf
 ce:m.ce.ok
 ac:m.ac.wf
 pa:H32 m.bl.pa
 ha:H32 m.ha
theorem light_ok {m:MsgS} (h:m.wf) (hl:lightM m=true):m.ok:=by
 unfold lightM lightB lightT at hl
 rw[Bool.and_eq_true,Bool.and_eq_true,decide_eq_true_eq,decide_eq_true_eq,decide_eq_true_eq]at hl
 obtain⟨⟨⟨h1,h2⟩,h3,h4⟩,h5,h6⟩:=hl
 refine⟨h.at_,h.ce,by omega,h.ac,by omega,⟨h.pa,fun t ht=> ?_,by omega⟩,h.ha,by omega,by omega⟩
 have:=h4 t ht
 rw[decide_eq_true_eq]at this
 omega
end Go.Proofs.Ytjbglbhcbenhpaa.Sha
