/- Laws over plain values, and what functions of the program hand back; no conditions. -/
import Derived.Test.YtegamlopcdjiaaaDoorG2
import Derived.Test.YtegamlopcdjiaaaDoorG4
namespace Go.Proofs.YtegamlopcdjiaaaDoor.Sha
open Go Go.Abs Go.Abs.Sha Go.Abs.Srt
set_option linter.unusedSimpArgs false
set_option linter.unusedVariables false
set_option maxRecDepth 100000
def pf44:PF:=
 PF.mk 1 3 14 ((PC.reg [nn (.v 2) (.mv true (.c (.v (.int .i64 0))))]).seq (((PC.reg [mm 3 0,nn (.t 4) (.call 85 [.t 3]),nn (.t 5) (.un .not (.t 4)),
  nn (.t 6) (.mv false (.t 5)),gm 7 0 6 false,⟨.t 8,.bin .rem (.t 7) (.c (.v (.int .i64 2))),some (.t 6,false)⟩,⟨.t 9,.bin .eql (.t 8) (.c (.v
  (.int .i64 0))),some (.t 6,false)⟩,nn (.t 10) (.pick (.t 6) (.c (.v (.bool true))) (.t 9))]).seq (PC.cond (.t 10) ((PC.reg [nn (.v 2) (.mv true
  (.c (.v (.int .i64 0))))]).seq PC.ret) PC.skip)).seq ((PC.reg [mm 11 0,nn (.t 12) (.bin .quo (.t 11) (.c (.v (.int .i64 2)))),nn (.t 13) (.bin .add
  (.t 12) (.c (.v (.int .i64 1)))),ma 2 13]).seq PC.ret))) [(.v 2,none)]
def pf113:PF:=
 PF.mk 1 3 6 ((PC.reg [nn (.v 2) (.mv true (.c (.v (.bool false))))]).seq ((PC.reg [mm 3 0,mm 4 0,nn (.t 5) (.bin .neq (.t 3) (.t 4)),ma 2 5]).seq
  PC.ret)) [(.v 2,none)]
def pf94:PF:=
 PF.mk 2 7 20 ((PC.reg [nn (.v 4) (.mv true (.c (.v (.int .i64 0))))]).seq ((PC.reg [mm 7 0,nn (.t 8) (.call 113 [.t 7]),ma 5 8]).seq ((PC.reg [mm 9
  1,nn (.t 10) (.call 113 [.t 9]),ma 6 10]).seq (((PC.reg [mm 11 5]).seq (PC.cond (.t 11) (((PC.reg [mm 12 6]).seq (PC.cond (.t 12) ((PC.reg [nn (.v
  4) (.mv true (.c (.v (.int .i64 0))))]).seq PC.ret) PC.skip)).seq ((PC.reg [nn (.v 4) (.mv true (.c (.v (.int .i64 ((-1))))))]).seq PC.ret))
  PC.skip)).seq (((PC.reg [mm 13 6]).seq (PC.cond (.t 13) ((PC.reg [nn (.v 4) (.mv true (.c (.v (.int .i64 1))))]).seq PC.ret) PC.skip)).seq (((PC.reg
  [mm 14 0,mm 15 1,nn (.t 16) (.bin .lss (.t 14) (.t 15))]).seq (PC.cond (.t 16) ((PC.reg [nn (.v 4) (.mv true (.c (.v (.int .i64 ((-1))))))]).seq
  PC.ret) PC.skip)).seq (((PC.reg [mm 17 0,mm 18 1,nn (.t 19) (.bin .gtr (.t 17) (.t 18))]).seq (PC.cond (.t 19) ((PC.reg [nn (.v 4) (.mv true (.c
  (.v (.int .i64 1))))]).seq PC.ret) PC.skip)).seq ((PC.reg [nn (.v 4) (.mv true (.c (.v (.int .i64 0))))]).seq PC.ret)))))))) [(.v 4,none)]
def pf88:PF:=
 PF.mk 2 4 13 ((PC.reg [nn (.v 2) (.box (.v 0)),nn (.v 3) (.mv true (.c (.v (.bool false))))]).seq ((PC.reg [nn (.t 4) (.load 101 true (.v 2)),nn (.t
  5) (.call 56 [.t 4]),nn (.t 6) (.un .not (.t 5)),nn (.t 7) (.mv false (.t 6)),⟨.t 8,.fadr 0 0 (.v 2),some (.t 7,false)⟩,⟨.t 9,.load 1 false
  (.t 8),some (.t 7,false)⟩,⟨.t 10,.load 1 false (.v 1),some (.t 7,false)⟩,⟨.t 11,.bin .gtr (.t 9) (.t 10),some (.t 7,false)⟩,nn (.t 12)
  (.pick (.t 7) (.c (.v (.bool true))) (.t 11)),ma 3 12]).seq PC.ret)) [(.v 3,none)]
def pf89:PF:=
 PF.mk 2 4 10 ((PC.reg [nn (.v 2) (.box (.v 0)),nn (.v 3) (.mv true (.c (.v (.bool false))))]).seq ((PC.regD 0 [nn (.t 4) (.load 101 true (.v 2)),nn
  (.t 5) (.load 1 false (.v 1)),nn (.t 6) (.iadrS 101 (.t 5) (.c (.v (.int .i64 0)))),nn (.t 7) (.load 101 true (.t 6)),nn (.t 8) (.call 90 [.t 4,
  .t 7]),nn (.t 9) (.un .not (.t 8)),ma 3 9] []).seq PC.ret)) [(.v 3,none)]
def pf93:PF:=
 PF.mk 2 5 10 ((PC.reg [nn (.v 2) (.box (.v 0)),nn (.v 3) (.box (.v 1)),nn (.v 4) (.mv true (.c (.v (.int .i64 0))))]).seq ((PC.reg [nn (.t 5) (.fadr
  0 0 (.v 2)),nn (.t 6) (.load 1 false (.t 5)),nn (.t 7) (.fadr 0 0 (.v 3)),nn (.t 8) (.load 1 false (.t 7)),nn (.t 9) (.call 94 [.t 6,.t 8]),ma
  4 9]).seq PC.ret)) [(.v 4,none)]
def pf96:PF:=
 PF.mk 2 5 10 ((PC.reg [nn (.v 2) (.box (.v 0)),nn (.v 3) (.box (.v 1)),nn (.v 4) (.mv true (.c (.v (.bool false))))]).seq ((PC.reg [nn (.t 5) (.fadr
  0 0 (.v 2)),nn (.t 6) (.load 1 false (.t 5)),nn (.t 7) (.fadr 0 0 (.v 3)),nn (.t 8) (.load 1 false (.t 7)),nn (.t 9) (.bin .eql (.t 6) (.t 8)),
  ma 4 9]).seq PC.ret)) [(.v 4,none)]
def pf80:PF:=
 PF.mk 3 5 25 ((PC.reg [nn (.v 3) (.box (.v 0)),nn (.v 4) (.mv true (.c (.v (.bool false))))]).seq ((PC.reg [nn (.t 5) (.load 101 true (.v 3)),nn (.t
  6) (.call 56 [.t 5]),nn (.t 7) (.un .not (.t 6)),nn (.t 8) (.mv false (.t 7)),⟨.t 9,.fadr 1 1 (.v 3),some (.t 8,false)⟩,⟨.t 10,.load 1 false
  (.t 9),some (.t 8,false)⟩,⟨.t 11,.bin .neq (.t 10) (.c (.v (.int .i64 1))),some (.t 8,false)⟩,nn (.t 12) (.pick (.t 8) (.c (.v (.bool true)))
  (.t 11)),nn (.t 13) (.mv false (.t 12)),⟨.t 14,.fadr 2 2 (.v 3),some (.t 13,false)⟩,⟨.t 15,.load 1 false (.t 14),some (.t 13,false)⟩,⟨.t
  16,.load 1 false (.v 1),some (.t 13,false)⟩,⟨.t 17,.bin .neq (.t 15) (.t 16),some (.t 13,false)⟩,nn (.t 18) (.pick (.t 13) (.c (.v (.bool
  true))) (.t 17)),nn (.t 19) (.mv false (.t 18)),⟨.t 20,.fadr 0 0 (.v 3),some (.t 19,false)⟩,⟨.t 21,.load 1 false (.t 20),some (.t 19,
  false)⟩,⟨.t 22,.load 1 false (.v 2),some (.t 19,false)⟩,⟨.t 23,.bin .gtr (.t 21) (.t 22),some (.t 19,false)⟩,nn (.t 24) (.pick (.t 19) (.c
  (.v (.bool true))) (.t 23)),ma 4 24]).seq PC.ret)) [(.v 4,none)]
def pf105:PF:=
 PF.mk 2 5 10 ((PC.reg [nn (.v 2) (.box (.v 0)),nn (.v 3) (.box (.v 1)),nn (.v 4) (.mv true (.c (.v (.int .i64 0))))]).seq ((PC.reg [nn (.t 5) (.fadr
  0 0 (.v 2)),nn (.t 6) (.load 1 false (.t 5)),nn (.t 7) (.fadr 0 0 (.v 3)),nn (.t 8) (.load 1 false (.t 7)),nn (.t 9) (.call 94 [.t 6,.t 8]),ma
  4 9]).seq PC.ret)) [(.v 4,none)]
def pf106:PF:=
 PF.mk 2 5 10 ((PC.reg [nn (.v 2) (.box (.v 0)),nn (.v 3) (.box (.v 1)),nn (.v 4) (.mv true (.c (.v (.bool false))))]).seq ((PC.reg [nn (.t 5) (.fadr
  0 0 (.v 2)),nn (.t 6) (.load 1 false (.t 5)),nn (.t 7) (.fadr 0 0 (.v 3)),nn (.t 8) (.load 1 false (.t 7)),nn (.t 9) (.bin .eql (.t 6) (.t 8)),
  ma 4 9]).seq PC.ret)) [(.v 4,none)]
attribute [local irreducible] W Wops WopsD WL Wop WopD
variable {E:Env} {C:Abs.Spec} {l:List (Nat×Spec1)} {G:List (Nat×V)} {Q:R→List (Nat×V)→Prop}
set_option maxHeartbeats 1000000
def cmpI (a b:Int):Int:=if a < b then -1 else if b < a then 1 else 0
def ZQu:Spec1
 |[.int .i64 n],G,Q=>I64 n∧Q (.v (.int .i64 (quo n))) G
 |_,_,_=>False
theorem ZQu_eq {n}:ZQu [.int .i64 n] G Q=(I64 n∧Q (.v (.int .i64 (quo n))) G):=rfl
def ZNan:Spec1
 |[.int .i64 n],G,Q=>Q (.v (.bool false)) G
 |_,_,_=>False
theorem ZNan_eq {n}:ZNan [.int .i64 n] G Q=(Q (.v (.bool false)) G):=rfl
def ZCmp:Spec1
 |[.int .i64 a,.int .i64 b],G,Q=>Q (.v (.int .i64 (cmpI a b))) G
 |_,_,_=>False
theorem ZCmp_eq {a b}:ZCmp [.int .i64 a,.int .i64 b] G Q=(Q (.v (.int .i64 (cmpI a b))) G):=rfl
def ZP1 (kt:List Int):Spec1
 |[.agg [.int .i64 a1,.int .i64 a2,.int .i64 a3,.int .i64 a4,.arr .u8 32 a5,.int .i64 a6,.arr .u8 32 a7,.arr .u8 32 a8],.ptr id],G,Q=>∃n,(Abs.look G id=some (.int .i64 n)∧(⟨a1,a2,a3,a4,a5,a6,a7,a8⟩:AttS).wf)∧Q (.v (.bool (!((⟨a1,a2,a3,a4,a5,a6,a7,a8⟩:AttS).right kt)||decide (n < a1)))) G
 |_,_,_=>False
def ZP2:Spec1
 |[.agg [.int .i64 a1,.int .i64 a2,.int .i64 a3,.int .i64 a4,.arr .u8 32 a5,.int .i64 a6,.arr .u8 32 a7,.arr .u8 32 a8],.ptr id],G,Q=>∃(b:AttS) (r:List V),Abs.look G id=some (.sle 101 (b.v::r))∧Q (.v (.bool (!((⟨a1,a2,a3,a4,a5,a6,a7,a8⟩:AttS).alike b)))) G
 |_,_,_=>False
def ZP3 (kt:List Int):Spec1
 |[.agg [.int .i64 a1,.int .i64 a2,.int .i64 a3,.int .i64 a4,.arr .u8 32 a5,.int .i64 a6,.arr .u8 32 a7,.arr .u8 32 a8],.ptr i1,.ptr i2],G,Q=>∃v n,(Abs.look G i1=some (.int .i64 v)∧Abs.look G i2=some (.int .i64 n)∧(⟨a1,a2,a3,a4,a5,a6,a7,a8⟩:AttS).wf)∧Q (.v (.bool (!((⟨a1,a2,a3,a4,a5,a6,a7,a8⟩:AttS).right kt)|| !decide (a2=1)|| !decide (a3=v)||decide (n < a1)))) G
 |_,_,_=>False
def ZCb:Spec1
 |[.agg [.int .i64 a1,.int .i64 a2,.int .i64 a3,.int .i64 a4,.arr .u8 32 a5,.int .i64 a6,.arr .u8 32 a7,.arr .u8 32 a8],.agg [.int .i64 b1,.int .i64 b2,.int .i64 b3,.int .i64 b4,.arr .u8 32 b5,.int .i64 b6,.arr .u8 32 b7,.arr .u8 32 b8]],G,Q=>Q (.v (.int .i64 (cmpI a1 b1))) G
 |_,_,_=>False
def ZEb:Spec1
 |[.agg [.int .i64 a1,.int .i64 a2,.int .i64 a3,.int .i64 a4,.arr .u8 32 a5,.int .i64 a6,.arr .u8 32 a7,.arr .u8 32 a8],.agg [.int .i64 b1,.int .i64 b2,.int .i64 b3,.int .i64 b4,.arr .u8 32 b5,.int .i64 b6,.arr .u8 32 b7,.arr .u8 32 b8]],G,Q=>Q (.v (.bool (decide (a1=b1)))) G
 |_,_,_=>False
theorem walk44 {n:Int} (h37:Abs.look l 85=some SNo) (hn:I64 n) (h:Q (.v (.int .i64 (quo n))) G):Wf E (specOf l) pf44 [.int .i64 n] G Q:=by
 unfold I64 at hn
 simp (maxSteps:=1000000) (implicitDefEqProofs:=false) only[pf44,h37,SNo_eq,go_sem,↓reduceIte]
 have t2:0≤n→n.tmod 2=n % 2:=fun h=>Int.tmod_eq_emod_of_nonneg h
 have d2:0≤n→n.tdiv 2=n / 2:=fun h=>Int.tdiv_eq_ediv_of_nonneg h
 by_cases h1:1≤n∧n≤21
 ·have t2:=t2 (by omega)
  have d2:=d2 (by omega)
  have w1:IntKind.i64.wrap (n / 2)=n / 2:=w64 (by omega) (by omega)
  have w2:IntKind.i64.wrap (n / 2+1)=n / 2+1:=w64 (by omega) (by omega)
  by_cases h2:n % 2=0
  ·have e:quo n=0:=by unfold quo;rw[if_neg (by omega)]
   rw[e]at h
   simp (maxSteps:=1000000) (implicitDefEqProofs:=false) only[h1,t2,h2,go_sem,↓reduceIte]
   first|exact h|((repeat' (first|(intro _)|constructor))<;>first|exact h|omega)
  ·have e:quo n=n / 2+1:=by unfold quo;rw[if_pos (by omega)]
   rw[e]at h
   simp (maxSteps:=1000000) (implicitDefEqProofs:=false) only[h1,t2,h2,d2,w1,w2,go_sem,↓reduceIte]
   first|exact h|((repeat' (first|(intro _)|constructor))<;>first|exact h|omega)
 ·have e:quo n=0:=by unfold quo;rw[if_neg (by omega)]
  rw[e]at h
  simp (maxSteps:=1000000) (implicitDefEqProofs:=false) only[h1,go_sem,↓reduceIte]
  first|exact h|((repeat' (first|(intro _)|constructor))<;>first|exact h|omega)
theorem walk113 {n:Int} (h:Q (.v (.bool false)) G):Wf E C pf113 [.int .i64 n] G Q:=by
 simp (maxSteps:=1000000) (implicitDefEqProofs:=false) only[pf113,go_sem,↓reduceIte]
 exact h
theorem walk94 {a b:Int} (h1:Abs.look l 113=some ZNan) (h:Q (.v (.int .i64 (cmpI a b))) G):Wf E (specOf l) pf94 [.int .i64 a,.int .i64 b] G Q:=by
 unfold cmpI at h
 simp (maxSteps:=1000000) (implicitDefEqProofs:=false) only[pf94,h1,ZNan_eq,go_sem,↓reduceIte]
 by_cases c1:a < b
 ·rw[if_pos c1]at h
  simp (maxSteps:=1000000) (implicitDefEqProofs:=false) only[c1,go_sem,↓reduceIte]
  first|exact h|((repeat' (first|(intro _)|constructor))<;>first|exact h|omega)
 ·rw[if_neg c1]at h
  by_cases c2:b < a
  ·rw[if_pos c2]at h
   simp (maxSteps:=1000000) (implicitDefEqProofs:=false) only[c1,c2,go_sem,↓reduceIte]
   first|exact h|((repeat' (first|(intro _)|constructor))<;>first|exact h|omega)
  ·rw[if_neg c2]at h
   simp (maxSteps:=1000000) (implicitDefEqProofs:=false) only[c1,c2,go_sem,↓reduceIte]
   first|exact h|((repeat' (first|(intro _)|constructor))<;>first|exact h|omega)
theorem walk88 {a1 a2 a3 a4 a6:Int} {a5 a7 a8:List Int} {kt:List Int} {id:Nat} {n:Int} (hR:Abs.look l 56=some (SRi kt)) (hG:Abs.look G id=some (.int .i64 n)) (hw:(⟨a1,a2,a3,a4,a5,a6,a7,a8⟩:AttS).wf) (h:Q (.v (.bool (!((⟨a1,a2,a3,a4,a5,a6,a7,a8⟩:AttS).right kt)||decide (n < a1)))) G):Wf E (specOf l) pf88 [.agg [.int .i64 a1,.int .i64 a2,.int .i64 a3,.int .i64 a4,.arr .u8 32 a5,.int .i64 a6,.arr .u8 32 a7,.arr .u8 32 a8],.ptr id] G Q:=by
 simp (maxSteps:=1000000) (implicitDefEqProofs:=false) only[pf88,hR,SRi_eq,go_sem,↓reduceIte]
 refine⟨hw,?_⟩
 generalize AttS.right kt _=q at h⊢
 cases q
 ·try simp (maxSteps:=1000000) (implicitDefEqProofs:=false) only[go_sem,↓reduceIte];exact h
 ·simp (maxSteps:=1000000) (implicitDefEqProofs:=false) only[hG,go_sem,↓reduceIte];exact h
theorem walk89 {a1 a2 a3 a4 a6:Int} {a5 a7 a8:List Int} {id:Nat} {b:AttS} {r:List V} (hA:Abs.look l 90=some SAl) (hG:Abs.look G id=some (.sle 101 (b.v::r))) (h:Q (.v (.bool (!((⟨a1,a2,a3,a4,a5,a6,a7,a8⟩:AttS).alike b)))) G):Wf E (specOf l) pf89 [.agg [.int .i64 a1,.int .i64 a2,.int .i64 a3,.int .i64 a4,.arr .u8 32 a5,.int .i64 a6,.arr .u8 32 a7,.arr .u8 32 a8],.ptr id] G Q:=by
 obtain⟨b1,b2,b3,b4,b5,b6,b7,b8⟩:=b
 unfold AttS.v at hG
 simp (maxSteps:=1000000) (implicitDefEqProofs:=false) only[pf89,hG,hA,SAl_eq,go_sem,↓reduceIte]
 first|exact h|exact⟨by omega,h⟩|(refine⟨⟨by omega,by omega⟩,h⟩)
theorem walk80 {a1 a2 a3 a4 a6:Int} {a5 a7 a8:List Int} {kt:List Int} {i1 i2:Nat} {v n:Int} (hR:Abs.look l 56=some (SRi kt)) (hG:Abs.look G i1=some (.int .i64 v)) (hG2:Abs.look G i2=some (.int .i64 n)) (hw:(⟨a1,a2,a3,a4,a5,a6,a7,a8⟩:AttS).wf) (h:Q (.v (.bool (!((⟨a1,a2,a3,a4,a5,a6,a7,a8⟩:AttS).right kt)|| !decide (a2=1)|| !decide (a3=v)||decide (n < a1)))) G):Wf E (specOf l) pf80 [.agg [.int .i64 a1,.int .i64 a2,.int .i64 a3,.int .i64 a4,.arr .u8 32 a5,.int .i64 a6,.arr .u8 32 a7,.arr .u8 32 a8],.ptr i1,.ptr i2] G Q:=by
 simp (maxSteps:=1000000) (implicitDefEqProofs:=false) only[pf80,hR,SRi_eq,go_sem,↓reduceIte]
 refine⟨hw,?_⟩
 generalize AttS.right kt _=q at h⊢
 cases q
 ·try simp (maxSteps:=1000000) (implicitDefEqProofs:=false) only[go_sem,↓reduceIte];exact h
 ·by_cases c1:a2=1
  ·by_cases c2:a3=v
   ·simp (maxSteps:=1000000) (implicitDefEqProofs:=false) only[hG,hG2,c1,c2,go_sem,↓reduceIte]
    first|exact h|(simp only[c1,c2,decide_true,Bool.not_true,Bool.false_or]at h;exact h)
   ·simp (maxSteps:=1000000) (implicitDefEqProofs:=false) only[hG,hG2,c1,c2,go_sem,↓reduceIte]
    first|exact h|(simp only[c1,c2,decide_true,decide_false,Bool.not_true,Bool.not_false,Bool.false_or,Bool.true_or]at h;exact h)
  ·simp (maxSteps:=1000000) (implicitDefEqProofs:=false) only[hG,hG2,c1,go_sem,↓reduceIte]
   first|exact h|(simp only[c1,decide_true,decide_false,Bool.not_true,Bool.not_false,Bool.false_or,Bool.true_or]at h;exact h)
theorem walk93 {a1 a2 a3 a4 a6:Int} {a5 a7 a8:List Int} {b1 b2 b3 b4 b6:Int} {b5 b7 b8:List Int} (hC:Abs.look l 94=some ZCmp) (h:Q (.v (.int .i64 (cmpI a1 b1))) G):Wf E (specOf l) pf93 [.agg [.int .i64 a1,.int .i64 a2,.int .i64 a3,.int .i64 a4,.arr .u8 32 a5,.int .i64 a6,.arr .u8 32 a7,.arr .u8 32 a8],.agg [.int .i64 b1,.int .i64 b2,.int .i64 b3,.int .i64 b4,.arr .u8 32 b5,.int .i64 b6,.arr .u8 32 b7,.arr .u8 32 b8]] G Q:=by
 simp (maxSteps:=1000000) (implicitDefEqProofs:=false) only[pf93,hC,ZCmp_eq,go_sem,↓reduceIte]
 exact h
theorem walk105 {a1 a2 a3 a4 a6:Int} {a5 a7 a8:List Int} {b1 b2 b3 b4 b6:Int} {b5 b7 b8:List Int} (hC:Abs.look l 94=some ZCmp) (h:Q (.v (.int .i64 (cmpI a1 b1))) G):Wf E (specOf l) pf105 [.agg [.int .i64 a1,.int .i64 a2,.int .i64 a3,.int .i64 a4,.arr .u8 32 a5,.int .i64 a6,.arr .u8 32 a7,.arr .u8 32 a8],.agg [.int .i64 b1,.int .i64 b2,.int .i64 b3,.int .i64 b4,.arr .u8 32 b5,.int .i64 b6,.arr .u8 32 b7,.arr .u8 32 b8]] G Q:=by
 simp (maxSteps:=1000000) (implicitDefEqProofs:=false) only[pf105,hC,ZCmp_eq,go_sem,↓reduceIte]
 exact h
theorem walk96 {a1 a2 a3 a4 a6:Int} {a5 a7 a8:List Int} {b1 b2 b3 b4 b6:Int} {b5 b7 b8:List Int} (h:Q (.v (.bool (decide (a1=b1)))) G):Wf E C pf96 [.agg [.int .i64 a1,.int .i64 a2,.int .i64 a3,.int .i64 a4,.arr .u8 32 a5,.int .i64 a6,.arr .u8 32 a7,.arr .u8 32 a8],.agg [.int .i64 b1,.int .i64 b2,.int .i64 b3,.int .i64 b4,.arr .u8 32 b5,.int .i64 b6,.arr .u8 32 b7,.arr .u8 32 b8]] G Q:=by
 simp (maxSteps:=1000000) (implicitDefEqProofs:=false) only[pf96,go_sem,↓reduceIte]
 exact h
theorem walk106 {a1 a2 a3 a4 a6:Int} {a5 a7 a8:List Int} {b1 b2 b3 b4 b6:Int} {b5 b7 b8:List Int} (h:Q (.v (.bool (decide (a1=b1)))) G):Wf E C pf106 [.agg [.int .i64 a1,.int .i64 a2,.int .i64 a3,.int .i64 a4,.arr .u8 32 a5,.int .i64 a6,.arr .u8 32 a7,.arr .u8 32 a8],.agg [.int .i64 b1,.int .i64 b2,.int .i64 b3,.int .i64 b4,.arr .u8 32 b5,.int .i64 b6,.arr .u8 32 b7,.arr .u8 32 b8]] G Q:=by
 simp (maxSteps:=1000000) (implicitDefEqProofs:=false) only[pf106,go_sem,↓reduceIte]
 exact h
noncomputable def TT:List (Nat×Spec1):=[(88,ZP1 K256),(89,ZP2),(80,ZP3 K256),(93,ZCb),(105,ZCb),(96,ZEb),(106,ZEb)]
def IsAtt (x:V):Prop:=∃a:AttS,x=a.v∧a.wf
theorem key_cert:KeyFn TT 93 [] IsAtt keyBy:=by
 refine⟨⟨ZCb,rfl⟩,?_⟩
 rintro _ _ G Q ⟨a,rfl,_⟩ ⟨b,rfl,_⟩ h
 show ZCb [a.v,b.v] G Q
 refine h _ ?_
 show cmpI a.who b.who < 0↔a.who < b.who
 unfold cmpI;split
 ·simp_all
 ·split<;>simp_all
theorem key_accu:KeyFn TT 105 [] IsAtt keyBy:=by
 refine⟨⟨ZCb,rfl⟩,?_⟩
 rintro _ _ G Q ⟨a,rfl,_⟩ ⟨b,rfl,_⟩ h
 show ZCb [a.v,b.v] G Q
 refine h _ ?_
 show cmpI a.who b.who < 0↔a.who < b.who
 unfold cmpI;split
 ·simp_all
 ·split<;>simp_all
theorem eq_cert:EqFn TT 96 [] IsAtt keyBy:=by
 refine⟨⟨ZEb,rfl⟩,?_⟩
 rintro _ _ G Q ⟨a,rfl,_⟩ ⟨b,rfl,_⟩ h
 exact h
theorem eq_accu:EqFn TT 106 [] IsAtt keyBy:=by
 refine⟨⟨ZEb,rfl⟩,?_⟩
 rintro _ _ G Q ⟨a,rfl,_⟩ ⟨b,rfl,_⟩ h
 exact h
def ofV:V→AttS
 | .agg [.int .i64 a1,.int .i64 a2,.int .i64 a3,.int .i64 a4,.arr .u8 32 a5,.int .i64 a6,.arr .u8 32 a7,.arr .u8 32 a8]=>⟨a1,a2,a3,a4,a5,a6,a7,a8⟩
 |_=> .zero
theorem pred_1 {id:Nat} {n:Int} (hG:Abs.look G id=some (.int .i64 n)):PredFn TT 88 [.ptr id] G IsAtt (fun x=> !((ofV x).right K256)||decide (n < (ofV x).who)):=by
 refine⟨⟨ZP1 K256,rfl⟩,?_⟩
 rintro _ Q ⟨a,rfl,hw⟩ h
 exact⟨n,⟨hG,hw⟩,h⟩
theorem pred_2 {id:Nat} {b:AttS} {r:List V} (hG:Abs.look G id=some (.sle 101 (b.v::r))):PredFn TT 89 [.ptr id] G IsAtt (fun x=> !((ofV x).alike b)):=by
 refine⟨⟨ZP2,rfl⟩,?_⟩
 rintro _ Q ⟨a,rfl,hw⟩ h
 exact⟨b,r,hG,h⟩
theorem pred_3 {i1 i2:Nat} {v n:Int} (hG:Abs.look G i1=some (.int .i64 v)) (hG2:Abs.look G i2=some (.int .i64 n)):PredFn TT 80 [.ptr i1,.ptr i2] G IsAtt (fun x=> !((ofV x).right K256)|| !decide ((ofV x).ki=1)|| !decide ((ofV x).vi=v)||decide (n < (ofV x).who)):=by
 refine⟨⟨ZP3 K256,rfl⟩,?_⟩
 rintro _ Q ⟨a,rfl,hw⟩ h
 exact⟨v,n,⟨hG,hG2,hw⟩,h⟩
theorem rowOk_atts {as:List AttS}:RowOk 101 (AttS.zero.v) (as.map AttS.v):=⟨fun x hx=>by
 obtain⟨a,_,rfl⟩:=List.mem_map.1 hx
 exact⟨rfl,rfl,rfl⟩⟩
theorem isAtt_map {as:List AttS} (h:∀a∈as,a.wf):∀x∈as.map AttS.v,IsAtt x:=fun x hx=>by
 obtain⟨a,ha,rfl⟩:=List.mem_map.1 hx
 exact⟨a,rfl,h a ha⟩
end Go.Proofs.YtegamlopcdjiaaaDoor.Sha
namespace Go.Proofs.YtegamlopcdjiaaaDoor.Sha
open Go Go.Abs Go.Abs.Sha Go.Abs.Srt
set_option linter.unusedSimpArgs false
set_option linter.unusedVariables false
set_option maxRecDepth 100000
def lp122_0:PC:=
 ((PC.reg [mm 149 20,mm 150 21,nn (.t 151) (.bin .lss (.t 149) (.t 150))]).seq (PC.cond (.t 151) PC.skip (PC.exit 8))).seq (PC.block 9 ((PC.reg [mm
  152 20,mm 153 21,nn (.t 154) (.bin .add (.t 152) (.t 153)),nn (.t 155) (.conv .u64 (.t 154)),nn (.t 156) (.bin .shr (.t 155) (.c (.v (.int .u64
  1)))),nn (.t 157) (.conv .i64 (.t 156)),ma 23 157]).seq ((PC.regD 0 [mm 158 4,mm 159 0,mm 160 22,mm 161 23,nn (.t 162) (.bin .sub (.t 160) (.t
  161)),nn (.t 163) (.iadrS 101 (.t 159) (.t 162)),nn (.t 164) (.load 101 true (.t 163)),mm 165 0,mm 166 23,nn (.t 167) (.iadrS 101 (.t 165) (.t
  166)),nn (.t 168) (.load 101 true (.t 167)),nn (.t 169) (.callV (.t 158) [.t 164,.t 168]),nn (.t 170) (.bin .lss (.t 169) (.c (.v (.int .i64
  0)))),nn (.t 171) (.un .not (.t 170))] []).seq (PC.cond (.t 171) (PC.reg [mm 172 23,nn (.t 173) (.bin .add (.t 172) (.c (.v (.int .i64 1)))),ma 20
  173]) (PC.reg [nn (.t 174) (.mv true (.v 23)),ma 21 174])))))
def lp122_1:PC:=
 ((PC.reg [mm 108 17,mm 109 14,nn (.t 110) (.bin .gtr (.t 108) (.t 109))]).seq (PC.cond (.t 110) PC.skip (PC.exit 6))).seq ((PC.block 7 (PC.regD 0 [mm
  113 0,mm 114 17,mm 115 0,mm 116 17,nn (.t 117) (.bin .sub (.t 116) (.c (.v (.int .i64 1)))),mm 118 0,mm 119 17,nn (.t 120) (.bin .sub (.t 119)
  (.c (.v (.int .i64 1)))),nn (.t 121) (.iadrS 101 (.t 118) (.t 120)),nn (.t 122) (.load 101 true (.t 121)),mm 123 0,mm 124 17,nn (.t 125) (.iadrS
  101 (.t 123) (.t 124)),nn (.t 126) (.load 101 true (.t 125)),nn (.t 127) (.iadrS 101 (.t 113) (.t 114)),nn .no (.store 101 (.t 127) (.t 122)),nn
  (.t 128) (.iadrS 101 (.t 115) (.t 117)),nn .no (.store 101 (.t 128) (.t 126))] [])).seq (PC.reg [mm 111 17,nn (.t 112) (.bin .sub (.t 111) (.c (.v
  (.int .i64 1)))),ma 17 112]))
def lp122_2:PC:=
 ((PC.reg [mm 83 14,mm 84 15,nn (.t 85) (.bin .lss (.t 83) (.t 84))]).seq (PC.cond (.t 85) PC.skip (PC.exit 4))).seq (PC.block 5 ((PC.reg [mm 86 14,
  mm 87 15,nn (.t 88) (.bin .add (.t 86) (.t 87)),nn (.t 89) (.conv .u64 (.t 88)),nn (.t 90) (.bin .shr (.t 89) (.c (.v (.int .u64 1)))),nn (.t 91)
  (.conv .i64 (.t 90)),ma 16 91]).seq ((PC.regD 0 [mm 92 4,mm 93 0,mm 94 2,nn (.t 95) (.iadrS 101 (.t 93) (.t 94)),nn (.t 96) (.load 101 true (.t
  95)),mm 97 0,mm 98 16,nn (.t 99) (.iadrS 101 (.t 97) (.t 98)),nn (.t 100) (.load 101 true (.t 99)),nn (.t 101) (.callV (.t 92) [.t 96,.t 100]),
  nn (.t 102) (.bin .lss (.t 101) (.c (.v (.int .i64 0)))),nn (.t 103) (.un .not (.t 102))] []).seq (PC.cond (.t 103) (PC.reg [mm 104 16,nn (.t 105)
  (.bin .add (.t 104) (.c (.v (.int .i64 1)))),ma 14 105]) (PC.reg [nn (.t 106) (.mv true (.v 16)),ma 15 106])))))
def lp122_3:PC:=
 ((PC.reg [mm 55 13,mm 56 10,nn (.t 57) (.bin .sub (.t 56) (.c (.v (.int .i64 1)))),nn (.t 58) (.bin .lss (.t 55) (.t 57))]).seq (PC.cond (.t 58)
  PC.skip (PC.exit 2))).seq ((PC.block 3 (PC.regD 0 [mm 61 0,mm 62 13,mm 63 0,mm 64 13,nn (.t 65) (.bin .add (.t 64) (.c (.v (.int .i64 1)))),mm
  66 0,mm 67 13,nn (.t 68) (.bin .add (.t 67) (.c (.v (.int .i64 1)))),nn (.t 69) (.iadrS 101 (.t 66) (.t 68)),nn (.t 70) (.load 101 true (.t 69)),
  mm 71 0,mm 72 13,nn (.t 73) (.iadrS 101 (.t 71) (.t 72)),nn (.t 74) (.load 101 true (.t 73)),nn (.t 75) (.iadrS 101 (.t 61) (.t 62)),nn .no
  (.store 101 (.t 75) (.t 70)),nn (.t 76) (.iadrS 101 (.t 63) (.t 65)),nn .no (.store 101 (.t 76) (.t 74))] [])).seq (PC.reg [mm 59 13,nn (.t 60)
  (.bin .add (.t 59) (.c (.v (.int .i64 1)))),ma 13 60]))
def lp122_4:PC:=
 ((PC.reg [mm 31 10,mm 32 11,nn (.t 33) (.bin .lss (.t 31) (.t 32))]).seq (PC.cond (.t 33) PC.skip (PC.exit 0))).seq (PC.block 1 ((PC.reg [mm 34 10,
  mm 35 11,nn (.t 36) (.bin .add (.t 34) (.t 35)),nn (.t 37) (.conv .u64 (.t 36)),nn (.t 38) (.bin .shr (.t 37) (.c (.v (.int .u64 1)))),nn (.t 39)
  (.conv .i64 (.t 38)),ma 12 39]).seq ((PC.regD 0 [mm 40 4,mm 41 0,mm 42 12,nn (.t 43) (.iadrS 101 (.t 41) (.t 42)),nn (.t 44) (.load 101 true (.t
  43)),mm 45 0,mm 46 1,nn (.t 47) (.iadrS 101 (.t 45) (.t 46)),nn (.t 48) (.load 101 true (.t 47)),nn (.t 49) (.callV (.t 40) [.t 44,.t 48]),nn
  (.t 50) (.bin .lss (.t 49) (.c (.v (.int .i64 0))))] []).seq (PC.cond (.t 50) (PC.reg [mm 51 12,nn (.t 52) (.bin .add (.t 51) (.c (.v (.int .i64
  1)))),ma 10 52]) (PC.reg [nn (.t 53) (.mv true (.v 12)),ma 11 53])))))
attribute [local irreducible] W Wops WopsD WL Wop WopD
variable {E:Env} {C:Abs.Spec} {l:List (Nat×Spec1)} {G:List (Nat×V)} {Q:R→List (Nat×V)→Prop}
set_option maxHeartbeats 1000000
def ZSy (T:List (Nat×Spec1)) (k:Nat):Spec1
 |[.sob id 101 0 n c,.int .i64 a,.int .i64 m,.int .i64 b,.fn f caps],G,Q=>∃P A B S key pr z,(Abs.look G id=some (.agg (P++A++B++S))∧(a=(P.length:Nat)∧m=((P++A).length:Nat)∧b=((P++A++B).length:Nat)∧0 < A.length∧0 < B.length∧A.length+B.length≤k)∧((P++A++B).length≤n∧n≤(P++A++B++S).length∧n < 1000000000000000)∧(Up key A∧Up key B∧∀y∈P++A++B++S,pr y)∧RowOk 101 z (P++A++B++S)∧KeyFn T f caps pr key)∧Q (.tup []) (Abs.upd G id (.agg (P++srt key (A++B)++S)))
 |_,_,_=>False
theorem ZSy_eq {T k id n c a m b f caps}:ZSy T k [.sob id 101 0 n c,.int .i64 a,.int .i64 m,.int .i64 b,.fn f caps] G Q=(∃P A B S key pr z,(Abs.look G id=some (.agg (P++A++B++S))∧(a=(P.length:Nat)∧m=((P++A).length:Nat)∧b=((P++A++B).length:Nat)∧0 < A.length∧0 < B.length∧A.length+B.length≤k)∧((P++A++B).length≤n∧n≤(P++A++B++S).length∧n < 1000000000000000)∧(Up key A∧Up key B∧∀y∈P++A++B++S,pr y)∧RowOk 101 z (P++A++B++S)∧KeyFn T f caps pr key)∧Q (.tup []) (Abs.upd G id (.agg (P++srt key (A++B)++S)))):=rfl
theorem up_at {key:V→Int} {B:List V} {t:Nat} {y:V} (h:Up key B) (hy:B[t]? =some y):(∀w∈B.take (t+1),key w≤key y)∧∀w∈B.drop t,key y≤key w:=by
 have hlt:=(List.getElem?_eq_some_iff.1 hy).1
 have he:=(List.getElem?_eq_some_iff.1 hy).2
 have e:B=B.take t++y::B.drop (t+1):=by rw[←he,List.getElem_cons_drop,List.take_append_drop]
 have hd:B.drop t=y::B.drop (t+1):=by rw[←he];exact List.drop_eq_getElem_cons hlt
 rw[e]at h
 have hp:=List.pairwise_append.1 h
 refine⟨fun w hw=> ?_,fun w hw=> ?_⟩
 ·rw[List.take_add_one,hy]at hw
  rcases List.mem_append.1 hw with hw|hw
  ·exact hp.2.2 w hw y (List.mem_cons_self ..)
  ·simp at hw;rw[hw];exact Int.le_refl _
 ·rw[hd]at hw
  rcases List.mem_cons.1 hw with rfl|hw
  ·exact Int.le_refl _
  ·exact (List.pairwise_cons.1 hp.2.1).1 w hw
theorem half {x:Int} {s:Nat} (h:x=(s:Int)):x.fdiv (2 ^ min 1 64)=((s / 2:Nat):Int):=by
 rw[h,show (2:Int) ^ min 1 64=2 from rfl,Int.fdiv_eq_ediv_of_nonneg _ (by omega)];simp
theorem uwc {k:Nat} (h2:k < 9000000000000000000):IntKind.u64.wrap (k:Int)=(k:Int):=by simp only[IntKind.wrap,IntKind.bits,IntKind.signed];simp;omega
theorem bs4122 {T:List (Nat×Spec1)} (hT:Sub T l) (hok:(T.all fun p=>calleeOk E.P p.1)=true) {id n c a f:Nat} {caps:List V} {pr:V→Prop} {key:V→Int} {z:V} {QQ:Ex→St→Prop} (hf:KeyFn T f caps pr key) {A B S:List V} {x:V} (hG:Abs.look G id=some (.agg (A++x::(B++S)))) (hn:n < 1000000000000000)
  (ha:a=A.length) (hbn:a+1+B.length≤n) (hnL:n≤(A++x::(B++S)).length) (hP:∀y∈A++x::(B++S),pr y) (hR:RowOk 101 z (A++x::(B++S))) (hB:Up key B)
  (hx:∀(p i j:Nat) ts,i=a+1+p→j=i→p≤B.length→(∀y∈B.take p,key y < key x)→(∀y∈B.drop p,¬key y < key x)→QQ (.exit 0) ⟨[some (.v (.sob id 101 0 n c)),some (.v (.int .i64 (a:Nat))),none,none,some (.v (.fn f caps)),none,none,none,none,none,some (.v (.int .i64 (i:Nat))),some (.v (.int .i64 (j:Nat))),none,none,none,none,none,none,none,none,none,none,none,none,none],ts,[],G⟩):
  ∀(r p q i j:Nat),q-p≤r→p≤q→q≤B.length→i=a+1+p→j=a+1+q→(∀y∈B.take p,key y < key x)→(∀y∈B.drop q,¬key y < key x)→WL (W E (specOf l) lp122_4) [0,1,4,10,11] QQ (r+1) ⟨[some (.v (.sob id 101 0 n c)),some (.v (.int .i64 (a:Nat))),none,none,some (.v (.fn f caps)),none,none,none,none,none,some (.v (.int .i64 (i:Nat))),some (.v (.int .i64 (j:Nat))),none,none,none,none,none,none,none,none,none,none,none,none,none],[],[],G⟩:=by
 intro r
 induction r with
 |zero=>
  rintro p q i j h0 h1 h2 rfl rfl h3 h4
  obtain rfl:p=q:=by omega
  refine WL_in lp122_4.eq_1 ?_
  simp (maxSteps:=1000000) (implicitDefEqProofs:=false) only[Int.lt_irrefl,go_sem,↓reduceIte]
  exact hx p _ _ _ rfl rfl h2 h3 h4
 |succ r ih=>
  rintro p q i j h0 h1 h2 rfl rfl h3 h4
  refine WL_in lp122_4.eq_1 ?_
  by_cases e:p=q
  ·subst e
   simp (maxSteps:=1000000) (implicitDefEqProofs:=false) only[Int.lt_irrefl,go_sem,↓reduceIte]
   exact hx p _ _ _ rfl rfl h2 h3 h4
  ·have c1:((a+1+p:Nat):Int) < ((a+1+q:Nat):Int):=by omega
   obtain⟨t,ht,ht1,ht2⟩:∃t,(a+1+p+(a+1+q)) / 2=a+1+t∧p≤t∧t < q:=⟨(a+1+p+(a+1+q)) / 2-(a+1),by omega,by omega,by omega⟩
   have w1:IntKind.i64.wrap (((a+1+p:Nat):Int)+((a+1+q:Nat):Int))=((a+1+p+(a+1+q):Nat):Int):=wc (by omega) (by omega)
   have w2:=uwc (k:=a+1+p+(a+1+q)) (by omega)
   have w3:(((a+1+p+(a+1+q):Nat):Int)).fdiv (2 ^ min 1 64)=((a+1+t:Nat):Int):=by rw[half rfl,ht]
   have w4:IntKind.i64.wrap ((a+1+t:Nat):Int)=((a+1+t:Nat):Int):=wc rfl (by omega)
   have w5:IntKind.i64.wrap (((a+1+t:Nat):Int)+1)=((a+1+(t+1):Nat):Int):=wc (by omega) (by omega)
   obtain⟨y,hy⟩:∃y,B[t]? =some y:=⟨B[t],List.getElem?_eq_getElem (by omega)⟩
   have g1:(A++x::(B++S))[a+1+t]? =some y:=by
    rw[List.getElem?_append_right (by omega),show a+1+t-A.length=t+1 by omega,List.getElem?_cons_succ,List.getElem?_append_left (by omega)];exact hy
   have g0:(A++x::(B++S))[a]? =some x:=get_mid ha
   obtain⟨u1,u2⟩:=up_at hB hy
   have hPy:=hP y (List.mem_of_getElem? g1)
   have hPx:=hP x (by simp)
   generalize A++x::(B++S)=L at*
   have t1:=hR.get g1
   have t0:=hR.get g0
   have a1:=t1.2.1
   have a0:=t0.2.1
   unfold V.isAgg at a1 a0
   have hsz:=hR.sizes
   simp (maxSteps:=1000000) (implicitDefEqProofs:=false) only[c1,w1,w2,w3,w4,hG,g1,g0,t1.1,t0.1,a1,a0,Int.toNat_natCast,go_sem,↓reduceIte]
   refine⟨⟨⟨by omega,by omega⟩,by omega,hsz⟩,⟨⟨by omega,by omega⟩,by omega,hsz⟩,ok_of hok hf.1,hT.run hf.1 (hf.2 y x _ _ hPy hPx fun r hr=>⟨rfl,?_⟩)⟩
   by_cases hk:key y < key x
   ·have hr1:r < 0:=hr.2 hk
    simp (maxSteps:=1000000) (implicitDefEqProofs:=false) only[hr1,w5,go_sem,↓reduceIte]
    exact ih (t+1) q _ _ (by omega) (by omega) h2 rfl rfl (fun w hw=>Int.lt_of_le_of_lt (u1 w hw) hk) h4
   ·have hr1:¬r < 0:=fun h=>hk (hr.1 h)
    simp (maxSteps:=1000000) (implicitDefEqProofs:=false) only[hr1,go_sem,↓reduceIte]
    exact ih p t _ _ (by omega) (by omega) (by omega) rfl rfl h3 (fun w hw h=>hk (Int.lt_of_le_of_lt (u2 w hw) h))
theorem mv3122 {id n c i:Nat} {z:V} {QQ:Ex→St→Prop} {L0 F:List V} (hG:Abs.look G id=some (.agg L0)) (hn:n < 1000000000000000) (hnL:n≤L0.length)
  (hx:∀k ts,QQ (.exit 2) ⟨[some (.v (.sob id 101 0 n c)),none,none,none,none,none,none,none,none,none,some (.v (.int .i64 (i:Nat))),none,none,some (.v (.int .i64 (k:Nat))),none,none,none,none,none,none,none,none,none,none,none],ts,[],Abs.upd G id (.agg F)⟩):
  ∀(r:Nat) (A B D:List V) (x:V) (k:Nat) (G2:List (Nat×V)),B.length=r→G2=Abs.upd G id (.agg (A++x::(B++D)))→A++B++x::D=F→A.length=k→k+r+1=i→i≤n→RowOk 101 z (A++x::(B++D))→(A++x::(B++D)).length=L0.length→WL (W E C lp122_3) [0,10,13] QQ (r+1) ⟨[some (.v (.sob id 101 0 n c)),none,none,none,none,none,none,none,none,none,some (.v (.int .i64 (i:Nat))),none,none,some (.v (.int .i64 (k:Nat))),none,none,none,none,none,none,none,none,none,none,none],[],[],G2⟩:=by
 intro r
 induction r with
 |zero=>
  rintro A B D x k G2 h0 rfl h1 h2 h3 h4 hR hl
  have:B=[]:=List.eq_nil_of_length_eq_zero h0
  subst this
  have w1:IntKind.i64.wrap ((i:Int)-1)=(k:Int):=wc (by omega) (by omega)
  refine WL_in lp122_3.eq_1 ?_
  simp (maxSteps:=1000000) (implicitDefEqProofs:=false) only[w1,Int.lt_irrefl,go_sem,↓reduceIte]
  rw[show A++x::D=F by rw[←h1];simp]
  exact hx k _
 |succ r ih=>
  rintro A B D x k G2 h0 rfl h1 h2 h3 h4 hR hl
  obtain⟨y,B,rfl⟩:∃y U,B=y::U:=by
   cases B with
   |nil=>simp at h0
   |cons y U=>exact⟨y,U,rfl⟩
  have h0':B.length=r:=by simpa using h0
  have next:=ih (A++[y]) B D x (k+1) _ h0' rfl (by rw[←h1];simp) (by simp[h2]) (by omega) h4 (hR.mem fun w hw=>by
   simp only[List.mem_append,List.mem_cons,List.not_mem_nil,or_false]at hw⊢
   rcases hw with (h|h)|h|h|h<;>simp[h]) (by rw[←hl];simp only[List.length_append,List.length_cons,List.length_nil];omega)
  have g0:(A++x::(y::B++D))[k]? =some x:=get_mid h2.symm
  have g1:(A++x::(y::B++D))[k+1]? =some y:=get_mid2 (by omega)
  have sw:((A++x::(y::B++D)).set k y).set (k+1) x=A++[y]++x::(B++D):=by rw[set_mid h2.symm];rw[List.cons_append,set_mid2 (by omega)];simp
  have hll:=hl
  simp only[List.length_append,List.length_cons]at hll
  have hLl:k+1 < (A++x::(y::B++D)).length:=by simp only[List.length_append,List.length_cons];omega
  generalize A++x::(y::B++D)=L at*
  have hcur:Abs.look (Abs.upd G id (.agg L)) id=some (.agg L):=look_upd_same hG
  have hcur2:Abs.look (Abs.upd G id (.agg (L.set k y))) id=some (.agg (L.set k y)):=look_upd_same hG
  have t1:=hR.get g1
  have t0:=hR.get g0
  have m01:=hR.same g0 g1
  have m10:=hR.same g1 g0
  have g1':(L.set k y)[k+1]? =some y:=by rw[List.getElem?_set_ne (by omega)];exact g1
  have a1:=t1.2.1
  have a0:=t0.2.1
  unfold V.isAgg at a1 a0
  have hsz:=hR.sizes
  have hsz2:=(hR.set (i:=k) g1).sizes
  have w1:IntKind.i64.wrap ((i:Int)-1)=((i-1:Nat):Int):=wc (by omega) (by omega)
  have w2:IntKind.i64.wrap ((k:Int)+1)=((k+1:Nat):Int):=wc (by omega) (by omega)
  have c1:(k:Int) < ((i-1:Nat):Int):=by omega
  refine WL_in lp122_3.eq_1 ?_
  simp (maxSteps:=1000000) (implicitDefEqProofs:=false) only[w1,w2,c1,hcur,hcur2,g1,g0,g1',t1.1,t0.1,a1,a0,m01,m10,sw,Int.toNat_natCast,upd_upd,go_sem,↓reduceIte]
  exact⟨⟨⟨by omega,by omega⟩,by omega,hsz⟩,⟨⟨by omega,by omega⟩,by omega,hsz⟩,⟨⟨by omega,by omega⟩,by omega,hsz⟩,⟨⟨by omega,by omega⟩,by rw[List.length_set];omega,hsz2⟩,next⟩
theorem bs2122 {T:List (Nat×Spec1)} (hT:Sub T l) (hok:(T.all fun p=>calleeOk E.P p.1)=true) {id n c a m f:Nat} {caps:List V} {pr:V→Prop} {key:V→Int} {z:V} {QQ:Ex→St→Prop} (hf:KeyFn T f caps pr key) {P A S:List V} {x:V} (hG:Abs.look G id=some (.agg (P++A++x::S))) (hn:n < 1000000000000000)
  (ha:a=P.length) (hm:m=a+A.length) (hbn:m+1≤n) (hnL:n≤(P++A++x::S).length) (hP:∀y∈P++A++x::S,pr y) (hR:RowOk 101 z (P++A++x::S)) (hA:Up key A)
  (hx:∀(p i j:Nat) ts,i=a+p→j=i→p≤A.length→(∀y∈A.take p,¬key x < key y)→(∀y∈A.drop p,key x < key y)→QQ (.exit 4) ⟨[some (.v (.sob id 101 0 n c)),none,some (.v (.int .i64 (m:Nat))),none,some (.v (.fn f caps)),none,none,none,none,none,none,none,none,none,some (.v (.int .i64 (i:Nat))),some (.v (.int .i64 (j:Nat))),none,none,none,none,none,none,none,none,none],ts,[],G⟩):
  ∀(r p q i j:Nat),q-p≤r→p≤q→q≤A.length→i=a+p→j=a+q→(∀y∈A.take p,¬key x < key y)→(∀y∈A.drop q,key x < key y)→WL (W E (specOf l) lp122_2) [0,2,4,14,15] QQ (r+1) ⟨[some (.v (.sob id 101 0 n c)),none,some (.v (.int .i64 (m:Nat))),none,some (.v (.fn f caps)),none,none,none,none,none,none,none,none,none,some (.v (.int .i64 (i:Nat))),some (.v (.int .i64 (j:Nat))),none,none,none,none,none,none,none,none,none],[],[],G⟩:=by
 intro r
 induction r with
 |zero=>
  rintro p q i j h0 h1 h2 rfl rfl h3 h4
  obtain rfl:p=q:=by omega
  refine WL_in lp122_2.eq_1 ?_
  simp (maxSteps:=1000000) (implicitDefEqProofs:=false) only[Int.lt_irrefl,go_sem,↓reduceIte]
  exact hx p _ _ _ rfl rfl h2 h3 h4
 |succ r ih=>
  rintro p q i j h0 h1 h2 rfl rfl h3 h4
  refine WL_in lp122_2.eq_1 ?_
  by_cases e:p=q
  ·subst e
   simp (maxSteps:=1000000) (implicitDefEqProofs:=false) only[Int.lt_irrefl,go_sem,↓reduceIte]
   exact hx p _ _ _ rfl rfl h2 h3 h4
  ·have c1:((a+p:Nat):Int) < ((a+q:Nat):Int):=by omega
   obtain⟨t,ht,ht1,ht2⟩:∃t,(a+p+(a+q)) / 2=a+t∧p≤t∧t < q:=⟨(a+p+(a+q)) / 2-a,by omega,by omega,by omega⟩
   have w1:IntKind.i64.wrap (((a+p:Nat):Int)+((a+q:Nat):Int))=((a+p+(a+q):Nat):Int):=wc (by omega) (by omega)
   have w2:=uwc (k:=a+p+(a+q)) (by omega)
   have w3:(((a+p+(a+q):Nat):Int)).fdiv (2 ^ min 1 64)=((a+t:Nat):Int):=by rw[half rfl,ht]
   have w4:IntKind.i64.wrap ((a+t:Nat):Int)=((a+t:Nat):Int):=wc rfl (by omega)
   have w5:IntKind.i64.wrap (((a+t:Nat):Int)+1)=((a+(t+1):Nat):Int):=wc (by omega) (by omega)
   obtain⟨y,hy⟩:∃y,A[t]? =some y:=⟨A[t],List.getElem?_eq_getElem (by omega)⟩
   have g1:(P++A++x::S)[a+t]? =some y:=by
    rw[List.append_assoc,List.getElem?_append_right (by omega),show a+t-P.length=t by omega,List.getElem?_append_left (by omega)];exact hy
   have g0:(P++A++x::S)[m]? =some x:=get_mid (by rw[List.length_append];omega)
   obtain⟨u1,u2⟩:=up_at hA hy
   have hPy:=hP y (List.mem_of_getElem? g1)
   have hPx:=hP x (by simp)
   generalize P++A++x::S=L at*
   have t1:=hR.get g1
   have t0:=hR.get g0
   have a1:=t1.2.1
   have a0:=t0.2.1
   unfold V.isAgg at a1 a0
   have hsz:=hR.sizes
   simp (maxSteps:=1000000) (implicitDefEqProofs:=false) only[c1,w1,w2,w3,w4,hG,g1,g0,t1.1,t0.1,a1,a0,Int.toNat_natCast,go_sem,↓reduceIte]
   refine⟨⟨⟨by omega,by omega⟩,by omega,hsz⟩,⟨⟨by omega,by omega⟩,by omega,hsz⟩,ok_of hok hf.1,hT.run hf.1 (hf.2 x y _ _ hPx hPy fun r hr=>⟨rfl,?_⟩)⟩
   by_cases hk:key x < key y
   ·have hr1:r < 0:=hr.2 hk
    simp (maxSteps:=1000000) (implicitDefEqProofs:=false) only[hr1,go_sem,↓reduceIte]
    exact ih p t _ _ (by omega) (by omega) (by omega) rfl rfl h3 (fun w hw=>Int.lt_of_lt_of_le hk (u2 w hw))
   ·have hr1:¬r < 0:=fun h=>hk (hr.1 h)
    simp (maxSteps:=1000000) (implicitDefEqProofs:=false) only[hr1,w5,go_sem,↓reduceIte]
    exact ih (t+1) q _ _ (by omega) (by omega) h2 rfl rfl (fun w hw h=>hk (Int.lt_of_lt_of_le h (u1 w hw))) h4
theorem mv1122 {id n c i:Nat} {z:V} {QQ:Ex→St→Prop} {L0 F:List V} (hG:Abs.look G id=some (.agg L0)) (hn:n < 1000000000000000) (hnL:n≤L0.length)
  (hx:∀k ts,QQ (.exit 6) ⟨[some (.v (.sob id 101 0 n c)),none,none,none,none,none,none,none,none,none,none,none,none,none,some (.v (.int .i64 (i:Nat))),none,none,some (.v (.int .i64 (k:Nat))),none,none,none,none,none,none,none],ts,[],Abs.upd G id (.agg F)⟩):
  ∀(r:Nat) (A B D:List V) (x:V) (k:Nat) (G2:List (Nat×V)),B.length=r→G2=Abs.upd G id (.agg (A++B++x::D))→A++x::(B++D)=F→A.length=i→i+r=k→k < n→RowOk 101 z (A++B++x::D)→(A++B++x::D).length=L0.length→WL (W E C lp122_1) [0,14,17] QQ (r+1) ⟨[some (.v (.sob id 101 0 n c)),none,none,none,none,none,none,none,none,none,none,none,none,none,some (.v (.int .i64 (i:Nat))),none,none,some (.v (.int .i64 (k:Nat))),none,none,none,none,none,none,none],[],[],G2⟩:=by
 intro r
 induction r with
 |zero=>
  rintro A B D x k G2 h0 rfl h1 h2 h3 h4 hR hl
  have:B=[]:=List.eq_nil_of_length_eq_zero h0
  subst this
  obtain rfl:i=k:=by omega
  have c1:¬(i:Int) > (i:Int):=by omega
  refine WL_in lp122_1.eq_1 ?_
  simp (maxSteps:=1000000) (implicitDefEqProofs:=false) only[c1,Int.lt_irrefl,go_sem,↓reduceIte]
  rw[show A++x::D=F by rw[←h1];simp]
  exact hx i _
 |succ r ih=>
  rintro A B D x k G2 h0 rfl h1 h2 h3 h4 hR hl
  rcases concat_cases B with rfl|⟨B,y,rfl⟩
  ·simp at h0
  have h0':B.length=r:=by simpa using h0
  have next:=ih A B (y::D) x (k-1) _ h0' rfl (by rw[←h1];simp) h2 (by omega) (by omega) (hR.mem fun w hw=>by
   simp only[List.mem_append,List.mem_cons,List.not_mem_nil,or_false]at hw⊢
   rcases hw with (h|h)|h|h|h<;>simp[h]) (by rw[←hl];simp only[List.length_append,List.length_cons,List.length_nil];omega)
  have f0:A++(B++[y])++x::D=(A++B)++y::x::D:=by simp
  rw[f0]at hR hl⊢
  have lAB:(A++B).length=k-1:=by rw[List.length_append];omega
  have g0:((A++B)++y::x::D)[k]? =some x:=get_mid2 (by omega)
  have g1:((A++B)++y::x::D)[k-1]? =some y:=get_mid lAB.symm
  have sw:(((A++B)++y::x::D).set k y).set (k-1) x=A++B++x::y::D:=swap_mid lAB.symm (by omega)
  have hll:=hl
  simp only[List.length_append,List.length_cons]at hll
  have hLl:k < ((A++B)++y::x::D).length:=by simp only[List.length_append,List.length_cons];omega
  generalize (A++B)++y::x::D=L at*
  have hcur:Abs.look (Abs.upd G id (.agg L)) id=some (.agg L):=look_upd_same hG
  have hcur2:Abs.look (Abs.upd G id (.agg (L.set k y))) id=some (.agg (L.set k y)):=look_upd_same hG
  have t1:=hR.get g1
  have t0:=hR.get g0
  have m01:=hR.same g0 g1
  have m10:=hR.same g1 g0
  have g1':(L.set k y)[k-1]? =some y:=by rw[List.getElem?_set_ne (by omega)];exact g1
  have a1:=t1.2.1
  have a0:=t0.2.1
  unfold V.isAgg at a1 a0
  have hsz:=hR.sizes
  have hsz2:=(hR.set (i:=k) g1).sizes
  have w2:IntKind.i64.wrap ((k:Int)-1)=((k-1:Nat):Int):=wc (by omega) (by omega)
  have c1:(k:Int) > (i:Int):=by omega
  refine WL_in lp122_1.eq_1 ?_
  simp (maxSteps:=1000000) (implicitDefEqProofs:=false) only[w2,c1,hcur,hcur2,g1,g0,g1',t1.1,t0.1,a1,a0,m01,m10,sw,Int.toNat_natCast,upd_upd,go_sem,↓reduceIte]
  exact⟨⟨⟨by omega,by omega⟩,by omega,hsz⟩,⟨⟨by omega,by omega⟩,by omega,hsz⟩,⟨⟨by omega,by omega⟩,by omega,hsz⟩,⟨⟨by omega,by omega⟩,by rw[List.length_set];omega,hsz2⟩,next⟩
theorem bs0122 {T:List (Nat×Spec1)} (hT:Sub T l) (hok:(T.all fun p=>calleeOk E.P p.1)=true) {id n c a m b mid nn p s0 r0 f:Nat} {caps:List V} {pr:V→Prop} {key:V→Int} {z:V} {QQ:Ex→St→Prop} (hf:KeyFn T f caps pr key) {L:List V} (hG:Abs.look G id=some (.agg L)) (hn:n < 1000000000000000) (hnL:n≤L.length) (hP:∀y∈L,pr y) (hR:RowOk 101 z L)
  (hr0:r0≤n) (hp:∀c,s0≤c→c < r0→c≤p∧p-c < n) (hp2:p < 3000000000000000)
  (hx:∀(s r:Nat) ts,s=r→s0≤s→s≤r0→(s0 < s→∀x y,L[p-(s-1)]? =some x→L[s-1]? =some y→¬key x < key y)→(s < r0→∀x y,L[p-s]? =some x→L[s]? =some y→key x < key y)→QQ (.exit 8) ⟨[some (.v (.sob id 101 0 n c)),some (.v (.int .i64 (a:Nat))),some (.v (.int .i64 (m:Nat))),some (.v (.int .i64 (b:Nat))),some (.v (.fn f caps)),none,none,none,none,none,none,none,none,none,none,none,none,none,some (.v (.int .i64 (mid:Nat))),some (.v (.int .i64 (nn:Nat))),some (.v (.int .i64 (s:Nat))),some (.v (.int .i64 (r:Nat))),some (.v (.int .i64 (p:Nat))),none,none],ts,[],G⟩):
  ∀(w s r:Nat),r-s≤w→s0≤s→s≤r→r≤r0→(s0 < s→∀x y,L[p-(s-1)]? =some x→L[s-1]? =some y→¬key x < key y)→(r < r0→∀x y,L[p-r]? =some x→L[r]? =some y→key x < key y)→WL (W E (specOf l) lp122_0) [0,1,2,3,4,18,19,20,21,22] QQ (w+1) ⟨[some (.v (.sob id 101 0 n c)),some (.v (.int .i64 (a:Nat))),some (.v (.int .i64 (m:Nat))),some (.v (.int .i64 (b:Nat))),some (.v (.fn f caps)),none,none,none,none,none,none,none,none,none,none,none,none,none,some (.v (.int .i64 (mid:Nat))),some (.v (.int .i64 (nn:Nat))),some (.v (.int .i64 (s:Nat))),some (.v (.int .i64 (r:Nat))),some (.v (.int .i64 (p:Nat))),none,none],[],[],G⟩:=by
 intro w
 induction w with
 |zero=>
  intro s r h0 h1 h2 h3 h4 h5
  obtain rfl:s=r:=by omega
  refine WL_in lp122_0.eq_1 ?_
  simp (maxSteps:=1000000) (implicitDefEqProofs:=false) only[Int.lt_irrefl,go_sem,↓reduceIte]
  exact hx s s _ rfl h1 h3 h4 h5
 |succ w ih=>
  intro s r h0 h1 h2 h3 h4 h5
  refine WL_in lp122_0.eq_1 ?_
  by_cases e:s=r
  ·subst e
   simp (maxSteps:=1000000) (implicitDefEqProofs:=false) only[Int.lt_irrefl,go_sem,↓reduceIte]
   exact hx s s _ rfl h1 h3 h4 h5
  ·have c1:(s:Int) < (r:Int):=by omega
   obtain⟨t,ht,ht1,ht2⟩:∃t,(s+r) / 2=t∧s≤t∧t < r:=⟨_,rfl,by omega,by omega⟩
   obtain⟨q1,q2⟩:=hp t (by omega) (by omega)
   have w1:IntKind.i64.wrap ((s:Int)+(r:Int))=((s+r:Nat):Int):=wc (by omega) (by omega)
   have w2:=uwc (k:=s+r) (by omega)
   have w3:(((s+r:Nat):Int)).fdiv (2 ^ min 1 64)=(t:Int):=by rw[half rfl,ht]
   have w4:IntKind.i64.wrap (t:Int)=(t:Int):=wc rfl (by omega)
   have w5:IntKind.i64.wrap ((t:Int)+1)=((t+1:Nat):Int):=wc (by omega) (by omega)
   have w6:IntKind.i64.wrap ((p:Int)-(t:Int))=((p-t:Nat):Int):=wc (by omega) (by omega)
   obtain⟨x,g1⟩:∃y,L[p-t]? =some y:=⟨L[p-t],List.getElem?_eq_getElem (by omega)⟩
   obtain⟨y,g0⟩:∃y,L[t]? =some y:=⟨L[t],List.getElem?_eq_getElem (by omega)⟩
   have hPx:=hP x (List.mem_of_getElem? g1)
   have hPy:=hP y (List.mem_of_getElem? g0)
   have t1:=hR.get g1
   have t0:=hR.get g0
   have a1:=t1.2.1
   have a0:=t0.2.1
   unfold V.isAgg at a1 a0
   have hsz:=hR.sizes
   simp (maxSteps:=1000000) (implicitDefEqProofs:=false) only[c1,w1,w2,w3,w4,w6,hG,g1,g0,t1.1,t0.1,a1,a0,Int.toNat_natCast,go_sem,↓reduceIte]
   refine⟨⟨⟨by omega,by omega⟩,by omega,hsz⟩,⟨⟨by omega,by omega⟩,by omega,hsz⟩,ok_of hok hf.1,hT.run hf.1 (hf.2 x y _ _ hPx hPy fun r hr=>⟨rfl,?_⟩)⟩
   by_cases hk:key x < key y
   ·have hr1:r < 0:=hr.2 hk
    simp (maxSteps:=1000000) (implicitDefEqProofs:=false) only[hr1,go_sem,↓reduceIte]
    exact ih s t (by omega) (by omega) (by omega) (by omega) h4 (fun _ x' y' e1 e2=>by rw[g1]at e1;rw[g0]at e2;cases e1;cases e2;exact hk)
   ·have hr1:¬r < 0:=fun h=>hk (hr.1 h)
    simp (maxSteps:=1000000) (implicitDefEqProofs:=false) only[hr1,w5,go_sem,↓reduceIte]
    exact ih (t+1) _ (by omega) (by omega) (by omega) h3 (fun _ x' y' e1 e2=>by
     rw[show t+1-1=t by omega]at e1 e2
     rw[g1]at e1;rw[g0]at e2;cases e1;cases e2;exact hk) h5
end Go.Proofs.YtegamlopcdjiaaaDoor.Sha
