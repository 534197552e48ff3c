/- Laws over plain values, and what functions of the program hand back; no conditions. -/
import Derived.Test.YtjbglbhcbenhpaaDoorG3
import Derived.Test.YtjbglbhcbenhpaaDoorTOct1
import Derived.Test.YtjbglbhcbenhpaaDoorTOct2
namespace Go.Proofs.YtjbglbhcbenhpaaDoor.Sha
open Go Go.Abs Go.Abs.Sha
set_option linter.unusedSimpArgs false
set_option linter.unusedVariables false
set_option maxRecDepth 100000
def pf85:PF:=
 PF.mk 3 7 15 ((PC.reg [nn (.v 6) (.mv true (.c (.v (.bool false))))]).seq ((PC.reg [mm 7 0,mm 8 1,nn (.t 9) (.bin .geq (.t 7) (.t 8)),nn (.t 10)
  (.mv false (.t 9)),gm 11 0 10 true,gm 12 2 10 true,⟨.t 13,.bin .leq (.t 11) (.t 12),some (.t 10,true)⟩,nn (.t 14) (.pick (.t 10) (.t 13) (.c
  (.v (.bool false)))),ma 6 14]).seq PC.ret)) [(.v 6,none)]
def pf43:PF:=
 PF.mk 1 5 60 ((PC.reg [nn (.v 1) (.box (.v 0)),nn (.v 2) (.mv true (.c (.v (.int .i64 0))))]).seq ((PC.reg [nn (.t 5) (.fadr 0 0 (.v 1)),nn (.t 6)
  (.load 1 false (.t 5)),nn (.t 7) (.call 85 [.t 6,.c (.v (.int .i64 0)),.c (.v (.int .i64 1099511627776))]),nn (.t 8) (.mv false (.t 7)),⟨.t 9,
  .fadr 1 1 (.v 1),some (.t 8,true)⟩,⟨.t 10,.load 1 false (.t 9),some (.t 8,true)⟩,⟨.t 11,.call 85 [.t 10,.c (.v (.int .i64 0)),.c (.v (.int
  .i64 3))],some (.t 8,true)⟩,nn (.t 12) (.pick (.t 8) (.t 11) (.c (.v (.bool false)))),nn (.t 13) (.mv false (.t 12)),⟨.t 14,.fadr 1 1 (.v 1),
  some (.t 13,true)⟩,⟨.t 15,.load 1 false (.t 14),some (.t 13,true)⟩,⟨.t 16,.bin .eql (.t 15) (.c (.v (.int .i64 0))),some (.t 13,true)⟩,⟨.t
  17,.fadr 0 0 (.v 1),some (.t 13,true)⟩,⟨.t 18,.load 1 false (.t 17),some (.t 13,true)⟩,⟨.t 19,.bin .eql (.t 18) (.c (.v (.int .i64 0))),
  some (.t 13,true)⟩,⟨.t 20,.binB .eql (.t 16) (.t 19),some (.t 13,true)⟩,nn (.t 21) (.pick (.t 13) (.t 20) (.c (.v (.bool false)))),nn (.t 22)
  (.mv false (.t 21)),⟨.t 23,.fadr 2 2 (.v 1),some (.t 22,true)⟩,⟨.t 24,.load 1 false (.t 23),some (.t 22,true)⟩,⟨.t 25,.fadr 0 0 (.v 1),
  some (.t 22,true)⟩,⟨.t 26,.load 1 false (.t 25),some (.t 22,true)⟩,⟨.t 27,.call 85 [.t 24,.c (.v (.int .i64 0)),.t 26],some (.t 22,true)⟩,
  nn (.t 28) (.pick (.t 22) (.t 27) (.c (.v (.bool false)))),ma 3 28]).seq ((PC.reg [nn (.t 29) (.fadr 0 0 (.v 1)),nn (.t 30) (.load 1 false (.t
  29)),nn (.t 31) (.bin .gtr (.t 30) (.c (.v (.int .i64 0)))),nn (.t 32) (.mv false (.t 31)),⟨.t 33,.fadr 1 1 (.v 1),some (.t 32,true)⟩,⟨.t 34,
  .load 1 false (.t 33),some (.t 32,true)⟩,⟨.t 35,.bin .lss (.t 34) (.c (.v (.int .i64 3))),some (.t 32,true)⟩,nn (.t 36) (.pick (.t 32) (.t 35)
  (.c (.v (.bool false)))),nn (.t 37) (.mv false (.t 36)),⟨.t 38,.fadr 2 2 (.v 1),some (.t 37,true)⟩,⟨.t 39,.load 1 false (.t 38),some (.t 37,
  true)⟩,⟨.t 40,.fadr 0 0 (.v 1),some (.t 37,true)⟩,⟨.t 41,.load 1 false (.t 40),some (.t 37,true)⟩,⟨.t 42,.bin .eql (.t 39) (.t 41),some
  (.t 37,true)⟩,nn (.t 43) (.pick (.t 37) (.t 42) (.c (.v (.bool false)))),ma 4 43]).seq (((PC.reg [mm 44 3,nn (.t 45) (.un .not (.t 44)),nn (.t
  46) (.mv false (.t 45)),gm 47 4 46 false,nn (.t 48) (.pick (.t 46) (.c (.v (.bool true))) (.t 47)),nn (.t 49) (.mv false (.t 48)),⟨.t 50,.fadr 0
  0 (.v 1),some (.t 49,false)⟩,⟨.t 51,.load 1 false (.t 50),some (.t 49,false)⟩,⟨.t 52,.bin .eql (.t 51) (.c (.v (.int .i64 0))),some (.t 49,
  false)⟩,⟨.t 53,.mv false (.t 52),some (.t 49,false)⟩,⟨.t 54,.fadr 3 3 (.v 1),some (.t 53,true)⟩,⟨.t 55,.load 32 true (.t 54),some (.t 53,
  true)⟩,⟨.t 56,.build (.arr .u8 32 [0,0,0,0,0,0,0,0,0,0,0,0,0,0,0,0,0,0,0,0,0,0,0,0,0,0,0,0,0,0,0,0]) [],some (.t
  53,true)⟩,⟨.t 57,.eqa true (.arr 32) (.t 55) (.t 56),some (.t 53,true)⟩,⟨.t 58,.pick (.t 53) (.t 57) (.c (.v (.bool false))),some (.t 49,
  false)⟩,nn (.t 59) (.pick (.t 49) (.c (.v (.bool true))) (.t 58))]).seq (PC.cond (.t 59) ((PC.reg [nn (.v 2) (.mv true (.c (.v (.int .i64
  1))))]).seq PC.ret) PC.skip)).seq ((PC.reg [nn (.v 2) (.mv true (.c (.v (.int .i64 0))))]).seq PC.ret))))) [(.v 2,none)]
def pf16:PF:=
 PF.mk 1 3 49 ((PC.reg [nn (.v 1) (.box (.v 0)),nn (.v 2) (.mv true (.c (.v (.bool false))))]).seq (((PC.reg [nn (.t 3) (.fadr 0 0 (.v 1)),nn (.t 4)
  (.load 1 false (.t 3)),nn (.t 5) (.bin .eql (.t 4) (.c (.v (.int .i64 0))))]).seq (PC.cond (.t 5) ((PC.reg [nn (.t 6) (.load 35 true (.v 1)),nn (.t
  7) (.build (.agg [.int .i64 0,.int .i64 0,.int .i64 0,.arr .u8 32 [0,0,0,0,0,0,0,0,0,0,0,0,0,0,0,0,0,0,0,0,0,0,0,0,0,0,
  0,0,0,0,0,0]]) []),nn (.t 8) (.eqa false (.agg (.cons 0 1 false .int (.cons 1 1 false .int (.cons 2 1 false .int (.cons 3 32 true (.arr 32)
  .nil))))) (.t 6) (.t 7)),ma 2 8]).seq PC.ret) PC.skip)).seq (((PC.reg [nn (.t 9) (.fadr 0 0 (.v 1)),nn (.t 10) (.load 1 false (.t 9)),nn (.t 11)
  (.bin .lss (.t 10) (.c (.v (.int .i64 0)))),nn (.t 12) (.mv false (.t 11)),⟨.t 13,.fadr 0 0 (.v 1),some (.t 12,false)⟩,⟨.t 14,.load 1 false
  (.t 13),some (.t 12,false)⟩,⟨.t 15,.bin .gtr (.t 14) (.c (.v (.int .i64 1099511627776))),some (.t 12,false)⟩,nn (.t 16) (.pick (.t 12) (.c (.v
  (.bool true))) (.t 15)),nn (.t 17) (.mv false (.t 16)),⟨.t 18,.fadr 1 1 (.v 1),some (.t 17,false)⟩,⟨.t 19,.load 1 false (.t 18),some (.t 17,
  false)⟩,⟨.t 20,.bin .lss (.t 19) (.c (.v (.int .i64 1))),some (.t 17,false)⟩,nn (.t 21) (.pick (.t 17) (.c (.v (.bool true))) (.t 20)),nn (.t
  22) (.mv false (.t 21)),⟨.t 23,.fadr 1 1 (.v 1),some (.t 22,false)⟩,⟨.t 24,.load 1 false (.t 23),some (.t 22,false)⟩,⟨.t 25,.bin .gtr (.t
  24) (.c (.v (.int .i64 3))),some (.t 22,false)⟩,nn (.t 26) (.pick (.t 22) (.c (.v (.bool true))) (.t 25)),nn (.t 27) (.mv false (.t 26)),⟨.t 28,
  .fadr 2 2 (.v 1),some (.t 27,false)⟩,⟨.t 29,.load 1 false (.t 28),some (.t 27,false)⟩,⟨.t 30,.bin .lss (.t 29) (.c (.v (.int .i64 0))),some
  (.t 27,false)⟩,nn (.t 31) (.pick (.t 27) (.c (.v (.bool true))) (.t 30))]).seq (PC.cond (.t 31) ((PC.reg [nn (.v 2) (.mv true (.c (.v (.bool
  false))))]).seq PC.ret) PC.skip)).seq ((PC.reg [nn (.t 32) (.fadr 2 2 (.v 1)),nn (.t 33) (.load 1 false (.t 32)),nn (.t 34) (.fadr 0 0 (.v 1)),nn
  (.t 35) (.load 1 false (.t 34)),nn (.t 36) (.bin .lss (.t 33) (.t 35)),nn (.t 37) (.mv false (.t 36)),⟨.t 38,.fadr 2 2 (.v 1),some (.t 37,
  false)⟩,⟨.t 39,.load 1 false (.t 38),some (.t 37,false)⟩,⟨.t 40,.fadr 0 0 (.v 1),some (.t 37,false)⟩,⟨.t 41,.load 1 false (.t 40),some (.t
  37,false)⟩,⟨.t 42,.bin .eql (.t 39) (.t 41),some (.t 37,false)⟩,⟨.t 43,.mv false (.t 42),some (.t 37,false)⟩,⟨.t 44,.fadr 1 1 (.v 1),some
  (.t 43,true)⟩,⟨.t 45,.load 1 false (.t 44),some (.t 43,true)⟩,⟨.t 46,.bin .eql (.t 45) (.c (.v (.int .i64 3))),some (.t 43,true)⟩,⟨.t 47,
  .pick (.t 43) (.t 46) (.c (.v (.bool false))),some (.t 37,false)⟩,nn (.t 48) (.pick (.t 37) (.c (.v (.bool true))) (.t 47)),ma 2 48]).seq
  PC.ret)))) [(.v 2,none)]
def lp86_0:PC:=
 (PC.reg [nn (.t 18) (.bin .lss (.v 17) (.v 16))]).seq ((PC.cond (.t 18) PC.skip (PC.exit 0)).seq ((PC.block 1 ((PC.reg [nn (.t 19) (.iadrS 1 (.v 15)
  (.v 17)),nn (.t 20) (.load 1 false (.t 19)),ma 7 20]).seq (PC.reg [mm 21 5,mm 22 7,nn (.t 23) (.conv .u64 (.t 22)),nn (.t 24) (.call 107 [.t 21,
  .t 23]),ma 5 24]))).seq (PC.reg [nn (.t 25) (.bin .add (.v 17) (.c (.v (.int .i64 1)))),nn (.v 17) (.mv false (.t 25))])))
def pf86:PF:=
 PF.mk 2 18 30 ((PC.reg [nn (.v 3) (.box (.v 1)),nn (.v 4) (.mv true (.c (.own .nils)))]).seq ((PC.reg [nn (.v 5) (.mv true (.c (.own .nils)))]).seq
  (((PC.reg [nn (.v 8) (.mv false (.v 0)),nn (.v 9) (.fadr 0 0 (.v 3)),nn (.v 10) (.load 1 false (.v 9)),nn (.v 11) (.fadr 1 1 (.v 3)),nn (.v 12)
  (.load 1 false (.v 11)),nn (.v 13) (.fadr 2 2 (.v 3)),nn (.v 14) (.load 1 false (.v 13)),nn (.v 15) (.buildS (some .i64) 1 (.int .i64 0) 4 [(0,.v
  8),(1,.v 10),(2,.v 12),(3,.v 14)]),nn (.v 16) (.len (.v 15)),nn (.v 17) (.mv false (.c (.v (.int .i64 0))))]).seq (PC.block 0 (PC.loop [3,5,
  15,16,17] lp86_0))).seq ((PC.reg [mm 26 5,nn (.t 27) (.fadr 3 3 (.v 3)),nn (.t 28) (.load 32 true (.t 27)),nn (.t 29) (.call 87 [.t 26,.t 28]),
  ma 4 29]).seq PC.ret)))) [(.v 4,none)]
def pf95:PF:=
 PF.mk 2 6 30 ((PC.reg [nn (.v 3) (.box (.v 1)),nn (.v 4) (.mv true (.c (.own .nils)))]).seq ((PC.regD 0 [mm 6 0,nn (.t 7) (.conv .u64 (.t 6)),nn (.t
  8) (.call 119 [.t 7]),nn (.t 9) (.fadr 0 0 (.v 3)),nn (.t 10) (.load 1 false (.t 9)),nn (.t 11) (.conv .u64 (.t 10)),nn (.t 12) (.call 119 [.t
  11]),nn (.t 13) (.app (some .u8) 1 1 (.t 8) (.t 12)),ma 5 13] []).seq ((PC.regD 0 [nn (.t 14) (.mv true (.v 5)),nn (.t 15) (.fadr 1 1 (.v 3)),nn
  (.t 16) (.load 1 false (.t 15)),nn (.t 17) (.conv .u8 (.t 16)),nn (.t 18) (.buildS (some .u8) 1 (.int .u8 0) 1 [(0,.t 17)]),nn (.t 19) (.app
  (some .u8) 1 1 (.t 14) (.t 18)),nn (.t 20) (.fadr 2 2 (.v 3)),nn (.t 21) (.load 1 false (.t 20)),nn (.t 22) (.conv .u64 (.t 21)),nn (.t 23)
  (.call 119 [.t 22]),nn (.t 24) (.app (some .u8) 1 1 (.t 19) (.t 23)),ma 5 24] []).seq ((PC.reg [nn (.t 25) (.mv true (.v 5)),nn (.t 26) (.fadr 3 3
  (.v 3)),nn (.t 27) (.load 32 true (.t 26)),nn (.t 28) (.call 96 [.t 27]),nn (.t 29) (.app (some .u8) 1 1 (.t 25) (.t 28)),ma 4 29]).seq
  PC.ret)))) [(.v 4,none)]
def pf44:PF:=
 PF.mk 3 9 31 ((PC.reg [nn (.v 5) (.box (.v 2)),nn (.v 6) (.mv true (.c (.own .nils))),nn (.v 7) (.mv true (.c (.v (.int .i64 0))))]).seq (((PC.reg
  [nn (.t 9) (.load 35 true (.v 5)),nn (.t 10) (.call 43 [.t 9]),nn (.t 11) (.bin .neq (.t 10) (.c (.v (.int .i64 0)))),nn (.t 12) (.mv false (.t
  11)),gm 13 0 12 false,⟨.t 14,.call 37 [.t 13],some (.t 12,false)⟩,⟨.t 15,.un .not (.t 14),some (.t 12,false)⟩,nn (.t 16) (.pick (.t 12) (.c
  (.v (.bool true))) (.t 15)),nn (.t 17) (.mv false (.t 16)),gm 18 1 17 false,⟨.t 19,.call 85 [.t 18,.c (.v (.int .i64 1)),.c (.v (.int .i64
  1099511627776))],some (.t 17,false)⟩,⟨.t 20,.un .not (.t 19),some (.t 17,false)⟩,nn (.t 21) (.pick (.t 17) (.c (.v (.bool true))) (.t
  20))]).seq (PC.cond (.t 21) ((PC.reg [nn (.v 6) (.mv true (.c (.own .nils))),nn (.v 7) (.mv true (.c (.v (.int .i64 1))))]).seq PC.ret)
  PC.skip)).seq ((PC.reg [mm 22 1,nn (.t 23) (.load 35 true (.v 5)),nn (.t 24) (.call 86 [.t 22,.t 23]),ma 8 24]).seq ((PC.reg [mm 25 8,mm 26 0,
  mm 27 8,nn (.t 28) (.buildS none 1 .nils 1 [(0,.t 27)]),nn (.t 29) (.call 62 [.t 26,.c (.v (.int .u8 3)),.t 28]),nn (.t 30) (.call 87 [.t 25,
  .t 29]),ma 6 30,nn (.v 7) (.mv true (.c (.v (.int .i64 0))))]).seq PC.ret)))) [(.v 6,none),(.v 7,none)]
def pf53:PF:=
 PF.mk 3 8 17 ((PC.reg [nn (.v 5) (.box (.v 2)),nn (.v 6) (.mv true (.c (.own .nils)))]).seq ((PC.reg [mm 8 1,nn (.t 9) (.load 35 true (.v 5)),nn (.t
  10) (.call 95 [.t 8,.t 9]),ma 7 10]).seq ((PC.reg [nn (.t 11) (.mv true (.v 7)),mm 12 0,mm 13 7,nn (.t 14) (.call 97 [.t 12,.c (.v (.int .u8
  3)),.t 13]),nn (.t 15) (.call 96 [.t 14]),nn (.t 16) (.app (some .u8) 1 1 (.t 11) (.t 15)),ma 6 16]).seq PC.ret))) [(.v 6,none)]
attribute [local irreducible] W Wops WopsD WL Wop WopD
variable {E:Env} {C:Abs.Spec} {l:List (Nat×Spec1)} {G:List (Nat×V)} {Q:R→List (Nat×V)→Prop}
set_option maxHeartbeats 1000000
def SWi:Spec1
 |[.int .i64 n,.int .i64 lo,.int .i64 hi],G,Q=>Q (.v (.bool (decide (lo≤n)&&decide (n≤hi)))) G
 |_,_,_=>False
theorem SWi_eq {n lo hi}:SWi [.int .i64 n,.int .i64 lo,.int .i64 hi] G Q=(Q (.v (.bool (decide (lo≤n)&&decide (n≤hi)))) G):=rfl
def SBc:Spec1
 |[.agg [.int .i64 a1,.int .i64 a2,.int .i64 a3,.arr .u8 32 a4]],G,Q=>(⟨a1,a2,a3,a4⟩:SealS).wf∧Q (.v (.int .i64 (if (⟨a1,a2,a3,a4⟩:SealS).may=true then 0 else 1))) G
 |_,_,_=>False
theorem SBc_eq {a1 a2 a3 a4}:SBc [.agg [.int .i64 a1,.int .i64 a2,.int .i64 a3,.arr .u8 32 a4]] G Q=((⟨a1,a2,a3,a4⟩:SealS).wf∧Q (.v (.int .i64 (if (⟨a1,a2,a3,a4⟩:SealS).may=true then 0 else 1))) G):=rfl
def SBm:Spec1
 |[.agg [.int .i64 a1,.int .i64 a2,.int .i64 a3,.arr .u8 32 a4]],G,Q=>(⟨a1,a2,a3,a4⟩:SealS).wf∧Q (.v (.bool (⟨a1,a2,a3,a4⟩:SealS).may)) G
 |_,_,_=>False
theorem SBm_eq {a1 a2 a3 a4}:SBm [.agg [.int .i64 a1,.int .i64 a2,.int .i64 a3,.arr .u8 32 a4]] G Q=((⟨a1,a2,a3,a4⟩:SealS).wf∧Q (.v (.bool (⟨a1,a2,a3,a4⟩:SealS).may)) G):=rfl
def SBt:Spec1
 |[.int .i64 ve,.agg [.int .i64 a1,.int .i64 a2,.int .i64 a3,.arr .u8 32 a4]],G,Q=>((⟨a1,a2,a3,a4⟩:SealS).wf∧(⟨a1,a2,a3,a4⟩:SealS).May∧0≤ve∧ve≤1099511627776)∧Q (.own (.sli .u8 ((⟨a1,a2,a3,a4⟩:SealS).said ve))) G
 |_,_,_=>False
theorem SBt_eq {ve a1 a2 a3 a4}:SBt [.int .i64 ve,.agg [.int .i64 a1,.int .i64 a2,.int .i64 a3,.arr .u8 32 a4]] G Q=(((⟨a1,a2,a3,a4⟩:SealS).wf∧(⟨a1,a2,a3,a4⟩:SealS).May∧0≤ve∧ve≤1099511627776)∧Q (.own (.sli .u8 ((⟨a1,a2,a3,a4⟩:SealS).said ve))) G):=rfl
def putV (kt:List Int) (i ve:Int) (s:SealS):R:=if s.May∧(1≤i∧i≤21)∧1≤ve∧ve≤1099511627776 then .tup [.sli .u8 (s.blob kt i ve),.int .i64 0]else .tup [.nils,.int .i64 1]
def SBp (kt:List Int):Spec1
 |[.int .i64 i,.int .i64 ve,.agg [.int .i64 a1,.int .i64 a2,.int .i64 a3,.arr .u8 32 a4]],G,Q=>(⟨a1,a2,a3,a4⟩:SealS).wf∧Q (putV kt i ve (⟨a1,a2,a3,a4⟩:SealS)) G
 |_,_,_=>False
theorem SBp_eq {kt i ve a1 a2 a3 a4}:SBp kt [.int .i64 i,.int .i64 ve,.agg [.int .i64 a1,.int .i64 a2,.int .i64 a3,.arr .u8 32 a4]] G Q=((⟨a1,a2,a3,a4⟩:SealS).wf∧Q (putV kt i ve (⟨a1,a2,a3,a4⟩:SealS)) G):=rfl
def SBr (kt:List Int):Spec1
 |[.int .i64 i,.int .i64 ve,.agg [.int .i64 a1,.int .i64 a2,.int .i64 a3,.arr .u8 32 a4]],G,Q=>((⟨a1,a2,a3,a4⟩:SealS).wf∧(⟨a1,a2,a3,a4⟩:SealS).May∧0≤ve∧ve≤1099511627776)∧Q (.own (.sli .u8 ((⟨a1,a2,a3,a4⟩:SealS).blob kt i ve))) G
 |_,_,_=>False
theorem SBr_eq {kt i ve a1 a2 a3 a4}:SBr kt [.int .i64 i,.int .i64 ve,.agg [.int .i64 a1,.int .i64 a2,.int .i64 a3,.arr .u8 32 a4]] G Q=(((⟨a1,a2,a3,a4⟩:SealS).wf∧(⟨a1,a2,a3,a4⟩:SealS).May∧0≤ve∧ve≤1099511627776)∧Q (.own (.sli .u8 ((⟨a1,a2,a3,a4⟩:SealS).blob kt i ve))) G):=rfl
theorem walk85 {n lo hi:Int} (h:Q (.v (.bool (decide (lo≤n)&&decide (n≤hi)))) G):Wf E C pf85 [.int .i64 n,.int .i64 lo,.int .i64 hi] G Q:=by
 simp (maxSteps:=1000000) (implicitDefEqProofs:=false) only[pf85,go_sem,↓reduceIte]
 repeat' first|(intro _)|constructor
 all_goals (refine finB h ?_;first|(simp_all;done)|(simp;omega))
theorem walk43 {a1 a2 a3:Int} {a4:List Int} (h45:Abs.look l 85=some SWi) (hw:(⟨a1,a2,a3,a4⟩:SealS).wf) (h:Q (.v (.int .i64 (if (⟨a1,a2,a3,a4⟩:SealS).may=true then 0 else 1))) G):Wf E (specOf l) pf43 [.agg [.int .i64 a1,.int .i64 a2,.int .i64 a3,.arr .u8 32 a4]] G Q:=by
 have hz:(a4==[0,0,0,0,0,0,0,0,0,0,0,0,0,0,0,0,0,0,0,0,0,0,0,0,0,0,0,0,0,0,0,0])=decide (a4=zero32):=by rw[show[0,0,0,0,0,0,0,0,0,0,0,0,0,0,0,0,0,0,0,0,0,0,0,0,0,0,0,0,0,0,0,0]=zero32 from rfl];by_cases e:a4=zero32<;>simp[e]
 simp (maxSteps:=1000000) (implicitDefEqProofs:=false) only[pf43,h45,SWi_eq,hz,go_sem,↓reduceIte]
 repeat' first|(intro _)|constructor
 all_goals
  refine finI h ?_
  first
  |(rw[if_neg (by unfold SealS.may;rw[decide_eq_true_eq];unfold SealS.May;dsimp only;simp_all<;>omega)];done)
  |(rw[if_pos (by unfold SealS.may;rw[decide_eq_true_eq];unfold SealS.May;dsimp only;simp_all<;>omega)];done)
theorem walk16 {a1 a2 a3:Int} {a4:List Int} (hw:(⟨a1,a2,a3,a4⟩:SealS).wf) (h:Q (.v (.bool (⟨a1,a2,a3,a4⟩:SealS).may)) G):Wf E C pf16 [.agg [.int .i64 a1,.int .i64 a2,.int .i64 a3,.arr .u8 32 a4]] G Q:=by
 have hz:(a4==[0,0,0,0,0,0,0,0,0,0,0,0,0,0,0,0,0,0,0,0,0,0,0,0,0,0,0,0,0,0,0,0])=decide (a4=zero32):=by rw[show[0,0,0,0,0,0,0,0,0,0,0,0,0,0,0,0,0,0,0,0,0,0,0,0,0,0,0,0,0,0,0,0]=zero32 from rfl];by_cases e:a4=zero32<;>simp[e]
 simp (maxSteps:=1000000) (implicitDefEqProofs:=false) only[pf16,hz,go_sem,↓reduceIte]
 repeat' first|(intro _)|constructor
 all_goals
  refine finB h ?_
  unfold SealS.may
  first
  |(apply decide_eq_true;unfold SealS.May;dsimp only;simp_all<;>omega;done)
  |(apply decide_eq_false;unfold SealS.May;dsimp only;simp_all<;>omega;done)
  |(rw[Bool.eq_iff_iff];unfold SealS.May;simp_all<;>omega)
theorem loop86 {z0:Bx} {QQ:Ex→St→Prop} {ve a1 a2 a3:Int} (h52:Abs.look l 107=some SNu) (h0:0≤ve∧ve < 2000000000000) (h1:0≤a1∧a1 < 2000000000000) (h2:0≤a2∧a2 < 2000000000000) (h3:0≤a3∧a3 < 2000000000000)
  (hx:∀ts,QQ (.exit 0) ⟨[none,none,none,some (.lp 0 []),none,some (.own (.sli .u8 (num ve.toNat++num a1.toNat++num a2.toNat++num a3.toNat))),none,none,none,none,none,none,none,none,none,some (.own (.sli .i64 [ve,a1,a2,a3])),some (.v (.int .i64 4)),some (.v (.int .i64 4))],ts,[z0],G⟩):WL (W E (specOf l) lp86_0) [3,5,15,16,17] QQ 5 ⟨[none,none,none,some (.lp 0 []),none,some (.own .nils),none,none,none,none,none,none,none,none,none,some (.own (.sli .i64 [ve,a1,a2,a3])),some (.v (.int .i64 4)),some (.v (.int .i64 0))],[],[z0],G⟩:=by
 obtain⟨m0,n0⟩:=num_ok (n:=ve.toNat) (by omega)
 obtain⟨m1,n1⟩:=num_ok (n:=a1.toNat) (by omega)
 obtain⟨m2,n2⟩:=num_ok (n:=a2.toNat) (by omega)
 obtain⟨m3,n3⟩:=num_ok (n:=a3.toNat) (by omega)
 have w0:=u64_of h0.1 (by omega)
 have w1:=u64_of h1.1 (by omega)
 have w2:=u64_of h2.1 (by omega)
 have w3:=u64_of h3.1 (by omega)
 refine WL_in lp86_0.eq_1 ?_
 simp (maxSteps:=1000000) (implicitDefEqProofs:=false) (disch:=omega) only[h52,SNu_eq,w0,w1,w2,w3,go_sem,↓reduceIte,w64]
 refine⟨[],⟨rfl,by decide,by omega,by omega⟩,?_⟩
 refine WL_in lp86_0.eq_1 ?_
 simp (maxSteps:=1000000) (implicitDefEqProofs:=false) (disch:=omega) only[h52,SNu_eq,w0,w1,w2,w3,go_sem,↓reduceIte,w64]
 refine⟨_,⟨rfl,by omega,by omega,by omega⟩,?_⟩
 refine WL_in lp86_0.eq_1 ?_
 simp (maxSteps:=1000000) (implicitDefEqProofs:=false) (disch:=omega) only[h52,SNu_eq,w0,w1,w2,w3,go_sem,↓reduceIte,w64]
 refine⟨_,⟨rfl,by simp only[List.length_append];omega,by omega,by omega⟩,?_⟩
 refine WL_in lp86_0.eq_1 ?_
 simp (maxSteps:=1000000) (implicitDefEqProofs:=false) (disch:=omega) only[h52,SNu_eq,w0,w1,w2,w3,go_sem,↓reduceIte,w64]
 refine⟨_,⟨rfl,by simp only[List.length_append];omega,by omega,by omega⟩,?_⟩
 refine WL_in lp86_0.eq_1 ?_
 simp (maxSteps:=1000000) (implicitDefEqProofs:=false) (disch:=omega) only[go_sem,↓reduceIte,w64]
 exact hx _
theorem walk86 {a1 a2 a3:Int} {a4:List Int} {ve:Int} (h52:Abs.look l 107=some SNu) (h46:Abs.look l 87=some SHa) (hw:(⟨a1,a2,a3,a4⟩:SealS).wf) (hm:(⟨a1,a2,a3,a4⟩:SealS).May) (hv:0≤ve∧ve≤1099511627776) (h:Q (.own (.sli .u8 ((⟨a1,a2,a3,a4⟩:SealS).said ve))) G):Wf E (specOf l) pf86 [.int .i64 ve,.agg [.int .i64 a1,.int .i64 a2,.int .i64 a3,.arr .u8 32 a4]] G Q:=by
 obtain⟨m1,m2,m3⟩:=SealS.bounds hm
 dsimp only at m1 m2 m3
 have l4:a4.length=32:=hw.pa.2
 obtain⟨hby,hln⟩:=SealS.said_ok hw hm hv
 unfold SealS.said at hln h;dsimp only at hln h
 rw[List.length_append]at hln
 simp (maxSteps:=1000000) (implicitDefEqProofs:=false) only[pf86,go_sem,↓reduceIte]
 refine⟨5,?_⟩
 simp (maxSteps:=1000000) (implicitDefEqProofs:=false) only[go_sem,↓reduceIte]
 refine loop86 (ve:=ve) (a1:=a1) (a2:=a2) (a3:=a3) h52 (by omega) (by omega) (by omega) (by omega) (fun ts=> ?_)
 simp (maxSteps:=1000000) (implicitDefEqProofs:=false) only[h46,SHa_eq,go_sem,↓reduceIte]
 refine⟨_,⟨byV_u8 _,by omega,l4⟩,?_⟩
 exact h
theorem walk95 {a1 a2 a3:Int} {a4:List Int} {ve:Int} (h61:Abs.look l 119=some (SRn 10)) (h48:Abs.look l 96=some SBy) (hw:(⟨a1,a2,a3,a4⟩:SealS).wf) (hm:(⟨a1,a2,a3,a4⟩:SealS).May) (hv:0≤ve∧ve≤1099511627776) (h:Q (.own (.sli .u8 ((⟨a1,a2,a3,a4⟩:SealS).said ve))) G):Wf E (specOf l) pf95 [.int .i64 ve,.agg [.int .i64 a1,.int .i64 a2,.int .i64 a3,.arr .u8 32 a4]] G Q:=by
 obtain⟨m1,m2,m3⟩:=SealS.bounds hm
 dsimp only at m1 m2 m3
 have l4:a4.length=32:=hw.pa.2
 obtain⟨r0,n0⟩:=num_ok (n:=ve.toNat) (by omega)
 obtain⟨r1,n1⟩:=num_ok (n:=a1.toNat) (by omega)
 obtain⟨r3,n3⟩:=num_ok (n:=a3.toNat) (by omega)
 have w0:=u64_of (n:=ve) (by omega) (by omega)
 have w1:=u64_of (n:=a1) (by omega) (by omega)
 have w3:=u64_of (n:=a3) (by omega) (by omega)
 have w2:IntKind.u8.wrap a2=a2:=by simp only[IntKind.wrap,IntKind.bits,IntKind.signed];simp;omega
 have big:∀n:Nat,n < 2000000000000→n < 128 ^ 10:=fun n hn=>Nat.lt_of_lt_of_le hn (by decide)
 unfold SealS.said at h;dsimp only at h
 rw[num_small (n:=a2.toNat) (by omega),show ((a2.toNat:Nat):Int)=a2 by omega]at h
 simp (maxSteps:=1000000) (implicitDefEqProofs:=false) only[pf95,w0,w1,w2,w3,h61,SRn_eq,h48,SBy_eq,l4,go_sem,↓reduceIte]
 have b0:=big ve.toNat (by omega)
 have b1:=big a1.toNat (by omega)
 have b3:=big a3.toNat (by omega)
 exact⟨⟨by omega,b0,by omega⟩,⟨by omega,b1,by omega⟩,by omega,by omega,⟨by omega,b3,by omega⟩,by omega,by omega,h⟩
theorem walk44 {a1 a2 a3:Int} {a4:List Int} {kt:List Int} {i ve:Int} (h23:Abs.look l 43=some SBc) (h36:Abs.look l 37=some SNo) (h45:Abs.look l 85=some SWi) (h42:Abs.look l 86=some SBt) (h34:Abs.look l 62=some (STa kt)) (h46:Abs.look l 87=some SHa)
  (hw:(⟨a1,a2,a3,a4⟩:SealS).wf) (h:Q (putV kt i ve (⟨a1,a2,a3,a4⟩:SealS)) G):Wf E (specOf l) pf44 [.int .i64 i,.int .i64 ve,.agg [.int .i64 a1,.int .i64 a2,.int .i64 a3,.arr .u8 32 a4]] G Q:=by
 unfold putV at h
 by_cases hm:(⟨a1,a2,a3,a4⟩:SealS).May
 ·have hmay:(⟨a1,a2,a3,a4⟩:SealS).may=true:=decide_eq_true hm
  by_cases hi:1≤i∧i≤21
  ·have hd:decide (1≤i∧i≤21)=true:=decide_eq_true hi
   by_cases hv:1≤ve∧ve≤1099511627776
   ·obtain⟨s1,s2⟩:=SealS.said_ok (ve:=ve) hw hm (by omega)
    have h1:1≤ve:=hv.1
    have h2:ve≤1099511627776:=hv.2
    rw[if_pos ⟨hm,hi,hv⟩]at h
    unfold SealS.blob at h
    simp (maxSteps:=1000000) (implicitDefEqProofs:=false) only[pf44,h23,SBc_eq,hmay,h36,SNo_eq,hd,h45,SWi_eq,h1,h2,h42,SBt_eq,h34,STa_eq,h46,SHa_eq,go_sem,↓reduceIte]
    refine⟨hw,⟨hw,hm,by omega⟩,(⟨a1,a2,a3,a4⟩:SealS).said ve,_,⟨rowV_sle _,by simp,by simp[catL,byV],s1,by omega⟩,_,⟨byV_u8 _,by omega,tagH_len _ _ _ _⟩,?_⟩
    exact h
   ·rw[if_neg (fun e=>hv e.2.2)]at h
    have hvb:(decide (1≤ve)&&decide (ve≤1099511627776))=false:=by simp;omega
    simp (maxSteps:=1000000) (implicitDefEqProofs:=false) only[pf44,h23,SBc_eq,hmay,h36,SNo_eq,hd,h45,SWi_eq,hvb,go_sem,↓reduceIte]
    exact⟨hw,h⟩
  ·have hd:decide (1≤i∧i≤21)=false:=decide_eq_false hi
   rw[if_neg (fun e=>hi e.2.1)]at h
   simp (maxSteps:=1000000) (implicitDefEqProofs:=false) only[pf44,h23,SBc_eq,hmay,h36,SNo_eq,hd,go_sem,↓reduceIte]
   exact⟨hw,h⟩
 ·have hmay:(⟨a1,a2,a3,a4⟩:SealS).may=false:=decide_eq_false hm
  rw[if_neg (fun e=>hm e.1)]at h
  simp (maxSteps:=1000000) (implicitDefEqProofs:=false) only[pf44,h23,SBc_eq,hmay,go_sem,↓reduceIte]
  exact⟨hw,h⟩
theorem walk53 {a1 a2 a3:Int} {a4:List Int} {kt:List Int} {i ve:Int} (h47:Abs.look l 95=some SBt) (h49:Abs.look l 97=some (STr kt)) (h48:Abs.look l 96=some SBy)
  (hw:(⟨a1,a2,a3,a4⟩:SealS).wf) (hm:(⟨a1,a2,a3,a4⟩:SealS).May) (hv:0≤ve∧ve≤1099511627776) (h:Q (.own (.sli .u8 ((⟨a1,a2,a3,a4⟩:SealS).blob kt i ve))) G):Wf E (specOf l) pf53 [.int .i64 i,.int .i64 ve,.agg [.int .i64 a1,.int .i64 a2,.int .i64 a3,.arr .u8 32 a4]] G Q:=by
 obtain⟨s1,s2⟩:=SealS.said_ok (ve:=ve) hw hm hv
 unfold SealS.blob at h
 simp (maxSteps:=1000000) (implicitDefEqProofs:=false) only[pf53,h47,SBt_eq,h49,STr_eq,h48,SBy_eq,go_sem,↓reduceIte]
 refine⟨⟨hw,hm,hv.1,hv.2⟩,(⟨a1,a2,a3,a4⟩:SealS).said ve,⟨byV_u8 _,s1,by omega⟩,?_⟩
 simp (maxSteps:=1000000) (implicitDefEqProofs:=false) only[tagH_len,go_sem,↓reduceIte]
 exact⟨by omega,h⟩
end Go.Proofs.YtjbglbhcbenhpaaDoor.Sha
namespace Go.Proofs.YtjbglbhcbenhpaaDoor.Sha
open Go Go.Abs Go.Abs.Sha
set_option linter.unusedSimpArgs false
set_option linter.unusedVariables false
set_option maxRecDepth 100000
def pf49:PF:=
 PF.mk 2 11 48 ((PC.reg [nn (.v 4) (.mv true (.c (.v (.int .i64 0)))),nn (.v 5) (.alloc (.agg [.int .i64 0,.int .i64 0,.int .i64 0,.arr .u8 32 [0,
  0,0,0,0,0,0,0,0,0,0,0,0,0,0,0,0,0,0,0,0,0,0,0,0,0,0,0,0,0,0,0]])),nn (.v 6) (.mv true (.c (.v (.int .i64 0))))]).seq
  ((PC.reg [mm 11 1,nn (.t 12) (.call 90 [.t 11]),ma 7 12]).seq ((PC.reg [mm 13 7,nn (.t 14) (.call 91 [.t 13,.c (.v (.int .i64 1099511627776))]),
  ma 8 14]).seq ((PC.reg [mm 15 7,nn (.t 16) (.call 91 [.t 15,.c (.v (.int .i64 1099511627776))]),mm 17 7,nn (.t 18) (.call 91 [.t 17,.c (.v (.int
  .i64 3))]),mm 19 7,nn (.t 20) (.call 91 [.t 19,.c (.v (.int .i64 1099511627776))]),mm 21 7,nn (.t 22) (.call 92 [.t 21]),nn (.t 23) (.build
  (.agg [.int .i64 0,.int .i64 0,.int .i64 0,.arr .u8 32 [0,0,0,0,0,0,0,0,0,0,0,0,0,0,0,0,0,0,0,0,0,0,0,0,0,0,0,0,0,0,
  0,0]]) [(0,.t 16),(1,.t 18),(2,.t 20),(3,.t 22)]),nn (.v 9) (.alloc (.agg [.int .i64 0,.int .i64 0,.int .i64 0,.arr .u8 32 [0,0,0,0,
  0,0,0,0,0,0,0,0,0,0,0,0,0,0,0,0,0,0,0,0,0,0,0,0,0,0,0,0]])),nn .no (.store 35 (.v 9) (.t 23))]).seq ((PC.reg [mm 24 7,nn
  (.t 25) (.call 92 [.t 24]),nn (.v 10) (.alloc (.arr .u8 32 [0,0,0,0,0,0,0,0,0,0,0,0,0,0,0,0,0,0,0,0,0,0,0,0,0,0,0,0,0,
  0,0,0])),nn .no (.store 32 (.v 10) (.t 25))]).seq ((PC.block 0 (((PC.reg [mm 27 7,nn (.t 28) (.call 93 [.t 27]),nn (.t 29) (.un .not (.t 28)),
  nn (.t 26) (.mv true (.t 29))]).seq (PC.cond (.t 26) PC.skip ((PC.reg [mm 30 8,nn (.t 31) (.bin .eql (.t 30) (.c (.v (.int .i64 0)))),nn (.t 26)
  (.mv true (.t 31))]).seq (PC.cond (.t 26) PC.skip (PC.reg [nn (.t 32) (.load 35 true (.v 9)),nn (.t 33) (.call 43 [.t 32]),nn (.t 34) (.bin .neq
  (.t 33) (.c (.v (.int .i64 0)))),nn (.t 26) (.mv true (.t 34))]))))).seq (PC.cond (.t 26) ((PC.reg [nn (.t 35) (.build (.agg [.int .i64 0,.int .i64
  0,.int .i64 0,.arr .u8 32 [0,0,0,0,0,0,0,0,0,0,0,0,0,0,0,0,0,0,0,0,0,0,0,0,0,0,0,0,0,0,0,0]]) []),nn (.v 4) (.mv
  true (.c (.v (.int .i64 0)))),nn .no (.store 35 (.v 5) (.t 35)),nn (.v 6) (.mv true (.c (.v (.int .i64 2))))]).seq PC.ret) ((PC.regD 0 [mm 37 0,nn
  (.t 38) (.load 32 true (.v 10)),mm 39 8,nn (.t 40) (.load 35 true (.v 9)),nn (.t 41) (.call 86 [.t 39,.t 40]),nn (.t 42) (.buildS none 1 .nils 1
  [(0,.t 41)]),nn (.t 43) (.call 68 [.t 37,.c (.v (.int .u8 3)),.t 38,.t 42]),nn (.t 44) (.un .not (.t 43)),nn (.t 36) (.mv true (.t 44))]
  []).seq (PC.cond (.t 36) ((PC.reg [nn (.t 45) (.build (.agg [.int .i64 0,.int .i64 0,.int .i64 0,.arr .u8 32 [0,0,0,0,0,0,0,0,0,0,0,0,
  0,0,0,0,0,0,0,0,0,0,0,0,0,0,0,0,0,0,0,0]]) []),nn (.v 4) (.mv true (.c (.v (.int .i64 0)))),nn .no (.store 35 (.v 5) (.t 45)),
  nn (.v 6) (.mv true (.c (.v (.int .i64 7))))]).seq PC.ret) PC.skip))))).seq ((PC.regD 0 [mm 46 8,nn (.t 47) (.load 35 true (.v 9)),ma 4 46,nn .no
  (.store 35 (.v 5) (.t 47)),nn (.v 6) (.mv true (.c (.v (.int .i64 0))))] []).seq PC.ret))))))) [(.v 4,none),(.v 5,some (35,true)),(.v 6,none)]
def pf22:PF:=
 PF.mk 2 10 84 ((PC.reg [nn (.v 4) (.mv true (.c (.v (.int .i64 0)))),nn (.v 5) (.alloc (.agg [.int .i64 0,.int .i64 0,.int .i64 0,.arr .u8 32 [0,
  0,0,0,0,0,0,0,0,0,0,0,0,0,0,0,0,0,0,0,0,0,0,0,0,0,0,0,0,0,0,0]])),nn (.v 6) (.mv true (.c (.v (.int .i64 0))))]).seq
  ((PC.reg [nn (.t 10) (.build (.agg [.int .i64 0,.int .i64 0,.int .i64 0,.arr .u8 32 [0,0,0,0,0,0,0,0,0,0,0,0,0,0,0,0,0,0,0,0,
  0,0,0,0,0,0,0,0,0,0,0,0]]) []),nn (.v 7) (.alloc (.agg [.int .i64 0,.int .i64 0,.int .i64 0,.arr .u8 32 [0,0,0,0,0,0,0,0,0,0,
  0,0,0,0,0,0,0,0,0,0,0,0,0,0,0,0,0,0,0,0,0,0]])),nn .no (.store 35 (.v 7) (.t 10))]).seq ((PC.reg [nn (.v 8) (.mv true (.c (.v
  (.int .i64 0))))]).seq ((PC.reg [mm 11 1,nn (.t 12) (.build (.agg [.nils,.int .i64 0,.bool false]) [(0,.t 11)]),nn (.v 9) (.alloc (.agg [.nils,
  .int .i64 0,.bool false])),nn .no (.store 3 (.v 9) (.t 12))]).seq ((PC.reg [nn (.t 14) (.load 3 true (.v 9)),nn (.t 15) (.call 51 [.t 14,.c (.v
  (.int .i64 1099511627776))]),nn (.t 13) (.mv false (.t 15)),nn (.t 16) (.ext (.t 13) 0),nn (.t 17) (.ext (.t 13) 1),nn .no (.store 3 (.v 9) (.t
  16)),ma 8 17]).seq ((PC.reg [nn (.t 19) (.load 3 true (.v 9)),nn (.t 20) (.call 51 [.t 19,.c (.v (.int .i64 1099511627776))]),nn (.t 18) (.mv
  false (.t 20)),nn (.t 21) (.ext (.t 18) 0),nn (.t 22) (.ext (.t 18) 1),nn .no (.store 3 (.v 9) (.t 21)),nn (.t 23) (.fadr 0 0 (.v 7)),nn .no
  (.store 1 (.t 23) (.t 22))]).seq ((PC.reg [nn (.t 25) (.load 3 true (.v 9)),nn (.t 26) (.call 51 [.t 25,.c (.v (.int .i64 3))]),nn (.t 24) (.mv
  false (.t 26)),nn (.t 27) (.ext (.t 24) 0),nn (.t 28) (.ext (.t 24) 1),nn .no (.store 3 (.v 9) (.t 27)),nn (.t 29) (.fadr 1 1 (.v 7)),nn .no
  (.store 1 (.t 29) (.t 28))]).seq ((PC.reg [nn (.t 31) (.load 3 true (.v 9)),nn (.t 32) (.call 51 [.t 31,.c (.v (.int .i64 1099511627776))]),nn (.t
  30) (.mv false (.t 32)),nn (.t 33) (.ext (.t 30) 0),nn (.t 34) (.ext (.t 30) 1),nn .no (.store 3 (.v 9) (.t 33)),nn (.t 35) (.fadr 2 2 (.v 7)),
  nn .no (.store 1 (.t 35) (.t 34))]).seq ((PC.reg [nn (.t 37) (.load 3 true (.v 9)),nn (.t 38) (.call 52 [.t 37]),nn (.t 36) (.mv false (.t 38)),nn
  (.t 39) (.ext (.t 36) 0),nn (.t 40) (.ext (.t 36) 1),nn .no (.store 3 (.v 9) (.t 39)),nn (.t 41) (.fadr 3 3 (.v 7)),nn .no (.store 32 (.t 41) (.t
  40))]).seq ((PC.reg [nn (.t 43) (.load 3 true (.v 9)),nn (.t 44) (.call 52 [.t 43]),nn (.t 42) (.mv false (.t 44)),nn (.t 45) (.ext (.t 42) 0),nn
  (.t 46) (.ext (.t 42) 1),nn .no (.store 3 (.v 9) (.t 45))]).seq (((PC.reg [nn (.t 47) (.fadr 2 2 (.v 9)),nn (.t 48) (.load 1 false (.t 47)),nn (.t
  49) (.mv false (.t 48)),⟨.t 50,.fadr 1 1 (.v 9),some (.t 49,false)⟩,⟨.t 51,.load 1 false (.t 50),some (.t 49,false)⟩,gm 52 1 49 false,⟨.t
  53,.len (.t 52),some (.t 49,false)⟩,⟨.t 54,.bin .neq (.t 51) (.t 53),some (.t 49,false)⟩,nn (.t 55) (.pick (.t 49) (.c (.v (.bool true))) (.t
  54)),nn (.t 56) (.mv false (.t 55)),gm 57 8 56 false,⟨.t 58,.bin .lss (.t 57) (.c (.v (.int .i64 1))),some (.t 56,false)⟩,nn (.t 59) (.pick
  (.t 56) (.c (.v (.bool true))) (.t 58)),nn (.t 60) (.mv false (.t 59)),⟨.t 61,.load 35 true (.v 7),some (.t 60,false)⟩,⟨.t 62,.call 16 [.t
  61],some (.t 60,false)⟩,⟨.t 63,.un .not (.t 62),some (.t 60,false)⟩,nn (.t 64) (.pick (.t 60) (.c (.v (.bool true))) (.t 63))]).seq (PC.cond
  (.t 64) ((PC.reg [nn (.t 65) (.build (.agg [.int .i64 0,.int .i64 0,.int .i64 0,.arr .u8 32 [0,0,0,0,0,0,0,0,0,0,0,0,0,0,0,0,0,0,
  0,0,0,0,0,0,0,0,0,0,0,0,0,0]]) []),nn (.v 4) (.mv true (.c (.v (.int .i64 0)))),nn .no (.store 35 (.v 5) (.t 65)),nn (.v 6) (.mv true
  (.c (.v (.int .i64 2))))]).seq PC.ret) PC.skip)).seq (((PC.reg [mm 66 0,nn (.t 67) (.bin .lss (.t 66) (.c (.v (.int .i64 1)))),nn (.t 68) (.mv
  false (.t 67)),gm 69 0 68 false,⟨.t 70,.bin .gtr (.t 69) (.c (.v (.int .i64 21))),some (.t 68,false)⟩,nn (.t 71) (.pick (.t 68) (.c (.v (.bool
  true))) (.t 70)),nn (.t 72) (.mv false (.t 71)),gm 73 0 72 false,gm 74 8 72 false,⟨.t 75,.load 35 true (.v 7),some (.t 72,false)⟩,⟨.t 76,
  .call 53 [.t 73,.t 74,.t 75],some (.t 72,false)⟩,gm 77 1 72 false,⟨.t 78,.call 41 [.t 76,.t 77],some (.t 72,false)⟩,⟨.t 79,.un .not (.t
  78),some (.t 72,false)⟩,nn (.t 80) (.pick (.t 72) (.c (.v (.bool true))) (.t 79))]).seq (PC.cond (.t 80) ((PC.reg [nn (.t 81) (.build (.agg [.int
  .i64 0,.int .i64 0,.int .i64 0,.arr .u8 32 [0,0,0,0,0,0,0,0,0,0,0,0,0,0,0,0,0,0,0,0,0,0,0,0,0,0,0,0,0,0,0,0]]) []),
  nn (.v 4) (.mv true (.c (.v (.int .i64 0)))),nn .no (.store 35 (.v 5) (.t 81)),nn (.v 6) (.mv true (.c (.v (.int .i64 7))))]).seq PC.ret)
  PC.skip)).seq ((PC.regD 0 [mm 82 8,nn (.t 83) (.load 35 true (.v 7)),ma 4 82,nn .no (.store 35 (.v 5) (.t 83)),nn (.v 6) (.mv true (.c (.v (.int
  .i64 0))))] []).seq PC.ret))))))))))))) [(.v 4,none),(.v 5,some (35,true)),(.v 6,none)]
attribute [local irreducible] W Wops WopsD WL Wop WopD
variable {E:Env} {C:Abs.Spec} {l:List (Nat×Spec1)} {G:List (Nat×V)} {Q:R→List (Nat×V)→Prop}
set_option maxHeartbeats 1000000
def getR (p:Int×SealS×Int):R:= .tup [.int .i64 p.1,p.2.1.v,.int .i64 p.2.2]
def SBg (kt:List Int):Spec1
 |[.int .i64 i,x],G,Q=>∃b,(byV x=some b∧Byt b∧b.length < 100000000000)∧∀id,Abs.look G id=none→Q (getR (getBlob kt i b)) ((id,Rd.v (rdBlob (b,false)).2.2.2)::G)
 |_,_,_=>False
theorem SBg_eq {kt i x}:SBg kt [.int .i64 i,x] G Q=(∃b,(byV x=some b∧Byt b∧b.length < 100000000000)∧∀id,Abs.look G id=none→Q (getR (getBlob kt i b)) ((id,Rd.v (rdBlob (b,false)).2.2.2)::G)):=rfl
theorem walk49 {kt b:List Int} {i:Int} (h28:Abs.look l 90=some SRd) (h39:Abs.look l 91=some SUp) (h40:Abs.look l 92=some SHs) (h41:Abs.look l 93=some SDn)
  (h23:Abs.look l 43=some SBc) (h42:Abs.look l 86=some SBt) (h37:Abs.look l 68=some (SCh kt)) (hb:Byt b) (hl:b.length < 100000000000)
  (h:∀id,Abs.look G id=none→Q (getR (getBlob kt i b)) ((id,Rd.v (rdBlob (b,false)).2.2.2)::G)):Wf E (specOf l) pf49 [.int .i64 i,.sli .u8 b] G Q:=by
 rcases e0:rdUpto 1099511627776 (b,false)with⟨n0,r0,w0⟩
 rcases e1:rdUpto 1099511627776 (r0,w0)with⟨n1,r1,w1⟩
 rcases e2:rdUpto 3 (r1,w1)with⟨n2,r2,w2⟩
 rcases e3:rdUpto 1099511627776 (r2,w2)with⟨n3,r3,w3⟩
 rcases e4:rdHash (r3,w3)with⟨n4,r4,w4⟩
 rcases e5:rdHash (r4,w4)with⟨n5,r5,w5⟩
 obtain⟨z01,z02,_,_,⟨u0,z05⟩,_⟩:=rdUpto_all e0 hb (by omega)
 obtain⟨z11,z12,_,_,⟨u1,z15⟩,_⟩:=rdUpto_all e1 z01 (by omega)
 obtain⟨z21,z22,_,_,⟨u2,z25⟩,_⟩:=rdUpto_all e2 z11 (by omega)
 obtain⟨z31,z32,_,_,⟨u3,z35⟩,_⟩:=rdUpto_all e3 z21 (by omega)
 obtain⟨z41,z42,_,⟨u4,z45⟩,_⟩:=rdHash_all e4 z31
 obtain⟨z51,z52,_,⟨u5,z55⟩,_⟩:=rdHash_all e5 z41
 have eB:rdBlob (b,false)=(n0,⟨n1,n2,n3,n4⟩,n5,r5,w5):=by simp only[rdBlob,e0,e1,e2,e3,e4,e5]
 have ok:=rdBlob_all eB hb
 have hw:=ok.wf
 have hta:=ok.tg
 have hve:=ok.vr
 simp (maxSteps:=1000000) (implicitDefEqProofs:=false) only[pf49,h28,SRd_eq,go_sem,↓reduceIte]
 refine⟨b,⟨rfl,by omega⟩,fun id hid=> ?_⟩
 replace h:=h id hid
 unfold getBlob at h
 rw[eB]at h
 simp only at h
 simp (maxSteps:=1000000) (implicitDefEqProofs:=false) only[h39,SUp_eq,h40,SHs_eq,h41,SDn_eq,h23,SBc_eq,go_sem,↓reduceIte]
 refine⟨b,false,n0,r0,w0,⟨rfl,hb,by omega,e0⟩,r0,w0,n1,r1,w1,⟨rfl,z01,by omega,e1⟩,r1,w1,n2,r2,w2,⟨rfl,z11,by omega,e2⟩,r2,w2,n3,r3,w3,⟨rfl,z21,by omega,e3⟩,r3,w3,n4,r4,w4,⟨rfl,z31,by omega,e4⟩,r4,w4,n5,r5,w5,⟨rfl,z41,by omega,e5⟩,r5,w5,rfl,?_⟩
 cases w5 with
 |true=>
  rw[if_pos (.inl rfl)]at h
  simp (maxSteps:=1000000) (implicitDefEqProofs:=false) only[go_sem,↓reduceIte]
  exact h
 |false=>
  by_cases hr:r5.length=0
  ·have hr5:r5=[]:=List.eq_nil_of_length_eq_zero hr
   subst hr5
   by_cases hn:n0=0
   ·rw[if_pos (.inr (.inr (.inl hn)))]at h
    simp (maxSteps:=1000000) (implicitDefEqProofs:=false) only[hn,go_sem,↓reduceIte]
    exact h
   ·have hn':(n0=0)=False:=eq_false hn
    by_cases hm:(⟨n1,n2,n3,n4⟩:SealS).May
    ·have hmay:(⟨n1,n2,n3,n4⟩:SealS).may=true:=decide_eq_true hm
     obtain⟨s1,s2⟩:=SealS.said_ok hw hm hve
     rw[if_neg (by rintro (h1|h1|h1|h1);exact absurd h1 (by decide);exact h1 rfl;exact hn h1;exact h1 hm)]at h
     simp (maxSteps:=1000000) (implicitDefEqProofs:=false) only[hn',hmay,h42,SBt_eq,h37,SCh_eq,go_sem,↓reduceIte]
     refine⟨hw,⟨hw,hm,by omega,by omega⟩,(⟨n1,n2,n3,n4⟩:SealS).said n0,_,⟨hta,rowV_sle _,by simp,by simp[catL,byV],s1,by omega⟩,?_⟩
     refine⟨fun c=> ?_,fun c=> ?_⟩
     ·rw[if_pos c]at h;exact h
     ·rw[if_neg (by rintro (h1|h1);exact h1 c.1;exact h1 c.2)]at h;exact h
    ·have hmay:(⟨n1,n2,n3,n4⟩:SealS).may=false:=decide_eq_false hm
     rw[if_pos (.inr (.inr (.inr hm)))]at h
     simp (maxSteps:=1000000) (implicitDefEqProofs:=false) only[hn',hmay,go_sem,↓reduceIte]
     exact⟨hw,h⟩
  ·have hr':((r5.length:Int)=0)=False:=by simp;intro e;exact hr (by simp[e])
   have hr2:(r5.length=0)=False:=eq_false hr
   rw[if_pos (.inr (.inl (fun e=>hr (by rw[e];rfl))))]at h
   simp (maxSteps:=1000000) (implicitDefEqProofs:=false) only[hr',hr2,go_sem,↓reduceIte]
   exact h
theorem walk22 {kt b:List Int} {i:Int} (h43:Abs.look l 51=some SRu) (h44:Abs.look l 52=some SRh) (h22:Abs.look l 16=some SBm)
  (h27:Abs.look l 53=some (SBr kt)) (h26:Abs.look l 41=some SSm) (hb:Byt b) (hl:b.length < 100000000000)
  (h:Q (getR (getBlob kt i b)) G):Wf E (specOf l) pf22 [.int .i64 i,.sli .u8 b] G Q:=by
 rcases e0:rdUpto 1099511627776 (b,false)with⟨n0,r0,w0⟩
 rcases e1:rdUpto 1099511627776 (r0,w0)with⟨n1,r1,w1⟩
 rcases e2:rdUpto 3 (r1,w1)with⟨n2,r2,w2⟩
 rcases e3:rdUpto 1099511627776 (r2,w2)with⟨n3,r3,w3⟩
 rcases e4:rdHash (r3,w3)with⟨n4,r4,w4⟩
 rcases e5:rdHash (r4,w4)with⟨n5,r5,w5⟩
 obtain⟨z01,z02,_,_,⟨u0,z05⟩,_⟩:=rdUpto_all e0 hb (by omega)
 obtain⟨z11,z12,_,_,⟨u1,z15⟩,_⟩:=rdUpto_all e1 z01 (by omega)
 obtain⟨z21,z22,_,_,⟨u2,z25⟩,_⟩:=rdUpto_all e2 z11 (by omega)
 obtain⟨z31,z32,_,_,⟨u3,z35⟩,_⟩:=rdUpto_all e3 z21 (by omega)
 obtain⟨z41,z42,_,⟨u4,z45⟩,_⟩:=rdHash_all e4 z31
 obtain⟨z51,z52,_,⟨u5,z55⟩,_⟩:=rdHash_all e5 z41
 have eB:rdBlob (b,false)=(n0,⟨n1,n2,n3,n4⟩,n5,r5,w5):=by simp only[rdBlob,e0,e1,e2,e3,e4,e5]
 have ok:=rdBlob_all eB hb
 have hw:=ok.wf
 have hta:=ok.tg
 have hve:=ok.vr
 unfold getBlob at h
 rw[eB]at h
 simp only at h
 have l0:((b.length:Int)-(r0.length:Int))=(u0.length:Int):=by rw[z05,List.length_append];omega
 have l1:((b.length:Int)-(r1.length:Int))=((u0++u1).length:Int):=by rw[z05,z15];simp only[List.length_append];omega
 have l2:((b.length:Int)-(r2.length:Int))=((u0++u1++u2).length:Int):=by rw[z05,z15,z25];simp only[List.length_append];omega
 have l3:((b.length:Int)-(r3.length:Int))=((u0++u1++u2++u3).length:Int):=by rw[z05,z15,z25,z35];simp only[List.length_append];omega
 have l4:((b.length:Int)-(r4.length:Int))=((u0++u1++u2++u3++u4).length:Int):=by rw[z05,z15,z25,z35,z45];simp only[List.length_append];omega
 have b1:b=u0++r0:=z05
 have b2:b=u0++u1++r1:=by rw[List.append_assoc,←z15];exact z05
 have b3:b=u0++u1++u2++r2:=by rw[List.append_assoc,←z25];exact b2
 have b4:b=u0++u1++u2++u3++r3:=by rw[List.append_assoc,←z35];exact b3
 have b5:b=u0++u1++u2++u3++u4++r4:=by rw[List.append_assoc,←z45];exact b4
 simp (maxSteps:=1000000) (implicitDefEqProofs:=false) only[pf22,h43,SRu_eq,h44,SRh_eq,go_sem,↓reduceIte]
 refine⟨[],b,n0,r0,w0,⟨rfl,rfl,hb,by omega,e0⟩,?_⟩
 refine⟨u0,r0,n1,r1,w1,⟨b1,l0,hb,by omega,e1⟩,?_⟩
 refine⟨u0++u1,r1,n2,r2,w2,⟨b2,by first|exact l1|simpa using l1,hb,by omega,e2⟩,?_⟩
 refine⟨u0++u1++u2,r2,n3,r3,w3,⟨b3,by first|exact l2|simpa using l2,hb,by omega,e3⟩,?_⟩
 refine⟨u0++u1++u2++u3,r3,n4,r4,w4,⟨b4,by first|exact l3|simpa using l3,hb,by omega,e4⟩,?_⟩
 refine⟨u0++u1++u2++u3++u4,r4,n5,r5,w5,⟨b5,by first|exact l4|simpa using l4,hb,by omega,e5⟩,?_⟩
 cases w5 with
 |true=>
  rw[if_pos (.inl rfl)]at h
  simp (maxSteps:=1000000) (implicitDefEqProofs:=false) only[go_sem,↓reduceIte]
  exact h
 |false=>
  by_cases hr:r5.length=0
  ·have hr5:r5=[]:=List.eq_nil_of_length_eq_zero hr
   subst hr5
   by_cases hn:n0=0
   ·rw[if_pos (.inr (.inr (.inl hn)))]at h
    have hn1:n0 < 1:=by omega
    have hn2:(1≤n0)=False:=eq_false (by omega)
    simp (maxSteps:=1000000) (implicitDefEqProofs:=false) only[hn1,hn2,List.length_nil,Int.sub_zero,go_sem,↓reduceIte]
    exact h
   ·have hn':¬n0 < 1:=by omega
    have hn2:(1≤n0)=True:=eq_true (by omega)
    by_cases hm:(⟨n1,n2,n3,n4⟩:SealS).May
    ·have hmay:(⟨n1,n2,n3,n4⟩:SealS).may=true:=decide_eq_true hm
     obtain⟨s1,s2⟩:=SealS.said_ok hw hm hve
     have hbb:b=(⟨n1,n2,n3,n4⟩:SealS).said n0++n5:=by have:=(ok.right rfl).2;simpa using this
     have tl:=tagH_len kt i 3 ((⟨n1,n2,n3,n4⟩:SealS).said n0)
     rw[if_neg (by rintro (h1|h1|h1|h1);exact absurd h1 (by decide);exact h1 rfl;exact hn h1;exact h1 hm)]at h
     by_cases hi:1≤i∧i≤21
     ·have hi1:¬i < 1:=by omega
      have hi2:¬21 < i:=by omega
      have bl:((⟨n1,n2,n3,n4⟩:SealS).blob kt i n0).length < 1000000000000:=by
       simp only[SealS.blob,List.length_append];omega
      simp (maxSteps:=1000000) (implicitDefEqProofs:=false) only[hn',hn2,h22,SBm_eq,hmay,hi1,hi2,h27,SBr_eq,h26,SSm_eq,List.length_nil,Int.sub_zero,go_sem,↓reduceIte]
      refine⟨hw,⟨hw,hm,by omega,by omega⟩,_,b,⟨byV_u8 _,byV_u8 _,bl,by omega⟩,?_⟩
      by_cases ht:n5=tagH kt i 3 ((⟨n1,n2,n3,n4⟩:SealS).said n0)
      ·have hs:(⟨n1,n2,n3,n4⟩:SealS).blob kt i n0=b:=by unfold SealS.blob;rw[←ht,←hbb]
       rw[if_neg (by rintro (h1|h1);exact h1 hi;exact h1 ht)]at h
       simp (maxSteps:=1000000) (implicitDefEqProofs:=false) only[hs,go_sem,↓reduceIte]
       exact h
      ·have hs:((⟨n1,n2,n3,n4⟩:SealS).blob kt i n0=b)=False:=by
        apply eq_false
        intro e
        unfold SealS.blob at e
        rw[hbb]at e
        exact ht (List.append_cancel_left e).symm
       rw[if_pos (.inr ht)]at h
       simp (maxSteps:=1000000) (implicitDefEqProofs:=false) only[hs,go_sem,↓reduceIte]
       exact h
     ·rw[if_pos (.inl hi)]at h
      simp (maxSteps:=1000000) (implicitDefEqProofs:=false) only[hn',hn2,h22,SBm_eq,hmay,List.length_nil,Int.sub_zero,go_sem,↓reduceIte]
      refine⟨hw,?_⟩
      repeat' first|(intro _)|constructor
      all_goals first
       |exact h
       |(exfalso;omega)
    ·have hmay:(⟨n1,n2,n3,n4⟩:SealS).may=false:=decide_eq_false hm
     rw[if_pos (.inr (.inr (.inr hm)))]at h
     simp (maxSteps:=1000000) (implicitDefEqProofs:=false) only[hn',hn2,h22,SBm_eq,hmay,List.length_nil,Int.sub_zero,go_sem,↓reduceIte]
     exact⟨hw,h⟩
  ·have hr':((b.length:Int)-(r5.length:Int)=(b.length:Int))=False:=by apply eq_false;omega
   rw[if_pos (.inr (.inl (fun e=>hr (by rw[e];rfl))))]at h
   simp (maxSteps:=1000000) (implicitDefEqProofs:=false) only[hr',go_sem,↓reduceIte]
   exact h
end Go.Proofs.YtjbglbhcbenhpaaDoor.Sha
namespace Go.Abs.Sha
open Go Go.Abs
set_option maxRecDepth 100000
def K256:List Int:=[1116352408,1899447441,3049323471,3921009573,961987163,1508970993,2453635748,2870763221,3624381080,310598401,607225278,1426881987,1925078388,2162078206,2614888103,3248222580,3835390401,4022224774,264347078,604807628,770255983,1249150122,1555081692,1996064986,2554220882,2821834349,2952996808,3210313671,3336571891,3584528711,113926993,338241895,666307205,773529912,1294757372,1396182291,1695183700,1986661051,2177026350,2456956037,2730485921,2820302411,3259730800,3345764771,3516065817,3600352804,4094571909,275423344,430227734,506948616,659060556,883997877,958139571,1322822218,1537002063,1747873779,1955562222,2024104815,2227730452,2361852424,2428436474,2756734187,3204031479,3329325298]
end Go.Abs.Sha
