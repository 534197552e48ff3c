/- Laws over plain values, and what functions of the program hand back; no conditions. -/
import Derived.Test.YtjbglbhcbenhpaaDoorTAtt2
import Derived.Test.YtjbglbhcbenhpaaDoorTOct1
import Derived.Test.YtjbglbhcbenhpaaDoorTOct2
namespace Go.Proofs.YtjbglbhcbenhpaaDoor.Sha
open Go Go.Abs Go.Abs.Sha
set_option linter.unusedSimpArgs false
set_option linter.unusedVariables false
set_option maxRecDepth 100000
def pf85 : PF :=
  PF.mk 3 7 15 ((PC.reg [nn (.v 6) (.mv true (.c (.v (.bool false))))]).seq ((PC.reg [mm 7 0, mm 8 1, nn (.t 9) (.bin .geq (.t 7) (.t 8)), nn (.t 10)
    (.mv false (.t 9)), gm 11 0 10 true, gm 12 2 10 true, ⟨.t 13, .bin .leq (.t 11) (.t 12), some (.t 10, true)⟩, nn (.t 14) (.pick (.t 10) (.t 13) (.c
    (.v (.bool false)))), ma 6 14]).seq PC.ret)) [(.v 6, none)]
def pf43 : PF :=
  PF.mk 1 5 60 ((PC.reg [nn (.v 1) (.box (.v 0)), nn (.v 2) (.mv true (.c (.v (.int .i64 0))))]).seq ((PC.reg [nn (.t 5) (.fadr 0 0 (.v 1)), nn (.t 6)
    (.load 1 false (.t 5)), nn (.t 7) (.call 85 [.t 6, .c (.v (.int .i64 0)), .c (.v (.int .i64 1099511627776))]), nn (.t 8) (.mv false (.t 7)), ⟨.t 9,
    .fadr 1 1 (.v 1), some (.t 8, true)⟩, ⟨.t 10, .load 1 false (.t 9), some (.t 8, true)⟩, ⟨.t 11, .call 85 [.t 10, .c (.v (.int .i64 0)), .c (.v (.int
    .i64 3))], some (.t 8, true)⟩, nn (.t 12) (.pick (.t 8) (.t 11) (.c (.v (.bool false)))), nn (.t 13) (.mv false (.t 12)), ⟨.t 14, .fadr 1 1 (.v 1),
    some (.t 13, true)⟩, ⟨.t 15, .load 1 false (.t 14), some (.t 13, true)⟩, ⟨.t 16, .bin .eql (.t 15) (.c (.v (.int .i64 0))), some (.t 13, true)⟩, ⟨.t
    17, .fadr 0 0 (.v 1), some (.t 13, true)⟩, ⟨.t 18, .load 1 false (.t 17), some (.t 13, true)⟩, ⟨.t 19, .bin .eql (.t 18) (.c (.v (.int .i64 0))),
    some (.t 13, true)⟩, ⟨.t 20, .binB .eql (.t 16) (.t 19), some (.t 13, true)⟩, nn (.t 21) (.pick (.t 13) (.t 20) (.c (.v (.bool false)))), nn (.t 22)
    (.mv false (.t 21)), ⟨.t 23, .fadr 2 2 (.v 1), some (.t 22, true)⟩, ⟨.t 24, .load 1 false (.t 23), some (.t 22, true)⟩, ⟨.t 25, .fadr 0 0 (.v 1),
    some (.t 22, true)⟩, ⟨.t 26, .load 1 false (.t 25), some (.t 22, true)⟩, ⟨.t 27, .call 85 [.t 24, .c (.v (.int .i64 0)), .t 26], some (.t 22, true)⟩,
    nn (.t 28) (.pick (.t 22) (.t 27) (.c (.v (.bool false)))), ma 3 28]).seq ((PC.reg [nn (.t 29) (.fadr 0 0 (.v 1)), nn (.t 30) (.load 1 false (.t
    29)), nn (.t 31) (.bin .gtr (.t 30) (.c (.v (.int .i64 0)))), nn (.t 32) (.mv false (.t 31)), ⟨.t 33, .fadr 1 1 (.v 1), some (.t 32, true)⟩, ⟨.t 34,
    .load 1 false (.t 33), some (.t 32, true)⟩, ⟨.t 35, .bin .lss (.t 34) (.c (.v (.int .i64 3))), some (.t 32, true)⟩, nn (.t 36) (.pick (.t 32) (.t 35)
    (.c (.v (.bool false)))), nn (.t 37) (.mv false (.t 36)), ⟨.t 38, .fadr 2 2 (.v 1), some (.t 37, true)⟩, ⟨.t 39, .load 1 false (.t 38), some (.t 37,
    true)⟩, ⟨.t 40, .fadr 0 0 (.v 1), some (.t 37, true)⟩, ⟨.t 41, .load 1 false (.t 40), some (.t 37, true)⟩, ⟨.t 42, .bin .eql (.t 39) (.t 41), some
    (.t 37, true)⟩, nn (.t 43) (.pick (.t 37) (.t 42) (.c (.v (.bool false)))), ma 4 43]).seq (((PC.reg [mm 44 3, nn (.t 45) (.un .not (.t 44)), nn (.t
    46) (.mv false (.t 45)), gm 47 4 46 false, nn (.t 48) (.pick (.t 46) (.c (.v (.bool true))) (.t 47)), nn (.t 49) (.mv false (.t 48)), ⟨.t 50, .fadr 0
    0 (.v 1), some (.t 49, false)⟩, ⟨.t 51, .load 1 false (.t 50), some (.t 49, false)⟩, ⟨.t 52, .bin .eql (.t 51) (.c (.v (.int .i64 0))), some (.t 49,
    false)⟩, ⟨.t 53, .mv false (.t 52), some (.t 49, false)⟩, ⟨.t 54, .fadr 3 3 (.v 1), some (.t 53, true)⟩, ⟨.t 55, .load 32 true (.t 54), some (.t 53,
    true)⟩, ⟨.t 56, .build (.arr .u8 32 [0, 0, 0, 0, 0, 0, 0, 0, 0, 0, 0, 0, 0, 0, 0, 0, 0, 0, 0, 0, 0, 0, 0, 0, 0, 0, 0, 0, 0, 0, 0, 0]) [], some (.t
    53, true)⟩, ⟨.t 57, .eqa true (.arr 32) (.t 55) (.t 56), some (.t 53, true)⟩, ⟨.t 58, .pick (.t 53) (.t 57) (.c (.v (.bool false))), some (.t 49,
    false)⟩, nn (.t 59) (.pick (.t 49) (.c (.v (.bool true))) (.t 58))]).seq (PC.cond (.t 59) ((PC.reg [nn (.v 2) (.mv true (.c (.v (.int .i64
    1))))]).seq PC.ret) PC.skip)).seq ((PC.reg [nn (.v 2) (.mv true (.c (.v (.int .i64 0))))]).seq PC.ret))))) [(.v 2, none)]
def pf16 : PF :=
  PF.mk 1 3 49 ((PC.reg [nn (.v 1) (.box (.v 0)), nn (.v 2) (.mv true (.c (.v (.bool false))))]).seq (((PC.reg [nn (.t 3) (.fadr 0 0 (.v 1)), nn (.t 4)
    (.load 1 false (.t 3)), nn (.t 5) (.bin .eql (.t 4) (.c (.v (.int .i64 0))))]).seq (PC.cond (.t 5) ((PC.reg [nn (.t 6) (.load 35 true (.v 1)), nn (.t
    7) (.build (.agg [.int .i64 0, .int .i64 0, .int .i64 0, .arr .u8 32 [0, 0, 0, 0, 0, 0, 0, 0, 0, 0, 0, 0, 0, 0, 0, 0, 0, 0, 0, 0, 0, 0, 0, 0, 0, 0,
    0, 0, 0, 0, 0, 0]]) []), nn (.t 8) (.eqa false (.agg (.cons 0 1 false .int (.cons 1 1 false .int (.cons 2 1 false .int (.cons 3 32 true (.arr 32)
    .nil))))) (.t 6) (.t 7)), ma 2 8]).seq PC.ret) PC.skip)).seq (((PC.reg [nn (.t 9) (.fadr 0 0 (.v 1)), nn (.t 10) (.load 1 false (.t 9)), nn (.t 11)
    (.bin .lss (.t 10) (.c (.v (.int .i64 0)))), nn (.t 12) (.mv false (.t 11)), ⟨.t 13, .fadr 0 0 (.v 1), some (.t 12, false)⟩, ⟨.t 14, .load 1 false
    (.t 13), some (.t 12, false)⟩, ⟨.t 15, .bin .gtr (.t 14) (.c (.v (.int .i64 1099511627776))), some (.t 12, false)⟩, nn (.t 16) (.pick (.t 12) (.c (.v
    (.bool true))) (.t 15)), nn (.t 17) (.mv false (.t 16)), ⟨.t 18, .fadr 1 1 (.v 1), some (.t 17, false)⟩, ⟨.t 19, .load 1 false (.t 18), some (.t 17,
    false)⟩, ⟨.t 20, .bin .lss (.t 19) (.c (.v (.int .i64 1))), some (.t 17, false)⟩, nn (.t 21) (.pick (.t 17) (.c (.v (.bool true))) (.t 20)), nn (.t
    22) (.mv false (.t 21)), ⟨.t 23, .fadr 1 1 (.v 1), some (.t 22, false)⟩, ⟨.t 24, .load 1 false (.t 23), some (.t 22, false)⟩, ⟨.t 25, .bin .gtr (.t
    24) (.c (.v (.int .i64 3))), some (.t 22, false)⟩, nn (.t 26) (.pick (.t 22) (.c (.v (.bool true))) (.t 25)), nn (.t 27) (.mv false (.t 26)), ⟨.t 28,
    .fadr 2 2 (.v 1), some (.t 27, false)⟩, ⟨.t 29, .load 1 false (.t 28), some (.t 27, false)⟩, ⟨.t 30, .bin .lss (.t 29) (.c (.v (.int .i64 0))), some
    (.t 27, false)⟩, nn (.t 31) (.pick (.t 27) (.c (.v (.bool true))) (.t 30))]).seq (PC.cond (.t 31) ((PC.reg [nn (.v 2) (.mv true (.c (.v (.bool
    false))))]).seq PC.ret) PC.skip)).seq ((PC.reg [nn (.t 32) (.fadr 2 2 (.v 1)), nn (.t 33) (.load 1 false (.t 32)), nn (.t 34) (.fadr 0 0 (.v 1)), nn
    (.t 35) (.load 1 false (.t 34)), nn (.t 36) (.bin .lss (.t 33) (.t 35)), nn (.t 37) (.mv false (.t 36)), ⟨.t 38, .fadr 2 2 (.v 1), some (.t 37,
    false)⟩, ⟨.t 39, .load 1 false (.t 38), some (.t 37, false)⟩, ⟨.t 40, .fadr 0 0 (.v 1), some (.t 37, false)⟩, ⟨.t 41, .load 1 false (.t 40), some (.t
    37, false)⟩, ⟨.t 42, .bin .eql (.t 39) (.t 41), some (.t 37, false)⟩, ⟨.t 43, .mv false (.t 42), some (.t 37, false)⟩, ⟨.t 44, .fadr 1 1 (.v 1), some
    (.t 43, true)⟩, ⟨.t 45, .load 1 false (.t 44), some (.t 43, true)⟩, ⟨.t 46, .bin .eql (.t 45) (.c (.v (.int .i64 3))), some (.t 43, true)⟩, ⟨.t 47,
    .pick (.t 43) (.t 46) (.c (.v (.bool false))), some (.t 37, false)⟩, nn (.t 48) (.pick (.t 37) (.c (.v (.bool true))) (.t 47)), ma 2 48]).seq
    PC.ret)))) [(.v 2, none)]
def lp86_0 : PC :=
  (PC.reg [nn (.t 18) (.bin .lss (.v 17) (.v 16))]).seq ((PC.cond (.t 18) PC.skip (PC.exit 0)).seq ((PC.block 1 ((PC.reg [nn (.t 19) (.iadrS 1 (.v 15)
    (.v 17)), nn (.t 20) (.load 1 false (.t 19)), ma 7 20]).seq (PC.reg [mm 21 5, mm 22 7, nn (.t 23) (.conv .u64 (.t 22)), nn (.t 24) (.call 107 [.t 21,
    .t 23]), ma 5 24]))).seq (PC.reg [nn (.t 25) (.bin .add (.v 17) (.c (.v (.int .i64 1)))), nn (.v 17) (.mv false (.t 25))])))
def pf86 : PF :=
  PF.mk 2 18 30 ((PC.reg [nn (.v 3) (.box (.v 1)), nn (.v 4) (.mv true (.c (.own .nils)))]).seq ((PC.reg [nn (.v 5) (.mv true (.c (.own .nils)))]).seq
    (((PC.reg [nn (.v 8) (.mv false (.v 0)), nn (.v 9) (.fadr 0 0 (.v 3)), nn (.v 10) (.load 1 false (.v 9)), nn (.v 11) (.fadr 1 1 (.v 3)), nn (.v 12)
    (.load 1 false (.v 11)), nn (.v 13) (.fadr 2 2 (.v 3)), nn (.v 14) (.load 1 false (.v 13)), nn (.v 15) (.buildS (some .i64) 1 (.int .i64 0) 4 [(0, .v
    8), (1, .v 10), (2, .v 12), (3, .v 14)]), nn (.v 16) (.len (.v 15)), nn (.v 17) (.mv false (.c (.v (.int .i64 0))))]).seq (PC.block 0 (PC.loop [3, 5,
    15, 16, 17] lp86_0))).seq ((PC.reg [mm 26 5, nn (.t 27) (.fadr 3 3 (.v 3)), nn (.t 28) (.load 32 true (.t 27)), nn (.t 29) (.call 87 [.t 26, .t 28]),
    ma 4 29]).seq PC.ret)))) [(.v 4, none)]
def pf95 : PF :=
  PF.mk 2 6 30 ((PC.reg [nn (.v 3) (.box (.v 1)), nn (.v 4) (.mv true (.c (.own .nils)))]).seq ((PC.regD 0 [mm 6 0, nn (.t 7) (.conv .u64 (.t 6)), nn (.t
    8) (.call 119 [.t 7]), nn (.t 9) (.fadr 0 0 (.v 3)), nn (.t 10) (.load 1 false (.t 9)), nn (.t 11) (.conv .u64 (.t 10)), nn (.t 12) (.call 119 [.t
    11]), nn (.t 13) (.app (some .u8) 1 1 (.t 8) (.t 12)), ma 5 13] []).seq ((PC.regD 0 [nn (.t 14) (.mv true (.v 5)), nn (.t 15) (.fadr 1 1 (.v 3)), nn
    (.t 16) (.load 1 false (.t 15)), nn (.t 17) (.conv .u8 (.t 16)), nn (.t 18) (.buildS (some .u8) 1 (.int .u8 0) 1 [(0, .t 17)]), nn (.t 19) (.app
    (some .u8) 1 1 (.t 14) (.t 18)), nn (.t 20) (.fadr 2 2 (.v 3)), nn (.t 21) (.load 1 false (.t 20)), nn (.t 22) (.conv .u64 (.t 21)), nn (.t 23)
    (.call 119 [.t 22]), nn (.t 24) (.app (some .u8) 1 1 (.t 19) (.t 23)), ma 5 24] []).seq ((PC.reg [nn (.t 25) (.mv true (.v 5)), nn (.t 26) (.fadr 3 3
    (.v 3)), nn (.t 27) (.load 32 true (.t 26)), nn (.t 28) (.call 96 [.t 27]), nn (.t 29) (.app (some .u8) 1 1 (.t 25) (.t 28)), ma 4 29]).seq
    PC.ret)))) [(.v 4, none)]
def pf44 : PF :=
  PF.mk 3 9 31 ((PC.reg [nn (.v 5) (.box (.v 2)), nn (.v 6) (.mv true (.c (.own .nils))), nn (.v 7) (.mv true (.c (.v (.int .i64 0))))]).seq (((PC.reg
    [nn (.t 9) (.load 35 true (.v 5)), nn (.t 10) (.call 43 [.t 9]), nn (.t 11) (.bin .neq (.t 10) (.c (.v (.int .i64 0)))), nn (.t 12) (.mv false (.t
    11)), gm 13 0 12 false, ⟨.t 14, .call 37 [.t 13], some (.t 12, false)⟩, ⟨.t 15, .un .not (.t 14), some (.t 12, false)⟩, nn (.t 16) (.pick (.t 12) (.c
    (.v (.bool true))) (.t 15)), nn (.t 17) (.mv false (.t 16)), gm 18 1 17 false, ⟨.t 19, .call 85 [.t 18, .c (.v (.int .i64 1)), .c (.v (.int .i64
    1099511627776))], some (.t 17, false)⟩, ⟨.t 20, .un .not (.t 19), some (.t 17, false)⟩, nn (.t 21) (.pick (.t 17) (.c (.v (.bool true))) (.t
    20))]).seq (PC.cond (.t 21) ((PC.reg [nn (.v 6) (.mv true (.c (.own .nils))), nn (.v 7) (.mv true (.c (.v (.int .i64 1))))]).seq PC.ret)
    PC.skip)).seq ((PC.reg [mm 22 1, nn (.t 23) (.load 35 true (.v 5)), nn (.t 24) (.call 86 [.t 22, .t 23]), ma 8 24]).seq ((PC.reg [mm 25 8, mm 26 0,
    mm 27 8, nn (.t 28) (.buildS none 1 .nils 1 [(0, .t 27)]), nn (.t 29) (.call 62 [.t 26, .c (.v (.int .u8 3)), .t 28]), nn (.t 30) (.call 87 [.t 25,
    .t 29]), ma 6 30, nn (.v 7) (.mv true (.c (.v (.int .i64 0))))]).seq PC.ret)))) [(.v 6, none), (.v 7, none)]
def pf53 : PF :=
  PF.mk 3 8 17 ((PC.reg [nn (.v 5) (.box (.v 2)), nn (.v 6) (.mv true (.c (.own .nils)))]).seq ((PC.reg [mm 8 1, nn (.t 9) (.load 35 true (.v 5)), nn (.t
    10) (.call 95 [.t 8, .t 9]), ma 7 10]).seq ((PC.reg [nn (.t 11) (.mv true (.v 7)), mm 12 0, mm 13 7, nn (.t 14) (.call 97 [.t 12, .c (.v (.int .u8
    3)), .t 13]), nn (.t 15) (.call 96 [.t 14]), nn (.t 16) (.app (some .u8) 1 1 (.t 11) (.t 15)), ma 6 16]).seq PC.ret))) [(.v 6, none)]
attribute [local irreducible] W Wops WopsD WL Wop WopD
variable {E : Env} {C : Abs.Spec} {l : List (Nat × Spec1)} {G : List (Nat × V)} {Q : R → List (Nat × V) → Prop}
set_option maxHeartbeats 1000000
def SWi : Spec1
  | [.int .i64 n, .int .i64 lo, .int .i64 hi], G, Q => Q (.v (.bool (decide (lo ≤ n) && decide (n ≤ hi)))) G
  | _, _, _ => False
theorem SWi_eq {n lo hi} : SWi [.int .i64 n, .int .i64 lo, .int .i64 hi] G Q = (Q (.v (.bool (decide (lo ≤ n) && decide (n ≤ hi)))) G) := rfl
def SBc : Spec1
  | [.agg [.int .i64 a1, .int .i64 a2, .int .i64 a3, .arr .u8 32 a4]], G, Q => (⟨a1, a2, a3, a4⟩ : SealS).wf ∧ Q (.v (.int .i64 (if (⟨a1, a2, a3, a4⟩ : SealS).may = true then 0 else 1))) G
  | _, _, _ => False
theorem SBc_eq {a1 a2 a3 a4} : SBc [.agg [.int .i64 a1, .int .i64 a2, .int .i64 a3, .arr .u8 32 a4]] G Q = ((⟨a1, a2, a3, a4⟩ : SealS).wf ∧ Q (.v (.int .i64 (if (⟨a1, a2, a3, a4⟩ : SealS).may = true then 0 else 1))) G) := rfl
def SBm : Spec1
  | [.agg [.int .i64 a1, .int .i64 a2, .int .i64 a3, .arr .u8 32 a4]], G, Q => (⟨a1, a2, a3, a4⟩ : SealS).wf ∧ Q (.v (.bool (⟨a1, a2, a3, a4⟩ : SealS).may)) G
  | _, _, _ => False
theorem SBm_eq {a1 a2 a3 a4} : SBm [.agg [.int .i64 a1, .int .i64 a2, .int .i64 a3, .arr .u8 32 a4]] G Q = ((⟨a1, a2, a3, a4⟩ : SealS).wf ∧ Q (.v (.bool (⟨a1, a2, a3, a4⟩ : SealS).may)) G) := rfl
def SBq : Spec1
  | [.agg [.int .i64 a1, .int .i64 a2, .int .i64 a3, .arr .u8 32 a4], .agg [.int .i64 b1, .int .i64 b2, .int .i64 b3, .arr .u8 32 b4]], G, Q => Q (.v (.bool (decide (a1 < b1 ∨ a1 = b1 ∧ a2 < b2)))) G
  | _, _, _ => False
theorem SBq_eq {a1 a2 a3 a4 b1 b2 b3 b4} : SBq [.agg [.int .i64 a1, .int .i64 a2, .int .i64 a3, .arr .u8 32 a4], .agg [.int .i64 b1, .int .i64 b2, .int .i64 b3, .arr .u8 32 b4]] G Q = (Q (.v (.bool (decide (a1 < b1 ∨ a1 = b1 ∧ a2 < b2)))) G) := rfl
def SBt : Spec1
  | [.int .i64 ve, .agg [.int .i64 a1, .int .i64 a2, .int .i64 a3, .arr .u8 32 a4]], G, Q => ((⟨a1, a2, a3, a4⟩ : SealS).wf ∧ (⟨a1, a2, a3, a4⟩ : SealS).May ∧ 0 ≤ ve ∧ ve ≤ 1099511627776) ∧ Q (.own (.sli .u8 ((⟨a1, a2, a3, a4⟩ : SealS).said ve))) G
  | _, _, _ => False
theorem SBt_eq {ve a1 a2 a3 a4} : SBt [.int .i64 ve, .agg [.int .i64 a1, .int .i64 a2, .int .i64 a3, .arr .u8 32 a4]] G Q = (((⟨a1, a2, a3, a4⟩ : SealS).wf ∧ (⟨a1, a2, a3, a4⟩ : SealS).May ∧ 0 ≤ ve ∧ ve ≤ 1099511627776) ∧ Q (.own (.sli .u8 ((⟨a1, a2, a3, a4⟩ : SealS).said ve))) G) := rfl
def putV (kt : List Int) (i ve : Int) (s : SealS) : R := if s.May ∧ (1 ≤ i ∧ i ≤ 21) ∧ 1 ≤ ve ∧ ve ≤ 1099511627776 then .tup [.sli .u8 (s.blob kt i ve), .int .i64 0] else .tup [.nils, .int .i64 1]
def SBp (kt : List Int) : Spec1
  | [.int .i64 i, .int .i64 ve, .agg [.int .i64 a1, .int .i64 a2, .int .i64 a3, .arr .u8 32 a4]], G, Q => (⟨a1, a2, a3, a4⟩ : SealS).wf ∧ Q (putV kt i ve (⟨a1, a2, a3, a4⟩ : SealS)) G
  | _, _, _ => False
theorem SBp_eq {kt i ve a1 a2 a3 a4} : SBp kt [.int .i64 i, .int .i64 ve, .agg [.int .i64 a1, .int .i64 a2, .int .i64 a3, .arr .u8 32 a4]] G Q = ((⟨a1, a2, a3, a4⟩ : SealS).wf ∧ Q (putV kt i ve (⟨a1, a2, a3, a4⟩ : SealS)) G) := rfl
def SBr (kt : List Int) : Spec1
  | [.int .i64 i, .int .i64 ve, .agg [.int .i64 a1, .int .i64 a2, .int .i64 a3, .arr .u8 32 a4]], G, Q => ((⟨a1, a2, a3, a4⟩ : SealS).wf ∧ (⟨a1, a2, a3, a4⟩ : SealS).May ∧ 0 ≤ ve ∧ ve ≤ 1099511627776) ∧ Q (.own (.sli .u8 ((⟨a1, a2, a3, a4⟩ : SealS).blob kt i ve))) G
  | _, _, _ => False
theorem SBr_eq {kt i ve a1 a2 a3 a4} : SBr kt [.int .i64 i, .int .i64 ve, .agg [.int .i64 a1, .int .i64 a2, .int .i64 a3, .arr .u8 32 a4]] G Q = (((⟨a1, a2, a3, a4⟩ : SealS).wf ∧ (⟨a1, a2, a3, a4⟩ : SealS).May ∧ 0 ≤ ve ∧ ve ≤ 1099511627776) ∧ Q (.own (.sli .u8 ((⟨a1, a2, a3, a4⟩ : SealS).blob kt i ve))) G) := rfl
theorem walk85 {n lo hi : Int} (h : Q (.v (.bool (decide (lo ≤ n) && decide (n ≤ hi)))) G) : Wf E C pf85 [.int .i64 n, .int .i64 lo, .int .i64 hi] G Q := by
  simp (maxSteps := 1000000) (implicitDefEqProofs := false) only [pf85, go_sem, ↓reduceIte, decide_eq_true_eq, decide_eq_false_iff_not, ge_iff_le, gt_iff_lt, Int.not_le, Int.not_lt, Bool.not_eq_true', Bool.not_eq_false', Bool.and_eq_true, Bool.and_eq_false_iff]
  repeat' first | (intro _) | constructor
  all_goals (refine finB h ?_; first | (simp_all; done) | (simp; omega))
theorem walk43 {a1 a2 a3 : Int} {a4 : List Int} (h45 : Abs.look l 85 = some SWi) (hw : (⟨a1, a2, a3, a4⟩ : SealS).wf) (h : Q (.v (.int .i64 (if (⟨a1, a2, a3, a4⟩ : SealS).may = true then 0 else 1))) G) : Wf E (specOf l) pf43 [.agg [.int .i64 a1, .int .i64 a2, .int .i64 a3, .arr .u8 32 a4]] G Q := by
  have hz : (a4 == [0, 0, 0, 0, 0, 0, 0, 0, 0, 0, 0, 0, 0, 0, 0, 0, 0, 0, 0, 0, 0, 0, 0, 0, 0, 0, 0, 0, 0, 0, 0, 0]) = decide (a4 = zero32) := by rw [show [0, 0, 0, 0, 0, 0, 0, 0, 0, 0, 0, 0, 0, 0, 0, 0, 0, 0, 0, 0, 0, 0, 0, 0, 0, 0, 0, 0, 0, 0, 0, 0] = zero32 from rfl]; by_cases e : a4 = zero32 <;> simp [e]
  simp (maxSteps := 1000000) (implicitDefEqProofs := false) only [pf43, h45, SWi_eq, hz, go_sem, ↓reduceIte, decide_eq_true_eq, decide_eq_false_iff_not, ge_iff_le, gt_iff_lt, Int.not_le, Int.not_lt, Bool.not_eq_true', Bool.not_eq_false', Bool.and_eq_true, Bool.and_eq_false_iff]
  repeat' first | (intro _) | constructor
  all_goals
    refine finI h ?_
    first
    | (rw [if_neg (by unfold SealS.may; rw [decide_eq_true_eq]; unfold SealS.May; dsimp only; simp_all <;> omega)]; done)
    | (rw [if_pos (by unfold SealS.may; rw [decide_eq_true_eq]; unfold SealS.May; dsimp only; simp_all <;> omega)]; done)
theorem walk16 {a1 a2 a3 : Int} {a4 : List Int} (hw : (⟨a1, a2, a3, a4⟩ : SealS).wf) (h : Q (.v (.bool (⟨a1, a2, a3, a4⟩ : SealS).may)) G) : Wf E C pf16 [.agg [.int .i64 a1, .int .i64 a2, .int .i64 a3, .arr .u8 32 a4]] G Q := by
  have hz : (a4 == [0, 0, 0, 0, 0, 0, 0, 0, 0, 0, 0, 0, 0, 0, 0, 0, 0, 0, 0, 0, 0, 0, 0, 0, 0, 0, 0, 0, 0, 0, 0, 0]) = decide (a4 = zero32) := by rw [show [0, 0, 0, 0, 0, 0, 0, 0, 0, 0, 0, 0, 0, 0, 0, 0, 0, 0, 0, 0, 0, 0, 0, 0, 0, 0, 0, 0, 0, 0, 0, 0] = zero32 from rfl]; by_cases e : a4 = zero32 <;> simp [e]
  simp (maxSteps := 1000000) (implicitDefEqProofs := false) only [pf16, hz, go_sem, ↓reduceIte, decide_eq_true_eq, decide_eq_false_iff_not, ge_iff_le, gt_iff_lt, Int.not_le, Int.not_lt, Bool.not_eq_true', Bool.not_eq_false', Bool.and_eq_true, Bool.and_eq_false_iff]
  repeat' first | (intro _) | constructor
  all_goals
    refine finB h ?_
    unfold SealS.may
    first
    | (apply decide_eq_true; unfold SealS.May; dsimp only; simp_all <;> omega; done)
    | (apply decide_eq_false; unfold SealS.May; dsimp only; simp_all <;> omega; done)
    | (rw [Bool.eq_iff_iff]; unfold SealS.May; simp_all <;> omega)
theorem loop86 {z0 : Bx} {QQ : Ex → St → Prop} {ve a1 a2 a3 : Int} (h52 : Abs.look l 107 = some SNu) (h0 : 0 ≤ ve ∧ ve < 2000000000000) (h1 : 0 ≤ a1 ∧ a1 < 2000000000000) (h2 : 0 ≤ a2 ∧ a2 < 2000000000000) (h3 : 0 ≤ a3 ∧ a3 < 2000000000000)
    (hx : ∀ ts, QQ (.exit 0) ⟨[none, none, none, some (.lp 0 []), none, some (.own (.sli .u8 (num ve.toNat ++ num a1.toNat ++ num a2.toNat ++ num a3.toNat))), none, none, none, none, none, none, none, none, none, some (.own (.sli .i64 [ve, a1, a2, a3])), some (.v (.int .i64 4)), some (.v (.int .i64 4))], ts, [z0], G⟩) : WL (W E (specOf l) lp86_0) [3, 5, 15, 16, 17] QQ 5 ⟨[none, none, none, some (.lp 0 []), none, some (.own .nils), none, none, none, none, none, none, none, none, none, some (.own (.sli .i64 [ve, a1, a2, a3])), some (.v (.int .i64 4)), some (.v (.int .i64 0))], [], [z0], G⟩ := by
  obtain ⟨m0, n0⟩ := num_ok (n := ve.toNat) (by omega)
  obtain ⟨m1, n1⟩ := num_ok (n := a1.toNat) (by omega)
  obtain ⟨m2, n2⟩ := num_ok (n := a2.toNat) (by omega)
  obtain ⟨m3, n3⟩ := num_ok (n := a3.toNat) (by omega)
  have w0 := u64_of h0.1 (by omega)
  have w1 := u64_of h1.1 (by omega)
  have w2 := u64_of h2.1 (by omega)
  have w3 := u64_of h3.1 (by omega)
  refine WL_in lp86_0.eq_1 ?_
  simp (maxSteps := 1000000) (implicitDefEqProofs := false) (disch := omega) only [h52, SNu_eq, w0, w1, w2, w3, go_sem, ↓reduceIte, decide_eq_true_eq, decide_eq_false_iff_not, ge_iff_le, gt_iff_lt, Int.not_le, Int.not_lt, w64, Bool.not_eq_true', Bool.not_eq_false', Bool.and_eq_true, Bool.and_eq_false_iff]
  refine ⟨[], ⟨rfl, by decide, by omega, by omega⟩, ?_⟩
  refine WL_in lp86_0.eq_1 ?_
  simp (maxSteps := 1000000) (implicitDefEqProofs := false) (disch := omega) only [h52, SNu_eq, w0, w1, w2, w3, go_sem, ↓reduceIte, decide_eq_true_eq, decide_eq_false_iff_not, ge_iff_le, gt_iff_lt, Int.not_le, Int.not_lt, w64, Bool.not_eq_true', Bool.not_eq_false', Bool.and_eq_true, Bool.and_eq_false_iff]
  refine ⟨_, ⟨rfl, by omega, by omega, by omega⟩, ?_⟩
  refine WL_in lp86_0.eq_1 ?_
  simp (maxSteps := 1000000) (implicitDefEqProofs := false) (disch := omega) only [h52, SNu_eq, w0, w1, w2, w3, go_sem, ↓reduceIte, decide_eq_true_eq, decide_eq_false_iff_not, ge_iff_le, gt_iff_lt, Int.not_le, Int.not_lt, w64, Bool.not_eq_true', Bool.not_eq_false', Bool.and_eq_true, Bool.and_eq_false_iff]
  refine ⟨_, ⟨rfl, by simp only [List.length_append]; omega, by omega, by omega⟩, ?_⟩
  refine WL_in lp86_0.eq_1 ?_
  simp (maxSteps := 1000000) (implicitDefEqProofs := false) (disch := omega) only [h52, SNu_eq, w0, w1, w2, w3, go_sem, ↓reduceIte, decide_eq_true_eq, decide_eq_false_iff_not, ge_iff_le, gt_iff_lt, Int.not_le, Int.not_lt, w64, Bool.not_eq_true', Bool.not_eq_false', Bool.and_eq_true, Bool.and_eq_false_iff]
  refine ⟨_, ⟨rfl, by simp only [List.length_append]; omega, by omega, by omega⟩, ?_⟩
  refine WL_in lp86_0.eq_1 ?_
  simp (maxSteps := 1000000) (implicitDefEqProofs := false) (disch := omega) only [go_sem, ↓reduceIte, decide_eq_true_eq, decide_eq_false_iff_not, ge_iff_le, gt_iff_lt, Int.not_le, Int.not_lt, w64, Bool.not_eq_true', Bool.not_eq_false', Bool.and_eq_true, Bool.and_eq_false_iff]
  exact hx _
theorem walk86 {a1 a2 a3 : Int} {a4 : List Int} {ve : Int} (h52 : Abs.look l 107 = some SNu) (h46 : Abs.look l 87 = some SHa) (hw : (⟨a1, a2, a3, a4⟩ : SealS).wf) (hm : (⟨a1, a2, a3, a4⟩ : SealS).May) (hv : 0 ≤ ve ∧ ve ≤ 1099511627776) (h : Q (.own (.sli .u8 ((⟨a1, a2, a3, a4⟩ : SealS).said ve))) G) : Wf E (specOf l) pf86 [.int .i64 ve, .agg [.int .i64 a1, .int .i64 a2, .int .i64 a3, .arr .u8 32 a4]] G Q := by
  obtain ⟨m1, m2, m3⟩ := SealS.bounds hm
  dsimp only at m1 m2 m3
  have l4 : a4.length = 32 := hw.pa.2
  obtain ⟨hby, hln⟩ := SealS.said_ok hw hm hv
  unfold SealS.said at hln h; dsimp only at hln h
  rw [List.length_append] at hln
  simp (maxSteps := 1000000) (implicitDefEqProofs := false) only [pf86, go_sem, ↓reduceIte, decide_eq_true_eq, decide_eq_false_iff_not, ge_iff_le, gt_iff_lt, Int.not_le, Int.not_lt, Bool.not_eq_true', Bool.not_eq_false', Bool.and_eq_true, Bool.and_eq_false_iff]
  refine ⟨5, ?_⟩
  simp (maxSteps := 1000000) (implicitDefEqProofs := false) only [go_sem, ↓reduceIte, decide_eq_true_eq, decide_eq_false_iff_not, ge_iff_le, gt_iff_lt, Int.not_le, Int.not_lt, Bool.not_eq_true', Bool.not_eq_false', Bool.and_eq_true, Bool.and_eq_false_iff]
  refine loop86 (ve := ve) (a1 := a1) (a2 := a2) (a3 := a3) h52 (by omega) (by omega) (by omega) (by omega) (fun ts => ?_)
  simp (maxSteps := 1000000) (implicitDefEqProofs := false) only [h46, SHa_eq, go_sem, ↓reduceIte, decide_eq_true_eq, decide_eq_false_iff_not, ge_iff_le, gt_iff_lt, Int.not_le, Int.not_lt, Bool.not_eq_true', Bool.not_eq_false', Bool.and_eq_true, Bool.and_eq_false_iff]
  refine ⟨_, ⟨byV_u8 _, by omega, l4⟩, ?_⟩
  exact h
theorem walk95 {a1 a2 a3 : Int} {a4 : List Int} {ve : Int} (h61 : Abs.look l 119 = some (SRn 10)) (h48 : Abs.look l 96 = some SBy) (hw : (⟨a1, a2, a3, a4⟩ : SealS).wf) (hm : (⟨a1, a2, a3, a4⟩ : SealS).May) (hv : 0 ≤ ve ∧ ve ≤ 1099511627776) (h : Q (.own (.sli .u8 ((⟨a1, a2, a3, a4⟩ : SealS).said ve))) G) : Wf E (specOf l) pf95 [.int .i64 ve, .agg [.int .i64 a1, .int .i64 a2, .int .i64 a3, .arr .u8 32 a4]] G Q := by
  obtain ⟨m1, m2, m3⟩ := SealS.bounds hm
  dsimp only at m1 m2 m3
  have l4 : a4.length = 32 := hw.pa.2
  obtain ⟨r0, n0⟩ := num_ok (n := ve.toNat) (by omega)
  obtain ⟨r1, n1⟩ := num_ok (n := a1.toNat) (by omega)
  obtain ⟨r3, n3⟩ := num_ok (n := a3.toNat) (by omega)
  have w0 := u64_of (n := ve) (by omega) (by omega)
  have w1 := u64_of (n := a1) (by omega) (by omega)
  have w3 := u64_of (n := a3) (by omega) (by omega)
  have w2 : IntKind.u8.wrap a2 = a2 := by simp only [IntKind.wrap, IntKind.bits, IntKind.signed]; simp; omega
  have big : ∀ n : Nat, n < 2000000000000 → n < 128 ^ 10 := fun n hn => Nat.lt_of_lt_of_le hn (by decide)
  unfold SealS.said at h; dsimp only at h
  rw [num_small (n := a2.toNat) (by omega), show ((a2.toNat : Nat) : Int) = a2 by omega] at h
  simp (maxSteps := 1000000) (implicitDefEqProofs := false) only [pf95, w0, w1, w2, w3, h61, SRn_eq, h48, SBy_eq, l4, go_sem, ↓reduceIte, decide_eq_true_eq, decide_eq_false_iff_not, ge_iff_le, gt_iff_lt, Int.not_le, Int.not_lt, Bool.not_eq_true', Bool.not_eq_false', Bool.and_eq_true, Bool.and_eq_false_iff]
  have b0 := big ve.toNat (by omega)
  have b1 := big a1.toNat (by omega)
  have b3 := big a3.toNat (by omega)
  exact ⟨⟨by omega, b0, by omega⟩, ⟨by omega, b1, by omega⟩, by omega, by omega, ⟨by omega, b3, by omega⟩, by omega, by omega, h⟩
theorem walk44 {a1 a2 a3 : Int} {a4 : List Int} {kt : List Int} {i ve : Int} (h23 : Abs.look l 43 = some SBc) (h36 : Abs.look l 37 = some SNo) (h45 : Abs.look l 85 = some SWi) (h42 : Abs.look l 86 = some SBt) (h34 : Abs.look l 62 = some (STa kt)) (h46 : Abs.look l 87 = some SHa)
    (hw : (⟨a1, a2, a3, a4⟩ : SealS).wf) (h : Q (putV kt i ve (⟨a1, a2, a3, a4⟩ : SealS)) G) : Wf E (specOf l) pf44 [.int .i64 i, .int .i64 ve, .agg [.int .i64 a1, .int .i64 a2, .int .i64 a3, .arr .u8 32 a4]] G Q := by
  unfold putV at h
  by_cases hm : (⟨a1, a2, a3, a4⟩ : SealS).May
  · have hmay : (⟨a1, a2, a3, a4⟩ : SealS).may = true := decide_eq_true hm
    by_cases hi : 1 ≤ i ∧ i ≤ 21
    · have hd : decide (1 ≤ i ∧ i ≤ 21) = true := decide_eq_true hi
      by_cases hv : 1 ≤ ve ∧ ve ≤ 1099511627776
      · obtain ⟨s1, s2⟩ := SealS.said_ok (ve := ve) hw hm (by omega)
        have h1 : 1 ≤ ve := hv.1
        have h2 : ve ≤ 1099511627776 := hv.2
        rw [if_pos ⟨hm, hi, hv⟩] at h
        unfold SealS.blob at h
        simp (maxSteps := 1000000) (implicitDefEqProofs := false) only [pf44, h23, SBc_eq, hmay, h36, SNo_eq, hd, h45, SWi_eq, h1, h2, h42, SBt_eq, h34, STa_eq, h46, SHa_eq, go_sem, ↓reduceIte, decide_eq_true_eq, decide_eq_false_iff_not, ge_iff_le, gt_iff_lt, Int.not_le, Int.not_lt, Bool.not_eq_true', Bool.not_eq_false', Bool.and_eq_true, Bool.and_eq_false_iff]
        refine ⟨hw, ⟨hw, hm, by omega⟩, (⟨a1, a2, a3, a4⟩ : SealS).said ve, _, ⟨rowV_sle _, by simp, by simp [catL, byV], s1, by omega⟩, _, ⟨byV_u8 _, by omega, tagH_len _ _ _ _⟩, ?_⟩
        exact h
      · rw [if_neg (fun e => hv e.2.2)] at h
        have hvb : (decide (1 ≤ ve) && decide (ve ≤ 1099511627776)) = false := by simp; omega
        simp (maxSteps := 1000000) (implicitDefEqProofs := false) only [pf44, h23, SBc_eq, hmay, h36, SNo_eq, hd, h45, SWi_eq, hvb, go_sem, ↓reduceIte, decide_eq_true_eq, decide_eq_false_iff_not, ge_iff_le, gt_iff_lt, Int.not_le, Int.not_lt, Bool.not_eq_true', Bool.not_eq_false', Bool.and_eq_true, Bool.and_eq_false_iff]
        exact ⟨hw, h⟩
    · have hd : decide (1 ≤ i ∧ i ≤ 21) = false := decide_eq_false hi
      rw [if_neg (fun e => hi e.2.1)] at h
      simp (maxSteps := 1000000) (implicitDefEqProofs := false) only [pf44, h23, SBc_eq, hmay, h36, SNo_eq, hd, go_sem, ↓reduceIte, decide_eq_true_eq, decide_eq_false_iff_not, ge_iff_le, gt_iff_lt, Int.not_le, Int.not_lt, Bool.not_eq_true', Bool.not_eq_false', Bool.and_eq_true, Bool.and_eq_false_iff]
      exact ⟨hw, h⟩
  · have hmay : (⟨a1, a2, a3, a4⟩ : SealS).may = false := decide_eq_false hm
    rw [if_neg (fun e => hm e.1)] at h
    simp (maxSteps := 1000000) (implicitDefEqProofs := false) only [pf44, h23, SBc_eq, hmay, go_sem, ↓reduceIte, decide_eq_true_eq, decide_eq_false_iff_not, ge_iff_le, gt_iff_lt, Int.not_le, Int.not_lt, Bool.not_eq_true', Bool.not_eq_false', Bool.and_eq_true, Bool.and_eq_false_iff]
    exact ⟨hw, h⟩
theorem walk53 {a1 a2 a3 : Int} {a4 : List Int} {kt : List Int} {i ve : Int} (h47 : Abs.look l 95 = some SBt) (h49 : Abs.look l 97 = some (STr kt)) (h48 : Abs.look l 96 = some SBy)
    (hw : (⟨a1, a2, a3, a4⟩ : SealS).wf) (hm : (⟨a1, a2, a3, a4⟩ : SealS).May) (hv : 0 ≤ ve ∧ ve ≤ 1099511627776) (h : Q (.own (.sli .u8 ((⟨a1, a2, a3, a4⟩ : SealS).blob kt i ve))) G) : Wf E (specOf l) pf53 [.int .i64 i, .int .i64 ve, .agg [.int .i64 a1, .int .i64 a2, .int .i64 a3, .arr .u8 32 a4]] G Q := by
  obtain ⟨s1, s2⟩ := SealS.said_ok (ve := ve) hw hm hv
  unfold SealS.blob at h
  simp (maxSteps := 1000000) (implicitDefEqProofs := false) only [pf53, h47, SBt_eq, h49, STr_eq, h48, SBy_eq, go_sem, ↓reduceIte, decide_eq_true_eq, decide_eq_false_iff_not, ge_iff_le, gt_iff_lt, Int.not_le, Int.not_lt, Bool.not_eq_true', Bool.not_eq_false', Bool.and_eq_true, Bool.and_eq_false_iff]
  refine ⟨⟨hw, hm, hv.1, hv.2⟩, (⟨a1, a2, a3, a4⟩ : SealS).said ve, ⟨byV_u8 _, s1, by omega⟩, ?_⟩
  simp (maxSteps := 1000000) (implicitDefEqProofs := false) only [tagH_len, go_sem, ↓reduceIte, decide_eq_true_eq, decide_eq_false_iff_not, ge_iff_le, gt_iff_lt, Int.not_le, Int.not_lt, Bool.not_eq_true', Bool.not_eq_false', Bool.and_eq_true, Bool.and_eq_false_iff]
  exact ⟨by omega, h⟩
end Go.Proofs.YtjbglbhcbenhpaaDoor.Sha
