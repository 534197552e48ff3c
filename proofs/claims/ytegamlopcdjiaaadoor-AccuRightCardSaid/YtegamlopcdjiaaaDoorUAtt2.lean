/- Laws over plain values, and what functions of the program hand back; no conditions. -/
import Derived.Test.YtegamlopcdjiaaaDoorUAtt1
namespace Go.Proofs.YtegamlopcdjiaaaDoor.Sha
open Go Go.Abs Go.Abs.Sha
set_option linter.unusedSimpArgs false
set_option linter.unusedVariables false
set_option maxRecDepth 100000
def lp84_0 : PC :=
  (PC.reg [nn (.t 16) (.bin .lss (.v 15) (.v 14))]).seq ((PC.cond (.t 16) PC.skip (PC.exit 0)).seq ((PC.block 1 ((PC.reg [nn (.t 17) (.iadrS 1 (.v 13)
    (.v 15)), nn (.t 18) (.load 1 false (.t 17)), ma 6 18]).seq (PC.reg [mm 19 0, mm 20 6, nn (.t 21) (.conv .u64 (.t 20)), nn (.t 22) (.call 72 [.t 19,
    .t 21]), ma 0 22]))).seq (PC.reg [nn (.t 23) (.bin .add (.v 15) (.c (.v (.int .i64 1)))), nn (.v 15) (.mv false (.t 23))])))
def pf84 : PF :=
  PF.mk 2 16 35 ((PC.reg [nn (.v 3) (.box (.v 1)), nn (.v 4) (.mv true (.c (.own .nils)))]).seq (((PC.reg [nn (.v 7) (.fadr 1 1 (.v 3)), nn (.v 8) (.load
    1 false (.v 7)), nn (.v 9) (.fadr 2 2 (.v 3)), nn (.v 10) (.load 1 false (.v 9)), nn (.v 11) (.fadr 3 3 (.v 3)), nn (.v 12) (.load 1 false (.v 11)),
    nn (.v 13) (.buildS (some .i64) 1 (.int .i64 0) 3 [(0, .v 8), (1, .v 10), (2, .v 12)]), nn (.v 14) (.len (.v 13)), nn (.v 15) (.mv false (.c (.v
    (.int .i64 0))))]).seq (PC.block 0 (PC.loop [0, 3, 13, 14, 15] lp84_0))).seq ((PC.regD 0 [mm 24 0, nn (.t 25) (.fadr 4 4 (.v 3)), nn (.t 26) (.load
    32 true (.t 25)), nn (.t 27) (.call 71 [.t 24, .t 26]), nn (.t 28) (.fadr 5 36 (.v 3)), nn (.t 29) (.load 1 false (.t 28)), nn (.t 30) (.conv .u64
    (.t 29)), nn (.t 31) (.call 72 [.t 27, .t 30]), nn (.t 32) (.fadr 6 37 (.v 3)), nn (.t 33) (.load 32 true (.t 32)), nn (.t 34) (.call 71 [.t 31, .t
    33]), ma 4 34] []).seq PC.ret))) [(.v 4, none)]
def pf77 : PF :=
  PF.mk 1 4 34 ((PC.reg [nn (.v 1) (.box (.v 0)), nn (.v 2) (.mv true (.c (.own .nils)))]).seq ((PC.regD 0 [nn (.t 4) (.fadr 1 1 (.v 1)), nn (.t 5)
    (.load 1 false (.t 4)), nn (.t 6) (.conv .u8 (.t 5)), nn (.t 7) (.buildS (some .u8) 1 (.int .u8 0) 1 [(0, .t 6)]), nn (.t 8) (.fadr 2 2 (.v 1)), nn
    (.t 9) (.load 1 false (.t 8)), nn (.t 10) (.conv .u64 (.t 9)), nn (.t 11) (.call 103 [.t 10]), nn (.t 12) (.app (some .u8) 1 1 (.t 7) (.t 11)), ma 3
    12] []).seq ((PC.regD 0 [nn (.t 13) (.mv true (.v 3)), nn (.t 14) (.fadr 3 3 (.v 1)), nn (.t 15) (.load 1 false (.t 14)), nn (.t 16) (.conv .u8 (.t
    15)), nn (.t 17) (.buildS (some .u8) 1 (.int .u8 0) 1 [(0, .t 16)]), nn (.t 18) (.app (some .u8) 1 1 (.t 13) (.t 17)), nn (.t 19) (.fadr 4 4 (.v 1)),
    nn (.t 20) (.load 32 true (.t 19)), nn (.t 21) (.call 74 [.t 20]), nn (.t 22) (.app (some .u8) 1 1 (.t 18) (.t 21)), ma 3 22] []).seq ((PC.reg [nn
    (.t 23) (.mv true (.v 3)), nn (.t 24) (.fadr 5 36 (.v 1)), nn (.t 25) (.load 1 false (.t 24)), nn (.t 26) (.conv .u64 (.t 25)), nn (.t 27) (.call 103
    [.t 26]), nn (.t 28) (.app (some .u8) 1 1 (.t 23) (.t 27)), ma 3 28]).seq ((PC.reg [nn (.t 29) (.mv true (.v 3)), nn (.t 30) (.fadr 6 37 (.v 1)), nn
    (.t 31) (.load 32 true (.t 30)), nn (.t 32) (.call 74 [.t 31]), nn (.t 33) (.app (some .u8) 1 1 (.t 29) (.t 32)), ma 2 33]).seq PC.ret))))) [(.v 2,
    none)]
def pf98 : PF :=
  PF.mk 1 3 8 ((PC.reg [nn (.v 1) (.box (.v 0)), nn (.v 2) (.alloc (.arr .u8 32 [0, 0, 0, 0, 0, 0, 0, 0, 0, 0, 0, 0, 0, 0, 0, 0, 0, 0, 0, 0, 0, 0, 0, 0,
    0, 0, 0, 0, 0, 0, 0, 0]))]).seq ((PC.regD 0 [nn (.t 3) (.fadr 0 0 (.v 1)), nn (.t 4) (.load 1 false (.t 3)), nn (.t 5) (.load 101 true (.v 1)), nn
    (.t 6) (.call 77 [.t 5]), nn (.t 7) (.call 87 [.t 4, .c (.v (.int .u8 1)), .t 6]), nn .no (.store 32 (.v 2) (.t 7))] []).seq PC.ret)) [(.v 2, some
    (32, true))]
def pf43 : PF :=
  PF.mk 1 3 15 ((PC.reg [nn (.v 1) (.box (.v 0)), nn (.v 2) (.alloc (.agg [.int .i64 0, .int .i64 0, .int .i64 0, .int .i64 0, .arr .u8 32 [0, 0, 0, 0,
    0, 0, 0, 0, 0, 0, 0, 0, 0, 0, 0, 0, 0, 0, 0, 0, 0, 0, 0, 0, 0, 0, 0, 0, 0, 0, 0, 0], .int .i64 0, .arr .u8 32 [0, 0, 0, 0, 0, 0, 0, 0, 0, 0, 0, 0, 0,
    0, 0, 0, 0, 0, 0, 0, 0, 0, 0, 0, 0, 0, 0, 0, 0, 0, 0, 0], .arr .u8 32 [0, 0, 0, 0, 0, 0, 0, 0, 0, 0, 0, 0, 0, 0, 0, 0, 0, 0, 0, 0, 0, 0, 0, 0, 0, 0,
    0, 0, 0, 0, 0, 0]]))]).seq (((PC.reg [nn (.t 3) (.load 101 true (.v 1)), nn (.t 4) (.call 83 [.t 3]), nn (.t 5) (.bin .neq (.t 4) (.c (.v (.int .i64
    0))))]).seq (PC.cond (.t 5) ((PC.reg [nn (.t 6) (.build (.agg [.int .i64 0, .int .i64 0, .int .i64 0, .int .i64 0, .arr .u8 32 [0, 0, 0, 0, 0, 0, 0,
    0, 0, 0, 0, 0, 0, 0, 0, 0, 0, 0, 0, 0, 0, 0, 0, 0, 0, 0, 0, 0, 0, 0, 0, 0], .int .i64 0, .arr .u8 32 [0, 0, 0, 0, 0, 0, 0, 0, 0, 0, 0, 0, 0, 0, 0, 0,
    0, 0, 0, 0, 0, 0, 0, 0, 0, 0, 0, 0, 0, 0, 0, 0], .arr .u8 32 [0, 0, 0, 0, 0, 0, 0, 0, 0, 0, 0, 0, 0, 0, 0, 0, 0, 0, 0, 0, 0, 0, 0, 0, 0, 0, 0, 0, 0,
    0, 0, 0]]) []), nn .no (.store 101 (.v 2) (.t 6))]).seq PC.ret) PC.skip)).seq ((PC.regD 0 [nn (.t 7) (.fadr 0 0 (.v 1)), nn (.t 8) (.load 1 false (.t
    7)), nn (.t 9) (.load 101 true (.v 1)), nn (.t 10) (.call 84 [.c (.own .nils), .t 9]), nn (.t 11) (.buildS none 1 .nils 1 [(0, .t 10)]), nn (.t 12)
    (.call 82 [.t 8, .c (.v (.int .u8 1)), .t 11]), nn (.t 13) (.fadr 7 69 (.v 1)), nn .no (.store 32 (.t 13) (.t 12))] []).seq ((PC.reg [nn (.t 14)
    (.load 101 true (.v 1)), nn .no (.store 101 (.v 2) (.t 14))]).seq PC.ret)))) [(.v 2, some (101, true))]
def pf56 : PF :=
  PF.mk 1 3 16 ((PC.reg [nn (.v 1) (.box (.v 0)), nn (.v 2) (.mv true (.c (.v (.bool false))))]).seq ((PC.regD 0 [nn (.t 3) (.load 101 true (.v 1)), nn
    (.t 4) (.call 83 [.t 3]), nn (.t 5) (.bin .eql (.t 4) (.c (.v (.int .i64 0)))), nn (.t 6) (.mv false (.t 5)), ⟨.t 7, .fadr 0 0 (.v 1), some (.t 6,
    true)⟩, ⟨.t 8, .load 1 false (.t 7), some (.t 6, true)⟩, ⟨.t 9, .fadr 7 69 (.v 1), some (.t 6, true)⟩, ⟨.t 10, .load 32 true (.t 9), some (.t 6,
    true)⟩, ⟨.t 11, .load 101 true (.v 1), some (.t 6, true)⟩, ⟨.t 12, .call 84 [.c (.own .nils), .t 11], some (.t 6, true)⟩, ⟨.t 13, .buildS none 1
    .nils 1 [(0, .t 12)], some (.t 6, true)⟩, ⟨.t 14, .call 46 [.t 8, .c (.v (.int .u8 1)), .t 10, .t 13], some (.t 6, true)⟩, nn (.t 15) (.pick (.t 6)
    (.t 14) (.c (.v (.bool false)))), ma 2 15] []).seq PC.ret)) [(.v 2, none)]
def pf60 : PF :=
  PF.mk 1 3 12 ((PC.reg [nn (.v 1) (.box (.v 0)), nn (.v 2) (.mv true (.c (.v (.bool false))))]).seq ((PC.regD 0 [nn (.t 3) (.load 101 true (.v 1)), nn
    (.t 4) (.call 76 [.t 3]), nn (.t 5) (.mv false (.t 4)), ⟨.t 6, .fadr 7 69 (.v 1), some (.t 5, true)⟩, ⟨.t 7, .load 32 true (.t 6), some (.t 5,
    true)⟩, ⟨.t 8, .load 101 true (.v 1), some (.t 5, true)⟩, ⟨.t 9, .call 98 [.t 8], some (.t 5, true)⟩, ⟨.t 10, .eqa false (.arr 32) (.t 7) (.t 9),
    some (.t 5, true)⟩, nn (.t 11) (.pick (.t 5) (.t 10) (.c (.v (.bool false)))), ma 2 11] []).seq PC.ret)) [(.v 2, none)]
def pf90 : PF :=
  PF.mk 2 5 14 ((PC.reg [nn (.v 2) (.box (.v 0)), nn (.v 3) (.box (.v 1)), nn (.v 4) (.mv true (.c (.v (.bool false))))]).seq ((PC.regD 0 [nn (.t 5)
    (.fadr 0 0 (.v 3)), nn (.t 6) (.load 1 false (.t 5)), nn (.t 7) (.fadr 7 69 (.v 3)), nn (.t 8) (.load 32 true (.t 7)), nn (.t 9) (.fadr 0 0 (.v 2)),
    nn .no (.store 1 (.t 9) (.t 6)), nn (.t 10) (.fadr 7 69 (.v 2)), nn .no (.store 32 (.t 10) (.t 8))] [(3, 5)]).seq ((PC.reg [nn (.t 11) (.load 101
    true (.v 2)), nn (.t 12) (.load 101 true (.v 3)), nn (.t 13) (.eqa false (.agg (.cons 0 1 false .int (.cons 1 1 false .int (.cons 2 1 false .int
    (.cons 3 1 false .int (.cons 4 32 true (.arr 32) (.cons 36 1 false .int (.cons 37 32 true (.arr 32) (.cons 69 32 true (.arr 32) .nil))))))))) (.t 11)
    (.t 12)), ma 4 13]).seq PC.ret))) [(.v 4, none)]
attribute [local irreducible] W Wops WopsD WL Wop WopD
variable {E : Env} {C : Abs.Spec} {l : List (Nat × Spec1)} {G : List (Nat × V)} {Q : R → List (Nat × V) → Prop}
set_option maxHeartbeats 1000000
def STg : Spec1
  | [x, .agg [.int .i64 a1, .int .i64 a2, .int .i64 a3, .int .i64 a4, .arr .u8 32 a5, .int .i64 a6, .arr .u8 32 a7, .arr .u8 32 a8]], G, Q => ∃ b, (byV x = some b ∧ b.length < 10000000000 ∧ ((⟨a1, a2, a3, a4, a5, a6, a7, a8⟩ : AttS)).wf ∧ ((⟨a1, a2, a3, a4, a5, a6, a7, a8⟩ : AttS)).May) ∧ Q (.own (.sli .u8 (b ++ ((⟨a1, a2, a3, a4, a5, a6, a7, a8⟩ : AttS)).said))) G
  | _, _, _ => False
theorem STg_eq {x a1 a2 a3 a4 a5 a6 a7 a8} : STg [x, .agg [.int .i64 a1, .int .i64 a2, .int .i64 a3, .int .i64 a4, .arr .u8 32 a5, .int .i64 a6, .arr .u8 32 a7, .arr .u8 32 a8]] G Q = (∃ b, (byV x = some b ∧ b.length < 10000000000 ∧ ((⟨a1, a2, a3, a4, a5, a6, a7, a8⟩ : AttS)).wf ∧ ((⟨a1, a2, a3, a4, a5, a6, a7, a8⟩ : AttS)).May) ∧ Q (.own (.sli .u8 (b ++ ((⟨a1, a2, a3, a4, a5, a6, a7, a8⟩ : AttS)).said))) G) := rfl
def ST8 : Spec1
  | [.agg [.int .i64 a1, .int .i64 a2, .int .i64 a3, .int .i64 a4, .arr .u8 32 a5, .int .i64 a6, .arr .u8 32 a7, .arr .u8 32 a8]], G, Q => (((⟨a1, a2, a3, a4, a5, a6, a7, a8⟩ : AttS)).wf ∧ ((⟨a1, a2, a3, a4, a5, a6, a7, a8⟩ : AttS)).May) ∧ Q (.own (.sli .u8 ((⟨a1, a2, a3, a4, a5, a6, a7, a8⟩ : AttS)).said)) G
  | _, _, _ => False
theorem ST8_eq {a1 a2 a3 a4 a5 a6 a7 a8} : ST8 [.agg [.int .i64 a1, .int .i64 a2, .int .i64 a3, .int .i64 a4, .arr .u8 32 a5, .int .i64 a6, .arr .u8 32 a7, .arr .u8 32 a8]] G Q = ((((⟨a1, a2, a3, a4, a5, a6, a7, a8⟩ : AttS)).wf ∧ ((⟨a1, a2, a3, a4, a5, a6, a7, a8⟩ : AttS)).May) ∧ Q (.own (.sli .u8 ((⟨a1, a2, a3, a4, a5, a6, a7, a8⟩ : AttS)).said)) G) := rfl
def STr8 (kt : List Int) : Spec1
  | [.agg [.int .i64 a1, .int .i64 a2, .int .i64 a3, .int .i64 a4, .arr .u8 32 a5, .int .i64 a6, .arr .u8 32 a7, .arr .u8 32 a8]], G, Q => (((⟨a1, a2, a3, a4, a5, a6, a7, a8⟩ : AttS)).wf ∧ ((⟨a1, a2, a3, a4, a5, a6, a7, a8⟩ : AttS)).May) ∧ Q (.v (.arr .u8 32 (((⟨a1, a2, a3, a4, a5, a6, a7, a8⟩ : AttS)).tag kt))) G
  | _, _, _ => False
theorem STr8_eq {kt a1 a2 a3 a4 a5 a6 a7 a8} : STr8 kt [.agg [.int .i64 a1, .int .i64 a2, .int .i64 a3, .int .i64 a4, .arr .u8 32 a5, .int .i64 a6, .arr .u8 32 a7, .arr .u8 32 a8]] G Q = ((((⟨a1, a2, a3, a4, a5, a6, a7, a8⟩ : AttS)).wf ∧ ((⟨a1, a2, a3, a4, a5, a6, a7, a8⟩ : AttS)).May) ∧ Q (.v (.arr .u8 32 (((⟨a1, a2, a3, a4, a5, a6, a7, a8⟩ : AttS)).tag kt))) G) := rfl
def SSi (kt : List Int) : Spec1
  | [.agg [.int .i64 a1, .int .i64 a2, .int .i64 a3, .int .i64 a4, .arr .u8 32 a5, .int .i64 a6, .arr .u8 32 a7, .arr .u8 32 a8]], G, Q => ((⟨a1, a2, a3, a4, a5, a6, a7, a8⟩ : AttS)).wf ∧ Q (.v (((⟨a1, a2, a3, a4, a5, a6, a7, a8⟩ : AttS)).sign kt).v) G
  | _, _, _ => False
theorem SSi_eq {kt a1 a2 a3 a4 a5 a6 a7 a8} : SSi kt [.agg [.int .i64 a1, .int .i64 a2, .int .i64 a3, .int .i64 a4, .arr .u8 32 a5, .int .i64 a6, .arr .u8 32 a7, .arr .u8 32 a8]] G Q = (((⟨a1, a2, a3, a4, a5, a6, a7, a8⟩ : AttS)).wf ∧ Q (.v (((⟨a1, a2, a3, a4, a5, a6, a7, a8⟩ : AttS)).sign kt).v) G) := rfl
def SRi (kt : List Int) : Spec1
  | [.agg [.int .i64 a1, .int .i64 a2, .int .i64 a3, .int .i64 a4, .arr .u8 32 a5, .int .i64 a6, .arr .u8 32 a7, .arr .u8 32 a8]], G, Q => ((⟨a1, a2, a3, a4, a5, a6, a7, a8⟩ : AttS)).wf ∧ Q (.v (.bool (((⟨a1, a2, a3, a4, a5, a6, a7, a8⟩ : AttS)).right kt))) G
  | _, _, _ => False
theorem SRi_eq {kt a1 a2 a3 a4 a5 a6 a7 a8} : SRi kt [.agg [.int .i64 a1, .int .i64 a2, .int .i64 a3, .int .i64 a4, .arr .u8 32 a5, .int .i64 a6, .arr .u8 32 a7, .arr .u8 32 a8]] G Q = (((⟨a1, a2, a3, a4, a5, a6, a7, a8⟩ : AttS)).wf ∧ Q (.v (.bool (((⟨a1, a2, a3, a4, a5, a6, a7, a8⟩ : AttS)).right kt))) G) := rfl
def SAl : Spec1
  | [.agg [.int .i64 a1, .int .i64 a2, .int .i64 a3, .int .i64 a4, .arr .u8 32 a5, .int .i64 a6, .arr .u8 32 a7, .arr .u8 32 a8], .agg [.int .i64 b1, .int .i64 b2, .int .i64 b3, .int .i64 b4, .arr .u8 32 b5, .int .i64 b6, .arr .u8 32 b7, .arr .u8 32 b8]], G, Q => Q (.v (.bool (((⟨a1, a2, a3, a4, a5, a6, a7, a8⟩ : AttS)).alike (⟨b1, b2, b3, b4, b5, b6, b7, b8⟩ : AttS)))) G
  | _, _, _ => False
theorem SAl_eq {a1 a2 a3 a4 a5 a6 a7 a8 b1 b2 b3 b4 b5 b6 b7 b8} : SAl [.agg [.int .i64 a1, .int .i64 a2, .int .i64 a3, .int .i64 a4, .arr .u8 32 a5, .int .i64 a6, .arr .u8 32 a7, .arr .u8 32 a8], .agg [.int .i64 b1, .int .i64 b2, .int .i64 b3, .int .i64 b4, .arr .u8 32 b5, .int .i64 b6, .arr .u8 32 b7, .arr .u8 32 b8]] G Q = (Q (.v (.bool (((⟨a1, a2, a3, a4, a5, a6, a7, a8⟩ : AttS)).alike (⟨b1, b2, b3, b4, b5, b6, b7, b8⟩ : AttS)))) G) := rfl
theorem u64_of {n : Int} (h : 0 ≤ n) (h2 : n ≤ 9223372036854775807) : IntKind.u64.wrap n = n := by simp only [IntKind.wrap, IntKind.bits, IntKind.signed]; simp; omega
theorem loop84 {z0 : Bx} {QQ : Ex → St → Prop} {a2 a3 a4 : Int} {b : List Int} (h52 : Abs.look l 72 = some SNu) (hb : b.length < 10000000000) (h2 : 0 ≤ a2 ∧ a2 < 2000000000000) (h3 : 0 ≤ a3 ∧ a3 < 2000000000000) (h4 : 0 ≤ a4 ∧ a4 < 2000000000000)
    (hx : ∀ ts, QQ (.exit 0) ⟨[some (.own (.sli .u8 (b ++ num a2.toNat ++ num a3.toNat ++ num a4.toNat))), none, none, some (.lp 0 []), none, none, none, none, none, none, none, none, none, some (.own (.sli .i64 [a2, a3, a4])), some (.v (.int .i64 3)), some (.v (.int .i64 3))], ts, [z0], G⟩) : WL (W E (specOf l) lp84_0) [0, 3, 13, 14, 15] QQ 4 ⟨[some (.v (.sli .u8 b)), none, none, some (.lp 0 []), none, none, none, none, none, none, none, none, none, some (.own (.sli .i64 [a2, a3, a4])), some (.v (.int .i64 3)), some (.v (.int .i64 0))], [], [z0], G⟩ := by
  obtain ⟨m2, n2⟩ := num_ok (n := a2.toNat) (by omega)
  obtain ⟨m3, n3⟩ := num_ok (n := a3.toNat) (by omega)
  obtain ⟨m4, n4⟩ := num_ok (n := a4.toNat) (by omega)
  have w2 := u64_of h2.1 (by omega)
  have w3 := u64_of h3.1 (by omega)
  have w4 := u64_of h4.1 (by omega)
  refine WL_in lp84_0.eq_1 ?_
  simp (maxSteps := 1000000) (implicitDefEqProofs := false) (disch := omega) only [h52, SNu_eq, w2, w3, w4, go_sem, ↓reduceIte, w64]
  refine ⟨_, ⟨rfl, by omega, by omega, by omega⟩, ?_⟩
  refine WL_in lp84_0.eq_1 ?_
  simp (maxSteps := 1000000) (implicitDefEqProofs := false) (disch := omega) only [h52, SNu_eq, w2, w3, w4, go_sem, ↓reduceIte, w64]
  refine ⟨_, ⟨rfl, by simp only [List.length_append]; omega, by omega, by omega⟩, ?_⟩
  refine WL_in lp84_0.eq_1 ?_
  simp (maxSteps := 1000000) (implicitDefEqProofs := false) (disch := omega) only [h52, SNu_eq, w2, w3, w4, go_sem, ↓reduceIte, w64]
  refine ⟨_, ⟨rfl, by simp only [List.length_append]; omega, by omega, by omega⟩, ?_⟩
  refine WL_in lp84_0.eq_1 ?_
  simp (maxSteps := 1000000) (implicitDefEqProofs := false) (disch := omega) only [h52, SNu_eq, w2, w3, w4, go_sem, ↓reduceIte, w64]
  exact hx _
theorem walk84 {a1 a2 a3 a4 a6 : Int} {a5 a7 a8 : List Int} {b : List Int} (h52 : Abs.look l 72 = some SNu) (h46 : Abs.look l 71 = some SHa) (hb : b.length < 10000000000) (hw : ((⟨a1, a2, a3, a4, a5, a6, a7, a8⟩ : AttS)).wf) (hm : ((⟨a1, a2, a3, a4, a5, a6, a7, a8⟩ : AttS)).May) (h : Q (.own (.sli .u8 (b ++ ((⟨a1, a2, a3, a4, a5, a6, a7, a8⟩ : AttS)).said))) G) : Wf E (specOf l) pf84 [.sli .u8 b, .agg [.int .i64 a1, .int .i64 a2, .int .i64 a3, .int .i64 a4, .arr .u8 32 a5, .int .i64 a6, .arr .u8 32 a7, .arr .u8 32 a8]] G Q := by
  obtain ⟨m1, m2, m3, m4, m5, m6⟩ := hm
  dsimp only at m1 m2 m3 m4 m5 m6
  obtain ⟨r2, n2⟩ := num_ok (n := a2.toNat) (by omega)
  obtain ⟨r3, n3⟩ := num_ok (n := a3.toNat) (by omega)
  obtain ⟨r4, n4⟩ := num_ok (n := a4.toNat) (by omega)
  obtain ⟨r6, n6⟩ := num_ok (n := a6.toNat) (by omega)
  have w6 := u64_of (n := a6) (by omega) (by omega)
  have l5 : a5.length = 32 := hw.ha.2
  have l7 : a7.length = 32 := hw.pa.2
  simp (maxSteps := 1000000) (implicitDefEqProofs := false) only [pf84, go_sem, ↓reduceIte]
  refine ⟨4, ?_⟩
  simp (maxSteps := 1000000) (implicitDefEqProofs := false) only [go_sem, ↓reduceIte]
  refine loop84 (a2 := a2) (a3 := a3) (a4 := a4) h52 hb (by omega) (by omega) (by omega) (fun ts => ?_)
  simp (maxSteps := 1000000) (implicitDefEqProofs := false) only [h46, SHa_eq, h52, SNu_eq, w6, go_sem, ↓reduceIte]
  refine ⟨_, ⟨byV_u8 _, by simp only [List.length_append]; omega, l5⟩, _, ⟨byV_u8 _, by simp only [List.length_append]; omega, by omega, by omega⟩, _, ⟨byV_u8 _, by simp only [List.length_append]; omega, l7⟩, ?_⟩
  unfold AttS.said at h; dsimp only at h
  simpa only [List.append_assoc] using h
theorem walk77 {a1 a2 a3 a4 a6 : Int} {a5 a7 a8 : List Int} (h61 : Abs.look l 103 = some (SRn 10)) (h48 : Abs.look l 74 = some SBy) (hw : ((⟨a1, a2, a3, a4, a5, a6, a7, a8⟩ : AttS)).wf) (hm : ((⟨a1, a2, a3, a4, a5, a6, a7, a8⟩ : AttS)).May) (h : Q (.own (.sli .u8 ((⟨a1, a2, a3, a4, a5, a6, a7, a8⟩ : AttS)).said)) G) : Wf E (specOf l) pf77 [.agg [.int .i64 a1, .int .i64 a2, .int .i64 a3, .int .i64 a4, .arr .u8 32 a5, .int .i64 a6, .arr .u8 32 a7, .arr .u8 32 a8]] G Q := by
  obtain ⟨m1, m2, m3, m4, m5, m6⟩ := hm
  dsimp only at m1 m2 m3 m4 m5 m6
  subst m3
  obtain ⟨r3, n3⟩ := num_ok (n := a3.toNat) (by omega)
  obtain ⟨r6, n6⟩ := num_ok (n := a6.toNat) (by omega)
  have w3 := u64_of (n := a3) (by omega) (by omega)
  have w6 := u64_of (n := a6) (by omega) (by omega)
  have w2 : IntKind.u8.wrap a4 = a4 := by simp only [IntKind.wrap, IntKind.bits, IntKind.signed]; simp; omega
  have l5 : a5.length = 32 := hw.ha.2
  have l7 : a7.length = 32 := hw.pa.2
  have big : ∀ n : Nat, n < 2000000000000 → n < 128 ^ 10 := fun n hn => Nat.lt_of_lt_of_le hn (by decide)
  unfold AttS.said at h; dsimp only at h
  rw [num_small (n := a4.toNat) (by omega), show ((a4.toNat : Nat) : Int) = a4 by omega] at h
  simp (maxSteps := 1000000) (implicitDefEqProofs := false) only [pf77, w2, w3, w6, h61, SRn_eq, h48, SBy_eq, l5, l7, go_sem, ↓reduceIte]
  refine ⟨⟨by omega, big _ (by omega), by omega⟩, by omega, by omega, by omega, ⟨by omega, big _ (by omega), by omega⟩, by omega, by omega, ?_⟩
  exact h
theorem walk98 {a1 a2 a3 a4 a6 : Int} {a5 a7 a8 : List Int} {kt : List Int} (h53 : Abs.look l 77 = some ST8) (h49 : Abs.look l 87 = some (STr kt)) (hw : ((⟨a1, a2, a3, a4, a5, a6, a7, a8⟩ : AttS)).wf) (hm : ((⟨a1, a2, a3, a4, a5, a6, a7, a8⟩ : AttS)).May) (h : Q (.v (.arr .u8 32 (((⟨a1, a2, a3, a4, a5, a6, a7, a8⟩ : AttS)).tag kt))) G) : Wf E (specOf l) pf98 [.agg [.int .i64 a1, .int .i64 a2, .int .i64 a3, .int .i64 a4, .arr .u8 32 a5, .int .i64 a6, .arr .u8 32 a7, .arr .u8 32 a8]] G Q := by
  obtain ⟨s1, s2⟩ := AttS.said_ok hw hm
  simp (maxSteps := 1000000) (implicitDefEqProofs := false) only [pf98, h53, ST8_eq, h49, STr_eq, go_sem, ↓reduceIte]
  refine ⟨⟨hw, hm⟩, _, ⟨byV_u8 _, s1, by omega⟩, ?_⟩
  exact h
theorem walk43 {a1 a2 a3 a4 a6 : Int} {a5 a7 a8 : List Int} {kt : List Int} (h11 : Abs.look l 83 = some SCk) (h35 : Abs.look l 84 = some STg) (h34 : Abs.look l 82 = some (STa kt)) (hw : ((⟨a1, a2, a3, a4, a5, a6, a7, a8⟩ : AttS)).wf) (h : Q (.v (((⟨a1, a2, a3, a4, a5, a6, a7, a8⟩ : AttS)).sign kt).v) G) : Wf E (specOf l) pf43 [.agg [.int .i64 a1, .int .i64 a2, .int .i64 a3, .int .i64 a4, .arr .u8 32 a5, .int .i64 a6, .arr .u8 32 a7, .arr .u8 32 a8]] G Q := by
  by_cases hm : ((⟨a1, a2, a3, a4, a5, a6, a7, a8⟩ : AttS)).May
  · have hmay : ((⟨a1, a2, a3, a4, a5, a6, a7, a8⟩ : AttS)).may = true := decide_eq_true hm
    obtain ⟨s1, s2⟩ := AttS.said_ok hw hm
    unfold AttS.sign at h; rw [if_pos hmay] at h
    simp (maxSteps := 1000000) (implicitDefEqProofs := false) only [pf43, h11, SCk_eq, hmay, h35, STg_eq, h34, STa_eq, go_sem, ↓reduceIte]
    refine ⟨hw, [], ⟨rfl, by decide, hw, hm⟩, ((⟨a1, a2, a3, a4, a5, a6, a7, a8⟩ : AttS)).said, _, ⟨rowV_sle _, by simp, by simp [catL, byV], s1, by omega⟩, ?_⟩
    exact h
  · have hmay : ((⟨a1, a2, a3, a4, a5, a6, a7, a8⟩ : AttS)).may = false := decide_eq_false hm
    unfold AttS.sign at h; rw [if_neg (by rw [hmay]; exact Bool.false_ne_true)] at h
    simp (maxSteps := 1000000) (implicitDefEqProofs := false) only [pf43, h11, SCk_eq, hmay, go_sem, ↓reduceIte]
    exact ⟨hw, h⟩
theorem walk56 {a1 a2 a3 a4 a6 : Int} {a5 a7 a8 : List Int} {kt : List Int} (h11 : Abs.look l 83 = some SCk) (h35 : Abs.look l 84 = some STg) (h37 : Abs.look l 46 = some (SCh kt)) (hw : ((⟨a1, a2, a3, a4, a5, a6, a7, a8⟩ : AttS)).wf) (h : Q (.v (.bool (((⟨a1, a2, a3, a4, a5, a6, a7, a8⟩ : AttS)).right kt))) G) : Wf E (specOf l) pf56 [.agg [.int .i64 a1, .int .i64 a2, .int .i64 a3, .int .i64 a4, .arr .u8 32 a5, .int .i64 a6, .arr .u8 32 a7, .arr .u8 32 a8]] G Q := by
  by_cases hm : ((⟨a1, a2, a3, a4, a5, a6, a7, a8⟩ : AttS)).May
  · have hmay : ((⟨a1, a2, a3, a4, a5, a6, a7, a8⟩ : AttS)).may = true := decide_eq_true hm
    obtain ⟨s1, s2⟩ := AttS.said_ok hw hm
    have hn : decide (1 ≤ a1 ∧ a1 ≤ 21) = true := decide_eq_true hm.1
    unfold AttS.right at h; rw [hmay, Bool.true_and] at h
    simp (maxSteps := 1000000) (implicitDefEqProofs := false) only [pf56, h11, SCk_eq, hmay, h35, STg_eq, h37, SCh_eq, hn, go_sem, ↓reduceIte]
    refine ⟨hw, [], ⟨rfl, by decide, hw, hm⟩, ((⟨a1, a2, a3, a4, a5, a6, a7, a8⟩ : AttS)).said, _, ⟨hw.ta, rowV_sle _, by simp, by simp [catL, byV], s1, by omega⟩, ?_⟩
    exact h
  · have hmay : ((⟨a1, a2, a3, a4, a5, a6, a7, a8⟩ : AttS)).may = false := decide_eq_false hm
    unfold AttS.right at h; rw [hmay, Bool.false_and] at h
    simp (maxSteps := 1000000) (implicitDefEqProofs := false) only [pf56, h11, SCk_eq, hmay, go_sem, ↓reduceIte]
    exact ⟨hw, h⟩
theorem walk60 {a1 a2 a3 a4 a6 : Int} {a5 a7 a8 : List Int} {kt : List Int} (h9 : Abs.look l 76 = some SMy) (h38 : Abs.look l 98 = some (STr8 kt)) (hw : ((⟨a1, a2, a3, a4, a5, a6, a7, a8⟩ : AttS)).wf) (h : Q (.v (.bool (((⟨a1, a2, a3, a4, a5, a6, a7, a8⟩ : AttS)).right kt))) G) : Wf E (specOf l) pf60 [.agg [.int .i64 a1, .int .i64 a2, .int .i64 a3, .int .i64 a4, .arr .u8 32 a5, .int .i64 a6, .arr .u8 32 a7, .arr .u8 32 a8]] G Q := by
  by_cases hm : ((⟨a1, a2, a3, a4, a5, a6, a7, a8⟩ : AttS)).May
  · have hmay : ((⟨a1, a2, a3, a4, a5, a6, a7, a8⟩ : AttS)).may = true := decide_eq_true hm
    unfold AttS.right at h; rw [hmay, Bool.true_and] at h
    simp (maxSteps := 1000000) (implicitDefEqProofs := false) only [pf60, h9, SMy_eq, hmay, h38, STr8_eq, go_sem, ↓reduceIte]
    refine ⟨hw, ⟨hw, hm⟩, ?_⟩
    exact finB h (Bool.eq_iff_iff.2 (by simp))
  · have hmay : ((⟨a1, a2, a3, a4, a5, a6, a7, a8⟩ : AttS)).may = false := decide_eq_false hm
    unfold AttS.right at h; rw [hmay, Bool.false_and] at h
    simp (maxSteps := 1000000) (implicitDefEqProofs := false) only [pf60, h9, SMy_eq, hmay, go_sem, ↓reduceIte]
    exact ⟨hw, h⟩
theorem walk90 {a1 a2 a3 a4 a6 : Int} {a5 a7 a8 : List Int} {b1 b2 b3 b4 b6 : Int} {b5 b7 b8 : List Int} (h : Q (.v (.bool (((⟨a1, a2, a3, a4, a5, a6, a7, a8⟩ : AttS)).alike (⟨b1, b2, b3, b4, b5, b6, b7, b8⟩ : AttS)))) G) : Wf E C pf90 [.agg [.int .i64 a1, .int .i64 a2, .int .i64 a3, .int .i64 a4, .arr .u8 32 a5, .int .i64 a6, .arr .u8 32 a7, .arr .u8 32 a8], .agg [.int .i64 b1, .int .i64 b2, .int .i64 b3, .int .i64 b4, .arr .u8 32 b5, .int .i64 b6, .arr .u8 32 b7, .arr .u8 32 b8]] G Q := by
  simp (maxSteps := 1000000) (implicitDefEqProofs := false) only [pf90, go_sem, ↓reduceIte]
  exact finB h (by unfold AttS.alike; rw [Bool.eq_iff_iff]; simp)
end Go.Proofs.YtegamlopcdjiaaaDoor.Sha
