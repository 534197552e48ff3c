/- Laws over plain values, and what functions of the program hand back; no conditions. -/
import Derived.Test.YtpedaeaikbmbnaaDoorAtt2
import Derived.Test.YtpedaeaikbmbnaaDoorOct1
import Derived.Test.YtpedaeaikbmbnaaDoorOct2
namespace Go.Proofs.YtpedaeaikbmbnaaDoor.Sha
open Go Go.Abs Go.Abs.Sha
set_option linter.unusedSimpArgs false
set_option linter.unusedVariables false
set_option maxRecDepth 100000
def pf29 : PF :=
  PF.mk 1 5 31 ((PC.reg [⟨.v 2, .alloc (.agg [.int .i64 0, .int .i64 0, .int .i64 0, .int .i64 0, .arr .u8 32 [0, 0, 0, 0, 0, 0, 0, 0, 0, 0, 0, 0, 0, 0,
    0, 0, 0, 0, 0, 0, 0, 0, 0, 0, 0, 0, 0, 0, 0, 0, 0, 0], .int .i64 0, .arr .u8 32 [0, 0, 0, 0, 0, 0, 0, 0, 0, 0, 0, 0, 0, 0, 0, 0, 0, 0, 0, 0, 0, 0, 0,
    0, 0, 0, 0, 0, 0, 0, 0, 0], .arr .u8 32 [0, 0, 0, 0, 0, 0, 0, 0, 0, 0, 0, 0, 0, 0, 0, 0, 0, 0, 0, 0, 0, 0, 0, 0, 0, 0, 0, 0, 0, 0, 0, 0]]), none⟩,
    ⟨.v 3, .mv true (.c (.v (.bool false))), none⟩]).seq ((PC.reg [⟨.t 5, .mv false (.v 0), none⟩, ⟨.t 6, .call 39 [.t 5, .c (.v (.int .i64 21))], none⟩,
    ⟨.t 7, .mv false (.v 0), none⟩, ⟨.t 8, .call 39 [.t 7, .c (.v (.int .i64 3))], none⟩, ⟨.t 9, .mv false (.v 0), none⟩, ⟨.t 10, .call 39 [.t 9, .c (.v
    (.int .i64 1099511627776))], none⟩, ⟨.t 11, .mv false (.v 0), none⟩, ⟨.t 12, .call 39 [.t 11, .c (.v (.int .i64 3))], none⟩, ⟨.t 13, .mv false (.v
    0), none⟩, ⟨.t 14, .call 40 [.t 13], none⟩, ⟨.t 15, .mv false (.v 0), none⟩, ⟨.t 16, .call 39 [.t 15, .c (.v (.int .i64 1099511627776))], none⟩, ⟨.t
    17, .mv false (.v 0), none⟩, ⟨.t 18, .call 40 [.t 17], none⟩, ⟨.t 19, .mv false (.v 0), none⟩, ⟨.t 20, .call 40 [.t 19], none⟩, ⟨.t 21, .build (.agg
    [.int .i64 0, .int .i64 0, .int .i64 0, .int .i64 0, .arr .u8 32 [0, 0, 0, 0, 0, 0, 0, 0, 0, 0, 0, 0, 0, 0, 0, 0, 0, 0, 0, 0, 0, 0, 0, 0, 0, 0, 0, 0,
    0, 0, 0, 0], .int .i64 0, .arr .u8 32 [0, 0, 0, 0, 0, 0, 0, 0, 0, 0, 0, 0, 0, 0, 0, 0, 0, 0, 0, 0, 0, 0, 0, 0, 0, 0, 0, 0, 0, 0, 0, 0], .arr .u8 32
    [0, 0, 0, 0, 0, 0, 0, 0, 0, 0, 0, 0, 0, 0, 0, 0, 0, 0, 0, 0, 0, 0, 0, 0, 0, 0, 0, 0, 0, 0, 0, 0]]) [(0, .t 6), (1, .t 8), (2, .t 10), (3, .t 12), (4,
    .t 14), (5, .t 16), (6, .t 18), (7, .t 20)], none⟩, ⟨.v 4, .alloc (.agg [.int .i64 0, .int .i64 0, .int .i64 0, .int .i64 0, .arr .u8 32 [0, 0, 0, 0,
    0, 0, 0, 0, 0, 0, 0, 0, 0, 0, 0, 0, 0, 0, 0, 0, 0, 0, 0, 0, 0, 0, 0, 0, 0, 0, 0, 0], .int .i64 0, .arr .u8 32 [0, 0, 0, 0, 0, 0, 0, 0, 0, 0, 0, 0, 0,
    0, 0, 0, 0, 0, 0, 0, 0, 0, 0, 0, 0, 0, 0, 0, 0, 0, 0, 0], .arr .u8 32 [0, 0, 0, 0, 0, 0, 0, 0, 0, 0, 0, 0, 0, 0, 0, 0, 0, 0, 0, 0, 0, 0, 0, 0, 0, 0,
    0, 0, 0, 0, 0, 0]]), none⟩, ⟨.no, .store 101 (.v 4) (.t 21), none⟩]).seq (((PC.reg [⟨.t 22, .mv false (.v 0), none⟩, ⟨.t 23, .call 51 [.t 22], none⟩,
    ⟨.t 24, .mv false (.t 23), none⟩, ⟨.t 25, .load 101 true (.v 4), some (.t 24, false)⟩, ⟨.t 26, .call 11 [.t 25], some (.t 24, false)⟩, ⟨.t 27, .bin
    .neq (.t 26) (.c (.v (.int .i64 0))), some (.t 24, false)⟩, ⟨.t 28, .pick (.t 24) (.c (.v (.bool true))) (.t 27), none⟩]).seq (PC.cond (.t 28)
    ((PC.reg [⟨.t 29, .build (.agg [.int .i64 0, .int .i64 0, .int .i64 0, .int .i64 0, .arr .u8 32 [0, 0, 0, 0, 0, 0, 0, 0, 0, 0, 0, 0, 0, 0, 0, 0, 0,
    0, 0, 0, 0, 0, 0, 0, 0, 0, 0, 0, 0, 0, 0, 0], .int .i64 0, .arr .u8 32 [0, 0, 0, 0, 0, 0, 0, 0, 0, 0, 0, 0, 0, 0, 0, 0, 0, 0, 0, 0, 0, 0, 0, 0, 0, 0,
    0, 0, 0, 0, 0, 0], .arr .u8 32 [0, 0, 0, 0, 0, 0, 0, 0, 0, 0, 0, 0, 0, 0, 0, 0, 0, 0, 0, 0, 0, 0, 0, 0, 0, 0, 0, 0, 0, 0, 0, 0]]) [], none⟩, ⟨.no,
    .store 101 (.v 2) (.t 29), none⟩, ⟨.v 3, .mv true (.c (.v (.bool false))), none⟩]).seq PC.ret) PC.skip)).seq ((PC.reg [⟨.t 30, .load 101 true (.v 4),
    none⟩, ⟨.no, .store 101 (.v 2) (.t 30), none⟩, ⟨.v 3, .mv true (.c (.v (.bool true))), none⟩]).seq PC.ret)))) [(.v 2, some (101, true)), (.v 3,
    none)]
def pf30 : PF :=
  PF.mk 1 6 66 ((PC.reg [⟨.v 1, .box (.v 0), none⟩, ⟨.v 2, .alloc (.agg [.nils, .int .i64 0, .bool false]), none⟩, ⟨.v 3, .alloc (.agg [.int .i64 0, .int
    .i64 0, .int .i64 0, .int .i64 0, .arr .u8 32 [0, 0, 0, 0, 0, 0, 0, 0, 0, 0, 0, 0, 0, 0, 0, 0, 0, 0, 0, 0, 0, 0, 0, 0, 0, 0, 0, 0, 0, 0, 0, 0], .int
    .i64 0, .arr .u8 32 [0, 0, 0, 0, 0, 0, 0, 0, 0, 0, 0, 0, 0, 0, 0, 0, 0, 0, 0, 0, 0, 0, 0, 0, 0, 0, 0, 0, 0, 0, 0, 0], .arr .u8 32 [0, 0, 0, 0, 0, 0,
    0, 0, 0, 0, 0, 0, 0, 0, 0, 0, 0, 0, 0, 0, 0, 0, 0, 0, 0, 0, 0, 0, 0, 0, 0, 0]]), none⟩, ⟨.v 4, .mv true (.c (.v (.bool false))), none⟩]).seq ((PC.reg
    [⟨.t 6, .build (.agg [.int .i64 0, .int .i64 0, .int .i64 0, .int .i64 0, .arr .u8 32 [0, 0, 0, 0, 0, 0, 0, 0, 0, 0, 0, 0, 0, 0, 0, 0, 0, 0, 0, 0, 0,
    0, 0, 0, 0, 0, 0, 0, 0, 0, 0, 0], .int .i64 0, .arr .u8 32 [0, 0, 0, 0, 0, 0, 0, 0, 0, 0, 0, 0, 0, 0, 0, 0, 0, 0, 0, 0, 0, 0, 0, 0, 0, 0, 0, 0, 0, 0,
    0, 0], .arr .u8 32 [0, 0, 0, 0, 0, 0, 0, 0, 0, 0, 0, 0, 0, 0, 0, 0, 0, 0, 0, 0, 0, 0, 0, 0, 0, 0, 0, 0, 0, 0, 0, 0]]) [], none⟩, ⟨.v 5, .alloc (.agg
    [.int .i64 0, .int .i64 0, .int .i64 0, .int .i64 0, .arr .u8 32 [0, 0, 0, 0, 0, 0, 0, 0, 0, 0, 0, 0, 0, 0, 0, 0, 0, 0, 0, 0, 0, 0, 0, 0, 0, 0, 0, 0,
    0, 0, 0, 0], .int .i64 0, .arr .u8 32 [0, 0, 0, 0, 0, 0, 0, 0, 0, 0, 0, 0, 0, 0, 0, 0, 0, 0, 0, 0, 0, 0, 0, 0, 0, 0, 0, 0, 0, 0, 0, 0], .arr .u8 32
    [0, 0, 0, 0, 0, 0, 0, 0, 0, 0, 0, 0, 0, 0, 0, 0, 0, 0, 0, 0, 0, 0, 0, 0, 0, 0, 0, 0, 0, 0, 0, 0]]), none⟩, ⟨.no, .store 101 (.v 5) (.t 6),
    none⟩]).seq ((PC.reg [⟨.t 8, .load 3 true (.v 1), none⟩, ⟨.t 9, .call 43 [.t 8, .c (.v (.int .i64 21))], none⟩, ⟨.t 7, .mv false (.t 9), none⟩, ⟨.t
    10, .ext (.t 7) 0, none⟩, ⟨.t 11, .ext (.t 7) 1, none⟩, ⟨.no, .store 3 (.v 1) (.t 10), none⟩, ⟨.t 12, .fadr 0 0 (.v 5), none⟩, ⟨.no, .store 1 (.t 12)
    (.t 11), none⟩]).seq ((PC.reg [⟨.t 14, .load 3 true (.v 1), none⟩, ⟨.t 15, .call 43 [.t 14, .c (.v (.int .i64 3))], none⟩, ⟨.t 13, .mv false (.t 15),
    none⟩, ⟨.t 16, .ext (.t 13) 0, none⟩, ⟨.t 17, .ext (.t 13) 1, none⟩, ⟨.no, .store 3 (.v 1) (.t 16), none⟩, ⟨.t 18, .fadr 1 1 (.v 5), none⟩, ⟨.no,
    .store 1 (.t 18) (.t 17), none⟩]).seq ((PC.reg [⟨.t 20, .load 3 true (.v 1), none⟩, ⟨.t 21, .call 43 [.t 20, .c (.v (.int .i64 1099511627776))],
    none⟩, ⟨.t 19, .mv false (.t 21), none⟩, ⟨.t 22, .ext (.t 19) 0, none⟩, ⟨.t 23, .ext (.t 19) 1, none⟩, ⟨.no, .store 3 (.v 1) (.t 22), none⟩, ⟨.t 24,
    .fadr 2 2 (.v 5), none⟩, ⟨.no, .store 1 (.t 24) (.t 23), none⟩]).seq ((PC.reg [⟨.t 26, .load 3 true (.v 1), none⟩, ⟨.t 27, .call 43 [.t 26, .c (.v
    (.int .i64 3))], none⟩, ⟨.t 25, .mv false (.t 27), none⟩, ⟨.t 28, .ext (.t 25) 0, none⟩, ⟨.t 29, .ext (.t 25) 1, none⟩, ⟨.no, .store 3 (.v 1) (.t
    28), none⟩, ⟨.t 30, .fadr 3 3 (.v 5), none⟩, ⟨.no, .store 1 (.t 30) (.t 29), none⟩]).seq ((PC.reg [⟨.t 32, .load 3 true (.v 1), none⟩, ⟨.t 33, .call
    44 [.t 32], none⟩, ⟨.t 31, .mv false (.t 33), none⟩, ⟨.t 34, .ext (.t 31) 0, none⟩, ⟨.t 35, .ext (.t 31) 1, none⟩, ⟨.no, .store 3 (.v 1) (.t 34),
    none⟩, ⟨.t 36, .fadr 4 4 (.v 5), none⟩, ⟨.no, .store 32 (.t 36) (.t 35), none⟩]).seq ((PC.reg [⟨.t 38, .load 3 true (.v 1), none⟩, ⟨.t 39, .call 43
    [.t 38, .c (.v (.int .i64 1099511627776))], none⟩, ⟨.t 37, .mv false (.t 39), none⟩, ⟨.t 40, .ext (.t 37) 0, none⟩, ⟨.t 41, .ext (.t 37) 1, none⟩,
    ⟨.no, .store 3 (.v 1) (.t 40), none⟩, ⟨.t 42, .fadr 5 36 (.v 5), none⟩, ⟨.no, .store 1 (.t 42) (.t 41), none⟩]).seq ((PC.reg [⟨.t 44, .load 3 true
    (.v 1), none⟩, ⟨.t 45, .call 44 [.t 44], none⟩, ⟨.t 43, .mv false (.t 45), none⟩, ⟨.t 46, .ext (.t 43) 0, none⟩, ⟨.t 47, .ext (.t 43) 1, none⟩, ⟨.no,
    .store 3 (.v 1) (.t 46), none⟩, ⟨.t 48, .fadr 6 37 (.v 5), none⟩, ⟨.no, .store 32 (.t 48) (.t 47), none⟩]).seq ((PC.reg [⟨.t 50, .load 3 true (.v 1),
    none⟩, ⟨.t 51, .call 44 [.t 50], none⟩, ⟨.t 49, .mv false (.t 51), none⟩, ⟨.t 52, .ext (.t 49) 0, none⟩, ⟨.t 53, .ext (.t 49) 1, none⟩, ⟨.no, .store
    3 (.v 1) (.t 52), none⟩, ⟨.t 54, .fadr 7 69 (.v 5), none⟩, ⟨.no, .store 32 (.t 54) (.t 53), none⟩]).seq (((PC.reg [⟨.t 55, .fadr 2 2 (.v 1), none⟩,
    ⟨.t 56, .load 1 false (.t 55), none⟩, ⟨.t 57, .mv false (.t 56), none⟩, ⟨.t 58, .load 101 true (.v 5), some (.t 57, false)⟩, ⟨.t 59, .call 9 [.t 58],
    some (.t 57, false)⟩, ⟨.t 60, .un .not (.t 59), some (.t 57, false)⟩, ⟨.t 61, .pick (.t 57) (.c (.v (.bool true))) (.t 60), none⟩]).seq (PC.cond (.t
    61) ((PC.reg [⟨.t 62, .load 3 true (.v 1), none⟩, ⟨.t 63, .build (.agg [.int .i64 0, .int .i64 0, .int .i64 0, .int .i64 0, .arr .u8 32 [0, 0, 0, 0,
    0, 0, 0, 0, 0, 0, 0, 0, 0, 0, 0, 0, 0, 0, 0, 0, 0, 0, 0, 0, 0, 0, 0, 0, 0, 0, 0, 0], .int .i64 0, .arr .u8 32 [0, 0, 0, 0, 0, 0, 0, 0, 0, 0, 0, 0, 0,
    0, 0, 0, 0, 0, 0, 0, 0, 0, 0, 0, 0, 0, 0, 0, 0, 0, 0, 0], .arr .u8 32 [0, 0, 0, 0, 0, 0, 0, 0, 0, 0, 0, 0, 0, 0, 0, 0, 0, 0, 0, 0, 0, 0, 0, 0, 0, 0,
    0, 0, 0, 0, 0, 0]]) [], none⟩, ⟨.no, .store 3 (.v 2) (.t 62), none⟩, ⟨.no, .store 101 (.v 3) (.t 63), none⟩, ⟨.v 4, .mv true (.c (.v (.bool false))),
    none⟩]).seq PC.ret) PC.skip)).seq ((PC.regD 0 [⟨.t 64, .load 3 true (.v 1), none⟩, ⟨.t 65, .load 101 true (.v 5), none⟩, ⟨.no, .store 3 (.v 2) (.t
    64), none⟩, ⟨.no, .store 101 (.v 3) (.t 65), none⟩, ⟨.v 4, .mv true (.c (.v (.bool true))), none⟩] [(1, 2)]).seq PC.ret)))))))))))) [(.v 2, some (3,
    true)), (.v 3, some (101, true)), (.v 4, none)]
def pf32 : PF :=
  PF.mk 2 5 20 ((PC.reg [⟨.v 3, .box (.v 1), none⟩, ⟨.v 4, .mv true (.c (.own .nils)), none⟩]).seq (((PC.reg [⟨.t 5, .load 101 true (.v 3), none⟩, ⟨.t 6,
    .call 11 [.t 5], none⟩, ⟨.t 7, .bin .neq (.t 6) (.c (.v (.int .i64 0))), none⟩]).seq (PC.cond (.t 7) ((PC.reg [⟨.t 8, .mv false (.v 0), none⟩, ⟨.t 9,
    .call 50 [.t 8], none⟩, ⟨.v 4, .mv true (.t 9), none⟩]).seq PC.ret) PC.skip)).seq ((PC.regD 0 [⟨.t 10, .mv false (.v 0), none⟩, ⟨.t 11, .fadr 0 0 (.v
    3), none⟩, ⟨.t 12, .load 1 false (.t 11), none⟩, ⟨.t 13, .conv .u64 (.t 12), none⟩, ⟨.t 14, .call 52 [.t 10, .t 13], none⟩, ⟨.t 15, .load 101 true
    (.v 3), none⟩, ⟨.t 16, .call 35 [.t 14, .t 15], none⟩, ⟨.t 17, .fadr 7 69 (.v 3), none⟩, ⟨.t 18, .load 32 true (.t 17), none⟩, ⟨.t 19, .call 46 [.t
    16, .t 18], none⟩, ⟨.v 4, .mv true (.t 19), none⟩] []).seq PC.ret))) [(.v 4, none)]
def pf33 : PF :=
  PF.mk 1 3 14 ((PC.reg [⟨.v 1, .box (.v 0), none⟩, ⟨.v 2, .mv true (.c (.own .nils)), none⟩]).seq ((PC.regD 0 [⟨.t 3, .fadr 0 0 (.v 1), none⟩, ⟨.t 4,
    .load 1 false (.t 3), none⟩, ⟨.t 5, .conv .u8 (.t 4), none⟩, ⟨.t 6, .buildS (some .u8) 1 (.int .u8 0) 1 [(0, .t 5)], none⟩, ⟨.t 7, .load 101 true (.v
    1), none⟩, ⟨.t 8, .call 53 [.t 7], none⟩, ⟨.t 9, .app (some .u8) 1 1 (.t 6) (.t 8), none⟩, ⟨.t 10, .fadr 7 69 (.v 1), none⟩, ⟨.t 11, .load 32 true
    (.t 10), none⟩, ⟨.t 12, .call 48 [.t 11], none⟩, ⟨.t 13, .app (some .u8) 1 1 (.t 9) (.t 12), none⟩, ⟨.v 2, .mv true (.t 13), none⟩] []).seq PC.ret))
    [(.v 2, none)]
attribute [local irreducible] W Wops WopsD WL Wop WopD
variable {E : Env} {C : Abs.Spec} {l : List (Nat × Spec1)} {G : List (Nat × V)} {Q : R → List (Nat × V) → Prop}
set_option maxHeartbeats 1000000
def attR (a : AttS) (w : Bool) : AttS := if (!w && a.may) = true then a else .zero
def SAr : Spec1
  | [.ptr id], G, Q => ∃ b a r w, (Abs.look G id = some (.agg [.sli .u8 b, .bool false]) ∧ Byt b ∧ b.length < 100000000000 ∧ rdAtt (b, false) = (a, r, w)) ∧ Q (.tup [(attR a w).v, .bool (!w && a.may)]) (Abs.upd G id (.agg [.sli .u8 r, .bool w]))
  | _, _, _ => False
theorem SAr_eq {id} : SAr [.ptr id] G Q = (∃ b a r w, (Abs.look G id = some (.agg [.sli .u8 b, .bool false]) ∧ Byt b ∧ b.length < 100000000000 ∧ rdAtt (b, false) = (a, r, w)) ∧ Q (.tup [(attR a w).v, .bool (!w && a.may)]) (Abs.upd G id (.agg [.sli .u8 r, .bool w]))) := rfl
def SAs : Spec1
  | [.agg [.sli .u8 B, .int .i64 0, .bool false]], G, Q => ∃ a r w, (Byt B ∧ B.length < 100000000000 ∧ rdAtt (B, false) = (a, r, w)) ∧ Q (.tup [.agg [.sli .u8 B, .int .i64 ((B.length : Int) - r.length), .bool w], (attR a w).v, .bool (!w && a.may)]) G
  | _, _, _ => False
theorem SAs_eq {B} : SAs [.agg [.sli .u8 B, .int .i64 0, .bool false]] G Q = (∃ a r w, (Byt B ∧ B.length < 100000000000 ∧ rdAtt (B, false) = (a, r, w)) ∧ Q (.tup [.agg [.sli .u8 B, .int .i64 ((B.length : Int) - r.length), .bool w], (attR a w).v, .bool (!w && a.may)]) G) := rfl
def SAp : Spec1
  | [x, .agg [.int .i64 a1, .int .i64 a2, .int .i64 a3, .int .i64 a4, .arr .u8 32 a5, .int .i64 a6, .arr .u8 32 a7, .arr .u8 32 a8]], G, Q => ∃ b, (byV x = some b ∧ b.length < 100000000 ∧ (⟨a1, a2, a3, a4, a5, a6, a7, a8⟩ : AttS).wf) ∧ Q (.own (.sli .u8 (if (⟨a1, a2, a3, a4, a5, a6, a7, a8⟩ : AttS).may = true then b ++ (⟨a1, a2, a3, a4, a5, a6, a7, a8⟩ : AttS).bytes else b))) G
  | _, _, _ => False
theorem SAp_eq {x a1 a2 a3 a4 a5 a6 a7 a8} : SAp [x, .agg [.int .i64 a1, .int .i64 a2, .int .i64 a3, .int .i64 a4, .arr .u8 32 a5, .int .i64 a6, .arr .u8 32 a7, .arr .u8 32 a8]] G Q = (∃ b, (byV x = some b ∧ b.length < 100000000 ∧ (⟨a1, a2, a3, a4, a5, a6, a7, a8⟩ : AttS).wf) ∧ Q (.own (.sli .u8 (if (⟨a1, a2, a3, a4, a5, a6, a7, a8⟩ : AttS).may = true then b ++ (⟨a1, a2, a3, a4, a5, a6, a7, a8⟩ : AttS).bytes else b))) G) := rfl
def SAb : Spec1
  | [.agg [.int .i64 a1, .int .i64 a2, .int .i64 a3, .int .i64 a4, .arr .u8 32 a5, .int .i64 a6, .arr .u8 32 a7, .arr .u8 32 a8]], G, Q => ((⟨a1, a2, a3, a4, a5, a6, a7, a8⟩ : AttS).wf ∧ (⟨a1, a2, a3, a4, a5, a6, a7, a8⟩ : AttS).May) ∧ Q (.own (.sli .u8 (⟨a1, a2, a3, a4, a5, a6, a7, a8⟩ : AttS).bytes)) G
  | _, _, _ => False
theorem SAb_eq {a1 a2 a3 a4 a5 a6 a7 a8} : SAb [.agg [.int .i64 a1, .int .i64 a2, .int .i64 a3, .int .i64 a4, .arr .u8 32 a5, .int .i64 a6, .arr .u8 32 a7, .arr .u8 32 a8]] G Q = (((⟨a1, a2, a3, a4, a5, a6, a7, a8⟩ : AttS).wf ∧ (⟨a1, a2, a3, a4, a5, a6, a7, a8⟩ : AttS).May) ∧ Q (.own (.sli .u8 (⟨a1, a2, a3, a4, a5, a6, a7, a8⟩ : AttS).bytes)) G) := rfl
theorem walk29 {id : Nat} {b r : List Int} {a : AttS} {w : Bool} (h39 : Abs.look l 39 = some SUp) (h40 : Abs.look l 40 = some SHs) (h51 : Abs.look l 51 = some SOff) (h11 : Abs.look l 11 = some SCk)
    (hG : Abs.look G id = some (.agg [.sli .u8 b, .bool false])) (hb : Byt b) (hl : b.length < 100000000000) (he : rdAtt (b, false) = (a, r, w))
    (h : Q (.tup [(attR a w).v, .bool (!w && a.may)]) (Abs.upd G id (.agg [.sli .u8 r, .bool w]))) : Wf E (specOf l) pf29 [.ptr id] G Q := by
  rcases e1 : rdUpto 21 (b, false) with ⟨n1, r1, w1⟩
  rcases e2 : rdUpto 3 (r1, w1) with ⟨n2, r2, w2⟩
  rcases e3 : rdUpto 1099511627776 (r2, w2) with ⟨n3, r3, w3⟩
  rcases e4 : rdUpto 3 (r3, w3) with ⟨n4, r4, w4⟩
  rcases e5 : rdHash (r4, w4) with ⟨n5, r5, w5⟩
  rcases e6 : rdUpto 1099511627776 (r5, w5) with ⟨n6, r6, w6⟩
  rcases e7 : rdHash (r6, w6) with ⟨n7, r7, w7⟩
  rcases e8 : rdHash (r7, w7) with ⟨n8, r8, w8⟩
  obtain ⟨z11, z12, _, _, ⟨u1, z15⟩, _⟩ := rdUpto_all e1 hb (by omega)
  obtain ⟨z21, z22, _, _, ⟨u2, z25⟩, _⟩ := rdUpto_all e2 z11 (by omega)
  obtain ⟨z31, z32, _, _, ⟨u3, z35⟩, _⟩ := rdUpto_all e3 z21 (by omega)
  obtain ⟨z41, z42, _, _, ⟨u4, z45⟩, _⟩ := rdUpto_all e4 z31 (by omega)
  obtain ⟨z51, z52, _, ⟨u5, z55⟩, _⟩ := rdHash_all e5 z41
  obtain ⟨z61, z62, _, _, ⟨u6, z65⟩, _⟩ := rdUpto_all e6 z51 (by omega)
  obtain ⟨z71, z72, _, ⟨u7, z75⟩, _⟩ := rdHash_all e7 z61
  obtain ⟨z81, z82, _, ⟨u8, z85⟩, _⟩ := rdHash_all e8 z71
  have eA : rdAtt (b, false) = (⟨n1, n2, n3, n4, n5, n6, n7, n8⟩, r8, w8) := by simp only [rdAtt, e1, e2, e3, e4, e5, e6, e7, e8]
  have ok := rdAtt_all eA hb
  have hw := ok.wf
  rw [eA] at he
  simp only [Prod.mk.injEq] at he
  obtain ⟨rfl, rfl, rfl⟩ := he
  have g : ∀ x, Abs.look (Abs.upd G id x) id = some x := fun x => look_upd_same hG
  simp (maxSteps := 1000000) (implicitDefEqProofs := false) only [pf29, h39, SUp_eq, h40, SHs_eq, h51, SOff_eq, g, go_sem, ↓reduceIte, decide_eq_true_eq, decide_eq_false_iff_not, ge_iff_le, gt_iff_lt, Int.not_le, Int.not_lt, Bool.not_eq_true', Bool.not_eq_false', Bool.and_eq_true, Bool.and_eq_false_iff]
  refine ⟨b, false, n1, r1, w1, ⟨hG, hb, by omega, e1⟩, r1, w1, n2, r2, w2, ⟨rfl, z11, by omega, e2⟩, r2, w2, n3, r3, w3, ⟨rfl, z21, by omega, e3⟩, r3, w3, n4, r4, w4, ⟨rfl, z31, by omega, e4⟩, r4, w4, n5, r5, w5, ⟨rfl, z41, by omega, e5⟩, r5, w5, n6, r6, w6, ⟨rfl, z51, by omega, e6⟩, r6, w6, n7, r7, w7, ⟨rfl, z61, by omega, e7⟩, r7, w7, n8, r8, w8, ⟨rfl, z71, by omega, e8⟩, r8, w8, rfl, ?_⟩
  cases w8 with
  | true =>
    try simp (maxSteps := 1000000) (implicitDefEqProofs := false) only [go_sem, ↓reduceIte, decide_eq_true_eq, decide_eq_false_iff_not, ge_iff_le, gt_iff_lt, Int.not_le, Int.not_lt, Bool.not_eq_true', Bool.not_eq_false', Bool.and_eq_true, Bool.and_eq_false_iff]
    exact h
  | false =>
    by_cases hm : (⟨n1, n2, n3, n4, n5, n6, n7, n8⟩ : AttS).May
    · have hmay : (⟨n1, n2, n3, n4, n5, n6, n7, n8⟩ : AttS).may = true := decide_eq_true hm
      unfold attR at h
      rw [hmay] at h
      simp (maxSteps := 1000000) (implicitDefEqProofs := false) only [h11, SCk_eq, hmay, go_sem, ↓reduceIte, decide_eq_true_eq, decide_eq_false_iff_not, ge_iff_le, gt_iff_lt, Int.not_le, Int.not_lt, Bool.not_eq_true', Bool.not_eq_false', Bool.and_eq_true, Bool.and_eq_false_iff]
      exact ⟨hw, h⟩
    · have hmay : (⟨n1, n2, n3, n4, n5, n6, n7, n8⟩ : AttS).may = false := decide_eq_false hm
      unfold attR at h
      rw [hmay] at h
      simp (maxSteps := 1000000) (implicitDefEqProofs := false) only [h11, SCk_eq, hmay, go_sem, ↓reduceIte, decide_eq_true_eq, decide_eq_false_iff_not, ge_iff_le, gt_iff_lt, Int.not_le, Int.not_lt, Bool.not_eq_true', Bool.not_eq_false', Bool.and_eq_true, Bool.and_eq_false_iff]
      exact ⟨hw, h⟩
theorem walk30 {b r : List Int} {a : AttS} {w : Bool} (h43 : Abs.look l 43 = some SRu) (h44 : Abs.look l 44 = some SRh) (h9 : Abs.look l 9 = some SMy)
    (hb : Byt b) (hl : b.length < 100000000000) (he : rdAtt (b, false) = (a, r, w))
    (h : Q (.tup [.agg [.sli .u8 b, .int .i64 ((b.length : Int) - r.length), .bool w], (attR a w).v, .bool (!w && a.may)]) G) : Wf E (specOf l) pf30 [.agg [.sli .u8 b, .int .i64 0, .bool false]] G Q := by
  rcases e1 : rdUpto 21 (b, false) with ⟨n1, r1, w1⟩
  rcases e2 : rdUpto 3 (r1, w1) with ⟨n2, r2, w2⟩
  rcases e3 : rdUpto 1099511627776 (r2, w2) with ⟨n3, r3, w3⟩
  rcases e4 : rdUpto 3 (r3, w3) with ⟨n4, r4, w4⟩
  rcases e5 : rdHash (r4, w4) with ⟨n5, r5, w5⟩
  rcases e6 : rdUpto 1099511627776 (r5, w5) with ⟨n6, r6, w6⟩
  rcases e7 : rdHash (r6, w6) with ⟨n7, r7, w7⟩
  rcases e8 : rdHash (r7, w7) with ⟨n8, r8, w8⟩
  obtain ⟨z11, z12, _, _, ⟨u1, z15⟩, _⟩ := rdUpto_all e1 hb (by omega)
  obtain ⟨z21, z22, _, _, ⟨u2, z25⟩, _⟩ := rdUpto_all e2 z11 (by omega)
  obtain ⟨z31, z32, _, _, ⟨u3, z35⟩, _⟩ := rdUpto_all e3 z21 (by omega)
  obtain ⟨z41, z42, _, _, ⟨u4, z45⟩, _⟩ := rdUpto_all e4 z31 (by omega)
  obtain ⟨z51, z52, _, ⟨u5, z55⟩, _⟩ := rdHash_all e5 z41
  obtain ⟨z61, z62, _, _, ⟨u6, z65⟩, _⟩ := rdUpto_all e6 z51 (by omega)
  obtain ⟨z71, z72, _, ⟨u7, z75⟩, _⟩ := rdHash_all e7 z61
  obtain ⟨z81, z82, _, ⟨u8, z85⟩, _⟩ := rdHash_all e8 z71
  have eA : rdAtt (b, false) = (⟨n1, n2, n3, n4, n5, n6, n7, n8⟩, r8, w8) := by simp only [rdAtt, e1, e2, e3, e4, e5, e6, e7, e8]
  have ok := rdAtt_all eA hb
  have hw := ok.wf
  rw [eA] at he
  simp only [Prod.mk.injEq] at he
  obtain ⟨rfl, rfl, rfl⟩ := he
  have l1 : ((b.length : Int) - (r1.length : Int)) = ((u1).length : Int) := by rw [z15]; simp only [List.length_append]; omega
  have l2 : ((b.length : Int) - (r2.length : Int)) = ((u1 ++ u2).length : Int) := by rw [z15, z25]; simp only [List.length_append]; omega
  have l3 : ((b.length : Int) - (r3.length : Int)) = ((u1 ++ u2 ++ u3).length : Int) := by rw [z15, z25, z35]; simp only [List.length_append]; omega
  have l4 : ((b.length : Int) - (r4.length : Int)) = ((u1 ++ u2 ++ u3 ++ u4).length : Int) := by rw [z15, z25, z35, z45]; simp only [List.length_append]; omega
  have l5 : ((b.length : Int) - (r5.length : Int)) = ((u1 ++ u2 ++ u3 ++ u4 ++ u5).length : Int) := by rw [z15, z25, z35, z45, z55]; simp only [List.length_append]; omega
  have l6 : ((b.length : Int) - (r6.length : Int)) = ((u1 ++ u2 ++ u3 ++ u4 ++ u5 ++ u6).length : Int) := by rw [z15, z25, z35, z45, z55, z65]; simp only [List.length_append]; omega
  have l7 : ((b.length : Int) - (r7.length : Int)) = ((u1 ++ u2 ++ u3 ++ u4 ++ u5 ++ u6 ++ u7).length : Int) := by rw [z15, z25, z35, z45, z55, z65, z75]; simp only [List.length_append]; omega
  have b1 : b = u1 ++ r1 := z15
  have b2 : b = u1 ++ u2 ++ r2 := by rw [List.append_assoc, ← z25]; exact b1
  have b3 : b = u1 ++ u2 ++ u3 ++ r3 := by rw [List.append_assoc, ← z35]; exact b2
  have b4 : b = u1 ++ u2 ++ u3 ++ u4 ++ r4 := by rw [List.append_assoc, ← z45]; exact b3
  have b5 : b = u1 ++ u2 ++ u3 ++ u4 ++ u5 ++ r5 := by rw [List.append_assoc, ← z55]; exact b4
  have b6 : b = u1 ++ u2 ++ u3 ++ u4 ++ u5 ++ u6 ++ r6 := by rw [List.append_assoc, ← z65]; exact b5
  have b7 : b = u1 ++ u2 ++ u3 ++ u4 ++ u5 ++ u6 ++ u7 ++ r7 := by rw [List.append_assoc, ← z75]; exact b6
  simp (maxSteps := 1000000) (implicitDefEqProofs := false) only [pf30, h43, SRu_eq, h44, SRh_eq, go_sem, ↓reduceIte, decide_eq_true_eq, decide_eq_false_iff_not, ge_iff_le, gt_iff_lt, Int.not_le, Int.not_lt, Bool.not_eq_true', Bool.not_eq_false', Bool.and_eq_true, Bool.and_eq_false_iff]
  refine ⟨[], b, n1, r1, w1, ⟨rfl, rfl, hb, by omega, e1⟩, ?_⟩
  refine ⟨u1, r1, n2, r2, w2, ⟨b1, by first | exact l1 | simpa using l1, hb, by omega, e2⟩, ?_⟩
  refine ⟨u1 ++ u2, r2, n3, r3, w3, ⟨b2, by first | exact l2 | simpa using l2, hb, by omega, e3⟩, ?_⟩
  refine ⟨u1 ++ u2 ++ u3, r3, n4, r4, w4, ⟨b3, by first | exact l3 | simpa using l3, hb, by omega, e4⟩, ?_⟩
  refine ⟨u1 ++ u2 ++ u3 ++ u4, r4, n5, r5, w5, ⟨b4, by first | exact l4 | simpa using l4, hb, by omega, e5⟩, ?_⟩
  refine ⟨u1 ++ u2 ++ u3 ++ u4 ++ u5, r5, n6, r6, w6, ⟨b5, by first | exact l5 | simpa using l5, hb, by omega, e6⟩, ?_⟩
  refine ⟨u1 ++ u2 ++ u3 ++ u4 ++ u5 ++ u6, r6, n7, r7, w7, ⟨b6, by first | exact l6 | simpa using l6, hb, by omega, e7⟩, ?_⟩
  refine ⟨u1 ++ u2 ++ u3 ++ u4 ++ u5 ++ u6 ++ u7, r7, n8, r8, w8, ⟨b7, by first | exact l7 | simpa using l7, hb, by omega, e8⟩, ?_⟩
  cases w8 with
  | true =>
    try simp (maxSteps := 1000000) (implicitDefEqProofs := false) only [go_sem, ↓reduceIte, decide_eq_true_eq, decide_eq_false_iff_not, ge_iff_le, gt_iff_lt, Int.not_le, Int.not_lt, Bool.not_eq_true', Bool.not_eq_false', Bool.and_eq_true, Bool.and_eq_false_iff]
    exact h
  | false =>
    by_cases hm : (⟨n1, n2, n3, n4, n5, n6, n7, n8⟩ : AttS).May
    · have hmay : (⟨n1, n2, n3, n4, n5, n6, n7, n8⟩ : AttS).may = true := decide_eq_true hm
      unfold attR at h
      rw [hmay] at h
      simp (maxSteps := 1000000) (implicitDefEqProofs := false) only [h9, SMy_eq, hmay, go_sem, ↓reduceIte, decide_eq_true_eq, decide_eq_false_iff_not, ge_iff_le, gt_iff_lt, Int.not_le, Int.not_lt, Bool.not_eq_true', Bool.not_eq_false', Bool.and_eq_true, Bool.and_eq_false_iff]
      exact ⟨hw, h⟩
    · have hmay : (⟨n1, n2, n3, n4, n5, n6, n7, n8⟩ : AttS).may = false := decide_eq_false hm
      unfold attR at h
      rw [hmay] at h
      simp (maxSteps := 1000000) (implicitDefEqProofs := false) only [h9, SMy_eq, hmay, go_sem, ↓reduceIte, decide_eq_true_eq, decide_eq_false_iff_not, ge_iff_le, gt_iff_lt, Int.not_le, Int.not_lt, Bool.not_eq_true', Bool.not_eq_false', Bool.and_eq_true, Bool.and_eq_false_iff]
      exact ⟨hw, h⟩
theorem walk32 {a1 a2 a3 a4 a6 : Int} {a5 a7 a8 : List Int} {b : List Int} (h11 : Abs.look l 11 = some SCk) (h50 : Abs.look l 50 = some SCl) (h52 : Abs.look l 52 = some SNu) (h35 : Abs.look l 35 = some STg) (h46 : Abs.look l 46 = some SHa)
    (hb : b.length < 100000000) (hw : (⟨a1, a2, a3, a4, a5, a6, a7, a8⟩ : AttS).wf) (h : Q (.own (.sli .u8 (if (⟨a1, a2, a3, a4, a5, a6, a7, a8⟩ : AttS).may = true then b ++ (⟨a1, a2, a3, a4, a5, a6, a7, a8⟩ : AttS).bytes else b))) G) : Wf E (specOf l) pf32 [.sli .u8 b, .agg [.int .i64 a1, .int .i64 a2, .int .i64 a3, .int .i64 a4, .arr .u8 32 a5, .int .i64 a6, .arr .u8 32 a7, .arr .u8 32 a8]] G Q := by
  by_cases hm : (⟨a1, a2, a3, a4, a5, a6, a7, a8⟩ : AttS).May
  · have hmay : (⟨a1, a2, a3, a4, a5, a6, a7, a8⟩ : AttS).may = true := decide_eq_true hm
    obtain ⟨m1, m2⟩ := hm.1
    dsimp only at m1 m2
    obtain ⟨s1, s2⟩ := AttS.said_ok hw hm
    obtain ⟨r1, n1⟩ := num_ok (n := a1.toNat) (by omega)
    have w1 := u64_of (n := a1) (by omega) (by omega)
    rw [if_pos hmay] at h
    unfold AttS.bytes at h
    simp (maxSteps := 1000000) (implicitDefEqProofs := false) only [pf32, h11, SCk_eq, hmay, h52, SNu_eq, w1, h35, STg_eq, h46, SHa_eq, go_sem, ↓reduceIte, decide_eq_true_eq, decide_eq_false_iff_not, ge_iff_le, gt_iff_lt, Int.not_le, Int.not_lt, Bool.not_eq_true', Bool.not_eq_false', Bool.and_eq_true, Bool.and_eq_false_iff]
    refine ⟨hw, b, ⟨rfl, by omega, by omega, by omega⟩, _, ⟨byV_u8 _, by rw [List.length_append]; omega, hw, hm⟩, _, ⟨byV_u8 _, by simp only [List.length_append]; omega, hw.ta.2⟩, ?_⟩
    simpa only [List.append_assoc] using h
  · have hmay : (⟨a1, a2, a3, a4, a5, a6, a7, a8⟩ : AttS).may = false := decide_eq_false hm
    rw [if_neg (by rw [hmay]; exact Bool.false_ne_true)] at h
    simp (maxSteps := 1000000) (implicitDefEqProofs := false) only [pf32, h11, SCk_eq, hmay, h50, SCl_eq, go_sem, ↓reduceIte, decide_eq_true_eq, decide_eq_false_iff_not, ge_iff_le, gt_iff_lt, Int.not_le, Int.not_lt, Bool.not_eq_true', Bool.not_eq_false', Bool.and_eq_true, Bool.and_eq_false_iff]
    exact ⟨hw, b, ⟨rfl, by omega⟩, h⟩
theorem walk33 {a1 a2 a3 a4 a6 : Int} {a5 a7 a8 : List Int} (h61 : Abs.look l 61 = some (SRn 10)) (h53 : Abs.look l 53 = some ST8) (h48 : Abs.look l 48 = some SBy) (hw : (⟨a1, a2, a3, a4, a5, a6, a7, a8⟩ : AttS).wf) (hm : (⟨a1, a2, a3, a4, a5, a6, a7, a8⟩ : AttS).May) (h : Q (.own (.sli .u8 (⟨a1, a2, a3, a4, a5, a6, a7, a8⟩ : AttS).bytes)) G) : Wf E (specOf l) pf33 [.agg [.int .i64 a1, .int .i64 a2, .int .i64 a3, .int .i64 a4, .arr .u8 32 a5, .int .i64 a6, .arr .u8 32 a7, .arr .u8 32 a8]] G Q := by
  obtain ⟨m1, m2⟩ := hm.1
  dsimp only at m1 m2
  obtain ⟨s1, s2⟩ := AttS.said_ok hw hm
  have l8 : a8.length = 32 := hw.ta.2
  have w1 : IntKind.u8.wrap a1 = a1 := by simp only [IntKind.wrap, IntKind.bits, IntKind.signed]; simp; omega
  have en : num a1.toNat = [a1] := by rw [num_small (by omega), show ((a1.toNat : Nat) : Int) = a1 by omega]
  unfold AttS.bytes at h; dsimp only at h
  rw [en] at h
  simp (maxSteps := 1000000) (implicitDefEqProofs := false) only [pf33, w1, h53, ST8_eq, h48, SBy_eq, l8, go_sem, ↓reduceIte, decide_eq_true_eq, decide_eq_false_iff_not, ge_iff_le, gt_iff_lt, Int.not_le, Int.not_lt, Bool.not_eq_true', Bool.not_eq_false', Bool.and_eq_true, Bool.and_eq_false_iff]
  refine ⟨⟨hw, hm⟩, ?_⟩
  try simp (maxSteps := 1000000) (implicitDefEqProofs := false) only [go_sem, ↓reduceIte, decide_eq_true_eq, decide_eq_false_iff_not, ge_iff_le, gt_iff_lt, Int.not_le, Int.not_lt, Bool.not_eq_true', Bool.not_eq_false', Bool.and_eq_true, Bool.and_eq_false_iff]
  exact ⟨by omega, by omega, h⟩
end Go.Proofs.YtpedaeaikbmbnaaDoor.Sha
