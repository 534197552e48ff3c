/- Laws over plain values, and what functions of the program hand back; no conditions. -/
import Derived.Test.YtpedaeaikbmbnaaDoorBlob2
import Derived.Test.YtpedaeaikbmbnaaDoorShaD
namespace Go.Proofs.YtpedaeaikbmbnaaDoor.Sha
open Go Go.Abs Go.Abs.Sha
set_option linter.unusedSimpArgs false
set_option linter.unusedVariables false
set_option maxRecDepth 100000
def pf18 : PF :=
  PF.mk 0 9 45 ((PC.reg [⟨.v 0, .mv true (.c (.v (.bool false))), none⟩]).seq ((PC.reg [⟨.t 10, .build (.agg [.int .i64 0, .int .i64 0, .int .i64 0, .arr
    .u8 32 [0, 0, 0, 0, 0, 0, 0, 0, 0, 0, 0, 0, 0, 0, 0, 0, 0, 0, 0, 0, 0, 0, 0, 0, 0, 0, 0, 0, 0, 0, 0, 0]]) [], none⟩, ⟨.t 11, .call 21 [.c (.v (.int
    .i64 2)), .c (.v (.int .i64 1)), .t 10], none⟩, ⟨.t 9, .mv false (.t 11), none⟩, ⟨.t 12, .ext (.t 9) 0, none⟩, ⟨.t 13, .ext (.t 9) 1, none⟩, ⟨.v 1,
    .mv true (.t 12), none⟩, ⟨.v 2, .mv true (.t 13), none⟩]).seq ((PC.reg [⟨.t 15, .mv false (.v 1), none⟩, ⟨.t 16, .call 19 [.c (.v (.int .i64 2)), .t
    15], none⟩, ⟨.t 14, .mv false (.t 16), none⟩, ⟨.t 17, .ext (.t 14) 0, none⟩, ⟨.t 18, .ext (.t 14) 1, none⟩, ⟨.t 19, .ext (.t 14) 2, none⟩, ⟨.v 4,
    .alloc (.agg [.int .i64 0, .int .i64 0, .int .i64 0, .arr .u8 32 [0, 0, 0, 0, 0, 0, 0, 0, 0, 0, 0, 0, 0, 0, 0, 0, 0, 0, 0, 0, 0, 0, 0, 0, 0, 0, 0, 0,
    0, 0, 0, 0]]), none⟩, ⟨.v 3, .mv true (.t 17), none⟩, ⟨.no, .store 35 (.v 4) (.t 18), none⟩, ⟨.v 5, .mv true (.t 19), none⟩]).seq ((PC.reg [⟨.t 21,
    .mv false (.v 1), none⟩, ⟨.t 22, .call 19 [.c (.v (.int .i64 3)), .t 21], none⟩, ⟨.t 20, .mv false (.t 22), none⟩, ⟨.t 23, .ext (.t 20) 0, none⟩, ⟨.t
    24, .ext (.t 20) 1, none⟩, ⟨.t 25, .ext (.t 20) 2, none⟩, ⟨.v 7, .alloc (.agg [.int .i64 0, .int .i64 0, .int .i64 0, .arr .u8 32 [0, 0, 0, 0, 0, 0,
    0, 0, 0, 0, 0, 0, 0, 0, 0, 0, 0, 0, 0, 0, 0, 0, 0, 0, 0, 0, 0, 0, 0, 0, 0, 0]]), none⟩, ⟨.v 6, .mv true (.t 23), none⟩, ⟨.no, .store 35 (.v 7) (.t
    24), none⟩, ⟨.v 8, .mv true (.t 25), none⟩]).seq ((PC.reg [⟨.t 26, .mv false (.v 2), none⟩, ⟨.t 27, .bin .eql (.t 26) (.c (.v (.int .i64 0))), none⟩,
    ⟨.t 28, .mv false (.t 27), none⟩, ⟨.t 29, .mv false (.v 1), some (.t 28, true)⟩, ⟨.t 30, .len (.t 29), some (.t 28, true)⟩, ⟨.t 31, .bin .eql (.t 30)
    (.c (.v (.int .i64 68))), some (.t 28, true)⟩, ⟨.t 32, .pick (.t 28) (.t 31) (.c (.v (.bool false))), none⟩, ⟨.t 33, .mv false (.t 32), none⟩, ⟨.t
    34, .mv false (.v 3), some (.t 33, true)⟩, ⟨.t 35, .bin .eql (.t 34) (.c (.v (.int .i64 1))), some (.t 33, true)⟩, ⟨.t 36, .pick (.t 33) (.t 35) (.c
    (.v (.bool false))), none⟩, ⟨.t 37, .mv false (.t 36), none⟩, ⟨.t 38, .mv false (.v 5), some (.t 37, true)⟩, ⟨.t 39, .bin .eql (.t 38) (.c (.v (.int
    .i64 0))), some (.t 37, true)⟩, ⟨.t 40, .pick (.t 37) (.t 39) (.c (.v (.bool false))), none⟩, ⟨.t 41, .mv false (.t 40), none⟩, ⟨.t 42, .mv false (.v
    8), some (.t 41, true)⟩, ⟨.t 43, .bin .eql (.t 42) (.c (.v (.int .i64 7))), some (.t 41, true)⟩, ⟨.t 44, .pick (.t 41) (.t 43) (.c (.v (.bool
    false))), none⟩, ⟨.v 0, .mv true (.t 44), none⟩]).seq PC.ret))))) [(.v 0, none)]
def pf5 : PF :=
  PF.mk 2 11 45 ((PC.reg [⟨.v 4, .mv true (.c (.v (.bool false))), none⟩]).seq (((PC.reg [⟨.t 11, .mv false (.v 1), none⟩, ⟨.t 12, .len (.t 11), none⟩,
    ⟨.t 13, .bin .gtr (.t 12) (.c (.v (.int .i64 300))), none⟩]).seq (PC.cond (.t 13) ((PC.reg [⟨.t 14, .call 18 [], none⟩, ⟨.v 4, .mv true (.t 14),
    none⟩]).seq PC.ret) PC.skip)).seq ((PC.reg [⟨.t 16, .mv false (.v 0), none⟩, ⟨.t 17, .mv false (.v 1), none⟩, ⟨.t 18, .call 19 [.t 16, .t 17], none⟩,
    ⟨.t 15, .mv false (.t 18), none⟩, ⟨.t 19, .ext (.t 15) 0, none⟩, ⟨.t 20, .ext (.t 15) 1, none⟩, ⟨.t 21, .ext (.t 15) 2, none⟩, ⟨.v 6, .alloc (.agg
    [.int .i64 0, .int .i64 0, .int .i64 0, .arr .u8 32 [0, 0, 0, 0, 0, 0, 0, 0, 0, 0, 0, 0, 0, 0, 0, 0, 0, 0, 0, 0, 0, 0, 0, 0, 0, 0, 0, 0, 0, 0, 0,
    0]]), none⟩, ⟨.v 5, .mv true (.t 19), none⟩, ⟨.no, .store 35 (.v 6) (.t 20), none⟩, ⟨.v 7, .mv true (.t 21), none⟩]).seq ((PC.reg [⟨.t 23, .mv false
    (.v 0), none⟩, ⟨.t 24, .mv false (.v 1), none⟩, ⟨.t 25, .call 20 [.t 23, .t 24], none⟩, ⟨.t 22, .mv false (.t 25), none⟩, ⟨.t 26, .ext (.t 22) 0,
    none⟩, ⟨.t 27, .ext (.t 22) 1, none⟩, ⟨.t 28, .ext (.t 22) 2, none⟩, ⟨.v 9, .alloc (.agg [.int .i64 0, .int .i64 0, .int .i64 0, .arr .u8 32 [0, 0,
    0, 0, 0, 0, 0, 0, 0, 0, 0, 0, 0, 0, 0, 0, 0, 0, 0, 0, 0, 0, 0, 0, 0, 0, 0, 0, 0, 0, 0, 0]]), none⟩, ⟨.v 8, .mv true (.t 26), none⟩, ⟨.no, .store 35
    (.v 9) (.t 27), none⟩, ⟨.v 10, .mv true (.t 28), none⟩]).seq ((PC.reg [⟨.t 29, .mv false (.v 5), none⟩, ⟨.t 30, .mv false (.v 8), none⟩, ⟨.t 31, .bin
    .eql (.t 29) (.t 30), none⟩, ⟨.t 32, .mv false (.t 31), none⟩, ⟨.t 33, .load 35 true (.v 6), some (.t 32, true)⟩, ⟨.t 34, .load 35 true (.v 9), some
    (.t 32, true)⟩, ⟨.t 35, .eqa false (.agg (.cons 0 1 false .int (.cons 1 1 false .int (.cons 2 1 false .int (.cons 3 32 true (.arr 32) .nil))))) (.t
    33) (.t 34), some (.t 32, true)⟩, ⟨.t 36, .pick (.t 32) (.t 35) (.c (.v (.bool false))), none⟩, ⟨.t 37, .mv false (.t 36), none⟩, ⟨.t 38, .mv false
    (.v 7), some (.t 37, true)⟩, ⟨.t 39, .mv false (.v 10), some (.t 37, true)⟩, ⟨.t 40, .bin .eql (.t 38) (.t 39), some (.t 37, true)⟩, ⟨.t 41, .pick
    (.t 37) (.t 40) (.c (.v (.bool false))), none⟩, ⟨.t 42, .mv false (.t 41), none⟩, ⟨.t 43, .call 18 [], some (.t 42, true)⟩, ⟨.t 44, .pick (.t 42) (.t
    43) (.c (.v (.bool false))), none⟩, ⟨.v 4, .mv true (.t 44), none⟩]).seq PC.ret))))) [(.v 4, none)]
def pf6 : PF :=
  PF.mk 3 13 107 ((PC.reg [⟨.v 5, .box (.v 2), none⟩, ⟨.v 6, .mv true (.c (.v (.bool false))), none⟩]).seq ((PC.reg [⟨.t 14, .mv false (.v 0), none⟩, ⟨.t
    15, .mv false (.v 1), none⟩, ⟨.t 16, .iadrG 2 35 (.v 5) (.c (.v (.int .i64 0))), none⟩, ⟨.t 17, .load 35 true (.t 16), none⟩, ⟨.t 18, .call 21 [.t
    14, .t 15, .t 17], none⟩, ⟨.t 13, .mv false (.t 18), none⟩, ⟨.t 19, .ext (.t 13) 0, none⟩, ⟨.t 20, .ext (.t 13) 1, none⟩, ⟨.v 7, .mv true (.t 19),
    none⟩, ⟨.v 8, .mv true (.t 20), none⟩]).seq ((PC.reg [⟨.t 21, .iadrG 2 35 (.v 5) (.c (.v (.int .i64 0))), none⟩, ⟨.t 22, .load 35 true (.t 21),
    none⟩, ⟨.t 23, .call 22 [.t 22], none⟩, ⟨.v 9, .mv true (.t 23), none⟩]).seq (((PC.regD 0 [⟨.t 24, .iadrG 2 35 (.v 5) (.c (.v (.int .i64 0))), none⟩,
    ⟨.t 25, .load 35 true (.t 24), none⟩, ⟨.t 26, .call 23 [.t 25], none⟩, ⟨.t 27, .bin .eql (.t 26) (.c (.v (.int .i64 0))), none⟩, ⟨.t 28, .mv false
    (.v 9), none⟩, ⟨.t 29, .binB .neq (.t 27) (.t 28), none⟩, ⟨.t 30, .mv false (.t 29), none⟩, ⟨.t 31, .iadrG 2 35 (.v 5) (.c (.v (.int .i64 0))), some
    (.t 30, false)⟩, ⟨.t 32, .load 35 true (.t 31), some (.t 30, false)⟩, ⟨.t 33, .iadrG 2 35 (.v 5) (.c (.v (.int .i64 1))), some (.t 30, false)⟩, ⟨.t
    34, .load 35 true (.t 33), some (.t 30, false)⟩, ⟨.t 35, .call 24 [.t 32, .t 34], some (.t 30, false)⟩, ⟨.t 36, .iadrG 2 35 (.v 5) (.c (.v (.int .i64
    0))), some (.t 30, false)⟩, ⟨.t 37, .load 35 true (.t 36), some (.t 30, false)⟩, ⟨.t 38, .iadrG 2 35 (.v 5) (.c (.v (.int .i64 1))), some (.t 30,
    false)⟩, ⟨.t 39, .load 35 true (.t 38), some (.t 30, false)⟩, ⟨.t 40, .call 25 [.t 37, .t 39], some (.t 30, false)⟩, ⟨.t 41, .binB .neq (.t 35) (.t
    40), some (.t 30, false)⟩, ⟨.t 42, .pick (.t 30) (.c (.v (.bool true))) (.t 41), none⟩] []).seq (PC.cond (.t 42) ((PC.reg [⟨.v 6, .mv true (.c (.v
    (.bool false))), none⟩]).seq PC.ret) PC.skip)).seq (((PC.reg [⟨.t 43, .mv false (.v 9), none⟩, ⟨.t 44, .un .not (.t 43), none⟩, ⟨.t 45, .mv false (.t
    44), none⟩, ⟨.t 46, .mv false (.v 0), some (.t 45, false)⟩, ⟨.t 47, .bin .lss (.t 46) (.c (.v (.int .i64 1))), some (.t 45, false)⟩, ⟨.t 48, .pick
    (.t 45) (.c (.v (.bool true))) (.t 47), none⟩, ⟨.t 49, .mv false (.t 48), none⟩, ⟨.t 50, .mv false (.v 0), some (.t 49, false)⟩, ⟨.t 51, .bin .gtr
    (.t 50) (.c (.v (.int .i64 21))), some (.t 49, false)⟩, ⟨.t 52, .pick (.t 49) (.c (.v (.bool true))) (.t 51), none⟩, ⟨.t 53, .mv false (.t 52),
    none⟩, ⟨.t 54, .mv false (.v 1), some (.t 53, false)⟩, ⟨.t 55, .bin .lss (.t 54) (.c (.v (.int .i64 1))), some (.t 53, false)⟩, ⟨.t 56, .pick (.t 53)
    (.c (.v (.bool true))) (.t 55), none⟩, ⟨.t 57, .mv false (.t 56), none⟩, ⟨.t 58, .mv false (.v 1), some (.t 57, false)⟩, ⟨.t 59, .bin .gtr (.t 58)
    (.c (.v (.int .i64 1099511627776))), some (.t 57, false)⟩, ⟨.t 60, .pick (.t 57) (.c (.v (.bool true))) (.t 59), none⟩]).seq (PC.cond (.t 60)
    ((PC.reg [⟨.t 61, .mv false (.v 8), none⟩, ⟨.t 62, .bin .eql (.t 61) (.c (.v (.int .i64 1))), none⟩, ⟨.t 63, .mv false (.t 62), none⟩, ⟨.t 64, .mv
    false (.v 7), some (.t 63, true)⟩, ⟨.t 65, .len (.t 64), some (.t 63, true)⟩, ⟨.t 66, .bin .eql (.t 65) (.c (.v (.int .i64 0))), some (.t 63, true)⟩,
    ⟨.t 67, .pick (.t 63) (.t 66) (.c (.v (.bool false))), none⟩, ⟨.t 68, .mv false (.t 67), none⟩, ⟨.t 69, .call 18 [], some (.t 68, true)⟩, ⟨.t 70,
    .pick (.t 68) (.t 69) (.c (.v (.bool false))), none⟩, ⟨.v 6, .mv true (.t 70), none⟩]).seq PC.ret) PC.skip)).seq ((PC.reg [⟨.t 72, .mv false (.v 0),
    none⟩, ⟨.t 73, .mv false (.v 7), none⟩, ⟨.t 74, .call 19 [.t 72, .t 73], none⟩, ⟨.t 71, .mv false (.t 74), none⟩, ⟨.t 75, .ext (.t 71) 0, none⟩, ⟨.t
    76, .ext (.t 71) 1, none⟩, ⟨.t 77, .ext (.t 71) 2, none⟩, ⟨.v 11, .alloc (.agg [.int .i64 0, .int .i64 0, .int .i64 0, .arr .u8 32 [0, 0, 0, 0, 0, 0,
    0, 0, 0, 0, 0, 0, 0, 0, 0, 0, 0, 0, 0, 0, 0, 0, 0, 0, 0, 0, 0, 0, 0, 0, 0, 0]]), none⟩, ⟨.v 10, .mv true (.t 75), none⟩, ⟨.no, .store 35 (.v 11) (.t
    76), none⟩, ⟨.v 12, .mv true (.t 77), none⟩]).seq ((PC.reg [⟨.t 78, .mv false (.v 8), none⟩, ⟨.t 79, .bin .eql (.t 78) (.c (.v (.int .i64 0))),
    none⟩, ⟨.t 80, .mv false (.t 79), none⟩, ⟨.t 81, .mv false (.v 7), some (.t 80, true)⟩, ⟨.t 82, .mv false (.v 0), some (.t 80, true)⟩, ⟨.t 83, .mv
    false (.v 1), some (.t 80, true)⟩, ⟨.t 84, .iadrG 2 35 (.v 5) (.c (.v (.int .i64 0))), some (.t 80, true)⟩, ⟨.t 85, .load 35 true (.t 84), some (.t
    80, true)⟩, ⟨.t 86, .call 27 [.t 82, .t 83, .t 85], some (.t 80, true)⟩, ⟨.t 87, .call 26 [.t 81, .t 86], some (.t 80, true)⟩, ⟨.t 88, .pick (.t 80)
    (.t 87) (.c (.v (.bool false))), none⟩, ⟨.t 89, .mv false (.t 88), none⟩, ⟨.t 90, .mv false (.v 12), some (.t 89, true)⟩, ⟨.t 91, .bin .eql (.t 90)
    (.c (.v (.int .i64 0))), some (.t 89, true)⟩, ⟨.t 92, .pick (.t 89) (.t 91) (.c (.v (.bool false))), none⟩, ⟨.t 93, .mv false (.t 92), none⟩, ⟨.t 94,
    .mv false (.v 10), some (.t 93, true)⟩, ⟨.t 95, .mv false (.v 1), some (.t 93, true)⟩, ⟨.t 96, .bin .eql (.t 94) (.t 95), some (.t 93, true)⟩, ⟨.t
    97, .pick (.t 93) (.t 96) (.c (.v (.bool false))), none⟩, ⟨.t 98, .mv false (.t 97), none⟩, ⟨.t 99, .load 35 true (.v 11), some (.t 98, true)⟩, ⟨.t
    100, .iadrG 2 35 (.v 5) (.c (.v (.int .i64 0))), some (.t 98, true)⟩, ⟨.t 101, .load 35 true (.t 100), some (.t 98, true)⟩, ⟨.t 102, .eqa false (.agg
    (.cons 0 1 false .int (.cons 1 1 false .int (.cons 2 1 false .int (.cons 3 32 true (.arr 32) .nil))))) (.t 99) (.t 101), some (.t 98, true)⟩, ⟨.t
    103, .pick (.t 98) (.t 102) (.c (.v (.bool false))), none⟩, ⟨.t 104, .mv false (.t 103), none⟩, ⟨.t 105, .call 18 [], some (.t 104, true)⟩, ⟨.t 106,
    .pick (.t 104) (.t 105) (.c (.v (.bool false))), none⟩, ⟨.v 6, .mv true (.t 106), none⟩]).seq PC.ret))))))) [(.v 6, none)]
attribute [local irreducible] W Wops WopsD WL Wop WopD
variable {E : Env} {C : Abs.Spec} {l : List (Nat × Spec1)} {G : List (Nat × V)} {Q : R → List (Nat × V) → Prop}
set_option maxHeartbeats 1000000
def SAx : Spec1
  | [], G, Q => ∀ G', Q (.v (.bool true)) G'
  | _, _, _ => False
theorem SAx_eq {G : List (Nat × V)} {Q : R → List (Nat × V) → Prop} : SAx [] G Q = ∀ G', Q (.v (.bool true)) G' := rfl
theorem getBlob_of {kt : List Int} {s : SealS} {i ve : Int} (hw : s.wf) (hm : s.May) (hi : 1 ≤ i ∧ i ≤ 21) (hv : 1 ≤ ve ∧ ve ≤ 1099511627776) : getBlob kt i (s.blob kt i ve) = (ve, s, 0) := by
  have e := rdBlob_of (r := []) (ta := tagH kt i 3 (s.said ve)) hw hm (ve := ve) (by omega) (tagH_len _ _ _ _)
  rw [List.append_nil] at e
  unfold getBlob SealS.blob
  rw [e]
  simp only
  rw [if_neg (by rintro (h | h | h | h); exact absurd h (by decide); exact h rfl; omega; exact h hm), if_neg (by rintro (h | h); exact h hi; exact h rfl)]
theorem getBlob_other {kt : List Int} {s : SealS} {i j ve : Int} (hw : s.wf) (hm : s.May) (hv : 1 ≤ ve ∧ ve ≤ 1099511627776) (hne : tagH kt i 3 (s.said ve) ≠ tagH kt j 3 (s.said ve)) : getBlob kt j (s.blob kt i ve) = (0, .zero, 7) := by
  have e := rdBlob_of (r := []) (ta := tagH kt i 3 (s.said ve)) hw hm (ve := ve) (by omega) (tagH_len _ _ _ _)
  rw [List.append_nil] at e
  unfold getBlob SealS.blob
  rw [e]
  simp only
  rw [if_neg (by rintro (h | h | h | h); exact absurd h (by decide); exact h rfl; omega; exact h hm), if_pos (.inr hne)]
theorem said0 : SealS.zero.said 1 = [1] ++ [0] ++ [0] ++ [0] ++ zero32 := by
  unfold SealS.said SealS.zero
  simp only
  rw [num_small (n := Int.toNat 1) (by decide), num_small (n := Int.toNat 0) (by decide)]; rfl
theorem awake13_ne : tagH K256 2 3 ([1] ++ [0] ++ [0] ++ [0] ++ zero32) ≠ tagH K256 3 3 ([1] ++ [0] ++ [0] ++ [0] ++ zero32) := by decide +kernel
theorem zero_v : SealS.zero.v = .agg [.int .i64 0, .int .i64 0, .int .i64 0, .arr .u8 32 [0, 0, 0, 0, 0, 0, 0, 0, 0, 0, 0, 0, 0, 0, 0, 0, 0, 0, 0, 0, 0, 0, 0, 0, 0, 0, 0, 0, 0, 0, 0, 0]] := rfl
theorem zero_mk : SealS.zero = ⟨0, 0, 0, [0, 0, 0, 0, 0, 0, 0, 0, 0, 0, 0, 0, 0, 0, 0, 0, 0, 0, 0, 0, 0, 0, 0, 0, 0, 0, 0, 0, 0, 0, 0, 0]⟩ := rfl
theorem walk18 (h21 : Abs.look l 21 = some (SBp K256)) (h19 : Abs.look l 19 = some (SBg K256)) (h : ∀ G', Q (.v (.bool true)) G') : Wf E (specOf l) pf18 [] G Q := by
  have hm : SealS.zero.May := by decide
  have hp : putV K256 2 1 ⟨0, 0, 0, [0, 0, 0, 0, 0, 0, 0, 0, 0, 0, 0, 0, 0, 0, 0, 0, 0, 0, 0, 0, 0, 0, 0, 0, 0, 0, 0, 0, 0, 0, 0, 0]⟩ = .tup [.sli .u8 (SealS.zero.blob K256 2 1), .int .i64 0] := by
    unfold putV; rw [if_pos ⟨hm, by decide, by decide⟩]; rfl
  have bl : (SealS.zero.blob K256 2 1).length = 68 := by
    unfold SealS.blob; rw [List.length_append, tagH_len, said0]; rfl
  have bb : Byt (SealS.zero.blob K256 2 1) := byt_app (SealS.said_ok SealS.zero_wf hm (by decide)).1 (byt_tagH _ _ _ _)
  have g2 : getBlob K256 2 (SealS.zero.blob K256 2 1) = (1, SealS.zero, 0) := getBlob_of SealS.zero_wf hm (by decide) (by decide)
  have g3 : getBlob K256 3 (SealS.zero.blob K256 2 1) = (0, SealS.zero, 7) := getBlob_other SealS.zero_wf hm (by decide) (by rw [said0]; exact awake13_ne)
  have hgR2 : getR (1, SealS.zero, 0) = .tup [.int .i64 1, .agg [.int .i64 0, .int .i64 0, .int .i64 0, .arr .u8 32 [0, 0, 0, 0, 0, 0, 0, 0, 0, 0, 0, 0, 0, 0, 0, 0, 0, 0, 0, 0, 0, 0, 0, 0, 0, 0, 0, 0, 0, 0, 0, 0]], .int .i64 0] := rfl
  have hgR3 : getR (0, SealS.zero, 7) = .tup [.int .i64 0, .agg [.int .i64 0, .int .i64 0, .int .i64 0, .arr .u8 32 [0, 0, 0, 0, 0, 0, 0, 0, 0, 0, 0, 0, 0, 0, 0, 0, 0, 0, 0, 0, 0, 0, 0, 0, 0, 0, 0, 0, 0, 0, 0, 0]], .int .i64 7] := rfl
  generalize SealS.zero.blob K256 2 1 = bz at *
  simp (maxSteps := 1000000) (implicitDefEqProofs := false) only [pf18, h21, SBp_eq, hp, h19, SBg_eq, go_sem, ↓reduceIte, decide_eq_true_eq, decide_eq_false_iff_not, ge_iff_le, gt_iff_lt, Int.not_le, Int.not_lt, Bool.not_eq_true', Bool.not_eq_false', Bool.and_eq_true, Bool.and_eq_false_iff]
  refine ⟨SealS.zero_wf, bz, ⟨rfl, bb, by omega⟩, fun id hid => ?_⟩
  rw [g2, hgR2]
  simp (maxSteps := 1000000) (implicitDefEqProofs := false) only [h19, SBg_eq, go_sem, ↓reduceIte, decide_eq_true_eq, decide_eq_false_iff_not, ge_iff_le, gt_iff_lt, Int.not_le, Int.not_lt, Bool.not_eq_true', Bool.not_eq_false', Bool.and_eq_true, Bool.and_eq_false_iff]
  refine ⟨bz, ⟨rfl, bb, by omega⟩, fun id2 hid2 => ?_⟩
  rw [g3, hgR3]
  have bl' : (bz.length : Int) = 68 := by omega
  simp (maxSteps := 1000000) (implicitDefEqProofs := false) only [bl', go_sem, ↓reduceIte, decide_eq_true_eq, decide_eq_false_iff_not, ge_iff_le, gt_iff_lt, Int.not_le, Int.not_lt, Bool.not_eq_true', Bool.not_eq_false', Bool.and_eq_true, Bool.and_eq_false_iff]
  exact h _
theorem walk5 {i : Int} {b : List Int} (h18 : Abs.look l 18 = some SAx) (h19 : Abs.look l 19 = some (SBg K256)) (h20 : Abs.look l 20 = some (SBh K256)) (hb : Byt b) (h : ∀ G', Q (.v (.bool true)) G') : Wf E (specOf l) pf5 [.int .i64 i, .sli .u8 b] G Q := by
  by_cases hl : 300 < b.length
  · have hl' : (300 : Int) < b.length := by omega
    simp (maxSteps := 1000000) (implicitDefEqProofs := false) only [pf5, hl', h18, SAx_eq, go_sem, ↓reduceIte, decide_eq_true_eq, decide_eq_false_iff_not, ge_iff_le, gt_iff_lt, Int.not_le, Int.not_lt, Bool.not_eq_true', Bool.not_eq_false', Bool.and_eq_true, Bool.and_eq_false_iff]
    intro G'
    try simp (maxSteps := 1000000) (implicitDefEqProofs := false) only [go_sem, ↓reduceIte, decide_eq_true_eq, decide_eq_false_iff_not, ge_iff_le, gt_iff_lt, Int.not_le, Int.not_lt, Bool.not_eq_true', Bool.not_eq_false', Bool.and_eq_true, Bool.and_eq_false_iff]
    exact h _
  · have hl' : ¬ (300 : Int) < b.length := by omega
    simp (maxSteps := 1000000) (implicitDefEqProofs := false) only [pf5, hl', h18, SAx_eq, h19, SBg_eq, h20, SBh_eq, go_sem, ↓reduceIte, decide_eq_true_eq, decide_eq_false_iff_not, ge_iff_le, gt_iff_lt, Int.not_le, Int.not_lt, Bool.not_eq_true', Bool.not_eq_false', Bool.and_eq_true, Bool.and_eq_false_iff]
    refine ⟨b, ⟨rfl, hb, by omega⟩, fun id hid => ?_⟩
    rcases hg : getBlob K256 i b with ⟨v, ⟨s1, s2, s3, s4⟩, e⟩
    have hgR : getR (v, ⟨s1, s2, s3, s4⟩, e) = .tup [.int .i64 v, .agg [.int .i64 s1, .int .i64 s2, .int .i64 s3, .arr .u8 32 s4], .int .i64 e] := rfl
    rw [hgR]
    simp (maxSteps := 1000000) (implicitDefEqProofs := false) only [h20, SBh_eq, h18, SAx_eq, hg, hgR, go_sem, ↓reduceIte, decide_eq_true_eq, decide_eq_false_iff_not, ge_iff_le, gt_iff_lt, Int.not_le, Int.not_lt, Bool.not_eq_true', Bool.not_eq_false', Bool.and_eq_true, Bool.and_eq_false_iff]
    refine ⟨⟨hb, by omega⟩, ?_⟩
    try simp (maxSteps := 1000000) (implicitDefEqProofs := false) only [go_sem, ↓reduceIte, decide_eq_true_eq, decide_eq_false_iff_not, ge_iff_le, gt_iff_lt, Int.not_le, Int.not_lt, Bool.not_eq_true', Bool.not_eq_false', Bool.and_eq_true, Bool.and_eq_false_iff]
    intro G'
    try simp (maxSteps := 1000000) (implicitDefEqProofs := false) only [go_sem, ↓reduceIte, decide_eq_true_eq, decide_eq_false_iff_not, ge_iff_le, gt_iff_lt, Int.not_le, Int.not_lt, Bool.not_eq_true', Bool.not_eq_false', Bool.and_eq_true, Bool.and_eq_false_iff]
    exact h _
theorem walk6 {a1 a2 a3 : Int} {a4 : List Int} {b1 b2 b3 : Int} {b4 : List Int} {i ve : Int} (h18 : Abs.look l 18 = some SAx) (h21 : Abs.look l 21 = some (SBp K256)) (h22 : Abs.look l 22 = some SBm) (h23 : Abs.look l 23 = some SBc)
    (h24 : Abs.look l 24 = some SBq) (h25 : Abs.look l 25 = some SBq) (h19 : Abs.look l 19 = some (SBg K256)) (h26 : Abs.look l 26 = some SSm) (h27 : Abs.look l 27 = some (SBr K256))
    (hw : (⟨a1, a2, a3, a4⟩ : SealS).wf) (h : ∀ G', Q (.v (.bool true)) G') : Wf E (specOf l) pf6 [.int .i64 i, .int .i64 ve, .agg [.agg [.int .i64 a1, .int .i64 a2, .int .i64 a3, .arr .u8 32 a4], .agg [.int .i64 b1, .int .i64 b2, .int .i64 b3, .arr .u8 32 b4]]] G Q := by
  have hsz : ∀ x ∈ [.agg [.int .i64 a1, .int .i64 a2, .int .i64 a3, .arr .u8 32 a4], .agg [.int .i64 b1, .int .i64 b2, .int .i64 b3, .arr .u8 32 b4]], V.size x = 35 := by
    intro x hx
    simp only [List.mem_cons, List.not_mem_nil, or_false] at hx
    rcases hx with rfl | rfl <;> rfl
  have hsT := eq_true hsz
  by_cases hall : (⟨a1, a2, a3, a4⟩ : SealS).May ∧ (1 ≤ i ∧ i ≤ 21) ∧ 1 ≤ ve ∧ ve ≤ 1099511627776
  · obtain ⟨hm, hi, hv⟩ := hall
    have hmay : (⟨a1, a2, a3, a4⟩ : SealS).may = true := decide_eq_true hm
    have hp : putV K256 i ve (⟨a1, a2, a3, a4⟩ : SealS) = .tup [.sli .u8 ((⟨a1, a2, a3, a4⟩ : SealS).blob K256 i ve), .int .i64 0] := by unfold putV; rw [if_pos ⟨hm, hi, hv⟩]
    obtain ⟨s1, s2⟩ := SealS.said_ok (ve := ve) hw hm (by omega)
    have bl : ((⟨a1, a2, a3, a4⟩ : SealS).blob K256 i ve).length ≤ 104 := by unfold SealS.blob; rw [List.length_append, tagH_len]; omega
    have bb : Byt ((⟨a1, a2, a3, a4⟩ : SealS).blob K256 i ve) := byt_app s1 (byt_tagH _ _ _ _)
    have g2 : getBlob K256 i ((⟨a1, a2, a3, a4⟩ : SealS).blob K256 i ve) = (ve, (⟨a1, a2, a3, a4⟩ : SealS), 0) := getBlob_of hw hm hi hv
    have hgR : getR (ve, (⟨a1, a2, a3, a4⟩ : SealS), 0) = .tup [.int .i64 ve, .agg [.int .i64 a1, .int .i64 a2, .int .i64 a3, .arr .u8 32 a4], .int .i64 0] := rfl
    have i1 : ¬ i < 1 := by omega
    have i2 : ¬ 21 < i := by omega
    have v1 : ¬ ve < 1 := by omega
    have v2 : ¬ 1099511627776 < ve := by omega
    have i1' : (1 ≤ i) = True := eq_true (by omega)
    have i2' : (i ≤ 21) = True := eq_true (by omega)
    have v1' : (1 ≤ ve) = True := eq_true (by omega)
    have v2' : (ve ≤ 1099511627776) = True := eq_true (by omega)
    generalize hbz : (⟨a1, a2, a3, a4⟩ : SealS).blob K256 i ve = bz at *
    simp (maxSteps := 1000000) (implicitDefEqProofs := false) only [pf6, hsT, h18, SAx_eq, h21, SBp_eq, hp, h22, SBm_eq, hmay, h23, SBc_eq, h24, SBq_eq, h25, i1, i2, v1, v2, i1', i2', v1', v2', h19, SBg_eq, h26, SSm_eq, h27, SBr_eq, hbz, go_sem, ↓reduceIte, decide_eq_true_eq, decide_eq_false_iff_not, ge_iff_le, gt_iff_lt, Int.not_le, Int.not_lt, Bool.not_eq_true', Bool.not_eq_false', Bool.and_eq_true, Bool.and_eq_false_iff]
    refine ⟨hw, hw, hw, bz, ⟨rfl, bb, by omega⟩, fun id hid => ?_⟩
    rw [g2, hgR]
    simp (maxSteps := 1000000) (implicitDefEqProofs := false) only [h26, SSm_eq, h27, SBr_eq, hbz, h18, SAx_eq, go_sem, ↓reduceIte, decide_eq_true_eq, decide_eq_false_iff_not, ge_iff_le, gt_iff_lt, Int.not_le, Int.not_lt, Bool.not_eq_true', Bool.not_eq_false', Bool.and_eq_true, Bool.and_eq_false_iff]
    exact ⟨hsz, ⟨hw, hm, by omega, by omega⟩, bz, bz, ⟨rfl, rfl, by omega, by omega⟩, fun _ => ⟨hsz, h⟩, fun e => absurd rfl e⟩
  · have hp : putV K256 i ve (⟨a1, a2, a3, a4⟩ : SealS) = .tup [.nils, .int .i64 1] := by unfold putV; rw [if_neg hall]
    cases hq : (⟨a1, a2, a3, a4⟩ : SealS).may with
    | false =>
      simp (maxSteps := 1000000) (implicitDefEqProofs := false) only [pf6, hsT, h18, SAx_eq, h21, SBp_eq, hp, h22, SBm_eq, hq, h23, SBc_eq, h24, SBq_eq, h25, go_sem, ↓reduceIte, decide_eq_true_eq, decide_eq_false_iff_not, ge_iff_le, gt_iff_lt, Int.not_le, Int.not_lt, Bool.not_eq_true', Bool.not_eq_false', Bool.and_eq_true, Bool.and_eq_false_iff]
      exact ⟨hw, hw, hw, h⟩
    | true =>
      have hm : (⟨a1, a2, a3, a4⟩ : SealS).May := of_decide_eq_true hq
      simp (maxSteps := 1000000) (implicitDefEqProofs := false) only [pf6, hsT, h18, SAx_eq, h21, SBp_eq, hp, h22, SBm_eq, hq, h23, SBc_eq, h24, SBq_eq, h25, go_sem, ↓reduceIte, decide_eq_true_eq, decide_eq_false_iff_not, ge_iff_le, gt_iff_lt, Int.not_le, Int.not_lt, Bool.not_eq_true', Bool.not_eq_false', Bool.and_eq_true, Bool.and_eq_false_iff]
      exact ⟨hw, hw, hw, fun _ => h, fun c1 => ⟨fun _ => h, fun c2 => ⟨fun _ => h, fun c3 => ⟨fun _ => h, fun c4 => absurd ⟨hm, ⟨c1, c2⟩, c3, c4⟩ hall⟩⟩⟩⟩
end Go.Proofs.YtpedaeaikbmbnaaDoor.Sha
