/- The counter: its laws. -/
import Derived.Test.YtcicoepkmiahbaaCnt1
namespace Go.Proofs.Ytcicoepkmiahbaa.Cnt
open Go Go.Abs
set_option linter.unusedSimpArgs false
set_option linter.unusedVariables false
set_option maxRecDepth 100000
def lp6_0 : PC :=
  ((PC.reg [⟨.t 94, .mv false (.v 16), none⟩, ⟨.t 95, .mv false (.v 2), none⟩, ⟨.t 96, .conv .i64 (.t 95), none⟩, ⟨.t 97, .bin .lss (.t 94) (.t 96),
    none⟩]).seq (PC.cond (.t 97) PC.skip (PC.exit 2))).seq ((PC.block 3 (PC.reg [⟨.t 100, .mv false (.v 7), none⟩, ⟨.t 101, .call 28 [.t 100],
    none⟩])).seq (PC.reg [⟨.t 98, .mv false (.v 16), none⟩, ⟨.t 99, .bin .add (.t 98) (.c (.v (.int .i64 1))), none⟩, ⟨.v 16, .mv true (.t 99), none⟩]))
def lp6_1 : PC :=
  ((PC.reg [⟨.t 44, .mv false (.v 10), none⟩, ⟨.t 45, .mv false (.v 1), none⟩, ⟨.t 46, .conv .i64 (.t 45), none⟩, ⟨.t 47, .bin .lss (.t 44) (.t 46),
    none⟩]).seq (PC.cond (.t 47) PC.skip (PC.exit 0))).seq ((PC.block 1 ((PC.reg [⟨.t 51, .mv false (.v 7), none⟩, ⟨.t 52, .call 28 [.t 51], none⟩, ⟨.t
    50, .mv false (.t 52), none⟩, ⟨.t 53, .ext (.t 50) 0, none⟩, ⟨.t 54, .ext (.t 50) 1, none⟩, ⟨.v 11, .mv true (.t 53), none⟩, ⟨.v 12, .mv true (.t
    54), none⟩]).seq ((PC.reg [⟨.t 56, .mv false (.v 9), none⟩, ⟨.t 57, .call 29 [.t 56], none⟩, ⟨.t 55, .mv false (.t 57), none⟩, ⟨.t 58, .ext (.t 55)
    0, none⟩, ⟨.t 59, .ext (.t 55) 1, none⟩, ⟨.v 13, .mv true (.t 58), none⟩, ⟨.v 14, .mv true (.t 59), none⟩]).seq (((PC.reg [⟨.t 60, .mv false (.v 12),
    none⟩, ⟨.t 61, .mv false (.v 14), none⟩, ⟨.t 62, .bin .neq (.t 60) (.t 61), none⟩, ⟨.t 63, .mv false (.t 62), none⟩, ⟨.t 64, .mv false (.v 14), some
    (.t 63, false)⟩, ⟨.t 65, .bin .eql (.t 64) (.c (.v (.int .i64 0))), some (.t 63, false)⟩, ⟨.t 66, .mv false (.t 65), some (.t 63, false)⟩, ⟨.t 67,
    .mv false (.v 11), some (.t 66, true)⟩, ⟨.t 68, .mv false (.v 13), some (.t 66, true)⟩, ⟨.t 69, .bin .neq (.t 67) (.t 68), some (.t 66, true)⟩, ⟨.t
    70, .mv false (.t 69), some (.t 66, true)⟩, ⟨.t 71, .mv false (.v 11), some (.t 70, false)⟩, ⟨.t 72, .mv false (.v 9), some (.t 70, false)⟩, ⟨.t 73,
    .bin .leq (.t 71) (.t 72), some (.t 70, false)⟩, ⟨.t 74, .pick (.t 70) (.c (.v (.bool true))) (.t 73), some (.t 66, true)⟩, ⟨.t 75, .pick (.t 66) (.t
    74) (.c (.v (.bool false))), some (.t 63, false)⟩, ⟨.t 76, .pick (.t 63) (.c (.v (.bool true))) (.t 75), none⟩, ⟨.t 77, .mv false (.t 76), none⟩, ⟨.t
    78, .mv false (.v 14), some (.t 77, false)⟩, ⟨.t 79, .bin .neq (.t 78) (.c (.v (.int .i64 0))), some (.t 77, false)⟩, ⟨.t 80, .mv false (.t 79), some
    (.t 77, false)⟩, ⟨.t 81, .mv false (.v 11), some (.t 80, true)⟩, ⟨.t 82, .bin .neq (.t 81) (.c (.v (.int .i64 0))), some (.t 80, true)⟩, ⟨.t 83,
    .pick (.t 80) (.t 82) (.c (.v (.bool false))), some (.t 77, false)⟩, ⟨.t 84, .pick (.t 77) (.c (.v (.bool true))) (.t 83), none⟩, ⟨.t 85, .mv false
    (.t 84), none⟩, ⟨.t 86, .mv false (.v 7), some (.t 85, false)⟩, ⟨.t 87, .call 30 [.t 86], some (.t 85, false)⟩, ⟨.t 88, .mv false (.v 13), some (.t
    85, false)⟩, ⟨.t 89, .bin .neq (.t 87) (.t 88), some (.t 85, false)⟩, ⟨.t 90, .pick (.t 85) (.c (.v (.bool true))) (.t 89), none⟩]).seq (PC.cond (.t
    90) ((PC.reg [⟨.v 6, .mv true (.c (.v (.bool false))), none⟩]).seq PC.ret) PC.skip)).seq (PC.reg [⟨.t 91, .mv true (.v 13), none⟩, ⟨.v 9, .mv true
    (.t 91), none⟩]))))).seq (PC.reg [⟨.t 48, .mv false (.v 10), none⟩, ⟨.t 49, .bin .add (.t 48) (.c (.v (.int .i64 1))), none⟩, ⟨.v 10, .mv true (.t
    49), none⟩]))
def pf6 : PF :=
  PF.mk 3 17 119 ((PC.reg [⟨.v 6, .mv true (.c (.v (.bool false))), none⟩]).seq ((PC.reg [⟨.t 18, .mv false (.v 0), none⟩, ⟨.t 19, .call 26 [.t 18],
    none⟩, ⟨.t 17, .mv false (.t 19), none⟩, ⟨.t 20, .ext (.t 17) 0, none⟩, ⟨.t 21, .ext (.t 17) 1, none⟩, ⟨.v 7, .mv true (.t 20), none⟩, ⟨.v 8, .mv
    true (.t 21), none⟩]).seq (((PC.reg [⟨.t 22, .mv false (.v 0), none⟩, ⟨.t 23, .bin .lss (.t 22) (.c (.v (.int .i64 0))), none⟩, ⟨.t 24, .mv false (.t
    23), none⟩, ⟨.t 25, .mv false (.v 0), some (.t 24, false)⟩, ⟨.t 26, .bin .gtr (.t 25) (.c (.v (.int .i64 1099511627776))), some (.t 24, false)⟩, ⟨.t
    27, .pick (.t 24) (.c (.v (.bool true))) (.t 26), none⟩]).seq (PC.cond (.t 27) ((PC.reg [⟨.t 28, .mv false (.v 8), none⟩, ⟨.t 29, .bin .eql (.t 28)
    (.c (.v (.int .i64 1))), none⟩, ⟨.t 30, .mv false (.t 29), none⟩, ⟨.t 31, .mv false (.v 7), some (.t 30, true)⟩, ⟨.t 32, .binP .eql (.t 31) (.c (.v
    .nilp)), some (.t 30, true)⟩, ⟨.t 33, .pick (.t 30) (.t 32) (.c (.v (.bool false))), none⟩, ⟨.t 34, .mv false (.t 33), none⟩, ⟨.t 35, .call 27 [],
    some (.t 34, true)⟩, ⟨.t 36, .pick (.t 34) (.t 35) (.c (.v (.bool false))), none⟩, ⟨.v 6, .mv true (.t 36), none⟩]).seq PC.ret) PC.skip)).seq
    (((PC.reg [⟨.t 37, .mv false (.v 8), none⟩, ⟨.t 38, .bin .neq (.t 37) (.c (.v (.int .i64 0))), none⟩, ⟨.t 39, .mv false (.t 38), none⟩, ⟨.t 40, .mv
    false (.v 7), some (.t 39, false)⟩, ⟨.t 41, .binP .eql (.t 40) (.c (.v .nilp)), some (.t 39, false)⟩, ⟨.t 42, .pick (.t 39) (.c (.v (.bool true)))
    (.t 41), none⟩]).seq (PC.cond (.t 42) ((PC.reg [⟨.v 6, .mv true (.c (.v (.bool false))), none⟩]).seq PC.ret) PC.skip)).seq ((PC.reg [⟨.t 43, .mv true
    (.v 0), none⟩, ⟨.v 9, .mv true (.t 43), none⟩]).seq (((PC.reg [⟨.v 10, .mv true (.c (.v (.int .i64 0))), none⟩]).seq (PC.block 0 (PC.loop [1, 2, 7,
    9, 10] lp6_1))).seq ((PC.reg [⟨.t 92, .mv false (.v 7), none⟩, ⟨.t 93, .call 31 [.t 92], none⟩, ⟨.v 15, .mv true (.t 93), none⟩]).seq (((PC.reg [⟨.v
    16, .mv true (.c (.v (.int .i64 0))), none⟩]).seq (PC.block 2 (PC.loop [2, 7, 9, 15, 16] lp6_0))).seq ((PC.reg [⟨.t 102, .mv false (.v 15), none⟩,
    ⟨.t 103, .binP .neq (.t 102) (.c (.v .nilp)), none⟩, ⟨.t 104, .mv false (.t 103), none⟩, ⟨.t 105, .mv false (.v 15), some (.t 104, true)⟩, ⟨.t 106,
    .call 30 [.t 105], some (.t 104, true)⟩, ⟨.t 107, .mv false (.v 9), some (.t 104, true)⟩, ⟨.t 108, .bin .eql (.t 106) (.t 107), some (.t 104, true)⟩,
    ⟨.t 109, .pick (.t 104) (.t 108) (.c (.v (.bool false))), none⟩, ⟨.t 110, .mv false (.t 109), none⟩, ⟨.t 111, .mv false (.v 7), some (.t 110, true)⟩,
    ⟨.t 112, .call 30 [.t 111], some (.t 110, true)⟩, ⟨.t 113, .mv false (.v 9), some (.t 110, true)⟩, ⟨.t 114, .bin .geq (.t 112) (.t 113), some (.t
    110, true)⟩, ⟨.t 115, .pick (.t 110) (.t 114) (.c (.v (.bool false))), none⟩, ⟨.t 116, .mv false (.t 115), none⟩, ⟨.t 117, .call 27 [], some (.t 116,
    true)⟩, ⟨.t 118, .pick (.t 116) (.t 117) (.c (.v (.bool false))), none⟩, ⟨.v 6, .mv true (.t 118), none⟩]).seq PC.ret))))))))) [(.v 6, none)]
def lp7_0 : PC :=
  ((PC.reg [⟨.t 18, .mv false (.v 5), none⟩, ⟨.t 19, .mv false (.v 0), none⟩, ⟨.t 20, .bin .rem (.t 19) (.c (.v (.int .u8 4))), none⟩, ⟨.t 21, .conv .i64
    (.t 20), none⟩, ⟨.t 22, .bin .lss (.t 18) (.t 21), none⟩]).seq (PC.cond (.t 22) PC.skip (PC.exit 2))).seq ((PC.block 3 ((PC.reg [⟨.t 26, .mv false
    (.v 4), none⟩, ⟨.t 27, .call 28 [.t 26], none⟩, ⟨.t 25, .mv false (.t 27), none⟩, ⟨.t 28, .ext (.t 25) 0, none⟩, ⟨.t 29, .ext (.t 25) 1, none⟩, ⟨.v
    6, .mv true (.t 28), none⟩, ⟨.v 7, .mv true (.t 29), none⟩]).seq ((PC.reg [⟨.t 30, .mv false (.v 6), none⟩, ⟨.t 31, .bin .neq (.t 30) (.c (.v (.int
    .i64 0))), none⟩, ⟨.t 32, .mv false (.t 31), none⟩, ⟨.t 33, .mv false (.v 7), some (.t 32, false)⟩, ⟨.t 34, .bin .neq (.t 33) (.c (.v (.int .i64
    5))), some (.t 32, false)⟩, ⟨.t 35, .pick (.t 32) (.c (.v (.bool true))) (.t 34), none⟩, ⟨.t 36, .mv false (.t 35), none⟩, ⟨.t 37, .mv false (.v 4),
    some (.t 36, false)⟩, ⟨.t 38, .call 30 [.t 37], some (.t 36, false)⟩, ⟨.t 39, .bin .neq (.t 38) (.c (.v (.int .i64 0))), some (.t 36, false)⟩, ⟨.t
    40, .pick (.t 36) (.c (.v (.bool true))) (.t 39), none⟩]).seq (PC.cond (.t 40) ((PC.reg [⟨.v 2, .mv true (.c (.v (.bool false))), none⟩]).seq PC.ret)
    PC.skip)))).seq (PC.reg [⟨.t 23, .mv false (.v 5), none⟩, ⟨.t 24, .bin .add (.t 23) (.c (.v (.int .i64 1))), none⟩, ⟨.v 5, .mv true (.t 24), none⟩]))
def lp7_1 : PC :=
  ((PC.reg [⟨.t 10, .mv false (.v 3), none⟩, ⟨.t 11, .bin .lss (.t 10) (.c (.v (.int .i64 2))), none⟩]).seq (PC.cond (.t 11) PC.skip (PC.exit 0))).seq
    ((PC.block 1 ((PC.reg [⟨.v 4, .mv true (.c (.v .nilp)), none⟩]).seq (((PC.reg [⟨.t 14, .mv false (.v 3), none⟩, ⟨.t 15, .bin .eql (.t 14) (.c (.v
    (.int .i64 1))), none⟩]).seq (PC.cond (.t 15) (PC.reg [⟨.t 16, .build (.agg [.agg [.agg [], .agg [], .int .i64 0], .bool false]) [], none⟩, ⟨.t 17,
    .newB (.t 16), none⟩, ⟨.v 4, .mv true (.t 17), none⟩]) PC.skip)).seq (((PC.reg [⟨.v 5, .mv true (.c (.v (.int .i64 0))), none⟩]).seq (PC.block 2
    (PC.loop [0, 3, 4, 5] lp7_0))).seq ((PC.reg [⟨.t 42, .mv false (.v 4), none⟩, ⟨.t 43, .call 31 [.t 42], none⟩, ⟨.t 44, .call 28 [.t 43], none⟩, ⟨.t
    41, .mv false (.t 44), none⟩, ⟨.t 45, .ext (.t 41) 0, none⟩, ⟨.t 46, .ext (.t 41) 1, none⟩, ⟨.v 8, .mv true (.t 45), none⟩, ⟨.v 9, .mv true (.t 46),
    none⟩]).seq ((PC.reg [⟨.t 47, .mv false (.v 9), none⟩, ⟨.t 48, .bin .neq (.t 47) (.c (.v (.int .i64 5))), none⟩]).seq (PC.cond (.t 48) ((PC.reg [⟨.v
    2, .mv true (.c (.v (.bool false))), none⟩]).seq PC.ret) PC.skip))))))).seq (PC.reg [⟨.t 12, .mv false (.v 3), none⟩, ⟨.t 13, .bin .add (.t 12) (.c
    (.v (.int .i64 1))), none⟩, ⟨.v 3, .mv true (.t 13), none⟩]))
def pf7 : PF :=
  PF.mk 1 10 50 ((PC.reg [⟨.v 2, .mv true (.c (.v (.bool false))), none⟩]).seq (((PC.reg [⟨.v 3, .mv true (.c (.v (.int .i64 0))), none⟩]).seq (PC.block
    0 (PC.loop [0, 3] lp7_1))).seq ((PC.reg [⟨.t 49, .call 27 [], none⟩, ⟨.v 2, .mv true (.t 49), none⟩]).seq PC.ret))) [(.v 2, none)]
attribute [local irreducible] W Wops WopsD WL Wop WopD
variable {E : Env} {C : Abs.Spec} {l : List (Nat × Spec1)} {G : List (Nat × V)} {Q : R → List (Nat × V) → Prop}
set_option maxHeartbeats 1000000
theorem loop6a {u mo : Int} {id : Nat} {G0 : List (Nat × V)} {QQ : Ex → St → Prop} (hu : 0 ≤ u ∧ u ≤ 255) (h28 : Abs.look l 28 = some S28) (h29 : Abs.look l 29 = some S29) (h30 : Abs.look l 30 = some S30)
    (hx : ∀ w ts, okC w → QQ (.exit 0) ⟨[none, some (.v (.int .u8 u)), some (.v (.int .u8 mo)), none, none, none, none, some (.v (.ptr id)), none, some (.v (.int .i64 (w))), some (.v (.int .i64 (u))), none, none, none, none, none, none], ts, [], (id, CT w true) :: G0⟩) :
    ∀ (m i : Nat) (w : Int), (i : Int) + m = u → okC w → WL (W E (specOf l) lp6_1) [1, 2, 7, 9, 10] QQ (m + 1) ⟨[none, some (.v (.int .u8 u)), some (.v (.int .u8 mo)), none, none, none, none, some (.v (.ptr id)), none, some (.v (.int .i64 (w))), some (.v (.int .i64 (i))), none, none, none, none, none, none], [], [], (id, CT w true) :: G0⟩ := by
  intro m
  induction m with
  | zero =>
    intro i w hi hw
    refine WL_in lp6_1.eq_1 ?_
    simp (maxSteps := 1000000) (implicitDefEqProofs := false) (disch := omega) only [h28, S28_eq, h29, S29_eq, h30, S30_eq, go_sem, ↓reduceIte, decide_eq_true_eq, decide_eq_false_iff_not, ge_iff_le, gt_iff_lt, Int.not_le, Int.not_lt, w64, Bool.not_eq_true', Bool.not_eq_false', Bool.and_eq_true, Bool.and_eq_false_iff]
    obtain rfl : u = (i : Int) := by omega
    exact ⟨fun c => by omega, fun c => hx w _ hw⟩
  | succ m ih =>
    intro i w hi hw
    refine WL_in lp6_1.eq_1 ?_
    simp (maxSteps := 1000000) (implicitDefEqProofs := false) (disch := omega) only [h28, S28_eq, h29, S29_eq, h30, S30_eq, go_sem, ↓reduceIte, decide_eq_true_eq, decide_eq_false_iff_not, ge_iff_le, gt_iff_lt, Int.not_le, Int.not_lt, w64, Bool.not_eq_true', Bool.not_eq_false', Bool.and_eq_true, Bool.and_eq_false_iff]
    refine ⟨fun c => ⟨w, true, ⟨.inr ⟨id, rfl, by simp [look_cons]⟩, fun _ => hw⟩, hw, ?_⟩, fun c => by omega⟩
    have e : updC ((id, CT w true) :: G0) (.ptr id) (upA w true) true = (id, CT (upA w true) true) :: G0 := by show upd _ _ _ = _; rw [upd_cons_same]
    have hcv : CV ((id, CT (upA w true) true) :: G0) (.ptr id) (upA w true) true := .inr ⟨id, rfl, by simp [look_cons]⟩
    rw [e]
    have hi1 : (i : Int) + 1 = ((i + 1 : Nat) : Int) := by omega
    have hok : okC (upA w true) := by
      unfold okC at *; unfold upA; rw [if_pos rfl]; split <;> omega
    have next := ih (i + 1) (upA w true) (by omega) hok
    rw [hi1]
    by_cases c : w = 1099511627776
    · have e1 : upN w true = 0 := by simp [upN, c]
      have e2 : upE w true = 9 := by simp [upE, c]
      have e3 : upA w true = w := by simp [upA, c]
      simp (maxSteps := 1000000) (implicitDefEqProofs := false) only [e1, e2, go_sem, ↓reduceIte, decide_eq_true_eq, decide_eq_false_iff_not, ge_iff_le, gt_iff_lt, Int.not_le, Int.not_lt, Bool.not_eq_true', Bool.not_eq_false', Bool.and_eq_true, Bool.and_eq_false_iff]
      exact ⟨upA w true, true, hcv, fun c => absurd rfl c, fun _ => next⟩
    · have e1 : upN w true = w + 1 := by simp [upN, c]
      have e2 : upE w true = 0 := by simp [upE, c]
      have e3 : upA w true = w + 1 := by simp [upA, c]
      simp (maxSteps := 1000000) (implicitDefEqProofs := false) only [e1, e2, e3, go_sem, ↓reduceIte, decide_eq_true_eq, decide_eq_false_iff_not, ge_iff_le, gt_iff_lt, Int.not_le, Int.not_lt, Bool.not_eq_true', Bool.not_eq_false', Bool.and_eq_true, Bool.and_eq_false_iff]
      rw [e3] at hcv next
      exact ⟨fun c => by omega, fun _ => ⟨w + 1, true, hcv, fun c => absurd rfl c, fun _ => next⟩⟩
theorem loop6b {w mo : Int} {id id2 : Nat} {QQ : Ex → St → Prop} {G0 : List (Nat × V)} (hne : id ≠ id2) (hm : 0 ≤ mo ∧ mo ≤ 255) (h28 : Abs.look l 28 = some S28)
    (hx : ∀ w' ts, w ≤ w' → okC w' → QQ (.exit 2) ⟨[none, none, some (.v (.int .u8 mo)), none, none, none, none, some (.v (.ptr id)), none, some (.v (.int .i64 w)), none, none, none, none, none, some (.v (.ptr id2)), some (.v (.int .i64 (mo)))], ts, [], (id2, CT w true) :: (id, CT w' true) :: G0⟩) :
    ∀ (m i : Nat) (w' : Int), (i : Int) + m = mo → w ≤ w' → okC w' → WL (W E (specOf l) lp6_0) [2, 7, 9, 15, 16] QQ (m + 1) ⟨[none, none, some (.v (.int .u8 mo)), none, none, none, none, some (.v (.ptr id)), none, some (.v (.int .i64 w)), none, none, none, none, none, some (.v (.ptr id2)), some (.v (.int .i64 (i)))], [], [], (id2, CT w true) :: (id, CT w' true) :: G0⟩ := by
  intro m
  induction m with
  | zero =>
    intro i w' hi hw hok
    refine WL_in lp6_0.eq_1 ?_
    simp (maxSteps := 1000000) (implicitDefEqProofs := false) (disch := omega) only [h28, S28_eq, go_sem, ↓reduceIte, decide_eq_true_eq, decide_eq_false_iff_not, ge_iff_le, gt_iff_lt, Int.not_le, Int.not_lt, w64, Bool.not_eq_true', Bool.not_eq_false', Bool.and_eq_true, Bool.and_eq_false_iff]
    obtain rfl : mo = (i : Int) := by omega
    exact ⟨fun c => by omega, fun c => hx w' _ hw hok⟩
  | succ m ih =>
    intro i w' hi hw hok
    refine WL_in lp6_0.eq_1 ?_
    simp (maxSteps := 1000000) (implicitDefEqProofs := false) (disch := omega) only [h28, S28_eq, go_sem, ↓reduceIte, decide_eq_true_eq, decide_eq_false_iff_not, ge_iff_le, gt_iff_lt, Int.not_le, Int.not_lt, w64, Bool.not_eq_true', Bool.not_eq_false', Bool.and_eq_true, Bool.and_eq_false_iff]
    refine ⟨fun c => ⟨w', true, ⟨.inr ⟨id, rfl, by simp [look_cons, hne]⟩, fun _ => hok⟩, ?_⟩, fun c => by omega⟩
    have e : updC ((id2, CT w true) :: (id, CT w' true) :: G0) (.ptr id) (upA w' true) true = (id2, CT w true) :: (id, CT (upA w' true) true) :: G0 := by show upd _ _ _ = _; rw [upd_cons_ne hne, upd_cons_same]
    rw [e]
    have hi1 : (i : Int) + 1 = ((i + 1 : Nat) : Int) := by omega
    rw [hi1]
    exact ih (i + 1) _ (by omega) (by unfold okC at *; unfold upA; rw [if_pos rfl]; split <;> omega) (by unfold okC at *; unfold upA; rw [if_pos rfl]; split <;> omega)
theorem walk6 {at_ u mo : Int} (hu : 0 ≤ u ∧ u ≤ 255) (hm : 0 ≤ mo ∧ mo ≤ 255) (h26 : Abs.look l 26 = some S26) (h27 : Abs.look l 27 = some S27) (h28 : Abs.look l 28 = some S28) (h29 : Abs.look l 29 = some S29) (h30 : Abs.look l 30 = some S30) (h31 : Abs.look l 31 = some S31)
    (h : ∀ G', Q (.v (.bool true)) G') : Wf E (specOf l) pf6 [.int .i64 at_, .int .u8 u, .int .u8 mo] G Q := by
  by_cases hn : okC at_
  · have hn' := hn
    unfold okC at hn'
    simp (maxSteps := 1000000) (implicitDefEqProofs := false) only [pf6, h26, S26_eq, h27, S27_eq, go_sem, ↓reduceIte, decide_eq_true_eq, decide_eq_false_iff_not, ge_iff_le, gt_iff_lt, Int.not_le, Int.not_lt, Bool.not_eq_true', Bool.not_eq_false', Bool.and_eq_true, Bool.and_eq_false_iff]
    refine ⟨fun c id hid => ⟨fun c => by omega, fun _ => ⟨fun c => by omega, fun _ => ⟨u.toNat + 1, ?_⟩⟩⟩, fun c => absurd hn c⟩
    simp (maxSteps := 1000000) (implicitDefEqProofs := false) only [go_sem, ↓reduceIte, decide_eq_true_eq, decide_eq_false_iff_not, ge_iff_le, gt_iff_lt, Int.not_le, Int.not_lt, Bool.not_eq_true', Bool.not_eq_false', Bool.and_eq_true, Bool.and_eq_false_iff]
    refine loop6a (u := u) hu h28 h29 h30 (fun w ts hw => ?_) u.toNat 0 at_ (by omega) hn
    simp (maxSteps := 1000000) (implicitDefEqProofs := false) only [h31, S31_eq, go_sem, ↓reduceIte, decide_eq_true_eq, decide_eq_false_iff_not, ge_iff_le, gt_iff_lt, Int.not_le, Int.not_lt, Bool.not_eq_true', Bool.not_eq_false', Bool.and_eq_true, Bool.and_eq_false_iff]
    refine ⟨w, true, .inr ⟨id, rfl, by simp [look_cons]⟩, fun c id2 hid2 => ⟨mo.toNat + 1, ?_⟩, fun c => absurd ⟨rfl, hw⟩ c⟩
    have hne : id ≠ id2 := by
      rintro rfl
      rw [if_pos rfl] at hid2; cases hid2
    simp (maxSteps := 1000000) (implicitDefEqProofs := false) only [go_sem, ↓reduceIte, decide_eq_true_eq, decide_eq_false_iff_not, ge_iff_le, gt_iff_lt, Int.not_le, Int.not_lt, Bool.not_eq_true', Bool.not_eq_false', Bool.and_eq_true, Bool.and_eq_false_iff]
    refine loop6b hne hm h28 (fun w' ts hw' hok => ?_) mo.toNat 0 w (by omega) (Int.le_refl _) hw
    simp (maxSteps := 1000000) (implicitDefEqProofs := false) only [h30, S30_eq, h27, S27_eq, go_sem, ↓reduceIte, decide_eq_true_eq, decide_eq_false_iff_not, ge_iff_le, gt_iff_lt, Int.not_le, Int.not_lt, Bool.not_eq_true', Bool.not_eq_false', Bool.and_eq_true, Bool.and_eq_false_iff]
    exact ⟨w, true, .inr ⟨id2, rfl, by simp [look_cons]⟩, fun _ => ⟨w', true, .inr ⟨id, rfl, by simp [look_cons, hne]⟩, fun _ id3 _ => h _, fun c => by omega⟩, fun c => absurd rfl c⟩
  · have hn' := hn
    unfold okC at hn'
    simp (maxSteps := 1000000) (implicitDefEqProofs := false) only [pf6, h26, S26_eq, h27, S27_eq, go_sem, ↓reduceIte, decide_eq_true_eq, decide_eq_false_iff_not, ge_iff_le, gt_iff_lt, Int.not_le, Int.not_lt, Bool.not_eq_true', Bool.not_eq_false', Bool.and_eq_true, Bool.and_eq_false_iff]
    refine ⟨fun c => absurd c hn, fun _ => ⟨fun _ id _ => h _, fun c => ⟨fun _ id _ => h _, fun c2 => absurd ⟨c, c2⟩ hn'⟩⟩⟩
theorem loop7a {n z : V} {u k : Int} {QQ : Ex → St → Prop} (hn : n = .int .u8 u) (hu : 0 ≤ u ∧ u ≤ 255) (hz : CV G z 0 false) (h28 : Abs.look l 28 = some S28) (h30 : Abs.look l 30 = some S30)
    (hx : ∀ ts, QQ (.exit 2) ⟨[some (.v n), none, none, some (.v (.int .i64 k)), some (.v z), some (.v (.int .i64 (u.tmod 4))), none, none, none, none], ts, [], G⟩) :
    ∀ (m i : Nat), (i : Int) + m = u.tmod 4 → WL (W E (specOf l) lp7_0) [0, 3, 4, 5] QQ (m + 1) ⟨[some (.v n), none, none, some (.v (.int .i64 k)), some (.v z), some (.v (.int .i64 (i))), none, none, none, none], [], [], G⟩ := by
  subst hn
  have hb : 0 ≤ u.tmod 4 ∧ u.tmod 4 < 4 := by rw [Int.tmod_eq_emod_of_nonneg hu.1]; omega
  have hw : IntKind.i64.wrap (u.tmod 4) = u.tmod 4 := w64 (by omega) (by omega)
  intro m
  induction m with
  | zero =>
    intro i hi
    refine WL_in lp7_0.eq_1 ?_
    simp (maxSteps := 1000000) (implicitDefEqProofs := false) (disch := omega) only [h28, S28_eq, h30, S30_eq, hw, go_sem, ↓reduceIte, decide_eq_true_eq, decide_eq_false_iff_not, ge_iff_le, gt_iff_lt, Int.not_le, Int.not_lt, w64, Bool.not_eq_true', Bool.not_eq_false', Bool.and_eq_true, Bool.and_eq_false_iff]
    have e : u.tmod 4 = (i : Int) := by omega
    rw [e] at hx
    exact ⟨fun c => by omega, fun c => hx _⟩
  | succ m ih =>
    intro i hi
    refine WL_in lp7_0.eq_1 ?_
    simp (maxSteps := 1000000) (implicitDefEqProofs := false) (disch := omega) only [h28, S28_eq, h30, S30_eq, hw, go_sem, ↓reduceIte, decide_eq_true_eq, decide_eq_false_iff_not, ge_iff_le, gt_iff_lt, Int.not_le, Int.not_lt, w64, Bool.not_eq_true', Bool.not_eq_false', Bool.and_eq_true, Bool.and_eq_false_iff]
    have e : updC G z (upA 0 false) false = G := by
      rcases hz with ⟨rfl, _, _⟩ | ⟨id, rfl, hL⟩
      · rfl
      · exact upd_self hL
    have e1 : upN 0 false = 0 := rfl
    have e2 : upE 0 false = 5 := rfl
    refine ⟨fun c => ⟨0, false, ⟨hz, fun c => by cases c⟩, ?_⟩, fun c => by omega⟩
    rw [e]
    simp (maxSteps := 1000000) (implicitDefEqProofs := false) only [e1, e2, go_sem, ↓reduceIte, decide_eq_true_eq, decide_eq_false_iff_not, ge_iff_le, gt_iff_lt, Int.not_le, Int.not_lt, Bool.not_eq_true', Bool.not_eq_false', Bool.and_eq_true, Bool.and_eq_false_iff]
    have hi1 : (i : Int) + 1 = ((i + 1 : Nat) : Int) := by omega
    refine ⟨0, false, hz, fun c => absurd rfl c, fun _ => ?_⟩
    rw [hi1]
    exact ih (i + 1) (by omega)
theorem walk7 {u : Int} (hu : 0 ≤ u ∧ u ≤ 255) (h27 : Abs.look l 27 = some S27) (h28 : Abs.look l 28 = some S28) (h30 : Abs.look l 30 = some S30) (h31 : Abs.look l 31 = some S31)
    (h : ∀ G', Q (.v (.bool true)) G') : Wf E (specOf l) pf7 [.int .u8 u] G Q := by
  have hb : 0 ≤ u.tmod 4 ∧ u.tmod 4 < 4 := by rw [Int.tmod_eq_emod_of_nonneg hu.1]; omega
  have e1 : upN 0 false = 0 := rfl
  have e2 : upE 0 false = 5 := rfl
  have hf : ¬ (false = true ∧ okC 0) := by simp
  simp (maxSteps := 1000000) (implicitDefEqProofs := false) only [pf7, go_sem, ↓reduceIte, decide_eq_true_eq, decide_eq_false_iff_not, ge_iff_le, gt_iff_lt, Int.not_le, Int.not_lt, Bool.not_eq_true', Bool.not_eq_false', Bool.and_eq_true, Bool.and_eq_false_iff]
  refine ⟨3, ?_⟩
  simp (maxSteps := 1000000) (implicitDefEqProofs := false) only [go_sem, ↓reduceIte, decide_eq_true_eq, decide_eq_false_iff_not, ge_iff_le, gt_iff_lt, Int.not_le, Int.not_lt, Bool.not_eq_true', Bool.not_eq_false', Bool.and_eq_true, Bool.and_eq_false_iff]
  refine WL_in lp7_1.eq_1 ?_
  simp (maxSteps := 1000000) (implicitDefEqProofs := false) only [go_sem, ↓reduceIte, decide_eq_true_eq, decide_eq_false_iff_not, ge_iff_le, gt_iff_lt, Int.not_le, Int.not_lt, Bool.not_eq_true', Bool.not_eq_false', Bool.and_eq_true, Bool.and_eq_false_iff]
  refine ⟨(u.tmod 4).toNat + 1, ?_⟩
  simp (maxSteps := 1000000) (implicitDefEqProofs := false) only [go_sem, ↓reduceIte, decide_eq_true_eq, decide_eq_false_iff_not, ge_iff_le, gt_iff_lt, Int.not_le, Int.not_lt, Bool.not_eq_true', Bool.not_eq_false', Bool.and_eq_true, Bool.and_eq_false_iff]
  refine loop7a (k := 0) (z := .nilp) rfl hu (.inl ⟨rfl, rfl, rfl⟩) h28 h30 (fun ts => ?_) (u.tmod 4).toNat 0 (by omega)
  simp (maxSteps := 1000000) (implicitDefEqProofs := false) only [h31, S31_eq, h28, S28_eq, go_sem, ↓reduceIte, decide_eq_true_eq, decide_eq_false_iff_not, ge_iff_le, gt_iff_lt, Int.not_le, Int.not_lt, Bool.not_eq_true', Bool.not_eq_false', Bool.and_eq_true, Bool.and_eq_false_iff]
  refine ⟨0, false, .inl ⟨rfl, rfl, rfl⟩, fun c => absurd c hf, fun _ => ⟨0, false, ⟨.inl ⟨rfl, rfl, rfl⟩, fun c => by cases c⟩, ?_⟩⟩
  rw [show updC G .nilp (upA 0 false) false = G from rfl]
  have w1 : IntKind.i64.wrap 1 = 1 := by decide
  have w2 : IntKind.i64.wrap 2 = 2 := by decide
  simp (maxSteps := 1000000) (implicitDefEqProofs := false) only [e1, e2, w1, go_sem, ↓reduceIte, decide_eq_true_eq, decide_eq_false_iff_not, ge_iff_le, gt_iff_lt, Int.not_le, Int.not_lt, Bool.not_eq_true', Bool.not_eq_false', Bool.and_eq_true, Bool.and_eq_false_iff]
  refine WL_in lp7_1.eq_1 ?_
  simp (maxSteps := 1000000) (implicitDefEqProofs := false) only [w1, w2, go_sem, ↓reduceIte, decide_eq_true_eq, decide_eq_false_iff_not, ge_iff_le, gt_iff_lt, Int.not_le, Int.not_lt, Bool.not_eq_true', Bool.not_eq_false', Bool.and_eq_true, Bool.and_eq_false_iff]
  intro id hid
  refine ⟨(u.tmod 4).toNat + 1, ?_⟩
  simp (maxSteps := 1000000) (implicitDefEqProofs := false) only [go_sem, ↓reduceIte, decide_eq_true_eq, decide_eq_false_iff_not, ge_iff_le, gt_iff_lt, Int.not_le, Int.not_lt, Bool.not_eq_true', Bool.not_eq_false', Bool.and_eq_true, Bool.and_eq_false_iff]
  have hz : CV ((id, CT 0 false) :: G) (.ptr id) 0 false := .inr ⟨id, rfl, by simp [look_cons]⟩
  refine loop7a (k := 1) (z := .ptr id) rfl hu hz h28 h30 (fun ts => ?_) (u.tmod 4).toNat 0 (by omega)
  simp (maxSteps := 1000000) (implicitDefEqProofs := false) only [h31, S31_eq, h28, S28_eq, go_sem, ↓reduceIte, decide_eq_true_eq, decide_eq_false_iff_not, ge_iff_le, gt_iff_lt, Int.not_le, Int.not_lt, Bool.not_eq_true', Bool.not_eq_false', Bool.and_eq_true, Bool.and_eq_false_iff]
  refine ⟨0, false, hz, fun c => absurd c hf, fun _ => ⟨0, false, ⟨.inl ⟨rfl, rfl, rfl⟩, fun c => by cases c⟩, ?_⟩⟩
  rw [show updC ((id, CT 0 false) :: G) .nilp (upA 0 false) false = (id, CT 0 false) :: G from rfl]
  simp (maxSteps := 1000000) (implicitDefEqProofs := false) only [e1, e2, w2, go_sem, ↓reduceIte, decide_eq_true_eq, decide_eq_false_iff_not, ge_iff_le, gt_iff_lt, Int.not_le, Int.not_lt, Bool.not_eq_true', Bool.not_eq_false', Bool.and_eq_true, Bool.and_eq_false_iff]
  refine WL_in lp7_1.eq_1 ?_
  simp (maxSteps := 1000000) (implicitDefEqProofs := false) only [h27, S27_eq, w2, go_sem, ↓reduceIte, decide_eq_true_eq, decide_eq_false_iff_not, ge_iff_le, gt_iff_lt, Int.not_le, Int.not_lt, Bool.not_eq_true', Bool.not_eq_false', Bool.and_eq_true, Bool.and_eq_false_iff]
  exact fun _ _ => h _
end Go.Proofs.Ytcicoepkmiahbaa.Cnt
