/- Accumulations: whether any is right. -/
import Derived.Test.YtegamlopcdjiaaaDoorUAcc5
namespace Go.Proofs.YtegamlopcdjiaaaDoor.Sha
open Go Go.Abs Go.Abs.Sha Go.Abs.Srt
set_option linter.unusedSimpArgs false
set_option linter.unusedVariables false
set_option maxRecDepth 100000
def lp50_0 : PC :=
  (PC.reg [nn (.t 14) (.bin .lss (.v 13) (.v 12))]).seq ((PC.cond (.t 14) PC.skip (PC.exit 0)).seq ((PC.block 1 ((PC.reg [nn (.t 15) (.mv true (.v 13)),
    ma 5 15]).seq ((PC.regD 0 [mm 16 0, mm 17 5, nn (.t 18) (.iadrS 1 (.t 16) (.t 17)), nn (.t 19) (.load 1 false (.t 18)), mm 20 1, mm 21 5, nn (.t 22)
    (.iadrS 1 (.t 20) (.t 21)), nn (.t 23) (.load 1 false (.t 22)), nn (.t 24) (.bin .neq (.t 19) (.t 23))] []).seq (PC.cond (.t 24) ((PC.reg [nn (.v 4)
    (.mv true (.c (.v (.bool false))))]).seq PC.ret) PC.skip)))).seq (PC.reg [nn (.t 25) (.bin .add (.v 13) (.c (.v (.int .i64 1)))), nn (.v 13) (.mv
    false (.t 25))])))
def pf50 : PF :=
  PF.mk 2 14 26 ((PC.reg [nn (.v 4) (.mv true (.c (.v (.bool false))))]).seq (((PC.reg [nn (.v 6) (.mv false (.v 0)), nn (.v 7) (.len (.v 6)), nn (.v 8)
    (.mv false (.v 1)), nn (.v 9) (.len (.v 8)), nn (.v 10) (.bin .neq (.v 7) (.v 9))]).seq (PC.cond (.v 10) ((PC.reg [nn (.v 4) (.mv true (.c (.v (.bool
    false))))]).seq PC.ret) PC.skip)).seq (((PC.reg [nn (.v 11) (.mv false (.v 0)), nn (.v 12) (.len (.v 11)), nn (.v 13) (.mv false (.c (.v (.int .i64
    0))))]).seq (PC.block 0 (PC.loop [0, 1, 12, 13] lp50_0))).seq ((PC.reg [nn (.v 4) (.mv true (.c (.v (.bool true))))]).seq PC.ret)))) [(.v 4, none)]
def pf12 : PF :=
  PF.mk 2 5 45 ((PC.reg [nn (.v 2) (.box (.v 0)), nn (.v 3) (.box (.v 1)), nn (.v 4) (.mv true (.c (.v (.bool false))))]).seq ((PC.reg [nn (.t 5) (.fadr
    0 0 (.v 2)), nn (.t 6) (.load 1 false (.t 5)), nn (.t 7) (.fadr 0 0 (.v 3)), nn (.t 8) (.load 1 false (.t 7)), nn (.t 9) (.bin .eql (.t 6) (.t 8)),
    nn (.t 10) (.mv false (.t 9)), ⟨.t 11, .fadr 1 1 (.v 2), some (.t 10, true)⟩, ⟨.t 12, .load 1 false (.t 11), some (.t 10, true)⟩, ⟨.t 13, .fadr 1 1
    (.v 3), some (.t 10, true)⟩, ⟨.t 14, .load 1 false (.t 13), some (.t 10, true)⟩, ⟨.t 15, .bin .eql (.t 12) (.t 14), some (.t 10, true)⟩, nn (.t 16)
    (.pick (.t 10) (.t 15) (.c (.v (.bool false)))), nn (.t 17) (.mv false (.t 16)), ⟨.t 18, .fadr 2 2 (.v 2), some (.t 17, true)⟩, ⟨.t 19, .load 1 false
    (.t 18), some (.t 17, true)⟩, ⟨.t 20, .fadr 2 2 (.v 3), some (.t 17, true)⟩, ⟨.t 21, .load 1 false (.t 20), some (.t 17, true)⟩, ⟨.t 22, .bin .eql
    (.t 19) (.t 21), some (.t 17, true)⟩, nn (.t 23) (.pick (.t 17) (.t 22) (.c (.v (.bool false)))), nn (.t 24) (.mv false (.t 23)), ⟨.t 25, .fadr 3 3
    (.v 2), some (.t 24, true)⟩, ⟨.t 26, .load 32 true (.t 25), some (.t 24, true)⟩, ⟨.t 27, .fadr 3 3 (.v 3), some (.t 24, true)⟩, ⟨.t 28, .load 32 true
    (.t 27), some (.t 24, true)⟩, ⟨.t 29, .eqa false (.arr 32) (.t 26) (.t 28), some (.t 24, true)⟩, nn (.t 30) (.pick (.t 24) (.t 29) (.c (.v (.bool
    false)))), nn (.t 31) (.mv false (.t 30)), ⟨.t 32, .fadr 4 35 (.v 2), some (.t 31, true)⟩, ⟨.t 33, .load 1 false (.t 32), some (.t 31, true)⟩, ⟨.t
    34, .fadr 4 35 (.v 3), some (.t 31, true)⟩, ⟨.t 35, .load 1 false (.t 34), some (.t 31, true)⟩, ⟨.t 36, .call 50 [.t 33, .t 35], some (.t 31, true)⟩,
    nn (.t 37) (.pick (.t 31) (.t 36) (.c (.v (.bool false)))), nn (.t 38) (.mv false (.t 37)), ⟨.t 39, .fadr 5 36 (.v 2), some (.t 38, true)⟩, ⟨.t 40,
    .load 32 true (.t 39), some (.t 38, true)⟩, ⟨.t 41, .fadr 5 36 (.v 3), some (.t 38, true)⟩, ⟨.t 42, .load 32 true (.t 41), some (.t 38, true)⟩, ⟨.t
    43, .eqa false (.arr 32) (.t 40) (.t 42), some (.t 38, true)⟩, nn (.t 44) (.pick (.t 38) (.t 43) (.c (.v (.bool false)))), ma 4 44]).seq PC.ret))
    [(.v 4, none)]
def lp34_0 : PC :=
  ((PC.reg [mm 4 3, nn (.t 5) (.fadr 4 35 (.v 1)), nn (.t 6) (.load 1 false (.t 5)), nn (.t 7) (.len (.t 6)), nn (.t 8) (.bin .lss (.t 4) (.t 7))]).seq
    (PC.cond (.t 8) PC.skip (PC.exit 0))).seq ((PC.block 1 ((PC.regD 0 [nn (.t 11) (.fadr 4 35 (.v 1)), nn (.t 12) (.load 1 false (.t 11)), mm 13 3, nn
    (.t 14) (.iadrS 1 (.t 12) (.t 13)), nn (.t 15) (.load 1 false (.t 14)), nn (.t 16) (.bin .lss (.t 15) (.c (.v (.int .i64 1)))), nn (.t 17) (.mv false
    (.t 16)), ⟨.t 18, .fadr 4 35 (.v 1), some (.t 17, false)⟩, ⟨.t 19, .load 1 false (.t 18), some (.t 17, false)⟩, gm 20 3 17 false, ⟨.t 21, .iadrS 1
    (.t 19) (.t 20), some (.t 17, false)⟩, ⟨.t 22, .load 1 false (.t 21), some (.t 17, false)⟩, ⟨.t 23, .bin .gtr (.t 22) (.c (.v (.int .i64 21))), some
    (.t 17, false)⟩, nn (.t 24) (.pick (.t 17) (.c (.v (.bool true))) (.t 23)), nn (.t 25) (.mv false (.t 24)), gm 26 3 25 false, ⟨.t 27, .bin .gtr (.t
    26) (.c (.v (.int .i64 0))), some (.t 25, false)⟩, ⟨.t 28, .mv false (.t 27), some (.t 25, false)⟩, ⟨.t 29, .fadr 4 35 (.v 1), some (.t 28, true)⟩,
    ⟨.t 30, .load 1 false (.t 29), some (.t 28, true)⟩, gm 31 3 28 true, ⟨.t 32, .bin .sub (.t 31) (.c (.v (.int .i64 1))), some (.t 28, true)⟩, ⟨.t 33,
    .iadrS 1 (.t 30) (.t 32), some (.t 28, true)⟩, ⟨.t 34, .load 1 false (.t 33), some (.t 28, true)⟩, ⟨.t 35, .fadr 4 35 (.v 1), some (.t 28, true)⟩,
    ⟨.t 36, .load 1 false (.t 35), some (.t 28, true)⟩, gm 37 3 28 true, ⟨.t 38, .iadrS 1 (.t 36) (.t 37), some (.t 28, true)⟩, ⟨.t 39, .load 1 false (.t
    38), some (.t 28, true)⟩, ⟨.t 40, .bin .geq (.t 34) (.t 39), some (.t 28, true)⟩, ⟨.t 41, .pick (.t 28) (.t 40) (.c (.v (.bool false))), some (.t 25,
    false)⟩, nn (.t 42) (.pick (.t 25) (.c (.v (.bool true))) (.t 41))] []).seq (PC.cond (.t 42) ((PC.reg [nn (.v 2) (.mv true (.c (.v (.bool
    false))))]).seq PC.ret) PC.skip))).seq (PC.reg [mm 9 3, nn (.t 10) (.bin .add (.t 9) (.c (.v (.int .i64 1)))), ma 3 10]))
def pf34 : PF :=
  PF.mk 1 4 79 ((PC.reg [nn (.v 1) (.box (.v 0)), nn (.v 2) (.mv true (.c (.v (.bool false))))]).seq (((PC.reg [nn (.v 3) (.mv true (.c (.v (.int .i64
    0))))]).seq (PC.block 0 (PC.loop [1, 3] lp34_0))).seq ((PC.reg [nn (.t 43) (.fadr 0 0 (.v 1)), nn (.t 44) (.load 1 false (.t 43)), nn (.t 45) (.bin
    .geq (.t 44) (.c (.v (.int .i64 1)))), nn (.t 46) (.mv false (.t 45)), ⟨.t 47, .fadr 0 0 (.v 1), some (.t 46, true)⟩, ⟨.t 48, .load 1 false (.t 47),
    some (.t 46, true)⟩, ⟨.t 49, .bin .leq (.t 48) (.c (.v (.int .i64 21))), some (.t 46, true)⟩, nn (.t 50) (.pick (.t 46) (.t 49) (.c (.v (.bool
    false)))), nn (.t 51) (.mv false (.t 50)), ⟨.t 52, .fadr 1 1 (.v 1), some (.t 51, true)⟩, ⟨.t 53, .load 1 false (.t 52), some (.t 51, true)⟩, ⟨.t 54,
    .bin .geq (.t 53) (.c (.v (.int .i64 1))), some (.t 51, true)⟩, nn (.t 55) (.pick (.t 51) (.t 54) (.c (.v (.bool false)))), nn (.t 56) (.mv false (.t
    55)), ⟨.t 57, .fadr 1 1 (.v 1), some (.t 56, true)⟩, ⟨.t 58, .load 1 false (.t 57), some (.t 56, true)⟩, ⟨.t 59, .bin .leq (.t 58) (.c (.v (.int .i64
    1099511627776))), some (.t 56, true)⟩, nn (.t 60) (.pick (.t 56) (.t 59) (.c (.v (.bool false)))), nn (.t 61) (.mv false (.t 60)), ⟨.t 62, .fadr 2 2
    (.v 1), some (.t 61, true)⟩, ⟨.t 63, .load 1 false (.t 62), some (.t 61, true)⟩, ⟨.t 64, .bin .geq (.t 63) (.c (.v (.int .i64 0))), some (.t 61,
    true)⟩, nn (.t 65) (.pick (.t 61) (.t 64) (.c (.v (.bool false)))), nn (.t 66) (.mv false (.t 65)), ⟨.t 67, .fadr 2 2 (.v 1), some (.t 66, true)⟩,
    ⟨.t 68, .load 1 false (.t 67), some (.t 66, true)⟩, ⟨.t 69, .fadr 1 1 (.v 1), some (.t 66, true)⟩, ⟨.t 70, .load 1 false (.t 69), some (.t 66,
    true)⟩, ⟨.t 71, .bin .lss (.t 68) (.t 70), some (.t 66, true)⟩, nn (.t 72) (.pick (.t 66) (.t 71) (.c (.v (.bool false)))), nn (.t 73) (.mv false (.t
    72)), ⟨.t 74, .fadr 4 35 (.v 1), some (.t 73, true)⟩, ⟨.t 75, .load 1 false (.t 74), some (.t 73, true)⟩, ⟨.t 76, .len (.t 75), some (.t 73, true)⟩,
    ⟨.t 77, .bin .geq (.t 76) (.c (.v (.int .i64 1))), some (.t 73, true)⟩, nn (.t 78) (.pick (.t 73) (.t 77) (.c (.v (.bool false)))), ma 2 78]).seq
    PC.ret))) [(.v 2, none)]
def pf11 : PF :=
  PF.mk 2 6 46 ((PC.reg [nn (.v 3) (.box (.v 1)), nn (.v 4) (.mv true (.c (.v (.bool false))))]).seq ((PC.reg [mm 6 0, nn (.t 7) (.call 48 [.t 6]), ma 5
    7]).seq ((PC.regD 0 [mm 8 5, nn (.t 9) (.bin .gtr (.t 8) (.c (.v (.int .i64 0)))), nn (.t 10) (.mv false (.t 9)), ⟨.t 11, .load 68 true (.v 3), some
    (.t 10, true)⟩, ⟨.t 12, .call 34 [.t 11], some (.t 10, true)⟩, nn (.t 13) (.pick (.t 10) (.t 12) (.c (.v (.bool false)))), nn (.t 14) (.mv false (.t
    13)), ⟨.t 15, .fadr 0 0 (.v 3), some (.t 14, true)⟩, ⟨.t 16, .load 1 false (.t 15), some (.t 14, true)⟩, gm 17 0 14 true, ⟨.t 18, .bin .leq (.t 16)
    (.t 17), some (.t 14, true)⟩, nn (.t 19) (.pick (.t 14) (.t 18) (.c (.v (.bool false)))), nn (.t 20) (.mv false (.t 19)), ⟨.t 21, .fadr 4 35 (.v 3),
    some (.t 20, true)⟩, ⟨.t 22, .load 1 false (.t 21), some (.t 20, true)⟩, ⟨.t 23, .len (.t 22), some (.t 20, true)⟩, gm 24 5 20 true, ⟨.t 25, .bin
    .eql (.t 23) (.t 24), some (.t 20, true)⟩, nn (.t 26) (.pick (.t 20) (.t 25) (.c (.v (.bool false)))), nn (.t 27) (.mv false (.t 26)), ⟨.t 28, .fadr
    4 35 (.v 3), some (.t 27, true)⟩, ⟨.t 29, .load 1 false (.t 28), some (.t 27, true)⟩, ⟨.t 30, .fadr 4 35 (.v 3), some (.t 27, true)⟩, ⟨.t 31, .load 1
    false (.t 30), some (.t 27, true)⟩, ⟨.t 32, .len (.t 31), some (.t 27, true)⟩, ⟨.t 33, .bin .sub (.t 32) (.c (.v (.int .i64 1))), some (.t 27,
    true)⟩, ⟨.t 34, .iadrS 1 (.t 29) (.t 33), some (.t 27, true)⟩, ⟨.t 35, .load 1 false (.t 34), some (.t 27, true)⟩, gm 36 0 27 true, ⟨.t 37, .bin .leq
    (.t 35) (.t 36), some (.t 27, true)⟩, nn (.t 38) (.pick (.t 27) (.t 37) (.c (.v (.bool false)))), nn (.t 39) (.mv false (.t 38)), ⟨.t 40, .fadr 5 36
    (.v 3), some (.t 39, true)⟩, ⟨.t 41, .load 32 true (.t 40), some (.t 39, true)⟩, ⟨.t 42, .load 68 true (.v 3), some (.t 39, true)⟩, ⟨.t 43, .call 49
    [.t 42], some (.t 39, true)⟩, ⟨.t 44, .eqa false (.arr 32) (.t 41) (.t 43), some (.t 39, true)⟩, nn (.t 45) (.pick (.t 39) (.t 44) (.c (.v (.bool
    false)))), ma 4 45] []).seq PC.ret))) [(.v 4, none)]
def pf3 : PF :=
  PF.mk 3 7 42 ((PC.reg [nn (.v 4) (.box (.v 1)), nn (.v 5) (.box (.v 2)), nn (.v 6) (.mv true (.c (.v (.bool false))))]).seq (((PC.reg [nn (.t 7) (.fadr
    4 35 (.v 4)), nn (.t 8) (.load 1 false (.t 7)), nn (.t 9) (.len (.t 8)), nn (.t 10) (.bin .gtr (.t 9) (.c (.v (.int .i64 30)))), nn (.t 11) (.mv
    false (.t 10)), ⟨.t 12, .fadr 4 35 (.v 5), some (.t 11, false)⟩, ⟨.t 13, .load 1 false (.t 12), some (.t 11, false)⟩, ⟨.t 14, .len (.t 13), some (.t
    11, false)⟩, ⟨.t 15, .bin .gtr (.t 14) (.c (.v (.int .i64 30))), some (.t 11, false)⟩, nn (.t 16) (.pick (.t 11) (.c (.v (.bool true))) (.t
    15))]).seq (PC.cond (.t 16) ((PC.reg [nn (.t 17) (.call 9 []), ma 6 17]).seq PC.ret) PC.skip)).seq ((PC.regD 0 [mm 18 0, nn (.t 19) (.load 68 true
    (.v 4)), nn (.t 20) (.call 10 [.t 18, .t 19]), mm 21 0, nn (.t 22) (.load 68 true (.v 4)), nn (.t 23) (.call 11 [.t 21, .t 22]), nn (.t 24) (.binB
    .eql (.t 20) (.t 23)), nn (.t 25) (.mv false (.t 24)), ⟨.t 26, .load 68 true (.v 4), some (.t 25, true)⟩, ⟨.t 27, .load 68 true (.v 5), some (.t 25,
    true)⟩, ⟨.t 28, .call 12 [.t 26, .t 27], some (.t 25, true)⟩, ⟨.t 29, .load 68 true (.v 4), some (.t 25, true)⟩, ⟨.t 30, .load 68 true (.v 5), some
    (.t 25, true)⟩, ⟨.t 31, .call 13 [.t 29, .t 30], some (.t 25, true)⟩, ⟨.t 32, .binB .eql (.t 28) (.t 31), some (.t 25, true)⟩, nn (.t 33) (.pick (.t
    25) (.t 32) (.c (.v (.bool false)))), nn (.t 34) (.mv false (.t 33)), ⟨.t 35, .load 68 true (.v 4), some (.t 34, true)⟩, ⟨.t 36, .load 68 true (.v
    4), some (.t 34, true)⟩, ⟨.t 37, .call 12 [.t 35, .t 36], some (.t 34, true)⟩, nn (.t 38) (.pick (.t 34) (.t 37) (.c (.v (.bool false)))), nn (.t 39)
    (.mv false (.t 38)), ⟨.t 40, .call 9 [], some (.t 39, true)⟩, nn (.t 41) (.pick (.t 39) (.t 40) (.c (.v (.bool false)))), ma 6 41] []).seq PC.ret)))
    [(.v 6, none)]
attribute [local irreducible] W Wops WopsD WL Wop WopD
variable {E : Env} {C : Abs.Spec} {l : List (Nat × Spec1)} {G : List (Nat × V)} {Q : R → List (Nat × V) → Prop}
set_option maxHeartbeats 1000000
def ZEi : Spec1
  | [.sli .i64 a, .sli .i64 b], G, Q => (a.length < 1000000 ∧ b.length < 1000000) ∧ Q (.v (.bool (decide (a = b)))) G
  | _, _, _ => False
theorem ZEi_eq {a b} : ZEi [.sli .i64 a, .sli .i64 b] G Q = ((a.length < 1000000 ∧ b.length < 1000000) ∧ Q (.v (.bool (decide (a = b)))) G) := rfl
theorem loop50 {QQ : Ex → St → Prop} {fa fb : List Int} (hll : fa.length = fb.length) (hl : fa.length < 1000000)
    (hx : ∀ (j : Nat) ts, fa = fb → QQ (.exit 0) ⟨[some (.v (.sli .i64 fa)), some (.v (.sli .i64 fb)), none, none, none, none, none, none, none, none, none, none, some (.v (.int .i64 (fa.length : Nat))), some (.v (.int .i64 (j : Nat)))], ts, [], G⟩) (hr : ∀ σ : St, σ.G = G → St.ev σ (.v 4) = some (.v (.bool false)) → fa ≠ fb → QQ .ret σ) :
    ∀ (r r2 : List Int) (j : Nat), fa.drop j = r → fb.drop j = r2 → j ≤ fa.length → (fa = fb ↔ r = r2) → WL (W E C lp50_0) [0, 1, 12, 13] QQ (r.length + 1) ⟨[some (.v (.sli .i64 fa)), some (.v (.sli .i64 fb)), none, none, none, none, none, none, none, none, none, none, some (.v (.int .i64 (fa.length : Nat))), some (.v (.int .i64 (j : Nat)))], [], [], G⟩ := by
  intro r
  induction r with
  | nil =>
    intro r2 j h1 h0 h2 h3
    have := drop_none h1
    have c1 : ¬ (j : Int) < (fa.length : Int) := by omega
    refine WL_in lp50_0.eq_1 ?_
    simp (maxSteps := 1000000) (implicitDefEqProofs := false) only [c1, go_sem, ↓reduceIte]
    refine hx _ _ (h3.2 ?_)
    rw [← h0, List.drop_eq_nil_of_le (by omega)]
  | cons p r ih =>
    intro r2 j h1 h0 h2 h3
    obtain ⟨hd, hj, hlen⟩ := drop_one h1
    obtain ⟨p2, r2, rfl⟩ : ∃ p2 r', r2 = p2 :: r' := by
      cases r2 with
      | nil => have := drop_none h0; omega
      | cons p2 r2 => exact ⟨_, _, rfl⟩
    obtain ⟨hd2, hj2, hlen2⟩ := drop_one h0
    have g := getD_at h1
    have g2 := getD_at h0
    have c1 : (j : Int) < (fa.length : Int) := by omega
    have c3 : (j : Int) < (fb.length : Int) := by omega
    have c2 : (0 : Int) ≤ (j : Int) := by omega
    have w1 : IntKind.i64.wrap ((j : Int) + 1) = ((j + 1 : Nat) : Int) := wc (by omega) (by omega)
    refine WL_in lp50_0.eq_1 ?_
    by_cases e : p = p2
    · simp (maxSteps := 1000000) (implicitDefEqProofs := false) only [c1, c2, c3, g, g2, w1, Int.toNat_natCast, e, go_sem, ↓reduceIte]
      exact ih r2 (j + 1) hd hd2 (by omega) (h3.trans (by rw [e]; simp))
    · simp (maxSteps := 1000000) (implicitDefEqProofs := false) only [c1, c2, c3, g, g2, w1, Int.toNat_natCast, e, go_sem, ↓reduceIte]
      exact hr _ rfl rfl fun h => e (by have := h3.1 h; simp at this; exact this.1)
theorem walk50 {fa fb : List Int} (hl : fa.length < 1000000) (hl2 : fb.length < 1000000) (h : Q (.v (.bool (decide (fa = fb)))) G) : Wf E C pf50 [.sli .i64 fa, .sli .i64 fb] G Q := by
  by_cases q5 : fa.length = fb.length
  case neg =>
    have q5' : ¬ ((fa.length : Nat) : Int) = (fb.length : Nat) := by omega
    rw [decide_eq_false (fun e => q5 (by rw [e]))] at h
    simp (maxSteps := 1000000) (implicitDefEqProofs := false) only [pf50, q5', go_sem, ↓reduceIte]
    exact h
  have q5' : ((fa.length : Nat) : Int) = (fb.length : Nat) := by omega
  simp (maxSteps := 1000000) (implicitDefEqProofs := false) only [pf50, q5', go_sem, ↓reduceIte]
  rw [← q5]
  refine ⟨fa.length + 1, ?_⟩
  refine loop50 q5 hl (fun j ts e => ?_) (fun σ e1 e2 e3 => ?_) fa fb 0 rfl rfl (Nat.zero_le _) Iff.rfl
  · rw [decide_eq_true e] at h
    simp (maxSteps := 1000000) (implicitDefEqProofs := false) only [go_sem, ↓reduceIte]
    exact h
  · show resQ Q σ.G (rD (St.ev σ (.v 4)))
    rw [e1, e2]
    rw [decide_eq_false e3] at h
    exact h
theorem walk12 (hE : Abs.look l 50 = some ZEi) {a b : AccS} (hl : a.fr.length < 1000000) (hl2 : b.fr.length < 1000000) (h : Q (.v (.bool (sameA a b))) G) : Wf E (specOf l) pf12 [a.v, b.v] G Q := by
  obtain ⟨a1, a2, a3, a4, fa, a6⟩ := a
  obtain ⟨b1, b2, b3, b4, fb, b6⟩ := b
  have key : ∀ c : Bool, sameA ⟨a1, a2, a3, a4, fa, a6⟩ ⟨b1, b2, b3, b4, fb, b6⟩ = c → Q (.v (.bool c)) G := fun c e => by rw [← e]; exact h
  have no : ¬ (a1 = b1 ∧ a2 = b2 ∧ a3 = b3 ∧ a4 = b4 ∧ fa = fb ∧ a6 = b6) → Q (.v (.bool false)) G := fun e => key _ (decide_eq_false e)
  simp (maxSteps := 1000000) (implicitDefEqProofs := false) only [pf12, AccS.v, go_sem, ↓reduceIte]
  by_cases q1 : a1 = b1
  case neg => simp (maxSteps := 1000000) (implicitDefEqProofs := false) only [q1, go_sem, ↓reduceIte]; exact no fun e => q1 e.1
  by_cases q2 : a2 = b2
  case neg => simp (maxSteps := 1000000) (implicitDefEqProofs := false) only [q1, q2, go_sem, ↓reduceIte]; exact no fun e => q2 e.2.1
  by_cases q3 : a3 = b3
  case neg => simp (maxSteps := 1000000) (implicitDefEqProofs := false) only [q1, q2, q3, go_sem, ↓reduceIte]; exact no fun e => q3 e.2.2.1
  simp (maxSteps := 1000000) (implicitDefEqProofs := false) only [q1, q2, q3, go_sem, ↓reduceIte]
  by_cases q4 : a4 = b4
  case neg =>
    have q4' : (a4 == b4) = false := by simpa using q4
    simp (maxSteps := 1000000) (implicitDefEqProofs := false) only [q4', go_sem, ↓reduceIte]; exact no fun e => q4 e.2.2.2.1
  have q4' : (a4 == b4) = true := by simpa using q4
  simp (maxSteps := 1000000) (implicitDefEqProofs := false) only [q4', hE, ZEi_eq, go_sem, ↓reduceIte]
  refine ⟨⟨hl, hl2⟩, ?_⟩
  by_cases q5 : fa = fb
  case neg =>
    simp (maxSteps := 1000000) (implicitDefEqProofs := false) only [q5, go_sem, ↓reduceIte]; exact no fun e => q5 e.2.2.2.2.1
  simp (maxSteps := 1000000) (implicitDefEqProofs := false) only [q5, go_sem, ↓reduceIte]
  refine key _ ?_
  unfold sameA
  rw [Bool.eq_iff_iff]
  simp [q1, q2, q3, q4, q5]
def ZM10 : Spec1
  | [.agg [.int .i64 a1, .int .i64 a2, .int .i64 a3, .arr .u8 32 a4, x, .arr .u8 32 a6]], G, Q => ∃ fr : List Int, (FrV G x fr ∧ (⟨a1, a2, a3, a4, fr, a6⟩ : AccS).wf ∧ fr.length < 1000000) ∧ Q (.v (.bool (⟨a1, a2, a3, a4, fr, a6⟩ : AccS).may)) G
  | _, _, _ => False
theorem ZM10_eq {a1 a2 a3 a4 x a6} : ZM10 [.agg [.int .i64 a1, .int .i64 a2, .int .i64 a3, .arr .u8 32 a4, x, .arr .u8 32 a6]] G Q = (∃ fr : List Int, (FrV G x fr ∧ (⟨a1, a2, a3, a4, fr, a6⟩ : AccS).wf ∧ fr.length < 1000000) ∧ Q (.v (.bool (⟨a1, a2, a3, a4, fr, a6⟩ : AccS).may)) G) := rfl
theorem loop34i {QQ : Ex → St → Prop} {a1 a2 a3 : Int} {a4 a6 fr : List Int}  (hl : fr.length < 1000000)
    (hx : ∀ (j : Nat) ts, riseI 21 0 fr = true → QQ (.exit 0) ⟨[none, some (.lp 0 []), none, some (.v (.int .i64 (j : Nat)))], ts, [⟨false, .agg [.int .i64 a1, .int .i64 a2, .int .i64 a3, .arr .u8 32 a4, .sli .i64 fr, .arr .u8 32 a6]⟩], G⟩)
    (hr : ∀ σ : St, σ.G = G → St.ev σ (.v 2) = some (.v (.bool false)) → riseI 21 0 fr = false → QQ .ret σ) :
    ∀ (r : List Int) (j : Nat) (low : Int), fr.drop j = r → j ≤ fr.length → ((j = 0 ∧ low = 0) ∨ (1 ≤ j ∧ 1 ≤ low ∧ fr[j - 1]? = some low)) → riseI 21 0 fr = riseI 21 low r → WL (W E C lp34_0) [1, 3] QQ (r.length + 1) ⟨[none, some (.lp 0 []), none, some (.v (.int .i64 (j : Nat)))], [], [⟨false, .agg [.int .i64 a1, .int .i64 a2, .int .i64 a3, .arr .u8 32 a4, .sli .i64 fr, .arr .u8 32 a6]⟩], G⟩ := by
  intro r
  induction r with
  | nil =>
    intro j low h1 h2 hlow h3
    have := drop_none h1
    have c1 : ¬ (j : Int) < (fr.length : Int) := by omega
    refine WL_in lp34_0.eq_1 ?_
    simp (maxSteps := 1000000) (implicitDefEqProofs := false) only [c1, go_sem, ↓reduceIte]
    exact hx _ _ h3
  | cons p r ih =>
    intro j low h1 h2 hlow h3
    obtain ⟨hd, hj, hlen⟩ := drop_one h1
    have hjp := at_drop h1
    have g := getD_at h1
    have c1 : (j : Int) < (fr.length : Int) := by omega
    have c2 : (0 : Int) ≤ (j : Int) := by omega
    have w1 : IntKind.i64.wrap ((j : Int) + 1) = ((j + 1 : Nat) : Int) := wc (by omega) (by omega)
    have next := fun (hlo : ¬ (p ≤ low ∨ 21 < p)) => ih (j + 1) p hd (by omega) (.inr ⟨by omega, by omega, by rw [Nat.add_sub_cancel]; exact hjp⟩) (by rw [h3]; exact if_neg hlo)
    have stop := fun (hlo : p ≤ low ∨ 21 < p) => (by rw [h3]; exact if_pos hlo : riseI 21 0 fr = false)
    refine WL_in lp34_0.eq_1 ?_
    by_cases r1 : p < 1
    · have r1p : ¬ 1 ≤ p := by omega
      simp (maxSteps := 1000000) (implicitDefEqProofs := false) only [c1, c2, g, w1, Int.toNat_natCast, r1, r1p, go_sem, ↓reduceIte]
      skip
      exact hr _ rfl rfl (stop (by omega))
    have r1n : 1 ≤ p := by omega
    by_cases r2 : 21 < p
    · have r2p : ¬ p ≤ 21 := by omega
      simp (maxSteps := 1000000) (implicitDefEqProofs := false) only [c1, c2, g, w1, Int.toNat_natCast, r1, r1n, r2, r2p, go_sem, ↓reduceIte]
      skip
      exact hr _ rfl rfl (stop (by omega))
    have r2n : p ≤ 21 := by omega
    rcases hlow with ⟨rfl, rfl⟩ | ⟨hj1, hlo1, hjl⟩
    · have c1z : (0 : Int) < (fr.length : Int) := by omega
      have c1y : ¬ (fr.length : Int) ≤ 0 := by omega
      have w0 : IntKind.i64.wrap ((0 : Int) + 1) = ((0 + 1 : Nat) : Int) := by decide
      simp (maxSteps := 1000000) (implicitDefEqProofs := false) only [c1z, c1y, g, w0, Int.toNat_natCast, Int.toNat_zero, r1, r1n, r2, r2n, Int.natCast_zero, Int.lt_irrefl, go_sem, ↓reduceIte]
      skip
      exact next (by omega)
    · have w2 : IntKind.i64.wrap ((j : Int) - 1) = ((j - 1 : Nat) : Int) := wc (by omega) (by omega)
      have g2 := (by rw [List.getD_eq_getElem?_getD, hjl]; rfl : fr.getD (j - 1) 0 = low)
      have c0 : (0 : Int) < (j : Int) := by omega
      have c4 : (0 : Int) ≤ ((j - 1 : Nat) : Int) := by omega
      have c5 : ((j - 1 : Nat) : Int) < (fr.length : Int) := by omega
      by_cases r3 : p ≤ low
      · have r3n : ¬ low < p := by omega
        simp (maxSteps := 1000000) (implicitDefEqProofs := false) only [c0, c1, c2, c4, c5, g, g2, w1, w2, Int.toNat_natCast, r1, r1n, r2, r2n, r3, r3n, go_sem, ↓reduceIte]
        skip
        exact hr _ rfl rfl (stop (by omega))
      · have r3n : low < p := by omega
        simp (maxSteps := 1000000) (implicitDefEqProofs := false) only [c0, c1, c2, c4, c5, g, g2, w1, w2, Int.toNat_natCast, r1, r1n, r2, r2n, r3, r3n, go_sem, ↓reduceIte]
        skip
        exact next (by omega)
theorem walk34i {a1 a2 a3 : Int} {a4 a6 fr : List Int}  (hl : fr.length < 1000000) (hw : (⟨a1, a2, a3, a4, fr, a6⟩ : AccS).wf) (h : Q (.v (.bool (⟨a1, a2, a3, a4, fr, a6⟩ : AccS).may)) G) : Wf E C pf34 [.agg [.int .i64 a1, .int .i64 a2, .int .i64 a3, .arr .u8 32 a4, .sli .i64 fr, .arr .u8 32 a6]] G Q := by
  have key : ∀ b : Bool, (⟨a1, a2, a3, a4, fr, a6⟩ : AccS).may = b → Q (.v (.bool b)) G := fun b e => by rw [← e]; exact h
  simp (maxSteps := 1000000) (implicitDefEqProofs := false) only [pf34, go_sem, ↓reduceIte]
  refine ⟨fr.length + 1, ?_⟩
  refine loop34i (hl) (fun j ts e => ?_) (fun σ e1 e2 e3 => ?_) fr 0 0 rfl (Nat.zero_le _) (.inl ⟨rfl, rfl⟩) rfl
  rotate_left
  · show resQ Q σ.G (rD (St.ev σ (.v 2)))
    rw [e1, e2]
    exact key _ (decide_eq_false fun hM => by have := hM.2.2.2.2; dsimp only at this; rw [e3] at this; cases this)
  have hM : ∀ b : Bool, (b = true ↔ (1 ≤ a1 ∧ a1 ≤ 21 ∧ 1 ≤ a2 ∧ a2 ≤ 1099511627776 ∧ 0 ≤ a3 ∧ a3 < a2 ∧ (1 : Int) ≤ (fr.length : Nat))) → Q (.v (.bool b)) G := fun b hb => key b (by
    rw [Bool.eq_iff_iff, hb]
    unfold AccS.may
    rw [decide_eq_true_eq]
    constructor
    · intro hM; obtain ⟨m1, m2, m3, m4, m5⟩ := hM
      have := List.length_pos_iff.2 m4
      dsimp only at m1 m2 m3 this
      omega
    · intro hc
      exact ⟨⟨hc.1, hc.2.1⟩, ⟨hc.2.2.1, hc.2.2.2.1⟩, ⟨hc.2.2.2.2.1, hc.2.2.2.2.2.1⟩, List.length_pos_iff.1 (by have := hc.2.2.2.2.2.2; dsimp only; omega), e⟩)
  simp (maxSteps := 1000000) (implicitDefEqProofs := false) only [go_sem, ↓reduceIte]
  repeat' first | (intro _) | constructor
  all_goals
    refine hM _ ?_
    first
    | (constructor <;> intro hh <;> first | (cases hh; done) | rfl | omega | exact absurd hh (by omega))
    | (rw [decide_eq_true_eq]; constructor <;> intro hh <;> omega)
    | (constructor
       · intro hh; cases hh
       · intro hh; have := hh.2.2.2.2.2.2; simp at this)
theorem walk34n {a1 a2 a3 : Int} {a4 a6 : List Int}  (hl : ([] : List Int).length < 1000000) (hw : (⟨a1, a2, a3, a4, [], a6⟩ : AccS).wf) (h : Q (.v (.bool (⟨a1, a2, a3, a4, [], a6⟩ : AccS).may)) G) : Wf E C pf34 [.agg [.int .i64 a1, .int .i64 a2, .int .i64 a3, .arr .u8 32 a4, .nils, .arr .u8 32 a6]] G Q := by
  have key : ∀ b : Bool, (⟨a1, a2, a3, a4, [], a6⟩ : AccS).may = b → Q (.v (.bool b)) G := fun b e => by rw [← e]; exact h
  simp (maxSteps := 1000000) (implicitDefEqProofs := false) only [pf34, go_sem, ↓reduceIte]
  refine ⟨0 + 1, ?_⟩
  refine WL_in lp34_0.eq_1 ?_
  have hM : ∀ b : Bool, (b = true ↔ (1 ≤ a1 ∧ a1 ≤ 21 ∧ 1 ≤ a2 ∧ a2 ≤ 1099511627776 ∧ 0 ≤ a3 ∧ a3 < a2 ∧ (1 : Int) ≤ (([] : List Int).length : Nat))) → Q (.v (.bool b)) G := fun b hb => key b (by
    rw [Bool.eq_iff_iff, hb]
    unfold AccS.may
    rw [decide_eq_true_eq]
    constructor
    · intro hM; obtain ⟨m1, m2, m3, m4, m5⟩ := hM
      have := List.length_pos_iff.2 m4
      dsimp only at m1 m2 m3 this
      omega
    · intro hc
      exact ⟨⟨hc.1, hc.2.1⟩, ⟨hc.2.2.1, hc.2.2.2.1⟩, ⟨hc.2.2.2.2.1, hc.2.2.2.2.2.1⟩, List.length_pos_iff.1 (by have := hc.2.2.2.2.2.2; dsimp only; omega), rfl⟩)
  simp (maxSteps := 1000000) (implicitDefEqProofs := false) only [go_sem, ↓reduceIte]
  repeat' first | (intro _) | constructor
  all_goals
    refine hM _ ?_
    first
    | (constructor <;> intro hh <;> first | (cases hh; done) | rfl | omega | exact absurd hh (by omega))
    | (rw [decide_eq_true_eq]; constructor <;> intro hh <;> omega)
    | (constructor
       · intro hh; cases hh
       · intro hh; have := hh.2.2.2.2.2.2; simp at this)
theorem loop34s {QQ : Ex → St → Prop} {a1 a2 a3 : Int} {a4 a6 fr : List Int} {id c : Nat} {LL : List V} (hG : Abs.look G id = some (.agg LL)) (hLL : ∀ (i : Nat) p, fr[i]? = some p → LL[i]? = some (.int .i64 p)) (hfl : fr.length ≤ LL.length) (hsz : ∀ y ∈ LL, V.size y = 1) (hl : fr.length < 1000000)
    (hx : ∀ (j : Nat) ts, riseI 21 0 fr = true → QQ (.exit 0) ⟨[none, some (.lp 0 []), none, some (.v (.int .i64 (j : Nat)))], ts, [⟨false, .agg [.int .i64 a1, .int .i64 a2, .int .i64 a3, .arr .u8 32 a4, .sob id 1 0 fr.length c, .arr .u8 32 a6]⟩], G⟩)
    (hr : ∀ σ : St, σ.G = G → St.ev σ (.v 2) = some (.v (.bool false)) → riseI 21 0 fr = false → QQ .ret σ) :
    ∀ (r : List Int) (j : Nat) (low : Int), fr.drop j = r → j ≤ fr.length → ((j = 0 ∧ low = 0) ∨ (1 ≤ j ∧ 1 ≤ low ∧ fr[j - 1]? = some low)) → riseI 21 0 fr = riseI 21 low r → WL (W E C lp34_0) [1, 3] QQ (r.length + 1) ⟨[none, some (.lp 0 []), none, some (.v (.int .i64 (j : Nat)))], [], [⟨false, .agg [.int .i64 a1, .int .i64 a2, .int .i64 a3, .arr .u8 32 a4, .sob id 1 0 fr.length c, .arr .u8 32 a6]⟩], G⟩ := by
  intro r
  induction r with
  | nil =>
    intro j low h1 h2 hlow h3
    have := drop_none h1
    have c1 : ¬ (j : Int) < (fr.length : Int) := by omega
    refine WL_in lp34_0.eq_1 ?_
    simp (maxSteps := 1000000) (implicitDefEqProofs := false) only [c1, go_sem, ↓reduceIte]
    exact hx _ _ h3
  | cons p r ih =>
    intro j low h1 h2 hlow h3
    obtain ⟨hd, hj, hlen⟩ := drop_one h1
    have hjp := at_drop h1
    have g := hLL j p (at_drop h1)
    have c1 : (j : Int) < (fr.length : Int) := by omega
    have c2 : (0 : Int) ≤ (j : Int) := by omega
    have w1 : IntKind.i64.wrap ((j : Int) + 1) = ((j + 1 : Nat) : Int) := wc (by omega) (by omega)
    have next := fun (hlo : ¬ (p ≤ low ∨ 21 < p)) => ih (j + 1) p hd (by omega) (.inr ⟨by omega, by omega, by rw [Nat.add_sub_cancel]; exact hjp⟩) (by rw [h3]; exact if_neg hlo)
    have stop := fun (hlo : p ≤ low ∨ 21 < p) => (by rw [h3]; exact if_pos hlo : riseI 21 0 fr = false)
    refine WL_in lp34_0.eq_1 ?_
    by_cases r1 : p < 1
    · have r1p : ¬ 1 ≤ p := by omega
      simp (maxSteps := 1000000) (implicitDefEqProofs := false) only [c1, c2, g, hG, w1, Int.toNat_natCast, r1, r1p, go_sem, ↓reduceIte]
      repeat (first | refine And.intro ⟨by omega, hsz⟩ ?_ | refine And.intro ⟨⟨by omega, by omega⟩, by omega, hsz⟩ ?_ | refine And.intro ⟨⟨by omega, by omega⟩, by omega⟩ ?_)
      exact hr _ rfl rfl (stop (by omega))
    have r1n : 1 ≤ p := by omega
    by_cases r2 : 21 < p
    · have r2p : ¬ p ≤ 21 := by omega
      simp (maxSteps := 1000000) (implicitDefEqProofs := false) only [c1, c2, g, hG, w1, Int.toNat_natCast, r1, r1n, r2, r2p, go_sem, ↓reduceIte]
      repeat (first | refine And.intro ⟨by omega, hsz⟩ ?_ | refine And.intro ⟨⟨by omega, by omega⟩, by omega, hsz⟩ ?_ | refine And.intro ⟨⟨by omega, by omega⟩, by omega⟩ ?_)
      exact hr _ rfl rfl (stop (by omega))
    have r2n : p ≤ 21 := by omega
    rcases hlow with ⟨rfl, rfl⟩ | ⟨hj1, hlo1, hjl⟩
    · have c1z : (0 : Int) < (fr.length : Int) := by omega
      have c1y : ¬ (fr.length : Int) ≤ 0 := by omega
      have w0 : IntKind.i64.wrap ((0 : Int) + 1) = ((0 + 1 : Nat) : Int) := by decide
      simp (maxSteps := 1000000) (implicitDefEqProofs := false) only [c1z, c1y, g, hG, w0, Int.toNat_natCast, Int.toNat_zero, r1, r1n, r2, r2n, Int.natCast_zero, Int.lt_irrefl, go_sem, ↓reduceIte]
      repeat (first | refine And.intro ⟨by omega, hsz⟩ ?_ | refine And.intro ⟨⟨by omega, by omega⟩, by omega, hsz⟩ ?_ | refine And.intro ⟨⟨by omega, by omega⟩, by omega⟩ ?_)
      exact next (by omega)
    · have w2 : IntKind.i64.wrap ((j : Int) - 1) = ((j - 1 : Nat) : Int) := wc (by omega) (by omega)
      have g2 := hLL _ _ hjl
      have c0 : (0 : Int) < (j : Int) := by omega
      have c4 : (0 : Int) ≤ ((j - 1 : Nat) : Int) := by omega
      have c5 : ((j - 1 : Nat) : Int) < (fr.length : Int) := by omega
      by_cases r3 : p ≤ low
      · have r3n : ¬ low < p := by omega
        simp (maxSteps := 1000000) (implicitDefEqProofs := false) only [c0, c1, c2, c4, c5, g, g2, hG, w1, w2, Int.toNat_natCast, r1, r1n, r2, r2n, r3, r3n, go_sem, ↓reduceIte]
        repeat (first | refine And.intro ⟨by omega, hsz⟩ ?_ | refine And.intro ⟨⟨by omega, by omega⟩, by omega, hsz⟩ ?_ | refine And.intro ⟨⟨by omega, by omega⟩, by omega⟩ ?_)
        exact hr _ rfl rfl (stop (by omega))
      · have r3n : low < p := by omega
        simp (maxSteps := 1000000) (implicitDefEqProofs := false) only [c0, c1, c2, c4, c5, g, g2, hG, w1, w2, Int.toNat_natCast, r1, r1n, r2, r2n, r3, r3n, go_sem, ↓reduceIte]
        repeat (first | refine And.intro ⟨by omega, hsz⟩ ?_ | refine And.intro ⟨⟨by omega, by omega⟩, by omega, hsz⟩ ?_ | refine And.intro ⟨⟨by omega, by omega⟩, by omega⟩ ?_)
        exact next (by omega)
theorem walk34s {a1 a2 a3 : Int} {a4 a6 fr : List Int} {id c : Nat} {LL : List V} (hG : Abs.look G id = some (.agg LL)) (hLL : ∀ (i : Nat) p, fr[i]? = some p → LL[i]? = some (.int .i64 p)) (hfl : fr.length ≤ LL.length) (hsz : ∀ y ∈ LL, V.size y = 1) (hl : fr.length < 1000000) (hw : (⟨a1, a2, a3, a4, fr, a6⟩ : AccS).wf) (h : Q (.v (.bool (⟨a1, a2, a3, a4, fr, a6⟩ : AccS).may)) G) : Wf E C pf34 [.agg [.int .i64 a1, .int .i64 a2, .int .i64 a3, .arr .u8 32 a4, .sob id 1 0 fr.length c, .arr .u8 32 a6]] G Q := by
  have key : ∀ b : Bool, (⟨a1, a2, a3, a4, fr, a6⟩ : AccS).may = b → Q (.v (.bool b)) G := fun b e => by rw [← e]; exact h
  simp (maxSteps := 1000000) (implicitDefEqProofs := false) only [pf34, go_sem, ↓reduceIte]
  refine ⟨fr.length + 1, ?_⟩
  refine loop34s hG hLL hfl hsz (hl) (fun j ts e => ?_) (fun σ e1 e2 e3 => ?_) fr 0 0 rfl (Nat.zero_le _) (.inl ⟨rfl, rfl⟩) rfl
  rotate_left
  · show resQ Q σ.G (rD (St.ev σ (.v 2)))
    rw [e1, e2]
    exact key _ (decide_eq_false fun hM => by have := hM.2.2.2.2; dsimp only at this; rw [e3] at this; cases this)
  have hM : ∀ b : Bool, (b = true ↔ (1 ≤ a1 ∧ a1 ≤ 21 ∧ 1 ≤ a2 ∧ a2 ≤ 1099511627776 ∧ 0 ≤ a3 ∧ a3 < a2 ∧ (1 : Int) ≤ (fr.length : Nat))) → Q (.v (.bool b)) G := fun b hb => key b (by
    rw [Bool.eq_iff_iff, hb]
    unfold AccS.may
    rw [decide_eq_true_eq]
    constructor
    · intro hM; obtain ⟨m1, m2, m3, m4, m5⟩ := hM
      have := List.length_pos_iff.2 m4
      dsimp only at m1 m2 m3 this
      omega
    · intro hc
      exact ⟨⟨hc.1, hc.2.1⟩, ⟨hc.2.2.1, hc.2.2.2.1⟩, ⟨hc.2.2.2.2.1, hc.2.2.2.2.2.1⟩, List.length_pos_iff.1 (by have := hc.2.2.2.2.2.2; dsimp only; omega), e⟩)
  simp (maxSteps := 1000000) (implicitDefEqProofs := false) only [go_sem, ↓reduceIte]
  repeat' first | (intro _) | constructor
  all_goals
    refine hM _ ?_
    first
    | (constructor <;> intro hh <;> first | (cases hh; done) | rfl | omega | exact absurd hh (by omega))
    | (rw [decide_eq_true_eq]; constructor <;> intro hh <;> omega)
    | (constructor
       · intro hh; cases hh
       · intro hh; have := hh.2.2.2.2.2.2; simp at this)
theorem walk11 {kt : List Int} (hQ : Abs.look l 48 = some ZQu) (hM : Abs.look l 34 = some ZM10) (hT : Abs.look l 49 = some (ZTa kt)) {n : Int} {a : AccS} (hw : a.wf) (hl : a.fr.length < 1000000) (hI : I64 n) (h : Q (.v (.bool (a.right kt n))) G) : Wf E (specOf l) pf11 [.int .i64 n, a.v] G Q := by
  have hq0 := quo_nn n
  obtain ⟨a1, a2, a3, a4, fr, a6⟩ := a
  have key : ∀ c : Bool, AccS.right kt n ⟨a1, a2, a3, a4, fr, a6⟩ = c → Q (.v (.bool c)) G := fun c e => by rw [← e]; exact h
  unfold AccS.right at key
  dsimp only at key
  simp (maxSteps := 1000000) (implicitDefEqProofs := false) only [pf11, AccS.v, hQ, ZQu_eq, go_sem, ↓reduceIte]
  refine ⟨hI, ?_⟩
  by_cases q0 : quo n = 0
  case pos =>
    simp (maxSteps := 1000000) (implicitDefEqProofs := false) only [q0, Int.lt_irrefl, go_sem, ↓reduceIte]
    exact key _ (by simp [q0])
  have q0' : 0 < quo n := by omega
  have q0n : ¬ quo n ≤ 0 := by omega
  simp (maxSteps := 1000000) (implicitDefEqProofs := false) only [q0', q0n, hM, ZM10_eq, go_sem, ↓reduceIte]
  refine ⟨fr, ⟨.inl rfl, hw, hl⟩, ?_⟩
  by_cases q1 : AccS.May ⟨a1, a2, a3, a4, fr, a6⟩
  case neg =>
    have q1' : AccS.may ⟨a1, a2, a3, a4, fr, a6⟩ = false := decide_eq_false q1
    simp (maxSteps := 1000000) (implicitDefEqProofs := false) only [q1', go_sem, ↓reduceIte]
    exact key false (by rw [q1']; simp)
  have q1' : AccS.may ⟨a1, a2, a3, a4, fr, a6⟩ = true := decide_eq_true q1
  by_cases q2 : a1 ≤ n
  case neg =>
    simp (maxSteps := 1000000) (implicitDefEqProofs := false) only [q1', q2, go_sem, ↓reduceIte]
    first | exact key false (by simp [q2]) | exact fun _ => key false (by simp [q2])
  have q2n : ¬ n < a1 := by omega
  by_cases q3 : (fr.length : Int) = quo n
  case neg =>
    simp (maxSteps := 1000000) (implicitDefEqProofs := false) only [q1', q2, q2n, q3, go_sem, ↓reduceIte]
    first | exact key false (by simp [q3]) | exact fun _ => key false (by simp [q3])
  have hln := AccS.may_len q1
  dsimp only at hln
  have w1 : IntKind.i64.wrap ((fr.length : Int) - 1) = (fr.length : Int) - 1 := w64 (by omega) (by omega)
  have b3 : (0 : Int) ≤ (fr.length : Int) - 1 := by omega
  have b4 : (fr.length : Int) - 1 < (fr.length : Int) := by omega
  have t2 : ((fr.length : Int) - 1).toNat = fr.length - 1 := by omega
  by_cases q4 : fr.getLast?.getD 0 ≤ n
  case neg =>
    simp (maxSteps := 1000000) (implicitDefEqProofs := false) only [q1', q2, q2n, q3, w1, b3, b4, t2, getD_last, q4, go_sem, ↓reduceIte]
    rw [← q3]
    simp (maxSteps := 1000000) (implicitDefEqProofs := false) only [w1, b3, b4, t2, getD_last, q4, go_sem, ↓reduceIte]
    first | exact key false (by simp [q4]) | exact fun _ => key false (by simp [q4]) | exact ⟨by omega, key false (by simp [q4])⟩ | exact ⟨by omega, fun _ => key false (by simp [q4])⟩
  have q4n : ¬ n < fr.getLast?.getD 0 := by omega
  simp (maxSteps := 1000000) (implicitDefEqProofs := false) only [q1', q2, q2n, q3, w1, b3, b4, t2, getD_last, q4, q4n, go_sem, ↓reduceIte]
  rw [← q3]
  simp (maxSteps := 1000000) (implicitDefEqProofs := false) only [w1, b3, b4, t2, getD_last, q4, q4n, hT, ZTa_eq, go_sem, ↓reduceIte]
  have hfin : ∀ c : Bool, c = (a6 == AccS.tag kt ⟨a1, a2, a3, a4, fr, a6⟩) → Q (.v (.bool c)) G := fun c hc => key c (by
    rw [hc, decide_eq_true q0, q1', decide_eq_true q2, decide_eq_true q3, decide_eq_true q4]
    rw [Bool.eq_iff_iff]; simp)
  first
  | exact ⟨fr, ⟨.inl rfl, hw, q1⟩, hfin _ rfl⟩
  | exact ⟨by omega, fr, ⟨.inl rfl, hw, q1⟩, hfin _ rfl⟩
  | exact ⟨⟨by omega, by omega⟩, fr, ⟨.inl rfl, hw, q1⟩, hfin _ rfl⟩
theorem walk3 (hA : Abs.look l 9 = some ZAx) (hR : Abs.look l 10 = some (ZRa K256)) (hR2 : Abs.look l 11 = some (ZRa K256)) (hS : Abs.look l 12 = some ZS10) (hS2 : Abs.look l 13 = some ZS10)
    {n : Int} {a b : AccS} (hI : I64 n) (hw : a.wf) (hw2 : b.wf) (h : Q (.v (.bool true)) G) : Wf E (specOf l) pf3 [.int .i64 n, a.v, b.v] G Q := by
  obtain ⟨a1, a2, a3, a4, fa, a6⟩ := a
  obtain ⟨b1, b2, b3, b4, fb, b6⟩ := b
  by_cases c1 : (30 : Int) < fa.length
  · simp (maxSteps := 1000000) (implicitDefEqProofs := false) only [pf3, AccS.v, c1, hA, ZAx_eq, go_sem, ↓reduceIte]
    exact h
  by_cases c2 : (30 : Int) < fb.length
  · simp (maxSteps := 1000000) (implicitDefEqProofs := false) only [pf3, AccS.v, c1, c2, hA, ZAx_eq, go_sem, ↓reduceIte]
    exact h
  simp (maxSteps := 1000000) (implicitDefEqProofs := false) only [pf3, AccS.v, c1, c2, hR, hR2, ZRa_eq, go_sem, ↓reduceIte]
  refine ⟨⟨a1, a2, a3, a4, fa, a6⟩, ⟨rfl, hw, by dsimp only; omega, hI⟩, ⟨a1, a2, a3, a4, fa, a6⟩, ⟨rfl, hw, by dsimp only; omega, hI⟩, ?_⟩
  simp (maxSteps := 1000000) (implicitDefEqProofs := false) only [beq_self_eq_true, hS, hS2, ZS10_eq, go_sem, ↓reduceIte]
  refine ⟨⟨a1, a2, a3, a4, fa, a6⟩, ⟨b1, b2, b3, b4, fb, b6⟩, ⟨rfl, rfl, by dsimp only; omega, by dsimp only; omega⟩, ⟨a1, a2, a3, a4, fa, a6⟩, ⟨b1, b2, b3, b4, fb, b6⟩, ⟨rfl, rfl, by dsimp only; omega, by dsimp only; omega⟩, ?_⟩
  simp (maxSteps := 1000000) (implicitDefEqProofs := false) only [beq_self_eq_true, hS, ZS10_eq, go_sem, ↓reduceIte]
  refine ⟨⟨a1, a2, a3, a4, fa, a6⟩, ⟨a1, a2, a3, a4, fa, a6⟩, ⟨rfl, rfl, by dsimp only; omega, by dsimp only; omega⟩, ?_⟩
  have hs : sameA ⟨a1, a2, a3, a4, fa, a6⟩ ⟨a1, a2, a3, a4, fa, a6⟩ = true := by unfold sameA; simp
  rw [hs]
  simp (maxSteps := 1000000) (implicitDefEqProofs := false) only [hA, ZAx_eq, go_sem, ↓reduceIte]
  exact h
end Go.Proofs.YtegamlopcdjiaaaDoor.Sha
