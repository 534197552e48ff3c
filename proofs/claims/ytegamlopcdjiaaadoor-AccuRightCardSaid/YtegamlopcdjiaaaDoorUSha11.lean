/- Laws over plain values, and what functions of the program hand back; no conditions. -/
import Derived.Test.YtegamlopcdjiaaaDoorUSha10
namespace Go.Proofs.YtegamlopcdjiaaaDoor.Sha
open Go Go.Abs Go.Abs.Sha
set_option linter.unusedSimpArgs false
set_option linter.unusedVariables false
set_option maxRecDepth 100000
def pf85 : PF :=
  PF.mk 1 3 9 ((PC.reg [nn (.v 2) (.mv true (.c (.v (.bool false))))]).seq ((PC.reg [mm 3 0, nn (.t 4) (.bin .geq (.t 3) (.c (.v (.int .i64 1)))), nn (.t
    5) (.mv false (.t 4)), gm 6 0 5 true, ⟨.t 7, .bin .leq (.t 6) (.c (.v (.int .i64 21))), some (.t 5, true)⟩, nn (.t 8) (.pick (.t 5) (.t 7) (.c (.v
    (.bool false)))), ma 2 8]).seq PC.ret)) [(.v 2, none)]
def pf107 : PF :=
  PF.mk 1 3 14 ((PC.reg [nn (.v 2) (.alloc (.arr .u8 32 [0, 0, 0, 0, 0, 0, 0, 0, 0, 0, 0, 0, 0, 0, 0, 0, 0, 0, 0, 0, 0, 0, 0, 0, 0, 0, 0, 0, 0, 0, 0,
    0]))]).seq (((PC.reg [mm 3 0, nn (.t 4) (.call 85 [.t 3]), nn (.t 5) (.un .not (.t 4))]).seq (PC.cond (.t 5) ((PC.reg [nn (.t 6) (.build (.arr .u8 32
    [0, 0, 0, 0, 0, 0, 0, 0, 0, 0, 0, 0, 0, 0, 0, 0, 0, 0, 0, 0, 0, 0, 0, 0, 0, 0, 0, 0, 0, 0, 0, 0]) []), nn .no (.store 32 (.v 2) (.t 6))]).seq PC.ret)
    PC.skip)).seq ((PC.reg [nn (.t 7) (.buildR (some .u8) 1 (.int .u8 0) 12 [(0, .c (.v (.int .u8 116))), (1, .c (.v (.int .u8 105))), (2, .c (.v (.int
    .u8 116))), (3, .c (.v (.int .u8 104))), (4, .c (.v (.int .u8 105))), (5, .c (.v (.int .u8 110))), (6, .c (.v (.int .u8 103))), (7, .c (.v (.int .u8
    32))), (8, .c (.v (.int .u8 107))), (9, .c (.v (.int .u8 101))), (10, .c (.v (.int .u8 121))), (11, .c (.v (.int .u8 32)))]), nn (.t 8) (.cvt (.t
    7)), mm 9 0, nn (.t 10) (.conv .u8 (.t 9)), nn (.t 11) (.buildS (some .u8) 1 (.int .u8 0) 1 [(0, .t 10)]), nn (.t 12) (.buildS none 1 .nils 2 [(0, .t
    8), (1, .t 11)]), nn (.t 13) (.call 115 [.t 12]), nn .no (.store 32 (.v 2) (.t 13))]).seq PC.ret))) [(.v 2, some (32, true))]
def pf82 : PF :=
  PF.mk 3 8 22 ((PC.reg [nn (.v 6) (.alloc (.arr .u8 32 [0, 0, 0, 0, 0, 0, 0, 0, 0, 0, 0, 0, 0, 0, 0, 0, 0, 0, 0, 0, 0, 0, 0, 0, 0, 0, 0, 0, 0, 0, 0,
    0]))]).seq (((PC.reg [mm 8 0, nn (.t 9) (.call 85 [.t 8]), nn (.t 10) (.un .not (.t 9))]).seq (PC.cond (.t 10) ((PC.reg [nn (.t 11) (.build (.arr .u8
    32 [0, 0, 0, 0, 0, 0, 0, 0, 0, 0, 0, 0, 0, 0, 0, 0, 0, 0, 0, 0, 0, 0, 0, 0, 0, 0, 0, 0, 0, 0, 0, 0]) []), nn .no (.store 32 (.v 6) (.t 11))]).seq
    PC.ret) PC.skip)).seq ((PC.reg [mm 12 0, nn (.t 13) (.call 107 [.t 12]), nn (.v 7) (.alloc (.arr .u8 32 [0, 0, 0, 0, 0, 0, 0, 0, 0, 0, 0, 0, 0, 0, 0,
    0, 0, 0, 0, 0, 0, 0, 0, 0, 0, 0, 0, 0, 0, 0, 0, 0])), nn .no (.store 32 (.v 7) (.t 13))]).seq ((PC.regD 0 [nn (.t 14) (.slcA 32 false (.v 7) none
    none none), mm 15 1, nn (.t 16) (.buildS (some .u8) 1 (.int .u8 0) 1 [(0, .t 15)]), nn (.t 17) (.buildS none 1 .nils 1 [(0, .t 16)]), mm 18 2, nn (.t
    19) (.buildS none 1 .nils 2 [(0, .t 17), (1, .t 18)]), nn (.t 20) (.call 109 [.t 19]), nn (.t 21) (.call 108 [.t 14, .t 20]), nn .no (.store 32 (.v
    6) (.t 21))] [(0, 6)]).seq PC.ret)))) [(.v 6, some (32, true))]
def pf46 : PF :=
  PF.mk 4 9 19 ((PC.reg [nn (.v 6) (.box (.v 2)), nn (.v 8) (.mv true (.c (.v (.bool false))))]).seq ((PC.regD 0 [mm 9 0, nn (.t 10) (.call 85 [.t 9]),
    nn (.t 11) (.mv false (.t 10)), ⟨.t 12, .load 32 true (.v 6), some (.t 11, true)⟩, gm 13 0 11 true, gm 14 1 11 true, gm 15 3 11 true, ⟨.t 16, .call
    82 [.t 13, .t 14, .t 15], some (.t 11, true)⟩, ⟨.t 17, .call 86 [.t 12, .t 16], some (.t 11, true)⟩, nn (.t 18) (.pick (.t 11) (.t 17) (.c (.v (.bool
    false)))), ma 8 18] []).seq PC.ret)) [(.v 8, none)]
def pf110 : PF :=
  PF.mk 1 3 17 ((PC.reg [nn (.v 2) (.alloc (.arr .u8 32 [0, 0, 0, 0, 0, 0, 0, 0, 0, 0, 0, 0, 0, 0, 0, 0, 0, 0, 0, 0, 0, 0, 0, 0, 0, 0, 0, 0, 0, 0, 0,
    0]))]).seq (((PC.reg [mm 3 0, nn (.t 4) (.bin .lss (.t 3) (.c (.v (.int .i64 1)))), nn (.t 5) (.mv false (.t 4)), gm 6 0 5 false, ⟨.t 7, .bin .gtr
    (.t 6) (.c (.v (.int .i64 21))), some (.t 5, false)⟩, nn (.t 8) (.pick (.t 5) (.c (.v (.bool true))) (.t 7))]).seq (PC.cond (.t 8) ((PC.reg [nn (.t
    9) (.build (.arr .u8 32 [0, 0, 0, 0, 0, 0, 0, 0, 0, 0, 0, 0, 0, 0, 0, 0, 0, 0, 0, 0, 0, 0, 0, 0, 0, 0, 0, 0, 0, 0, 0, 0]) []), nn .no (.store 32 (.v
    2) (.t 9))]).seq PC.ret) PC.skip)).seq ((PC.reg [nn (.t 10) (.buildR (some .u8) 1 (.int .u8 0) 12 [(0, .c (.v (.int .u8 116))), (1, .c (.v (.int .u8
    105))), (2, .c (.v (.int .u8 116))), (3, .c (.v (.int .u8 104))), (4, .c (.v (.int .u8 105))), (5, .c (.v (.int .u8 110))), (6, .c (.v (.int .u8
    103))), (7, .c (.v (.int .u8 32))), (8, .c (.v (.int .u8 107))), (9, .c (.v (.int .u8 101))), (10, .c (.v (.int .u8 121))), (11, .c (.v (.int .u8
    32)))]), nn (.t 11) (.cvt (.t 10)), mm 12 0, nn (.t 13) (.conv .u8 (.t 12)), nn (.t 14) (.buildS (some .u8) 1 (.int .u8 0) 1 [(0, .t 13)]), nn (.t
    15) (.app (some .u8) 1 1 (.t 11) (.t 14)), nn (.t 16) (.call 119 [.t 15]), nn .no (.store 32 (.v 2) (.t 16))]).seq PC.ret))) [(.v 2, some (32,
    true))]
def lp87_0 : PC :=
  ((PC.reg [mm 20 9, nn (.t 21) (.bin .lss (.t 20) (.c (.v (.int .i64 32))))]).seq (PC.cond (.t 21) PC.skip (PC.exit 0))).seq ((PC.block 1 (PC.reg [nn
    (.t 24) (.mv true (.v 8)), mm 25 9, nn (.t 26) (.iadrA 32 (.v 7) (.t 25)), nn (.t 27) (.load 1 false (.t 26)), nn (.t 28) (.buildS (some .u8) 1 (.int
    .u8 0) 1 [(0, .t 27)]), nn (.t 29) (.app (some .u8) 1 1 (.t 24) (.t 28)), ma 8 29])).seq (PC.reg [mm 22 9, nn (.t 23) (.bin .add (.t 22) (.c (.v
    (.int .i64 1)))), ma 9 23]))
def pf87 : PF :=
  PF.mk 3 10 36 ((PC.reg [nn (.v 6) (.alloc (.arr .u8 32 [0, 0, 0, 0, 0, 0, 0, 0, 0, 0, 0, 0, 0, 0, 0, 0, 0, 0, 0, 0, 0, 0, 0, 0, 0, 0, 0, 0, 0, 0, 0,
    0]))]).seq (((PC.reg [mm 10 0, nn (.t 11) (.bin .lss (.t 10) (.c (.v (.int .i64 1)))), nn (.t 12) (.mv false (.t 11)), gm 13 0 12 false, ⟨.t 14, .bin
    .gtr (.t 13) (.c (.v (.int .i64 21))), some (.t 12, false)⟩, nn (.t 15) (.pick (.t 12) (.c (.v (.bool true))) (.t 14))]).seq (PC.cond (.t 15)
    ((PC.reg [nn (.t 16) (.build (.arr .u8 32 [0, 0, 0, 0, 0, 0, 0, 0, 0, 0, 0, 0, 0, 0, 0, 0, 0, 0, 0, 0, 0, 0, 0, 0, 0, 0, 0, 0, 0, 0, 0, 0]) []), nn
    .no (.store 32 (.v 6) (.t 16))]).seq PC.ret) PC.skip)).seq ((PC.reg [mm 17 0, nn (.t 18) (.call 110 [.t 17]), nn (.v 7) (.alloc (.arr .u8 32 [0, 0,
    0, 0, 0, 0, 0, 0, 0, 0, 0, 0, 0, 0, 0, 0, 0, 0, 0, 0, 0, 0, 0, 0, 0, 0, 0, 0, 0, 0, 0, 0])), nn .no (.store 32 (.v 7) (.t 18))]).seq ((PC.reg [nn (.t
    19) (.buildS (some .u8) 1 (.int .u8 0) 0 []), ma 8 19]).seq (((PC.reg [nn (.v 9) (.mv true (.c (.v (.int .i64 0))))]).seq (PC.block 0 (PC.loop [1, 2,
    6, 7, 8, 9] lp87_0))).seq ((PC.reg [mm 30 8, mm 31 1, nn (.t 32) (.buildS (some .u8) 1 (.int .u8 0) 1 [(0, .t 31)]), mm 33 2, nn (.t 34) (.app (some
    .u8) 1 1 (.t 32) (.t 33)), nn (.t 35) (.call 111 [.t 30, .t 34]), nn .no (.store 32 (.v 6) (.t 35))]).seq PC.ret)))))) [(.v 6, some (32, true))]
attribute [local irreducible] W Wops WopsD WL Wop WopD
variable {E : Env} {C : Abs.Spec} {l : List (Nat × Spec1)} {G : List (Nat × V)} {Q : R → List (Nat × V) → Prop}
set_option maxHeartbeats 1000000
def SNo : Spec1
  | [.int .i64 n], G, Q => Q (.v (.bool (decide (1 ≤ n ∧ n ≤ 21)))) G
  | _, _, _ => False
theorem SNo_eq {n} : SNo [.int .i64 n] G Q = (Q (.v (.bool (decide (1 ≤ n ∧ n ≤ 21)))) G) := rfl
def SKe (kt : List Int) : Spec1
  | [.int .i64 n], G, Q => Q (.v (.arr .u8 32 (keyH kt n))) G
  | _, _, _ => False
theorem SKe_eq {kt n} : SKe kt [.int .i64 n] G Q = (Q (.v (.arr .u8 32 (keyH kt n))) G) := rfl
def STa (kt : List Int) : Spec1
  | [.int .i64 n, .int .u8 d, y], G, Q => ∃ c r, ((0 ≤ d ∧ d ≤ 255) ∧ rowV y = some r ∧ r.length < 10000000000 ∧ catL r = some c ∧ Byt c ∧ c.length < 1000000000000) ∧ Q (.v (.arr .u8 32 (tagH kt n d c))) G
  | _, _, _ => False
theorem STa_eq {kt n d y} : STa kt [.int .i64 n, .int .u8 d, y] G Q = (∃ c r, ((0 ≤ d ∧ d ≤ 255) ∧ rowV y = some r ∧ r.length < 10000000000 ∧ catL r = some c ∧ Byt c ∧ c.length < 1000000000000) ∧ Q (.v (.arr .u8 32 (tagH kt n d c))) G) := rfl
def STr (kt : List Int) : Spec1
  | [.int .i64 n, .int .u8 d, y], G, Q => ∃ c, ((0 ≤ d ∧ d ≤ 255) ∧ byV y = some c ∧ Byt c ∧ c.length < 1000000000000) ∧ Q (.v (.arr .u8 32 (tagH kt n d c))) G
  | _, _, _ => False
theorem STr_eq {kt n d y} : STr kt [.int .i64 n, .int .u8 d, y] G Q = (∃ c, ((0 ≤ d ∧ d ≤ 255) ∧ byV y = some c ∧ Byt c ∧ c.length < 1000000000000) ∧ Q (.v (.arr .u8 32 (tagH kt n d c))) G) := rfl
def SCh (kt : List Int) : Spec1
  | [.int .i64 n, .int .u8 d, .arr .u8 32 t, y], G, Q => ∃ c r, (((0 ≤ d ∧ d ≤ 255) ∧ Byt t ∧ t.length = 32) ∧ rowV y = some r ∧ r.length < 10000000000 ∧ catL r = some c ∧ Byt c ∧ c.length < 1000000000000) ∧ Q (.v (.bool (decide (1 ≤ n ∧ n ≤ 21) && decide (t = tagH kt n d c)))) G
  | _, _, _ => False
theorem SCh_eq {kt n d t y} : SCh kt [.int .i64 n, .int .u8 d, .arr .u8 32 t, y] G Q = (∃ c r, (((0 ≤ d ∧ d ≤ 255) ∧ Byt t ∧ t.length = 32) ∧ rowV y = some r ∧ r.length < 10000000000 ∧ catL r = some c ∧ Byt c ∧ c.length < 1000000000000) ∧ Q (.v (.bool (decide (1 ≤ n ∧ n ≤ 21) && decide (t = tagH kt n d c)))) G) := rfl
theorem walk85 {n : Int} (h : Q (.v (.bool (decide (1 ≤ n ∧ n ≤ 21)))) G) : Wf E C pf85 [.int .i64 n] G Q := by
  by_cases h1 : 1 ≤ n <;> by_cases h2 : n ≤ 21
  all_goals
    simp (maxSteps := 1000000) (implicitDefEqProofs := false) only [pf85, h1, h2, go_sem, ↓reduceIte]
    try (exact finB h (by simp [h1, h2]))
theorem walk107 {kt : List Int} {n : Int} (h36 : Abs.look l 85 = some SNo) (h64 : Abs.look l 115 = some (SOf kt)) (h : Q (.v (.arr .u8 32 (keyH kt n))) G) : Wf E (specOf l) pf107 [.int .i64 n] G Q := by
  have hp : partsV (.sle 1 [V.sli .u8 [116, 105, 116, 104, 105, 110, 103, 32, 107, 101, 121, 32], V.sli .u8 [IntKind.u8.wrap n]]) = some (seedB n) := by simp [partsV, catL, byV, seedB]
  by_cases h1 : 1 ≤ n ∧ n ≤ 21
  · simp (maxSteps := 1000000) (implicitDefEqProofs := false) only [pf107, h36, SNo_eq, h1, h64, SOf_eq, go_sem, ↓reduceIte]
    refine ⟨_, ⟨hp, byt_seed n, by simp [seedB]⟩, ?_⟩
    unfold keyH at h; rw [if_pos h1] at h
    exact h
  · simp (maxSteps := 1000000) (implicitDefEqProofs := false) only [pf107, h36, SNo_eq, h1, go_sem, ↓reduceIte]
    unfold keyH at h; rw [if_neg h1] at h
    exact h
theorem walk110 {kt : List Int} {n : Int} (h69 : Abs.look l 119 = some (SRf kt)) (h : Q (.v (.arr .u8 32 (keyH kt n))) G) : Wf E (specOf l) pf110 [.int .i64 n] G Q := by
  have hp : byV (V.sli .u8 [116, 105, 116, 104, 105, 110, 103, 32, 107, 101, 121, 32, IntKind.u8.wrap n]) = some (seedB n) := rfl
  by_cases h1 : n < 1
  · simp (maxSteps := 1000000) (implicitDefEqProofs := false) only [pf110, h1, go_sem, ↓reduceIte]
    unfold keyH at h; rw [if_neg (by omega)] at h
    exact h
  · by_cases h2 : 21 < n
    · simp (maxSteps := 1000000) (implicitDefEqProofs := false) only [pf110, h1, h2, go_sem, ↓reduceIte]
      unfold keyH at h; rw [if_neg (by omega)] at h
      exact h
    · simp (maxSteps := 1000000) (implicitDefEqProofs := false) only [pf110, h1, h2, h69, SRf_eq, go_sem, ↓reduceIte]
      refine ⟨_, ⟨hp, byt_seed n, by simp [seedB]⟩, ?_⟩
      unfold keyH at h; rw [if_pos (by omega)] at h
      exact h
theorem walk82 {kt c : List Int} {n d : Int} {y : V} {r : List V} (h36 : Abs.look l 85 = some SNo) (h54 : Abs.look l 107 = some (SKe kt)) (h56 : Abs.look l 109 = some SCc) (h55 : Abs.look l 108 = some (SMa kt))
    (hd : 0 ≤ d ∧ d ≤ 255) (hy : rowV y = some r) (hr : r.length < 10000000000) (hc : catL r = some c) (hcy : Byt c) (hcl : c.length < 1000000000000) (h : Q (.v (.arr .u8 32 (tagH kt n d c))) G) : Wf E (specOf l) pf82 [.int .i64 n, .int .u8 d, y] G Q := by
  by_cases h1 : 1 ≤ n ∧ n ≤ 21
  · have hkt : (keyH kt n).take 32 = keyH kt n := List.take_of_length_le (by rw [keyH_len]; omega)
    have hcat : catL ([V.sli .u8 [d]] ++ r) = some ([d] ++ c) := catL_mk rfl hc
    have hp : catP [.sle 1 [V.sli .u8 [d]], y] = some ([V.sli .u8 [d]] ++ r) := by
      have := catP_mk (x := .sle 1 [V.sli .u8 [d]]) rfl (catP_mk hy (show catP [] = some [] from rfl))
      simpa using this
    unfold tagH at h; rw [if_pos h1] at h
    rcases rowV_cases hy with rfl | ⟨rfl, rfl⟩
    all_goals
      simp (maxSteps := 1000000) (implicitDefEqProofs := false) only [pf82, h36, SNo_eq, h1, h54, SKe_eq, h56, SCc_eq, h55, SMa_eq, hkt, List.drop_zero, go_sem, ↓reduceIte]
      refine ⟨_, ⟨hp, by simp, by simp; try omega⟩, _, _, _, ⟨rfl, byt_keyH _ _, by rw [keyH_len]; omega, rfl, by simp; try omega, hcat, byt_app (byt_cons hd byt_nil) hcy, by simp; try omega⟩, ?_⟩
      exact h
  · simp (maxSteps := 1000000) (implicitDefEqProofs := false) only [pf82, h36, SNo_eq, h1, go_sem, ↓reduceIte]
    unfold tagH at h; rw [if_neg h1] at h
    exact h
theorem walk46 {kt c t : List Int} {n d : Int} {y : V} {r : List V} (h36 : Abs.look l 85 = some SNo) (h34 : Abs.look l 82 = some (STa kt)) (h57 : Abs.look l 86 = some SSa)
    (hd : 0 ≤ d ∧ d ≤ 255) (ht : Byt t ∧ t.length = 32) (hy : rowV y = some r) (hr : r.length < 10000000000) (hc : catL r = some c) (hcy : Byt c) (hcl : c.length < 1000000000000) (h : Q (.v (.bool (decide (1 ≤ n ∧ n ≤ 21) && decide (t = tagH kt n d c)))) G) : Wf E (specOf l) pf46 [.int .i64 n, .int .u8 d, .arr .u8 32 t, y] G Q := by
  by_cases h1 : 1 ≤ n ∧ n ≤ 21
  · have hz : decide (1 ≤ n ∧ n ≤ 21) = true := decide_eq_true h1
    rw [hz, Bool.true_and] at h
    rcases rowV_cases hy with rfl | ⟨rfl, rfl⟩
    all_goals
      simp (maxSteps := 1000000) (implicitDefEqProofs := false) only [pf46, h36, SNo_eq, h1, h34, STa_eq, h57, SSa_eq, go_sem, ↓reduceIte]
      refine ⟨_, _, ⟨hd, rfl, hr, hc, hcy, hcl⟩, ⟨ht, byt_tagH _ _ _ _, tagH_len _ _ _ _⟩, ?_⟩
      exact h
  · simp (maxSteps := 1000000) (implicitDefEqProofs := false) only [pf46, h36, SNo_eq, h1, go_sem, ↓reduceIte]
    have hz : decide (1 ≤ n ∧ n ≤ 21) = false := decide_eq_false h1
    rw [hz, Bool.false_and] at h
    exact h
theorem loop87 {y : V} {d : Int} {hh : List Int} {z0 : Bx} {QQ : Ex → St → Prop} (hl : hh.length = 32)
    (hx : ∀ ts, QQ (.exit 0) ⟨[none, some (.v (.int .u8 d)), some (.v y), none, none, none, some (.lp 0 []), some (.lp 1 []), some (.own (.sli .u8 hh)), some (.v (.int .i64 32))], ts, [z0, ⟨false, .arr .u8 32 hh⟩], G⟩) :
    ∀ (m i : Nat), i + m = 32 → WL (W E C lp87_0) [1, 2, 6, 7, 8, 9] QQ (m + 1) ⟨[none, some (.v (.int .u8 d)), some (.v y), none, none, none, some (.lp 0 []), some (.lp 1 []), some (.own (.sli .u8 (hh.take i))), some (.v (.int .i64 i))], [], [z0, ⟨false, .arr .u8 32 hh⟩], G⟩ := by
  intro m
  induction m with
  | zero =>
    intro i hi
    obtain rfl : i = 32 := by omega
    rw [List.take_of_length_le (by omega)]
    refine WL_in lp87_0.eq_1 ?_
    simp (maxSteps := 1000000) (implicitDefEqProofs := false) only [go_sem, ↓reduceIte]
    exact hx _
  | succ m ih =>
    intro i hi
    have hi32 : i < 32 := by omega
    have hlt : (i : Int) < 32 := by omega
    have ew : IntKind.i64.wrap ((i : Int) + 1) = ((i + 1 : Nat) : Int) := by rw [w64 (by omega) (by omega)]; simp
    have ihh := ih (i + 1) (by omega)
    have l1 : (hh.take i).length = i := by rw [List.length_take]; omega
    rw [← snoc_step' (by omega : i < hh.length)] at ihh
    generalize hh.take i = u at *
    refine WL_in lp87_0.eq_1 ?_
    simp (maxSteps := 1000000) (implicitDefEqProofs := false) only [hlt, hi32, ew, Int.toNat_natCast, go_sem, ↓reduceIte]
    exact ⟨by omega, by omega, ihh⟩
theorem walk87 {kt c : List Int} {n d : Int} {y : V} (h62 : Abs.look l 110 = some (SKe kt)) (h63 : Abs.look l 111 = some (SMr kt))
    (hd : 0 ≤ d ∧ d ≤ 255) (hy : byV y = some c) (hcy : Byt c) (hcl : c.length < 1000000000000) (h : Q (.v (.arr .u8 32 (tagH kt n d c))) G) : Wf E (specOf l) pf87 [.int .i64 n, .int .u8 d, y] G Q := by
  by_cases h1 : n < 1
  · simp (maxSteps := 1000000) (implicitDefEqProofs := false) only [pf87, h1, go_sem, ↓reduceIte]
    unfold tagH at h; rw [if_neg (by omega)] at h
    exact h
  · by_cases h2 : 21 < n
    · simp (maxSteps := 1000000) (implicitDefEqProofs := false) only [pf87, h1, h2, go_sem, ↓reduceIte]
      unfold tagH at h; rw [if_neg (by omega)] at h
      exact h
    · unfold tagH at h; rw [if_pos (by omega)] at h
      rcases byV_cases hy with rfl | ⟨rfl, rfl⟩
      all_goals
        simp (maxSteps := 1000000) (implicitDefEqProofs := false) only [pf87, h1, h2, h62, SKe_eq, go_sem, ↓reduceIte]
        refine ⟨33, ?_⟩
        simp (maxSteps := 1000000) (implicitDefEqProofs := false) only [go_sem, ↓reduceIte]
        refine loop87 (keyH_len _ _) (fun ts => ?_) 32 0 (by omega)
        simp (maxSteps := 1000000) (implicitDefEqProofs := false) only [h63, SMr_eq, go_sem, ↓reduceIte]
        try refine And.intro (by omega) ?_
        refine ⟨_, _, ⟨rfl, byt_keyH _ _, by rw [keyH_len]; omega, rfl, byt_app (byt_cons hd byt_nil) hcy, by simp; try omega⟩, ?_⟩
        exact h
end Go.Proofs.YtegamlopcdjiaaaDoor.Sha
