/- Rows, certificates, accumulations. -/
import Derived.Test.YtegamlopcdjiaaaDoorUSrt2
import Derived.Test.YtegamlopcdjiaaaDoorUAtt2
import Derived.Test.YtegamlopcdjiaaaDoorShaD
import Derived.Test.YtegamlopcdjiaaaDoorCrtA
namespace Go.Proofs.YtegamlopcdjiaaaDoor.Sha
open Go Go.Abs Go.Abs.Sha Go.Abs.Srt
set_option linter.unusedSimpArgs false
set_option linter.unusedVariables false
set_option maxRecDepth 100000
def pf44 : PF :=
  PF.mk 1 3 14 ((PC.reg [nn (.v 2) (.mv true (.c (.v (.int .i64 0))))]).seq (((PC.reg [mm 3 0, nn (.t 4) (.call 85 [.t 3]), nn (.t 5) (.un .not (.t 4)),
    nn (.t 6) (.mv false (.t 5)), gm 7 0 6 false, ⟨.t 8, .bin .rem (.t 7) (.c (.v (.int .i64 2))), some (.t 6, false)⟩, ⟨.t 9, .bin .eql (.t 8) (.c (.v
    (.int .i64 0))), some (.t 6, false)⟩, nn (.t 10) (.pick (.t 6) (.c (.v (.bool true))) (.t 9))]).seq (PC.cond (.t 10) ((PC.reg [nn (.v 2) (.mv true
    (.c (.v (.int .i64 0))))]).seq PC.ret) PC.skip)).seq ((PC.reg [mm 11 0, nn (.t 12) (.bin .quo (.t 11) (.c (.v (.int .i64 2)))), nn (.t 13) (.bin .add
    (.t 12) (.c (.v (.int .i64 1)))), ma 2 13]).seq PC.ret))) [(.v 2, none)]
def lp48_0 : PC :=
  ((PC.reg [mm 4 3, nn (.t 5) (.bin .leq (.t 4) (.c (.v (.int .i64 10))))]).seq (PC.cond (.t 5) PC.skip (PC.exit 0))).seq ((PC.block 1 ((PC.reg [mm 8 0,
    mm 9 3, nn (.t 10) (.bin .mul (.c (.v (.int .i64 2))) (.t 9)), nn (.t 11) (.bin .add (.t 10) (.c (.v (.int .i64 1)))), nn (.t 12) (.bin .eql (.t 8)
    (.t 11))]).seq (PC.cond (.t 12) ((PC.reg [mm 13 3, nn (.t 14) (.bin .add (.t 13) (.c (.v (.int .i64 1)))), ma 2 14]).seq PC.ret) PC.skip))).seq
    (PC.reg [mm 6 3, nn (.t 7) (.bin .add (.t 6) (.c (.v (.int .i64 1)))), ma 3 7]))
def pf48 : PF :=
  PF.mk 1 4 15 ((PC.reg [nn (.v 2) (.mv true (.c (.v (.int .i64 0))))]).seq (((PC.reg [nn (.v 3) (.mv true (.c (.v (.int .i64 0))))]).seq (PC.block 0
    (PC.loop [0, 3] lp48_0))).seq ((PC.reg [nn (.v 2) (.mv true (.c (.v (.int .i64 0))))]).seq PC.ret))) [(.v 2, none)]
def pf113 : PF :=
  PF.mk 1 3 6 ((PC.reg [nn (.v 2) (.mv true (.c (.v (.bool false))))]).seq ((PC.reg [mm 3 0, mm 4 0, nn (.t 5) (.bin .neq (.t 3) (.t 4)), ma 2 5]).seq
    PC.ret)) [(.v 2, none)]
def pf94 : PF :=
  PF.mk 2 7 20 ((PC.reg [nn (.v 4) (.mv true (.c (.v (.int .i64 0))))]).seq ((PC.reg [mm 7 0, nn (.t 8) (.call 113 [.t 7]), ma 5 8]).seq ((PC.reg [mm 9
    1, nn (.t 10) (.call 113 [.t 9]), ma 6 10]).seq (((PC.reg [mm 11 5]).seq (PC.cond (.t 11) (((PC.reg [mm 12 6]).seq (PC.cond (.t 12) ((PC.reg [nn (.v
    4) (.mv true (.c (.v (.int .i64 0))))]).seq PC.ret) PC.skip)).seq ((PC.reg [nn (.v 4) (.mv true (.c (.v (.int .i64 ((-1))))))]).seq PC.ret))
    PC.skip)).seq (((PC.reg [mm 13 6]).seq (PC.cond (.t 13) ((PC.reg [nn (.v 4) (.mv true (.c (.v (.int .i64 1))))]).seq PC.ret) PC.skip)).seq (((PC.reg
    [mm 14 0, mm 15 1, nn (.t 16) (.bin .lss (.t 14) (.t 15))]).seq (PC.cond (.t 16) ((PC.reg [nn (.v 4) (.mv true (.c (.v (.int .i64 ((-1))))))]).seq
    PC.ret) PC.skip)).seq (((PC.reg [mm 17 0, mm 18 1, nn (.t 19) (.bin .gtr (.t 17) (.t 18))]).seq (PC.cond (.t 19) ((PC.reg [nn (.v 4) (.mv true (.c
    (.v (.int .i64 1))))]).seq PC.ret) PC.skip)).seq ((PC.reg [nn (.v 4) (.mv true (.c (.v (.int .i64 0))))]).seq PC.ret)))))))) [(.v 4, none)]
def pf88 : PF :=
  PF.mk 2 4 13 ((PC.reg [nn (.v 2) (.box (.v 0)), nn (.v 3) (.mv true (.c (.v (.bool false))))]).seq ((PC.reg [nn (.t 4) (.load 101 true (.v 2)), nn (.t
    5) (.call 56 [.t 4]), nn (.t 6) (.un .not (.t 5)), nn (.t 7) (.mv false (.t 6)), ⟨.t 8, .fadr 0 0 (.v 2), some (.t 7, false)⟩, ⟨.t 9, .load 1 false
    (.t 8), some (.t 7, false)⟩, ⟨.t 10, .load 1 false (.v 1), some (.t 7, false)⟩, ⟨.t 11, .bin .gtr (.t 9) (.t 10), some (.t 7, false)⟩, nn (.t 12)
    (.pick (.t 7) (.c (.v (.bool true))) (.t 11)), ma 3 12]).seq PC.ret)) [(.v 3, none)]
def pf89 : PF :=
  PF.mk 2 4 10 ((PC.reg [nn (.v 2) (.box (.v 0)), nn (.v 3) (.mv true (.c (.v (.bool false))))]).seq ((PC.regD 0 [nn (.t 4) (.load 101 true (.v 2)), nn
    (.t 5) (.load 1 false (.v 1)), nn (.t 6) (.iadrS 101 (.t 5) (.c (.v (.int .i64 0)))), nn (.t 7) (.load 101 true (.t 6)), nn (.t 8) (.call 90 [.t 4,
    .t 7]), nn (.t 9) (.un .not (.t 8)), ma 3 9] []).seq PC.ret)) [(.v 3, none)]
def pf93 : PF :=
  PF.mk 2 5 10 ((PC.reg [nn (.v 2) (.box (.v 0)), nn (.v 3) (.box (.v 1)), nn (.v 4) (.mv true (.c (.v (.int .i64 0))))]).seq ((PC.reg [nn (.t 5) (.fadr
    0 0 (.v 2)), nn (.t 6) (.load 1 false (.t 5)), nn (.t 7) (.fadr 0 0 (.v 3)), nn (.t 8) (.load 1 false (.t 7)), nn (.t 9) (.call 94 [.t 6, .t 8]), ma
    4 9]).seq PC.ret)) [(.v 4, none)]
def pf96 : PF :=
  PF.mk 2 5 10 ((PC.reg [nn (.v 2) (.box (.v 0)), nn (.v 3) (.box (.v 1)), nn (.v 4) (.mv true (.c (.v (.bool false))))]).seq ((PC.reg [nn (.t 5) (.fadr
    0 0 (.v 2)), nn (.t 6) (.load 1 false (.t 5)), nn (.t 7) (.fadr 0 0 (.v 3)), nn (.t 8) (.load 1 false (.t 7)), nn (.t 9) (.bin .eql (.t 6) (.t 8)),
    ma 4 9]).seq PC.ret)) [(.v 4, none)]
def pf80 : PF :=
  PF.mk 3 5 25 ((PC.reg [nn (.v 3) (.box (.v 0)), nn (.v 4) (.mv true (.c (.v (.bool false))))]).seq ((PC.reg [nn (.t 5) (.load 101 true (.v 3)), nn (.t
    6) (.call 56 [.t 5]), nn (.t 7) (.un .not (.t 6)), nn (.t 8) (.mv false (.t 7)), ⟨.t 9, .fadr 1 1 (.v 3), some (.t 8, false)⟩, ⟨.t 10, .load 1 false
    (.t 9), some (.t 8, false)⟩, ⟨.t 11, .bin .neq (.t 10) (.c (.v (.int .i64 1))), some (.t 8, false)⟩, nn (.t 12) (.pick (.t 8) (.c (.v (.bool true)))
    (.t 11)), nn (.t 13) (.mv false (.t 12)), ⟨.t 14, .fadr 2 2 (.v 3), some (.t 13, false)⟩, ⟨.t 15, .load 1 false (.t 14), some (.t 13, false)⟩, ⟨.t
    16, .load 1 false (.v 1), some (.t 13, false)⟩, ⟨.t 17, .bin .neq (.t 15) (.t 16), some (.t 13, false)⟩, nn (.t 18) (.pick (.t 13) (.c (.v (.bool
    true))) (.t 17)), nn (.t 19) (.mv false (.t 18)), ⟨.t 20, .fadr 0 0 (.v 3), some (.t 19, false)⟩, ⟨.t 21, .load 1 false (.t 20), some (.t 19,
    false)⟩, ⟨.t 22, .load 1 false (.v 2), some (.t 19, false)⟩, ⟨.t 23, .bin .gtr (.t 21) (.t 22), some (.t 19, false)⟩, nn (.t 24) (.pick (.t 19) (.c
    (.v (.bool true))) (.t 23)), ma 4 24]).seq PC.ret)) [(.v 4, none)]
def pf105 : PF :=
  PF.mk 2 5 10 ((PC.reg [nn (.v 2) (.box (.v 0)), nn (.v 3) (.box (.v 1)), nn (.v 4) (.mv true (.c (.v (.int .i64 0))))]).seq ((PC.reg [nn (.t 5) (.fadr
    0 0 (.v 2)), nn (.t 6) (.load 1 false (.t 5)), nn (.t 7) (.fadr 0 0 (.v 3)), nn (.t 8) (.load 1 false (.t 7)), nn (.t 9) (.call 94 [.t 6, .t 8]), ma
    4 9]).seq PC.ret)) [(.v 4, none)]
def pf106 : PF :=
  PF.mk 2 5 10 ((PC.reg [nn (.v 2) (.box (.v 0)), nn (.v 3) (.box (.v 1)), nn (.v 4) (.mv true (.c (.v (.bool false))))]).seq ((PC.reg [nn (.t 5) (.fadr
    0 0 (.v 2)), nn (.t 6) (.load 1 false (.t 5)), nn (.t 7) (.fadr 0 0 (.v 3)), nn (.t 8) (.load 1 false (.t 7)), nn (.t 9) (.bin .eql (.t 6) (.t 8)),
    ma 4 9]).seq PC.ret)) [(.v 4, none)]
attribute [local irreducible] W Wops WopsD WL Wop WopD
variable {E : Env} {C : Abs.Spec} {l : List (Nat × Spec1)} {G : List (Nat × V)} {Q : R → List (Nat × V) → Prop}
set_option maxHeartbeats 1000000
def cmpI (a b : Int) : Int := if a < b then -1 else if b < a then 1 else 0
def ZQu : Spec1
  | [.int .i64 n], G, Q => I64 n ∧ Q (.v (.int .i64 (quo n))) G
  | _, _, _ => False
theorem ZQu_eq {n} : ZQu [.int .i64 n] G Q = (I64 n ∧ Q (.v (.int .i64 (quo n))) G) := rfl
def ZNan : Spec1
  | [.int .i64 n], G, Q => Q (.v (.bool false)) G
  | _, _, _ => False
theorem ZNan_eq {n} : ZNan [.int .i64 n] G Q = (Q (.v (.bool false)) G) := rfl
def ZCmp : Spec1
  | [.int .i64 a, .int .i64 b], G, Q => Q (.v (.int .i64 (cmpI a b))) G
  | _, _, _ => False
theorem ZCmp_eq {a b} : ZCmp [.int .i64 a, .int .i64 b] G Q = (Q (.v (.int .i64 (cmpI a b))) G) := rfl
def ZP1 (kt : List Int) : Spec1
  | [.agg [.int .i64 a1, .int .i64 a2, .int .i64 a3, .int .i64 a4, .arr .u8 32 a5, .int .i64 a6, .arr .u8 32 a7, .arr .u8 32 a8], .ptr id], G, Q => ∃ n, (Abs.look G id = some (.int .i64 n) ∧ (⟨a1, a2, a3, a4, a5, a6, a7, a8⟩ : AttS).wf) ∧ Q (.v (.bool (!((⟨a1, a2, a3, a4, a5, a6, a7, a8⟩ : AttS).right kt) || decide (n < a1)))) G
  | _, _, _ => False
def ZP2 : Spec1
  | [.agg [.int .i64 a1, .int .i64 a2, .int .i64 a3, .int .i64 a4, .arr .u8 32 a5, .int .i64 a6, .arr .u8 32 a7, .arr .u8 32 a8], .ptr id], G, Q => ∃ (b : AttS) (r : List V), Abs.look G id = some (.sle 101 (b.v :: r)) ∧ Q (.v (.bool (!((⟨a1, a2, a3, a4, a5, a6, a7, a8⟩ : AttS).alike b)))) G
  | _, _, _ => False
def ZP3 (kt : List Int) : Spec1
  | [.agg [.int .i64 a1, .int .i64 a2, .int .i64 a3, .int .i64 a4, .arr .u8 32 a5, .int .i64 a6, .arr .u8 32 a7, .arr .u8 32 a8], .ptr i1, .ptr i2], G, Q => ∃ v n, (Abs.look G i1 = some (.int .i64 v) ∧ Abs.look G i2 = some (.int .i64 n) ∧ (⟨a1, a2, a3, a4, a5, a6, a7, a8⟩ : AttS).wf) ∧ Q (.v (.bool (!((⟨a1, a2, a3, a4, a5, a6, a7, a8⟩ : AttS).right kt) || !decide (a2 = 1) || !decide (a3 = v) || decide (n < a1)))) G
  | _, _, _ => False
def ZCb : Spec1
  | [.agg [.int .i64 a1, .int .i64 a2, .int .i64 a3, .int .i64 a4, .arr .u8 32 a5, .int .i64 a6, .arr .u8 32 a7, .arr .u8 32 a8], .agg [.int .i64 b1, .int .i64 b2, .int .i64 b3, .int .i64 b4, .arr .u8 32 b5, .int .i64 b6, .arr .u8 32 b7, .arr .u8 32 b8]], G, Q => Q (.v (.int .i64 (cmpI a1 b1))) G
  | _, _, _ => False
def ZEb : Spec1
  | [.agg [.int .i64 a1, .int .i64 a2, .int .i64 a3, .int .i64 a4, .arr .u8 32 a5, .int .i64 a6, .arr .u8 32 a7, .arr .u8 32 a8], .agg [.int .i64 b1, .int .i64 b2, .int .i64 b3, .int .i64 b4, .arr .u8 32 b5, .int .i64 b6, .arr .u8 32 b7, .arr .u8 32 b8]], G, Q => Q (.v (.bool (decide (a1 = b1)))) G
  | _, _, _ => False
theorem walk44 {n : Int} (h37 : Abs.look l 85 = some SNo) (hn : I64 n) (h : Q (.v (.int .i64 (quo n))) G) : Wf E (specOf l) pf44 [.int .i64 n] G Q := by
  unfold I64 at hn
  simp (maxSteps := 1000000) (implicitDefEqProofs := false) only [pf44, h37, SNo_eq, go_sem, ↓reduceIte]
  have t2 : 0 ≤ n → n.tmod 2 = n % 2 := fun h => Int.tmod_eq_emod_of_nonneg h
  have d2 : 0 ≤ n → n.tdiv 2 = n / 2 := fun h => Int.tdiv_eq_ediv_of_nonneg h
  by_cases h1 : 1 ≤ n ∧ n ≤ 21
  · have t2 := t2 (by omega)
    have d2 := d2 (by omega)
    have w1 : IntKind.i64.wrap (n / 2) = n / 2 := w64 (by omega) (by omega)
    have w2 : IntKind.i64.wrap (n / 2 + 1) = n / 2 + 1 := w64 (by omega) (by omega)
    by_cases h2 : n % 2 = 0
    · have e : quo n = 0 := by unfold quo; rw [if_neg (by omega)]
      rw [e] at h
      simp (maxSteps := 1000000) (implicitDefEqProofs := false) only [h1, t2, h2, go_sem, ↓reduceIte]
      first | exact h | ((repeat' (first | (intro _) | constructor)) <;> first | exact h | omega)
    · have e : quo n = n / 2 + 1 := by unfold quo; rw [if_pos (by omega)]
      rw [e] at h
      simp (maxSteps := 1000000) (implicitDefEqProofs := false) only [h1, t2, h2, d2, w1, w2, go_sem, ↓reduceIte]
      first | exact h | ((repeat' (first | (intro _) | constructor)) <;> first | exact h | omega)
  · have e : quo n = 0 := by unfold quo; rw [if_neg (by omega)]
    rw [e] at h
    simp (maxSteps := 1000000) (implicitDefEqProofs := false) only [h1, go_sem, ↓reduceIte]
    first | exact h | ((repeat' (first | (intro _) | constructor)) <;> first | exact h | omega)
theorem loop48 {n : Int} {QQ : Ex → St → Prop} (hx : ∀ i ts, quo n = 0 → QQ (.exit 0) ⟨[some (.v (.int .i64 n)), none, none, some (.v (.int .i64 (i : Nat)))], ts, [], G⟩) (hr : ∀ σ : St, σ.G = G → St.ev σ (.v 2) = some (.v (.int .i64 (quo n))) → QQ .ret σ) :
    ∀ (k i : Nat), i + k = 11 → (∀ j : Nat, j < i → n ≠ 2 * (j : Int) + 1) → WL (W E C lp48_0) [0, 3] QQ (k + 1) ⟨[some (.v (.int .i64 n)), none, none, some (.v (.int .i64 (i : Nat)))], [], [], G⟩ := by
  intro k
  induction k with
  | zero =>
    intro i hi hj
    have c1 : ¬ (i : Int) ≤ 10 := by omega
    refine WL_in lp48_0.eq_1 ?_
    simp (maxSteps := 1000000) (implicitDefEqProofs := false) only [c1, go_sem, ↓reduceIte]
    refine hx i _ ?_
    unfold quo
    rw [if_neg]
    rintro ⟨h1, h2, h3⟩
    exact hj (n / 2).toNat (by omega) (by omega)
  | succ k ih =>
    intro i hi hj
    have c1 : (i : Int) ≤ 10 := by omega
    have w1 : IntKind.i64.wrap (2 * (i : Int)) = ((2 * i : Nat) : Int) := wc (by omega) (by omega)
    have w2 : IntKind.i64.wrap (((2 * i : Nat) : Int) + 1) = ((2 * i + 1 : Nat) : Int) := wc (by omega) (by omega)
    have w3 : IntKind.i64.wrap ((i : Int) + 1) = ((i + 1 : Nat) : Int) := wc (by omega) (by omega)
    refine WL_in lp48_0.eq_1 ?_
    by_cases e : n = ((2 * i + 1 : Nat) : Int)
    · simp (maxSteps := 1000000) (implicitDefEqProofs := false) only [c1, w1, w2, w3, e, go_sem, ↓reduceIte]
      have q : quo n = ((i + 1 : Nat) : Int) := by
        unfold quo; rw [if_pos (by omega)]; omega
      rw [← e, ← q] at *
      exact hr _ rfl rfl
    · simp (maxSteps := 1000000) (implicitDefEqProofs := false) only [c1, w1, w2, w3, e, go_sem, ↓reduceIte]
      refine ih (i + 1) (by omega) fun j hj2 => ?_
      by_cases e2 : j = i
      · subst e2; intro h; exact e (by omega)
      · exact hj j (by omega)
theorem walk48 {n : Int} (h : Q (.v (.int .i64 (quo n))) G) : Wf E C pf48 [.int .i64 n] G Q := by
  simp (maxSteps := 1000000) (implicitDefEqProofs := false) only [pf48, go_sem, ↓reduceIte]
  refine ⟨12, ?_⟩
  simp (maxSteps := 1000000) (implicitDefEqProofs := false) only [go_sem, ↓reduceIte]
  refine loop48 (fun i ts e => ?_) (fun σ e1 e2 => ?_) 11 0 rfl (fun j hj => by omega)
  · simp (maxSteps := 1000000) (implicitDefEqProofs := false) only [go_sem, ↓reduceIte]
    rw [e] at h; exact h
  · show resQ Q σ.G (rD (St.ev σ (.v 2)))
    rw [e1, e2]; exact h
theorem walk113 {n : Int} (h : Q (.v (.bool false)) G) : Wf E C pf113 [.int .i64 n] G Q := by
  simp (maxSteps := 1000000) (implicitDefEqProofs := false) only [pf113, go_sem, ↓reduceIte]
  exact h
theorem walk94 {a b : Int} (h1 : Abs.look l 113 = some ZNan) (h : Q (.v (.int .i64 (cmpI a b))) G) : Wf E (specOf l) pf94 [.int .i64 a, .int .i64 b] G Q := by
  unfold cmpI at h
  simp (maxSteps := 1000000) (implicitDefEqProofs := false) only [pf94, h1, ZNan_eq, go_sem, ↓reduceIte]
  by_cases c1 : a < b
  · rw [if_pos c1] at h
    simp (maxSteps := 1000000) (implicitDefEqProofs := false) only [c1, go_sem, ↓reduceIte]
    first | exact h | ((repeat' (first | (intro _) | constructor)) <;> first | exact h | omega)
  · rw [if_neg c1] at h
    by_cases c2 : b < a
    · rw [if_pos c2] at h
      simp (maxSteps := 1000000) (implicitDefEqProofs := false) only [c1, c2, go_sem, ↓reduceIte]
      first | exact h | ((repeat' (first | (intro _) | constructor)) <;> first | exact h | omega)
    · rw [if_neg c2] at h
      simp (maxSteps := 1000000) (implicitDefEqProofs := false) only [c1, c2, go_sem, ↓reduceIte]
      first | exact h | ((repeat' (first | (intro _) | constructor)) <;> first | exact h | omega)
theorem walk88 {a1 a2 a3 a4 a6 : Int} {a5 a7 a8 : List Int} {kt : List Int} {id : Nat} {n : Int} (hR : Abs.look l 56 = some (SRi kt)) (hG : Abs.look G id = some (.int .i64 n)) (hw : (⟨a1, a2, a3, a4, a5, a6, a7, a8⟩ : AttS).wf) (h : Q (.v (.bool (!((⟨a1, a2, a3, a4, a5, a6, a7, a8⟩ : AttS).right kt) || decide (n < a1)))) G) : Wf E (specOf l) pf88 [.agg [.int .i64 a1, .int .i64 a2, .int .i64 a3, .int .i64 a4, .arr .u8 32 a5, .int .i64 a6, .arr .u8 32 a7, .arr .u8 32 a8], .ptr id] G Q := by
  simp (maxSteps := 1000000) (implicitDefEqProofs := false) only [pf88, hR, SRi_eq, go_sem, ↓reduceIte]
  refine ⟨hw, ?_⟩
  generalize AttS.right kt _ = q at h ⊢
  cases q
  · try simp (maxSteps := 1000000) (implicitDefEqProofs := false) only [go_sem, ↓reduceIte]; exact h
  · simp (maxSteps := 1000000) (implicitDefEqProofs := false) only [hG, go_sem, ↓reduceIte]; exact h
theorem walk89 {a1 a2 a3 a4 a6 : Int} {a5 a7 a8 : List Int} {id : Nat} {b : AttS} {r : List V} (hA : Abs.look l 90 = some SAl) (hG : Abs.look G id = some (.sle 101 (b.v :: r))) (h : Q (.v (.bool (!((⟨a1, a2, a3, a4, a5, a6, a7, a8⟩ : AttS).alike b)))) G) : Wf E (specOf l) pf89 [.agg [.int .i64 a1, .int .i64 a2, .int .i64 a3, .int .i64 a4, .arr .u8 32 a5, .int .i64 a6, .arr .u8 32 a7, .arr .u8 32 a8], .ptr id] G Q := by
  obtain ⟨b1, b2, b3, b4, b5, b6, b7, b8⟩ := b
  unfold AttS.v at hG
  simp (maxSteps := 1000000) (implicitDefEqProofs := false) only [pf89, hG, hA, SAl_eq, go_sem, ↓reduceIte]
  first | exact h | exact ⟨by omega, h⟩ | (refine ⟨⟨by omega, by omega⟩, h⟩)
theorem walk80 {a1 a2 a3 a4 a6 : Int} {a5 a7 a8 : List Int} {kt : List Int} {i1 i2 : Nat} {v n : Int} (hR : Abs.look l 56 = some (SRi kt)) (hG : Abs.look G i1 = some (.int .i64 v)) (hG2 : Abs.look G i2 = some (.int .i64 n)) (hw : (⟨a1, a2, a3, a4, a5, a6, a7, a8⟩ : AttS).wf) (h : Q (.v (.bool (!((⟨a1, a2, a3, a4, a5, a6, a7, a8⟩ : AttS).right kt) || !decide (a2 = 1) || !decide (a3 = v) || decide (n < a1)))) G) : Wf E (specOf l) pf80 [.agg [.int .i64 a1, .int .i64 a2, .int .i64 a3, .int .i64 a4, .arr .u8 32 a5, .int .i64 a6, .arr .u8 32 a7, .arr .u8 32 a8], .ptr i1, .ptr i2] G Q := by
  simp (maxSteps := 1000000) (implicitDefEqProofs := false) only [pf80, hR, SRi_eq, go_sem, ↓reduceIte]
  refine ⟨hw, ?_⟩
  generalize AttS.right kt _ = q at h ⊢
  cases q
  · try simp (maxSteps := 1000000) (implicitDefEqProofs := false) only [go_sem, ↓reduceIte]; exact h
  · by_cases c1 : a2 = 1
    · by_cases c2 : a3 = v
      · simp (maxSteps := 1000000) (implicitDefEqProofs := false) only [hG, hG2, c1, c2, go_sem, ↓reduceIte]
        first | exact h | (simp only [c1, c2, decide_true, Bool.not_true, Bool.false_or] at h; exact h)
      · simp (maxSteps := 1000000) (implicitDefEqProofs := false) only [hG, hG2, c1, c2, go_sem, ↓reduceIte]
        first | exact h | (simp only [c1, c2, decide_true, decide_false, Bool.not_true, Bool.not_false, Bool.false_or, Bool.true_or] at h; exact h)
    · simp (maxSteps := 1000000) (implicitDefEqProofs := false) only [hG, hG2, c1, go_sem, ↓reduceIte]
      first | exact h | (simp only [c1, decide_true, decide_false, Bool.not_true, Bool.not_false, Bool.false_or, Bool.true_or] at h; exact h)
theorem walk93 {a1 a2 a3 a4 a6 : Int} {a5 a7 a8 : List Int} {b1 b2 b3 b4 b6 : Int} {b5 b7 b8 : List Int} (hC : Abs.look l 94 = some ZCmp) (h : Q (.v (.int .i64 (cmpI a1 b1))) G) : Wf E (specOf l) pf93 [.agg [.int .i64 a1, .int .i64 a2, .int .i64 a3, .int .i64 a4, .arr .u8 32 a5, .int .i64 a6, .arr .u8 32 a7, .arr .u8 32 a8], .agg [.int .i64 b1, .int .i64 b2, .int .i64 b3, .int .i64 b4, .arr .u8 32 b5, .int .i64 b6, .arr .u8 32 b7, .arr .u8 32 b8]] G Q := by
  simp (maxSteps := 1000000) (implicitDefEqProofs := false) only [pf93, hC, ZCmp_eq, go_sem, ↓reduceIte]
  exact h
theorem walk105 {a1 a2 a3 a4 a6 : Int} {a5 a7 a8 : List Int} {b1 b2 b3 b4 b6 : Int} {b5 b7 b8 : List Int} (hC : Abs.look l 94 = some ZCmp) (h : Q (.v (.int .i64 (cmpI a1 b1))) G) : Wf E (specOf l) pf105 [.agg [.int .i64 a1, .int .i64 a2, .int .i64 a3, .int .i64 a4, .arr .u8 32 a5, .int .i64 a6, .arr .u8 32 a7, .arr .u8 32 a8], .agg [.int .i64 b1, .int .i64 b2, .int .i64 b3, .int .i64 b4, .arr .u8 32 b5, .int .i64 b6, .arr .u8 32 b7, .arr .u8 32 b8]] G Q := by
  simp (maxSteps := 1000000) (implicitDefEqProofs := false) only [pf105, hC, ZCmp_eq, go_sem, ↓reduceIte]
  exact h
theorem walk96 {a1 a2 a3 a4 a6 : Int} {a5 a7 a8 : List Int} {b1 b2 b3 b4 b6 : Int} {b5 b7 b8 : List Int} (h : Q (.v (.bool (decide (a1 = b1)))) G) : Wf E C pf96 [.agg [.int .i64 a1, .int .i64 a2, .int .i64 a3, .int .i64 a4, .arr .u8 32 a5, .int .i64 a6, .arr .u8 32 a7, .arr .u8 32 a8], .agg [.int .i64 b1, .int .i64 b2, .int .i64 b3, .int .i64 b4, .arr .u8 32 b5, .int .i64 b6, .arr .u8 32 b7, .arr .u8 32 b8]] G Q := by
  simp (maxSteps := 1000000) (implicitDefEqProofs := false) only [pf96, go_sem, ↓reduceIte]
  exact h
theorem walk106 {a1 a2 a3 a4 a6 : Int} {a5 a7 a8 : List Int} {b1 b2 b3 b4 b6 : Int} {b5 b7 b8 : List Int} (h : Q (.v (.bool (decide (a1 = b1)))) G) : Wf E C pf106 [.agg [.int .i64 a1, .int .i64 a2, .int .i64 a3, .int .i64 a4, .arr .u8 32 a5, .int .i64 a6, .arr .u8 32 a7, .arr .u8 32 a8], .agg [.int .i64 b1, .int .i64 b2, .int .i64 b3, .int .i64 b4, .arr .u8 32 b5, .int .i64 b6, .arr .u8 32 b7, .arr .u8 32 b8]] G Q := by
  simp (maxSteps := 1000000) (implicitDefEqProofs := false) only [pf106, go_sem, ↓reduceIte]
  exact h
noncomputable def TT : List (Nat × Spec1) := [(88, ZP1 K256), (89, ZP2), (80, ZP3 K256), (93, ZCb), (105, ZCb), (96, ZEb), (106, ZEb)]
def IsAtt (x : V) : Prop := ∃ a : AttS, x = a.v ∧ a.wf
theorem key_accu : KeyFn TT 105 [] IsAtt keyBy := by
  refine ⟨⟨ZCb, rfl⟩, ?_⟩
  rintro _ _ G Q ⟨a, rfl, _⟩ ⟨b, rfl, _⟩ h
  show ZCb [a.v, b.v] G Q
  refine h _ ?_
  show cmpI a.who b.who < 0 ↔ a.who < b.who
  unfold cmpI; split
  · simp_all
  · split <;> simp_all
theorem eq_accu : EqFn TT 106 [] IsAtt keyBy := by
  refine ⟨⟨ZEb, rfl⟩, ?_⟩
  rintro _ _ G Q ⟨a, rfl, _⟩ ⟨b, rfl, _⟩ h
  exact h
def ofV : V → AttS
  | .agg [.int .i64 a1, .int .i64 a2, .int .i64 a3, .int .i64 a4, .arr .u8 32 a5, .int .i64 a6, .arr .u8 32 a7, .arr .u8 32 a8] => ⟨a1, a2, a3, a4, a5, a6, a7, a8⟩
  | _ => .zero
theorem pred_3 {i1 i2 : Nat} {v n : Int} (hG : Abs.look G i1 = some (.int .i64 v)) (hG2 : Abs.look G i2 = some (.int .i64 n)) : PredFn TT 80 [.ptr i1, .ptr i2] G IsAtt (fun x => !((ofV x).right K256) || !decide ((ofV x).ki = 1) || !decide ((ofV x).vi = v) || decide (n < (ofV x).who)) := by
  refine ⟨⟨ZP3 K256, rfl⟩, ?_⟩
  rintro _ Q ⟨a, rfl, hw⟩ h
  exact ⟨v, n, ⟨hG, hG2, hw⟩, h⟩
theorem rowOk_atts {as : List AttS} : RowOk 101 (AttS.zero.v) (as.map AttS.v) := ⟨fun x hx => by
  obtain ⟨a, _, rfl⟩ := List.mem_map.1 hx
  exact ⟨rfl, rfl, rfl⟩⟩
theorem isAtt_map {as : List AttS} (h : ∀ a ∈ as, a.wf) : ∀ x ∈ as.map AttS.v, IsAtt x := fun x hx => by
  obtain ⟨a, ha, rfl⟩ := List.mem_map.1 hx
  exact ⟨a, rfl, h a ha⟩
end Go.Proofs.YtegamlopcdjiaaaDoor.Sha
