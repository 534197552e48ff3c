/- Laws over plain values, and what functions of the program hand back; no conditions. -/
import Derived.Test.YtegamlopcdjiaaaDoorShaA
namespace Go.Proofs.YtegamlopcdjiaaaDoor.Sha
open Go Go.Abs Go.Abs.Sha
set_option linter.unusedSimpArgs false
set_option linter.unusedVariables false
set_option maxRecDepth 100000
def pf131 : PF :=
  PF.mk 2 5 9 ((PC.reg [nn (.v 4) (.mv true (.c (.v (.int .u32 0))))]).seq ((PC.reg [mm 5 0, mm 6 1, nn (.t 7) (.un .neg (.t 6)), nn (.t 8) (.call 135
    [.t 5, .t 7]), ma 4 8]).seq PC.ret)) [(.v 4, none)]
def pf135 : PF :=
  PF.mk 2 6 17 ((PC.reg [nn (.v 4) (.mv true (.c (.v (.int .u32 0))))]).seq ((PC.reg [mm 6 1, nn (.t 7) (.conv .u64 (.t 6)), nn (.t 8) (.bin .and (.t 7)
    (.c (.v (.int .u64 31)))), ma 5 8]).seq ((PC.reg [mm 9 0, mm 10 5, nn (.t 11) (.bin .shl (.t 9) (.t 10)), mm 12 0, mm 13 5, nn (.t 14) (.bin .sub (.c
    (.v (.int .u64 32))) (.t 13)), nn (.t 15) (.bin .shr (.t 12) (.t 14)), nn (.t 16) (.bin .or (.t 11) (.t 15)), ma 4 16]).seq PC.ret))) [(.v 4, none)]
def lp132_0 : PC :=
  ((PC.reg [mm 6 5, mm 7 1, nn (.t 8) (.bin .lss (.t 6) (.t 7))]).seq (PC.cond (.t 8) PC.skip (PC.exit 0))).seq ((PC.block 1 (PC.reg [mm 11 0, nn (.t 12)
    (.bin .quo (.t 11) (.c (.v (.int .u32 2)))), mm 13 0, nn (.t 14) (.bin .rem (.t 13) (.c (.v (.int .u32 2)))), nn (.t 15) (.bin .mul (.t 14) (.c (.v
    (.int .u32 2147483648)))), nn (.t 16) (.bin .add (.t 12) (.t 15)), ma 0 16])).seq (PC.reg [mm 9 5, nn (.t 10) (.bin .add (.t 9) (.c (.v (.int .i64
    1)))), ma 5 10]))
def pf132 : PF :=
  PF.mk 2 6 18 ((PC.reg [nn (.v 4) (.mv true (.c (.v (.int .u32 0))))]).seq (((PC.reg [nn (.v 5) (.mv true (.c (.v (.int .i64 0))))]).seq (PC.block 0
    (PC.loop [0, 1, 5] lp132_0))).seq ((PC.reg [nn (.t 17) (.mv true (.v 0)), ma 4 17]).seq PC.ret))) [(.v 4, none)]
def lp133_0 : PC :=
  ((PC.reg [mm 6 5, mm 7 1, nn (.t 8) (.bin .lss (.t 6) (.t 7))]).seq (PC.cond (.t 8) PC.skip (PC.exit 0))).seq ((PC.block 1 (PC.reg [mm 11 0, nn (.t 12)
    (.bin .quo (.t 11) (.c (.v (.int .u32 2)))), ma 0 12])).seq (PC.reg [mm 9 5, nn (.t 10) (.bin .add (.t 9) (.c (.v (.int .i64 1)))), ma 5 10]))
def pf133 : PF :=
  PF.mk 2 6 14 ((PC.reg [nn (.v 4) (.mv true (.c (.v (.int .u32 0))))]).seq (((PC.reg [nn (.v 5) (.mv true (.c (.v (.int .i64 0))))]).seq (PC.block 0
    (PC.loop [0, 1, 5] lp133_0))).seq ((PC.reg [nn (.t 13) (.mv true (.v 0)), ma 4 13]).seq PC.ret))) [(.v 4, none)]
attribute [local irreducible] W Wops WopsD WL Wop WopD
variable {E : Env} {C : Abs.Spec} {l : List (Nat × Spec1)} {G : List (Nat × V)} {Q : R → List (Nat × V) → Prop}
set_option maxHeartbeats 1000000
def SRl : Spec1
  | [.int .u32 x, .int .i64 n], G, Q => (Wd x ∧ -31 ≤ n ∧ n ≤ -1) ∧ Q (.v (.int .u32 (rot x (0 - n).toNat))) G
  | _, _, _ => False
theorem SRl_eq {x n} : SRl [.int .u32 x, .int .i64 n] G Q = ((Wd x ∧ -31 ≤ n ∧ n ≤ -1) ∧ Q (.v (.int .u32 (rot x (0 - n).toNat))) G) := rfl
def SRo : Spec1
  | [.int .u32 x, .int .i64 n], G, Q => (Wd x ∧ 1 ≤ n ∧ n ≤ 31) ∧ Q (.v (.int .u32 (rot x n.toNat))) G
  | _, _, _ => False
theorem SRo_eq {x n} : SRo [.int .u32 x, .int .i64 n] G Q = ((Wd x ∧ 1 ≤ n ∧ n ≤ 31) ∧ Q (.v (.int .u32 (rot x n.toNat))) G) := rfl
def SSh : Spec1
  | [.int .u32 x, .int .i64 n], G, Q => (Wd x ∧ 0 ≤ n ∧ n ≤ 31) ∧ Q (.v (.int .u32 (shf x n.toNat))) G
  | _, _, _ => False
theorem SSh_eq {x n} : SSh [.int .u32 x, .int .i64 n] G Q = ((Wd x ∧ 0 ≤ n ∧ n ≤ 31) ∧ Q (.v (.int .u32 (shf x n.toNat))) G) := rfl
theorem walk135 {x n : Int} (hx : Wd x) (hn : -31 ≤ n ∧ n ≤ -1) (h : Q (.v (.int .u32 (rot x (0 - n).toNat))) G) : Wf E C pf135 [.int .u32 x, .int .i64 n] G Q := by
  simp (maxSteps := 1000000) (implicitDefEqProofs := false) only [pf135, go_sem, ↓reduceIte]
  have hd : ∀ k : Fin 31, bAnd .u64 (IntKind.u64.wrap (-1 - (k.val : Int))) 31 = 31 - (k.val : Int) := by decide
  have e : bAnd .u64 (IntKind.u64.wrap n) 31 = 31 - (((-1 - n).toNat : Nat) : Int) := by
    have := hd ⟨(-1 - n).toNat, by omega⟩
    rw [show -1 - (((⟨(-1 - n).toNat, by omega⟩ : Fin 31).val : Nat) : Int) = n from by show -1 - (((-1 - n).toNat : Nat) : Int) = n; omega] at this
    exact this
  rw [e]
  have e2 : IntKind.u64.wrap (32 - (31 - (((-1 - n).toNat : Nat) : Int))) = 0 - n := by
    rw [show 32 - (31 - (((-1 - n).toNat : Nat) : Int)) = 0 - n by omega]
    simp only [IntKind.wrap, IntKind.bits, IntKind.signed]; simp; omega
  rw [e2, show min (31 - (((-1 - n).toNat : Nat) : Int)).toNat 32 = 32 - (0 - n).toNat by omega, show min (0 - n).toNat 32 = (0 - n).toNat by omega, or_rot hx (by omega) (by omega)]
  exact ⟨by omega, h⟩
theorem walk131 {x n : Int} (h81 : Abs.look l 135 = some SRl) (hx : Wd x) (hn : 1 ≤ n ∧ n ≤ 31) (h : Q (.v (.int .u32 (rot x n.toNat))) G) : Wf E (specOf l) pf131 [.int .u32 x, .int .i64 n] G Q := by
  simp (maxSteps := 1000000) (implicitDefEqProofs := false) only [pf131, h81, SRl_eq, go_sem, ↓reduceIte]
  rw [w64 (by omega) (by omega)]
  refine ⟨⟨hx, by omega, by omega⟩, ?_⟩
  rw [show (0 : Int) - (0 - n) = n by omega]; exact h
theorem turn1 {x : Int} (h : Wd x) : IntKind.u32.wrap (IntKind.u32.wrap (x.tdiv 2) + IntKind.u32.wrap (x.tmod 2 * 2147483648)) = rot x 1 := by
  unfold Wd at h
  rw [Int.tdiv_eq_ediv_of_nonneg h.1, Int.tmod_eq_emod_of_nonneg h.1, wrap32, wrap32, wrap32]
  unfold rot
  simp only [Int.pow_one, show (2 : Int) ^ (32 - 1) = 2147483648 from rfl]
  omega
theorem loop132 {x : Int} {n : Int} {QQ : Ex → St → Prop} (hx0 : Wd x) (hn : 0 ≤ n ∧ n ≤ 31)
    (hx : ∀ ts, QQ (.exit 0) ⟨[some (.v (.int .u32 (rot x n.toNat))), some (.v (.int .i64 n)), none, none, none, some (.v (.int .i64 n.toNat))], ts, [], G⟩) :
    ∀ (m i : Nat), i + m = n.toNat → WL (W E C lp132_0) [0, 1, 5] QQ (m + 1) ⟨[some (.v (.int .u32 (rot x i))), some (.v (.int .i64 n)), none, none, none, some (.v (.int .i64 i))], [], [], G⟩ := by
  intro m
  induction m with
  | zero =>
    intro i hi
    obtain rfl : i = n.toNat := by omega
    refine WL_in lp132_0.eq_1 ?_
    simp (maxSteps := 1000000) (implicitDefEqProofs := false) only [go_sem, ↓reduceIte]
    exact ⟨fun c => by omega, fun _ => hx _⟩
  | succ m ih =>
    intro i hi
    refine WL_in lp132_0.eq_1 ?_
    simp (maxSteps := 1000000) (implicitDefEqProofs := false) only [go_sem, ↓reduceIte]
    refine ⟨fun c => ?_, fun c => by omega⟩
    rw [turn1 (rot_wd hx0 (by omega)), rot_succ hx0 (by omega), w64 (by omega) (by omega)]
    exact ih (i + 1) (by omega)
theorem walk132 {x n : Int} (hx : Wd x) (hn : 1 ≤ n ∧ n ≤ 31) (h : Q (.v (.int .u32 (rot x n.toNat))) G) : Wf E C pf132 [.int .u32 x, .int .i64 n] G Q := by
  simp (maxSteps := 1000000) (implicitDefEqProofs := false) only [pf132, go_sem, ↓reduceIte]
  refine ⟨n.toNat + 1, ?_⟩
  simp (maxSteps := 1000000) (implicitDefEqProofs := false) only [go_sem, ↓reduceIte]
  have := loop132 (E := E) (C := C) (G := G) (QQ := blkK 0 (seqK (W E C ((PC.reg [⟨.t 17, .mv true (.v 0), none⟩, ⟨.v 4, .mv true (.t 17), none⟩]).seq PC.ret)) (retQ E pf132 Q))) hx ⟨by omega, hn.2⟩ (fun ts => by
    simp (maxSteps := 1000000) (implicitDefEqProofs := false) only [pf132, go_sem, ↓reduceIte]
    exact h) n.toNat 0 (by omega)
  rw [rot_zero x hx] at this
  exact this
theorem shift1 {x : Int} (h : Wd x) (i : Nat) : IntKind.u32.wrap ((shf x i).tdiv 2) = shf x (i + 1) := by
  have hs := shf_wd h i
  unfold Wd at hs
  rw [Int.tdiv_eq_ediv_of_nonneg hs.1, wrap32]
  unfold shf at *
  have hp : (0 : Int) < 2 ^ i := Int.pow_pos (by decide)
  rw [Int.pow_succ, ← Int.ediv_ediv_of_nonneg (by omega)]
  omega
theorem loop133 {x : Int} {n : Int} {QQ : Ex → St → Prop} (hx0 : Wd x) (hn : 0 ≤ n ∧ n ≤ 31)
    (hx : ∀ ts, QQ (.exit 0) ⟨[some (.v (.int .u32 (shf x n.toNat))), some (.v (.int .i64 n)), none, none, none, some (.v (.int .i64 n.toNat))], ts, [], G⟩) :
    ∀ (m i : Nat), i + m = n.toNat → WL (W E C lp133_0) [0, 1, 5] QQ (m + 1) ⟨[some (.v (.int .u32 (shf x i))), some (.v (.int .i64 n)), none, none, none, some (.v (.int .i64 i))], [], [], G⟩ := by
  intro m
  induction m with
  | zero =>
    intro i hi
    obtain rfl : i = n.toNat := by omega
    refine WL_in lp133_0.eq_1 ?_
    simp (maxSteps := 1000000) (implicitDefEqProofs := false) only [go_sem, ↓reduceIte]
    exact ⟨fun c => by omega, fun _ => hx _⟩
  | succ m ih =>
    intro i hi
    refine WL_in lp133_0.eq_1 ?_
    simp (maxSteps := 1000000) (implicitDefEqProofs := false) only [go_sem, ↓reduceIte]
    refine ⟨fun c => ?_, fun c => by omega⟩
    rw [shift1 hx0, w64 (by omega) (by omega)]
    exact ih (i + 1) (by omega)
theorem walk133 {x n : Int} (hx : Wd x) (hn : 0 ≤ n ∧ n ≤ 31) (h : Q (.v (.int .u32 (shf x n.toNat))) G) : Wf E C pf133 [.int .u32 x, .int .i64 n] G Q := by
  simp (maxSteps := 1000000) (implicitDefEqProofs := false) only [pf133, go_sem, ↓reduceIte]
  refine ⟨n.toNat + 1, ?_⟩
  simp (maxSteps := 1000000) (implicitDefEqProofs := false) only [go_sem, ↓reduceIte]
  have := loop133 (E := E) (C := C) (G := G) (QQ := blkK 0 (seqK (W E C ((PC.reg [⟨.t 13, .mv true (.v 0), none⟩, ⟨.v 4, .mv true (.t 13), none⟩]).seq PC.ret)) (retQ E pf133 Q))) hx hn (fun ts => by
    simp (maxSteps := 1000000) (implicitDefEqProofs := false) only [pf133, go_sem, ↓reduceIte]
    exact h) n.toNat 0 (by omega)
  rw [show shf x 0 = x by unfold shf; simp] at this
  exact this
end Go.Proofs.YtegamlopcdjiaaaDoor.Sha
