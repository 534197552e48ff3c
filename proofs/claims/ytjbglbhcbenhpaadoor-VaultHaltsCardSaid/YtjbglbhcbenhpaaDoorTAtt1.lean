/- Laws over plain values, and what functions of the program hand back; no conditions. -/
import Derived.Test.YtjbglbhcbenhpaaDoorTSha11
import Derived.Test.YtjbglbhcbenhpaaDoorShaC
namespace Go.Proofs.YtjbglbhcbenhpaaDoor.Sha
open Go Go.Abs Go.Abs.Sha
set_option linter.unusedSimpArgs false
set_option linter.unusedVariables false
set_option maxRecDepth 100000
def pf50 : PF :=
  PF.mk 1 3 8 ((PC.reg [⟨.v 2, .mv true (.c (.own .nils)), none⟩]).seq (((PC.reg [⟨.t 3, .mv false (.v 0), none⟩, ⟨.t 4, .nileq false (.t 3), none⟩]).seq
    (PC.cond (.t 4) ((PC.reg [⟨.v 2, .mv true (.c (.own .nils)), none⟩]).seq PC.ret) PC.skip)).seq ((PC.reg [⟨.t 5, .buildS (some .u8) 1 (.int .u8 0) 0
    [], none⟩, ⟨.t 6, .mv false (.v 0), none⟩, ⟨.t 7, .app (some .u8) 1 1 (.t 5) (.t 6), none⟩, ⟨.v 2, .mv true (.t 7), none⟩]).seq PC.ret))) [(.v 2,
    none)]
def pf87 : PF :=
  PF.mk 2 5 9 ((PC.reg [⟨.v 3, .box (.v 1), none⟩, ⟨.v 4, .mv true (.c (.own .nils)), none⟩]).seq ((PC.regD 0 [⟨.t 5, .mv false (.v 0), none⟩, ⟨.t 6,
    .call 50 [.t 5], none⟩, ⟨.t 7, .slcA 32 false (.v 3) none none none, none⟩, ⟨.t 8, .app (some .u8) 1 1 (.t 6) (.t 7), none⟩, ⟨.v 4, .mv true (.t 8),
    none⟩] [(1, 2)]).seq PC.ret)) [(.v 4, none)]
def lp107_0 : PC :=
  ((PC.reg [⟨.t 8, .mv false (.v 1), none⟩, ⟨.t 9, .bin .geq (.t 8) (.c (.v (.int .u64 128))), none⟩]).seq (PC.cond (.t 9) PC.skip (PC.exit 0))).seq
    (PC.block 1 ((PC.reg [⟨.t 10, .mv true (.v 5), none⟩, ⟨.t 11, .mv false (.v 1), none⟩, ⟨.t 12, .conv .u8 (.t 11), none⟩, ⟨.t 13, .bin .or (.t 12) (.c
    (.v (.int .u8 128))), none⟩, ⟨.t 14, .buildS (some .u8) 1 (.int .u8 0) 1 [(0, .t 13)], none⟩, ⟨.t 15, .app (some .u8) 1 1 (.t 10) (.t 14), none⟩, ⟨.v
    5, .mv true (.t 15), none⟩]).seq (PC.reg [⟨.t 16, .mv false (.v 1), none⟩, ⟨.t 17, .bin .shr (.t 16) (.c (.v (.int .u64 7))), none⟩, ⟨.v 1, .mv true
    (.t 17), none⟩])))
def pf107 : PF :=
  PF.mk 2 6 23 ((PC.reg [⟨.v 4, .mv true (.c (.own .nils)), none⟩]).seq ((PC.reg [⟨.t 6, .mv false (.v 0), none⟩, ⟨.t 7, .call 50 [.t 6], none⟩, ⟨.v 5,
    .mv true (.t 7), none⟩]).seq ((PC.block 0 (PC.loop [1, 5] lp107_0)).seq ((PC.reg [⟨.t 18, .mv true (.v 5), none⟩, ⟨.t 19, .mv false (.v 1), none⟩,
    ⟨.t 20, .conv .u8 (.t 19), none⟩, ⟨.t 21, .buildS (some .u8) 1 (.int .u8 0) 1 [(0, .t 20)], none⟩, ⟨.t 22, .app (some .u8) 1 1 (.t 18) (.t 21),
    none⟩, ⟨.v 4, .mv true (.t 22), none⟩]).seq PC.ret)))) [(.v 4, none)]
def pf119 : PF :=
  PF.mk 1 3 17 ((PC.reg [⟨.v 2, .mv true (.c (.own .nils)), none⟩]).seq (((PC.reg [⟨.t 3, .mv false (.v 0), none⟩, ⟨.t 4, .bin .lss (.t 3) (.c (.v (.int
    .u64 128))), none⟩]).seq (PC.cond (.t 4) ((PC.reg [⟨.t 5, .mv false (.v 0), none⟩, ⟨.t 6, .conv .u8 (.t 5), none⟩, ⟨.t 7, .buildS (some .u8) 1 (.int
    .u8 0) 1 [(0, .t 6)], none⟩, ⟨.v 2, .mv true (.t 7), none⟩]).seq PC.ret) PC.skip)).seq ((PC.reg [⟨.t 8, .mv false (.v 0), none⟩, ⟨.t 9, .bin .rem (.t
    8) (.c (.v (.int .u64 128))), none⟩, ⟨.t 10, .bin .add (.c (.v (.int .u64 128))) (.t 9), none⟩, ⟨.t 11, .conv .u8 (.t 10), none⟩, ⟨.t 12, .buildS
    (some .u8) 1 (.int .u8 0) 1 [(0, .t 11)], none⟩, ⟨.t 13, .mv false (.v 0), none⟩, ⟨.t 14, .bin .quo (.t 13) (.c (.v (.int .u64 128))), none⟩, ⟨.t 15,
    .call 119 [.t 14], none⟩, ⟨.t 16, .app (some .u8) 1 1 (.t 12) (.t 15), none⟩, ⟨.v 2, .mv true (.t 16), none⟩]).seq PC.ret))) [(.v 2, none)]
def lp96_0 : PC :=
  ((PC.reg [⟨.t 6, .mv false (.v 4), none⟩, ⟨.t 7, .bin .lss (.t 6) (.c (.v (.int .i64 32))), none⟩]).seq (PC.cond (.t 7) PC.skip (PC.exit 0))).seq
    ((PC.block 1 (PC.reg [⟨.t 10, .mv true (.v 3), none⟩, ⟨.t 11, .mv false (.v 4), none⟩, ⟨.t 12, .iadrA 32 (.v 1) (.t 11), none⟩, ⟨.t 13, .load 1 false
    (.t 12), none⟩, ⟨.t 14, .buildS (some .u8) 1 (.int .u8 0) 1 [(0, .t 13)], none⟩, ⟨.t 15, .app (some .u8) 1 1 (.t 10) (.t 14), none⟩, ⟨.v 3, .mv true
    (.t 15), none⟩])).seq (PC.reg [⟨.t 8, .mv false (.v 4), none⟩, ⟨.t 9, .bin .add (.t 8) (.c (.v (.int .i64 1))), none⟩, ⟨.v 4, .mv true (.t 9),
    none⟩]))
def pf96 : PF :=
  PF.mk 1 5 17 ((PC.reg [⟨.v 1, .box (.v 0), none⟩, ⟨.v 2, .mv true (.c (.own .nils)), none⟩]).seq ((PC.reg [⟨.t 5, .buildS (some .u8) 1 (.int .u8 0) 0
    [], none⟩, ⟨.v 3, .mv true (.t 5), none⟩]).seq (((PC.reg [⟨.v 4, .mv true (.c (.v (.int .i64 0))), none⟩]).seq (PC.block 0 (PC.loop [1, 3, 4]
    lp96_0))).seq ((PC.reg [⟨.t 16, .mv true (.v 3), none⟩, ⟨.v 2, .mv true (.t 16), none⟩]).seq PC.ret)))) [(.v 2, none)]
attribute [local irreducible] W Wops WopsD WL Wop WopD
variable {E : Env} {C : Abs.Spec} {l : List (Nat × Spec1)} {G : List (Nat × V)} {Q : R → List (Nat × V) → Prop}
set_option maxHeartbeats 1000000
def SCl : Spec1
  | [x], G, Q => ∃ b, (byV x = some b ∧ b.length < 10000000000000) ∧ Q (.own (.sli .u8 b)) G
  | _, _, _ => False
theorem SCl_eq {x} : SCl [x] G Q = (∃ b, (byV x = some b ∧ b.length < 10000000000000) ∧ Q (.own (.sli .u8 b)) G) := rfl
def SHa : Spec1
  | [x, .arr .u8 32 h], G, Q => ∃ b, (byV x = some b ∧ b.length < 1000000000000 ∧ h.length = 32) ∧ Q (.own (.sli .u8 (b ++ h))) G
  | _, _, _ => False
theorem SHa_eq {x h} : SHa [x, .arr .u8 32 h] G Q = (∃ b, (byV x = some b ∧ b.length < 1000000000000 ∧ h.length = 32) ∧ Q (.own (.sli .u8 (b ++ h))) G) := rfl
def SNu : Spec1
  | [x, .int .u64 n], G, Q => ∃ b, (byV x = some b ∧ b.length < 100000000000 ∧ 0 ≤ n ∧ n < 18446744073709551616) ∧ Q (.own (.sli .u8 (b ++ num n.toNat))) G
  | _, _, _ => False
theorem SNu_eq {x n} : SNu [x, .int .u64 n] G Q = (∃ b, (byV x = some b ∧ b.length < 100000000000 ∧ 0 ≤ n ∧ n < 18446744073709551616) ∧ Q (.own (.sli .u8 (b ++ num n.toNat))) G) := rfl
def SRn (k : Nat) : Spec1
  | [.int .u64 n], G, Q => (0 ≤ n ∧ n.toNat < 128 ^ k ∧ 0 < k ∧ n < 18446744073709551616) ∧ Q (.own (.sli .u8 (num n.toNat))) G
  | _, _, _ => False
theorem SRn_eq {k n} : SRn k [.int .u64 n] G Q = ((0 ≤ n ∧ n.toNat < 128 ^ k ∧ 0 < k ∧ n < 18446744073709551616) ∧ Q (.own (.sli .u8 (num n.toNat))) G) := rfl
def SBy : Spec1
  | [.arr .u8 32 h], G, Q => h.length = 32 ∧ Q (.own (.sli .u8 h)) G
  | _, _, _ => False
theorem SBy_eq {h} : SBy [.arr .u8 32 h] G Q = (h.length = 32 ∧ Q (.own (.sli .u8 h)) G) := rfl
def SMy : Spec1
  | [.agg [.int .i64 a1, .int .i64 a2, .int .i64 a3, .int .i64 a4, .arr .u8 32 a5, .int .i64 a6, .arr .u8 32 a7, .arr .u8 32 a8]], G, Q => ((⟨a1, a2, a3, a4, a5, a6, a7, a8⟩ : AttS)).wf ∧ Q (.v (.bool ((⟨a1, a2, a3, a4, a5, a6, a7, a8⟩ : AttS)).may)) G
  | _, _, _ => False
theorem SMy_eq {a1 a2 a3 a4 a5 a6 a7 a8} : SMy [.agg [.int .i64 a1, .int .i64 a2, .int .i64 a3, .int .i64 a4, .arr .u8 32 a5, .int .i64 a6, .arr .u8 32 a7, .arr .u8 32 a8]] G Q = (((⟨a1, a2, a3, a4, a5, a6, a7, a8⟩ : AttS)).wf ∧ Q (.v (.bool ((⟨a1, a2, a3, a4, a5, a6, a7, a8⟩ : AttS)).may)) G) := rfl
def SCk : Spec1
  | [.agg [.int .i64 a1, .int .i64 a2, .int .i64 a3, .int .i64 a4, .arr .u8 32 a5, .int .i64 a6, .arr .u8 32 a7, .arr .u8 32 a8]], G, Q => ((⟨a1, a2, a3, a4, a5, a6, a7, a8⟩ : AttS)).wf ∧ Q (.v (.int .i64 (if ((⟨a1, a2, a3, a4, a5, a6, a7, a8⟩ : AttS)).may = true then 0 else 1))) G
  | _, _, _ => False
theorem SCk_eq {a1 a2 a3 a4 a5 a6 a7 a8} : SCk [.agg [.int .i64 a1, .int .i64 a2, .int .i64 a3, .int .i64 a4, .arr .u8 32 a5, .int .i64 a6, .arr .u8 32 a7, .arr .u8 32 a8]] G Q = (((⟨a1, a2, a3, a4, a5, a6, a7, a8⟩ : AttS)).wf ∧ Q (.v (.int .i64 (if ((⟨a1, a2, a3, a4, a5, a6, a7, a8⟩ : AttS)).may = true then 0 else 1))) G) := rfl
theorem walk50 {b : List Int} (hb : b.length < 10000000000000) (h : Q (.own (.sli .u8 b)) G) : Wf E C pf50 [.sli .u8 b] G (fun r G' => Q (wkR .u8 r) G') := by
  simp (maxSteps := 1000000) (implicitDefEqProofs := false) only [pf50, go_sem, ↓reduceIte, decide_eq_true_eq, decide_eq_false_iff_not, ge_iff_le, gt_iff_lt, Int.not_le, Int.not_lt, Bool.not_eq_true', Bool.not_eq_false', Bool.and_eq_true, Bool.and_eq_false_iff]
  intro q hq
  cases q with
  | true =>
    have hl : b.length = 0 := by have := hq rfl; omega
    have hb0 : b = [] := List.eq_nil_of_length_eq_zero hl
    subst hb0
    simp (maxSteps := 1000000) (implicitDefEqProofs := false) only [go_sem, ↓reduceIte, decide_eq_true_eq, decide_eq_false_iff_not, ge_iff_le, gt_iff_lt, Int.not_le, Int.not_lt, Bool.not_eq_true', Bool.not_eq_false', Bool.and_eq_true, Bool.and_eq_false_iff]
    exact h
  | false =>
    simp (maxSteps := 1000000) (implicitDefEqProofs := false) only [go_sem, ↓reduceIte, decide_eq_true_eq, decide_eq_false_iff_not, ge_iff_le, gt_iff_lt, Int.not_le, Int.not_lt, Bool.not_eq_true', Bool.not_eq_false', Bool.and_eq_true, Bool.and_eq_false_iff]
    exact ⟨by omega, h⟩
theorem walk87 {b hh : List Int} (h50 : Abs.look l 50 = some SCl) (hb : b.length < 1000000000000) (hl : hh.length = 32) (h : Q (.own (.sli .u8 (b ++ hh))) G) : Wf E (specOf l) pf87 [.sli .u8 b, .arr .u8 32 hh] G Q := by
  have ht : hh.take 32 = hh := List.take_of_length_le (by omega)
  simp (maxSteps := 1000000) (implicitDefEqProofs := false) only [pf87, h50, SCl_eq, go_sem, ↓reduceIte, decide_eq_true_eq, decide_eq_false_iff_not, ge_iff_le, gt_iff_lt, Int.not_le, Int.not_lt, Bool.not_eq_true', Bool.not_eq_false', Bool.and_eq_true, Bool.and_eq_false_iff]
  refine ⟨_, ⟨rfl, by omega⟩, ?_⟩
  simp (maxSteps := 1000000) (implicitDefEqProofs := false) only [ht, List.drop_zero, go_sem, ↓reduceIte, decide_eq_true_eq, decide_eq_false_iff_not, ge_iff_le, gt_iff_lt, Int.not_le, Int.not_lt, Bool.not_eq_true', Bool.not_eq_false', Bool.and_eq_true, Bool.and_eq_false_iff]
  exact ⟨by omega, h⟩
theorem loop107 {QQ : Ex → St → Prop} {b : List Int} (hb : b.length < 1000000000000)
    (hx : ∀ ts (n : Nat) (u : List Int), n < 128 → u ++ num n = b → QQ (.exit 0) ⟨[none, some (.v (.int .u64 n)), none, none, none, some (.own (.sli .u8 u))], ts, [], G⟩) :
    ∀ (m n : Nat) (u : List Int), n < 128 ^ (m + 1) → u ++ num n = b → WL (W E C lp107_0) [1, 5] QQ (m + 1) ⟨[none, some (.v (.int .u64 n)), none, none, none, some (.own (.sli .u8 u))], [], [], G⟩ := by
  intro m
  induction m with
  | zero =>
    intro n u hn hu
    have hge : ¬ 128 ≤ (n : Int) := by omega
    refine WL_in lp107_0.eq_1 ?_
    simp (maxSteps := 1000000) (implicitDefEqProofs := false) only [hge, go_sem, ↓reduceIte, decide_eq_true_eq, decide_eq_false_iff_not, ge_iff_le, gt_iff_lt, Int.not_le, Int.not_lt, Bool.not_eq_true', Bool.not_eq_false', Bool.and_eq_true, Bool.and_eq_false_iff]
    exact hx _ n u (by omega) hu
  | succ m ih =>
    intro n u hn hu
    refine WL_in lp107_0.eq_1 ?_
    by_cases hge : (128 : Int) ≤ n
    · have e1 : (n : Int).fdiv (2 ^ min 7 64) = ((n / 128 : Nat) : Int) := by
        rw [show (2 : Int) ^ min 7 64 = 128 from rfl, Int.fdiv_eq_ediv_of_nonneg _ (by omega)]; simp
      have e2 := or128 (n := (n : Int)) (by omega)
      rw [Int.toNat_natCast] at e2
      rw [num_big (by omega)] at hu
      have hul : u.length + (num (n / 128)).length + 1 = b.length := by rw [← hu]; simp only [List.length_append, List.length_cons]; omega
      have ihh := ih (n / 128) (u ++ [((n % 128 + 128 : Nat) : Int)]) (by
        rw [Nat.pow_succ] at hn
        exact Nat.div_lt_of_lt_mul (by rw [Nat.mul_comm]; exact hn)) (by rw [← hu, List.append_assoc]; rfl)
      simp (maxSteps := 1000000) (implicitDefEqProofs := false) only [hge, e1, e2, go_sem, ↓reduceIte, decide_eq_true_eq, decide_eq_false_iff_not, ge_iff_le, gt_iff_lt, Int.not_le, Int.not_lt, Bool.not_eq_true', Bool.not_eq_false', Bool.and_eq_true, Bool.and_eq_false_iff]
      exact ⟨by omega, ihh⟩
    · simp (maxSteps := 1000000) (implicitDefEqProofs := false) only [hge, go_sem, ↓reduceIte, decide_eq_true_eq, decide_eq_false_iff_not, ge_iff_le, gt_iff_lt, Int.not_le, Int.not_lt, Bool.not_eq_true', Bool.not_eq_false', Bool.and_eq_true, Bool.and_eq_false_iff]
      exact hx _ n u (by omega) hu
theorem walk107 {b : List Int} {n : Int} (h50 : Abs.look l 50 = some SCl) (hb : b.length < 100000000000) (hn : 0 ≤ n ∧ n < 18446744073709551616) (h : Q (.own (.sli .u8 (b ++ num n.toNat))) G) : Wf E (specOf l) pf107 [.sli .u8 b, .int .u64 n] G Q := by
  obtain ⟨k, rfl⟩ : ∃ k : Nat, n = k := ⟨n.toNat, by omega⟩
  rw [Int.toNat_natCast] at h
  obtain ⟨hby, hlen⟩ := num_ok (n := k) (by omega)
  simp (maxSteps := 1000000) (implicitDefEqProofs := false) only [pf107, h50, SCl_eq, go_sem, ↓reduceIte, decide_eq_true_eq, decide_eq_false_iff_not, ge_iff_le, gt_iff_lt, Int.not_le, Int.not_lt, Bool.not_eq_true', Bool.not_eq_false', Bool.and_eq_true, Bool.and_eq_false_iff]
  refine ⟨_, ⟨rfl, by omega⟩, 10, ?_⟩
  simp (maxSteps := 1000000) (implicitDefEqProofs := false) only [go_sem, ↓reduceIte, decide_eq_true_eq, decide_eq_false_iff_not, ge_iff_le, gt_iff_lt, Int.not_le, Int.not_lt, Bool.not_eq_true', Bool.not_eq_false', Bool.and_eq_true, Bool.and_eq_false_iff]
  refine loop107 (b := b ++ num k) (by rw [List.length_append]; omega) (fun ts n u hn2 hu => ?_) 9 k b (Nat.lt_of_lt_of_le (show k < 18446744073709551616 by omega) (by decide)) rfl
  have hw : IntKind.u8.wrap (n : Int) = n := by simp only [IntKind.wrap, IntKind.bits, IntKind.signed]; simp; omega
  rw [num_small hn2] at hu
  have hul : u.length + 1 = b.length + (num k).length := by
    have := congrArg List.length hu
    simpa only [List.length_append, List.length_cons, List.length_nil] using this
  rw [← hu] at h
  simp (maxSteps := 1000000) (implicitDefEqProofs := false) only [hw, go_sem, ↓reduceIte, decide_eq_true_eq, decide_eq_false_iff_not, ge_iff_le, gt_iff_lt, Int.not_le, Int.not_lt, Bool.not_eq_true', Bool.not_eq_false', Bool.and_eq_true, Bool.and_eq_false_iff]
  exact ⟨by omega, h⟩
theorem walk119 {k n : Nat} (h61 : Abs.look l 119 = some (SRn k)) (hn : n < 128 ^ (k + 1)) (hn2 : n < 18446744073709551616) (h : Q (.own (.sli .u8 (num n))) G) : Wf E (specOf l) pf119 [.int .u64 n] G Q := by
  by_cases hlt : (n : Int) < 128
  · have hw : IntKind.u8.wrap (n : Int) = n := by simp only [IntKind.wrap, IntKind.bits, IntKind.signed]; simp; omega
    rw [num_small (by omega)] at h
    simp (maxSteps := 1000000) (implicitDefEqProofs := false) only [pf119, hlt, hw, go_sem, ↓reduceIte, decide_eq_true_eq, decide_eq_false_iff_not, ge_iff_le, gt_iff_lt, Int.not_le, Int.not_lt, Bool.not_eq_true', Bool.not_eq_false', Bool.and_eq_true, Bool.and_eq_false_iff]
    exact h
  · have e1 : (n : Int).tmod 128 = ((n % 128 : Nat) : Int) := by rw [Int.tmod_eq_emod_of_nonneg (by omega)]; simp
    have e2 : (n : Int).tdiv 128 = ((n / 128 : Nat) : Int) := by rw [Int.tdiv_eq_ediv_of_nonneg (by omega)]; simp
    have e3 : IntKind.u64.wrap (128 + ((n % 128 : Nat) : Int)) = ((n % 128 + 128 : Nat) : Int) := by simp only [IntKind.wrap, IntKind.bits, IntKind.signed]; simp; omega
    have e4 : IntKind.u8.wrap ((n % 128 + 128 : Nat) : Int) = ((n % 128 + 128 : Nat) : Int) := by simp only [IntKind.wrap, IntKind.bits, IntKind.signed]; simp; omega
    have e5 : IntKind.u64.wrap ((n / 128 : Nat) : Int) = ((n / 128 : Nat) : Int) := by simp only [IntKind.wrap, IntKind.bits, IntKind.signed]; simp; omega
    rw [num_big (by omega)] at h
    obtain ⟨hby, hlen⟩ := num_ok (n := n / 128) (by omega)
    simp (maxSteps := 1000000) (implicitDefEqProofs := false) only [pf119, hlt, e1, e2, e3, e4, e5, h61, SRn_eq, Int.toNat_natCast, go_sem, ↓reduceIte, decide_eq_true_eq, decide_eq_false_iff_not, ge_iff_le, gt_iff_lt, Int.not_le, Int.not_lt, Bool.not_eq_true', Bool.not_eq_false', Bool.and_eq_true, Bool.and_eq_false_iff]
    have hk : 0 < k := by
      cases k with
      | zero => simp at hn; omega
      | succ k => omega
    refine ⟨⟨by omega, ?_, hk, by omega⟩, by omega, h⟩
    rw [Nat.pow_succ] at hn
    exact Nat.div_lt_of_lt_mul (by rw [Nat.mul_comm]; exact hn)
theorem loop96 {hh : List Int} {QQ : Ex → St → Prop} (hl : hh.length = 32)
    (hx : ∀ ts, QQ (.exit 0) ⟨[none, some (.lp 0 []), none, some (.own (.sli .u8 hh)), some (.v (.int .i64 32))], ts, [⟨false, .arr .u8 32 hh⟩], G⟩) :
    ∀ (m i : Nat), i + m = 32 → WL (W E C lp96_0) [1, 3, 4] QQ (m + 1) ⟨[none, some (.lp 0 []), none, some (.own (.sli .u8 (hh.take i))), some (.v (.int .i64 i))], [], [⟨false, .arr .u8 32 hh⟩], G⟩ := by
  intro m
  induction m with
  | zero =>
    intro i hi
    obtain rfl : i = 32 := by omega
    rw [List.take_of_length_le (by omega)]
    refine WL_in lp96_0.eq_1 ?_
    simp (maxSteps := 1000000) (implicitDefEqProofs := false) only [go_sem, ↓reduceIte, decide_eq_true_eq, decide_eq_false_iff_not, ge_iff_le, gt_iff_lt, Int.not_le, Int.not_lt, Bool.not_eq_true', Bool.not_eq_false', Bool.and_eq_true, Bool.and_eq_false_iff]
    exact hx _
  | succ m ih =>
    intro i hi
    have hi32 : i < 32 := by omega
    have hlt : (i : Int) < 32 := by omega
    have ew : IntKind.i64.wrap ((i : Int) + 1) = ((i + 1 : Nat) : Int) := by rw [w64 (by omega) (by omega)]; simp
    have ihh := ih (i + 1) (by omega)
    have l1 : (hh.take i).length = i := by rw [List.length_take]; omega
    rw [← snoc_step' (by omega : i < hh.length)] at ihh
    generalize hh.take i = u at *
    refine WL_in lp96_0.eq_1 ?_
    simp (maxSteps := 1000000) (implicitDefEqProofs := false) only [hlt, hi32, ew, Int.toNat_natCast, go_sem, ↓reduceIte, decide_eq_true_eq, decide_eq_false_iff_not, ge_iff_le, gt_iff_lt, Int.not_le, Int.not_lt, Bool.not_eq_true', Bool.not_eq_false', Bool.and_eq_true, Bool.and_eq_false_iff]
    exact ⟨by omega, by omega, ihh⟩
theorem walk96 {hh : List Int} (hl : hh.length = 32) (h : Q (.own (.sli .u8 hh)) G) : Wf E C pf96 [.arr .u8 32 hh] G Q := by
  simp (maxSteps := 1000000) (implicitDefEqProofs := false) only [pf96, go_sem, ↓reduceIte, decide_eq_true_eq, decide_eq_false_iff_not, ge_iff_le, gt_iff_lt, Int.not_le, Int.not_lt, Bool.not_eq_true', Bool.not_eq_false', Bool.and_eq_true, Bool.and_eq_false_iff]
  refine ⟨33, ?_⟩
  simp (maxSteps := 1000000) (implicitDefEqProofs := false) only [go_sem, ↓reduceIte, decide_eq_true_eq, decide_eq_false_iff_not, ge_iff_le, gt_iff_lt, Int.not_le, Int.not_lt, Bool.not_eq_true', Bool.not_eq_false', Bool.and_eq_true, Bool.and_eq_false_iff]
  refine loop96 hl (fun ts => ?_) 32 0 (by omega)
  simp (maxSteps := 1000000) (implicitDefEqProofs := false) only [go_sem, ↓reduceIte, decide_eq_true_eq, decide_eq_false_iff_not, ge_iff_le, gt_iff_lt, Int.not_le, Int.not_lt, Bool.not_eq_true', Bool.not_eq_false', Bool.and_eq_true, Bool.and_eq_false_iff]
  exact h
end Go.Proofs.YtjbglbhcbenhpaaDoor.Sha
