/- What the theorem of waiting's function hands back, over plain values; no conditions. -/
import Derived.Test.YtcicoepkmiahbaaRateA
namespace Go.Proofs.Ytcicoepkmiahbaa.Rate
open Go Go.Abs
set_option linter.unusedSimpArgs false
set_option linter.unusedVariables false
set_option maxRecDepth 100000
attribute [local irreducible] W Wops WopsD WL Wop WopD
variable {E : Env} {C : Abs.Spec} {l : List (Nat × Spec1)} {G : List (Nat × V)} {Q : R → List (Nat × V) → Prop}
set_option maxHeartbeats 1000000

theorem w34 (h32 : Abs.look l 32 = some S32) (h38 : Abs.look l 38 = some S38) (h : Q (.v (.bool true)) G) : Wf E (specOf l) pf34 [] G Q := by
  simp (maxSteps := 1000000) (implicitDefEqProofs := false) only [pf34, h32, h38, S32_eq, S38_eq, go_sem, ↓reduceIte, decide_eq_true_eq, decide_eq_false_iff_not, ge_iff_le, gt_iff_lt, Int.not_le, Int.not_lt, Bool.not_eq_true', Bool.not_eq_false', Bool.and_eq_true, Bool.and_eq_false_iff]
  have e0 : ¬ bad 0 5 1 3 0 1 := by unfold bad may; omega
  have e1 : may 0 5 1 1 0 := by unfold may; omega
  have e2 : wt 0 1 3 0 1 = 3 := by decide
  have e3 : (run 5 1 1 0 0 0 [0, 0, 2, 1]).2.2 = 2 := by decide
  have e4 : (run 5 1 1 0 0 0 [0, 0, 2, 1]).1 = 0 := by decide
  repeat' first | (intro _) | constructor
  all_goals first | contradiction | (rw [decide_eq_true e4]; exact h)
theorem loop8 {w0 k0 t g e n kk ti : Int} {QQ : Ex → St → Prop} (h35 : Abs.look l 35 = some S48) (hk : kk ≤ 3000) (hn : n ≤ t) (h0 : 0 ≤ w0 ∧ w0 ≤ t) (hT1 : (ti - 1) * g < n - w0) (hT2 : n - w0 ≤ ti * g) (hkk : kk = ti * e - k0)
    (hx : ∀ ts w k (L : List Bx), n ≤ w → L[1]? = some ⟨false, .agg [.int .i64 w, .int .i64 t, .int .i64 g, .int .i64 e, .int .i64 k]⟩ → QQ (.exit 0) ⟨[none, some (.v (.int .i64 n)), none, none, none, some (.v (.int .i64 kk)), none, none, some (.lp 1 []), some (.v (.int .i64 kk))], ts, L, G⟩) :
    ∀ (m : Nat) (i c w k : Int) (L : List Bx), i + m = kk → 0 ≤ i → 0 ≤ c → k = k0 + i - c * e → w = (if t < w0 + c * g then t else w0 + c * g) → may w t g e k → L[1]? = some ⟨false, .agg [.int .i64 w, .int .i64 t, .int .i64 g, .int .i64 e, .int .i64 k]⟩ → 
    WL (W E (specOf l) lp8_0) [1, 5, 8, 9] QQ (m + 1) ⟨[none, some (.v (.int .i64 n)), none, none, none, some (.v (.int .i64 kk)), none, none, some (.lp 1 []), some (.v (.int .i64 i))], [], L, G⟩ := by
  intro m
  induction m with
  | zero =>
    intro i c w k L hi hi0 hc hke hw hm hL
    obtain rfl : i = kk := by omega
    have hct : c = ti := by
      unfold may at hm
      have a1 : ¬ ti < c := fun hlt => by
        have := Int.mul_le_mul_of_nonneg_right (show ti + 1 ≤ c by omega) (show 0 ≤ e by omega)
        rw [Int.add_mul] at this; omega
      have a2 : ¬ c < ti := fun hlt => by
        have := Int.mul_le_mul_of_nonneg_right (show c + 1 ≤ ti by omega) (show 0 ≤ e by omega)
        rw [Int.add_mul] at this; omega
      omega
    subst hct
    refine WL_in lp8_0.eq_1 ?_
    simp (maxSteps := 1000000) (implicitDefEqProofs := false) only [hL, h35, S48_eq, go_sem, ↓reduceIte, decide_eq_true_eq, decide_eq_false_iff_not, ge_iff_le, gt_iff_lt, Int.not_le, Int.not_lt, Bool.not_eq_true', Bool.not_eq_false', Bool.and_eq_true, Bool.and_eq_false_iff]
    refine ⟨fun c => by omega, fun _ => hx _ w k L ?_ hL⟩
    rw [hw]; split <;> omega
  | succ m ih =>
    intro i c w k L hi hi0 hc hke hw hm hL
    have hm' := hm
    unfold may at hm'
    have hlt : c < ti := by
      apply Classical.byContradiction; intro hge
      have := Int.mul_le_mul_of_nonneg_right (show ti ≤ c by omega) (show 0 ≤ e by omega)
      omega
    have hcg : c * g ≤ (ti - 1) * g := Int.mul_le_mul_of_nonneg_right (by omega) (by omega)
    have hcg0 : 0 ≤ c * g := Int.mul_nonneg hc (by omega)
    have hwn : w < n := by rw [hw]; split <;> omega
    refine WL_in lp8_0.eq_1 ?_
    simp (maxSteps := 1000000) (implicitDefEqProofs := false) only [hL, h35, S48_eq, go_sem, ↓reduceIte, decide_eq_true_eq, decide_eq_false_iff_not, ge_iff_le, gt_iff_lt, Int.not_le, Int.not_lt, Bool.not_eq_true', Bool.not_eq_false', Bool.and_eq_true, Bool.and_eq_false_iff]
    refine ⟨fun _ => ⟨fun c1 => by omega, fun _ => ⟨hm, ?_⟩⟩, fun c1 => by omega⟩
    rw [w64 (by omega) (by omega)]
    by_cases hke1 : k + 1 = e
    · refine ih (i + 1) (c + 1) _ _ _ (by omega) (by omega) (by omega) ?_ ?_ (may_tick hm) (get_set hL)
      · unfold tkK; rw [if_pos hke1, Int.add_mul]; omega
      · unfold tkW; rw [if_pos hke1, Int.add_mul, hw]; split <;> split <;> split <;> omega
    · refine ih (i + 1) c _ _ _ (by omega) (by omega) (by omega) ?_ ?_ (may_tick hm) (get_set hL)
      · unfold tkK; rw [if_neg hke1]; omega
      · unfold tkW; rw [if_neg hke1, hw]
theorem w8 {w t g e k n : Int} (h32 : Abs.look l 32 = some S32) (h33 : Abs.look l 33 = some S33) (h34 : Abs.look l 34 = some S34) (h35 : Abs.look l 35 = some S48) (h : Q (.v (.bool true)) G) : Wf E (specOf l) pf8 [.agg [.int .i64 w, .int .i64 t, .int .i64 g, .int .i64 e, .int .i64 k], .int .i64 n] G Q := by
  by_cases hm : may w t g e k
  · simp (maxSteps := 1000000) (implicitDefEqProofs := false) only [pf8, h32, h33, h34, S32_eq, S33_eq, S34_eq, hm, go_sem, ↓reduceIte, decide_eq_true_eq, decide_eq_false_iff_not, ge_iff_le, gt_iff_lt, Int.not_le, Int.not_lt, Bool.not_eq_true', Bool.not_eq_false', Bool.and_eq_true, Bool.and_eq_false_iff]
    have hm' := hm
    unfold may at hm'
    have hb : ¬ bad w t g e k n → 1 ≤ n ∧ n ≤ 1000 := by unfold bad; omega
    have hb2 : bad w t g e k n → n < 1 ∨ 1000 < n := by unfold bad; rintro (h | h); exact absurd hm h; exact h
    refine ⟨fun hbad => ⟨fun c1 => ⟨fun _ => h, fun c2 => by have := hb2 hbad; omega⟩, fun _ => h⟩, fun hbad => ?_⟩
    obtain ⟨hn1, hn2⟩ := hb hbad
    refine ⟨fun ct => ⟨fun _ => ⟨fun c2 => by omega, fun _ => ⟨fun _ => h, fun c3 => by omega⟩⟩, fun c => by omega⟩, fun ct => ⟨fun _ => ⟨fun c2 => by omega, fun _ => ⟨fun c2 => by omega, fun _ => ?_⟩⟩, fun c => by omega⟩⟩
    have hq1 : ¬ n ≤ w → n - w ≤ (n - w + g - 1) / g * g := fun hc => by
      have := Int.emod_add_mul_ediv (n - w + g - 1) g
      have := Int.emod_lt_of_pos (n - w + g - 1) (show 0 < g by omega)
      rw [Int.mul_comm]; omega
    have hq2 : ¬ n ≤ w → ((n - w + g - 1) / g - 1) * g < n - w := fun hc => by
      have := Int.emod_add_mul_ediv (n - w + g - 1) g
      have := Int.emod_nonneg (n - w + g - 1) (show g ≠ 0 by omega)
      rw [Int.sub_mul, Int.mul_comm]; omega
    have hq3 : ¬ n ≤ w → 1 ≤ (n - w + g - 1) / g := fun hc => by
      apply Classical.byContradiction; intro hlt
      have := Int.mul_le_mul_of_nonneg_right (show (n - w + g - 1) / g ≤ 0 by omega) (show 0 ≤ g by omega)
      have := hq1 hc
      omega
    have hq4 : ¬ n ≤ w → e ≤ (n - w + g - 1) / g * e := fun hc => by
      have := Int.mul_le_mul_of_nonneg_right (hq3 hc) (show 0 ≤ e by omega)
      omega
    have hwt : 0 ≤ wt w g e k n ∧ (wt w g e k n = 0 ↔ n ≤ w) := by
      unfold wt; split
      · rename_i c; exact ⟨by omega, by simp [c]⟩
      · rename_i c; have := hq4 c; exact ⟨by omega, by constructor <;> intro <;> omega⟩
    refine ⟨fun c => by omega, fun _ => ⟨fun c => ?_, fun _ => ⟨fun _ => h, fun hk3 => ?_⟩⟩⟩
    · exfalso
      have : decide (wt w g e k n = 0) = decide (n ≤ w) := by simp [hwt.2]
      rw [this] at c; simp at c
    · refine ⟨(wt w g e k n).toNat + 1, ?_⟩
      simp (maxSteps := 1000000) (implicitDefEqProofs := false) only [go_sem, ↓reduceIte, decide_eq_true_eq, decide_eq_false_iff_not, ge_iff_le, gt_iff_lt, Int.not_le, Int.not_lt, Bool.not_eq_true', Bool.not_eq_false', Bool.and_eq_true, Bool.and_eq_false_iff]
      by_cases hnw : n ≤ w
      · have e0 : wt w g e k n = 0 := hwt.2.2 hnw
        rw [e0]
        refine WL_in lp8_0.eq_1 ?_
        simp (maxSteps := 1000000) (implicitDefEqProofs := false) only [h34, S34_eq, hnw, go_sem, ↓reduceIte, decide_eq_true_eq, decide_eq_false_iff_not, ge_iff_le, gt_iff_lt, Int.not_le, Int.not_lt, Bool.not_eq_true', Bool.not_eq_false', Bool.and_eq_true, Bool.and_eq_false_iff]
        exact h
      · refine loop8 (w0 := w) (k0 := k) (ti := (n - w + g - 1) / g) h35 hk3 ct (by omega) (hq2 hnw) (hq1 hnw) (by unfold wt; rw [if_neg hnw]) (fun ts w' k' L hle hL => ?_) _ 0 0 w k _ (by omega) (by omega) (by omega) (by omega) (by rw [if_neg (by omega)]; omega) hm rfl
        simp (maxSteps := 1000000) (implicitDefEqProofs := false) only [hL, h34, S34_eq, go_sem, ↓reduceIte, decide_eq_true_eq, decide_eq_false_iff_not, ge_iff_le, gt_iff_lt, Int.not_le, Int.not_lt, Bool.not_eq_true', Bool.not_eq_false', Bool.and_eq_true, Bool.and_eq_false_iff]
        exact ⟨fun _ => h, fun c => by omega⟩
  · simp (maxSteps := 1000000) (implicitDefEqProofs := false) only [pf8, h32, h33, h34, S32_eq, S33_eq, S34_eq, hm, go_sem, ↓reduceIte, decide_eq_true_eq, decide_eq_false_iff_not, ge_iff_le, gt_iff_lt, Int.not_le, Int.not_lt, Bool.not_eq_true', Bool.not_eq_false', Bool.and_eq_true, Bool.and_eq_false_iff]
    have hb : bad w t g e k n := .inl hm
    repeat' first | (intro _) | constructor
    all_goals first | exact h | contradiction
end Go.Proofs.Ytcicoepkmiahbaa.Rate
