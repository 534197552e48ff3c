/- What the function of any tick and any taking hands back, over plain values; no conditions. -/
import Derived.Test.YtcicoepkmiahbaaRateB
namespace Go.Proofs.Ytcicoepkmiahbaa.Rate
open Go Go.Abs
set_option linter.unusedSimpArgs false
set_option linter.unusedVariables false
set_option maxRecDepth 100000
attribute [local irreducible] W Wops WopsD WL Wop WopD
variable {E : Env} {C : Abs.Spec} {l : List (Nat × Spec1)} {G : List (Nat × V)} {Q : R → List (Nat × V) → Prop}
set_option maxHeartbeats 1000000

theorem loop9 {t g e c8 c12 c13 : Int} {xs : List Int} {z0 z1 z3 : Bx} {QQ : Ex → St → Prop} (h39 : Abs.look l 39 = some S37) (h35 : Abs.look l 35 = some S48) (hl : (xs.length : Int) ≤ 9223372036854775806) {R0 : Int × Int × Int}
    (hx : ∀ ts (L : List Bx) i, L[5]? = some ⟨false, .agg [.int .i64 R0.1, .int .i64 t, .int .i64 g, .int .i64 e, .int .i64 R0.2.1]⟩ → L[0]? = some z0 → L[1]? = some z1 → L[3]? = some z3 → QQ (.exit 0) ⟨[none, none, some (.v (.sli .i64 xs)), some (.lp 0 []), none, none, none, some (.lp 1 []), some (.v (.int .i64 c8)), none, none, some (.lp 3 []), some (.v (.int .i64 c12)), some (.v (.int .i64 c13)), none, none, none, some (.lp 5 []), some (.v (.int .i64 R0.2.2)), some (.v (.int .i64 i)), none, none], ts, L, G⟩) :
    ∀ (ys : List Int) (i : Nat) (w k s : Int) (L : List Bx), ys = xs.drop i → i ≤ xs.length → may w t g e k → run t g e w k s ys = R0 → L[5]? = some ⟨false, .agg [.int .i64 w, .int .i64 t, .int .i64 g, .int .i64 e, .int .i64 k]⟩ → L[0]? = some z0 → L[1]? = some z1 → L[3]? = some z3 →
      WL (W E (specOf l) lp9_0) [2, 3, 7, 8, 11, 12, 13, 17, 18, 19] QQ (ys.length + 1) ⟨[none, none, some (.v (.sli .i64 xs)), some (.lp 0 []), none, none, none, some (.lp 1 []), some (.v (.int .i64 c8)), none, none, some (.lp 3 []), some (.v (.int .i64 c12)), some (.v (.int .i64 c13)), none, none, none, some (.lp 5 []), some (.v (.int .i64 s)), some (.v (.int .i64 i)), none, none], [], L, G⟩ := by
  intro ys
  induction ys with
  | nil =>
    intro i w k s L hy hi hm hr hL hL0 hL1 hL3
    have : xs.length ≤ i := by
      have := congrArg List.length hy; simp at this; omega
    obtain rfl : i = xs.length := by omega
    simp only [run] at hr; subst hr
    refine WL_in lp9_0.eq_1 ?_
    simp (maxSteps := 1000000) (implicitDefEqProofs := false) only [hL, go_sem, ↓reduceIte, decide_eq_true_eq, decide_eq_false_iff_not, ge_iff_le, gt_iff_lt, Int.not_le, Int.not_lt, Bool.not_eq_true', Bool.not_eq_false', Bool.and_eq_true, Bool.and_eq_false_iff]
    refine ⟨fun c => by omega, fun c => hx _ _ _ hL hL0 hL1 hL3⟩
  | cons n ys ih =>
    intro i w k s L hy hi hm hr hL hL0 hL1 hL3
    have hlt : i < xs.length := by
      apply Classical.byContradiction; intro hc
      rw [List.drop_eq_nil_of_le (by omega)] at hy; cases hy
    have hni : xs.getD i 0 = n := by
      rw [List.drop_eq_getElem_cons hlt] at hy
      simp only [List.cons.injEq] at hy
      rw [List.getD_eq_getElem?_getD, List.getElem?_eq_getElem hlt, hy.1]; rfl
    have hys : ys = xs.drop (i + 1) := by
      rw [List.drop_eq_getElem_cons hlt] at hy
      simp only [List.cons.injEq] at hy; exact hy.2
    have hA : ∀ b, (L ++ [b])[5]? = some ⟨false, .agg [.int .i64 w, .int .i64 t, .int .i64 g, .int .i64 e, .int .i64 k]⟩ := fun b => get_app hL
    have hne : (L.length == 5) = false := by have := (List.getElem?_eq_some_iff.1 hL).1; simp; omega
    have hne2 : (5 == L.length) = false := by have := (List.getElem?_eq_some_iff.1 hL).1; simp; omega
    refine WL_in lp9_0.eq_1 ?_
    simp (maxSteps := 1000000) (implicitDefEqProofs := false) only [hL, hA, h39, h35, S37_eq, S48_eq, Int.toNat_natCast, hni, hne, hne2, go_sem, ↓reduceIte, decide_eq_true_eq, decide_eq_false_iff_not, ge_iff_le, gt_iff_lt, Int.not_le, Int.not_lt, Bool.not_eq_true', Bool.not_eq_false', Bool.and_eq_true, Bool.and_eq_false_iff]
    have hi1 : IntKind.i64.wrap ((i : Int) + 1) = ((i + 1 : Nat) : Int) := by rw [w64 (by omega) (by omega)]; simp
    rw [hi1]
    simp only [run] at hr
    refine ⟨fun c => ⟨by omega, fun c1 => ⟨hm, ?_⟩, fun c1 => ⟨by omega, fun hb => ?_, fun hb => ⟨fun c2 => ?_, fun c2 => ⟨by omega, ?_⟩⟩⟩⟩, fun c => by omega⟩
    · rw [if_pos c1] at hr
      exact ih (i + 1) _ _ _ _ hys (by omega) (may_tick hm) hr (get_set hL) (get_set_ne (by decide) hL0) (get_set_ne (by decide) hL1) (get_set_ne (by decide) hL3)
    · rw [if_neg (by omega), if_neg (by unfold bad at hb; rintro ⟨c3, _⟩; rcases hb with hb | hb; exact hb hm; omega)] at hr
      exact ih (i + 1) _ _ _ _ hys (by omega) hm hr (get_app hL) (get_app hL0) (get_app hL1) (get_app hL3)
    · rw [if_neg (by omega), if_neg (by omega)] at hr
      exact ih (i + 1) _ _ _ _ hys (by omega) hm hr (get_app hL) (get_app hL0) (get_app hL1) (get_app hL3)
    · have hn1 : n ≤ 1000 := by unfold bad at hb; omega
      rw [if_neg (by omega), if_pos ⟨hn1, c2⟩] at hr
      exact ih (i + 1) _ _ _ _ hys (by omega) (by unfold may at *; omega) hr (get_set (get_app hL)) (get_set_ne (by decide) (get_app hL0)) (get_set_ne (by decide) (get_app hL1)) (get_set_ne (by decide) (get_app hL3))
theorem w9 {w t g e k n : Int} {xs : List Int} (h33 : Abs.look l 33 = some S33) (h34 : Abs.look l 34 = some S34) (h35 : Abs.look l 35 = some S48) (h36 : Abs.look l 36 = some S36) (h37 : Abs.look l 37 = some S37) (h38 : Abs.look l 38 = some S38) (h39 : Abs.look l 39 = some S37) (h40 : Abs.look l 40 = some S40)
   (h : Q (.v (.bool true)) G) : Wf E (specOf l) pf9 [.agg [.int .i64 w, .int .i64 t, .int .i64 g, .int .i64 e, .int .i64 k], .int .i64 n, .sli .i64 xs] G Q := by
  by_cases hl : 200 < (xs.length : Int)
  · simp (maxSteps := 1000000) (implicitDefEqProofs := false) only [pf9, h34, S34_eq, hl, go_sem, ↓reduceIte, decide_eq_true_eq, decide_eq_false_iff_not, ge_iff_le, gt_iff_lt, Int.not_le, Int.not_lt, Bool.not_eq_true', Bool.not_eq_false', Bool.and_eq_true, Bool.and_eq_false_iff]
    exact h
  by_cases hm : may w t g e k
  · by_cases hb : bad w t g e k n
    · simp (maxSteps := 1000000) (implicitDefEqProofs := false) only [pf9, h33, h34, h35, h36, h37, h38, h39, h40, S33_eq, S34_eq, S48_eq, S36_eq, S37_eq, S38_eq, S40_eq, hm, hb, hl, go_sem, ↓reduceIte, decide_eq_true_eq, decide_eq_false_iff_not, ge_iff_le, gt_iff_lt, Int.not_le, Int.not_lt, Bool.not_eq_true', Bool.not_eq_false', Bool.and_eq_true, Bool.and_eq_false_iff]
      refine ⟨by omega, xs.length + 1, ?_⟩
      simp (maxSteps := 1000000) (implicitDefEqProofs := false) only [go_sem, ↓reduceIte, decide_eq_true_eq, decide_eq_false_iff_not, ge_iff_le, gt_iff_lt, Int.not_le, Int.not_lt, Bool.not_eq_true', Bool.not_eq_false', Bool.and_eq_true, Bool.and_eq_false_iff]
      refine loop9 (R0 := run t g e w k 0 xs) h39 h35 (by omega) (fun ts L i hL hL0 hL1 hL3 => ?_) xs 0 w k 0 _ rfl (by omega) hm rfl rfl rfl rfl rfl
      simp (maxSteps := 1000000) (implicitDefEqProofs := false) only [hL, hL0, hL1, hL3, h34, h35, S34_eq, S48_eq, hm, go_sem, ↓reduceIte, decide_eq_true_eq, decide_eq_false_iff_not, ge_iff_le, gt_iff_lt, Int.not_le, Int.not_lt, Bool.not_eq_true', Bool.not_eq_false', Bool.and_eq_true, Bool.and_eq_false_iff]
      exact h
    · by_cases hwn : w < n
      · simp (maxSteps := 1000000) (implicitDefEqProofs := false) only [pf9, h33, h34, h35, h36, h37, h38, h39, h40, S33_eq, S34_eq, S48_eq, S36_eq, S37_eq, S38_eq, S40_eq, hm, hb, hwn, hl, go_sem, ↓reduceIte, decide_eq_true_eq, decide_eq_false_iff_not, ge_iff_le, gt_iff_lt, Int.not_le, Int.not_lt, Bool.not_eq_true', Bool.not_eq_false', Bool.and_eq_true, Bool.and_eq_false_iff]
        refine ⟨by omega, xs.length + 1, ?_⟩
        simp (maxSteps := 1000000) (implicitDefEqProofs := false) only [go_sem, ↓reduceIte, decide_eq_true_eq, decide_eq_false_iff_not, ge_iff_le, gt_iff_lt, Int.not_le, Int.not_lt, Bool.not_eq_true', Bool.not_eq_false', Bool.and_eq_true, Bool.and_eq_false_iff]
        refine loop9 (R0 := run t g e w k 0 xs) h39 h35 (by omega) (fun ts L i hL hL0 hL1 hL3 => ?_) xs 0 w k 0 _ rfl (by omega) hm rfl rfl rfl rfl rfl
        simp (maxSteps := 1000000) (implicitDefEqProofs := false) only [hL, hL0, hL1, hL3, h34, h35, S34_eq, S48_eq, hm, go_sem, ↓reduceIte, decide_eq_true_eq, decide_eq_false_iff_not, ge_iff_le, gt_iff_lt, Int.not_le, Int.not_lt, Bool.not_eq_true', Bool.not_eq_false', Bool.and_eq_true, Bool.and_eq_false_iff]
        exact h
      · simp (maxSteps := 1000000) (implicitDefEqProofs := false) only [pf9, h33, h34, h35, h36, h37, h38, h39, h40, S33_eq, S34_eq, S48_eq, S36_eq, S37_eq, S38_eq, S40_eq, hm, hb, hwn, hl, go_sem, ↓reduceIte, decide_eq_true_eq, decide_eq_false_iff_not, ge_iff_le, gt_iff_lt, Int.not_le, Int.not_lt, Bool.not_eq_true', Bool.not_eq_false', Bool.and_eq_true, Bool.and_eq_false_iff]
        refine ⟨by omega, xs.length + 1, ?_⟩
        simp (maxSteps := 1000000) (implicitDefEqProofs := false) only [go_sem, ↓reduceIte, decide_eq_true_eq, decide_eq_false_iff_not, ge_iff_le, gt_iff_lt, Int.not_le, Int.not_lt, Bool.not_eq_true', Bool.not_eq_false', Bool.and_eq_true, Bool.and_eq_false_iff]
        refine loop9 (R0 := run t g e w k 0 xs) h39 h35 (by omega) (fun ts L i hL hL0 hL1 hL3 => ?_) xs 0 w k 0 _ rfl (by omega) hm rfl rfl rfl rfl rfl
        simp (maxSteps := 1000000) (implicitDefEqProofs := false) only [hL, hL0, hL1, hL3, h34, h35, S34_eq, S48_eq, hm, go_sem, ↓reduceIte, decide_eq_true_eq, decide_eq_false_iff_not, ge_iff_le, gt_iff_lt, Int.not_le, Int.not_lt, Bool.not_eq_true', Bool.not_eq_false', Bool.and_eq_true, Bool.and_eq_false_iff]
        exact h
  · have hb : bad w t g e k n := .inl hm
    simp (maxSteps := 1000000) (implicitDefEqProofs := false) only [pf9, h33, h34, h35, h36, h37, h38, h39, h40, S33_eq, S34_eq, S48_eq, S36_eq, S37_eq, S38_eq, S40_eq, hm, hb, hl, go_sem, ↓reduceIte, decide_eq_true_eq, decide_eq_false_iff_not, ge_iff_le, gt_iff_lt, Int.not_le, Int.not_lt, Bool.not_eq_true', Bool.not_eq_false', Bool.and_eq_true, Bool.and_eq_false_iff]
    exact ⟨by omega, h⟩
end Go.Proofs.Ytcicoepkmiahbaa.Rate
