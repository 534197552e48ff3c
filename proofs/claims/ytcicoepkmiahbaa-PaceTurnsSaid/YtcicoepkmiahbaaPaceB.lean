/- What the theorem of waiting's function hands back, over plain values; no conditions. -/
import Derived.Test.YtcicoepkmiahbaaPaceA
namespace Go.Proofs.Ytcicoepkmiahbaa.Pace
open Go Go.Abs
set_option linter.unusedSimpArgs false
set_option linter.unusedVariables false
set_option maxRecDepth 100000
attribute [local irreducible] W Wops WopsD WL Wop WopD
variable {E : Env} {C : Abs.Spec} {l : List (Nat × Spec1)} {G : List (Nat × V)} {Q : R → List (Nat × V) → Prop}
set_option maxHeartbeats 1000000

theorem loop5 {a v f nn : Int} {QQ : Ex → St → Prop} (h17 : Abs.look l 17 = some S17) (hv : 1 ≤ v ∧ v ≤ 1099511627776) (hf : 0 ≤ f ∧ f ≤ 60) (hn : 4 ≤ nn ∧ nn ≤ 64)
    (hx : ∀ (L : List Bx) ts, L[2]? = some ⟨false, .agg [.int .i64 v, .int .i64 0, .int .i64 f]⟩ → QQ (.exit 0) ⟨[none, some (.v (.int .i64 a)), none, none, none, none, none, none, none, some (.v (.int .i64 nn)), some (.lp 2 []), some (.v (.int .i64 (nn + 1))), none, none, none, none, none], ts, L, G⟩) :
    ∀ (m : Nat) (x : Int) (L : List Bx), x + m = nn + 1 → 1 ≤ x → L[2]? = some ⟨false, .agg [.int .i64 v, .int .i64 (nn + 1 - x), .int .i64 f]⟩ →
      WL (W E (specOf l) lp5_0) [1, 9, 10, 11] QQ (m + 1) ⟨[none, some (.v (.int .i64 a)), none, none, none, none, none, none, none, some (.v (.int .i64 nn)), some (.lp 2 []), some (.v (.int .i64 x)), none, none, none, none, none], [], L, G⟩ := by
  intro m
  induction m with
  | zero =>
    intro x L hxm h1 hL
    obtain rfl : x = nn + 1 := by omega
    rw [show nn + 1 - (nn + 1) = 0 by omega] at hL
    refine WL_in lp5_0.eq_1 ?_
    simp (maxSteps := 1000000) (implicitDefEqProofs := false) only [h17, S17_eq, go_sem, ↓reduceIte, decide_eq_true_eq, decide_eq_false_iff_not, ge_iff_le, gt_iff_lt, Int.not_le, Int.not_lt, Bool.not_eq_true', Bool.not_eq_false', Bool.and_eq_true, Bool.and_eq_false_iff]
    exact ⟨fun c => by omega, fun _ => hx _ _ hL⟩
  | succ m ih =>
    intro x L hxm h1 hL
    have hA : ∀ b, (L ++ [b])[2]? = some ⟨false, .agg [.int .i64 v, .int .i64 (nn + 1 - x), .int .i64 f]⟩ := fun b => by
      rw [List.getElem?_append_left (List.getElem?_eq_some_iff.1 hL).1]; exact hL
    refine WL_in lp5_0.eq_1 ?_
    simp (maxSteps := 1000000) (implicitDefEqProofs := false) only [h17, S17_eq, hL, hA, go_sem, ↓reduceIte, decide_eq_true_eq, decide_eq_false_iff_not, ge_iff_le, gt_iff_lt, Int.not_le, Int.not_lt, Bool.not_eq_true', Bool.not_eq_false', Bool.and_eq_true, Bool.and_eq_false_iff]
    have hm : may v (nn + 1 - x) f := by unfold may; omega
    have hd : decide (nn + 1 - x ≤ 1) = decide (x = nn) := by simp; omega
    refine ⟨fun c => ⟨fun _ => ⟨fun e => ?_, fun e => ?_⟩, fun hn => absurd hm hn⟩, fun c => by omega⟩
    · rw [hd] at e; simp at e
    · rw [w64 (by omega) (by omega)]
      refine ih _ _ (by omega) (by omega) ?_
      have ht : tk (nn + 1 - x) = nn + 1 - (x + 1) := by unfold tk; split <;> omega
      rw [ht, List.getElem?_set_self (by have := (List.getElem?_eq_some_iff.1 hL).1; simp; omega)]
theorem wait_up {x : Int} (hx : x ≤ 60) : wait x ≤ wait (nf false x) := by
  have h0 : x ≤ nf false x := by unfold nf; simp only [Bool.false_eq_true, if_false]; split <;> omega
  have h1 := wait_cases x
  have h2 := wait_cases (nf false x)
  omega
theorem nf_in (b : Bool) {f : Int} (hf : 0 ≤ f ∧ f ≤ 60) : 0 ≤ nf b f ∧ nf b f ≤ 60 := by
  unfold nf; cases b <;> simp <;> split <;> omega
theorem w5 {v k f a b} (h17 : Abs.look l 17 = some S17) (h18 : Abs.look l 18 = some S18) (h22 : Abs.look l 22 = some S22) (h24 : Abs.look l 24 = some S24)
    (h : Q (.v (.bool true)) G) : Wf E (specOf l) pf5 [.agg [.int .i64 v, .int .i64 k, .int .i64 f], .int .i64 a, .bool b] G Q := by
  simp (maxSteps := 1000000) (implicitDefEqProofs := false) only [pf5, h17, h18, h22, h24, S17_eq, S18_eq, S22_eq, S24_eq, go_sem, ↓reduceIte, decide_eq_true_eq, decide_eq_false_iff_not, ge_iff_le, gt_iff_lt, Int.not_le, Int.not_lt, Bool.not_eq_true', Bool.not_eq_false', Bool.and_eq_true, Bool.and_eq_false_iff]
  refine ⟨fun _ => h, fun hb => ⟨fun _ => h, fun hva => ?_⟩⟩
  have hm : may v k f := by unfold bad at hb; exact Classical.byContradiction fun hn => hb (.inl hn)
  have ha : 1 ≤ a ∧ a ≤ 1099511627776 := by unfold bad at hb; omega
  have hf := nf_in b (by unfold may at hm; exact hm.2.2)
  have hn : 4 ≤ wait (nf b f) ∧ wait (nf b f) ≤ 64 := by have := wait_cases (nf b f); omega
  refine ⟨(wait (nf b f)).toNat + 1, ?_⟩
  simp (maxSteps := 1000000) (implicitDefEqProofs := false) only [go_sem, ↓reduceIte, decide_eq_true_eq, decide_eq_false_iff_not, ge_iff_le, gt_iff_lt, Int.not_le, Int.not_lt, Bool.not_eq_true', Bool.not_eq_false', Bool.and_eq_true, Bool.and_eq_false_iff]
  refine loop5 (v := a) h17 ha hf hn (fun L ts hL => ?_) _ 1 _ (by omega) (by omega) (by simp only [List.getElem?_cons_zero, List.getElem?_cons_succ]; rw [show wait (nf b f) + 1 - 1 = wait (nf b f) by omega])
  simp (maxSteps := 1000000) (implicitDefEqProofs := false) only [h18, h24, S18_eq, S24_eq, hL, go_sem, ↓reduceIte, decide_eq_true_eq, decide_eq_false_iff_not, ge_iff_le, gt_iff_lt, Int.not_le, Int.not_lt, Bool.not_eq_true', Bool.not_eq_false', Bool.and_eq_true, Bool.and_eq_false_iff]
  refine ⟨fun _ => h, fun c => ?_⟩
  rw [w64 (by omega) (by omega)]
  have hb2 : ¬ bad a 0 (nf b f) (a + 1) := by unfold bad may; omega
  have := wait_up hf.2
  repeat' first | (intro _) | constructor
  all_goals first | exact h | contradiction | (exfalso; omega)
end Go.Proofs.Ytcicoepkmiahbaa.Pace
