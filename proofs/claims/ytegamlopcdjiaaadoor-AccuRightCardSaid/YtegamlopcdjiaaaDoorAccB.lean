/- Rows of numbers that are built up; accumulations at a function's end. -/
import Derived.Test.YtegamlopcdjiaaaDoorAccA
namespace Go.Abs
open Go Go.RowKit
set_option linter.unusedVariables false
set_option linter.unusedSimpArgs false
theorem intsV_map {k : IntKind} : ∀ {l : List Int}, intsV k (l.map (V.int k)) = some l
  | [] => rfl
  | x :: l => by
    simp only [List.map_cons, intsV]
    rw [if_pos (by simp), intsV_map]; rfl
theorem Row.fzI {G0 G : List (Nat × V)} {k : IntKind} {z x : V} {els : List Int} (h : Row G0 G 1 z x (els.map (V.int k))) (ctx : V → R) (hf : ∀ id L k y, V.Fz id L k x y → R.Fz id L k (ctx x) (ctx y)) (hw : ∀ y, V.Wk x y → R.Wk (ctx x) (ctx y)) : Low G0 (ctx x) G (ctx (.sli k els)) G0 := by
  obtain ⟨he, ⟨rfl, e0⟩ | ⟨id, c, L, rfl, h1, h2, h3, h4, h5, h6⟩⟩ := h
  · have : els = [] := by simpa using e0
    subst this
    refine .wk (r1 := ctx (.sli k [])) (hw _ ?_) (WkG.refl _) (.dropAll he)
    unfold V.Wk; exact .inr (.inl ⟨_, rfl⟩)
  · refine .fz id L (some k) h1 h2 (hf id L (some k) _ ?_) (fun j y hj => ?_) (fun j r hj => ⟨r, hj, V.same_refl r⟩) (.refl _ _)
    · unfold V.Fz
      refine .inr ⟨rfl, h3, by omega, fun y hy => (h6 y hy).1, ?_, fun k e => rfl⟩
      unfold elemsV; rw [List.drop_zero, h5]
      simp only [intsV_map, Option.map_some]
    · have hne : j ≠ id := by rintro rfl; rw [h1] at hj; cases hj
      exact ⟨hne, y, he j y hj, V.Fz.refl y⟩
namespace Sha
theorem low_accu {G0 G : List (Nat × V)} {z x : V} {els : List Int} {a b c d t e : V} (h : Row G0 G 1 z x (els.map (V.int .i64))) : Low G0 (.tup [.agg [a, b, c, d, x, t], e]) G (.tup [.agg [a, b, c, d, .sli .i64 els, t], e]) G0 := by
  refine h.fzI (fun y => .tup [.agg [a, b, c, d, y, t], e]) (fun id L k y hy => ?_) (fun y hy => ?_)
  · simp only [R.Fz]
    refine ⟨_, rfl, ?_⟩
    unfold V.FzL; refine ⟨_, _, rfl, ?_, V.FzL.refl _⟩
    unfold V.Fz; refine ⟨_, rfl, ?_⟩
    unfold V.FzL; refine ⟨_, _, rfl, V.Fz.refl _, ?_⟩
    unfold V.FzL; refine ⟨_, _, rfl, V.Fz.refl _, ?_⟩
    unfold V.FzL; refine ⟨_, _, rfl, V.Fz.refl _, ?_⟩
    unfold V.FzL; refine ⟨_, _, rfl, V.Fz.refl _, ?_⟩
    unfold V.FzL; refine ⟨_, _, rfl, hy, V.FzL.refl _⟩
  · simp only [R.Wk]
    refine ⟨_, rfl, ?_⟩
    unfold V.WkL; refine ⟨_, _, rfl, ?_, V.WkL.refl _⟩
    unfold V.Wk; refine ⟨_, rfl, ?_⟩
    unfold V.WkL; refine ⟨_, _, rfl, V.Wk.refl _, ?_⟩
    unfold V.WkL; refine ⟨_, _, rfl, V.Wk.refl _, ?_⟩
    unfold V.WkL; refine ⟨_, _, rfl, V.Wk.refl _, ?_⟩
    unfold V.WkL; refine ⟨_, _, rfl, V.Wk.refl _, ?_⟩
    unfold V.WkL; refine ⟨_, _, rfl, hy, V.WkL.refl _⟩
end Sha
end Go.Abs
