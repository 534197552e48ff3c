/- Rows, certificates, accumulations. -/
import Derived.Test.YtegamlopcdjiaaaDoorUSrt5
namespace Go.Proofs.YtegamlopcdjiaaaDoor.Sha
open Go Go.Abs Go.Abs.Sha Go.Abs.Srt
set_option linter.unusedSimpArgs false
set_option linter.unusedVariables false
set_option maxRecDepth 100000
attribute [local irreducible] W Wops WopsD WL Wop WopD
variable {E : Env} {C : Abs.Spec} {l : List (Nat × Spec1)} {G : List (Nat × V)} {Q : R → List (Nat × V) → Prop}
set_option maxHeartbeats 1000000
theorem walk0121 {f : Nat} {caps : List V} (h : Q (.tup []) G) : Wf E C pf121 [.sle 101 [], .int .i64 0, .int .i64 0, .fn f caps] G Q := by
  have w1 : IntKind.i64.wrap (0 + 1) = 1 := by decide
  have w2 : IntKind.i64.wrap 1 = 1 := by decide
  simp (maxSteps := 1000000) (implicitDefEqProofs := false) only [pf121, w1, w2, go_sem, ↓reduceIte]
  refine ⟨0 + 1, ?_⟩
  refine WL_in lp121_1.eq_1 ?_
  simp (maxSteps := 1000000) (implicitDefEqProofs := false) only [go_sem, ↓reduceIte]
  exact h
theorem walk0112 {T : List (Nat × Spec1)} (hIS : Abs.look l 121 = some (ZIs T)) {f : Nat} {caps : List V} (h : Q (.tup []) G) : Wf E (specOf l) pf112 [.sle 101 [], .int .i64 0, .fn f caps] G Q := by
  simp (maxSteps := 1000000) (implicitDefEqProofs := false) only [pf112, go_sem, ↓reduceIte]
  refine ⟨0 + 1, ?_⟩
  refine WL_in lp112_2.eq_1 ?_
  simp (maxSteps := 1000000) (implicitDefEqProofs := false) only [hIS, ZIs_nil, go_sem, ↓reduceIte]
  refine ⟨0 + 1, ?_⟩
  refine WL_in lp112_1.eq_1 ?_
  simp (maxSteps := 1000000) (implicitDefEqProofs := false) only [go_sem, ↓reduceIte]
  exact h
theorem walk092 {T : List (Nat × Spec1)} (hST : Abs.look l 112 = some (ZSb T)) {f : Nat} {caps : List V} (h : Q (.tup []) G) : Wf E (specOf l) pf92 [.sle 101 [], .fn f caps] G Q := by
  simp (maxSteps := 1000000) (implicitDefEqProofs := false) only [pf92, hST, ZSb_nil, List.length_nil, Int.natCast_zero, go_sem, ↓reduceIte]
  first | exact h | exact ⟨rfl, h⟩
theorem walk095 {f : Nat} {caps : List V} (h : Q (.v (.sle 101 [])) G) : Wf E C pf95 [.sle 101 [], .fn f caps] G Q := by
  simp (maxSteps := 1000000) (implicitDefEqProofs := false) only [pf95, List.length_nil, Int.natCast_zero, go_sem, ↓reduceIte]
  exact h
end Go.Proofs.YtegamlopcdjiaaaDoor.Sha
