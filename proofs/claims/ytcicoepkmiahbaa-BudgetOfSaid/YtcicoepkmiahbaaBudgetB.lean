/- For every input BudgetOf returns true and leaves its argument as it was; no conditions. -/
import Derived.Test.YtcicoepkmiahbaaBudgetA
import Derived.Test.YtcicoepkmiahbaaRows
import Derived.OpenShut
import Derived.Below
namespace Go.Proofs.Ytcicoepkmiahbaa.BudgetOf
open Go Go.Abs Go.RowKit Go.Proofs.Ytcicoepkmiahbaa Go.Proofs
set_option maxRecDepth 100000
theorem p3 : prepF Try.prog 3 12 [] = some pf3 := by kernel_rfl
theorem p10 : prepF Try.prog 10 5 [] = some pf10 := by kernel_rfl
theorem p11 : prepF Try.prog 11 6 [[2, 3, 4], [2, 3, 4, 5]] = some pf11 := by kernel_rfl
theorem p12 : prepF Try.prog 12 4 [[0, 3]] = some pf12 := by kernel_rfl
theorem p13 : prepF Try.prog 13 4 [] = some pf13 := by kernel_rfl
theorem p14 : prepF Try.prog 14 6 [[0, 3, 4, 5]] = some pf14 := by kernel_rfl
theorem p15 : prepF Try.prog 15 5 [] = some pf15 := by kernel_rfl
theorem p16 : prepF Try.prog 16 3 [] = some pf16 := by kernel_rfl
theorem p41 : prepF Try.prog 41 7 [] = some pf41 := by kernel_rfl
theorem p42 : prepF Try.prog 42 3 [] = some pf42 := by kernel_rfl
theorem p49 : prepF Try.prog 49 3 [] = some pf49 := by kernel_rfl
theorem d10 : S10.Det := by
  intro vs G Q h
  unfold S10 at h ⊢
  split at h
  · first | exact ⟨_, _, h, fun Q' h' => h'⟩ | exact ⟨_, _, h.2, fun Q' h' => ⟨h.1, h'⟩⟩ | exact detIf h
  · exact h.elim
theorem d11 : S11.Det := by
  intro vs G Q h
  unfold S11 at h ⊢
  split at h
  · first | exact ⟨_, _, h, fun Q' h' => h'⟩ | exact ⟨_, _, h.2, fun Q' h' => ⟨h.1, h'⟩⟩ | exact detIf h
  · exact h.elim
theorem d13 : S13.Det := by
  intro vs G Q h
  unfold S13 at h ⊢
  split at h
  · first | exact ⟨_, _, h, fun Q' h' => h'⟩ | exact ⟨_, _, h.2, fun Q' h' => ⟨h.1, h'⟩⟩ | exact detIf h
  · exact h.elim
theorem d14 : S14.Det := by
  intro vs G Q h
  unfold S14 at h ⊢
  split at h
  · first | exact ⟨_, _, h, fun Q' h' => h'⟩ | exact ⟨_, _, h.2, fun Q' h' => ⟨h.1, h'⟩⟩ | exact detIf h
  · exact h.elim
theorem d15 : S15.Det := by
  intro vs G Q h
  unfold S15 at h ⊢
  split at h
  · first | exact ⟨_, _, h, fun Q' h' => h'⟩ | exact ⟨_, _, h.2, fun Q' h' => ⟨h.1, h'⟩⟩ | exact detIf h
  · exact h.elim
theorem d16 : S16.Det := by
  intro vs G Q h
  unfold S16 at h ⊢
  split at h
  · first | exact ⟨_, _, h, fun Q' h' => h'⟩ | exact ⟨_, _, h.2, fun Q' h' => ⟨h.1, h'⟩⟩ | exact detIf h
  · exact h.elim
theorem d41 : S41.Det := by
  intro vs G Q h
  unfold S41 at h ⊢
  split at h
  · first | exact ⟨_, _, h, fun Q' h' => h'⟩ | exact ⟨_, _, h.2, fun Q' h' => ⟨h.1, h'⟩⟩ | exact detIf h
  · exact h.elim
theorem d42 : S42.Det := by
  intro vs G Q h
  unfold S42 at h ⊢
  split at h
  · first | exact ⟨_, _, h, fun Q' h' => h'⟩ | exact ⟨_, _, h.2, fun Q' h' => ⟨h.1, h'⟩⟩ | exact detIf h
  · exact h.elim
theorem d49 : S49.Det := by
  intro vs G Q h
  unfold S49 at h ⊢
  split at h
  · first | exact ⟨_, _, h, fun Q' h' => h'⟩ | exact ⟨_, _, h.2, fun Q' h' => ⟨h.1, h'⟩⟩ | exact detIf h
  · exact h.elim

theorem own : ownKnob Try.prog.godebug = none := by kernel_rfl
theorem laidOut : laidOutB Try.prog = true := by kernel_rfl
noncomputable def EE : Env := ⟨Try.prog, []⟩
theorem g49 : Abs.Good EE [(49, S49)] := (Abs.Good.nil EE).cons d49 fun vs G Q h => by
  unfold S49 at h; split at h
  · exact (Abs.Good.nil EE).ret (E := EE) p49 rfl (w49 h)
  · exact h.elim
theorem g42 : Abs.Good EE [(42, S42), (49, S49)] := g49.cons d42 fun vs G Q h => by
  unfold S42 at h; split at h
  · exact g49.ret (E := EE) p42 rfl (w42 rfl h)
  · exact h.elim
theorem g41 : Abs.Good EE [(41, S41), (42, S42), (49, S49)] := g42.cons d41 fun vs G Q h => by
  unfold S41 at h; split at h
  · exact g42.ret (E := EE) p41 rfl (w41 h)
  · exact h.elim
theorem g12 : Abs.Good EE [(12, S42), (41, S41), (42, S42), (49, S49)] := g41.cons d42 fun vs G Q h => by
  unfold S42 at h; split at h
  · exact g41.ret (E := EE) p12 rfl (w12 h)
  · exact h.elim
theorem g13 : Abs.Good EE [(13, S13), (12, S42), (41, S41), (42, S42), (49, S49)] := g12.cons d13 fun vs G Q h => by
  unfold S13 at h; split at h
  · exact g12.ret (E := EE) p13 rfl (w13 rfl h)
  · exact h.elim
theorem g14 : Abs.Good EE [(14, S14), (13, S13), (12, S42), (41, S41), (42, S42), (49, S49)] := g13.cons d14 fun vs G Q h => by
  unfold S14 at h; split at h
  · exact g13.ret (E := EE) p14 rfl (w14 rfl h.1 h.2)
  · exact h.elim
theorem g15 : Abs.Good EE [(15, S15), (14, S14), (13, S13), (12, S42), (41, S41), (42, S42), (49, S49)] := g14.cons d15 fun vs G Q h => by
  unfold S15 at h; split at h
  · exact g14.ret (E := EE) p15 rfl (w15 rfl h)
  · exact h.elim
theorem g10 : Abs.Good EE [(10, S10), (15, S15), (14, S14), (13, S13), (12, S42), (41, S41), (42, S42), (49, S49)] := g15.cons d10 fun vs G Q h => by
  unfold S10 at h; split at h
  · exact g15.ret (E := EE) p10 rfl (w10 rfl rfl (by split <;> first | exact h.1 (by assumption) | exact h.2 (by assumption)))
  · exact h.elim
theorem g11 : Abs.Good EE [(11, S11), (10, S10), (15, S15), (14, S14), (13, S13), (12, S42), (41, S41), (42, S42), (49, S49)] := g10.cons d11 fun vs G Q h => by
  unfold S11 at h; split at h
  · exact g10.ret (E := EE) p11 rfl (w11 h.1 h.2)
  · exact h.elim
theorem g16 : Abs.Good EE [(16, S16), (11, S11), (10, S10), (15, S15), (14, S14), (13, S13), (12, S42), (41, S41), (42, S42), (49, S49)] := g11.cons d16 fun vs G Q h => by
  unfold S16 at h; split at h
  · exact g11.ret (E := EE) p16 rfl (w16 rfl rfl h)
  · exact h.elim

theorem four {xs : List Int} (h : xs.length = 4) : ∃ a b c d, xs = [a, b, c, d] := by
  match xs, h with
  | [a, b, c, d], _ => exact ⟨a, b, c, d, rfl⟩
theorem law : ∀ vs : List V, TyAll Try.prog 12 Try.f3.params.toList vs → Ret EE 3 vs [] (fun r _ => r = .v (.bool true)) := by
  intro vs h
  have hk : intK Try.prog 3 = some .i64 := by kernel_rfl
  simp only [Try.params3, TyAll, TyV, Try.underlying22, hk] at h
  obtain ⟨x, l, rfl, ⟨xs, rfl, hl, hw⟩, rfl⟩ := h
  obtain ⟨a, b, c, d, rfl⟩ := four hl
  exact g16.ret (E := EE) p3 rfl (w3 rfl rfl rfl rfl rfl rfl rfl (wf64 (hw b (by simp))) rfl)
set_option maxRecDepth 100000 in
theorem lifted (os : Os) (started : os.Started) (H : Type) (enc : TypeId × Value → H) :
    ReturnsInHanded {} Try.checked os 3 .any (Rows.budgetOfSpec.pre6 enc Try.prog Try.f3 Rows.budgetOfRow.domain false) (Rows.budgetOfSpec.post enc Try.prog Try.f3 false true false false) :=
  law_lifted (C := Try.checked) (fn := Try.f3) (n := 12) (tab := []) (tb := 4) own started (by kernel_rfl) Try.func3
    (ChangeSpec.witness6 (enc := enc) (C := Try.checked) false ⟨#[], #[.agg #[.int .i64 0, .int .i64 0, .int .i64 0, .int .i64 0]], []⟩ 8 (by kernel_rfl) (by kernel_rfl) (by kernel_rfl) (by kernel_rfl))
    laidOut rfl rfl Try.underlying4 (fun H ds h => by
      rw [Try.params3] at h
      match ds, h with
      | [d], _ => rfl)
    (fun t ht => by
      rw [Try.params3] at ht; simp at ht; subst ht; exact ⟨by kernel_rfl, of_decide_eq_true (by kernel_rfl)⟩)
    (fun t ht => by
      rw [Try.params3] at ht; simp at ht; subst ht; kernel_rfl)
    (fun W g x h => by cases h) law
theorem over : Rows.budgetOfRow.holds Try.pinned (OpenSpec.ofChange Rows.budgetOfSpec) :=
  OpenClaim.holds_of_wide 3 Try.f3 rfl rfl rfl rfl rfl rfl rfl ⟨rfl, rfl, rfl, rfl, rfl⟩ rfl rfl rfl rfl rfl (by kernel_rfl) Try.func3 (by kernel_rfl)
    (of_decide_eq_true (by kernel_rfl)) (by unfold Func.isWrapper; first | (rw [if_pos (by decide +kernel)]; kernel_rfl) | (rw [if_neg (by decide +kernel)]; exact ⟨rfl, rfl⟩))
    (fun os started H enc _ => lifted os started H enc)
theorem budgetOf_holds : Rows.BudgetOfSaid := over
#print axioms budgetOf_holds
end Go.Proofs.Ytcicoepkmiahbaa.BudgetOf
