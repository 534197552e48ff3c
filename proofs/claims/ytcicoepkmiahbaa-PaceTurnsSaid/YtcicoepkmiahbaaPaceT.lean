/- For every input PaceTurns returns true and leaves its arguments as they were; no conditions. -/
import Derived.Test.YtcicoepkmiahbaaPaceB
import Derived.Test.YtcicoepkmiahbaaRows
import Derived.OpenShut
import Derived.Below
namespace Go.Proofs.Ytcicoepkmiahbaa.Pace
open Go Go.Abs Go.RowKit
set_option linter.unusedSimpArgs false
set_option linter.unusedVariables false
set_option maxRecDepth 100000
theorem p4 : prepF Try.prog 4 17 [] = some pf4 := by kernel_rfl
theorem p43 : prepF Try.prog 43 7 [] = some pf43 := by kernel_rfl
theorem p22 : prepF Try.prog 22 3 [] = some pf22 := by kernel_rfl
theorem p21 : prepF Try.prog 21 3 [] = some pf21 := by kernel_rfl
theorem p20 : prepF Try.prog 20 3 [] = some pf20 := by kernel_rfl
theorem p23 : prepF Try.prog 23 5 [[0, 3, 4]] = some pf23 := by kernel_rfl
theorem p17 : prepF Try.prog 17 6 [] = some pf17 := by kernel_rfl
theorem p25 : prepF Try.prog 25 4 [] = some pf25 := by kernel_rfl
theorem p18 : prepF Try.prog 18 9 [] = some pf18 := by kernel_rfl
theorem p19 : prepF Try.prog 19 8 [] = some pf19 := by kernel_rfl
theorem p24 : prepF Try.prog 24 3 [] = some pf24 := by kernel_rfl
theorem d17 : S17.Det := by
  intro vs G Q h
  unfold S17 at h ⊢
  split at h
  · first | exact ⟨_, _, h, fun Q' h' => h'⟩ | exact ⟨_, _, h.2, fun Q' h' => ⟨h.1, h'⟩⟩ | exact detIf2 h | exact detIf h
  · exact h.elim
theorem d18 : S18.Det := by
  intro vs G Q h
  unfold S18 at h ⊢
  split at h
  · first | exact ⟨_, _, h, fun Q' h' => h'⟩ | exact ⟨_, _, h.2, fun Q' h' => ⟨h.1, h'⟩⟩ | exact detIf2 h | exact detIf h
  · exact h.elim
theorem d20 : S20.Det := by
  intro vs G Q h
  unfold S20 at h ⊢
  split at h
  · first | exact ⟨_, _, h, fun Q' h' => h'⟩ | exact ⟨_, _, h.2, fun Q' h' => ⟨h.1, h'⟩⟩ | exact detIf2 h | exact detIf h
  · exact h.elim
theorem d21 : S21.Det := by
  intro vs G Q h
  unfold S21 at h ⊢
  split at h
  · first | exact ⟨_, _, h, fun Q' h' => h'⟩ | exact ⟨_, _, h.2, fun Q' h' => ⟨h.1, h'⟩⟩ | exact detIf2 h | exact detIf h
  · exact h.elim
theorem d22 : S22.Det := by
  intro vs G Q h
  unfold S22 at h ⊢
  split at h
  · first | exact ⟨_, _, h, fun Q' h' => h'⟩ | exact ⟨_, _, h.2, fun Q' h' => ⟨h.1, h'⟩⟩ | exact detIf2 h | exact detIf h
  · exact h.elim
theorem d24 : S24.Det := by
  intro vs G Q h
  unfold S24 at h ⊢
  split at h
  · first | exact ⟨_, _, h, fun Q' h' => h'⟩ | exact ⟨_, _, h.2, fun Q' h' => ⟨h.1, h'⟩⟩ | exact detIf2 h | exact detIf h
  · exact h.elim
theorem d25 : S25.Det := by
  intro vs G Q h
  unfold S25 at h ⊢
  split at h
  · first | exact ⟨_, _, h, fun Q' h' => h'⟩ | exact ⟨_, _, h.2, fun Q' h' => ⟨h.1, h'⟩⟩ | exact detIf2 h | exact detIf h
  · exact h.elim
theorem d43 : S43.Det := by
  intro vs G Q h
  unfold S43 at h ⊢
  split at h
  · first | exact ⟨_, _, h, fun Q' h' => h'⟩ | exact ⟨_, _, h.2, fun Q' h' => ⟨h.1, h'⟩⟩ | exact detIf2 h | exact detIf h
  · exact h.elim
theorem own : ownKnob Try.prog.godebug = none := by kernel_rfl
theorem laidOut : laidOutB Try.prog = true := by kernel_rfl
noncomputable def EE : Env := ⟨Try.prog, []⟩
theorem g43 : Abs.Good EE [(43, S43)] := (Abs.Good.nil EE).cons d43 fun vs G Q h => by
  unfold S43 at h; split at h
  · exact (Abs.Good.nil EE).ret (E := EE) p43 rfl (w43 h)
  · exact h.elim
theorem g22 : Abs.Good EE [(22, S22), (43, S43)] := g43.cons d22 fun vs G Q h => by
  unfold S22 at h; split at h
  · exact g43.ret (E := EE) p22 rfl (w22 h)
  · exact h.elim
theorem g21 : Abs.Good EE [(21, S21), (22, S22), (43, S43)] := g22.cons d21 fun vs G Q h => by
  unfold S21 at h; split at h
  · exact g22.ret (E := EE) p21 rfl (w21 rfl rfl h.1 h.2)
  · exact h.elim
theorem g20 : Abs.Good EE [(20, S20), (21, S21), (22, S22), (43, S43)] := g21.cons d20 fun vs G Q h => by
  unfold S20 at h; split at h
  · exact g21.ret (E := EE) p20 rfl (w20 h.1 h.2)
  · exact h.elim
theorem g23 : Abs.Good EE [(23, S22), (20, S20), (21, S21), (22, S22), (43, S43)] := g20.cons d22 fun vs G Q h => by
  unfold S22 at h; split at h
  · exact g20.ret (E := EE) p23 rfl (w23 h)
  · exact h.elim
theorem g17 : Abs.Good EE [(17, S17), (23, S22), (20, S20), (21, S21), (22, S22), (43, S43)] := g23.cons d17 fun vs G Q h => by
  unfold S17 at h; split at h
  · exact g23.ret (E := EE) p17 rfl (w17 rfl h.1 h.2)
  · exact h.elim
theorem g25 : Abs.Good EE [(25, S25), (17, S17), (23, S22), (20, S20), (21, S21), (22, S22), (43, S43)] := g17.cons d25 fun vs G Q h => by
  unfold S25 at h; split at h
  · exact g17.ret (E := EE) p25 rfl (w25 h.1 h.2)
  · exact h.elim
theorem g18 : Abs.Good EE [(18, S18), (25, S25), (17, S17), (23, S22), (20, S20), (21, S21), (22, S22), (43, S43)] := g25.cons d18 fun vs G Q h => by
  unfold S18 at h; split at h
  · exact g25.ret (E := EE) p18 rfl (w18 rfl rfl rfl h)
  · exact h.elim
theorem g19 : Abs.Good EE [(19, S18), (18, S18), (25, S25), (17, S17), (23, S22), (20, S20), (21, S21), (22, S22), (43, S43)] := g18.cons d18 fun vs G Q h => by
  unfold S18 at h; split at h
  · exact g18.ret (E := EE) p19 rfl (w19 rfl rfl h)
  · exact h.elim
theorem g24 : Abs.Good EE [(24, S24), (19, S18), (18, S18), (25, S25), (17, S17), (23, S22), (20, S20), (21, S21), (22, S22), (43, S43)] := g19.cons d24 fun vs G Q h => by
  unfold S24 at h; split at h
  · exact g19.ret (E := EE) p24 rfl (w24 rfl rfl h)
  · exact h.elim
theorem law4 : ∀ vs : List V, TyAll Try.prog 12 Try.f4.params.toList vs → Ret EE 4 vs [] (fun r _ => r = .v (.bool true)) := by
  intro vs h
  simp only [Try.params4, TyAll, TyV, TyL, Try.underlying34, Try.underlying3, Try.underlying4] at h
  obtain ⟨x, l, rfl, ⟨xs, rfl, _, _, rfl, ⟨v, rfl, hv⟩, _, _, rfl, ⟨k, rfl, hk⟩, _, _, rfl, ⟨f, rfl, hf⟩, rfl⟩, _, _, rfl, ⟨a, rfl, ha⟩, _, _, rfl, ⟨b, rfl⟩, rfl⟩ := h
  exact g24.ret (E := EE) p4 rfl (w4 rfl rfl rfl rfl rfl rfl rfl rfl rfl rfl)
set_option maxRecDepth 100000 in
theorem lifted4 (os : Os) (started : os.Started) (H : Type) (enc : TypeId × Value → H) :
    ReturnsInHanded {} Try.checked os 4 .any (Rows.paceTurnsSpec.pre6 enc Try.prog Try.f4 Rows.paceTurnsRow.domain false) (Rows.paceTurnsSpec.post enc Try.prog Try.f4 false true false false) :=
  law_lifted (C := Try.checked) (fn := Try.f4) (n := 12) (tab := []) (tb := 4) own started (by kernel_rfl) Try.func4
    (ChangeSpec.witness6 (enc := enc) (C := Try.checked) false ⟨#[], #[.agg #[.int .i64 0, .int .i64 0, .int .i64 0], .int .i64 0, .bool false], []⟩ 8 (by kernel_rfl) (by kernel_rfl) (by kernel_rfl) (by kernel_rfl))
    laidOut rfl rfl Try.underlying4 (fun H ds h => by
      rw [Try.params4] at h
      match ds, h with
      | [d1, d2, d3], _ => rfl)
    (fun t ht => by
      rw [Try.params4] at ht; simp at ht; rcases ht with rfl | rfl | rfl
      all_goals exact ⟨by kernel_rfl, of_decide_eq_true (by kernel_rfl)⟩)
    (fun t ht => by
      rw [Try.params4] at ht; simp at ht; rcases ht with rfl | rfl | rfl
      all_goals kernel_rfl)
    (fun W g x h => by cases h) law4
theorem over4 : Rows.paceTurnsRow.holds Try.pinned (OpenSpec.ofChange Rows.paceTurnsSpec) :=
  OpenClaim.holds_of_wide 4 Try.f4 rfl rfl rfl rfl rfl rfl rfl ⟨rfl, rfl, rfl, rfl, rfl⟩ rfl rfl rfl rfl rfl (by kernel_rfl) Try.func4 (by kernel_rfl)
    (of_decide_eq_true (by kernel_rfl)) (by unfold Func.isWrapper; first | (rw [if_pos (by decide +kernel)]; kernel_rfl) | (rw [if_neg (by decide +kernel)]; exact ⟨rfl, rfl⟩))
    (fun os started H enc _ => lifted4 os started H enc)
theorem paceTurns_holds : Rows.PaceTurnsSaid := over4
#print axioms paceTurns_holds
end Go.Proofs.Ytcicoepkmiahbaa.Pace
