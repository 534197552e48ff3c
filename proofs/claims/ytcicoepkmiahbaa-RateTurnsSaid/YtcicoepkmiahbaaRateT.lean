/- For every input RateTurns returns true and leaves its arguments as they were; no conditions. -/
import Derived.Test.YtcicoepkmiahbaaRateC
import Derived.Test.YtcicoepkmiahbaaRows
import Derived.OpenShut
import Derived.Below
namespace Go.Proofs.Ytcicoepkmiahbaa.Rate
open Go Go.Abs Go.RowKit
set_option linter.unusedSimpArgs false
set_option linter.unusedVariables false
set_option maxRecDepth 100000
theorem p9 : prepF Try.prog 9 22 [[2, 3, 7, 8, 11, 12, 13, 17, 18, 19]] = some pf9 := by kernel_rfl
theorem p47 : prepF Try.prog 47 7 [] = some pf47 := by kernel_rfl
theorem p40 : prepF Try.prog 40 3 [] = some pf40 := by kernel_rfl
theorem p33 : prepF Try.prog 33 3 [] = some pf33 := by kernel_rfl
theorem p48 : prepF Try.prog 48 3 [] = some pf48 := by kernel_rfl
theorem p35 : prepF Try.prog 35 4 [[1, 2, 3]] = some pf35 := by kernel_rfl
theorem p36 : prepF Try.prog 36 5 [] = some pf36 := by kernel_rfl
theorem p37 : prepF Try.prog 37 6 [] = some pf37 := by kernel_rfl
theorem p39 : prepF Try.prog 39 6 [] = some pf39 := by kernel_rfl
theorem p32 : prepF Try.prog 32 7 [] = some pf32 := by kernel_rfl
theorem p38 : prepF Try.prog 38 22 [[2, 4, 8, 19, 20, 21]] = some pf38 := by kernel_rfl
theorem p34 : prepF Try.prog 34 6 [] = some pf34 := by kernel_rfl
theorem d32 : S32.Det := by
  intro vs G Q h
  unfold S32 at h ⊢
  split at h
  · first | exact ⟨_, _, h, fun Q' h' => h'⟩ | exact ⟨_, _, h.2, fun Q' h' => ⟨h.1, h'⟩⟩ | exact detIf2 h | exact detIf h | (obtain ⟨r, G1, h1, h2⟩ := detIf h.2; exact ⟨r, G1, h1, fun Q' h' => ⟨h.1, h2 Q' h'⟩⟩)
  · exact h.elim
theorem d33 : S33.Det := by
  intro vs G Q h
  unfold S33 at h ⊢
  split at h
  · first | exact ⟨_, _, h, fun Q' h' => h'⟩ | exact ⟨_, _, h.2, fun Q' h' => ⟨h.1, h'⟩⟩ | exact detIf2 h | exact detIf h | (obtain ⟨r, G1, h1, h2⟩ := detIf h.2; exact ⟨r, G1, h1, fun Q' h' => ⟨h.1, h2 Q' h'⟩⟩)
  · exact h.elim
theorem d34 : S34.Det := by
  intro vs G Q h
  unfold S34 at h ⊢
  split at h
  · first | exact ⟨_, _, h, fun Q' h' => h'⟩ | exact ⟨_, _, h.2, fun Q' h' => ⟨h.1, h'⟩⟩ | exact detIf2 h | exact detIf h | (obtain ⟨r, G1, h1, h2⟩ := detIf h.2; exact ⟨r, G1, h1, fun Q' h' => ⟨h.1, h2 Q' h'⟩⟩)
  · exact h.elim
theorem d36 : S36.Det := by
  intro vs G Q h
  unfold S36 at h ⊢
  split at h
  · first | exact ⟨_, _, h, fun Q' h' => h'⟩ | exact ⟨_, _, h.2, fun Q' h' => ⟨h.1, h'⟩⟩ | exact detIf2 h | exact detIf h | (obtain ⟨r, G1, h1, h2⟩ := detIf h.2; exact ⟨r, G1, h1, fun Q' h' => ⟨h.1, h2 Q' h'⟩⟩)
  · exact h.elim
theorem d37 : S37.Det := by
  intro vs G Q h
  unfold S37 at h ⊢
  split at h
  · first | exact ⟨_, _, h, fun Q' h' => h'⟩ | exact ⟨_, _, h.2, fun Q' h' => ⟨h.1, h'⟩⟩ | exact detIf2 h | exact detIf h | (obtain ⟨r, G1, h1, h2⟩ := detIf h.2; exact ⟨r, G1, h1, fun Q' h' => ⟨h.1, h2 Q' h'⟩⟩)
  · exact h.elim
theorem d38 : S38.Det := by
  intro vs G Q h
  unfold S38 at h ⊢
  split at h
  · first | exact ⟨_, _, h, fun Q' h' => h'⟩ | exact ⟨_, _, h.2, fun Q' h' => ⟨h.1, h'⟩⟩ | exact detIf2 h | exact detIf h | (obtain ⟨r, G1, h1, h2⟩ := detIf h.2; exact ⟨r, G1, h1, fun Q' h' => ⟨h.1, h2 Q' h'⟩⟩)
  · exact h.elim
theorem d40 : S40.Det := by
  intro vs G Q h
  unfold S40 at h ⊢
  split at h
  · first | exact ⟨_, _, h, fun Q' h' => h'⟩ | exact ⟨_, _, h.2, fun Q' h' => ⟨h.1, h'⟩⟩ | exact detIf2 h | exact detIf h | (obtain ⟨r, G1, h1, h2⟩ := detIf h.2; exact ⟨r, G1, h1, fun Q' h' => ⟨h.1, h2 Q' h'⟩⟩)
  · exact h.elim
theorem d47 : S47.Det := by
  intro vs G Q h
  unfold S47 at h ⊢
  split at h
  · first | exact ⟨_, _, h, fun Q' h' => h'⟩ | exact ⟨_, _, h.2, fun Q' h' => ⟨h.1, h'⟩⟩ | exact detIf2 h | exact detIf h | (obtain ⟨r, G1, h1, h2⟩ := detIf h.2; exact ⟨r, G1, h1, fun Q' h' => ⟨h.1, h2 Q' h'⟩⟩)
  · exact h.elim
theorem d48 : S48.Det := by
  intro vs G Q h
  unfold S48 at h ⊢
  split at h
  · first | exact ⟨_, _, h, fun Q' h' => h'⟩ | exact ⟨_, _, h.2, fun Q' h' => ⟨h.1, h'⟩⟩ | exact detIf2 h | exact detIf h | (obtain ⟨r, G1, h1, h2⟩ := detIf h.2; exact ⟨r, G1, h1, fun Q' h' => ⟨h.1, h2 Q' h'⟩⟩)
  · exact h.elim
theorem own : ownKnob Try.prog.godebug = none := by kernel_rfl
theorem laidOut : laidOutB Try.prog = true := by kernel_rfl
noncomputable def EE : Env := ⟨Try.prog, []⟩
theorem g47 : Abs.Good EE [(47, S47)] := (Abs.Good.nil EE).cons d47 fun vs G Q h => by
  unfold S47 at h; split at h
  · exact (Abs.Good.nil EE).ret (E := EE) p47 rfl (w47 h)
  · exact h.elim
theorem g40 : Abs.Good EE [(40, S40), (47, S47)] := g47.cons d40 fun vs G Q h => by
  unfold S40 at h; split at h
  · exact g47.ret (E := EE) p40 rfl (w40 rfl h.1 h.2)
  · exact h.elim
theorem g33 : Abs.Good EE [(33, S33), (40, S40), (47, S47)] := g40.cons d33 fun vs G Q h => by
  unfold S33 at h; split at h
  · exact g40.ret (E := EE) p33 rfl (w33 h.1 h.2)
  · exact h.elim
theorem g48 : Abs.Good EE [(48, S48), (33, S33), (40, S40), (47, S47)] := g33.cons d48 fun vs G Q h => by
  unfold S48 at h; split at h
  · exact g33.ret (E := EE) p48 rfl (w48 h.1 h.2)
  · exact h.elim
theorem g35 : Abs.Good EE [(35, S48), (48, S48), (33, S33), (40, S40), (47, S47)] := g48.cons d48 fun vs G Q h => by
  unfold S48 at h; split at h
  · exact g48.ret (E := EE) p35 rfl (w35 h.1 h.2)
  · exact h.elim
theorem g36 : Abs.Good EE [(36, S36), (35, S48), (48, S48), (33, S33), (40, S40), (47, S47)] := g35.cons d36 fun vs G Q h => by
  unfold S36 at h; split at h
  · exact g35.ret (E := EE) p36 rfl (w36 rfl rfl h)
  · exact h.elim
theorem g37 : Abs.Good EE [(37, S37), (36, S36), (35, S48), (48, S48), (33, S33), (40, S40), (47, S47)] := g36.cons d37 fun vs G Q h => by
  unfold S37 at h; split at h
  · exact g36.ret (E := EE) p37 rfl (w37 rfl rfl h)
  · exact h.elim
theorem g39 : Abs.Good EE [(39, S37), (37, S37), (36, S36), (35, S48), (48, S48), (33, S33), (40, S40), (47, S47)] := g37.cons d37 fun vs G Q h => by
  unfold S37 at h; split at h
  · exact g37.ret (E := EE) p39 rfl (w39 rfl h)
  · exact h.elim
theorem g32 : Abs.Good EE [(32, S32), (39, S37), (37, S37), (36, S36), (35, S48), (48, S48), (33, S33), (40, S40), (47, S47)] := g39.cons d32 fun vs G Q h => by
  unfold S32 at h; split at h
  · exact g39.ret (E := EE) p32 rfl (w32 rfl rfl h)
  · exact h.elim
theorem g38 : Abs.Good EE [(38, S38), (32, S32), (39, S37), (37, S37), (36, S36), (35, S48), (48, S48), (33, S33), (40, S40), (47, S47)] := g32.cons d38 fun vs G Q h => by
  unfold S38 at h; split at h
  · exact g32.ret (E := EE) p38 rfl (w38 rfl rfl rfl h.1 h.2)
  · exact h.elim
theorem g34 : Abs.Good EE [(34, S34), (38, S38), (32, S32), (39, S37), (37, S37), (36, S36), (35, S48), (48, S48), (33, S33), (40, S40), (47, S47)] := g38.cons d34 fun vs G Q h => by
  unfold S34 at h; split at h
  · exact g38.ret (E := EE) p34 rfl (w34 rfl rfl h)
  · exact h.elim
theorem law9 : ∀ vs : List V, TyAll Try.prog 12 Try.f9.params.toList vs → Ret EE 9 vs [] (fun r _ => r = .v (.bool true)) := by
  intro vs h
  have hki : intK Try.prog 3 = some .i64 := by kernel_rfl
  simp only [Try.params9, TyAll, TyV, TyL, Try.underlying62, Try.underlying3, Try.underlying67, hki] at h
  obtain ⟨x, l, rfl, ⟨xs0, rfl, _, _, rfl, ⟨w, rfl, hw⟩, _, _, rfl, ⟨t, rfl, ht⟩, _, _, rfl, ⟨g, rfl, hg⟩, _, _, rfl, ⟨e, rfl, he⟩, _, _, rfl, ⟨k, rfl, hk⟩, rfl⟩, _, _, rfl, ⟨a, rfl, ha⟩, _, _, rfl, ⟨ys, rfl, hys, hlen⟩, rfl⟩ := h
  exact g34.ret (E := EE) p9 rfl (w9 rfl rfl rfl rfl rfl rfl rfl rfl rfl)
set_option maxRecDepth 100000 in
theorem lifted9 (os : Os) (started : os.Started) (H : Type) (enc : TypeId × Value → H) :
    ReturnsInHanded {} Try.checked os 9 .any (Rows.rateTurnsSpec.pre6 enc Try.prog Try.f9 Rows.rateTurnsRow.domain false) (Rows.rateTurnsSpec.post enc Try.prog Try.f9 false true false false) :=
  law_lifted (C := Try.checked) (fn := Try.f9) (n := 12) (tab := []) (tb := 4) own started (by kernel_rfl) Try.func9
    (ChangeSpec.witness6 (enc := enc) (C := Try.checked) false ⟨#[], #[.agg #[.int .i64 0, .int .i64 0, .int .i64 0, .int .i64 0, .int .i64 0], .int .i64 0, .slice none 0 0], []⟩ 8 (by kernel_rfl) (by kernel_rfl) (by kernel_rfl) (by kernel_rfl))
    laidOut rfl rfl Try.underlying4 (fun H ds h => by
      rw [Try.params9] at h
      match ds, h with
      | [d1, d2, d3], _ => rfl)
    (fun t ht => by
      rw [Try.params9] at ht; simp at ht; rcases ht with rfl | rfl | rfl
      all_goals exact ⟨by kernel_rfl, of_decide_eq_true (by kernel_rfl)⟩)
    (fun t ht => by
      rw [Try.params9] at ht; simp at ht; rcases ht with rfl | rfl | rfl
      all_goals kernel_rfl)
    (fun W g x h => by cases h) law9
theorem over9 : Rows.rateTurnsRow.holds Try.pinned (OpenSpec.ofChange Rows.rateTurnsSpec) :=
  OpenClaim.holds_of_wide 9 Try.f9 rfl rfl rfl rfl rfl rfl rfl ⟨rfl, rfl, rfl, rfl, rfl⟩ rfl rfl rfl rfl rfl (by kernel_rfl) Try.func9 (by kernel_rfl)
    (of_decide_eq_true (by kernel_rfl)) (by unfold Func.isWrapper; first | (rw [if_pos (by decide +kernel)]; kernel_rfl) | (rw [if_neg (by decide +kernel)]; exact ⟨rfl, rfl⟩))
    (fun os started H enc _ => lifted9 os started H enc)
theorem rateTurns_holds : Rows.RateTurnsSaid := over9
#print axioms rateTurns_holds
end Go.Proofs.Ytcicoepkmiahbaa.Rate
