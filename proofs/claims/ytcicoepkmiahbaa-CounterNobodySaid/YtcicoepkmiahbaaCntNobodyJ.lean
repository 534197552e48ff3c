/- For every input CounterNobody returns true and leaves its argument as it was; no conditions. -/
import Derived.Test.YtcicoepkmiahbaaCnt2
import Derived.Test.YtcicoepkmiahbaaRows
import Derived.OpenShut
import Derived.Below
namespace Go.Proofs.Ytcicoepkmiahbaa.Cnt
open Go Go.Abs Go.RowKit
set_option linter.unusedSimpArgs false
set_option linter.unusedVariables false
set_option maxRecDepth 100000
theorem p7 : prepF Try.prog 7 10 [[0, 3], [0, 3, 4, 5]] [17] = some pf7 := by kernel_rfl
theorem p44 : prepF Try.prog 44 2 [] [] = some pf44 := by kernel_rfl
theorem p26 : prepF Try.prog 26 5 [] [12] = some pf26 := by kernel_rfl
theorem p46 : prepF Try.prog 46 3 [] [] = some pf46 := by kernel_rfl
theorem p30 : prepF Try.prog 30 3 [] [] = some pf30 := by kernel_rfl
theorem p45 : prepF Try.prog 45 5 [] [] = some pf45 := by kernel_rfl
theorem p28 : prepF Try.prog 28 4 [] [] = some pf28 := by kernel_rfl
theorem p27 : prepF Try.prog 27 5 [] [] = some pf27 := by kernel_rfl
theorem p31 : prepF Try.prog 31 4 [] [] = some pf31 := by kernel_rfl
theorem det_S44 : (S44).Det := by
  intro vs G Q h
  unfold S44 at h ⊢
  split at h
  · first
    | (refine ⟨_, h.2, fun Q' h' => ?_⟩; first | exact h' | (rw [h.1]; exact h'))
    | exact detN h
    | exact detA h
    | (obtain ⟨hp, h⟩ := h; refine ⟨_, h.2, fun Q' h' => ⟨hp, ?_⟩⟩; first | exact h' | (rw [h.1]; exact h'))
    | (obtain ⟨hp, h⟩ := h; exact detN h)
    | (obtain ⟨b, hp, h⟩ := h; refine ⟨_, h.2, fun Q' h' => ⟨b, hp, ?_⟩⟩; first | exact h' | (rw [h.1]; exact h'))
    | (obtain ⟨b, hp, h⟩ := h; exact detN h)
    | (obtain ⟨b, c, hp, h⟩ := h; refine ⟨_, h.2, fun Q' h' => ⟨b, c, hp, ?_⟩⟩; first | exact h' | (rw [h.1]; exact h'))
    | (obtain ⟨b, c, hp, h⟩ := h; exact detN h)
    | (obtain ⟨b, c, d, hp, h⟩ := h; refine ⟨_, h.2, fun Q' h' => ⟨b, c, d, hp, ?_⟩⟩; first | exact h' | (rw [h.1]; exact h'))
    | (obtain ⟨b, c, d, hp, h⟩ := h; exact detN h)
    | (obtain ⟨b, c, d, e, hp, h⟩ := h; refine ⟨_, h.2, fun Q' h' => ⟨b, c, d, e, hp, ?_⟩⟩; first | exact h' | (rw [h.1]; exact h'))
    | (obtain ⟨b, c, d, e, hp, h⟩ := h; exact detN h)
    | (obtain ⟨b, c, d, e, f, hp, h⟩ := h; refine ⟨_, h.2, fun Q' h' => ⟨b, c, d, e, f, hp, ?_⟩⟩; first | exact h' | (rw [h.1]; exact h'))
    | (obtain ⟨b, c, d, e, f, hp, h⟩ := h; exact detN h)
    | (obtain ⟨b, c, d, e, f, g, hp, h⟩ := h; refine ⟨_, h.2, fun Q' h' => ⟨b, c, d, e, f, g, hp, ?_⟩⟩; first | exact h' | (rw [h.1]; exact h'))
    | (obtain ⟨b, c, d, e, f, g, hp, h⟩ := h; exact detN h)
    | exact detIf h
  · exact h.elim
theorem det_S26 : (S26).Det := detS26
theorem det_S46 : (S46).Det := by
  intro vs G Q h
  unfold S46 at h ⊢
  split at h
  · first
    | (refine ⟨_, h.2, fun Q' h' => ?_⟩; first | exact h' | (rw [h.1]; exact h'))
    | exact detN h
    | exact detA h
    | (obtain ⟨hp, h⟩ := h; refine ⟨_, h.2, fun Q' h' => ⟨hp, ?_⟩⟩; first | exact h' | (rw [h.1]; exact h'))
    | (obtain ⟨hp, h⟩ := h; exact detN h)
    | (obtain ⟨b, hp, h⟩ := h; refine ⟨_, h.2, fun Q' h' => ⟨b, hp, ?_⟩⟩; first | exact h' | (rw [h.1]; exact h'))
    | (obtain ⟨b, hp, h⟩ := h; exact detN h)
    | (obtain ⟨b, c, hp, h⟩ := h; refine ⟨_, h.2, fun Q' h' => ⟨b, c, hp, ?_⟩⟩; first | exact h' | (rw [h.1]; exact h'))
    | (obtain ⟨b, c, hp, h⟩ := h; exact detN h)
    | (obtain ⟨b, c, d, hp, h⟩ := h; refine ⟨_, h.2, fun Q' h' => ⟨b, c, d, hp, ?_⟩⟩; first | exact h' | (rw [h.1]; exact h'))
    | (obtain ⟨b, c, d, hp, h⟩ := h; exact detN h)
    | (obtain ⟨b, c, d, e, hp, h⟩ := h; refine ⟨_, h.2, fun Q' h' => ⟨b, c, d, e, hp, ?_⟩⟩; first | exact h' | (rw [h.1]; exact h'))
    | (obtain ⟨b, c, d, e, hp, h⟩ := h; exact detN h)
    | (obtain ⟨b, c, d, e, f, hp, h⟩ := h; refine ⟨_, h.2, fun Q' h' => ⟨b, c, d, e, f, hp, ?_⟩⟩; first | exact h' | (rw [h.1]; exact h'))
    | (obtain ⟨b, c, d, e, f, hp, h⟩ := h; exact detN h)
    | (obtain ⟨b, c, d, e, f, g, hp, h⟩ := h; refine ⟨_, h.2, fun Q' h' => ⟨b, c, d, e, f, g, hp, ?_⟩⟩; first | exact h' | (rw [h.1]; exact h'))
    | (obtain ⟨b, c, d, e, f, g, hp, h⟩ := h; exact detN h)
    | exact detIf h
  · exact h.elim
theorem det_S30 : (S30).Det := by
  intro vs G Q h
  unfold S30 at h ⊢
  split at h
  · first
    | (refine ⟨_, h.2, fun Q' h' => ?_⟩; first | exact h' | (rw [h.1]; exact h'))
    | exact detN h
    | exact detA h
    | (obtain ⟨hp, h⟩ := h; refine ⟨_, h.2, fun Q' h' => ⟨hp, ?_⟩⟩; first | exact h' | (rw [h.1]; exact h'))
    | (obtain ⟨hp, h⟩ := h; exact detN h)
    | (obtain ⟨b, hp, h⟩ := h; refine ⟨_, h.2, fun Q' h' => ⟨b, hp, ?_⟩⟩; first | exact h' | (rw [h.1]; exact h'))
    | (obtain ⟨b, hp, h⟩ := h; exact detN h)
    | (obtain ⟨b, c, hp, h⟩ := h; refine ⟨_, h.2, fun Q' h' => ⟨b, c, hp, ?_⟩⟩; first | exact h' | (rw [h.1]; exact h'))
    | (obtain ⟨b, c, hp, h⟩ := h; exact detN h)
    | (obtain ⟨b, c, d, hp, h⟩ := h; refine ⟨_, h.2, fun Q' h' => ⟨b, c, d, hp, ?_⟩⟩; first | exact h' | (rw [h.1]; exact h'))
    | (obtain ⟨b, c, d, hp, h⟩ := h; exact detN h)
    | (obtain ⟨b, c, d, e, hp, h⟩ := h; refine ⟨_, h.2, fun Q' h' => ⟨b, c, d, e, hp, ?_⟩⟩; first | exact h' | (rw [h.1]; exact h'))
    | (obtain ⟨b, c, d, e, hp, h⟩ := h; exact detN h)
    | (obtain ⟨b, c, d, e, f, hp, h⟩ := h; refine ⟨_, h.2, fun Q' h' => ⟨b, c, d, e, f, hp, ?_⟩⟩; first | exact h' | (rw [h.1]; exact h'))
    | (obtain ⟨b, c, d, e, f, hp, h⟩ := h; exact detN h)
    | (obtain ⟨b, c, d, e, f, g, hp, h⟩ := h; refine ⟨_, h.2, fun Q' h' => ⟨b, c, d, e, f, g, hp, ?_⟩⟩; first | exact h' | (rw [h.1]; exact h'))
    | (obtain ⟨b, c, d, e, f, g, hp, h⟩ := h; exact detN h)
    | exact detIf h
  · exact h.elim
theorem det_S45 : (S45).Det := by
  intro vs G Q h
  unfold S45 at h ⊢
  split at h
  · first
    | (refine ⟨_, h.2, fun Q' h' => ?_⟩; first | exact h' | (rw [h.1]; exact h'))
    | exact detN h
    | exact detA h
    | (obtain ⟨hp, h⟩ := h; refine ⟨_, h.2, fun Q' h' => ⟨hp, ?_⟩⟩; first | exact h' | (rw [h.1]; exact h'))
    | (obtain ⟨hp, h⟩ := h; exact detN h)
    | (obtain ⟨b, hp, h⟩ := h; refine ⟨_, h.2, fun Q' h' => ⟨b, hp, ?_⟩⟩; first | exact h' | (rw [h.1]; exact h'))
    | (obtain ⟨b, hp, h⟩ := h; exact detN h)
    | (obtain ⟨b, c, hp, h⟩ := h; refine ⟨_, h.2, fun Q' h' => ⟨b, c, hp, ?_⟩⟩; first | exact h' | (rw [h.1]; exact h'))
    | (obtain ⟨b, c, hp, h⟩ := h; exact detN h)
    | (obtain ⟨b, c, d, hp, h⟩ := h; refine ⟨_, h.2, fun Q' h' => ⟨b, c, d, hp, ?_⟩⟩; first | exact h' | (rw [h.1]; exact h'))
    | (obtain ⟨b, c, d, hp, h⟩ := h; exact detN h)
    | (obtain ⟨b, c, d, e, hp, h⟩ := h; refine ⟨_, h.2, fun Q' h' => ⟨b, c, d, e, hp, ?_⟩⟩; first | exact h' | (rw [h.1]; exact h'))
    | (obtain ⟨b, c, d, e, hp, h⟩ := h; exact detN h)
    | (obtain ⟨b, c, d, e, f, hp, h⟩ := h; refine ⟨_, h.2, fun Q' h' => ⟨b, c, d, e, f, hp, ?_⟩⟩; first | exact h' | (rw [h.1]; exact h'))
    | (obtain ⟨b, c, d, e, f, hp, h⟩ := h; exact detN h)
    | (obtain ⟨b, c, d, e, f, g, hp, h⟩ := h; refine ⟨_, h.2, fun Q' h' => ⟨b, c, d, e, f, g, hp, ?_⟩⟩; first | exact h' | (rw [h.1]; exact h'))
    | (obtain ⟨b, c, d, e, f, g, hp, h⟩ := h; exact detN h)
    | exact detIf h
  · exact h.elim
theorem det_S28 : (S28).Det := by
  intro vs G Q h
  unfold S28 at h ⊢
  split at h
  · first
    | (refine ⟨_, h.2, fun Q' h' => ?_⟩; first | exact h' | (rw [h.1]; exact h'))
    | exact detN h
    | exact detA h
    | (obtain ⟨hp, h⟩ := h; refine ⟨_, h.2, fun Q' h' => ⟨hp, ?_⟩⟩; first | exact h' | (rw [h.1]; exact h'))
    | (obtain ⟨hp, h⟩ := h; exact detN h)
    | (obtain ⟨b, hp, h⟩ := h; refine ⟨_, h.2, fun Q' h' => ⟨b, hp, ?_⟩⟩; first | exact h' | (rw [h.1]; exact h'))
    | (obtain ⟨b, hp, h⟩ := h; exact detN h)
    | (obtain ⟨b, c, hp, h⟩ := h; refine ⟨_, h.2, fun Q' h' => ⟨b, c, hp, ?_⟩⟩; first | exact h' | (rw [h.1]; exact h'))
    | (obtain ⟨b, c, hp, h⟩ := h; exact detN h)
    | (obtain ⟨b, c, d, hp, h⟩ := h; refine ⟨_, h.2, fun Q' h' => ⟨b, c, d, hp, ?_⟩⟩; first | exact h' | (rw [h.1]; exact h'))
    | (obtain ⟨b, c, d, hp, h⟩ := h; exact detN h)
    | (obtain ⟨b, c, d, e, hp, h⟩ := h; refine ⟨_, h.2, fun Q' h' => ⟨b, c, d, e, hp, ?_⟩⟩; first | exact h' | (rw [h.1]; exact h'))
    | (obtain ⟨b, c, d, e, hp, h⟩ := h; exact detN h)
    | (obtain ⟨b, c, d, e, f, hp, h⟩ := h; refine ⟨_, h.2, fun Q' h' => ⟨b, c, d, e, f, hp, ?_⟩⟩; first | exact h' | (rw [h.1]; exact h'))
    | (obtain ⟨b, c, d, e, f, hp, h⟩ := h; exact detN h)
    | (obtain ⟨b, c, d, e, f, g, hp, h⟩ := h; refine ⟨_, h.2, fun Q' h' => ⟨b, c, d, e, f, g, hp, ?_⟩⟩; first | exact h' | (rw [h.1]; exact h'))
    | (obtain ⟨b, c, d, e, f, g, hp, h⟩ := h; exact detN h)
    | exact detIf h
  · exact h.elim
theorem det_S27 : (S27).Det := by
  intro vs G Q h
  unfold S27 at h ⊢
  split at h
  · first
    | (refine ⟨_, h.2, fun Q' h' => ?_⟩; first | exact h' | (rw [h.1]; exact h'))
    | exact detN h
    | exact detA h
    | (obtain ⟨hp, h⟩ := h; refine ⟨_, h.2, fun Q' h' => ⟨hp, ?_⟩⟩; first | exact h' | (rw [h.1]; exact h'))
    | (obtain ⟨hp, h⟩ := h; exact detN h)
    | (obtain ⟨b, hp, h⟩ := h; refine ⟨_, h.2, fun Q' h' => ⟨b, hp, ?_⟩⟩; first | exact h' | (rw [h.1]; exact h'))
    | (obtain ⟨b, hp, h⟩ := h; exact detN h)
    | (obtain ⟨b, c, hp, h⟩ := h; refine ⟨_, h.2, fun Q' h' => ⟨b, c, hp, ?_⟩⟩; first | exact h' | (rw [h.1]; exact h'))
    | (obtain ⟨b, c, hp, h⟩ := h; exact detN h)
    | (obtain ⟨b, c, d, hp, h⟩ := h; refine ⟨_, h.2, fun Q' h' => ⟨b, c, d, hp, ?_⟩⟩; first | exact h' | (rw [h.1]; exact h'))
    | (obtain ⟨b, c, d, hp, h⟩ := h; exact detN h)
    | (obtain ⟨b, c, d, e, hp, h⟩ := h; refine ⟨_, h.2, fun Q' h' => ⟨b, c, d, e, hp, ?_⟩⟩; first | exact h' | (rw [h.1]; exact h'))
    | (obtain ⟨b, c, d, e, hp, h⟩ := h; exact detN h)
    | (obtain ⟨b, c, d, e, f, hp, h⟩ := h; refine ⟨_, h.2, fun Q' h' => ⟨b, c, d, e, f, hp, ?_⟩⟩; first | exact h' | (rw [h.1]; exact h'))
    | (obtain ⟨b, c, d, e, f, hp, h⟩ := h; exact detN h)
    | (obtain ⟨b, c, d, e, f, g, hp, h⟩ := h; refine ⟨_, h.2, fun Q' h' => ⟨b, c, d, e, f, g, hp, ?_⟩⟩; first | exact h' | (rw [h.1]; exact h'))
    | (obtain ⟨b, c, d, e, f, g, hp, h⟩ := h; exact detN h)
    | exact detIf h
  · exact h.elim
theorem det_S31 : (S31).Det := detS31
theorem own : ownKnob Try.prog.godebug = none := by kernel_rfl
theorem laidOut : laidOutB Try.prog = true := by kernel_rfl
noncomputable def EE : Env := ⟨Try.prog, []⟩
theorem g44 : Abs.Good EE [(44, S44)] := (Abs.Good.nil EE).cons det_S44 fun vs G Q h => by
  unfold S44 at h; split at h
  · obtain ⟨a, b, hL, h⟩ := h; exact (Abs.Good.nil EE).ret (E := EE) p44 rfl (walk44 hL h)
  · exact h.elim
theorem g26 : Abs.Good EE [(26, S26), (44, S44)] := g44.cons det_S26 fun vs G Q h => by
  unfold S26 at h; split at h
  · obtain ⟨h1, h2⟩ := h; exact g44.ret (E := EE) p26 rfl (walk26 rfl h1 h2)
  · exact h.elim
theorem g46 : Abs.Good EE [(46, S46), (26, S26), (44, S44)] := g26.cons det_S46 fun vs G Q h => by
  unfold S46 at h; split at h
  · obtain ⟨a, b, hL, h⟩ := h; exact g26.ret (E := EE) p46 rfl (walk46 hL h)
  · exact h.elim
theorem g30 : Abs.Good EE [(30, S30), (46, S46), (26, S26), (44, S44)] := g46.cons det_S30 fun vs G Q h => by
  unfold S30 at h; split at h
  · obtain ⟨a, b, hx, h⟩ := h; exact g46.ret (E := EE) p30 rfl (walk30 rfl hx h)
  · exact h.elim
theorem g45 : Abs.Good EE [(45, S45), (30, S30), (46, S46), (26, S26), (44, S44)] := g30.cons det_S45 fun vs G Q h => by
  unfold S45 at h; split at h
  · obtain ⟨a, b, hL, h⟩ := h; exact g30.ret (E := EE) p45 rfl (walk45 hL h)
  · exact h.elim
theorem g28 : Abs.Good EE [(28, S28), (45, S45), (30, S30), (46, S46), (26, S26), (44, S44)] := g45.cons det_S28 fun vs G Q h => by
  unfold S28 at h; split at h
  · obtain ⟨a, b, ⟨hx, ha⟩, h⟩ := h; exact g45.ret (E := EE) p28 rfl (walk28 rfl rfl hx ha h)
  · exact h.elim
theorem g27 : Abs.Good EE [(27, S27), (28, S28), (45, S45), (30, S30), (46, S46), (26, S26), (44, S44)] := g28.cons det_S27 fun vs G Q h => by
  unfold S27 at h; split at h
  · exact g28.ret (E := EE) p27 rfl (walk27 rfl rfl rfl h)
  · exact h.elim
theorem g31 : Abs.Good EE [(31, S31), (27, S27), (28, S28), (45, S45), (30, S30), (46, S46), (26, S26), (44, S44)] := g27.cons det_S31 fun vs G Q h => by
  unfold S31 at h; split at h
  · obtain ⟨a, b, hx, h1, h2⟩ := h; exact g27.ret (E := EE) p31 rfl (walk31 rfl rfl hx h1 h2)
  · exact h.elim
theorem law7 : ∀ vs : List V, TyAll Try.prog 12 Try.f7.params.toList vs → Ret EE 7 vs [] (fun r _ => r = .v (.bool true)) := by
  intro vs h
  simp only [Try.params7, TyAll, TyV, TyL, Try.underlying5] at h
  obtain ⟨x, l, rfl, ⟨u, rfl, iu⟩, rfl⟩ := h
  exact g31.ret (E := EE) p7 rfl (walk7 (wf8 iu) rfl rfl rfl rfl (fun _ => rfl))
set_option maxRecDepth 100000 in
theorem lifted7 (os : Os) (started : os.Started) (H : Type) (enc : TypeId × Value → H) :
    ReturnsInHanded {} Try.checked os 7 .any (Rows.counterNobodySpec.pre6 enc Try.prog Try.f7 Rows.counterNobodyRow.domain false) (Rows.counterNobodySpec.post enc Try.prog Try.f7 false true false false) :=
  law_lifted (C := Try.checked) (fn := Try.f7) (n := 12) (tab := []) (tb := 4) own started (by kernel_rfl) Try.func7
    (ChangeSpec.witness6 (enc := enc) (C := Try.checked) false ⟨#[], #[.int .u8 0], []⟩ 8 (by kernel_rfl) (by kernel_rfl) (by kernel_rfl) (by kernel_rfl))
    laidOut rfl rfl Try.underlying4 (fun H ds h => by
      rw [Try.params7] at h
      match ds, h with
      | [d1], _ => rfl)
    (fun t ht => by
      rw [Try.params7] at ht; simp at ht; subst ht
      all_goals exact ⟨by kernel_rfl, of_decide_eq_true (by kernel_rfl)⟩)
    (fun t ht => by
      rw [Try.params7] at ht; simp at ht; subst ht
      all_goals kernel_rfl)
    (fun W g x h => by cases h) law7
theorem over7 : Rows.counterNobodyRow.holds Try.pinned (OpenSpec.ofChange Rows.counterNobodySpec) :=
  OpenClaim.holds_of_wide 7 Try.f7 rfl rfl rfl rfl rfl rfl rfl ⟨rfl, rfl, rfl, rfl, rfl⟩ rfl rfl rfl rfl rfl (by kernel_rfl) Try.func7 (by kernel_rfl)
    (of_decide_eq_true (by kernel_rfl)) (by unfold Func.isWrapper; first | (rw [if_pos (by decide +kernel)]; kernel_rfl) | (rw [if_neg (by decide +kernel)]; exact ⟨rfl, rfl⟩))
    (fun os started H enc _ => lifted7 os started H enc)
theorem counterNobody_holds : Rows.CounterNobodySaid := over7
#print axioms counterNobody_holds
end Go.Proofs.Ytcicoepkmiahbaa.Cnt
