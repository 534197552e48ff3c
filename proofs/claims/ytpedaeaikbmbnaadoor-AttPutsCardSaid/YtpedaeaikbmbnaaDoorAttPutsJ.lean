/- For every input AttPuts returns true and leaves its arguments as they were; no conditions. -/
import Derived.Test.YtpedaeaikbmbnaaDoorAttL
import Derived.Test.YtpedaeaikbmbnaaDoorSha1
import Derived.Test.YtpedaeaikbmbnaaDoorSha2
import Derived.Test.YtpedaeaikbmbnaaDoorSha3
import Derived.Test.YtpedaeaikbmbnaaDoorRows
import Derived.Test.YtpedaeaikbmbnaaDoorCards
import Derived.Test.YtpedaeaikbmbnaaDoorTie
import Derived.OpenShut
import Derived.Below
import Derived.SevenTiedAt
namespace Go.Proofs.YtpedaeaikbmbnaaDoor.Sha
open Go Go.Abs Go.RowKit Go.Abs.Sha
set_option linter.unusedSimpArgs false
set_option linter.unusedVariables false
set_option maxRecDepth 100000
theorem p8 : prepF Tryd.prog 8 12 [] [] = some pf8 := by kernel_rfl
theorem p9 : prepF Tryd.prog 9 3 [] [] = some pf9 := by kernel_rfl
theorem p36 : prepF Tryd.prog 36 3 [] [] = some pf36 := by kernel_rfl
theorem p11 : prepF Tryd.prog 11 4 [] [] = some pf11 := by kernel_rfl
theorem p71 : prepF Tryd.prog 71 1 [] [] = some pf71 := by kernel_rfl
theorem p76 : prepF Tryd.prog 76 5 [[0, 3, 4]] [] = some pf76 := by kernel_rfl
theorem p72 : prepF Tryd.prog 72 4 [] [] = some pf72 := by kernel_rfl
theorem p81 : prepF Tryd.prog 81 6 [] [] = some pf81 := by kernel_rfl
theorem p78 : prepF Tryd.prog 78 5 [] [] = some pf78 := by kernel_rfl
theorem p77 : prepF Tryd.prog 77 23 [[1, 2, 3, 12], [1, 2, 3, 4, 12, 20, 21, 22], [2, 3, 7]] [] = some pf77 := by kernel_rfl
theorem p73 : prepF Tryd.prog 73 109 [[2, 4, 5, 6, 7, 8, 9, 10, 11, 12, 36, 37], [2, 4, 107, 108]] [] = some pf73 := by kernel_rfl
theorem p64 : prepF Tryd.prog 64 37 [[2, 3, 11, 12, 13], [2, 6, 7], [2, 8, 35, 36]] [] = some pf64 := by kernel_rfl
theorem p54 : prepF Tryd.prog 54 3 [] [] = some pf54 := by kernel_rfl
theorem p67 : prepF Tryd.prog 67 5 [] [] = some pf67 := by kernel_rfl
theorem p56 : prepF Tryd.prog 56 28 [[0, 3, 9, 10, 11], [6, 25, 26, 27]] [] = some pf56 := by kernel_rfl
theorem p65 : prepF Tryd.prog 65 5 [] [] = some pf65 := by kernel_rfl
theorem p66 : prepF Tryd.prog 66 7 [[1, 2, 6]] [] = some pf66 := by kernel_rfl
theorem p55 : prepF Tryd.prog 55 7 [] [] = some pf55 := by kernel_rfl
theorem p34 : prepF Tryd.prog 34 8 [] [] = some pf34 := by kernel_rfl
theorem p50 : prepF Tryd.prog 50 3 [] [] = some pf50 := by kernel_rfl
theorem p46 : prepF Tryd.prog 46 5 [] [] = some pf46 := by kernel_rfl
theorem p52 : prepF Tryd.prog 52 6 [[1, 5]] [] = some pf52 := by kernel_rfl
theorem p35 : prepF Tryd.prog 35 16 [[0, 3, 13, 14, 15]] [] = some pf35 := by kernel_rfl
theorem p10 : prepF Tryd.prog 10 3 [] [] = some pf10 := by kernel_rfl
theorem p57 : prepF Tryd.prog 57 10 [[3, 5, 8, 9]] [] = some pf57 := by kernel_rfl
theorem p37 : prepF Tryd.prog 37 9 [] [] = some pf37 := by kernel_rfl
theorem p12 : prepF Tryd.prog 12 3 [] [] = some pf12 := by kernel_rfl
theorem p14 : prepF Tryd.prog 14 5 [] [] = some pf14 := by kernel_rfl
theorem p16 : prepF Tryd.prog 16 3 [] [] = some pf16 := by kernel_rfl
theorem p26 : prepF Tryd.prog 26 6 [[0, 1, 5]] [] = some pf26 := by kernel_rfl
theorem p28 : prepF Tryd.prog 28 3 [] [6] = some pf28 := by kernel_rfl
theorem p58 : prepF Tryd.prog 58 3 [] [] = some pf58 := by kernel_rfl
theorem p68 : prepF Tryd.prog 68 7 [[0, 4, 5]] [] = some pf68 := by kernel_rfl
theorem p59 : prepF Tryd.prog 59 5 [] [] = some pf59 := by kernel_rfl
theorem p39 : prepF Tryd.prog 39 7 [] [] = some pf39 := by kernel_rfl
theorem p40 : prepF Tryd.prog 40 4 [] [] = some pf40 := by kernel_rfl
theorem p51 : prepF Tryd.prog 51 3 [] [] = some pf51 := by kernel_rfl
theorem p29 : prepF Tryd.prog 29 5 [] [] = some pf29 := by kernel_rfl
theorem p31 : prepF Tryd.prog 31 3 [] [] = some pf31 := by kernel_rfl
theorem p32 : prepF Tryd.prog 32 5 [] [] = some pf32 := by kernel_rfl
theorem p48 : prepF Tryd.prog 48 5 [[1, 3, 4]] [] = some pf48 := by kernel_rfl
theorem p61 : prepF Tryd.prog 61 3 [] [] = some pf61 := by kernel_rfl
theorem p53 : prepF Tryd.prog 53 4 [] [] = some pf53 := by kernel_rfl
theorem p33 : prepF Tryd.prog 33 3 [] [] = some pf33 := by kernel_rfl
theorem det_SMy : (SMy).Det := by
  intro vs G Q h
  unfold SMy at h ⊢
  split at h
  · first
    | (refine ⟨_, h.2, fun Q' h' => ?_⟩; first | exact h' | (rw [h.1]; exact h'))
    | exact detN h
    | exact detA h
    | (obtain ⟨hp, h⟩ := h; refine ⟨_, h.2, fun Q' h' => ⟨hp, ?_⟩⟩; first | exact h' | (rw [h.1]; exact h'))
    | (obtain ⟨hp, h⟩ := h; exact detN h)
    | (obtain ⟨b, hp, h⟩ := h; refine ⟨_, h.2, fun Q' h' => ⟨b, hp, ?_⟩⟩; first | exact h' | (rw [h.1]; exact h'))
    | (obtain ⟨b, hp, h⟩ := h; exact detN h)
    | (obtain ⟨b, c, hp, h⟩ := h; refine ⟨_, h.2, fun Q' h' => ⟨b, c, hp, ?_⟩⟩; first | exact h' | (rw [h.1]; exact h'))
    | (obtain ⟨b, c, hp, h⟩ := h; exact detN h)
    | (obtain ⟨b, c, d, hp, h⟩ := h; refine ⟨_, h.2, fun Q' h' => ⟨b, c, d, hp, ?_⟩⟩; first | exact h' | (rw [h.1]; exact h'))
    | (obtain ⟨b, c, d, hp, h⟩ := h; exact detN h)
    | (obtain ⟨b, c, d, e, hp, h⟩ := h; refine ⟨_, h.2, fun Q' h' => ⟨b, c, d, e, hp, ?_⟩⟩; first | exact h' | (rw [h.1]; exact h'))
    | (obtain ⟨b, c, d, e, hp, h⟩ := h; exact detN h)
    | (obtain ⟨b, c, d, e, f, hp, h⟩ := h; refine ⟨_, h.2, fun Q' h' => ⟨b, c, d, e, f, hp, ?_⟩⟩; first | exact h' | (rw [h.1]; exact h'))
    | (obtain ⟨b, c, d, e, f, hp, h⟩ := h; exact detN h)
    | (obtain ⟨b, c, d, e, f, g, hp, h⟩ := h; refine ⟨_, h.2, fun Q' h' => ⟨b, c, d, e, f, g, hp, ?_⟩⟩; first | exact h' | (rw [h.1]; exact h'))
    | (obtain ⟨b, c, d, e, f, g, hp, h⟩ := h; exact detN h)
    | exact detIf h
  · exact h.elim
theorem det_SNo : (SNo).Det := by
  intro vs G Q h
  unfold SNo at h ⊢
  split at h
  · first
    | (refine ⟨_, h.2, fun Q' h' => ?_⟩; first | exact h' | (rw [h.1]; exact h'))
    | exact detN h
    | exact detA h
    | (obtain ⟨hp, h⟩ := h; refine ⟨_, h.2, fun Q' h' => ⟨hp, ?_⟩⟩; first | exact h' | (rw [h.1]; exact h'))
    | (obtain ⟨hp, h⟩ := h; exact detN h)
    | (obtain ⟨b, hp, h⟩ := h; refine ⟨_, h.2, fun Q' h' => ⟨b, hp, ?_⟩⟩; first | exact h' | (rw [h.1]; exact h'))
    | (obtain ⟨b, hp, h⟩ := h; exact detN h)
    | (obtain ⟨b, c, hp, h⟩ := h; refine ⟨_, h.2, fun Q' h' => ⟨b, c, hp, ?_⟩⟩; first | exact h' | (rw [h.1]; exact h'))
    | (obtain ⟨b, c, hp, h⟩ := h; exact detN h)
    | (obtain ⟨b, c, d, hp, h⟩ := h; refine ⟨_, h.2, fun Q' h' => ⟨b, c, d, hp, ?_⟩⟩; first | exact h' | (rw [h.1]; exact h'))
    | (obtain ⟨b, c, d, hp, h⟩ := h; exact detN h)
    | (obtain ⟨b, c, d, e, hp, h⟩ := h; refine ⟨_, h.2, fun Q' h' => ⟨b, c, d, e, hp, ?_⟩⟩; first | exact h' | (rw [h.1]; exact h'))
    | (obtain ⟨b, c, d, e, hp, h⟩ := h; exact detN h)
    | (obtain ⟨b, c, d, e, f, hp, h⟩ := h; refine ⟨_, h.2, fun Q' h' => ⟨b, c, d, e, f, hp, ?_⟩⟩; first | exact h' | (rw [h.1]; exact h'))
    | (obtain ⟨b, c, d, e, f, hp, h⟩ := h; exact detN h)
    | (obtain ⟨b, c, d, e, f, g, hp, h⟩ := h; refine ⟨_, h.2, fun Q' h' => ⟨b, c, d, e, f, g, hp, ?_⟩⟩; first | exact h' | (rw [h.1]; exact h'))
    | (obtain ⟨b, c, d, e, f, g, hp, h⟩ := h; exact detN h)
    | exact detIf h
  · exact h.elim
theorem det_SCk : (SCk).Det := by
  intro vs G Q h
  unfold SCk at h ⊢
  split at h
  · first
    | (refine ⟨_, h.2, fun Q' h' => ?_⟩; first | exact h' | (rw [h.1]; exact h'))
    | exact detN h
    | exact detA h
    | (obtain ⟨hp, h⟩ := h; refine ⟨_, h.2, fun Q' h' => ⟨hp, ?_⟩⟩; first | exact h' | (rw [h.1]; exact h'))
    | (obtain ⟨hp, h⟩ := h; exact detN h)
    | (obtain ⟨b, hp, h⟩ := h; refine ⟨_, h.2, fun Q' h' => ⟨b, hp, ?_⟩⟩; first | exact h' | (rw [h.1]; exact h'))
    | (obtain ⟨b, hp, h⟩ := h; exact detN h)
    | (obtain ⟨b, c, hp, h⟩ := h; refine ⟨_, h.2, fun Q' h' => ⟨b, c, hp, ?_⟩⟩; first | exact h' | (rw [h.1]; exact h'))
    | (obtain ⟨b, c, hp, h⟩ := h; exact detN h)
    | (obtain ⟨b, c, d, hp, h⟩ := h; refine ⟨_, h.2, fun Q' h' => ⟨b, c, d, hp, ?_⟩⟩; first | exact h' | (rw [h.1]; exact h'))
    | (obtain ⟨b, c, d, hp, h⟩ := h; exact detN h)
    | (obtain ⟨b, c, d, e, hp, h⟩ := h; refine ⟨_, h.2, fun Q' h' => ⟨b, c, d, e, hp, ?_⟩⟩; first | exact h' | (rw [h.1]; exact h'))
    | (obtain ⟨b, c, d, e, hp, h⟩ := h; exact detN h)
    | (obtain ⟨b, c, d, e, f, hp, h⟩ := h; refine ⟨_, h.2, fun Q' h' => ⟨b, c, d, e, f, hp, ?_⟩⟩; first | exact h' | (rw [h.1]; exact h'))
    | (obtain ⟨b, c, d, e, f, hp, h⟩ := h; exact detN h)
    | (obtain ⟨b, c, d, e, f, g, hp, h⟩ := h; refine ⟨_, h.2, fun Q' h' => ⟨b, c, d, e, f, g, hp, ?_⟩⟩; first | exact h' | (rw [h.1]; exact h'))
    | (obtain ⟨b, c, d, e, f, g, hp, h⟩ := h; exact detN h)
    | exact detIf h
  · exact h.elim
theorem det_SSt : (SSt).Det := by
  intro vs G Q h
  unfold SSt at h ⊢
  split at h
  · first
    | (refine ⟨_, h.2, fun Q' h' => ?_⟩; first | exact h' | (rw [h.1]; exact h'))
    | exact detN h
    | exact detA h
    | (obtain ⟨hp, h⟩ := h; refine ⟨_, h.2, fun Q' h' => ⟨hp, ?_⟩⟩; first | exact h' | (rw [h.1]; exact h'))
    | (obtain ⟨hp, h⟩ := h; exact detN h)
    | (obtain ⟨b, hp, h⟩ := h; refine ⟨_, h.2, fun Q' h' => ⟨b, hp, ?_⟩⟩; first | exact h' | (rw [h.1]; exact h'))
    | (obtain ⟨b, hp, h⟩ := h; exact detN h)
    | (obtain ⟨b, c, hp, h⟩ := h; refine ⟨_, h.2, fun Q' h' => ⟨b, c, hp, ?_⟩⟩; first | exact h' | (rw [h.1]; exact h'))
    | (obtain ⟨b, c, hp, h⟩ := h; exact detN h)
    | (obtain ⟨b, c, d, hp, h⟩ := h; refine ⟨_, h.2, fun Q' h' => ⟨b, c, d, hp, ?_⟩⟩; first | exact h' | (rw [h.1]; exact h'))
    | (obtain ⟨b, c, d, hp, h⟩ := h; exact detN h)
    | (obtain ⟨b, c, d, e, hp, h⟩ := h; refine ⟨_, h.2, fun Q' h' => ⟨b, c, d, e, hp, ?_⟩⟩; first | exact h' | (rw [h.1]; exact h'))
    | (obtain ⟨b, c, d, e, hp, h⟩ := h; exact detN h)
    | (obtain ⟨b, c, d, e, f, hp, h⟩ := h; refine ⟨_, h.2, fun Q' h' => ⟨b, c, d, e, f, hp, ?_⟩⟩; first | exact h' | (rw [h.1]; exact h'))
    | (obtain ⟨b, c, d, e, f, hp, h⟩ := h; exact detN h)
    | (obtain ⟨b, c, d, e, f, g, hp, h⟩ := h; refine ⟨_, h.2, fun Q' h' => ⟨b, c, d, e, f, g, hp, ?_⟩⟩; first | exact h' | (rw [h.1]; exact h'))
    | (obtain ⟨b, c, d, e, f, g, hp, h⟩ := h; exact detN h)
    | exact detIf h
  · exact h.elim
theorem det_SEn : (SEn).Det := by
  intro vs G Q h
  unfold SEn at h ⊢
  split at h
  · first
    | (refine ⟨_, h.2, fun Q' h' => ?_⟩; first | exact h' | (rw [h.1]; exact h'))
    | exact detN h
    | exact detA h
    | (obtain ⟨hp, h⟩ := h; refine ⟨_, h.2, fun Q' h' => ⟨hp, ?_⟩⟩; first | exact h' | (rw [h.1]; exact h'))
    | (obtain ⟨hp, h⟩ := h; exact detN h)
    | (obtain ⟨b, hp, h⟩ := h; refine ⟨_, h.2, fun Q' h' => ⟨b, hp, ?_⟩⟩; first | exact h' | (rw [h.1]; exact h'))
    | (obtain ⟨b, hp, h⟩ := h; exact detN h)
    | (obtain ⟨b, c, hp, h⟩ := h; refine ⟨_, h.2, fun Q' h' => ⟨b, c, hp, ?_⟩⟩; first | exact h' | (rw [h.1]; exact h'))
    | (obtain ⟨b, c, hp, h⟩ := h; exact detN h)
    | (obtain ⟨b, c, d, hp, h⟩ := h; refine ⟨_, h.2, fun Q' h' => ⟨b, c, d, hp, ?_⟩⟩; first | exact h' | (rw [h.1]; exact h'))
    | (obtain ⟨b, c, d, hp, h⟩ := h; exact detN h)
    | (obtain ⟨b, c, d, e, hp, h⟩ := h; refine ⟨_, h.2, fun Q' h' => ⟨b, c, d, e, hp, ?_⟩⟩; first | exact h' | (rw [h.1]; exact h'))
    | (obtain ⟨b, c, d, e, hp, h⟩ := h; exact detN h)
    | (obtain ⟨b, c, d, e, f, hp, h⟩ := h; refine ⟨_, h.2, fun Q' h' => ⟨b, c, d, e, f, hp, ?_⟩⟩; first | exact h' | (rw [h.1]; exact h'))
    | (obtain ⟨b, c, d, e, f, hp, h⟩ := h; exact detN h)
    | (obtain ⟨b, c, d, e, f, g, hp, h⟩ := h; refine ⟨_, h.2, fun Q' h' => ⟨b, c, d, e, f, g, hp, ?_⟩⟩; first | exact h' | (rw [h.1]; exact h'))
    | (obtain ⟨b, c, d, e, f, g, hp, h⟩ := h; exact detN h)
    | exact detIf h
  · exact h.elim
theorem det_SFi : (SFi).Det := by
  intro vs G Q h
  unfold SFi at h ⊢
  split at h
  · first
    | (refine ⟨_, h.2, fun Q' h' => ?_⟩; first | exact h' | (rw [h.1]; exact h'))
    | exact detN h
    | exact detA h
    | (obtain ⟨hp, h⟩ := h; refine ⟨_, h.2, fun Q' h' => ⟨hp, ?_⟩⟩; first | exact h' | (rw [h.1]; exact h'))
    | (obtain ⟨hp, h⟩ := h; exact detN h)
    | (obtain ⟨b, hp, h⟩ := h; refine ⟨_, h.2, fun Q' h' => ⟨b, hp, ?_⟩⟩; first | exact h' | (rw [h.1]; exact h'))
    | (obtain ⟨b, hp, h⟩ := h; exact detN h)
    | (obtain ⟨b, c, hp, h⟩ := h; refine ⟨_, h.2, fun Q' h' => ⟨b, c, hp, ?_⟩⟩; first | exact h' | (rw [h.1]; exact h'))
    | (obtain ⟨b, c, hp, h⟩ := h; exact detN h)
    | (obtain ⟨b, c, d, hp, h⟩ := h; refine ⟨_, h.2, fun Q' h' => ⟨b, c, d, hp, ?_⟩⟩; first | exact h' | (rw [h.1]; exact h'))
    | (obtain ⟨b, c, d, hp, h⟩ := h; exact detN h)
    | (obtain ⟨b, c, d, e, hp, h⟩ := h; refine ⟨_, h.2, fun Q' h' => ⟨b, c, d, e, hp, ?_⟩⟩; first | exact h' | (rw [h.1]; exact h'))
    | (obtain ⟨b, c, d, e, hp, h⟩ := h; exact detN h)
    | (obtain ⟨b, c, d, e, f, hp, h⟩ := h; refine ⟨_, h.2, fun Q' h' => ⟨b, c, d, e, f, hp, ?_⟩⟩; first | exact h' | (rw [h.1]; exact h'))
    | (obtain ⟨b, c, d, e, f, hp, h⟩ := h; exact detN h)
    | (obtain ⟨b, c, d, e, f, g, hp, h⟩ := h; refine ⟨_, h.2, fun Q' h' => ⟨b, c, d, e, f, g, hp, ?_⟩⟩; first | exact h' | (rw [h.1]; exact h'))
    | (obtain ⟨b, c, d, e, f, g, hp, h⟩ := h; exact detN h)
    | exact detIf h
  · exact h.elim
theorem det_SRl : (SRl).Det := by
  intro vs G Q h
  unfold SRl at h ⊢
  split at h
  · first
    | (refine ⟨_, h.2, fun Q' h' => ?_⟩; first | exact h' | (rw [h.1]; exact h'))
    | exact detN h
    | exact detA h
    | (obtain ⟨hp, h⟩ := h; refine ⟨_, h.2, fun Q' h' => ⟨hp, ?_⟩⟩; first | exact h' | (rw [h.1]; exact h'))
    | (obtain ⟨hp, h⟩ := h; exact detN h)
    | (obtain ⟨b, hp, h⟩ := h; refine ⟨_, h.2, fun Q' h' => ⟨b, hp, ?_⟩⟩; first | exact h' | (rw [h.1]; exact h'))
    | (obtain ⟨b, hp, h⟩ := h; exact detN h)
    | (obtain ⟨b, c, hp, h⟩ := h; refine ⟨_, h.2, fun Q' h' => ⟨b, c, hp, ?_⟩⟩; first | exact h' | (rw [h.1]; exact h'))
    | (obtain ⟨b, c, hp, h⟩ := h; exact detN h)
    | (obtain ⟨b, c, d, hp, h⟩ := h; refine ⟨_, h.2, fun Q' h' => ⟨b, c, d, hp, ?_⟩⟩; first | exact h' | (rw [h.1]; exact h'))
    | (obtain ⟨b, c, d, hp, h⟩ := h; exact detN h)
    | (obtain ⟨b, c, d, e, hp, h⟩ := h; refine ⟨_, h.2, fun Q' h' => ⟨b, c, d, e, hp, ?_⟩⟩; first | exact h' | (rw [h.1]; exact h'))
    | (obtain ⟨b, c, d, e, hp, h⟩ := h; exact detN h)
    | (obtain ⟨b, c, d, e, f, hp, h⟩ := h; refine ⟨_, h.2, fun Q' h' => ⟨b, c, d, e, f, hp, ?_⟩⟩; first | exact h' | (rw [h.1]; exact h'))
    | (obtain ⟨b, c, d, e, f, hp, h⟩ := h; exact detN h)
    | (obtain ⟨b, c, d, e, f, g, hp, h⟩ := h; refine ⟨_, h.2, fun Q' h' => ⟨b, c, d, e, f, g, hp, ?_⟩⟩; first | exact h' | (rw [h.1]; exact h'))
    | (obtain ⟨b, c, d, e, f, g, hp, h⟩ := h; exact detN h)
    | exact detIf h
  · exact h.elim
theorem det_SRo : (SRo).Det := by
  intro vs G Q h
  unfold SRo at h ⊢
  split at h
  · first
    | (refine ⟨_, h.2, fun Q' h' => ?_⟩; first | exact h' | (rw [h.1]; exact h'))
    | exact detN h
    | exact detA h
    | (obtain ⟨hp, h⟩ := h; refine ⟨_, h.2, fun Q' h' => ⟨hp, ?_⟩⟩; first | exact h' | (rw [h.1]; exact h'))
    | (obtain ⟨hp, h⟩ := h; exact detN h)
    | (obtain ⟨b, hp, h⟩ := h; refine ⟨_, h.2, fun Q' h' => ⟨b, hp, ?_⟩⟩; first | exact h' | (rw [h.1]; exact h'))
    | (obtain ⟨b, hp, h⟩ := h; exact detN h)
    | (obtain ⟨b, c, hp, h⟩ := h; refine ⟨_, h.2, fun Q' h' => ⟨b, c, hp, ?_⟩⟩; first | exact h' | (rw [h.1]; exact h'))
    | (obtain ⟨b, c, hp, h⟩ := h; exact detN h)
    | (obtain ⟨b, c, d, hp, h⟩ := h; refine ⟨_, h.2, fun Q' h' => ⟨b, c, d, hp, ?_⟩⟩; first | exact h' | (rw [h.1]; exact h'))
    | (obtain ⟨b, c, d, hp, h⟩ := h; exact detN h)
    | (obtain ⟨b, c, d, e, hp, h⟩ := h; refine ⟨_, h.2, fun Q' h' => ⟨b, c, d, e, hp, ?_⟩⟩; first | exact h' | (rw [h.1]; exact h'))
    | (obtain ⟨b, c, d, e, hp, h⟩ := h; exact detN h)
    | (obtain ⟨b, c, d, e, f, hp, h⟩ := h; refine ⟨_, h.2, fun Q' h' => ⟨b, c, d, e, f, hp, ?_⟩⟩; first | exact h' | (rw [h.1]; exact h'))
    | (obtain ⟨b, c, d, e, f, hp, h⟩ := h; exact detN h)
    | (obtain ⟨b, c, d, e, f, g, hp, h⟩ := h; refine ⟨_, h.2, fun Q' h' => ⟨b, c, d, e, f, g, hp, ?_⟩⟩; first | exact h' | (rw [h.1]; exact h'))
    | (obtain ⟨b, c, d, e, f, g, hp, h⟩ := h; exact detN h)
    | exact detIf h
  · exact h.elim
theorem det_SSc : (SSc).Det := by
  intro vs G Q h
  unfold SSc at h ⊢
  split at h
  · first
    | (refine ⟨_, h.2, fun Q' h' => ?_⟩; first | exact h' | (rw [h.1]; exact h'))
    | exact detN h
    | exact detA h
    | (obtain ⟨hp, h⟩ := h; refine ⟨_, h.2, fun Q' h' => ⟨hp, ?_⟩⟩; first | exact h' | (rw [h.1]; exact h'))
    | (obtain ⟨hp, h⟩ := h; exact detN h)
    | (obtain ⟨b, hp, h⟩ := h; refine ⟨_, h.2, fun Q' h' => ⟨b, hp, ?_⟩⟩; first | exact h' | (rw [h.1]; exact h'))
    | (obtain ⟨b, hp, h⟩ := h; exact detN h)
    | (obtain ⟨b, c, hp, h⟩ := h; refine ⟨_, h.2, fun Q' h' => ⟨b, c, hp, ?_⟩⟩; first | exact h' | (rw [h.1]; exact h'))
    | (obtain ⟨b, c, hp, h⟩ := h; exact detN h)
    | (obtain ⟨b, c, d, hp, h⟩ := h; refine ⟨_, h.2, fun Q' h' => ⟨b, c, d, hp, ?_⟩⟩; first | exact h' | (rw [h.1]; exact h'))
    | (obtain ⟨b, c, d, hp, h⟩ := h; exact detN h)
    | (obtain ⟨b, c, d, e, hp, h⟩ := h; refine ⟨_, h.2, fun Q' h' => ⟨b, c, d, e, hp, ?_⟩⟩; first | exact h' | (rw [h.1]; exact h'))
    | (obtain ⟨b, c, d, e, hp, h⟩ := h; exact detN h)
    | (obtain ⟨b, c, d, e, f, hp, h⟩ := h; refine ⟨_, h.2, fun Q' h' => ⟨b, c, d, e, f, hp, ?_⟩⟩; first | exact h' | (rw [h.1]; exact h'))
    | (obtain ⟨b, c, d, e, f, hp, h⟩ := h; exact detN h)
    | (obtain ⟨b, c, d, e, f, g, hp, h⟩ := h; refine ⟨_, h.2, fun Q' h' => ⟨b, c, d, e, f, g, hp, ?_⟩⟩; first | exact h' | (rw [h.1]; exact h'))
    | (obtain ⟨b, c, d, e, f, g, hp, h⟩ := h; exact detN h)
    | exact detIf h
  · exact h.elim
theorem det_STu_K256 : (STu K256).Det := by
  intro vs G Q h
  unfold STu at h ⊢
  split at h
  · first
    | (refine ⟨_, h.2, fun Q' h' => ?_⟩; first | exact h' | (rw [h.1]; exact h'))
    | exact detN h
    | exact detA h
    | (obtain ⟨hp, h⟩ := h; refine ⟨_, h.2, fun Q' h' => ⟨hp, ?_⟩⟩; first | exact h' | (rw [h.1]; exact h'))
    | (obtain ⟨hp, h⟩ := h; exact detN h)
    | (obtain ⟨b, hp, h⟩ := h; refine ⟨_, h.2, fun Q' h' => ⟨b, hp, ?_⟩⟩; first | exact h' | (rw [h.1]; exact h'))
    | (obtain ⟨b, hp, h⟩ := h; exact detN h)
    | (obtain ⟨b, c, hp, h⟩ := h; refine ⟨_, h.2, fun Q' h' => ⟨b, c, hp, ?_⟩⟩; first | exact h' | (rw [h.1]; exact h'))
    | (obtain ⟨b, c, hp, h⟩ := h; exact detN h)
    | (obtain ⟨b, c, d, hp, h⟩ := h; refine ⟨_, h.2, fun Q' h' => ⟨b, c, d, hp, ?_⟩⟩; first | exact h' | (rw [h.1]; exact h'))
    | (obtain ⟨b, c, d, hp, h⟩ := h; exact detN h)
    | (obtain ⟨b, c, d, e, hp, h⟩ := h; refine ⟨_, h.2, fun Q' h' => ⟨b, c, d, e, hp, ?_⟩⟩; first | exact h' | (rw [h.1]; exact h'))
    | (obtain ⟨b, c, d, e, hp, h⟩ := h; exact detN h)
    | (obtain ⟨b, c, d, e, f, hp, h⟩ := h; refine ⟨_, h.2, fun Q' h' => ⟨b, c, d, e, f, hp, ?_⟩⟩; first | exact h' | (rw [h.1]; exact h'))
    | (obtain ⟨b, c, d, e, f, hp, h⟩ := h; exact detN h)
    | (obtain ⟨b, c, d, e, f, g, hp, h⟩ := h; refine ⟨_, h.2, fun Q' h' => ⟨b, c, d, e, f, g, hp, ?_⟩⟩; first | exact h' | (rw [h.1]; exact h'))
    | (obtain ⟨b, c, d, e, f, g, hp, h⟩ := h; exact detN h)
    | exact detIf h
  · exact h.elim
theorem det_SOf_K256 : (SOf K256).Det := by
  intro vs G Q h
  unfold SOf at h ⊢
  split at h
  · first
    | (refine ⟨_, h.2, fun Q' h' => ?_⟩; first | exact h' | (rw [h.1]; exact h'))
    | exact detN h
    | exact detA h
    | (obtain ⟨hp, h⟩ := h; refine ⟨_, h.2, fun Q' h' => ⟨hp, ?_⟩⟩; first | exact h' | (rw [h.1]; exact h'))
    | (obtain ⟨hp, h⟩ := h; exact detN h)
    | (obtain ⟨b, hp, h⟩ := h; refine ⟨_, h.2, fun Q' h' => ⟨b, hp, ?_⟩⟩; first | exact h' | (rw [h.1]; exact h'))
    | (obtain ⟨b, hp, h⟩ := h; exact detN h)
    | (obtain ⟨b, c, hp, h⟩ := h; refine ⟨_, h.2, fun Q' h' => ⟨b, c, hp, ?_⟩⟩; first | exact h' | (rw [h.1]; exact h'))
    | (obtain ⟨b, c, hp, h⟩ := h; exact detN h)
    | (obtain ⟨b, c, d, hp, h⟩ := h; refine ⟨_, h.2, fun Q' h' => ⟨b, c, d, hp, ?_⟩⟩; first | exact h' | (rw [h.1]; exact h'))
    | (obtain ⟨b, c, d, hp, h⟩ := h; exact detN h)
    | (obtain ⟨b, c, d, e, hp, h⟩ := h; refine ⟨_, h.2, fun Q' h' => ⟨b, c, d, e, hp, ?_⟩⟩; first | exact h' | (rw [h.1]; exact h'))
    | (obtain ⟨b, c, d, e, hp, h⟩ := h; exact detN h)
    | (obtain ⟨b, c, d, e, f, hp, h⟩ := h; refine ⟨_, h.2, fun Q' h' => ⟨b, c, d, e, f, hp, ?_⟩⟩; first | exact h' | (rw [h.1]; exact h'))
    | (obtain ⟨b, c, d, e, f, hp, h⟩ := h; exact detN h)
    | (obtain ⟨b, c, d, e, f, g, hp, h⟩ := h; refine ⟨_, h.2, fun Q' h' => ⟨b, c, d, e, f, g, hp, ?_⟩⟩; first | exact h' | (rw [h.1]; exact h'))
    | (obtain ⟨b, c, d, e, f, g, hp, h⟩ := h; exact detN h)
    | exact detIf h
  · exact h.elim
theorem det_SKe_K256 : (SKe K256).Det := by
  intro vs G Q h
  unfold SKe at h ⊢
  split at h
  · first
    | (refine ⟨_, h.2, fun Q' h' => ?_⟩; first | exact h' | (rw [h.1]; exact h'))
    | exact detN h
    | exact detA h
    | (obtain ⟨hp, h⟩ := h; refine ⟨_, h.2, fun Q' h' => ⟨hp, ?_⟩⟩; first | exact h' | (rw [h.1]; exact h'))
    | (obtain ⟨hp, h⟩ := h; exact detN h)
    | (obtain ⟨b, hp, h⟩ := h; refine ⟨_, h.2, fun Q' h' => ⟨b, hp, ?_⟩⟩; first | exact h' | (rw [h.1]; exact h'))
    | (obtain ⟨b, hp, h⟩ := h; exact detN h)
    | (obtain ⟨b, c, hp, h⟩ := h; refine ⟨_, h.2, fun Q' h' => ⟨b, c, hp, ?_⟩⟩; first | exact h' | (rw [h.1]; exact h'))
    | (obtain ⟨b, c, hp, h⟩ := h; exact detN h)
    | (obtain ⟨b, c, d, hp, h⟩ := h; refine ⟨_, h.2, fun Q' h' => ⟨b, c, d, hp, ?_⟩⟩; first | exact h' | (rw [h.1]; exact h'))
    | (obtain ⟨b, c, d, hp, h⟩ := h; exact detN h)
    | (obtain ⟨b, c, d, e, hp, h⟩ := h; refine ⟨_, h.2, fun Q' h' => ⟨b, c, d, e, hp, ?_⟩⟩; first | exact h' | (rw [h.1]; exact h'))
    | (obtain ⟨b, c, d, e, hp, h⟩ := h; exact detN h)
    | (obtain ⟨b, c, d, e, f, hp, h⟩ := h; refine ⟨_, h.2, fun Q' h' => ⟨b, c, d, e, f, hp, ?_⟩⟩; first | exact h' | (rw [h.1]; exact h'))
    | (obtain ⟨b, c, d, e, f, hp, h⟩ := h; exact detN h)
    | (obtain ⟨b, c, d, e, f, g, hp, h⟩ := h; refine ⟨_, h.2, fun Q' h' => ⟨b, c, d, e, f, g, hp, ?_⟩⟩; first | exact h' | (rw [h.1]; exact h'))
    | (obtain ⟨b, c, d, e, f, g, hp, h⟩ := h; exact detN h)
    | exact detIf h
  · exact h.elim
theorem det_SGr : (SGr).Det := by
  intro vs G Q h
  unfold SGr at h ⊢
  split at h
  · first
    | (refine ⟨_, h.2, fun Q' h' => ?_⟩; first | exact h' | (rw [h.1]; exact h'))
    | exact detN h
    | exact detA h
    | (obtain ⟨hp, h⟩ := h; refine ⟨_, h.2, fun Q' h' => ⟨hp, ?_⟩⟩; first | exact h' | (rw [h.1]; exact h'))
    | (obtain ⟨hp, h⟩ := h; exact detN h)
    | (obtain ⟨b, hp, h⟩ := h; refine ⟨_, h.2, fun Q' h' => ⟨b, hp, ?_⟩⟩; first | exact h' | (rw [h.1]; exact h'))
    | (obtain ⟨b, hp, h⟩ := h; exact detN h)
    | (obtain ⟨b, c, hp, h⟩ := h; refine ⟨_, h.2, fun Q' h' => ⟨b, c, hp, ?_⟩⟩; first | exact h' | (rw [h.1]; exact h'))
    | (obtain ⟨b, c, hp, h⟩ := h; exact detN h)
    | (obtain ⟨b, c, d, hp, h⟩ := h; refine ⟨_, h.2, fun Q' h' => ⟨b, c, d, hp, ?_⟩⟩; first | exact h' | (rw [h.1]; exact h'))
    | (obtain ⟨b, c, d, hp, h⟩ := h; exact detN h)
    | (obtain ⟨b, c, d, e, hp, h⟩ := h; refine ⟨_, h.2, fun Q' h' => ⟨b, c, d, e, hp, ?_⟩⟩; first | exact h' | (rw [h.1]; exact h'))
    | (obtain ⟨b, c, d, e, hp, h⟩ := h; exact detN h)
    | (obtain ⟨b, c, d, e, f, hp, h⟩ := h; refine ⟨_, h.2, fun Q' h' => ⟨b, c, d, e, f, hp, ?_⟩⟩; first | exact h' | (rw [h.1]; exact h'))
    | (obtain ⟨b, c, d, e, f, hp, h⟩ := h; exact detN h)
    | (obtain ⟨b, c, d, e, f, g, hp, h⟩ := h; refine ⟨_, h.2, fun Q' h' => ⟨b, c, d, e, f, g, hp, ?_⟩⟩; first | exact h' | (rw [h.1]; exact h'))
    | (obtain ⟨b, c, d, e, f, g, hp, h⟩ := h; exact detN h)
    | exact detIf h
  · exact h.elim
theorem det_SCc : (SCc).Det := by
  intro vs G Q h
  unfold SCc at h ⊢
  split at h
  · first
    | (refine ⟨_, h.2, fun Q' h' => ?_⟩; first | exact h' | (rw [h.1]; exact h'))
    | exact detN h
    | exact detA h
    | (obtain ⟨hp, h⟩ := h; refine ⟨_, h.2, fun Q' h' => ⟨hp, ?_⟩⟩; first | exact h' | (rw [h.1]; exact h'))
    | (obtain ⟨hp, h⟩ := h; exact detN h)
    | (obtain ⟨b, hp, h⟩ := h; refine ⟨_, h.2, fun Q' h' => ⟨b, hp, ?_⟩⟩; first | exact h' | (rw [h.1]; exact h'))
    | (obtain ⟨b, hp, h⟩ := h; exact detN h)
    | (obtain ⟨b, c, hp, h⟩ := h; refine ⟨_, h.2, fun Q' h' => ⟨b, c, hp, ?_⟩⟩; first | exact h' | (rw [h.1]; exact h'))
    | (obtain ⟨b, c, hp, h⟩ := h; exact detN h)
    | (obtain ⟨b, c, d, hp, h⟩ := h; refine ⟨_, h.2, fun Q' h' => ⟨b, c, d, hp, ?_⟩⟩; first | exact h' | (rw [h.1]; exact h'))
    | (obtain ⟨b, c, d, hp, h⟩ := h; exact detN h)
    | (obtain ⟨b, c, d, e, hp, h⟩ := h; refine ⟨_, h.2, fun Q' h' => ⟨b, c, d, e, hp, ?_⟩⟩; first | exact h' | (rw [h.1]; exact h'))
    | (obtain ⟨b, c, d, e, hp, h⟩ := h; exact detN h)
    | (obtain ⟨b, c, d, e, f, hp, h⟩ := h; refine ⟨_, h.2, fun Q' h' => ⟨b, c, d, e, f, hp, ?_⟩⟩; first | exact h' | (rw [h.1]; exact h'))
    | (obtain ⟨b, c, d, e, f, hp, h⟩ := h; exact detN h)
    | (obtain ⟨b, c, d, e, f, g, hp, h⟩ := h; refine ⟨_, h.2, fun Q' h' => ⟨b, c, d, e, f, g, hp, ?_⟩⟩; first | exact h' | (rw [h.1]; exact h'))
    | (obtain ⟨b, c, d, e, f, g, hp, h⟩ := h; exact detN h)
    | exact detIf h
  · exact h.elim
theorem det_SBl_K256 : (SBl K256).Det := by
  intro vs G Q h
  unfold SBl at h ⊢
  split at h
  · first
    | (refine ⟨_, h.2, fun Q' h' => ?_⟩; first | exact h' | (rw [h.1]; exact h'))
    | exact detN h
    | exact detA h
    | (obtain ⟨hp, h⟩ := h; refine ⟨_, h.2, fun Q' h' => ⟨hp, ?_⟩⟩; first | exact h' | (rw [h.1]; exact h'))
    | (obtain ⟨hp, h⟩ := h; exact detN h)
    | (obtain ⟨b, hp, h⟩ := h; refine ⟨_, h.2, fun Q' h' => ⟨b, hp, ?_⟩⟩; first | exact h' | (rw [h.1]; exact h'))
    | (obtain ⟨b, hp, h⟩ := h; exact detN h)
    | (obtain ⟨b, c, hp, h⟩ := h; refine ⟨_, h.2, fun Q' h' => ⟨b, c, hp, ?_⟩⟩; first | exact h' | (rw [h.1]; exact h'))
    | (obtain ⟨b, c, hp, h⟩ := h; exact detN h)
    | (obtain ⟨b, c, d, hp, h⟩ := h; refine ⟨_, h.2, fun Q' h' => ⟨b, c, d, hp, ?_⟩⟩; first | exact h' | (rw [h.1]; exact h'))
    | (obtain ⟨b, c, d, hp, h⟩ := h; exact detN h)
    | (obtain ⟨b, c, d, e, hp, h⟩ := h; refine ⟨_, h.2, fun Q' h' => ⟨b, c, d, e, hp, ?_⟩⟩; first | exact h' | (rw [h.1]; exact h'))
    | (obtain ⟨b, c, d, e, hp, h⟩ := h; exact detN h)
    | (obtain ⟨b, c, d, e, f, hp, h⟩ := h; refine ⟨_, h.2, fun Q' h' => ⟨b, c, d, e, f, hp, ?_⟩⟩; first | exact h' | (rw [h.1]; exact h'))
    | (obtain ⟨b, c, d, e, f, hp, h⟩ := h; exact detN h)
    | (obtain ⟨b, c, d, e, f, g, hp, h⟩ := h; refine ⟨_, h.2, fun Q' h' => ⟨b, c, d, e, f, g, hp, ?_⟩⟩; first | exact h' | (rw [h.1]; exact h'))
    | (obtain ⟨b, c, d, e, f, g, hp, h⟩ := h; exact detN h)
    | exact detIf h
  · exact h.elim
theorem det_STd : (STd).Det := by
  intro vs G Q h
  unfold STd at h ⊢
  split at h
  · first
    | (refine ⟨_, h.2, fun Q' h' => ?_⟩; first | exact h' | (rw [h.1]; exact h'))
    | exact detN h
    | exact detA h
    | (obtain ⟨hp, h⟩ := h; refine ⟨_, h.2, fun Q' h' => ⟨hp, ?_⟩⟩; first | exact h' | (rw [h.1]; exact h'))
    | (obtain ⟨hp, h⟩ := h; exact detN h)
    | (obtain ⟨b, hp, h⟩ := h; refine ⟨_, h.2, fun Q' h' => ⟨b, hp, ?_⟩⟩; first | exact h' | (rw [h.1]; exact h'))
    | (obtain ⟨b, hp, h⟩ := h; exact detN h)
    | (obtain ⟨b, c, hp, h⟩ := h; refine ⟨_, h.2, fun Q' h' => ⟨b, c, hp, ?_⟩⟩; first | exact h' | (rw [h.1]; exact h'))
    | (obtain ⟨b, c, hp, h⟩ := h; exact detN h)
    | (obtain ⟨b, c, d, hp, h⟩ := h; refine ⟨_, h.2, fun Q' h' => ⟨b, c, d, hp, ?_⟩⟩; first | exact h' | (rw [h.1]; exact h'))
    | (obtain ⟨b, c, d, hp, h⟩ := h; exact detN h)
    | (obtain ⟨b, c, d, e, hp, h⟩ := h; refine ⟨_, h.2, fun Q' h' => ⟨b, c, d, e, hp, ?_⟩⟩; first | exact h' | (rw [h.1]; exact h'))
    | (obtain ⟨b, c, d, e, hp, h⟩ := h; exact detN h)
    | (obtain ⟨b, c, d, e, f, hp, h⟩ := h; refine ⟨_, h.2, fun Q' h' => ⟨b, c, d, e, f, hp, ?_⟩⟩; first | exact h' | (rw [h.1]; exact h'))
    | (obtain ⟨b, c, d, e, f, hp, h⟩ := h; exact detN h)
    | (obtain ⟨b, c, d, e, f, g, hp, h⟩ := h; refine ⟨_, h.2, fun Q' h' => ⟨b, c, d, e, f, g, hp, ?_⟩⟩; first | exact h' | (rw [h.1]; exact h'))
    | (obtain ⟨b, c, d, e, f, g, hp, h⟩ := h; exact detN h)
    | exact detIf h
  · exact h.elim
theorem det_SMa_K256 : (SMa K256).Det := by
  intro vs G Q h
  unfold SMa at h ⊢
  split at h
  · first
    | (refine ⟨_, h.2, fun Q' h' => ?_⟩; first | exact h' | (rw [h.1]; exact h'))
    | exact detN h
    | exact detA h
    | (obtain ⟨hp, h⟩ := h; refine ⟨_, h.2, fun Q' h' => ⟨hp, ?_⟩⟩; first | exact h' | (rw [h.1]; exact h'))
    | (obtain ⟨hp, h⟩ := h; exact detN h)
    | (obtain ⟨b, hp, h⟩ := h; refine ⟨_, h.2, fun Q' h' => ⟨b, hp, ?_⟩⟩; first | exact h' | (rw [h.1]; exact h'))
    | (obtain ⟨b, hp, h⟩ := h; exact detN h)
    | (obtain ⟨b, c, hp, h⟩ := h; refine ⟨_, h.2, fun Q' h' => ⟨b, c, hp, ?_⟩⟩; first | exact h' | (rw [h.1]; exact h'))
    | (obtain ⟨b, c, hp, h⟩ := h; exact detN h)
    | (obtain ⟨b, c, d, hp, h⟩ := h; refine ⟨_, h.2, fun Q' h' => ⟨b, c, d, hp, ?_⟩⟩; first | exact h' | (rw [h.1]; exact h'))
    | (obtain ⟨b, c, d, hp, h⟩ := h; exact detN h)
    | (obtain ⟨b, c, d, e, hp, h⟩ := h; refine ⟨_, h.2, fun Q' h' => ⟨b, c, d, e, hp, ?_⟩⟩; first | exact h' | (rw [h.1]; exact h'))
    | (obtain ⟨b, c, d, e, hp, h⟩ := h; exact detN h)
    | (obtain ⟨b, c, d, e, f, hp, h⟩ := h; refine ⟨_, h.2, fun Q' h' => ⟨b, c, d, e, f, hp, ?_⟩⟩; first | exact h' | (rw [h.1]; exact h'))
    | (obtain ⟨b, c, d, e, f, hp, h⟩ := h; exact detN h)
    | (obtain ⟨b, c, d, e, f, g, hp, h⟩ := h; refine ⟨_, h.2, fun Q' h' => ⟨b, c, d, e, f, g, hp, ?_⟩⟩; first | exact h' | (rw [h.1]; exact h'))
    | (obtain ⟨b, c, d, e, f, g, hp, h⟩ := h; exact detN h)
    | exact detIf h
  · exact h.elim
theorem det_STa_K256 : (STa K256).Det := by
  intro vs G Q h
  unfold STa at h ⊢
  split at h
  · first
    | (refine ⟨_, h.2, fun Q' h' => ?_⟩; first | exact h' | (rw [h.1]; exact h'))
    | exact detN h
    | exact detA h
    | (obtain ⟨hp, h⟩ := h; refine ⟨_, h.2, fun Q' h' => ⟨hp, ?_⟩⟩; first | exact h' | (rw [h.1]; exact h'))
    | (obtain ⟨hp, h⟩ := h; exact detN h)
    | (obtain ⟨b, hp, h⟩ := h; refine ⟨_, h.2, fun Q' h' => ⟨b, hp, ?_⟩⟩; first | exact h' | (rw [h.1]; exact h'))
    | (obtain ⟨b, hp, h⟩ := h; exact detN h)
    | (obtain ⟨b, c, hp, h⟩ := h; refine ⟨_, h.2, fun Q' h' => ⟨b, c, hp, ?_⟩⟩; first | exact h' | (rw [h.1]; exact h'))
    | (obtain ⟨b, c, hp, h⟩ := h; exact detN h)
    | (obtain ⟨b, c, d, hp, h⟩ := h; refine ⟨_, h.2, fun Q' h' => ⟨b, c, d, hp, ?_⟩⟩; first | exact h' | (rw [h.1]; exact h'))
    | (obtain ⟨b, c, d, hp, h⟩ := h; exact detN h)
    | (obtain ⟨b, c, d, e, hp, h⟩ := h; refine ⟨_, h.2, fun Q' h' => ⟨b, c, d, e, hp, ?_⟩⟩; first | exact h' | (rw [h.1]; exact h'))
    | (obtain ⟨b, c, d, e, hp, h⟩ := h; exact detN h)
    | (obtain ⟨b, c, d, e, f, hp, h⟩ := h; refine ⟨_, h.2, fun Q' h' => ⟨b, c, d, e, f, hp, ?_⟩⟩; first | exact h' | (rw [h.1]; exact h'))
    | (obtain ⟨b, c, d, e, f, hp, h⟩ := h; exact detN h)
    | (obtain ⟨b, c, d, e, f, g, hp, h⟩ := h; refine ⟨_, h.2, fun Q' h' => ⟨b, c, d, e, f, g, hp, ?_⟩⟩; first | exact h' | (rw [h.1]; exact h'))
    | (obtain ⟨b, c, d, e, f, g, hp, h⟩ := h; exact detN h)
    | exact detIf h
  · exact h.elim
theorem det_SCl : (SCl).Det := by
  intro vs G Q h
  unfold SCl at h ⊢
  split at h
  · first
    | (refine ⟨_, h.2, fun Q' h' => ?_⟩; first | exact h' | (rw [h.1]; exact h'))
    | exact detN h
    | exact detA h
    | (obtain ⟨hp, h⟩ := h; refine ⟨_, h.2, fun Q' h' => ⟨hp, ?_⟩⟩; first | exact h' | (rw [h.1]; exact h'))
    | (obtain ⟨hp, h⟩ := h; exact detN h)
    | (obtain ⟨b, hp, h⟩ := h; refine ⟨_, h.2, fun Q' h' => ⟨b, hp, ?_⟩⟩; first | exact h' | (rw [h.1]; exact h'))
    | (obtain ⟨b, hp, h⟩ := h; exact detN h)
    | (obtain ⟨b, c, hp, h⟩ := h; refine ⟨_, h.2, fun Q' h' => ⟨b, c, hp, ?_⟩⟩; first | exact h' | (rw [h.1]; exact h'))
    | (obtain ⟨b, c, hp, h⟩ := h; exact detN h)
    | (obtain ⟨b, c, d, hp, h⟩ := h; refine ⟨_, h.2, fun Q' h' => ⟨b, c, d, hp, ?_⟩⟩; first | exact h' | (rw [h.1]; exact h'))
    | (obtain ⟨b, c, d, hp, h⟩ := h; exact detN h)
    | (obtain ⟨b, c, d, e, hp, h⟩ := h; refine ⟨_, h.2, fun Q' h' => ⟨b, c, d, e, hp, ?_⟩⟩; first | exact h' | (rw [h.1]; exact h'))
    | (obtain ⟨b, c, d, e, hp, h⟩ := h; exact detN h)
    | (obtain ⟨b, c, d, e, f, hp, h⟩ := h; refine ⟨_, h.2, fun Q' h' => ⟨b, c, d, e, f, hp, ?_⟩⟩; first | exact h' | (rw [h.1]; exact h'))
    | (obtain ⟨b, c, d, e, f, hp, h⟩ := h; exact detN h)
    | (obtain ⟨b, c, d, e, f, g, hp, h⟩ := h; refine ⟨_, h.2, fun Q' h' => ⟨b, c, d, e, f, g, hp, ?_⟩⟩; first | exact h' | (rw [h.1]; exact h'))
    | (obtain ⟨b, c, d, e, f, g, hp, h⟩ := h; exact detN h)
    | exact detIf h
  · exact h.elim
theorem det_SHa : (SHa).Det := by
  intro vs G Q h
  unfold SHa at h ⊢
  split at h
  · first
    | (refine ⟨_, h.2, fun Q' h' => ?_⟩; first | exact h' | (rw [h.1]; exact h'))
    | exact detN h
    | exact detA h
    | (obtain ⟨hp, h⟩ := h; refine ⟨_, h.2, fun Q' h' => ⟨hp, ?_⟩⟩; first | exact h' | (rw [h.1]; exact h'))
    | (obtain ⟨hp, h⟩ := h; exact detN h)
    | (obtain ⟨b, hp, h⟩ := h; refine ⟨_, h.2, fun Q' h' => ⟨b, hp, ?_⟩⟩; first | exact h' | (rw [h.1]; exact h'))
    | (obtain ⟨b, hp, h⟩ := h; exact detN h)
    | (obtain ⟨b, c, hp, h⟩ := h; refine ⟨_, h.2, fun Q' h' => ⟨b, c, hp, ?_⟩⟩; first | exact h' | (rw [h.1]; exact h'))
    | (obtain ⟨b, c, hp, h⟩ := h; exact detN h)
    | (obtain ⟨b, c, d, hp, h⟩ := h; refine ⟨_, h.2, fun Q' h' => ⟨b, c, d, hp, ?_⟩⟩; first | exact h' | (rw [h.1]; exact h'))
    | (obtain ⟨b, c, d, hp, h⟩ := h; exact detN h)
    | (obtain ⟨b, c, d, e, hp, h⟩ := h; refine ⟨_, h.2, fun Q' h' => ⟨b, c, d, e, hp, ?_⟩⟩; first | exact h' | (rw [h.1]; exact h'))
    | (obtain ⟨b, c, d, e, hp, h⟩ := h; exact detN h)
    | (obtain ⟨b, c, d, e, f, hp, h⟩ := h; refine ⟨_, h.2, fun Q' h' => ⟨b, c, d, e, f, hp, ?_⟩⟩; first | exact h' | (rw [h.1]; exact h'))
    | (obtain ⟨b, c, d, e, f, hp, h⟩ := h; exact detN h)
    | (obtain ⟨b, c, d, e, f, g, hp, h⟩ := h; refine ⟨_, h.2, fun Q' h' => ⟨b, c, d, e, f, g, hp, ?_⟩⟩; first | exact h' | (rw [h.1]; exact h'))
    | (obtain ⟨b, c, d, e, f, g, hp, h⟩ := h; exact detN h)
    | exact detIf h
  · exact h.elim
theorem det_SNu : (SNu).Det := by
  intro vs G Q h
  unfold SNu at h ⊢
  split at h
  · first
    | (refine ⟨_, h.2, fun Q' h' => ?_⟩; first | exact h' | (rw [h.1]; exact h'))
    | exact detN h
    | exact detA h
    | (obtain ⟨hp, h⟩ := h; refine ⟨_, h.2, fun Q' h' => ⟨hp, ?_⟩⟩; first | exact h' | (rw [h.1]; exact h'))
    | (obtain ⟨hp, h⟩ := h; exact detN h)
    | (obtain ⟨b, hp, h⟩ := h; refine ⟨_, h.2, fun Q' h' => ⟨b, hp, ?_⟩⟩; first | exact h' | (rw [h.1]; exact h'))
    | (obtain ⟨b, hp, h⟩ := h; exact detN h)
    | (obtain ⟨b, c, hp, h⟩ := h; refine ⟨_, h.2, fun Q' h' => ⟨b, c, hp, ?_⟩⟩; first | exact h' | (rw [h.1]; exact h'))
    | (obtain ⟨b, c, hp, h⟩ := h; exact detN h)
    | (obtain ⟨b, c, d, hp, h⟩ := h; refine ⟨_, h.2, fun Q' h' => ⟨b, c, d, hp, ?_⟩⟩; first | exact h' | (rw [h.1]; exact h'))
    | (obtain ⟨b, c, d, hp, h⟩ := h; exact detN h)
    | (obtain ⟨b, c, d, e, hp, h⟩ := h; refine ⟨_, h.2, fun Q' h' => ⟨b, c, d, e, hp, ?_⟩⟩; first | exact h' | (rw [h.1]; exact h'))
    | (obtain ⟨b, c, d, e, hp, h⟩ := h; exact detN h)
    | (obtain ⟨b, c, d, e, f, hp, h⟩ := h; refine ⟨_, h.2, fun Q' h' => ⟨b, c, d, e, f, hp, ?_⟩⟩; first | exact h' | (rw [h.1]; exact h'))
    | (obtain ⟨b, c, d, e, f, hp, h⟩ := h; exact detN h)
    | (obtain ⟨b, c, d, e, f, g, hp, h⟩ := h; refine ⟨_, h.2, fun Q' h' => ⟨b, c, d, e, f, g, hp, ?_⟩⟩; first | exact h' | (rw [h.1]; exact h'))
    | (obtain ⟨b, c, d, e, f, g, hp, h⟩ := h; exact detN h)
    | exact detIf h
  · exact h.elim
theorem det_STg : (STg).Det := by
  intro vs G Q h
  unfold STg at h ⊢
  split at h
  · first
    | (refine ⟨_, h.2, fun Q' h' => ?_⟩; first | exact h' | (rw [h.1]; exact h'))
    | exact detN h
    | exact detA h
    | (obtain ⟨hp, h⟩ := h; refine ⟨_, h.2, fun Q' h' => ⟨hp, ?_⟩⟩; first | exact h' | (rw [h.1]; exact h'))
    | (obtain ⟨hp, h⟩ := h; exact detN h)
    | (obtain ⟨b, hp, h⟩ := h; refine ⟨_, h.2, fun Q' h' => ⟨b, hp, ?_⟩⟩; first | exact h' | (rw [h.1]; exact h'))
    | (obtain ⟨b, hp, h⟩ := h; exact detN h)
    | (obtain ⟨b, c, hp, h⟩ := h; refine ⟨_, h.2, fun Q' h' => ⟨b, c, hp, ?_⟩⟩; first | exact h' | (rw [h.1]; exact h'))
    | (obtain ⟨b, c, hp, h⟩ := h; exact detN h)
    | (obtain ⟨b, c, d, hp, h⟩ := h; refine ⟨_, h.2, fun Q' h' => ⟨b, c, d, hp, ?_⟩⟩; first | exact h' | (rw [h.1]; exact h'))
    | (obtain ⟨b, c, d, hp, h⟩ := h; exact detN h)
    | (obtain ⟨b, c, d, e, hp, h⟩ := h; refine ⟨_, h.2, fun Q' h' => ⟨b, c, d, e, hp, ?_⟩⟩; first | exact h' | (rw [h.1]; exact h'))
    | (obtain ⟨b, c, d, e, hp, h⟩ := h; exact detN h)
    | (obtain ⟨b, c, d, e, f, hp, h⟩ := h; refine ⟨_, h.2, fun Q' h' => ⟨b, c, d, e, f, hp, ?_⟩⟩; first | exact h' | (rw [h.1]; exact h'))
    | (obtain ⟨b, c, d, e, f, hp, h⟩ := h; exact detN h)
    | (obtain ⟨b, c, d, e, f, g, hp, h⟩ := h; refine ⟨_, h.2, fun Q' h' => ⟨b, c, d, e, f, g, hp, ?_⟩⟩; first | exact h' | (rw [h.1]; exact h'))
    | (obtain ⟨b, c, d, e, f, g, hp, h⟩ := h; exact detN h)
    | exact detIf h
  · exact h.elim
theorem det_SSi_K256 : (SSi K256).Det := by
  intro vs G Q h
  unfold SSi at h ⊢
  split at h
  · first
    | (refine ⟨_, h.2, fun Q' h' => ?_⟩; first | exact h' | (rw [h.1]; exact h'))
    | exact detN h
    | exact detA h
    | (obtain ⟨hp, h⟩ := h; refine ⟨_, h.2, fun Q' h' => ⟨hp, ?_⟩⟩; first | exact h' | (rw [h.1]; exact h'))
    | (obtain ⟨hp, h⟩ := h; exact detN h)
    | (obtain ⟨b, hp, h⟩ := h; refine ⟨_, h.2, fun Q' h' => ⟨b, hp, ?_⟩⟩; first | exact h' | (rw [h.1]; exact h'))
    | (obtain ⟨b, hp, h⟩ := h; exact detN h)
    | (obtain ⟨b, c, hp, h⟩ := h; refine ⟨_, h.2, fun Q' h' => ⟨b, c, hp, ?_⟩⟩; first | exact h' | (rw [h.1]; exact h'))
    | (obtain ⟨b, c, hp, h⟩ := h; exact detN h)
    | (obtain ⟨b, c, d, hp, h⟩ := h; refine ⟨_, h.2, fun Q' h' => ⟨b, c, d, hp, ?_⟩⟩; first | exact h' | (rw [h.1]; exact h'))
    | (obtain ⟨b, c, d, hp, h⟩ := h; exact detN h)
    | (obtain ⟨b, c, d, e, hp, h⟩ := h; refine ⟨_, h.2, fun Q' h' => ⟨b, c, d, e, hp, ?_⟩⟩; first | exact h' | (rw [h.1]; exact h'))
    | (obtain ⟨b, c, d, e, hp, h⟩ := h; exact detN h)
    | (obtain ⟨b, c, d, e, f, hp, h⟩ := h; refine ⟨_, h.2, fun Q' h' => ⟨b, c, d, e, f, hp, ?_⟩⟩; first | exact h' | (rw [h.1]; exact h'))
    | (obtain ⟨b, c, d, e, f, hp, h⟩ := h; exact detN h)
    | (obtain ⟨b, c, d, e, f, g, hp, h⟩ := h; refine ⟨_, h.2, fun Q' h' => ⟨b, c, d, e, f, g, hp, ?_⟩⟩; first | exact h' | (rw [h.1]; exact h'))
    | (obtain ⟨b, c, d, e, f, g, hp, h⟩ := h; exact detN h)
    | exact detIf h
  · exact h.elim
theorem det_SSa : (SSa).Det := by
  intro vs G Q h
  unfold SSa at h ⊢
  split at h
  · first
    | (refine ⟨_, h.2, fun Q' h' => ?_⟩; first | exact h' | (rw [h.1]; exact h'))
    | exact detN h
    | exact detA h
    | (obtain ⟨hp, h⟩ := h; refine ⟨_, h.2, fun Q' h' => ⟨hp, ?_⟩⟩; first | exact h' | (rw [h.1]; exact h'))
    | (obtain ⟨hp, h⟩ := h; exact detN h)
    | (obtain ⟨b, hp, h⟩ := h; refine ⟨_, h.2, fun Q' h' => ⟨b, hp, ?_⟩⟩; first | exact h' | (rw [h.1]; exact h'))
    | (obtain ⟨b, hp, h⟩ := h; exact detN h)
    | (obtain ⟨b, c, hp, h⟩ := h; refine ⟨_, h.2, fun Q' h' => ⟨b, c, hp, ?_⟩⟩; first | exact h' | (rw [h.1]; exact h'))
    | (obtain ⟨b, c, hp, h⟩ := h; exact detN h)
    | (obtain ⟨b, c, d, hp, h⟩ := h; refine ⟨_, h.2, fun Q' h' => ⟨b, c, d, hp, ?_⟩⟩; first | exact h' | (rw [h.1]; exact h'))
    | (obtain ⟨b, c, d, hp, h⟩ := h; exact detN h)
    | (obtain ⟨b, c, d, e, hp, h⟩ := h; refine ⟨_, h.2, fun Q' h' => ⟨b, c, d, e, hp, ?_⟩⟩; first | exact h' | (rw [h.1]; exact h'))
    | (obtain ⟨b, c, d, e, hp, h⟩ := h; exact detN h)
    | (obtain ⟨b, c, d, e, f, hp, h⟩ := h; refine ⟨_, h.2, fun Q' h' => ⟨b, c, d, e, f, hp, ?_⟩⟩; first | exact h' | (rw [h.1]; exact h'))
    | (obtain ⟨b, c, d, e, f, hp, h⟩ := h; exact detN h)
    | (obtain ⟨b, c, d, e, f, g, hp, h⟩ := h; refine ⟨_, h.2, fun Q' h' => ⟨b, c, d, e, f, g, hp, ?_⟩⟩; first | exact h' | (rw [h.1]; exact h'))
    | (obtain ⟨b, c, d, e, f, g, hp, h⟩ := h; exact detN h)
    | exact detIf h
  · exact h.elim
theorem det_SCh_K256 : (SCh K256).Det := by
  intro vs G Q h
  unfold SCh at h ⊢
  split at h
  · first
    | (refine ⟨_, h.2, fun Q' h' => ?_⟩; first | exact h' | (rw [h.1]; exact h'))
    | exact detN h
    | exact detA h
    | (obtain ⟨hp, h⟩ := h; refine ⟨_, h.2, fun Q' h' => ⟨hp, ?_⟩⟩; first | exact h' | (rw [h.1]; exact h'))
    | (obtain ⟨hp, h⟩ := h; exact detN h)
    | (obtain ⟨b, hp, h⟩ := h; refine ⟨_, h.2, fun Q' h' => ⟨b, hp, ?_⟩⟩; first | exact h' | (rw [h.1]; exact h'))
    | (obtain ⟨b, hp, h⟩ := h; exact detN h)
    | (obtain ⟨b, c, hp, h⟩ := h; refine ⟨_, h.2, fun Q' h' => ⟨b, c, hp, ?_⟩⟩; first | exact h' | (rw [h.1]; exact h'))
    | (obtain ⟨b, c, hp, h⟩ := h; exact detN h)
    | (obtain ⟨b, c, d, hp, h⟩ := h; refine ⟨_, h.2, fun Q' h' => ⟨b, c, d, hp, ?_⟩⟩; first | exact h' | (rw [h.1]; exact h'))
    | (obtain ⟨b, c, d, hp, h⟩ := h; exact detN h)
    | (obtain ⟨b, c, d, e, hp, h⟩ := h; refine ⟨_, h.2, fun Q' h' => ⟨b, c, d, e, hp, ?_⟩⟩; first | exact h' | (rw [h.1]; exact h'))
    | (obtain ⟨b, c, d, e, hp, h⟩ := h; exact detN h)
    | (obtain ⟨b, c, d, e, f, hp, h⟩ := h; refine ⟨_, h.2, fun Q' h' => ⟨b, c, d, e, f, hp, ?_⟩⟩; first | exact h' | (rw [h.1]; exact h'))
    | (obtain ⟨b, c, d, e, f, hp, h⟩ := h; exact detN h)
    | (obtain ⟨b, c, d, e, f, g, hp, h⟩ := h; refine ⟨_, h.2, fun Q' h' => ⟨b, c, d, e, f, g, hp, ?_⟩⟩; first | exact h' | (rw [h.1]; exact h'))
    | (obtain ⟨b, c, d, e, f, g, hp, h⟩ := h; exact detN h)
    | exact detIf h
  · exact h.elim
theorem det_SRi_K256 : (SRi K256).Det := by
  intro vs G Q h
  unfold SRi at h ⊢
  split at h
  · first
    | (refine ⟨_, h.2, fun Q' h' => ?_⟩; first | exact h' | (rw [h.1]; exact h'))
    | exact detN h
    | exact detA h
    | (obtain ⟨hp, h⟩ := h; refine ⟨_, h.2, fun Q' h' => ⟨hp, ?_⟩⟩; first | exact h' | (rw [h.1]; exact h'))
    | (obtain ⟨hp, h⟩ := h; exact detN h)
    | (obtain ⟨b, hp, h⟩ := h; refine ⟨_, h.2, fun Q' h' => ⟨b, hp, ?_⟩⟩; first | exact h' | (rw [h.1]; exact h'))
    | (obtain ⟨b, hp, h⟩ := h; exact detN h)
    | (obtain ⟨b, c, hp, h⟩ := h; refine ⟨_, h.2, fun Q' h' => ⟨b, c, hp, ?_⟩⟩; first | exact h' | (rw [h.1]; exact h'))
    | (obtain ⟨b, c, hp, h⟩ := h; exact detN h)
    | (obtain ⟨b, c, d, hp, h⟩ := h; refine ⟨_, h.2, fun Q' h' => ⟨b, c, d, hp, ?_⟩⟩; first | exact h' | (rw [h.1]; exact h'))
    | (obtain ⟨b, c, d, hp, h⟩ := h; exact detN h)
    | (obtain ⟨b, c, d, e, hp, h⟩ := h; refine ⟨_, h.2, fun Q' h' => ⟨b, c, d, e, hp, ?_⟩⟩; first | exact h' | (rw [h.1]; exact h'))
    | (obtain ⟨b, c, d, e, hp, h⟩ := h; exact detN h)
    | (obtain ⟨b, c, d, e, f, hp, h⟩ := h; refine ⟨_, h.2, fun Q' h' => ⟨b, c, d, e, f, hp, ?_⟩⟩; first | exact h' | (rw [h.1]; exact h'))
    | (obtain ⟨b, c, d, e, f, hp, h⟩ := h; exact detN h)
    | (obtain ⟨b, c, d, e, f, g, hp, h⟩ := h; refine ⟨_, h.2, fun Q' h' => ⟨b, c, d, e, f, g, hp, ?_⟩⟩; first | exact h' | (rw [h.1]; exact h'))
    | (obtain ⟨b, c, d, e, f, g, hp, h⟩ := h; exact detN h)
    | exact detIf h
  · exact h.elim
theorem det_SAl : (SAl).Det := by
  intro vs G Q h
  unfold SAl at h ⊢
  split at h
  · first
    | (refine ⟨_, h.2, fun Q' h' => ?_⟩; first | exact h' | (rw [h.1]; exact h'))
    | exact detN h
    | exact detA h
    | (obtain ⟨hp, h⟩ := h; refine ⟨_, h.2, fun Q' h' => ⟨hp, ?_⟩⟩; first | exact h' | (rw [h.1]; exact h'))
    | (obtain ⟨hp, h⟩ := h; exact detN h)
    | (obtain ⟨b, hp, h⟩ := h; refine ⟨_, h.2, fun Q' h' => ⟨b, hp, ?_⟩⟩; first | exact h' | (rw [h.1]; exact h'))
    | (obtain ⟨b, hp, h⟩ := h; exact detN h)
    | (obtain ⟨b, c, hp, h⟩ := h; refine ⟨_, h.2, fun Q' h' => ⟨b, c, hp, ?_⟩⟩; first | exact h' | (rw [h.1]; exact h'))
    | (obtain ⟨b, c, hp, h⟩ := h; exact detN h)
    | (obtain ⟨b, c, d, hp, h⟩ := h; refine ⟨_, h.2, fun Q' h' => ⟨b, c, d, hp, ?_⟩⟩; first | exact h' | (rw [h.1]; exact h'))
    | (obtain ⟨b, c, d, hp, h⟩ := h; exact detN h)
    | (obtain ⟨b, c, d, e, hp, h⟩ := h; refine ⟨_, h.2, fun Q' h' => ⟨b, c, d, e, hp, ?_⟩⟩; first | exact h' | (rw [h.1]; exact h'))
    | (obtain ⟨b, c, d, e, hp, h⟩ := h; exact detN h)
    | (obtain ⟨b, c, d, e, f, hp, h⟩ := h; refine ⟨_, h.2, fun Q' h' => ⟨b, c, d, e, f, hp, ?_⟩⟩; first | exact h' | (rw [h.1]; exact h'))
    | (obtain ⟨b, c, d, e, f, hp, h⟩ := h; exact detN h)
    | (obtain ⟨b, c, d, e, f, g, hp, h⟩ := h; refine ⟨_, h.2, fun Q' h' => ⟨b, c, d, e, f, g, hp, ?_⟩⟩; first | exact h' | (rw [h.1]; exact h'))
    | (obtain ⟨b, c, d, e, f, g, hp, h⟩ := h; exact detN h)
    | exact detIf h
  · exact h.elim
theorem det_SAw : (SAw).Det := by
  intro vs G Q h
  unfold SAw at h ⊢
  split at h
  · first
    | (refine ⟨_, h.2, fun Q' h' => ?_⟩; first | exact h' | (rw [h.1]; exact h'))
    | exact detN h
    | exact detA h
    | (obtain ⟨hp, h⟩ := h; refine ⟨_, h.2, fun Q' h' => ⟨hp, ?_⟩⟩; first | exact h' | (rw [h.1]; exact h'))
    | (obtain ⟨hp, h⟩ := h; exact detN h)
    | (obtain ⟨b, hp, h⟩ := h; refine ⟨_, h.2, fun Q' h' => ⟨b, hp, ?_⟩⟩; first | exact h' | (rw [h.1]; exact h'))
    | (obtain ⟨b, hp, h⟩ := h; exact detN h)
    | (obtain ⟨b, c, hp, h⟩ := h; refine ⟨_, h.2, fun Q' h' => ⟨b, c, hp, ?_⟩⟩; first | exact h' | (rw [h.1]; exact h'))
    | (obtain ⟨b, c, hp, h⟩ := h; exact detN h)
    | (obtain ⟨b, c, d, hp, h⟩ := h; refine ⟨_, h.2, fun Q' h' => ⟨b, c, d, hp, ?_⟩⟩; first | exact h' | (rw [h.1]; exact h'))
    | (obtain ⟨b, c, d, hp, h⟩ := h; exact detN h)
    | (obtain ⟨b, c, d, e, hp, h⟩ := h; refine ⟨_, h.2, fun Q' h' => ⟨b, c, d, e, hp, ?_⟩⟩; first | exact h' | (rw [h.1]; exact h'))
    | (obtain ⟨b, c, d, e, hp, h⟩ := h; exact detN h)
    | (obtain ⟨b, c, d, e, f, hp, h⟩ := h; refine ⟨_, h.2, fun Q' h' => ⟨b, c, d, e, f, hp, ?_⟩⟩; first | exact h' | (rw [h.1]; exact h'))
    | (obtain ⟨b, c, d, e, f, hp, h⟩ := h; exact detN h)
    | (obtain ⟨b, c, d, e, f, g, hp, h⟩ := h; refine ⟨_, h.2, fun Q' h' => ⟨b, c, d, e, f, g, hp, ?_⟩⟩; first | exact h' | (rw [h.1]; exact h'))
    | (obtain ⟨b, c, d, e, f, g, hp, h⟩ := h; exact detN h)
    | exact detIf h
  · exact h.elim
theorem det_SSm : (SSm).Det := by
  intro vs G Q h
  unfold SSm at h ⊢
  split at h
  · first
    | (refine ⟨_, h.2, fun Q' h' => ?_⟩; first | exact h' | (rw [h.1]; exact h'))
    | exact detN h
    | exact detA h
    | (obtain ⟨hp, h⟩ := h; refine ⟨_, h.2, fun Q' h' => ⟨hp, ?_⟩⟩; first | exact h' | (rw [h.1]; exact h'))
    | (obtain ⟨hp, h⟩ := h; exact detN h)
    | (obtain ⟨b, hp, h⟩ := h; refine ⟨_, h.2, fun Q' h' => ⟨b, hp, ?_⟩⟩; first | exact h' | (rw [h.1]; exact h'))
    | (obtain ⟨b, hp, h⟩ := h; exact detN h)
    | (obtain ⟨b, c, hp, h⟩ := h; refine ⟨_, h.2, fun Q' h' => ⟨b, c, hp, ?_⟩⟩; first | exact h' | (rw [h.1]; exact h'))
    | (obtain ⟨b, c, hp, h⟩ := h; exact detN h)
    | (obtain ⟨b, c, d, hp, h⟩ := h; refine ⟨_, h.2, fun Q' h' => ⟨b, c, d, hp, ?_⟩⟩; first | exact h' | (rw [h.1]; exact h'))
    | (obtain ⟨b, c, d, hp, h⟩ := h; exact detN h)
    | (obtain ⟨b, c, d, e, hp, h⟩ := h; refine ⟨_, h.2, fun Q' h' => ⟨b, c, d, e, hp, ?_⟩⟩; first | exact h' | (rw [h.1]; exact h'))
    | (obtain ⟨b, c, d, e, hp, h⟩ := h; exact detN h)
    | (obtain ⟨b, c, d, e, f, hp, h⟩ := h; refine ⟨_, h.2, fun Q' h' => ⟨b, c, d, e, f, hp, ?_⟩⟩; first | exact h' | (rw [h.1]; exact h'))
    | (obtain ⟨b, c, d, e, f, hp, h⟩ := h; exact detN h)
    | (obtain ⟨b, c, d, e, f, g, hp, h⟩ := h; refine ⟨_, h.2, fun Q' h' => ⟨b, c, d, e, f, g, hp, ?_⟩⟩; first | exact h' | (rw [h.1]; exact h'))
    | (obtain ⟨b, c, d, e, f, g, hp, h⟩ := h; exact detN h)
    | exact detIf h
  · exact h.elim
theorem det_SRd : (SRd).Det := by
  intro vs G Q h
  unfold SRd at h ⊢
  split at h
  · first
    | (refine ⟨_, h.2, fun Q' h' => ?_⟩; first | exact h' | (rw [h.1]; exact h'))
    | exact detN h
    | exact detA h
    | (obtain ⟨hp, h⟩ := h; refine ⟨_, h.2, fun Q' h' => ⟨hp, ?_⟩⟩; first | exact h' | (rw [h.1]; exact h'))
    | (obtain ⟨hp, h⟩ := h; exact detN h)
    | (obtain ⟨b, hp, h⟩ := h; refine ⟨_, h.2, fun Q' h' => ⟨b, hp, ?_⟩⟩; first | exact h' | (rw [h.1]; exact h'))
    | (obtain ⟨b, hp, h⟩ := h; exact detN h)
    | (obtain ⟨b, c, hp, h⟩ := h; refine ⟨_, h.2, fun Q' h' => ⟨b, c, hp, ?_⟩⟩; first | exact h' | (rw [h.1]; exact h'))
    | (obtain ⟨b, c, hp, h⟩ := h; exact detN h)
    | (obtain ⟨b, c, d, hp, h⟩ := h; refine ⟨_, h.2, fun Q' h' => ⟨b, c, d, hp, ?_⟩⟩; first | exact h' | (rw [h.1]; exact h'))
    | (obtain ⟨b, c, d, hp, h⟩ := h; exact detN h)
    | (obtain ⟨b, c, d, e, hp, h⟩ := h; refine ⟨_, h.2, fun Q' h' => ⟨b, c, d, e, hp, ?_⟩⟩; first | exact h' | (rw [h.1]; exact h'))
    | (obtain ⟨b, c, d, e, hp, h⟩ := h; exact detN h)
    | (obtain ⟨b, c, d, e, f, hp, h⟩ := h; refine ⟨_, h.2, fun Q' h' => ⟨b, c, d, e, f, hp, ?_⟩⟩; first | exact h' | (rw [h.1]; exact h'))
    | (obtain ⟨b, c, d, e, f, hp, h⟩ := h; exact detN h)
    | (obtain ⟨b, c, d, e, f, g, hp, h⟩ := h; refine ⟨_, h.2, fun Q' h' => ⟨b, c, d, e, f, g, hp, ?_⟩⟩; first | exact h' | (rw [h.1]; exact h'))
    | (obtain ⟨b, c, d, e, f, g, hp, h⟩ := h; exact detN h)
    | exact detIf h
  · exact h.elim
theorem det_SOff : (SOff).Det := by
  intro vs G Q h
  unfold SOff at h ⊢
  split at h
  · first
    | (refine ⟨_, h.2, fun Q' h' => ?_⟩; first | exact h' | (rw [h.1]; exact h'))
    | exact detN h
    | exact detA h
    | (obtain ⟨hp, h⟩ := h; refine ⟨_, h.2, fun Q' h' => ⟨hp, ?_⟩⟩; first | exact h' | (rw [h.1]; exact h'))
    | (obtain ⟨hp, h⟩ := h; exact detN h)
    | (obtain ⟨b, hp, h⟩ := h; refine ⟨_, h.2, fun Q' h' => ⟨b, hp, ?_⟩⟩; first | exact h' | (rw [h.1]; exact h'))
    | (obtain ⟨b, hp, h⟩ := h; exact detN h)
    | (obtain ⟨b, c, hp, h⟩ := h; refine ⟨_, h.2, fun Q' h' => ⟨b, c, hp, ?_⟩⟩; first | exact h' | (rw [h.1]; exact h'))
    | (obtain ⟨b, c, hp, h⟩ := h; exact detN h)
    | (obtain ⟨b, c, d, hp, h⟩ := h; refine ⟨_, h.2, fun Q' h' => ⟨b, c, d, hp, ?_⟩⟩; first | exact h' | (rw [h.1]; exact h'))
    | (obtain ⟨b, c, d, hp, h⟩ := h; exact detN h)
    | (obtain ⟨b, c, d, e, hp, h⟩ := h; refine ⟨_, h.2, fun Q' h' => ⟨b, c, d, e, hp, ?_⟩⟩; first | exact h' | (rw [h.1]; exact h'))
    | (obtain ⟨b, c, d, e, hp, h⟩ := h; exact detN h)
    | (obtain ⟨b, c, d, e, f, hp, h⟩ := h; refine ⟨_, h.2, fun Q' h' => ⟨b, c, d, e, f, hp, ?_⟩⟩; first | exact h' | (rw [h.1]; exact h'))
    | (obtain ⟨b, c, d, e, f, hp, h⟩ := h; exact detN h)
    | (obtain ⟨b, c, d, e, f, g, hp, h⟩ := h; refine ⟨_, h.2, fun Q' h' => ⟨b, c, d, e, f, g, hp, ?_⟩⟩; first | exact h' | (rw [h.1]; exact h'))
    | (obtain ⟨b, c, d, e, f, g, hp, h⟩ := h; exact detN h)
    | exact detIf h
  · exact h.elim
theorem det_SNb : (SNb).Det := by
  intro vs G Q h
  unfold SNb at h ⊢
  split at h
  · first
    | (refine ⟨_, h.2, fun Q' h' => ?_⟩; first | exact h' | (rw [h.1]; exact h'))
    | exact detN h
    | exact detA h
    | (obtain ⟨hp, h⟩ := h; refine ⟨_, h.2, fun Q' h' => ⟨hp, ?_⟩⟩; first | exact h' | (rw [h.1]; exact h'))
    | (obtain ⟨hp, h⟩ := h; exact detN h)
    | (obtain ⟨b, hp, h⟩ := h; refine ⟨_, h.2, fun Q' h' => ⟨b, hp, ?_⟩⟩; first | exact h' | (rw [h.1]; exact h'))
    | (obtain ⟨b, hp, h⟩ := h; exact detN h)
    | (obtain ⟨b, c, hp, h⟩ := h; refine ⟨_, h.2, fun Q' h' => ⟨b, c, hp, ?_⟩⟩; first | exact h' | (rw [h.1]; exact h'))
    | (obtain ⟨b, c, hp, h⟩ := h; exact detN h)
    | (obtain ⟨b, c, d, hp, h⟩ := h; refine ⟨_, h.2, fun Q' h' => ⟨b, c, d, hp, ?_⟩⟩; first | exact h' | (rw [h.1]; exact h'))
    | (obtain ⟨b, c, d, hp, h⟩ := h; exact detN h)
    | (obtain ⟨b, c, d, e, hp, h⟩ := h; refine ⟨_, h.2, fun Q' h' => ⟨b, c, d, e, hp, ?_⟩⟩; first | exact h' | (rw [h.1]; exact h'))
    | (obtain ⟨b, c, d, e, hp, h⟩ := h; exact detN h)
    | (obtain ⟨b, c, d, e, f, hp, h⟩ := h; refine ⟨_, h.2, fun Q' h' => ⟨b, c, d, e, f, hp, ?_⟩⟩; first | exact h' | (rw [h.1]; exact h'))
    | (obtain ⟨b, c, d, e, f, hp, h⟩ := h; exact detN h)
    | (obtain ⟨b, c, d, e, f, g, hp, h⟩ := h; refine ⟨_, h.2, fun Q' h' => ⟨b, c, d, e, f, g, hp, ?_⟩⟩; first | exact h' | (rw [h.1]; exact h'))
    | (obtain ⟨b, c, d, e, f, g, hp, h⟩ := h; exact detN h)
    | exact detIf h
  · exact h.elim
theorem det_SNm : (SNm).Det := by
  intro vs G Q h
  unfold SNm at h ⊢
  split at h
  · first
    | (refine ⟨_, h.2, fun Q' h' => ?_⟩; first | exact h' | (rw [h.1]; exact h'))
    | exact detN h
    | exact detA h
    | (obtain ⟨hp, h⟩ := h; refine ⟨_, h.2, fun Q' h' => ⟨hp, ?_⟩⟩; first | exact h' | (rw [h.1]; exact h'))
    | (obtain ⟨hp, h⟩ := h; exact detN h)
    | (obtain ⟨b, hp, h⟩ := h; refine ⟨_, h.2, fun Q' h' => ⟨b, hp, ?_⟩⟩; first | exact h' | (rw [h.1]; exact h'))
    | (obtain ⟨b, hp, h⟩ := h; exact detN h)
    | (obtain ⟨b, c, hp, h⟩ := h; refine ⟨_, h.2, fun Q' h' => ⟨b, c, hp, ?_⟩⟩; first | exact h' | (rw [h.1]; exact h'))
    | (obtain ⟨b, c, hp, h⟩ := h; exact detN h)
    | (obtain ⟨b, c, d, hp, h⟩ := h; refine ⟨_, h.2, fun Q' h' => ⟨b, c, d, hp, ?_⟩⟩; first | exact h' | (rw [h.1]; exact h'))
    | (obtain ⟨b, c, d, hp, h⟩ := h; exact detN h)
    | (obtain ⟨b, c, d, e, hp, h⟩ := h; refine ⟨_, h.2, fun Q' h' => ⟨b, c, d, e, hp, ?_⟩⟩; first | exact h' | (rw [h.1]; exact h'))
    | (obtain ⟨b, c, d, e, hp, h⟩ := h; exact detN h)
    | (obtain ⟨b, c, d, e, f, hp, h⟩ := h; refine ⟨_, h.2, fun Q' h' => ⟨b, c, d, e, f, hp, ?_⟩⟩; first | exact h' | (rw [h.1]; exact h'))
    | (obtain ⟨b, c, d, e, f, hp, h⟩ := h; exact detN h)
    | (obtain ⟨b, c, d, e, f, g, hp, h⟩ := h; refine ⟨_, h.2, fun Q' h' => ⟨b, c, d, e, f, g, hp, ?_⟩⟩; first | exact h' | (rw [h.1]; exact h'))
    | (obtain ⟨b, c, d, e, f, g, hp, h⟩ := h; exact detN h)
    | exact detIf h
  · exact h.elim
theorem det_SUp : (SUp).Det := by
  intro vs G Q h
  unfold SUp at h ⊢
  split at h
  · first
    | (refine ⟨_, h.2, fun Q' h' => ?_⟩; first | exact h' | (rw [h.1]; exact h'))
    | exact detN h
    | exact detA h
    | (obtain ⟨hp, h⟩ := h; refine ⟨_, h.2, fun Q' h' => ⟨hp, ?_⟩⟩; first | exact h' | (rw [h.1]; exact h'))
    | (obtain ⟨hp, h⟩ := h; exact detN h)
    | (obtain ⟨b, hp, h⟩ := h; refine ⟨_, h.2, fun Q' h' => ⟨b, hp, ?_⟩⟩; first | exact h' | (rw [h.1]; exact h'))
    | (obtain ⟨b, hp, h⟩ := h; exact detN h)
    | (obtain ⟨b, c, hp, h⟩ := h; refine ⟨_, h.2, fun Q' h' => ⟨b, c, hp, ?_⟩⟩; first | exact h' | (rw [h.1]; exact h'))
    | (obtain ⟨b, c, hp, h⟩ := h; exact detN h)
    | (obtain ⟨b, c, d, hp, h⟩ := h; refine ⟨_, h.2, fun Q' h' => ⟨b, c, d, hp, ?_⟩⟩; first | exact h' | (rw [h.1]; exact h'))
    | (obtain ⟨b, c, d, hp, h⟩ := h; exact detN h)
    | (obtain ⟨b, c, d, e, hp, h⟩ := h; refine ⟨_, h.2, fun Q' h' => ⟨b, c, d, e, hp, ?_⟩⟩; first | exact h' | (rw [h.1]; exact h'))
    | (obtain ⟨b, c, d, e, hp, h⟩ := h; exact detN h)
    | (obtain ⟨b, c, d, e, f, hp, h⟩ := h; refine ⟨_, h.2, fun Q' h' => ⟨b, c, d, e, f, hp, ?_⟩⟩; first | exact h' | (rw [h.1]; exact h'))
    | (obtain ⟨b, c, d, e, f, hp, h⟩ := h; exact detN h)
    | (obtain ⟨b, c, d, e, f, g, hp, h⟩ := h; refine ⟨_, h.2, fun Q' h' => ⟨b, c, d, e, f, g, hp, ?_⟩⟩; first | exact h' | (rw [h.1]; exact h'))
    | (obtain ⟨b, c, d, e, f, g, hp, h⟩ := h; exact detN h)
    | exact detIf h
  · exact h.elim
theorem det_SHs : (SHs).Det := by
  intro vs G Q h
  unfold SHs at h ⊢
  split at h
  · first
    | (refine ⟨_, h.2, fun Q' h' => ?_⟩; first | exact h' | (rw [h.1]; exact h'))
    | exact detN h
    | exact detA h
    | (obtain ⟨hp, h⟩ := h; refine ⟨_, h.2, fun Q' h' => ⟨hp, ?_⟩⟩; first | exact h' | (rw [h.1]; exact h'))
    | (obtain ⟨hp, h⟩ := h; exact detN h)
    | (obtain ⟨b, hp, h⟩ := h; refine ⟨_, h.2, fun Q' h' => ⟨b, hp, ?_⟩⟩; first | exact h' | (rw [h.1]; exact h'))
    | (obtain ⟨b, hp, h⟩ := h; exact detN h)
    | (obtain ⟨b, c, hp, h⟩ := h; refine ⟨_, h.2, fun Q' h' => ⟨b, c, hp, ?_⟩⟩; first | exact h' | (rw [h.1]; exact h'))
    | (obtain ⟨b, c, hp, h⟩ := h; exact detN h)
    | (obtain ⟨b, c, d, hp, h⟩ := h; refine ⟨_, h.2, fun Q' h' => ⟨b, c, d, hp, ?_⟩⟩; first | exact h' | (rw [h.1]; exact h'))
    | (obtain ⟨b, c, d, hp, h⟩ := h; exact detN h)
    | (obtain ⟨b, c, d, e, hp, h⟩ := h; refine ⟨_, h.2, fun Q' h' => ⟨b, c, d, e, hp, ?_⟩⟩; first | exact h' | (rw [h.1]; exact h'))
    | (obtain ⟨b, c, d, e, hp, h⟩ := h; exact detN h)
    | (obtain ⟨b, c, d, e, f, hp, h⟩ := h; refine ⟨_, h.2, fun Q' h' => ⟨b, c, d, e, f, hp, ?_⟩⟩; first | exact h' | (rw [h.1]; exact h'))
    | (obtain ⟨b, c, d, e, f, hp, h⟩ := h; exact detN h)
    | (obtain ⟨b, c, d, e, f, g, hp, h⟩ := h; refine ⟨_, h.2, fun Q' h' => ⟨b, c, d, e, f, g, hp, ?_⟩⟩; first | exact h' | (rw [h.1]; exact h'))
    | (obtain ⟨b, c, d, e, f, g, hp, h⟩ := h; exact detN h)
    | exact detIf h
  · exact h.elim
theorem det_SAr : (SAr).Det := by
  intro vs G Q h
  unfold SAr at h ⊢
  split at h
  · first
    | (refine ⟨_, h.2, fun Q' h' => ?_⟩; first | exact h' | (rw [h.1]; exact h'))
    | exact detN h
    | exact detA h
    | (obtain ⟨hp, h⟩ := h; refine ⟨_, h.2, fun Q' h' => ⟨hp, ?_⟩⟩; first | exact h' | (rw [h.1]; exact h'))
    | (obtain ⟨hp, h⟩ := h; exact detN h)
    | (obtain ⟨b, hp, h⟩ := h; refine ⟨_, h.2, fun Q' h' => ⟨b, hp, ?_⟩⟩; first | exact h' | (rw [h.1]; exact h'))
    | (obtain ⟨b, hp, h⟩ := h; exact detN h)
    | (obtain ⟨b, c, hp, h⟩ := h; refine ⟨_, h.2, fun Q' h' => ⟨b, c, hp, ?_⟩⟩; first | exact h' | (rw [h.1]; exact h'))
    | (obtain ⟨b, c, hp, h⟩ := h; exact detN h)
    | (obtain ⟨b, c, d, hp, h⟩ := h; refine ⟨_, h.2, fun Q' h' => ⟨b, c, d, hp, ?_⟩⟩; first | exact h' | (rw [h.1]; exact h'))
    | (obtain ⟨b, c, d, hp, h⟩ := h; exact detN h)
    | (obtain ⟨b, c, d, e, hp, h⟩ := h; refine ⟨_, h.2, fun Q' h' => ⟨b, c, d, e, hp, ?_⟩⟩; first | exact h' | (rw [h.1]; exact h'))
    | (obtain ⟨b, c, d, e, hp, h⟩ := h; exact detN h)
    | (obtain ⟨b, c, d, e, f, hp, h⟩ := h; refine ⟨_, h.2, fun Q' h' => ⟨b, c, d, e, f, hp, ?_⟩⟩; first | exact h' | (rw [h.1]; exact h'))
    | (obtain ⟨b, c, d, e, f, hp, h⟩ := h; exact detN h)
    | (obtain ⟨b, c, d, e, f, g, hp, h⟩ := h; refine ⟨_, h.2, fun Q' h' => ⟨b, c, d, e, f, g, hp, ?_⟩⟩; first | exact h' | (rw [h.1]; exact h'))
    | (obtain ⟨b, c, d, e, f, g, hp, h⟩ := h; exact detN h)
    | exact detIf h
  · exact h.elim
theorem det_SLf : (SLf).Det := by
  intro vs G Q h
  unfold SLf at h ⊢
  split at h
  · first
    | (refine ⟨_, h.2, fun Q' h' => ?_⟩; first | exact h' | (rw [h.1]; exact h'))
    | exact detN h
    | exact detA h
    | (obtain ⟨hp, h⟩ := h; refine ⟨_, h.2, fun Q' h' => ⟨hp, ?_⟩⟩; first | exact h' | (rw [h.1]; exact h'))
    | (obtain ⟨hp, h⟩ := h; exact detN h)
    | (obtain ⟨b, hp, h⟩ := h; refine ⟨_, h.2, fun Q' h' => ⟨b, hp, ?_⟩⟩; first | exact h' | (rw [h.1]; exact h'))
    | (obtain ⟨b, hp, h⟩ := h; exact detN h)
    | (obtain ⟨b, c, hp, h⟩ := h; refine ⟨_, h.2, fun Q' h' => ⟨b, c, hp, ?_⟩⟩; first | exact h' | (rw [h.1]; exact h'))
    | (obtain ⟨b, c, hp, h⟩ := h; exact detN h)
    | (obtain ⟨b, c, d, hp, h⟩ := h; refine ⟨_, h.2, fun Q' h' => ⟨b, c, d, hp, ?_⟩⟩; first | exact h' | (rw [h.1]; exact h'))
    | (obtain ⟨b, c, d, hp, h⟩ := h; exact detN h)
    | (obtain ⟨b, c, d, e, hp, h⟩ := h; refine ⟨_, h.2, fun Q' h' => ⟨b, c, d, e, hp, ?_⟩⟩; first | exact h' | (rw [h.1]; exact h'))
    | (obtain ⟨b, c, d, e, hp, h⟩ := h; exact detN h)
    | (obtain ⟨b, c, d, e, f, hp, h⟩ := h; refine ⟨_, h.2, fun Q' h' => ⟨b, c, d, e, f, hp, ?_⟩⟩; first | exact h' | (rw [h.1]; exact h'))
    | (obtain ⟨b, c, d, e, f, hp, h⟩ := h; exact detN h)
    | (obtain ⟨b, c, d, e, f, g, hp, h⟩ := h; refine ⟨_, h.2, fun Q' h' => ⟨b, c, d, e, f, g, hp, ?_⟩⟩; first | exact h' | (rw [h.1]; exact h'))
    | (obtain ⟨b, c, d, e, f, g, hp, h⟩ := h; exact detN h)
    | exact detIf h
  · exact h.elim
theorem det_SAp : (SAp).Det := by
  intro vs G Q h
  unfold SAp at h ⊢
  split at h
  · first
    | (refine ⟨_, h.2, fun Q' h' => ?_⟩; first | exact h' | (rw [h.1]; exact h'))
    | exact detN h
    | exact detA h
    | (obtain ⟨hp, h⟩ := h; refine ⟨_, h.2, fun Q' h' => ⟨hp, ?_⟩⟩; first | exact h' | (rw [h.1]; exact h'))
    | (obtain ⟨hp, h⟩ := h; exact detN h)
    | (obtain ⟨b, hp, h⟩ := h; refine ⟨_, h.2, fun Q' h' => ⟨b, hp, ?_⟩⟩; first | exact h' | (rw [h.1]; exact h'))
    | (obtain ⟨b, hp, h⟩ := h; exact detN h)
    | (obtain ⟨b, c, hp, h⟩ := h; refine ⟨_, h.2, fun Q' h' => ⟨b, c, hp, ?_⟩⟩; first | exact h' | (rw [h.1]; exact h'))
    | (obtain ⟨b, c, hp, h⟩ := h; exact detN h)
    | (obtain ⟨b, c, d, hp, h⟩ := h; refine ⟨_, h.2, fun Q' h' => ⟨b, c, d, hp, ?_⟩⟩; first | exact h' | (rw [h.1]; exact h'))
    | (obtain ⟨b, c, d, hp, h⟩ := h; exact detN h)
    | (obtain ⟨b, c, d, e, hp, h⟩ := h; refine ⟨_, h.2, fun Q' h' => ⟨b, c, d, e, hp, ?_⟩⟩; first | exact h' | (rw [h.1]; exact h'))
    | (obtain ⟨b, c, d, e, hp, h⟩ := h; exact detN h)
    | (obtain ⟨b, c, d, e, f, hp, h⟩ := h; refine ⟨_, h.2, fun Q' h' => ⟨b, c, d, e, f, hp, ?_⟩⟩; first | exact h' | (rw [h.1]; exact h'))
    | (obtain ⟨b, c, d, e, f, hp, h⟩ := h; exact detN h)
    | (obtain ⟨b, c, d, e, f, g, hp, h⟩ := h; refine ⟨_, h.2, fun Q' h' => ⟨b, c, d, e, f, g, hp, ?_⟩⟩; first | exact h' | (rw [h.1]; exact h'))
    | (obtain ⟨b, c, d, e, f, g, hp, h⟩ := h; exact detN h)
    | exact detIf h
  · exact h.elim
theorem det_SBy : (SBy).Det := by
  intro vs G Q h
  unfold SBy at h ⊢
  split at h
  · first
    | (refine ⟨_, h.2, fun Q' h' => ?_⟩; first | exact h' | (rw [h.1]; exact h'))
    | exact detN h
    | exact detA h
    | (obtain ⟨hp, h⟩ := h; refine ⟨_, h.2, fun Q' h' => ⟨hp, ?_⟩⟩; first | exact h' | (rw [h.1]; exact h'))
    | (obtain ⟨hp, h⟩ := h; exact detN h)
    | (obtain ⟨b, hp, h⟩ := h; refine ⟨_, h.2, fun Q' h' => ⟨b, hp, ?_⟩⟩; first | exact h' | (rw [h.1]; exact h'))
    | (obtain ⟨b, hp, h⟩ := h; exact detN h)
    | (obtain ⟨b, c, hp, h⟩ := h; refine ⟨_, h.2, fun Q' h' => ⟨b, c, hp, ?_⟩⟩; first | exact h' | (rw [h.1]; exact h'))
    | (obtain ⟨b, c, hp, h⟩ := h; exact detN h)
    | (obtain ⟨b, c, d, hp, h⟩ := h; refine ⟨_, h.2, fun Q' h' => ⟨b, c, d, hp, ?_⟩⟩; first | exact h' | (rw [h.1]; exact h'))
    | (obtain ⟨b, c, d, hp, h⟩ := h; exact detN h)
    | (obtain ⟨b, c, d, e, hp, h⟩ := h; refine ⟨_, h.2, fun Q' h' => ⟨b, c, d, e, hp, ?_⟩⟩; first | exact h' | (rw [h.1]; exact h'))
    | (obtain ⟨b, c, d, e, hp, h⟩ := h; exact detN h)
    | (obtain ⟨b, c, d, e, f, hp, h⟩ := h; refine ⟨_, h.2, fun Q' h' => ⟨b, c, d, e, f, hp, ?_⟩⟩; first | exact h' | (rw [h.1]; exact h'))
    | (obtain ⟨b, c, d, e, f, hp, h⟩ := h; exact detN h)
    | (obtain ⟨b, c, d, e, f, g, hp, h⟩ := h; refine ⟨_, h.2, fun Q' h' => ⟨b, c, d, e, f, g, hp, ?_⟩⟩; first | exact h' | (rw [h.1]; exact h'))
    | (obtain ⟨b, c, d, e, f, g, hp, h⟩ := h; exact detN h)
    | exact detIf h
  · exact h.elim
theorem det_SRn_10 : (SRn 10).Det := by
  intro vs G Q h
  unfold SRn at h ⊢
  split at h
  · first
    | (refine ⟨_, h.2, fun Q' h' => ?_⟩; first | exact h' | (rw [h.1]; exact h'))
    | exact detN h
    | exact detA h
    | (obtain ⟨hp, h⟩ := h; refine ⟨_, h.2, fun Q' h' => ⟨hp, ?_⟩⟩; first | exact h' | (rw [h.1]; exact h'))
    | (obtain ⟨hp, h⟩ := h; exact detN h)
    | (obtain ⟨b, hp, h⟩ := h; refine ⟨_, h.2, fun Q' h' => ⟨b, hp, ?_⟩⟩; first | exact h' | (rw [h.1]; exact h'))
    | (obtain ⟨b, hp, h⟩ := h; exact detN h)
    | (obtain ⟨b, c, hp, h⟩ := h; refine ⟨_, h.2, fun Q' h' => ⟨b, c, hp, ?_⟩⟩; first | exact h' | (rw [h.1]; exact h'))
    | (obtain ⟨b, c, hp, h⟩ := h; exact detN h)
    | (obtain ⟨b, c, d, hp, h⟩ := h; refine ⟨_, h.2, fun Q' h' => ⟨b, c, d, hp, ?_⟩⟩; first | exact h' | (rw [h.1]; exact h'))
    | (obtain ⟨b, c, d, hp, h⟩ := h; exact detN h)
    | (obtain ⟨b, c, d, e, hp, h⟩ := h; refine ⟨_, h.2, fun Q' h' => ⟨b, c, d, e, hp, ?_⟩⟩; first | exact h' | (rw [h.1]; exact h'))
    | (obtain ⟨b, c, d, e, hp, h⟩ := h; exact detN h)
    | (obtain ⟨b, c, d, e, f, hp, h⟩ := h; refine ⟨_, h.2, fun Q' h' => ⟨b, c, d, e, f, hp, ?_⟩⟩; first | exact h' | (rw [h.1]; exact h'))
    | (obtain ⟨b, c, d, e, f, hp, h⟩ := h; exact detN h)
    | (obtain ⟨b, c, d, e, f, g, hp, h⟩ := h; refine ⟨_, h.2, fun Q' h' => ⟨b, c, d, e, f, g, hp, ?_⟩⟩; first | exact h' | (rw [h.1]; exact h'))
    | (obtain ⟨b, c, d, e, f, g, hp, h⟩ := h; exact detN h)
    | exact detIf h
  · exact h.elim
theorem det_ST8 : (ST8).Det := by
  intro vs G Q h
  unfold ST8 at h ⊢
  split at h
  · first
    | (refine ⟨_, h.2, fun Q' h' => ?_⟩; first | exact h' | (rw [h.1]; exact h'))
    | exact detN h
    | exact detA h
    | (obtain ⟨hp, h⟩ := h; refine ⟨_, h.2, fun Q' h' => ⟨hp, ?_⟩⟩; first | exact h' | (rw [h.1]; exact h'))
    | (obtain ⟨hp, h⟩ := h; exact detN h)
    | (obtain ⟨b, hp, h⟩ := h; refine ⟨_, h.2, fun Q' h' => ⟨b, hp, ?_⟩⟩; first | exact h' | (rw [h.1]; exact h'))
    | (obtain ⟨b, hp, h⟩ := h; exact detN h)
    | (obtain ⟨b, c, hp, h⟩ := h; refine ⟨_, h.2, fun Q' h' => ⟨b, c, hp, ?_⟩⟩; first | exact h' | (rw [h.1]; exact h'))
    | (obtain ⟨b, c, hp, h⟩ := h; exact detN h)
    | (obtain ⟨b, c, d, hp, h⟩ := h; refine ⟨_, h.2, fun Q' h' => ⟨b, c, d, hp, ?_⟩⟩; first | exact h' | (rw [h.1]; exact h'))
    | (obtain ⟨b, c, d, hp, h⟩ := h; exact detN h)
    | (obtain ⟨b, c, d, e, hp, h⟩ := h; refine ⟨_, h.2, fun Q' h' => ⟨b, c, d, e, hp, ?_⟩⟩; first | exact h' | (rw [h.1]; exact h'))
    | (obtain ⟨b, c, d, e, hp, h⟩ := h; exact detN h)
    | (obtain ⟨b, c, d, e, f, hp, h⟩ := h; refine ⟨_, h.2, fun Q' h' => ⟨b, c, d, e, f, hp, ?_⟩⟩; first | exact h' | (rw [h.1]; exact h'))
    | (obtain ⟨b, c, d, e, f, hp, h⟩ := h; exact detN h)
    | (obtain ⟨b, c, d, e, f, g, hp, h⟩ := h; refine ⟨_, h.2, fun Q' h' => ⟨b, c, d, e, f, g, hp, ?_⟩⟩; first | exact h' | (rw [h.1]; exact h'))
    | (obtain ⟨b, c, d, e, f, g, hp, h⟩ := h; exact detN h)
    | exact detIf h
  · exact h.elim
theorem det_SAb : (SAb).Det := by
  intro vs G Q h
  unfold SAb at h ⊢
  split at h
  · first
    | (refine ⟨_, h.2, fun Q' h' => ?_⟩; first | exact h' | (rw [h.1]; exact h'))
    | exact detN h
    | exact detA h
    | (obtain ⟨hp, h⟩ := h; refine ⟨_, h.2, fun Q' h' => ⟨hp, ?_⟩⟩; first | exact h' | (rw [h.1]; exact h'))
    | (obtain ⟨hp, h⟩ := h; exact detN h)
    | (obtain ⟨b, hp, h⟩ := h; refine ⟨_, h.2, fun Q' h' => ⟨b, hp, ?_⟩⟩; first | exact h' | (rw [h.1]; exact h'))
    | (obtain ⟨b, hp, h⟩ := h; exact detN h)
    | (obtain ⟨b, c, hp, h⟩ := h; refine ⟨_, h.2, fun Q' h' => ⟨b, c, hp, ?_⟩⟩; first | exact h' | (rw [h.1]; exact h'))
    | (obtain ⟨b, c, hp, h⟩ := h; exact detN h)
    | (obtain ⟨b, c, d, hp, h⟩ := h; refine ⟨_, h.2, fun Q' h' => ⟨b, c, d, hp, ?_⟩⟩; first | exact h' | (rw [h.1]; exact h'))
    | (obtain ⟨b, c, d, hp, h⟩ := h; exact detN h)
    | (obtain ⟨b, c, d, e, hp, h⟩ := h; refine ⟨_, h.2, fun Q' h' => ⟨b, c, d, e, hp, ?_⟩⟩; first | exact h' | (rw [h.1]; exact h'))
    | (obtain ⟨b, c, d, e, hp, h⟩ := h; exact detN h)
    | (obtain ⟨b, c, d, e, f, hp, h⟩ := h; refine ⟨_, h.2, fun Q' h' => ⟨b, c, d, e, f, hp, ?_⟩⟩; first | exact h' | (rw [h.1]; exact h'))
    | (obtain ⟨b, c, d, e, f, hp, h⟩ := h; exact detN h)
    | (obtain ⟨b, c, d, e, f, g, hp, h⟩ := h; refine ⟨_, h.2, fun Q' h' => ⟨b, c, d, e, f, g, hp, ?_⟩⟩; first | exact h' | (rw [h.1]; exact h'))
    | (obtain ⟨b, c, d, e, f, g, hp, h⟩ := h; exact detN h)
    | exact detIf h
  · exact h.elim
theorem own : ownKnob Tryd.prog.godebug = none := by kernel_rfl
theorem laidOut : laidOutB Tryd.prog = true := by kernel_rfl
noncomputable def EE : Env := ⟨Tryd.prog, [(0, .arr .u32 64 K256)]⟩
theorem g9 : Abs.Good EE [(9, SMy)] := (Abs.Good.nil EE).cons det_SMy fun vs G Q h => by
  unfold SMy at h; split at h
  · exact (Abs.Good.nil EE).ret (E := EE) p9 rfl (walk9 h.1 h.2)
  · exact h.elim
theorem g36 : Abs.Good EE [(36, SNo), (9, SMy)] := g9.cons det_SNo fun vs G Q h => by
  unfold SNo at h; split at h
  · exact g9.ret (E := EE) p36 rfl (walk36 h)
  · exact h.elim
theorem g11 : Abs.Good EE [(11, SCk), (36, SNo), (9, SMy)] := g36.cons det_SCk fun vs G Q h => by
  unfold SCk at h; split at h
  · exact g36.ret (E := EE) p11 rfl (walk11 rfl h.1 h.2)
  · exact h.elim
theorem g71 : Abs.Good EE [(71, SSt), (11, SCk), (36, SNo), (9, SMy)] := g11.cons det_SSt fun vs G Q h => by
  unfold SSt at h; split at h
  · exact g11.ret (E := EE) p71 rfl (walk71 h)
  · exact h.elim
theorem g76 : Abs.Good EE [(76, SEn), (71, SSt), (11, SCk), (36, SNo), (9, SMy)] := g71.cons det_SEn fun vs G Q h => by
  unfold SEn at h; split at h
  · rename_i n; obtain ⟨k, rfl⟩ : ∃ k : Nat, n = k := ⟨n.toNat, by omega⟩; rw [Int.toNat_natCast] at h; exact g71.ret (E := EE) p76 rfl (walk76 (n := k) (by omega) h.2)
  · exact h.elim
theorem g72 : Abs.Good EE [(72, SFi), (76, SEn), (71, SSt), (11, SCk), (36, SNo), (9, SMy)] := g76.cons det_SFi fun vs G Q h => by
  unfold SFi at h; split at h
  · obtain ⟨b, ⟨hx, hb⟩, h⟩ := h; exact g76.ret (E := EE) p72 rfl (walk72 rfl hx hb h)
  · exact h.elim
theorem g81 : Abs.Good EE [(81, SRl), (72, SFi), (76, SEn), (71, SSt), (11, SCk), (36, SNo), (9, SMy)] := g72.cons det_SRl fun vs G Q h => by
  unfold SRl at h; split at h
  · exact g72.ret (E := EE) p81 rfl (walk81 h.1.1 h.1.2 h.2)
  · exact h.elim
theorem g78 : Abs.Good EE [(78, SRo), (81, SRl), (72, SFi), (76, SEn), (71, SSt), (11, SCk), (36, SNo), (9, SMy)] := g81.cons det_SRo fun vs G Q h => by
  unfold SRo at h; split at h
  · exact g81.ret (E := EE) p78 rfl (walk78 rfl h.1.1 h.1.2 h.2)
  · exact h.elim
theorem g77 : Abs.Good EE [(77, SSc), (78, SRo), (81, SRl), (72, SFi), (76, SEn), (71, SSt), (11, SCk), (36, SNo), (9, SMy)] := g78.cons det_SSc fun vs G Q h => by
  unfold SSc at h; split at h
  · exact g78.ret (E := EE) p77 rfl (walk77 rfl h.1.1 h.1.2 h.2)
  · exact h.elim
theorem g73 : Abs.Good EE [(73, STu K256), (77, SSc), (78, SRo), (81, SRl), (72, SFi), (76, SEn), (71, SSt), (11, SCk), (36, SNo), (9, SMy)] := g77.cons det_STu_K256 fun vs G Q h => by
  unfold STu at h; split at h
  · exact g77.ret (E := EE) p73 rfl (walk73 rfl rfl rfl h.1.1.1 h.1.1.2 h.1.2.1 h.1.2.2 h.2)
  · exact h.elim
theorem g64 : Abs.Good EE [(64, SOf K256), (73, STu K256), (77, SSc), (78, SRo), (81, SRl), (72, SFi), (76, SEn), (71, SSt), (11, SCk), (36, SNo), (9, SMy)] := g73.cons det_SOf_K256 fun vs G Q h => by
  unfold SOf at h; split at h
  · obtain ⟨b, ⟨hx, hxl, hby, hb⟩, h⟩ := h; exact g73.ret (E := EE) p64 rfl (walk64 rfl rfl rfl hx hxl hby hb h)
  · exact h.elim
theorem g54 : Abs.Good EE [(54, SKe K256), (64, SOf K256), (73, STu K256), (77, SSc), (78, SRo), (81, SRl), (72, SFi), (76, SEn), (71, SSt), (11, SCk), (36, SNo), (9, SMy)] := g64.cons det_SKe_K256 fun vs G Q h => by
  unfold SKe at h; split at h
  · exact g64.ret (E := EE) p54 rfl (walk54 rfl rfl h)
  · exact h.elim
theorem g67 : Abs.Good EE [(67, SGr), (54, SKe K256), (64, SOf K256), (73, STu K256), (77, SSc), (78, SRo), (81, SRl), (72, SFi), (76, SEn), (71, SSt), (11, SCk), (36, SNo), (9, SMy)] := g54.cons det_SGr fun vs G Q h => by
  unfold SGr at h; split at h
  · exact g54.ret (E := EE) p67 rfl (walk67 h.1 h.2)
  · exact h.elim
theorem g56 : Abs.Good EE [(56, SCc), (67, SGr), (54, SKe K256), (64, SOf K256), (73, STu K256), (77, SSc), (78, SRo), (81, SRl), (72, SFi), (76, SEn), (71, SSt), (11, SCk), (36, SNo), (9, SMy)] := g67.cons det_SCc fun vs G Q h => by
  unfold SCc at h; split at h
  · obtain ⟨b, ⟨hc, hne, hl, hpl⟩, h⟩ := h; exact g67.ret (E := EE) p56 rfl (walk56 rfl hc hne hl hpl h)
  · exact h.elim
theorem g65 : Abs.Good EE [(65, SBl K256), (56, SCc), (67, SGr), (54, SKe K256), (64, SOf K256), (73, STu K256), (77, SSc), (78, SRo), (81, SRl), (72, SFi), (76, SEn), (71, SSt), (11, SCk), (36, SNo), (9, SMy)] := g56.cons det_SBl_K256 fun vs G Q h => by
  unfold SBl at h; split at h
  · obtain ⟨b, ⟨hx, hby, hb⟩, h⟩ := h; exact g56.ret (E := EE) p65 rfl (walk65 rfl hx hby hb h)
  · exact h.elim
theorem g66 : Abs.Good EE [(66, STd), (65, SBl K256), (56, SCc), (67, SGr), (54, SKe K256), (64, SOf K256), (73, STu K256), (77, SSc), (78, SRo), (81, SRl), (72, SFi), (76, SEn), (71, SSt), (11, SCk), (36, SNo), (9, SMy)] := g65.cons det_STd fun vs G Q h => by
  unfold STd at h; split at h
  · exact g65.ret (E := EE) p66 rfl (walk66 h.1 h.2)
  · exact h.elim
theorem g55 : Abs.Good EE [(55, SMa K256), (66, STd), (65, SBl K256), (56, SCc), (67, SGr), (54, SKe K256), (64, SOf K256), (73, STu K256), (77, SSc), (78, SRo), (81, SRl), (72, SFi), (76, SEn), (71, SSt), (11, SCk), (36, SNo), (9, SMy)] := g66.cons det_SMa_K256 fun vs G Q h => by
  unfold SMa at h; split at h
  · obtain ⟨b, c, r, ⟨h1, h2, h3, h4, h5, h6, h7, h8⟩, h⟩ := h; exact g66.ret (E := EE) p55 rfl (walk55 rfl rfl rfl rfl h1 h2 h3 h4 h5 h6 h7 h8 h)
  · exact h.elim
theorem g34 : Abs.Good EE [(34, STa K256), (55, SMa K256), (66, STd), (65, SBl K256), (56, SCc), (67, SGr), (54, SKe K256), (64, SOf K256), (73, STu K256), (77, SSc), (78, SRo), (81, SRl), (72, SFi), (76, SEn), (71, SSt), (11, SCk), (36, SNo), (9, SMy)] := g55.cons det_STa_K256 fun vs G Q h => by
  unfold STa at h; split at h
  · obtain ⟨c, r, ⟨h1, h2, h3, h4, h5, h6⟩, h⟩ := h; exact g55.ret (E := EE) p34 rfl (walk34 rfl rfl rfl rfl h1 h2 h3 h4 h5 h6 h)
  · exact h.elim
theorem g50 : Abs.Good EE [(50, SCl), (34, STa K256), (55, SMa K256), (66, STd), (65, SBl K256), (56, SCc), (67, SGr), (54, SKe K256), (64, SOf K256), (73, STu K256), (77, SSc), (78, SRo), (81, SRl), (72, SFi), (76, SEn), (71, SSt), (11, SCk), (36, SNo), (9, SMy)] := g34.cons det_SCl fun vs G Q h => by
  unfold SCl at h; split at h
  · obtain ⟨b, ⟨hx, hb⟩, h⟩ := h; exact Ret.res .u8 (Ret.args (vs' := [.sli .u8 b]) rfl (wk_1 (byV_wk hx)) (g34.ret (E := EE) p50 rfl (walk50 hb h)))
  · exact h.elim
theorem g46 : Abs.Good EE [(46, SHa), (50, SCl), (34, STa K256), (55, SMa K256), (66, STd), (65, SBl K256), (56, SCc), (67, SGr), (54, SKe K256), (64, SOf K256), (73, STu K256), (77, SSc), (78, SRo), (81, SRl), (72, SFi), (76, SEn), (71, SSt), (11, SCk), (36, SNo), (9, SMy)] := g50.cons det_SHa fun vs G Q h => by
  unfold SHa at h; split at h
  · obtain ⟨b, ⟨hx, hb, hl⟩, h⟩ := h; exact Ret.args (vs' := [.sli .u8 b, _]) rfl (wk_1 (byV_wk hx)) (g50.ret (E := EE) p46 rfl (walk46 rfl hb hl h))
  · exact h.elim
theorem g52 : Abs.Good EE [(52, SNu), (46, SHa), (50, SCl), (34, STa K256), (55, SMa K256), (66, STd), (65, SBl K256), (56, SCc), (67, SGr), (54, SKe K256), (64, SOf K256), (73, STu K256), (77, SSc), (78, SRo), (81, SRl), (72, SFi), (76, SEn), (71, SSt), (11, SCk), (36, SNo), (9, SMy)] := g46.cons det_SNu fun vs G Q h => by
  unfold SNu at h; split at h
  · obtain ⟨b, ⟨hx, hb, hn⟩, h⟩ := h; exact Ret.args (vs' := [.sli .u8 b, _]) rfl (wk_1 (byV_wk hx)) (g46.ret (E := EE) p52 rfl (walk52 rfl hb hn h))
  · exact h.elim
theorem g35 : Abs.Good EE [(35, STg), (52, SNu), (46, SHa), (50, SCl), (34, STa K256), (55, SMa K256), (66, STd), (65, SBl K256), (56, SCc), (67, SGr), (54, SKe K256), (64, SOf K256), (73, STu K256), (77, SSc), (78, SRo), (81, SRl), (72, SFi), (76, SEn), (71, SSt), (11, SCk), (36, SNo), (9, SMy)] := g52.cons det_STg fun vs G Q h => by
  unfold STg at h; split at h
  · obtain ⟨b, ⟨hx, hb, hw, hm⟩, h⟩ := h; exact Ret.args (vs' := [.sli .u8 b, _]) rfl (wk_1 (byV_wk hx)) (g52.ret (E := EE) p35 rfl (walk35 rfl rfl hb hw hm h))
  · exact h.elim
theorem g10 : Abs.Good EE [(10, SSi K256), (35, STg), (52, SNu), (46, SHa), (50, SCl), (34, STa K256), (55, SMa K256), (66, STd), (65, SBl K256), (56, SCc), (67, SGr), (54, SKe K256), (64, SOf K256), (73, STu K256), (77, SSc), (78, SRo), (81, SRl), (72, SFi), (76, SEn), (71, SSt), (11, SCk), (36, SNo), (9, SMy)] := g35.cons det_SSi_K256 fun vs G Q h => by
  unfold SSi at h; split at h
  · exact g35.ret (E := EE) p10 rfl (walk10 rfl rfl rfl h.1 h.2)
  · exact h.elim
theorem g57 : Abs.Good EE [(57, SSa), (10, SSi K256), (35, STg), (52, SNu), (46, SHa), (50, SCl), (34, STa K256), (55, SMa K256), (66, STd), (65, SBl K256), (56, SCc), (67, SGr), (54, SKe K256), (64, SOf K256), (73, STu K256), (77, SSc), (78, SRo), (81, SRl), (72, SFi), (76, SEn), (71, SSt), (11, SCk), (36, SNo), (9, SMy)] := g10.cons det_SSa fun vs G Q h => by
  unfold SSa at h; split at h
  · exact g10.ret (E := EE) p57 rfl (walk57 h.1.1.1 h.1.2.1 h.1.1.2 h.1.2.2 h.2)
  · exact h.elim
theorem g37 : Abs.Good EE [(37, SCh K256), (57, SSa), (10, SSi K256), (35, STg), (52, SNu), (46, SHa), (50, SCl), (34, STa K256), (55, SMa K256), (66, STd), (65, SBl K256), (56, SCc), (67, SGr), (54, SKe K256), (64, SOf K256), (73, STu K256), (77, SSc), (78, SRo), (81, SRl), (72, SFi), (76, SEn), (71, SSt), (11, SCk), (36, SNo), (9, SMy)] := g57.cons det_SCh_K256 fun vs G Q h => by
  unfold SCh at h; split at h
  · obtain ⟨c, r, ⟨⟨h1, h2, h3⟩, h4, h5, h6, h7, h8⟩, h⟩ := h; exact g57.ret (E := EE) p37 rfl (walk37 rfl rfl rfl h1 ⟨h2, h3⟩ h4 h5 h6 h7 h8 h)
  · exact h.elim
theorem g12 : Abs.Good EE [(12, SRi K256), (37, SCh K256), (57, SSa), (10, SSi K256), (35, STg), (52, SNu), (46, SHa), (50, SCl), (34, STa K256), (55, SMa K256), (66, STd), (65, SBl K256), (56, SCc), (67, SGr), (54, SKe K256), (64, SOf K256), (73, STu K256), (77, SSc), (78, SRo), (81, SRl), (72, SFi), (76, SEn), (71, SSt), (11, SCk), (36, SNo), (9, SMy)] := g37.cons det_SRi_K256 fun vs G Q h => by
  unfold SRi at h; split at h
  · exact g37.ret (E := EE) p12 rfl (walk12 rfl rfl rfl h.1 h.2)
  · exact h.elim
theorem g14 : Abs.Good EE [(14, SAl), (12, SRi K256), (37, SCh K256), (57, SSa), (10, SSi K256), (35, STg), (52, SNu), (46, SHa), (50, SCl), (34, STa K256), (55, SMa K256), (66, STd), (65, SBl K256), (56, SCc), (67, SGr), (54, SKe K256), (64, SOf K256), (73, STu K256), (77, SSc), (78, SRo), (81, SRl), (72, SFi), (76, SEn), (71, SSt), (11, SCk), (36, SNo), (9, SMy)] := g12.cons det_SAl fun vs G Q h => by
  unfold SAl at h; split at h
  · exact g12.ret (E := EE) p14 rfl (walk14 h)
  · exact h.elim
theorem g16 : Abs.Good EE [(16, SAw), (14, SAl), (12, SRi K256), (37, SCh K256), (57, SSa), (10, SSi K256), (35, STg), (52, SNu), (46, SHa), (50, SCl), (34, STa K256), (55, SMa K256), (66, STd), (65, SBl K256), (56, SCc), (67, SGr), (54, SKe K256), (64, SOf K256), (73, STu K256), (77, SSc), (78, SRo), (81, SRl), (72, SFi), (76, SEn), (71, SSt), (11, SCk), (36, SNo), (9, SMy)] := g14.cons det_SAw fun vs G Q h => by
  unfold SAw at h; split at h
  · exact g14.ret (E := EE) p16 rfl (walk16 rfl rfl rfl h)
  · exact h.elim
theorem g26 : Abs.Good EE [(26, SSm), (16, SAw), (14, SAl), (12, SRi K256), (37, SCh K256), (57, SSa), (10, SSi K256), (35, STg), (52, SNu), (46, SHa), (50, SCl), (34, STa K256), (55, SMa K256), (66, STd), (65, SBl K256), (56, SCc), (67, SGr), (54, SKe K256), (64, SOf K256), (73, STu K256), (77, SSc), (78, SRo), (81, SRl), (72, SFi), (76, SEn), (71, SSt), (11, SCk), (36, SNo), (9, SMy)] := g16.cons det_SSm fun vs G Q h => by
  unfold SSm at h; split at h
  · obtain ⟨a, b, ⟨hx, hy, ha, hb⟩, h⟩ := h; exact Ret.args (vs' := [.sli .u8 a, .sli .u8 b]) rfl (wk_11 (byV_wk hx) (byV_wk hy)) (g16.ret (E := EE) p26 rfl (walk26 ha hb h))
  · exact h.elim
theorem g28 : Abs.Good EE [(28, SRd), (26, SSm), (16, SAw), (14, SAl), (12, SRi K256), (37, SCh K256), (57, SSa), (10, SSi K256), (35, STg), (52, SNu), (46, SHa), (50, SCl), (34, STa K256), (55, SMa K256), (66, STd), (65, SBl K256), (56, SCc), (67, SGr), (54, SKe K256), (64, SOf K256), (73, STu K256), (77, SSc), (78, SRo), (81, SRl), (72, SFi), (76, SEn), (71, SSt), (11, SCk), (36, SNo), (9, SMy)] := g26.cons det_SRd fun vs G Q h => by
  unfold SRd at h; split at h
  · obtain ⟨b, ⟨hx, hl⟩, h⟩ := h; exact Ret.args (vs' := [.sli .u8 b]) rfl (wk_1 (byV_wk hx)) (g26.ret (E := EE) p28 rfl (walk28 rfl hl h))
  · exact h.elim
theorem g58 : Abs.Good EE [(58, SOff), (28, SRd), (26, SSm), (16, SAw), (14, SAl), (12, SRi K256), (37, SCh K256), (57, SSa), (10, SSi K256), (35, STg), (52, SNu), (46, SHa), (50, SCl), (34, STa K256), (55, SMa K256), (66, STd), (65, SBl K256), (56, SCc), (67, SGr), (54, SKe K256), (64, SOf K256), (73, STu K256), (77, SSc), (78, SRo), (81, SRl), (72, SFi), (76, SEn), (71, SSt), (11, SCk), (36, SNo), (9, SMy)] := g28.cons det_SOff fun vs G Q h => by
  unfold SOff at h; split at h
  · obtain ⟨b, w, hG, h⟩ := h; exact g28.ret (E := EE) p58 rfl (walk58 hG h)
  · exact h.elim
theorem g68 : Abs.Good EE [(68, SNb), (58, SOff), (28, SRd), (26, SSm), (16, SAw), (14, SAl), (12, SRi K256), (37, SCh K256), (57, SSa), (10, SSi K256), (35, STg), (52, SNu), (46, SHa), (50, SCl), (34, STa K256), (55, SMa K256), (66, STd), (65, SBl K256), (56, SCc), (67, SGr), (54, SKe K256), (64, SOf K256), (73, STu K256), (77, SSc), (78, SRo), (81, SRl), (72, SFi), (76, SEn), (71, SSt), (11, SCk), (36, SNo), (9, SMy)] := g58.cons det_SNb fun vs G Q h => by
  unfold SNb at h; split at h
  · exact g58.ret (E := EE) p68 rfl (walk68 h.1.1 h.1.2 h.2)
  · exact h.elim
theorem g59 : Abs.Good EE [(59, SNm), (68, SNb), (58, SOff), (28, SRd), (26, SSm), (16, SAw), (14, SAl), (12, SRi K256), (37, SCh K256), (57, SSa), (10, SSi K256), (35, STg), (52, SNu), (46, SHa), (50, SCl), (34, STa K256), (55, SMa K256), (66, STd), (65, SBl K256), (56, SCc), (67, SGr), (54, SKe K256), (64, SOf K256), (73, STu K256), (77, SSc), (78, SRo), (81, SRl), (72, SFi), (76, SEn), (71, SSt), (11, SCk), (36, SNo), (9, SMy)] := g68.cons det_SNm fun vs G Q h => by
  unfold SNm at h; split at h
  · obtain ⟨b, w, ⟨hG, hb, hl⟩, h⟩ := h; exact g68.ret (E := EE) p59 rfl (walk59 rfl rfl hG hb hl h)
  · exact h.elim
theorem g39 : Abs.Good EE [(39, SUp), (59, SNm), (68, SNb), (58, SOff), (28, SRd), (26, SSm), (16, SAw), (14, SAl), (12, SRi K256), (37, SCh K256), (57, SSa), (10, SSi K256), (35, STg), (52, SNu), (46, SHa), (50, SCl), (34, STa K256), (55, SMa K256), (66, STd), (65, SBl K256), (56, SCc), (67, SGr), (54, SKe K256), (64, SOf K256), (73, STu K256), (77, SSc), (78, SRo), (81, SRl), (72, SFi), (76, SEn), (71, SSt), (11, SCk), (36, SNo), (9, SMy)] := g59.cons det_SUp fun vs G Q h => by
  unfold SUp at h; split at h
  · obtain ⟨b, w, n, r, w2, ⟨hG, hb, hl, ht, e⟩, h⟩ := h; exact g59.ret (E := EE) p39 rfl (walk39 rfl rfl hG hb hl ht (by rw [e]; exact h))
  · exact h.elim
theorem g40 : Abs.Good EE [(40, SHs), (39, SUp), (59, SNm), (68, SNb), (58, SOff), (28, SRd), (26, SSm), (16, SAw), (14, SAl), (12, SRi K256), (37, SCh K256), (57, SSa), (10, SSi K256), (35, STg), (52, SNu), (46, SHa), (50, SCl), (34, STa K256), (55, SMa K256), (66, STd), (65, SBl K256), (56, SCc), (67, SGr), (54, SKe K256), (64, SOf K256), (73, STu K256), (77, SSc), (78, SRo), (81, SRl), (72, SFi), (76, SEn), (71, SSt), (11, SCk), (36, SNo), (9, SMy)] := g39.cons det_SHs fun vs G Q h => by
  unfold SHs at h; split at h
  · obtain ⟨b, w, hh, r, w2, ⟨hG, hb, hl, e⟩, h⟩ := h; exact g39.ret (E := EE) p40 rfl (walk40 rfl hG hb hl (by rw [e]; exact h))
  · exact h.elim
theorem g51 : Abs.Good EE [(51, SOff), (40, SHs), (39, SUp), (59, SNm), (68, SNb), (58, SOff), (28, SRd), (26, SSm), (16, SAw), (14, SAl), (12, SRi K256), (37, SCh K256), (57, SSa), (10, SSi K256), (35, STg), (52, SNu), (46, SHa), (50, SCl), (34, STa K256), (55, SMa K256), (66, STd), (65, SBl K256), (56, SCc), (67, SGr), (54, SKe K256), (64, SOf K256), (73, STu K256), (77, SSc), (78, SRo), (81, SRl), (72, SFi), (76, SEn), (71, SSt), (11, SCk), (36, SNo), (9, SMy)] := g40.cons det_SOff fun vs G Q h => by
  unfold SOff at h; split at h
  · obtain ⟨b, w, hG, h⟩ := h; exact g40.ret (E := EE) p51 rfl (walk51 rfl hG h)
  · exact h.elim
theorem g29 : Abs.Good EE [(29, SAr), (51, SOff), (40, SHs), (39, SUp), (59, SNm), (68, SNb), (58, SOff), (28, SRd), (26, SSm), (16, SAw), (14, SAl), (12, SRi K256), (37, SCh K256), (57, SSa), (10, SSi K256), (35, STg), (52, SNu), (46, SHa), (50, SCl), (34, STa K256), (55, SMa K256), (66, STd), (65, SBl K256), (56, SCc), (67, SGr), (54, SKe K256), (64, SOf K256), (73, STu K256), (77, SSc), (78, SRo), (81, SRl), (72, SFi), (76, SEn), (71, SSt), (11, SCk), (36, SNo), (9, SMy)] := g51.cons det_SAr fun vs G Q h => by
  unfold SAr at h; split at h
  · obtain ⟨b, a, r, w, ⟨hG, hb, hl, e⟩, h⟩ := h; exact g51.ret (E := EE) p29 rfl (walk29 rfl rfl rfl rfl hG hb hl e h)
  · exact h.elim
theorem g31 : Abs.Good EE [(31, SLf), (29, SAr), (51, SOff), (40, SHs), (39, SUp), (59, SNm), (68, SNb), (58, SOff), (28, SRd), (26, SSm), (16, SAw), (14, SAl), (12, SRi K256), (37, SCh K256), (57, SSa), (10, SSi K256), (35, STg), (52, SNu), (46, SHa), (50, SCl), (34, STa K256), (55, SMa K256), (66, STd), (65, SBl K256), (56, SCc), (67, SGr), (54, SKe K256), (64, SOf K256), (73, STu K256), (77, SSc), (78, SRo), (81, SRl), (72, SFi), (76, SEn), (71, SSt), (11, SCk), (36, SNo), (9, SMy)] := g29.cons det_SLf fun vs G Q h => by
  unfold SLf at h; split at h
  · obtain ⟨b, w, hG, h⟩ := h; exact g29.ret (E := EE) p31 rfl (walk31 hG h)
  · exact h.elim
theorem g32 : Abs.Good EE [(32, SAp), (31, SLf), (29, SAr), (51, SOff), (40, SHs), (39, SUp), (59, SNm), (68, SNb), (58, SOff), (28, SRd), (26, SSm), (16, SAw), (14, SAl), (12, SRi K256), (37, SCh K256), (57, SSa), (10, SSi K256), (35, STg), (52, SNu), (46, SHa), (50, SCl), (34, STa K256), (55, SMa K256), (66, STd), (65, SBl K256), (56, SCc), (67, SGr), (54, SKe K256), (64, SOf K256), (73, STu K256), (77, SSc), (78, SRo), (81, SRl), (72, SFi), (76, SEn), (71, SSt), (11, SCk), (36, SNo), (9, SMy)] := g31.cons det_SAp fun vs G Q h => by
  unfold SAp at h; split at h
  · obtain ⟨b, ⟨hx, hb, hw⟩, h⟩ := h; exact Ret.args (vs' := [.sli .u8 b, _]) rfl (wk_1 (byV_wk hx)) (g31.ret (E := EE) p32 rfl (walk32 rfl rfl rfl rfl rfl hb hw h))
  · exact h.elim
theorem g48 : Abs.Good EE [(48, SBy), (32, SAp), (31, SLf), (29, SAr), (51, SOff), (40, SHs), (39, SUp), (59, SNm), (68, SNb), (58, SOff), (28, SRd), (26, SSm), (16, SAw), (14, SAl), (12, SRi K256), (37, SCh K256), (57, SSa), (10, SSi K256), (35, STg), (52, SNu), (46, SHa), (50, SCl), (34, STa K256), (55, SMa K256), (66, STd), (65, SBl K256), (56, SCc), (67, SGr), (54, SKe K256), (64, SOf K256), (73, STu K256), (77, SSc), (78, SRo), (81, SRl), (72, SFi), (76, SEn), (71, SSt), (11, SCk), (36, SNo), (9, SMy)] := g32.cons det_SBy fun vs G Q h => by
  unfold SBy at h; split at h
  · exact g32.ret (E := EE) p48 rfl (walk48 h.1 h.2)
  · exact h.elim
theorem ind61 : ∀ (k : Nat) vs G Q, SRn k vs G Q → Ret EE 61 vs G Q := by
  intro k
  induction k with
  | zero =>
    intro vs G Q h
    unfold SRn at h; split at h
    · exact absurd h.1.2.2.1 (by decide)
    · exact h.elim
  | succ k ih =>
    intro vs G Q h
    have hg := g48.cons (g := 61) (s := SRn k) (by
      intro vs G Q h
      unfold SRn at h ⊢
      split at h
      · exact ⟨_, h.2.2, fun Q' h' => ⟨h.1, h'⟩⟩
      · exact h.elim) ih
    unfold SRn at h; split at h
    · rename_i n
      obtain ⟨⟨h1, h2, h3, h4⟩, h⟩ := h
      obtain ⟨m, rfl⟩ : ∃ m : Nat, n = m := ⟨n.toNat, by omega⟩
      rw [Int.toNat_natCast] at h h2
      exact hg.ret (E := EE) p61 rfl (walk61 rfl h2 (by omega) h)
    · exact h.elim
theorem g61 : Abs.Good EE [(61, SRn 10), (48, SBy), (32, SAp), (31, SLf), (29, SAr), (51, SOff), (40, SHs), (39, SUp), (59, SNm), (68, SNb), (58, SOff), (28, SRd), (26, SSm), (16, SAw), (14, SAl), (12, SRi K256), (37, SCh K256), (57, SSa), (10, SSi K256), (35, STg), (52, SNu), (46, SHa), (50, SCl), (34, STa K256), (55, SMa K256), (66, STd), (65, SBl K256), (56, SCc), (67, SGr), (54, SKe K256), (64, SOf K256), (73, STu K256), (77, SSc), (78, SRo), (81, SRl), (72, SFi), (76, SEn), (71, SSt), (11, SCk), (36, SNo), (9, SMy)] := g48.cons det_SRn_10 fun vs G Q h => ind61 _ vs G Q h
theorem g53 : Abs.Good EE [(53, ST8), (61, SRn 10), (48, SBy), (32, SAp), (31, SLf), (29, SAr), (51, SOff), (40, SHs), (39, SUp), (59, SNm), (68, SNb), (58, SOff), (28, SRd), (26, SSm), (16, SAw), (14, SAl), (12, SRi K256), (37, SCh K256), (57, SSa), (10, SSi K256), (35, STg), (52, SNu), (46, SHa), (50, SCl), (34, STa K256), (55, SMa K256), (66, STd), (65, SBl K256), (56, SCc), (67, SGr), (54, SKe K256), (64, SOf K256), (73, STu K256), (77, SSc), (78, SRo), (81, SRl), (72, SFi), (76, SEn), (71, SSt), (11, SCk), (36, SNo), (9, SMy)] := g61.cons det_ST8 fun vs G Q h => by
  unfold ST8 at h; split at h
  · exact g61.ret (E := EE) p53 rfl (walk53 rfl rfl h.1.1 h.1.2 h.2)
  · exact h.elim
theorem g33 : Abs.Good EE [(33, SAb), (53, ST8), (61, SRn 10), (48, SBy), (32, SAp), (31, SLf), (29, SAr), (51, SOff), (40, SHs), (39, SUp), (59, SNm), (68, SNb), (58, SOff), (28, SRd), (26, SSm), (16, SAw), (14, SAl), (12, SRi K256), (37, SCh K256), (57, SSa), (10, SSi K256), (35, STg), (52, SNu), (46, SHa), (50, SCl), (34, STa K256), (55, SMa K256), (66, STd), (65, SBl K256), (56, SCc), (67, SGr), (54, SKe K256), (64, SOf K256), (73, STu K256), (77, SSc), (78, SRo), (81, SRl), (72, SFi), (76, SEn), (71, SSt), (11, SCk), (36, SNo), (9, SMy)] := g53.cons det_SAb fun vs G Q h => by
  unfold SAb at h; split at h
  · exact g53.ret (E := EE) p33 rfl (walk33 rfl rfl rfl h.1.1 h.1.2 h.2)
  · exact h.elim
theorem law8 : ∀ vs : List V, TyAll Tryd.prog 12 Tryd.f8.params.toList vs → Ret EE 8 vs [] (fun r _ => r = .v (.bool true)) := by
  intro vs h
  have hk8 : intK Tryd.prog 5 = some .u8 := by kernel_rfl
  simp only [Tryd.params8, TyAll, TyV, TyL, Tryd.underlying25, Tryd.underlying3, Tryd.underlying23, Tryd.underlying34, hk8] at h
  obtain ⟨x, l, rfl, ⟨_, rfl, _, _, rfl, ⟨a1, rfl, ia1⟩, _, _, rfl, ⟨a2, rfl, ia2⟩, _, _, rfl, ⟨a3, rfl, ia3⟩, _, _, rfl, ⟨a4, rfl, ia4⟩, _, _, rfl, ⟨a5, rfl, la5, ia5⟩, _, _, rfl, ⟨a6, rfl, ia6⟩, _, _, rfl, ⟨a7, rfl, la7, ia7⟩, _, _, rfl, ⟨a8, rfl, la8, ia8⟩, rfl⟩, _, _, rfl, ⟨b, rfl, ib, lb⟩, _, _, rfl, ⟨c, rfl, ic, lc⟩, rfl⟩ := h
  exact g33.ret (E := EE) p8 rfl (walk8 rfl rfl rfl rfl rfl rfl rfl rfl ⟨wf64 ia1, wf64 ia2, wf64 ia3, wf64 ia4, wf64 ia6, ⟨fun x hx => wf8 (ia5 x hx), la5⟩, ⟨fun x hx => wf8 (ia7 x hx), la7⟩, ⟨fun x hx => wf8 (ia8 x hx), la8⟩⟩ (fun x hx => wf8 (ib x hx)) (fun x hx => wf8 (ic x hx)) (fun _ => rfl))
theorem tabOk8 : ∀ g x, Abs.look ([(0, .arr .u32 64 K256)] : List (Nat × V)) g = some x → ∃ nm t e k n xs, (nm, DataW.agg (xs.map fun x => .lit (.int k x))) ∈ Rows.attPutsRow.laid ∧ Tryd.prog.globalNamed nm = some g ∧ (Tryd.prog.globals[g]?).map (·.type) = some t ∧ Tryd.prog.underlying t = some (.array n e) ∧ Tryd.prog.underlying e = some (.int k) ∧ Tryd.prog.cellsOf e = 1 ∧ Tryd.prog.cellsOf t = n ∧ x = .arr k n xs := by
  intro g x h
  by_cases e0 : g = 0
  · subst e0
    simp only [look_cons, if_pos, reduceIte, Nat.reduceEqDiff] at h
    cases h
    exact ⟨"tithing/sha.constants", 108, 103, .u32, 64, K256, by simp only [Rows.attPutsRow, List.mem_cons]; first | (left; rfl) | (right; left; rfl), by kernel_rfl, by kernel_rfl, by kernel_rfl, by kernel_rfl, by kernel_rfl, by kernel_rfl, rfl⟩
  simp only [look_cons, e0, if_false, look] at h
  cases h
theorem met8 (os : Os) (args : Array Value) : laidMetH Tryd.prog Rows.attPutsRow.laid ((World.doorLaid Tryd.prog 400 os).forCall (fun _ _ => 0) ⟨#[], args, []⟩).memory :=
  laidMetH_of_parts3 (fuel := 8) (laidMet_of_run' 8 (by kernel_rfl) (by kernel_rfl)) (by kernel_rfl) (by kernel_rfl)
set_option maxRecDepth 100000 in
theorem lifted8 (os : Os) (started : os.Started) (H : Type) (enc : TypeId × Value → H) :
    ReturnsInHanded {} Tryd.checked os 8 .any (fun w args => (Rows.attPutsSpec.pre enc Tryd.prog Tryd.f8 [] false w args ∧ laidMetH Tryd.prog Rows.attPutsRow.laid w) ∧ sizedMet enc Tryd.prog Tryd.f8 (OpenSpec.ofChange Rows.attPutsSpec) false w args) (Rows.attPutsSpec.post enc Tryd.prog Tryd.f8 false true false false) :=
  law_laid (C := Tryd.checked) (fn := Tryd.f8) (n := 12) (tab := [(0, .arr .u32 64 K256)]) (tb := 4) own started (by kernel_rfl) Tryd.func8
    (ChangeSpec.witness_shaped (enc := enc) (C := Tryd.checked) (os := os) (X := fun w _ => laidMetH Tryd.prog Rows.attPutsRow.laid w) false (World.doorLaid Tryd.prog 400 os) #[.agg #[.int .i64 0, .int .i64 0, .int .i64 0, .int .i64 0, .int .u8 0, .int .u8 0, .int .u8 0, .int .u8 0, .int .u8 0, .int .u8 0, .int .u8 0, .int .u8 0, .int .u8 0, .int .u8 0, .int .u8 0, .int .u8 0, .int .u8 0, .int .u8 0, .int .u8 0, .int .u8 0, .int .u8 0, .int .u8 0, .int .u8 0, .int .u8 0, .int .u8 0, .int .u8 0, .int .u8 0, .int .u8 0, .int .u8 0, .int .u8 0, .int .u8 0, .int .u8 0, .int .u8 0, .int .u8 0, .int .u8 0, .int .u8 0, .int .i64 0, .int .u8 0, .int .u8 0, .int .u8 0, .int .u8 0, .int .u8 0, .int .u8 0, .int .u8 0, .int .u8 0, .int .u8 0, .int .u8 0, .int .u8 0, .int .u8 0, .int .u8 0, .int .u8 0, .int .u8 0, .int .u8 0, .int .u8 0, .int .u8 0, .int .u8 0, .int .u8 0, .int .u8 0, .int .u8 0, .int .u8 0, .int .u8 0, .int .u8 0, .int .u8 0, .int .u8 0, .int .u8 0, .int .u8 0, .int .u8 0, .int .u8 0, .int .u8 0, .int .u8 0, .int .u8 0, .int .u8 0, .int .u8 0, .int .u8 0, .int .u8 0, .int .u8 0, .int .u8 0, .int .u8 0, .int .u8 0, .int .u8 0, .int .u8 0, .int .u8 0, .int .u8 0, .int .u8 0, .int .u8 0, .int .u8 0, .int .u8 0, .int .u8 0, .int .u8 0, .int .u8 0, .int .u8 0, .int .u8 0, .int .u8 0, .int .u8 0, .int .u8 0, .int .u8 0, .int .u8 0, .int .u8 0, .int .u8 0, .int .u8 0, .int .u8 0], .slice none 0 0, .slice none 0 0] 8 rfl (World.shaped_of_RefB (by kernel_rfl) (by kernel_rfl)) (by kernel_rfl) (by kernel_rfl) (by kernel_rfl) (met8 os _))
    laidOut rfl rfl Tryd.underlying4 (fun H ds h => by
      rw [Tryd.params8] at h
      match ds, h with
      | [d1, d2, d3], _ => rfl)
    (fun t ht => by
      rw [Tryd.params8] at ht; simp at ht; rcases ht with rfl | rfl | rfl
      all_goals exact ⟨by kernel_rfl, of_decide_eq_true (by kernel_rfl)⟩)
    (fun t ht => by
      rw [Tryd.params8] at ht; simp at ht; rcases ht with rfl | rfl | rfl
      all_goals kernel_rfl)
    (fun W hL => tabs_of_laid (by kernel_rfl) hL (tabOk8)) law8
theorem over8 : Rows.attPutsRow.holds Tryd.pinned (OpenSpec.ofChange Rows.attPutsSpec) :=
  OpenClaim.holds_of_wide 8 Tryd.f8 rfl rfl rfl rfl rfl rfl rfl ⟨rfl, rfl, rfl, rfl, rfl⟩ rfl rfl rfl rfl rfl (by kernel_rfl) Tryd.func8 (by kernel_rfl)
    (of_decide_eq_true (by kernel_rfl)) (by unfold Func.isWrapper; first | (rw [if_pos (by decide +kernel)]; kernel_rfl) | (rw [if_neg (by decide +kernel)]; exact ⟨rfl, rfl⟩))
    (fun os started H enc _ => lifted8 os started H enc)
theorem attPuts_holds : Rows.AttPutsCardSaid :=
  Claim7.holds_tied_plain_at .later [] [.data] true (true, "7fcc048a7e2da9567ba7f78ecbc16aececed3802d0b0264e315d33bc8d2dbdc5") false
    over8 (fun _ h => by cases h) (by kernel_rfl) (fun _ h => by cases h) attPuts_row_tie rfl ⟨rfl, rfl⟩ (by kernel_rfl) rfl
    (fun f fn hf hfn => by
      obtain rfl : f = 8 := Option.some.inj ((show Tryd.prog.funcNamed "tithing/tithinglaw08.AttPuts" = some 8 by kernel_rfl).symm.trans hf) |>.symm
      obtain rfl : fn = Tryd.f8 := (Option.some.inj (Tryd.func8.symm.trans hfn)).symm
      exact ⟨by kernel_rfl, fun j t ht => by
        rw [Tryd.params8] at ht
        have hm : t ∈ [25, 34, 34] := by simpa using Array.mem_of_getElem? ht
        have hall : ([25, 34, 34].all fun u => !Tryd.prog.wantsStandIn u) = true := by kernel_rfl
        exact (show Tryd.prog.wantsStandIn t = false by simpa using List.all_eq_true.1 hall t hm)⟩)
    (by kernel_rfl)
#print axioms attPuts_holds
end Go.Proofs.YtpedaeaikbmbnaaDoor.Sha
