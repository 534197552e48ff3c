/- For every input AttSigns returns true and leaves its arguments as they were; no conditions. -/
import Derived.Test.YtpedaeaikbmbnaaDoorAtt3
import Derived.Test.YtpedaeaikbmbnaaDoorSha1
import Derived.Test.YtpedaeaikbmbnaaDoorSha2
import Derived.Test.YtpedaeaikbmbnaaDoorSha3
import Derived.Test.YtpedaeaikbmbnaaDoorSha4
import Derived.Test.YtpedaeaikbmbnaaDoorRows
import Derived.Test.YtpedaeaikbmbnaaDoorCards
import Derived.Test.YtpedaeaikbmbnaaDoorTie
import Derived.OpenShut
import Derived.Below
import Derived.SevenTiedAt
namespace Go.Proofs.YtpedaeaikbmbnaaDoor.Sha
open Go Go.Abs Go.RowKit Go.Abs.Sha
set_option linter.unusedSimpArgs false
set_option linter.unusedVariables false
set_option maxRecDepth 100000
theorem p3 : prepF Tryd.prog 3 7 [] = some pf3 := by kernel_rfl
theorem p9 : prepF Tryd.prog 9 3 [] = some pf9 := by kernel_rfl
theorem p36 : prepF Tryd.prog 36 3 [] = some pf36 := by kernel_rfl
theorem p11 : prepF Tryd.prog 11 4 [] = some pf11 := by kernel_rfl
theorem p71 : prepF Tryd.prog 71 1 [] = some pf71 := by kernel_rfl
theorem p76 : prepF Tryd.prog 76 5 [[0, 3, 4]] = some pf76 := by kernel_rfl
theorem p72 : prepF Tryd.prog 72 4 [] = some pf72 := by kernel_rfl
theorem p81 : prepF Tryd.prog 81 6 [] = some pf81 := by kernel_rfl
theorem p78 : prepF Tryd.prog 78 5 [] = some pf78 := by kernel_rfl
theorem p77 : prepF Tryd.prog 77 23 [[1, 2, 3, 12], [1, 2, 3, 4, 12, 20, 21, 22], [2, 3, 7]] = some pf77 := by kernel_rfl
theorem p73 : prepF Tryd.prog 73 109 [[2, 4, 5, 6, 7, 8, 9, 10, 11, 12, 36, 37], [2, 4, 107, 108]] = some pf73 := by kernel_rfl
theorem p64 : prepF Tryd.prog 64 37 [[2, 3, 11, 12, 13], [2, 6, 7], [2, 8, 35, 36]] = some pf64 := by kernel_rfl
theorem p54 : prepF Tryd.prog 54 3 [] = some pf54 := by kernel_rfl
theorem p67 : prepF Tryd.prog 67 5 [] = some pf67 := by kernel_rfl
theorem p56 : prepF Tryd.prog 56 28 [[0, 3, 9, 10, 11], [6, 25, 26, 27]] = some pf56 := by kernel_rfl
theorem p65 : prepF Tryd.prog 65 5 [] = some pf65 := by kernel_rfl
theorem p66 : prepF Tryd.prog 66 7 [[1, 2, 6]] = some pf66 := by kernel_rfl
theorem p55 : prepF Tryd.prog 55 7 [] = some pf55 := by kernel_rfl
theorem p34 : prepF Tryd.prog 34 8 [] = some pf34 := by kernel_rfl
theorem p50 : prepF Tryd.prog 50 3 [] = some pf50 := by kernel_rfl
theorem p46 : prepF Tryd.prog 46 5 [] = some pf46 := by kernel_rfl
theorem p52 : prepF Tryd.prog 52 6 [[1, 5]] = some pf52 := by kernel_rfl
theorem p35 : prepF Tryd.prog 35 16 [[0, 3, 13, 14, 15]] = some pf35 := by kernel_rfl
theorem p10 : prepF Tryd.prog 10 3 [] = some pf10 := by kernel_rfl
theorem p57 : prepF Tryd.prog 57 10 [[3, 5, 8, 9]] = some pf57 := by kernel_rfl
theorem p37 : prepF Tryd.prog 37 9 [] = some pf37 := by kernel_rfl
theorem p12 : prepF Tryd.prog 12 3 [] = some pf12 := by kernel_rfl
theorem p74 : prepF Tryd.prog 74 5 [[0, 3]] = some pf74 := by kernel_rfl
theorem p79 : prepF Tryd.prog 79 6 [[0, 1, 5]] = some pf79 := by kernel_rfl
theorem p80 : prepF Tryd.prog 80 6 [[0, 1, 5]] = some pf80 := by kernel_rfl
theorem p75 : prepF Tryd.prog 75 18 [[2, 3, 4, 5, 6], [2, 4, 5, 9, 10], [2, 4, 9, 17]] = some pf75 := by kernel_rfl
theorem p69 : prepF Tryd.prog 69 10 [[2, 3, 4, 5], [2, 3, 4, 5, 6, 7], [2, 3, 8, 9]] = some pf69 := by kernel_rfl
theorem p62 : prepF Tryd.prog 62 3 [] = some pf62 := by kernel_rfl
theorem p70 : prepF Tryd.prog 70 7 [[2, 3, 4, 5], [0, 2, 3, 6]] = some pf70 := by kernel_rfl
theorem p63 : prepF Tryd.prog 63 11 [[1, 4, 5, 6, 7, 8], [4, 7, 9, 10]] = some pf63 := by kernel_rfl
theorem p49 : prepF Tryd.prog 49 10 [[1, 2, 6, 7, 8, 9]] = some pf49 := by kernel_rfl
theorem p48 : prepF Tryd.prog 48 5 [[1, 3, 4]] = some pf48 := by kernel_rfl
theorem p61 : prepF Tryd.prog 61 3 [] = some pf61 := by kernel_rfl
theorem p53 : prepF Tryd.prog 53 4 [] = some pf53 := by kernel_rfl
theorem p38 : prepF Tryd.prog 38 3 [] = some pf38 := by kernel_rfl
theorem p13 : prepF Tryd.prog 13 3 [] = some pf13 := by kernel_rfl
theorem p14 : prepF Tryd.prog 14 5 [] = some pf14 := by kernel_rfl
theorem p15 : prepF Tryd.prog 15 5 [] = some pf15 := by kernel_rfl
theorem p16 : prepF Tryd.prog 16 3 [] = some pf16 := by kernel_rfl
theorem p17 : prepF Tryd.prog 17 3 [] = some pf17 := by kernel_rfl
theorem det_SMy : (SMy).Det := by
  intro vs G Q h
  unfold SMy at h ⊢
  split at h
  · first
    | exact ⟨_, _, h, fun Q' h' => h'⟩
    | exact ⟨_, _, h.2, fun Q' h' => ⟨h.1, h'⟩⟩
    | (obtain ⟨b, hp, h⟩ := h; exact ⟨_, _, h, fun Q' h' => ⟨b, hp, h'⟩⟩)
    | (obtain ⟨b, c, hp, h⟩ := h; exact ⟨_, _, h, fun Q' h' => ⟨b, c, hp, h'⟩⟩)
    | (obtain ⟨b, c, d, hp, h⟩ := h; exact ⟨_, _, h, fun Q' h' => ⟨b, c, d, hp, h'⟩⟩)
    | exact detIf2 h | exact detIf h | (obtain ⟨r, G1, h1, h2⟩ := detIf h.2; exact ⟨r, G1, h1, fun Q' h' => ⟨h.1, h2 Q' h'⟩⟩)
  · exact h.elim
theorem det_SNo : (SNo).Det := by
  intro vs G Q h
  unfold SNo at h ⊢
  split at h
  · first
    | exact ⟨_, _, h, fun Q' h' => h'⟩
    | exact ⟨_, _, h.2, fun Q' h' => ⟨h.1, h'⟩⟩
    | (obtain ⟨b, hp, h⟩ := h; exact ⟨_, _, h, fun Q' h' => ⟨b, hp, h'⟩⟩)
    | (obtain ⟨b, c, hp, h⟩ := h; exact ⟨_, _, h, fun Q' h' => ⟨b, c, hp, h'⟩⟩)
    | (obtain ⟨b, c, d, hp, h⟩ := h; exact ⟨_, _, h, fun Q' h' => ⟨b, c, d, hp, h'⟩⟩)
    | exact detIf2 h | exact detIf h | (obtain ⟨r, G1, h1, h2⟩ := detIf h.2; exact ⟨r, G1, h1, fun Q' h' => ⟨h.1, h2 Q' h'⟩⟩)
  · exact h.elim
theorem det_SCk : (SCk).Det := by
  intro vs G Q h
  unfold SCk at h ⊢
  split at h
  · first
    | exact ⟨_, _, h, fun Q' h' => h'⟩
    | exact ⟨_, _, h.2, fun Q' h' => ⟨h.1, h'⟩⟩
    | (obtain ⟨b, hp, h⟩ := h; exact ⟨_, _, h, fun Q' h' => ⟨b, hp, h'⟩⟩)
    | (obtain ⟨b, c, hp, h⟩ := h; exact ⟨_, _, h, fun Q' h' => ⟨b, c, hp, h'⟩⟩)
    | (obtain ⟨b, c, d, hp, h⟩ := h; exact ⟨_, _, h, fun Q' h' => ⟨b, c, d, hp, h'⟩⟩)
    | exact detIf2 h | exact detIf h | (obtain ⟨r, G1, h1, h2⟩ := detIf h.2; exact ⟨r, G1, h1, fun Q' h' => ⟨h.1, h2 Q' h'⟩⟩)
  · exact h.elim
theorem det_SSt : (SSt).Det := by
  intro vs G Q h
  unfold SSt at h ⊢
  split at h
  · first
    | exact ⟨_, _, h, fun Q' h' => h'⟩
    | exact ⟨_, _, h.2, fun Q' h' => ⟨h.1, h'⟩⟩
    | (obtain ⟨b, hp, h⟩ := h; exact ⟨_, _, h, fun Q' h' => ⟨b, hp, h'⟩⟩)
    | (obtain ⟨b, c, hp, h⟩ := h; exact ⟨_, _, h, fun Q' h' => ⟨b, c, hp, h'⟩⟩)
    | (obtain ⟨b, c, d, hp, h⟩ := h; exact ⟨_, _, h, fun Q' h' => ⟨b, c, d, hp, h'⟩⟩)
    | exact detIf2 h | exact detIf h | (obtain ⟨r, G1, h1, h2⟩ := detIf h.2; exact ⟨r, G1, h1, fun Q' h' => ⟨h.1, h2 Q' h'⟩⟩)
  · exact h.elim
theorem det_SEn : (SEn).Det := by
  intro vs G Q h
  unfold SEn at h ⊢
  split at h
  · first
    | exact ⟨_, _, h, fun Q' h' => h'⟩
    | exact ⟨_, _, h.2, fun Q' h' => ⟨h.1, h'⟩⟩
    | (obtain ⟨b, hp, h⟩ := h; exact ⟨_, _, h, fun Q' h' => ⟨b, hp, h'⟩⟩)
    | (obtain ⟨b, c, hp, h⟩ := h; exact ⟨_, _, h, fun Q' h' => ⟨b, c, hp, h'⟩⟩)
    | (obtain ⟨b, c, d, hp, h⟩ := h; exact ⟨_, _, h, fun Q' h' => ⟨b, c, d, hp, h'⟩⟩)
    | exact detIf2 h | exact detIf h | (obtain ⟨r, G1, h1, h2⟩ := detIf h.2; exact ⟨r, G1, h1, fun Q' h' => ⟨h.1, h2 Q' h'⟩⟩)
  · exact h.elim
theorem det_SFi : (SFi).Det := by
  intro vs G Q h
  unfold SFi at h ⊢
  split at h
  · first
    | exact ⟨_, _, h, fun Q' h' => h'⟩
    | exact ⟨_, _, h.2, fun Q' h' => ⟨h.1, h'⟩⟩
    | (obtain ⟨b, hp, h⟩ := h; exact ⟨_, _, h, fun Q' h' => ⟨b, hp, h'⟩⟩)
    | (obtain ⟨b, c, hp, h⟩ := h; exact ⟨_, _, h, fun Q' h' => ⟨b, c, hp, h'⟩⟩)
    | (obtain ⟨b, c, d, hp, h⟩ := h; exact ⟨_, _, h, fun Q' h' => ⟨b, c, d, hp, h'⟩⟩)
    | exact detIf2 h | exact detIf h | (obtain ⟨r, G1, h1, h2⟩ := detIf h.2; exact ⟨r, G1, h1, fun Q' h' => ⟨h.1, h2 Q' h'⟩⟩)
  · exact h.elim
theorem det_SRl : (SRl).Det := by
  intro vs G Q h
  unfold SRl at h ⊢
  split at h
  · first
    | exact ⟨_, _, h, fun Q' h' => h'⟩
    | exact ⟨_, _, h.2, fun Q' h' => ⟨h.1, h'⟩⟩
    | (obtain ⟨b, hp, h⟩ := h; exact ⟨_, _, h, fun Q' h' => ⟨b, hp, h'⟩⟩)
    | (obtain ⟨b, c, hp, h⟩ := h; exact ⟨_, _, h, fun Q' h' => ⟨b, c, hp, h'⟩⟩)
    | (obtain ⟨b, c, d, hp, h⟩ := h; exact ⟨_, _, h, fun Q' h' => ⟨b, c, d, hp, h'⟩⟩)
    | exact detIf2 h | exact detIf h | (obtain ⟨r, G1, h1, h2⟩ := detIf h.2; exact ⟨r, G1, h1, fun Q' h' => ⟨h.1, h2 Q' h'⟩⟩)
  · exact h.elim
theorem det_SRo : (SRo).Det := by
  intro vs G Q h
  unfold SRo at h ⊢
  split at h
  · first
    | exact ⟨_, _, h, fun Q' h' => h'⟩
    | exact ⟨_, _, h.2, fun Q' h' => ⟨h.1, h'⟩⟩
    | (obtain ⟨b, hp, h⟩ := h; exact ⟨_, _, h, fun Q' h' => ⟨b, hp, h'⟩⟩)
    | (obtain ⟨b, c, hp, h⟩ := h; exact ⟨_, _, h, fun Q' h' => ⟨b, c, hp, h'⟩⟩)
    | (obtain ⟨b, c, d, hp, h⟩ := h; exact ⟨_, _, h, fun Q' h' => ⟨b, c, d, hp, h'⟩⟩)
    | exact detIf2 h | exact detIf h | (obtain ⟨r, G1, h1, h2⟩ := detIf h.2; exact ⟨r, G1, h1, fun Q' h' => ⟨h.1, h2 Q' h'⟩⟩)
  · exact h.elim
theorem det_SSc : (SSc).Det := by
  intro vs G Q h
  unfold SSc at h ⊢
  split at h
  · first
    | exact ⟨_, _, h, fun Q' h' => h'⟩
    | exact ⟨_, _, h.2, fun Q' h' => ⟨h.1, h'⟩⟩
    | (obtain ⟨b, hp, h⟩ := h; exact ⟨_, _, h, fun Q' h' => ⟨b, hp, h'⟩⟩)
    | (obtain ⟨b, c, hp, h⟩ := h; exact ⟨_, _, h, fun Q' h' => ⟨b, c, hp, h'⟩⟩)
    | (obtain ⟨b, c, d, hp, h⟩ := h; exact ⟨_, _, h, fun Q' h' => ⟨b, c, d, hp, h'⟩⟩)
    | exact detIf2 h | exact detIf h | (obtain ⟨r, G1, h1, h2⟩ := detIf h.2; exact ⟨r, G1, h1, fun Q' h' => ⟨h.1, h2 Q' h'⟩⟩)
  · exact h.elim
theorem det_STu_K256 : (STu K256).Det := by
  intro vs G Q h
  unfold STu at h ⊢
  split at h
  · first
    | exact ⟨_, _, h, fun Q' h' => h'⟩
    | exact ⟨_, _, h.2, fun Q' h' => ⟨h.1, h'⟩⟩
    | (obtain ⟨b, hp, h⟩ := h; exact ⟨_, _, h, fun Q' h' => ⟨b, hp, h'⟩⟩)
    | (obtain ⟨b, c, hp, h⟩ := h; exact ⟨_, _, h, fun Q' h' => ⟨b, c, hp, h'⟩⟩)
    | (obtain ⟨b, c, d, hp, h⟩ := h; exact ⟨_, _, h, fun Q' h' => ⟨b, c, d, hp, h'⟩⟩)
    | exact detIf2 h | exact detIf h | (obtain ⟨r, G1, h1, h2⟩ := detIf h.2; exact ⟨r, G1, h1, fun Q' h' => ⟨h.1, h2 Q' h'⟩⟩)
  · exact h.elim
theorem det_SOf_K256 : (SOf K256).Det := by
  intro vs G Q h
  unfold SOf at h ⊢
  split at h
  · first
    | exact ⟨_, _, h, fun Q' h' => h'⟩
    | exact ⟨_, _, h.2, fun Q' h' => ⟨h.1, h'⟩⟩
    | (obtain ⟨b, hp, h⟩ := h; exact ⟨_, _, h, fun Q' h' => ⟨b, hp, h'⟩⟩)
    | (obtain ⟨b, c, hp, h⟩ := h; exact ⟨_, _, h, fun Q' h' => ⟨b, c, hp, h'⟩⟩)
    | (obtain ⟨b, c, d, hp, h⟩ := h; exact ⟨_, _, h, fun Q' h' => ⟨b, c, d, hp, h'⟩⟩)
    | exact detIf2 h | exact detIf h | (obtain ⟨r, G1, h1, h2⟩ := detIf h.2; exact ⟨r, G1, h1, fun Q' h' => ⟨h.1, h2 Q' h'⟩⟩)
  · exact h.elim
theorem det_SKe_K256 : (SKe K256).Det := by
  intro vs G Q h
  unfold SKe at h ⊢
  split at h
  · first
    | exact ⟨_, _, h, fun Q' h' => h'⟩
    | exact ⟨_, _, h.2, fun Q' h' => ⟨h.1, h'⟩⟩
    | (obtain ⟨b, hp, h⟩ := h; exact ⟨_, _, h, fun Q' h' => ⟨b, hp, h'⟩⟩)
    | (obtain ⟨b, c, hp, h⟩ := h; exact ⟨_, _, h, fun Q' h' => ⟨b, c, hp, h'⟩⟩)
    | (obtain ⟨b, c, d, hp, h⟩ := h; exact ⟨_, _, h, fun Q' h' => ⟨b, c, d, hp, h'⟩⟩)
    | exact detIf2 h | exact detIf h | (obtain ⟨r, G1, h1, h2⟩ := detIf h.2; exact ⟨r, G1, h1, fun Q' h' => ⟨h.1, h2 Q' h'⟩⟩)
  · exact h.elim
theorem det_SGr : (SGr).Det := by
  intro vs G Q h
  unfold SGr at h ⊢
  split at h
  · first
    | exact ⟨_, _, h, fun Q' h' => h'⟩
    | exact ⟨_, _, h.2, fun Q' h' => ⟨h.1, h'⟩⟩
    | (obtain ⟨b, hp, h⟩ := h; exact ⟨_, _, h, fun Q' h' => ⟨b, hp, h'⟩⟩)
    | (obtain ⟨b, c, hp, h⟩ := h; exact ⟨_, _, h, fun Q' h' => ⟨b, c, hp, h'⟩⟩)
    | (obtain ⟨b, c, d, hp, h⟩ := h; exact ⟨_, _, h, fun Q' h' => ⟨b, c, d, hp, h'⟩⟩)
    | exact detIf2 h | exact detIf h | (obtain ⟨r, G1, h1, h2⟩ := detIf h.2; exact ⟨r, G1, h1, fun Q' h' => ⟨h.1, h2 Q' h'⟩⟩)
  · exact h.elim
theorem det_SCc : (SCc).Det := by
  intro vs G Q h
  unfold SCc at h ⊢
  split at h
  · first
    | exact ⟨_, _, h, fun Q' h' => h'⟩
    | exact ⟨_, _, h.2, fun Q' h' => ⟨h.1, h'⟩⟩
    | (obtain ⟨b, hp, h⟩ := h; exact ⟨_, _, h, fun Q' h' => ⟨b, hp, h'⟩⟩)
    | (obtain ⟨b, c, hp, h⟩ := h; exact ⟨_, _, h, fun Q' h' => ⟨b, c, hp, h'⟩⟩)
    | (obtain ⟨b, c, d, hp, h⟩ := h; exact ⟨_, _, h, fun Q' h' => ⟨b, c, d, hp, h'⟩⟩)
    | exact detIf2 h | exact detIf h | (obtain ⟨r, G1, h1, h2⟩ := detIf h.2; exact ⟨r, G1, h1, fun Q' h' => ⟨h.1, h2 Q' h'⟩⟩)
  · exact h.elim
theorem det_SBl_K256 : (SBl K256).Det := by
  intro vs G Q h
  unfold SBl at h ⊢
  split at h
  · first
    | exact ⟨_, _, h, fun Q' h' => h'⟩
    | exact ⟨_, _, h.2, fun Q' h' => ⟨h.1, h'⟩⟩
    | (obtain ⟨b, hp, h⟩ := h; exact ⟨_, _, h, fun Q' h' => ⟨b, hp, h'⟩⟩)
    | (obtain ⟨b, c, hp, h⟩ := h; exact ⟨_, _, h, fun Q' h' => ⟨b, c, hp, h'⟩⟩)
    | (obtain ⟨b, c, d, hp, h⟩ := h; exact ⟨_, _, h, fun Q' h' => ⟨b, c, d, hp, h'⟩⟩)
    | exact detIf2 h | exact detIf h | (obtain ⟨r, G1, h1, h2⟩ := detIf h.2; exact ⟨r, G1, h1, fun Q' h' => ⟨h.1, h2 Q' h'⟩⟩)
  · exact h.elim
theorem det_STd : (STd).Det := by
  intro vs G Q h
  unfold STd at h ⊢
  split at h
  · first
    | exact ⟨_, _, h, fun Q' h' => h'⟩
    | exact ⟨_, _, h.2, fun Q' h' => ⟨h.1, h'⟩⟩
    | (obtain ⟨b, hp, h⟩ := h; exact ⟨_, _, h, fun Q' h' => ⟨b, hp, h'⟩⟩)
    | (obtain ⟨b, c, hp, h⟩ := h; exact ⟨_, _, h, fun Q' h' => ⟨b, c, hp, h'⟩⟩)
    | (obtain ⟨b, c, d, hp, h⟩ := h; exact ⟨_, _, h, fun Q' h' => ⟨b, c, d, hp, h'⟩⟩)
    | exact detIf2 h | exact detIf h | (obtain ⟨r, G1, h1, h2⟩ := detIf h.2; exact ⟨r, G1, h1, fun Q' h' => ⟨h.1, h2 Q' h'⟩⟩)
  · exact h.elim
theorem det_SMa_K256 : (SMa K256).Det := by
  intro vs G Q h
  unfold SMa at h ⊢
  split at h
  · first
    | exact ⟨_, _, h, fun Q' h' => h'⟩
    | exact ⟨_, _, h.2, fun Q' h' => ⟨h.1, h'⟩⟩
    | (obtain ⟨b, hp, h⟩ := h; exact ⟨_, _, h, fun Q' h' => ⟨b, hp, h'⟩⟩)
    | (obtain ⟨b, c, hp, h⟩ := h; exact ⟨_, _, h, fun Q' h' => ⟨b, c, hp, h'⟩⟩)
    | (obtain ⟨b, c, d, hp, h⟩ := h; exact ⟨_, _, h, fun Q' h' => ⟨b, c, d, hp, h'⟩⟩)
    | exact detIf2 h | exact detIf h | (obtain ⟨r, G1, h1, h2⟩ := detIf h.2; exact ⟨r, G1, h1, fun Q' h' => ⟨h.1, h2 Q' h'⟩⟩)
  · exact h.elim
theorem det_STa_K256 : (STa K256).Det := by
  intro vs G Q h
  unfold STa at h ⊢
  split at h
  · first
    | exact ⟨_, _, h, fun Q' h' => h'⟩
    | exact ⟨_, _, h.2, fun Q' h' => ⟨h.1, h'⟩⟩
    | (obtain ⟨b, hp, h⟩ := h; exact ⟨_, _, h, fun Q' h' => ⟨b, hp, h'⟩⟩)
    | (obtain ⟨b, c, hp, h⟩ := h; exact ⟨_, _, h, fun Q' h' => ⟨b, c, hp, h'⟩⟩)
    | (obtain ⟨b, c, d, hp, h⟩ := h; exact ⟨_, _, h, fun Q' h' => ⟨b, c, d, hp, h'⟩⟩)
    | exact detIf2 h | exact detIf h | (obtain ⟨r, G1, h1, h2⟩ := detIf h.2; exact ⟨r, G1, h1, fun Q' h' => ⟨h.1, h2 Q' h'⟩⟩)
  · exact h.elim
theorem det_SCl : (SCl).Det := by
  intro vs G Q h
  unfold SCl at h ⊢
  split at h
  · first
    | exact ⟨_, _, h, fun Q' h' => h'⟩
    | exact ⟨_, _, h.2, fun Q' h' => ⟨h.1, h'⟩⟩
    | (obtain ⟨b, hp, h⟩ := h; exact ⟨_, _, h, fun Q' h' => ⟨b, hp, h'⟩⟩)
    | (obtain ⟨b, c, hp, h⟩ := h; exact ⟨_, _, h, fun Q' h' => ⟨b, c, hp, h'⟩⟩)
    | (obtain ⟨b, c, d, hp, h⟩ := h; exact ⟨_, _, h, fun Q' h' => ⟨b, c, d, hp, h'⟩⟩)
    | exact detIf2 h | exact detIf h | (obtain ⟨r, G1, h1, h2⟩ := detIf h.2; exact ⟨r, G1, h1, fun Q' h' => ⟨h.1, h2 Q' h'⟩⟩)
  · exact h.elim
theorem det_SHa : (SHa).Det := by
  intro vs G Q h
  unfold SHa at h ⊢
  split at h
  · first
    | exact ⟨_, _, h, fun Q' h' => h'⟩
    | exact ⟨_, _, h.2, fun Q' h' => ⟨h.1, h'⟩⟩
    | (obtain ⟨b, hp, h⟩ := h; exact ⟨_, _, h, fun Q' h' => ⟨b, hp, h'⟩⟩)
    | (obtain ⟨b, c, hp, h⟩ := h; exact ⟨_, _, h, fun Q' h' => ⟨b, c, hp, h'⟩⟩)
    | (obtain ⟨b, c, d, hp, h⟩ := h; exact ⟨_, _, h, fun Q' h' => ⟨b, c, d, hp, h'⟩⟩)
    | exact detIf2 h | exact detIf h | (obtain ⟨r, G1, h1, h2⟩ := detIf h.2; exact ⟨r, G1, h1, fun Q' h' => ⟨h.1, h2 Q' h'⟩⟩)
  · exact h.elim
theorem det_SNu : (SNu).Det := by
  intro vs G Q h
  unfold SNu at h ⊢
  split at h
  · first
    | exact ⟨_, _, h, fun Q' h' => h'⟩
    | exact ⟨_, _, h.2, fun Q' h' => ⟨h.1, h'⟩⟩
    | (obtain ⟨b, hp, h⟩ := h; exact ⟨_, _, h, fun Q' h' => ⟨b, hp, h'⟩⟩)
    | (obtain ⟨b, c, hp, h⟩ := h; exact ⟨_, _, h, fun Q' h' => ⟨b, c, hp, h'⟩⟩)
    | (obtain ⟨b, c, d, hp, h⟩ := h; exact ⟨_, _, h, fun Q' h' => ⟨b, c, d, hp, h'⟩⟩)
    | exact detIf2 h | exact detIf h | (obtain ⟨r, G1, h1, h2⟩ := detIf h.2; exact ⟨r, G1, h1, fun Q' h' => ⟨h.1, h2 Q' h'⟩⟩)
  · exact h.elim
theorem det_STg : (STg).Det := by
  intro vs G Q h
  unfold STg at h ⊢
  split at h
  · first
    | exact ⟨_, _, h, fun Q' h' => h'⟩
    | exact ⟨_, _, h.2, fun Q' h' => ⟨h.1, h'⟩⟩
    | (obtain ⟨b, hp, h⟩ := h; exact ⟨_, _, h, fun Q' h' => ⟨b, hp, h'⟩⟩)
    | (obtain ⟨b, c, hp, h⟩ := h; exact ⟨_, _, h, fun Q' h' => ⟨b, c, hp, h'⟩⟩)
    | (obtain ⟨b, c, d, hp, h⟩ := h; exact ⟨_, _, h, fun Q' h' => ⟨b, c, d, hp, h'⟩⟩)
    | exact detIf2 h | exact detIf h | (obtain ⟨r, G1, h1, h2⟩ := detIf h.2; exact ⟨r, G1, h1, fun Q' h' => ⟨h.1, h2 Q' h'⟩⟩)
  · exact h.elim
theorem det_SSi_K256 : (SSi K256).Det := by
  intro vs G Q h
  unfold SSi at h ⊢
  split at h
  · first
    | exact ⟨_, _, h, fun Q' h' => h'⟩
    | exact ⟨_, _, h.2, fun Q' h' => ⟨h.1, h'⟩⟩
    | (obtain ⟨b, hp, h⟩ := h; exact ⟨_, _, h, fun Q' h' => ⟨b, hp, h'⟩⟩)
    | (obtain ⟨b, c, hp, h⟩ := h; exact ⟨_, _, h, fun Q' h' => ⟨b, c, hp, h'⟩⟩)
    | (obtain ⟨b, c, d, hp, h⟩ := h; exact ⟨_, _, h, fun Q' h' => ⟨b, c, d, hp, h'⟩⟩)
    | exact detIf2 h | exact detIf h | (obtain ⟨r, G1, h1, h2⟩ := detIf h.2; exact ⟨r, G1, h1, fun Q' h' => ⟨h.1, h2 Q' h'⟩⟩)
  · exact h.elim
theorem det_SSa : (SSa).Det := by
  intro vs G Q h
  unfold SSa at h ⊢
  split at h
  · first
    | exact ⟨_, _, h, fun Q' h' => h'⟩
    | exact ⟨_, _, h.2, fun Q' h' => ⟨h.1, h'⟩⟩
    | (obtain ⟨b, hp, h⟩ := h; exact ⟨_, _, h, fun Q' h' => ⟨b, hp, h'⟩⟩)
    | (obtain ⟨b, c, hp, h⟩ := h; exact ⟨_, _, h, fun Q' h' => ⟨b, c, hp, h'⟩⟩)
    | (obtain ⟨b, c, d, hp, h⟩ := h; exact ⟨_, _, h, fun Q' h' => ⟨b, c, d, hp, h'⟩⟩)
    | exact detIf2 h | exact detIf h | (obtain ⟨r, G1, h1, h2⟩ := detIf h.2; exact ⟨r, G1, h1, fun Q' h' => ⟨h.1, h2 Q' h'⟩⟩)
  · exact h.elim
theorem det_SCh_K256 : (SCh K256).Det := by
  intro vs G Q h
  unfold SCh at h ⊢
  split at h
  · first
    | exact ⟨_, _, h, fun Q' h' => h'⟩
    | exact ⟨_, _, h.2, fun Q' h' => ⟨h.1, h'⟩⟩
    | (obtain ⟨b, hp, h⟩ := h; exact ⟨_, _, h, fun Q' h' => ⟨b, hp, h'⟩⟩)
    | (obtain ⟨b, c, hp, h⟩ := h; exact ⟨_, _, h, fun Q' h' => ⟨b, c, hp, h'⟩⟩)
    | (obtain ⟨b, c, d, hp, h⟩ := h; exact ⟨_, _, h, fun Q' h' => ⟨b, c, d, hp, h'⟩⟩)
    | exact detIf2 h | exact detIf h | (obtain ⟨r, G1, h1, h2⟩ := detIf h.2; exact ⟨r, G1, h1, fun Q' h' => ⟨h.1, h2 Q' h'⟩⟩)
  · exact h.elim
theorem det_SRi_K256 : (SRi K256).Det := by
  intro vs G Q h
  unfold SRi at h ⊢
  split at h
  · first
    | exact ⟨_, _, h, fun Q' h' => h'⟩
    | exact ⟨_, _, h.2, fun Q' h' => ⟨h.1, h'⟩⟩
    | (obtain ⟨b, hp, h⟩ := h; exact ⟨_, _, h, fun Q' h' => ⟨b, hp, h'⟩⟩)
    | (obtain ⟨b, c, hp, h⟩ := h; exact ⟨_, _, h, fun Q' h' => ⟨b, c, hp, h'⟩⟩)
    | (obtain ⟨b, c, d, hp, h⟩ := h; exact ⟨_, _, h, fun Q' h' => ⟨b, c, d, hp, h'⟩⟩)
    | exact detIf2 h | exact detIf h | (obtain ⟨r, G1, h1, h2⟩ := detIf h.2; exact ⟨r, G1, h1, fun Q' h' => ⟨h.1, h2 Q' h'⟩⟩)
  · exact h.elim
theorem det_SSh : (SSh).Det := by
  intro vs G Q h
  unfold SSh at h ⊢
  split at h
  · first
    | exact ⟨_, _, h, fun Q' h' => h'⟩
    | exact ⟨_, _, h.2, fun Q' h' => ⟨h.1, h'⟩⟩
    | (obtain ⟨b, hp, h⟩ := h; exact ⟨_, _, h, fun Q' h' => ⟨b, hp, h'⟩⟩)
    | (obtain ⟨b, c, hp, h⟩ := h; exact ⟨_, _, h, fun Q' h' => ⟨b, c, hp, h'⟩⟩)
    | (obtain ⟨b, c, d, hp, h⟩ := h; exact ⟨_, _, h, fun Q' h' => ⟨b, c, d, hp, h'⟩⟩)
    | exact detIf2 h | exact detIf h | (obtain ⟨r, G1, h1, h2⟩ := detIf h.2; exact ⟨r, G1, h1, fun Q' h' => ⟨h.1, h2 Q' h'⟩⟩)
  · exact h.elim
theorem det_SRf_K256 : (SRf K256).Det := by
  intro vs G Q h
  unfold SRf at h ⊢
  split at h
  · first
    | exact ⟨_, _, h, fun Q' h' => h'⟩
    | exact ⟨_, _, h.2, fun Q' h' => ⟨h.1, h'⟩⟩
    | (obtain ⟨b, hp, h⟩ := h; exact ⟨_, _, h, fun Q' h' => ⟨b, hp, h'⟩⟩)
    | (obtain ⟨b, c, hp, h⟩ := h; exact ⟨_, _, h, fun Q' h' => ⟨b, c, hp, h'⟩⟩)
    | (obtain ⟨b, c, d, hp, h⟩ := h; exact ⟨_, _, h, fun Q' h' => ⟨b, c, d, hp, h'⟩⟩)
    | exact detIf2 h | exact detIf h | (obtain ⟨r, G1, h1, h2⟩ := detIf h.2; exact ⟨r, G1, h1, fun Q' h' => ⟨h.1, h2 Q' h'⟩⟩)
  · exact h.elim
theorem det_SMr_K256 : (SMr K256).Det := by
  intro vs G Q h
  unfold SMr at h ⊢
  split at h
  · first
    | exact ⟨_, _, h, fun Q' h' => h'⟩
    | exact ⟨_, _, h.2, fun Q' h' => ⟨h.1, h'⟩⟩
    | (obtain ⟨b, hp, h⟩ := h; exact ⟨_, _, h, fun Q' h' => ⟨b, hp, h'⟩⟩)
    | (obtain ⟨b, c, hp, h⟩ := h; exact ⟨_, _, h, fun Q' h' => ⟨b, c, hp, h'⟩⟩)
    | (obtain ⟨b, c, d, hp, h⟩ := h; exact ⟨_, _, h, fun Q' h' => ⟨b, c, d, hp, h'⟩⟩)
    | exact detIf2 h | exact detIf h | (obtain ⟨r, G1, h1, h2⟩ := detIf h.2; exact ⟨r, G1, h1, fun Q' h' => ⟨h.1, h2 Q' h'⟩⟩)
  · exact h.elim
theorem det_STr_K256 : (STr K256).Det := by
  intro vs G Q h
  unfold STr at h ⊢
  split at h
  · first
    | exact ⟨_, _, h, fun Q' h' => h'⟩
    | exact ⟨_, _, h.2, fun Q' h' => ⟨h.1, h'⟩⟩
    | (obtain ⟨b, hp, h⟩ := h; exact ⟨_, _, h, fun Q' h' => ⟨b, hp, h'⟩⟩)
    | (obtain ⟨b, c, hp, h⟩ := h; exact ⟨_, _, h, fun Q' h' => ⟨b, c, hp, h'⟩⟩)
    | (obtain ⟨b, c, d, hp, h⟩ := h; exact ⟨_, _, h, fun Q' h' => ⟨b, c, d, hp, h'⟩⟩)
    | exact detIf2 h | exact detIf h | (obtain ⟨r, G1, h1, h2⟩ := detIf h.2; exact ⟨r, G1, h1, fun Q' h' => ⟨h.1, h2 Q' h'⟩⟩)
  · exact h.elim
theorem det_SBy : (SBy).Det := by
  intro vs G Q h
  unfold SBy at h ⊢
  split at h
  · first
    | exact ⟨_, _, h, fun Q' h' => h'⟩
    | exact ⟨_, _, h.2, fun Q' h' => ⟨h.1, h'⟩⟩
    | (obtain ⟨b, hp, h⟩ := h; exact ⟨_, _, h, fun Q' h' => ⟨b, hp, h'⟩⟩)
    | (obtain ⟨b, c, hp, h⟩ := h; exact ⟨_, _, h, fun Q' h' => ⟨b, c, hp, h'⟩⟩)
    | (obtain ⟨b, c, d, hp, h⟩ := h; exact ⟨_, _, h, fun Q' h' => ⟨b, c, d, hp, h'⟩⟩)
    | exact detIf2 h | exact detIf h | (obtain ⟨r, G1, h1, h2⟩ := detIf h.2; exact ⟨r, G1, h1, fun Q' h' => ⟨h.1, h2 Q' h'⟩⟩)
  · exact h.elim
theorem det_SRn_10 : (SRn 10).Det := by
  intro vs G Q h
  unfold SRn at h ⊢
  split at h
  · first
    | exact ⟨_, _, h, fun Q' h' => h'⟩
    | exact ⟨_, _, h.2, fun Q' h' => ⟨h.1, h'⟩⟩
    | (obtain ⟨b, hp, h⟩ := h; exact ⟨_, _, h, fun Q' h' => ⟨b, hp, h'⟩⟩)
    | (obtain ⟨b, c, hp, h⟩ := h; exact ⟨_, _, h, fun Q' h' => ⟨b, c, hp, h'⟩⟩)
    | (obtain ⟨b, c, d, hp, h⟩ := h; exact ⟨_, _, h, fun Q' h' => ⟨b, c, d, hp, h'⟩⟩)
    | exact detIf2 h | exact detIf h | (obtain ⟨r, G1, h1, h2⟩ := detIf h.2; exact ⟨r, G1, h1, fun Q' h' => ⟨h.1, h2 Q' h'⟩⟩)
  · exact h.elim
theorem det_ST8 : (ST8).Det := by
  intro vs G Q h
  unfold ST8 at h ⊢
  split at h
  · first
    | exact ⟨_, _, h, fun Q' h' => h'⟩
    | exact ⟨_, _, h.2, fun Q' h' => ⟨h.1, h'⟩⟩
    | (obtain ⟨b, hp, h⟩ := h; exact ⟨_, _, h, fun Q' h' => ⟨b, hp, h'⟩⟩)
    | (obtain ⟨b, c, hp, h⟩ := h; exact ⟨_, _, h, fun Q' h' => ⟨b, c, hp, h'⟩⟩)
    | (obtain ⟨b, c, d, hp, h⟩ := h; exact ⟨_, _, h, fun Q' h' => ⟨b, c, d, hp, h'⟩⟩)
    | exact detIf2 h | exact detIf h | (obtain ⟨r, G1, h1, h2⟩ := detIf h.2; exact ⟨r, G1, h1, fun Q' h' => ⟨h.1, h2 Q' h'⟩⟩)
  · exact h.elim
theorem det_STr8_K256 : (STr8 K256).Det := by
  intro vs G Q h
  unfold STr8 at h ⊢
  split at h
  · first
    | exact ⟨_, _, h, fun Q' h' => h'⟩
    | exact ⟨_, _, h.2, fun Q' h' => ⟨h.1, h'⟩⟩
    | (obtain ⟨b, hp, h⟩ := h; exact ⟨_, _, h, fun Q' h' => ⟨b, hp, h'⟩⟩)
    | (obtain ⟨b, c, hp, h⟩ := h; exact ⟨_, _, h, fun Q' h' => ⟨b, c, hp, h'⟩⟩)
    | (obtain ⟨b, c, d, hp, h⟩ := h; exact ⟨_, _, h, fun Q' h' => ⟨b, c, d, hp, h'⟩⟩)
    | exact detIf2 h | exact detIf h | (obtain ⟨r, G1, h1, h2⟩ := detIf h.2; exact ⟨r, G1, h1, fun Q' h' => ⟨h.1, h2 Q' h'⟩⟩)
  · exact h.elim
theorem det_SAl : (SAl).Det := by
  intro vs G Q h
  unfold SAl at h ⊢
  split at h
  · first
    | exact ⟨_, _, h, fun Q' h' => h'⟩
    | exact ⟨_, _, h.2, fun Q' h' => ⟨h.1, h'⟩⟩
    | (obtain ⟨b, hp, h⟩ := h; exact ⟨_, _, h, fun Q' h' => ⟨b, hp, h'⟩⟩)
    | (obtain ⟨b, c, hp, h⟩ := h; exact ⟨_, _, h, fun Q' h' => ⟨b, c, hp, h'⟩⟩)
    | (obtain ⟨b, c, d, hp, h⟩ := h; exact ⟨_, _, h, fun Q' h' => ⟨b, c, d, hp, h'⟩⟩)
    | exact detIf2 h | exact detIf h | (obtain ⟨r, G1, h1, h2⟩ := detIf h.2; exact ⟨r, G1, h1, fun Q' h' => ⟨h.1, h2 Q' h'⟩⟩)
  · exact h.elim
theorem det_SAw : (SAw).Det := by
  intro vs G Q h
  unfold SAw at h ⊢
  split at h
  · first
    | exact ⟨_, _, h, fun Q' h' => h'⟩
    | exact ⟨_, _, h.2, fun Q' h' => ⟨h.1, h'⟩⟩
    | (obtain ⟨b, hp, h⟩ := h; exact ⟨_, _, h, fun Q' h' => ⟨b, hp, h'⟩⟩)
    | (obtain ⟨b, c, hp, h⟩ := h; exact ⟨_, _, h, fun Q' h' => ⟨b, c, hp, h'⟩⟩)
    | (obtain ⟨b, c, d, hp, h⟩ := h; exact ⟨_, _, h, fun Q' h' => ⟨b, c, d, hp, h'⟩⟩)
    | exact detIf2 h | exact detIf h | (obtain ⟨r, G1, h1, h2⟩ := detIf h.2; exact ⟨r, G1, h1, fun Q' h' => ⟨h.1, h2 Q' h'⟩⟩)
  · exact h.elim
theorem det_SSr_K256 : (SSr K256).Det := by
  intro vs G Q h
  unfold SSr at h ⊢
  split at h
  · first
    | exact ⟨_, _, h, fun Q' h' => h'⟩
    | exact ⟨_, _, h.2, fun Q' h' => ⟨h.1, h'⟩⟩
    | (obtain ⟨b, hp, h⟩ := h; exact ⟨_, _, h, fun Q' h' => ⟨b, hp, h'⟩⟩)
    | (obtain ⟨b, c, hp, h⟩ := h; exact ⟨_, _, h, fun Q' h' => ⟨b, c, hp, h'⟩⟩)
    | (obtain ⟨b, c, d, hp, h⟩ := h; exact ⟨_, _, h, fun Q' h' => ⟨b, c, d, hp, h'⟩⟩)
    | exact detIf2 h | exact detIf h | (obtain ⟨r, G1, h1, h2⟩ := detIf h.2; exact ⟨r, G1, h1, fun Q' h' => ⟨h.1, h2 Q' h'⟩⟩)
  · exact h.elim
theorem own : ownKnob Tryd.prog.godebug = none := by kernel_rfl
theorem laidOut : laidOutB Tryd.prog = true := by kernel_rfl
noncomputable def EE : Env := ⟨Tryd.prog, [(0, .arr .u32 64 K256), (1, .arr .u32 64 K256)]⟩
theorem g9 : Abs.Good EE [(9, SMy)] := (Abs.Good.nil EE).cons det_SMy fun vs G Q h => by
  unfold SMy at h; split at h
  · exact (Abs.Good.nil EE).ret (E := EE) p9 rfl (walk9 h.1 h.2)
  · exact h.elim
theorem g36 : Abs.Good EE [(36, SNo), (9, SMy)] := g9.cons det_SNo fun vs G Q h => by
  unfold SNo at h; split at h
  · exact g9.ret (E := EE) p36 rfl (walk36 h)
  · exact h.elim
theorem g11 : Abs.Good EE [(11, SCk), (36, SNo), (9, SMy)] := g36.cons det_SCk fun vs G Q h => by
  unfold SCk at h; split at h
  · exact g36.ret (E := EE) p11 rfl (walk11 rfl h.1 h.2)
  · exact h.elim
theorem g71 : Abs.Good EE [(71, SSt), (11, SCk), (36, SNo), (9, SMy)] := g11.cons det_SSt fun vs G Q h => by
  unfold SSt at h; split at h
  · exact g11.ret (E := EE) p71 rfl (walk71 h)
  · exact h.elim
theorem g76 : Abs.Good EE [(76, SEn), (71, SSt), (11, SCk), (36, SNo), (9, SMy)] := g71.cons det_SEn fun vs G Q h => by
  unfold SEn at h; split at h
  · rename_i n; obtain ⟨k, rfl⟩ : ∃ k : Nat, n = k := ⟨n.toNat, by omega⟩; rw [Int.toNat_natCast] at h; exact g71.ret (E := EE) p76 rfl (walk76 (n := k) (by omega) h.2)
  · exact h.elim
theorem g72 : Abs.Good EE [(72, SFi), (76, SEn), (71, SSt), (11, SCk), (36, SNo), (9, SMy)] := g76.cons det_SFi fun vs G Q h => by
  unfold SFi at h; split at h
  · obtain ⟨b, ⟨hx, hb⟩, h⟩ := h; exact g76.ret (E := EE) p72 rfl (walk72 rfl hx hb h)
  · exact h.elim
theorem g81 : Abs.Good EE [(81, SRl), (72, SFi), (76, SEn), (71, SSt), (11, SCk), (36, SNo), (9, SMy)] := g72.cons det_SRl fun vs G Q h => by
  unfold SRl at h; split at h
  · exact g72.ret (E := EE) p81 rfl (walk81 h.1.1 h.1.2 h.2)
  · exact h.elim
theorem g78 : Abs.Good EE [(78, SRo), (81, SRl), (72, SFi), (76, SEn), (71, SSt), (11, SCk), (36, SNo), (9, SMy)] := g81.cons det_SRo fun vs G Q h => by
  unfold SRo at h; split at h
  · exact g81.ret (E := EE) p78 rfl (walk78 rfl h.1.1 h.1.2 h.2)
  · exact h.elim
theorem g77 : Abs.Good EE [(77, SSc), (78, SRo), (81, SRl), (72, SFi), (76, SEn), (71, SSt), (11, SCk), (36, SNo), (9, SMy)] := g78.cons det_SSc fun vs G Q h => by
  unfold SSc at h; split at h
  · exact g78.ret (E := EE) p77 rfl (walk77 rfl h.1.1 h.1.2 h.2)
  · exact h.elim
theorem g73 : Abs.Good EE [(73, STu K256), (77, SSc), (78, SRo), (81, SRl), (72, SFi), (76, SEn), (71, SSt), (11, SCk), (36, SNo), (9, SMy)] := g77.cons det_STu_K256 fun vs G Q h => by
  unfold STu at h; split at h
  · exact g77.ret (E := EE) p73 rfl (walk73 rfl rfl rfl h.1.1.1 h.1.1.2 h.1.2.1 h.1.2.2 h.2)
  · exact h.elim
theorem g64 : Abs.Good EE [(64, SOf K256), (73, STu K256), (77, SSc), (78, SRo), (81, SRl), (72, SFi), (76, SEn), (71, SSt), (11, SCk), (36, SNo), (9, SMy)] := g73.cons det_SOf_K256 fun vs G Q h => by
  unfold SOf at h; split at h
  · obtain ⟨b, ⟨hx, hxl, hby, hb⟩, h⟩ := h; exact g73.ret (E := EE) p64 rfl (walk64 rfl rfl rfl hx hxl hby hb h)
  · exact h.elim
theorem g54 : Abs.Good EE [(54, SKe K256), (64, SOf K256), (73, STu K256), (77, SSc), (78, SRo), (81, SRl), (72, SFi), (76, SEn), (71, SSt), (11, SCk), (36, SNo), (9, SMy)] := g64.cons det_SKe_K256 fun vs G Q h => by
  unfold SKe at h; split at h
  · exact g64.ret (E := EE) p54 rfl (walk54 rfl rfl h)
  · exact h.elim
theorem g67 : Abs.Good EE [(67, SGr), (54, SKe K256), (64, SOf K256), (73, STu K256), (77, SSc), (78, SRo), (81, SRl), (72, SFi), (76, SEn), (71, SSt), (11, SCk), (36, SNo), (9, SMy)] := g54.cons det_SGr fun vs G Q h => by
  unfold SGr at h; split at h
  · exact g54.ret (E := EE) p67 rfl (walk67 h.1 h.2)
  · exact h.elim
theorem g56 : Abs.Good EE [(56, SCc), (67, SGr), (54, SKe K256), (64, SOf K256), (73, STu K256), (77, SSc), (78, SRo), (81, SRl), (72, SFi), (76, SEn), (71, SSt), (11, SCk), (36, SNo), (9, SMy)] := g67.cons det_SCc fun vs G Q h => by
  unfold SCc at h; split at h
  · obtain ⟨b, ⟨hc, hne, hl, hpl⟩, h⟩ := h; exact g67.ret (E := EE) p56 rfl (walk56 rfl hc hne hl hpl h)
  · exact h.elim
theorem g65 : Abs.Good EE [(65, SBl K256), (56, SCc), (67, SGr), (54, SKe K256), (64, SOf K256), (73, STu K256), (77, SSc), (78, SRo), (81, SRl), (72, SFi), (76, SEn), (71, SSt), (11, SCk), (36, SNo), (9, SMy)] := g56.cons det_SBl_K256 fun vs G Q h => by
  unfold SBl at h; split at h
  · obtain ⟨b, ⟨hx, hby, hb⟩, h⟩ := h; exact g56.ret (E := EE) p65 rfl (walk65 rfl hx hby hb h)
  · exact h.elim
theorem g66 : Abs.Good EE [(66, STd), (65, SBl K256), (56, SCc), (67, SGr), (54, SKe K256), (64, SOf K256), (73, STu K256), (77, SSc), (78, SRo), (81, SRl), (72, SFi), (76, SEn), (71, SSt), (11, SCk), (36, SNo), (9, SMy)] := g65.cons det_STd fun vs G Q h => by
  unfold STd at h; split at h
  · exact g65.ret (E := EE) p66 rfl (walk66 h.1 h.2)
  · exact h.elim
theorem g55 : Abs.Good EE [(55, SMa K256), (66, STd), (65, SBl K256), (56, SCc), (67, SGr), (54, SKe K256), (64, SOf K256), (73, STu K256), (77, SSc), (78, SRo), (81, SRl), (72, SFi), (76, SEn), (71, SSt), (11, SCk), (36, SNo), (9, SMy)] := g66.cons det_SMa_K256 fun vs G Q h => by
  unfold SMa at h; split at h
  · obtain ⟨b, c, r, ⟨h1, h2, h3, h4, h5, h6, h7, h8⟩, h⟩ := h; exact g66.ret (E := EE) p55 rfl (walk55 rfl rfl rfl rfl h1 h2 h3 h4 h5 h6 h7 h8 h)
  · exact h.elim
theorem g34 : Abs.Good EE [(34, STa K256), (55, SMa K256), (66, STd), (65, SBl K256), (56, SCc), (67, SGr), (54, SKe K256), (64, SOf K256), (73, STu K256), (77, SSc), (78, SRo), (81, SRl), (72, SFi), (76, SEn), (71, SSt), (11, SCk), (36, SNo), (9, SMy)] := g55.cons det_STa_K256 fun vs G Q h => by
  unfold STa at h; split at h
  · obtain ⟨c, r, ⟨h1, h2, h3, h4, h5, h6⟩, h⟩ := h; exact g55.ret (E := EE) p34 rfl (walk34 rfl rfl rfl rfl h1 h2 h3 h4 h5 h6 h)
  · exact h.elim
theorem g50 : Abs.Good EE [(50, SCl), (34, STa K256), (55, SMa K256), (66, STd), (65, SBl K256), (56, SCc), (67, SGr), (54, SKe K256), (64, SOf K256), (73, STu K256), (77, SSc), (78, SRo), (81, SRl), (72, SFi), (76, SEn), (71, SSt), (11, SCk), (36, SNo), (9, SMy)] := g34.cons det_SCl fun vs G Q h => by
  unfold SCl at h; split at h
  · obtain ⟨b, ⟨hx, hb⟩, h⟩ := h; exact Ret.res .u8 (Ret.args (vs' := [.sli .u8 b]) rfl (wk_1 (byV_wk hx)) (g34.ret (E := EE) p50 rfl (walk50 hb h)))
  · exact h.elim
theorem g46 : Abs.Good EE [(46, SHa), (50, SCl), (34, STa K256), (55, SMa K256), (66, STd), (65, SBl K256), (56, SCc), (67, SGr), (54, SKe K256), (64, SOf K256), (73, STu K256), (77, SSc), (78, SRo), (81, SRl), (72, SFi), (76, SEn), (71, SSt), (11, SCk), (36, SNo), (9, SMy)] := g50.cons det_SHa fun vs G Q h => by
  unfold SHa at h; split at h
  · obtain ⟨b, ⟨hx, hb, hl⟩, h⟩ := h; exact Ret.args (vs' := [.sli .u8 b, _]) rfl (wk_1 (byV_wk hx)) (g50.ret (E := EE) p46 rfl (walk46 rfl hb hl h))
  · exact h.elim
theorem g52 : Abs.Good EE [(52, SNu), (46, SHa), (50, SCl), (34, STa K256), (55, SMa K256), (66, STd), (65, SBl K256), (56, SCc), (67, SGr), (54, SKe K256), (64, SOf K256), (73, STu K256), (77, SSc), (78, SRo), (81, SRl), (72, SFi), (76, SEn), (71, SSt), (11, SCk), (36, SNo), (9, SMy)] := g46.cons det_SNu fun vs G Q h => by
  unfold SNu at h; split at h
  · obtain ⟨b, ⟨hx, hb, hn⟩, h⟩ := h; exact Ret.args (vs' := [.sli .u8 b, _]) rfl (wk_1 (byV_wk hx)) (g46.ret (E := EE) p52 rfl (walk52 rfl hb hn h))
  · exact h.elim
theorem g35 : Abs.Good EE [(35, STg), (52, SNu), (46, SHa), (50, SCl), (34, STa K256), (55, SMa K256), (66, STd), (65, SBl K256), (56, SCc), (67, SGr), (54, SKe K256), (64, SOf K256), (73, STu K256), (77, SSc), (78, SRo), (81, SRl), (72, SFi), (76, SEn), (71, SSt), (11, SCk), (36, SNo), (9, SMy)] := g52.cons det_STg fun vs G Q h => by
  unfold STg at h; split at h
  · obtain ⟨b, ⟨hx, hb, hw, hm⟩, h⟩ := h; exact Ret.args (vs' := [.sli .u8 b, _]) rfl (wk_1 (byV_wk hx)) (g52.ret (E := EE) p35 rfl (walk35 rfl rfl hb hw hm h))
  · exact h.elim
theorem g10 : Abs.Good EE [(10, SSi K256), (35, STg), (52, SNu), (46, SHa), (50, SCl), (34, STa K256), (55, SMa K256), (66, STd), (65, SBl K256), (56, SCc), (67, SGr), (54, SKe K256), (64, SOf K256), (73, STu K256), (77, SSc), (78, SRo), (81, SRl), (72, SFi), (76, SEn), (71, SSt), (11, SCk), (36, SNo), (9, SMy)] := g35.cons det_SSi_K256 fun vs G Q h => by
  unfold SSi at h; split at h
  · exact g35.ret (E := EE) p10 rfl (walk10 rfl rfl rfl h.1 h.2)
  · exact h.elim
theorem g57 : Abs.Good EE [(57, SSa), (10, SSi K256), (35, STg), (52, SNu), (46, SHa), (50, SCl), (34, STa K256), (55, SMa K256), (66, STd), (65, SBl K256), (56, SCc), (67, SGr), (54, SKe K256), (64, SOf K256), (73, STu K256), (77, SSc), (78, SRo), (81, SRl), (72, SFi), (76, SEn), (71, SSt), (11, SCk), (36, SNo), (9, SMy)] := g10.cons det_SSa fun vs G Q h => by
  unfold SSa at h; split at h
  · exact g10.ret (E := EE) p57 rfl (walk57 h.1.1.1 h.1.2.1 h.1.1.2 h.1.2.2 h.2)
  · exact h.elim
theorem g37 : Abs.Good EE [(37, SCh K256), (57, SSa), (10, SSi K256), (35, STg), (52, SNu), (46, SHa), (50, SCl), (34, STa K256), (55, SMa K256), (66, STd), (65, SBl K256), (56, SCc), (67, SGr), (54, SKe K256), (64, SOf K256), (73, STu K256), (77, SSc), (78, SRo), (81, SRl), (72, SFi), (76, SEn), (71, SSt), (11, SCk), (36, SNo), (9, SMy)] := g57.cons det_SCh_K256 fun vs G Q h => by
  unfold SCh at h; split at h
  · obtain ⟨c, r, ⟨⟨h1, h2, h3⟩, h4, h5, h6, h7, h8⟩, h⟩ := h; exact g57.ret (E := EE) p37 rfl (walk37 rfl rfl rfl h1 ⟨h2, h3⟩ h4 h5 h6 h7 h8 h)
  · exact h.elim
theorem g12 : Abs.Good EE [(12, SRi K256), (37, SCh K256), (57, SSa), (10, SSi K256), (35, STg), (52, SNu), (46, SHa), (50, SCl), (34, STa K256), (55, SMa K256), (66, STd), (65, SBl K256), (56, SCc), (67, SGr), (54, SKe K256), (64, SOf K256), (73, STu K256), (77, SSc), (78, SRo), (81, SRl), (72, SFi), (76, SEn), (71, SSt), (11, SCk), (36, SNo), (9, SMy)] := g37.cons det_SRi_K256 fun vs G Q h => by
  unfold SRi at h; split at h
  · exact g37.ret (E := EE) p12 rfl (walk12 rfl rfl rfl h.1 h.2)
  · exact h.elim
theorem g74 : Abs.Good EE [(74, SFi), (12, SRi K256), (37, SCh K256), (57, SSa), (10, SSi K256), (35, STg), (52, SNu), (46, SHa), (50, SCl), (34, STa K256), (55, SMa K256), (66, STd), (65, SBl K256), (56, SCc), (67, SGr), (54, SKe K256), (64, SOf K256), (73, STu K256), (77, SSc), (78, SRo), (81, SRl), (72, SFi), (76, SEn), (71, SSt), (11, SCk), (36, SNo), (9, SMy)] := g12.cons det_SFi fun vs G Q h => by
  unfold SFi at h; split at h
  · obtain ⟨b, ⟨hx, hb⟩, h⟩ := h; exact g12.ret (E := EE) p74 rfl (walk74 hx hb h)
  · exact h.elim
theorem g79 : Abs.Good EE [(79, SRo), (74, SFi), (12, SRi K256), (37, SCh K256), (57, SSa), (10, SSi K256), (35, STg), (52, SNu), (46, SHa), (50, SCl), (34, STa K256), (55, SMa K256), (66, STd), (65, SBl K256), (56, SCc), (67, SGr), (54, SKe K256), (64, SOf K256), (73, STu K256), (77, SSc), (78, SRo), (81, SRl), (72, SFi), (76, SEn), (71, SSt), (11, SCk), (36, SNo), (9, SMy)] := g74.cons det_SRo fun vs G Q h => by
  unfold SRo at h; split at h
  · exact g74.ret (E := EE) p79 rfl (walk79 h.1.1 h.1.2 h.2)
  · exact h.elim
theorem g80 : Abs.Good EE [(80, SSh), (79, SRo), (74, SFi), (12, SRi K256), (37, SCh K256), (57, SSa), (10, SSi K256), (35, STg), (52, SNu), (46, SHa), (50, SCl), (34, STa K256), (55, SMa K256), (66, STd), (65, SBl K256), (56, SCc), (67, SGr), (54, SKe K256), (64, SOf K256), (73, STu K256), (77, SSc), (78, SRo), (81, SRl), (72, SFi), (76, SEn), (71, SSt), (11, SCk), (36, SNo), (9, SMy)] := g79.cons det_SSh fun vs G Q h => by
  unfold SSh at h; split at h
  · exact g79.ret (E := EE) p80 rfl (walk80 h.1.1 h.1.2 h.2)
  · exact h.elim
theorem g75 : Abs.Good EE [(75, STu K256), (80, SSh), (79, SRo), (74, SFi), (12, SRi K256), (37, SCh K256), (57, SSa), (10, SSi K256), (35, STg), (52, SNu), (46, SHa), (50, SCl), (34, STa K256), (55, SMa K256), (66, STd), (65, SBl K256), (56, SCc), (67, SGr), (54, SKe K256), (64, SOf K256), (73, STu K256), (77, SSc), (78, SRo), (81, SRl), (72, SFi), (76, SEn), (71, SSt), (11, SCk), (36, SNo), (9, SMy)] := g80.cons det_STu_K256 fun vs G Q h => by
  unfold STu at h; split at h
  · exact g80.ret (E := EE) p75 rfl (walk75 rfl rfl rfl h.1.1.1 h.1.1.2 h.1.2.1 h.1.2.2 h.2)
  · exact h.elim
theorem g69 : Abs.Good EE [(69, SRf K256), (75, STu K256), (80, SSh), (79, SRo), (74, SFi), (12, SRi K256), (37, SCh K256), (57, SSa), (10, SSi K256), (35, STg), (52, SNu), (46, SHa), (50, SCl), (34, STa K256), (55, SMa K256), (66, STd), (65, SBl K256), (56, SCc), (67, SGr), (54, SKe K256), (64, SOf K256), (73, STu K256), (77, SSc), (78, SRo), (81, SRl), (72, SFi), (76, SEn), (71, SSt), (11, SCk), (36, SNo), (9, SMy)] := g75.cons det_SRf_K256 fun vs G Q h => by
  unfold SRf at h; split at h
  · obtain ⟨b, ⟨hx, hby, hb⟩, h⟩ := h; exact g75.ret (E := EE) p69 rfl (walk69 rfl rfl hx hby hb h)
  · exact h.elim
theorem g62 : Abs.Good EE [(62, SKe K256), (69, SRf K256), (75, STu K256), (80, SSh), (79, SRo), (74, SFi), (12, SRi K256), (37, SCh K256), (57, SSa), (10, SSi K256), (35, STg), (52, SNu), (46, SHa), (50, SCl), (34, STa K256), (55, SMa K256), (66, STd), (65, SBl K256), (56, SCc), (67, SGr), (54, SKe K256), (64, SOf K256), (73, STu K256), (77, SSc), (78, SRo), (81, SRl), (72, SFi), (76, SEn), (71, SSt), (11, SCk), (36, SNo), (9, SMy)] := g69.cons det_SKe_K256 fun vs G Q h => by
  unfold SKe at h; split at h
  · exact g69.ret (E := EE) p62 rfl (walk62 rfl h)
  · exact h.elim
theorem g70 : Abs.Good EE [(70, SBl K256), (62, SKe K256), (69, SRf K256), (75, STu K256), (80, SSh), (79, SRo), (74, SFi), (12, SRi K256), (37, SCh K256), (57, SSa), (10, SSi K256), (35, STg), (52, SNu), (46, SHa), (50, SCl), (34, STa K256), (55, SMa K256), (66, STd), (65, SBl K256), (56, SCc), (67, SGr), (54, SKe K256), (64, SOf K256), (73, STu K256), (77, SSc), (78, SRo), (81, SRl), (72, SFi), (76, SEn), (71, SSt), (11, SCk), (36, SNo), (9, SMy)] := g62.cons det_SBl_K256 fun vs G Q h => by
  unfold SBl at h; split at h
  · obtain ⟨b, ⟨hx, hby, hb⟩, h⟩ := h; exact g62.ret (E := EE) p70 rfl (walk70 rfl hx hby hb h)
  · exact h.elim
theorem g63 : Abs.Good EE [(63, SMr K256), (70, SBl K256), (62, SKe K256), (69, SRf K256), (75, STu K256), (80, SSh), (79, SRo), (74, SFi), (12, SRi K256), (37, SCh K256), (57, SSa), (10, SSi K256), (35, STg), (52, SNu), (46, SHa), (50, SCl), (34, STa K256), (55, SMa K256), (66, STd), (65, SBl K256), (56, SCc), (67, SGr), (54, SKe K256), (64, SOf K256), (73, STu K256), (77, SSc), (78, SRo), (81, SRl), (72, SFi), (76, SEn), (71, SSt), (11, SCk), (36, SNo), (9, SMy)] := g70.cons det_SMr_K256 fun vs G Q h => by
  unfold SMr at h; split at h
  · obtain ⟨b, c, ⟨h1, h2, h3, h4, h5, h6⟩, h⟩ := h; exact g70.ret (E := EE) p63 rfl (walk63 rfl rfl h1 h2 h3 h4 h5 h6 h)
  · exact h.elim
theorem g49 : Abs.Good EE [(49, STr K256), (63, SMr K256), (70, SBl K256), (62, SKe K256), (69, SRf K256), (75, STu K256), (80, SSh), (79, SRo), (74, SFi), (12, SRi K256), (37, SCh K256), (57, SSa), (10, SSi K256), (35, STg), (52, SNu), (46, SHa), (50, SCl), (34, STa K256), (55, SMa K256), (66, STd), (65, SBl K256), (56, SCc), (67, SGr), (54, SKe K256), (64, SOf K256), (73, STu K256), (77, SSc), (78, SRo), (81, SRl), (72, SFi), (76, SEn), (71, SSt), (11, SCk), (36, SNo), (9, SMy)] := g63.cons det_STr_K256 fun vs G Q h => by
  unfold STr at h; split at h
  · obtain ⟨c, ⟨h1, h2, h3, h4⟩, h⟩ := h; exact g63.ret (E := EE) p49 rfl (walk49 rfl rfl h1 h2 h3 h4 h)
  · exact h.elim
theorem g48 : Abs.Good EE [(48, SBy), (49, STr K256), (63, SMr K256), (70, SBl K256), (62, SKe K256), (69, SRf K256), (75, STu K256), (80, SSh), (79, SRo), (74, SFi), (12, SRi K256), (37, SCh K256), (57, SSa), (10, SSi K256), (35, STg), (52, SNu), (46, SHa), (50, SCl), (34, STa K256), (55, SMa K256), (66, STd), (65, SBl K256), (56, SCc), (67, SGr), (54, SKe K256), (64, SOf K256), (73, STu K256), (77, SSc), (78, SRo), (81, SRl), (72, SFi), (76, SEn), (71, SSt), (11, SCk), (36, SNo), (9, SMy)] := g49.cons det_SBy fun vs G Q h => by
  unfold SBy at h; split at h
  · exact g49.ret (E := EE) p48 rfl (walk48 h.1 h.2)
  · exact h.elim
theorem ind61 : ∀ (k : Nat) vs G Q, SRn k vs G Q → Ret EE 61 vs G Q := by
  intro k
  induction k with
  | zero =>
    intro vs G Q h
    unfold SRn at h; split at h
    · exact absurd h.1.2.2.1 (by decide)
    · exact h.elim
  | succ k ih =>
    intro vs G Q h
    have hg := g48.cons (g := 61) (s := SRn k) (by
      intro vs G Q h
      unfold SRn at h ⊢
      split at h
      · exact ⟨_, _, h.2, fun Q' h' => ⟨h.1, h'⟩⟩
      · exact h.elim) ih
    unfold SRn at h; split at h
    · rename_i n
      obtain ⟨⟨h1, h2, h3, h4⟩, h⟩ := h
      obtain ⟨m, rfl⟩ : ∃ m : Nat, n = m := ⟨n.toNat, by omega⟩
      rw [Int.toNat_natCast] at h h2
      exact hg.ret (E := EE) p61 rfl (walk61 rfl h2 (by omega) h)
    · exact h.elim
theorem g61 : Abs.Good EE [(61, SRn 10), (48, SBy), (49, STr K256), (63, SMr K256), (70, SBl K256), (62, SKe K256), (69, SRf K256), (75, STu K256), (80, SSh), (79, SRo), (74, SFi), (12, SRi K256), (37, SCh K256), (57, SSa), (10, SSi K256), (35, STg), (52, SNu), (46, SHa), (50, SCl), (34, STa K256), (55, SMa K256), (66, STd), (65, SBl K256), (56, SCc), (67, SGr), (54, SKe K256), (64, SOf K256), (73, STu K256), (77, SSc), (78, SRo), (81, SRl), (72, SFi), (76, SEn), (71, SSt), (11, SCk), (36, SNo), (9, SMy)] := g48.cons det_SRn_10 fun vs G Q h => ind61 _ vs G Q h
theorem g53 : Abs.Good EE [(53, ST8), (61, SRn 10), (48, SBy), (49, STr K256), (63, SMr K256), (70, SBl K256), (62, SKe K256), (69, SRf K256), (75, STu K256), (80, SSh), (79, SRo), (74, SFi), (12, SRi K256), (37, SCh K256), (57, SSa), (10, SSi K256), (35, STg), (52, SNu), (46, SHa), (50, SCl), (34, STa K256), (55, SMa K256), (66, STd), (65, SBl K256), (56, SCc), (67, SGr), (54, SKe K256), (64, SOf K256), (73, STu K256), (77, SSc), (78, SRo), (81, SRl), (72, SFi), (76, SEn), (71, SSt), (11, SCk), (36, SNo), (9, SMy)] := g61.cons det_ST8 fun vs G Q h => by
  unfold ST8 at h; split at h
  · exact g61.ret (E := EE) p53 rfl (walk53 rfl rfl h.1.1 h.1.2 h.2)
  · exact h.elim
theorem g38 : Abs.Good EE [(38, STr8 K256), (53, ST8), (61, SRn 10), (48, SBy), (49, STr K256), (63, SMr K256), (70, SBl K256), (62, SKe K256), (69, SRf K256), (75, STu K256), (80, SSh), (79, SRo), (74, SFi), (12, SRi K256), (37, SCh K256), (57, SSa), (10, SSi K256), (35, STg), (52, SNu), (46, SHa), (50, SCl), (34, STa K256), (55, SMa K256), (66, STd), (65, SBl K256), (56, SCc), (67, SGr), (54, SKe K256), (64, SOf K256), (73, STu K256), (77, SSc), (78, SRo), (81, SRl), (72, SFi), (76, SEn), (71, SSt), (11, SCk), (36, SNo), (9, SMy)] := g53.cons det_STr8_K256 fun vs G Q h => by
  unfold STr8 at h; split at h
  · exact g53.ret (E := EE) p38 rfl (walk38 rfl rfl h.1.1 h.1.2 h.2)
  · exact h.elim
theorem g13 : Abs.Good EE [(13, SRi K256), (38, STr8 K256), (53, ST8), (61, SRn 10), (48, SBy), (49, STr K256), (63, SMr K256), (70, SBl K256), (62, SKe K256), (69, SRf K256), (75, STu K256), (80, SSh), (79, SRo), (74, SFi), (12, SRi K256), (37, SCh K256), (57, SSa), (10, SSi K256), (35, STg), (52, SNu), (46, SHa), (50, SCl), (34, STa K256), (55, SMa K256), (66, STd), (65, SBl K256), (56, SCc), (67, SGr), (54, SKe K256), (64, SOf K256), (73, STu K256), (77, SSc), (78, SRo), (81, SRl), (72, SFi), (76, SEn), (71, SSt), (11, SCk), (36, SNo), (9, SMy)] := g38.cons det_SRi_K256 fun vs G Q h => by
  unfold SRi at h; split at h
  · exact g38.ret (E := EE) p13 rfl (walk13 rfl rfl h.1 h.2)
  · exact h.elim
theorem g14 : Abs.Good EE [(14, SAl), (13, SRi K256), (38, STr8 K256), (53, ST8), (61, SRn 10), (48, SBy), (49, STr K256), (63, SMr K256), (70, SBl K256), (62, SKe K256), (69, SRf K256), (75, STu K256), (80, SSh), (79, SRo), (74, SFi), (12, SRi K256), (37, SCh K256), (57, SSa), (10, SSi K256), (35, STg), (52, SNu), (46, SHa), (50, SCl), (34, STa K256), (55, SMa K256), (66, STd), (65, SBl K256), (56, SCc), (67, SGr), (54, SKe K256), (64, SOf K256), (73, STu K256), (77, SSc), (78, SRo), (81, SRl), (72, SFi), (76, SEn), (71, SSt), (11, SCk), (36, SNo), (9, SMy)] := g13.cons det_SAl fun vs G Q h => by
  unfold SAl at h; split at h
  · exact g13.ret (E := EE) p14 rfl (walk14 h)
  · exact h.elim
theorem g15 : Abs.Good EE [(15, SAl), (14, SAl), (13, SRi K256), (38, STr8 K256), (53, ST8), (61, SRn 10), (48, SBy), (49, STr K256), (63, SMr K256), (70, SBl K256), (62, SKe K256), (69, SRf K256), (75, STu K256), (80, SSh), (79, SRo), (74, SFi), (12, SRi K256), (37, SCh K256), (57, SSa), (10, SSi K256), (35, STg), (52, SNu), (46, SHa), (50, SCl), (34, STa K256), (55, SMa K256), (66, STd), (65, SBl K256), (56, SCc), (67, SGr), (54, SKe K256), (64, SOf K256), (73, STu K256), (77, SSc), (78, SRo), (81, SRl), (72, SFi), (76, SEn), (71, SSt), (11, SCk), (36, SNo), (9, SMy)] := g14.cons det_SAl fun vs G Q h => by
  unfold SAl at h; split at h
  · exact g14.ret (E := EE) p15 rfl (walk15 h)
  · exact h.elim
theorem g16 : Abs.Good EE [(16, SAw), (15, SAl), (14, SAl), (13, SRi K256), (38, STr8 K256), (53, ST8), (61, SRn 10), (48, SBy), (49, STr K256), (63, SMr K256), (70, SBl K256), (62, SKe K256), (69, SRf K256), (75, STu K256), (80, SSh), (79, SRo), (74, SFi), (12, SRi K256), (37, SCh K256), (57, SSa), (10, SSi K256), (35, STg), (52, SNu), (46, SHa), (50, SCl), (34, STa K256), (55, SMa K256), (66, STd), (65, SBl K256), (56, SCc), (67, SGr), (54, SKe K256), (64, SOf K256), (73, STu K256), (77, SSc), (78, SRo), (81, SRl), (72, SFi), (76, SEn), (71, SSt), (11, SCk), (36, SNo), (9, SMy)] := g15.cons det_SAw fun vs G Q h => by
  unfold SAw at h; split at h
  · exact g15.ret (E := EE) p16 rfl (walk16 rfl rfl rfl h)
  · exact h.elim
theorem g17 : Abs.Good EE [(17, SSr K256), (16, SAw), (15, SAl), (14, SAl), (13, SRi K256), (38, STr8 K256), (53, ST8), (61, SRn 10), (48, SBy), (49, STr K256), (63, SMr K256), (70, SBl K256), (62, SKe K256), (69, SRf K256), (75, STu K256), (80, SSh), (79, SRo), (74, SFi), (12, SRi K256), (37, SCh K256), (57, SSa), (10, SSi K256), (35, STg), (52, SNu), (46, SHa), (50, SCl), (34, STa K256), (55, SMa K256), (66, STd), (65, SBl K256), (56, SCc), (67, SGr), (54, SKe K256), (64, SOf K256), (73, STu K256), (77, SSc), (78, SRo), (81, SRl), (72, SFi), (76, SEn), (71, SSt), (11, SCk), (36, SNo), (9, SMy)] := g16.cons det_SSr_K256 fun vs G Q h => by
  unfold SSr at h; split at h
  · exact g16.ret (E := EE) p17 rfl (walk17 rfl h.1.1 h.1.2 h.2)
  · exact h.elim
theorem law3 : ∀ vs : List V, TyAll Tryd.prog 12 Tryd.f3.params.toList vs → Ret EE 3 vs [] (fun r _ => r = .v (.bool true)) := by
  intro vs h
  have hk8 : intK Tryd.prog 5 = some .u8 := by kernel_rfl
  simp only [Tryd.params3, TyAll, TyV, TyL, Tryd.underlying25, Tryd.underlying3, Tryd.underlying23, hk8] at h
  obtain ⟨x, l, rfl, ⟨_, rfl, _, _, rfl, ⟨a1, rfl, ia1⟩, _, _, rfl, ⟨a2, rfl, ia2⟩, _, _, rfl, ⟨a3, rfl, ia3⟩, _, _, rfl, ⟨a4, rfl, ia4⟩, _, _, rfl, ⟨a5, rfl, la5, ia5⟩, _, _, rfl, ⟨a6, rfl, ia6⟩, _, _, rfl, ⟨a7, rfl, la7, ia7⟩, _, _, rfl, ⟨a8, rfl, la8, ia8⟩, rfl⟩, _, _, rfl, ⟨_, rfl, _, _, rfl, ⟨b1, rfl, ib1⟩, _, _, rfl, ⟨b2, rfl, ib2⟩, _, _, rfl, ⟨b3, rfl, ib3⟩, _, _, rfl, ⟨b4, rfl, ib4⟩, _, _, rfl, ⟨b5, rfl, lb5, ib5⟩, _, _, rfl, ⟨b6, rfl, ib6⟩, _, _, rfl, ⟨b7, rfl, lb7, ib7⟩, _, _, rfl, ⟨b8, rfl, lb8, ib8⟩, rfl⟩, rfl⟩ := h
  exact g17.ret (E := EE) p3 rfl (walk3 rfl rfl rfl rfl rfl rfl rfl rfl rfl ⟨wf64 ia1, wf64 ia2, wf64 ia3, wf64 ia4, wf64 ia6, ⟨fun x hx => wf8 (ia5 x hx), la5⟩, ⟨fun x hx => wf8 (ia7 x hx), la7⟩, ⟨fun x hx => wf8 (ia8 x hx), la8⟩⟩ ⟨wf64 ib1, wf64 ib2, wf64 ib3, wf64 ib4, wf64 ib6, ⟨fun x hx => wf8 (ib5 x hx), lb5⟩, ⟨fun x hx => wf8 (ib7 x hx), lb7⟩, ⟨fun x hx => wf8 (ib8 x hx), lb8⟩⟩ rfl)
theorem tabOk3 : ∀ g x, Abs.look ([(0, .arr .u32 64 K256), (1, .arr .u32 64 K256)] : List (Nat × V)) g = some x → ∃ nm t e k n xs, (nm, DataW.agg (xs.map fun x => .lit (.int k x))) ∈ Rows.attSignsRow.laid ∧ Tryd.prog.globalNamed nm = some g ∧ (Tryd.prog.globals[g]?).map (·.type) = some t ∧ Tryd.prog.underlying t = some (.array n e) ∧ Tryd.prog.underlying e = some (.int k) ∧ Tryd.prog.cellsOf e = 1 ∧ Tryd.prog.cellsOf t = n ∧ x = .arr k n xs := by
  intro g x h
  by_cases e0 : g = 0
  · subst e0
    simp only [look_cons, if_pos, reduceIte, Nat.reduceEqDiff] at h
    cases h
    exact ⟨"tithing/sha.constants", 108, 103, .u32, 64, K256, by simp only [Rows.attSignsRow, List.mem_cons]; first | (left; rfl) | (right; left; rfl), by kernel_rfl, by kernel_rfl, by kernel_rfl, by kernel_rfl, by kernel_rfl, by kernel_rfl, rfl⟩
  by_cases e1 : g = 1
  · subst e1
    simp only [look_cons, if_pos, reduceIte, Nat.reduceEqDiff] at h
    cases h
    exact ⟨"tithing/tithingref02.constants", 108, 103, .u32, 64, K256, by simp only [Rows.attSignsRow, List.mem_cons]; first | (left; rfl) | (right; left; rfl), by kernel_rfl, by kernel_rfl, by kernel_rfl, by kernel_rfl, by kernel_rfl, by kernel_rfl, rfl⟩
  simp only [look_cons, e0, e1, if_false, look] at h
  cases h
theorem met3 (os : Os) (args : Array Value) : laidMetH Tryd.prog Rows.attSignsRow.laid ((World.doorLaid Tryd.prog 400 os).forCall (fun _ _ => 0) ⟨#[], args, []⟩).memory :=
  laidMetH_of_parts3 (fuel := 8) (laidMet_of_run' 8 (by kernel_rfl) (by kernel_rfl)) (by kernel_rfl) (by kernel_rfl)
set_option maxRecDepth 100000 in
theorem lifted3 (os : Os) (started : os.Started) (H : Type) (enc : TypeId × Value → H) :
    ReturnsInHanded {} Tryd.checked os 3 .any (fun w args => (Rows.attSignsSpec.pre enc Tryd.prog Tryd.f3 [] false w args ∧ laidMetH Tryd.prog Rows.attSignsRow.laid w) ∧ sizedMet enc Tryd.prog Tryd.f3 (OpenSpec.ofChange Rows.attSignsSpec) false w args) (Rows.attSignsSpec.post enc Tryd.prog Tryd.f3 false true false false) :=
  law_laid (C := Tryd.checked) (fn := Tryd.f3) (n := 12) (tab := [(0, .arr .u32 64 K256), (1, .arr .u32 64 K256)]) (tb := 4) own started (by kernel_rfl) Tryd.func3
    (ChangeSpec.witness_shaped (enc := enc) (C := Tryd.checked) (os := os) (X := fun w _ => laidMetH Tryd.prog Rows.attSignsRow.laid w) false (World.doorLaid Tryd.prog 400 os) #[.agg #[.int .i64 0, .int .i64 0, .int .i64 0, .int .i64 0, .int .u8 0, .int .u8 0, .int .u8 0, .int .u8 0, .int .u8 0, .int .u8 0, .int .u8 0, .int .u8 0, .int .u8 0, .int .u8 0, .int .u8 0, .int .u8 0, .int .u8 0, .int .u8 0, .int .u8 0, .int .u8 0, .int .u8 0, .int .u8 0, .int .u8 0, .int .u8 0, .int .u8 0, .int .u8 0, .int .u8 0, .int .u8 0, .int .u8 0, .int .u8 0, .int .u8 0, .int .u8 0, .int .u8 0, .int .u8 0, .int .u8 0, .int .u8 0, .int .i64 0, .int .u8 0, .int .u8 0, .int .u8 0, .int .u8 0, .int .u8 0, .int .u8 0, .int .u8 0, .int .u8 0, .int .u8 0, .int .u8 0, .int .u8 0, .int .u8 0, .int .u8 0, .int .u8 0, .int .u8 0, .int .u8 0, .int .u8 0, .int .u8 0, .int .u8 0, .int .u8 0, .int .u8 0, .int .u8 0, .int .u8 0, .int .u8 0, .int .u8 0, .int .u8 0, .int .u8 0, .int .u8 0, .int .u8 0, .int .u8 0, .int .u8 0, .int .u8 0, .int .u8 0, .int .u8 0, .int .u8 0, .int .u8 0, .int .u8 0, .int .u8 0, .int .u8 0, .int .u8 0, .int .u8 0, .int .u8 0, .int .u8 0, .int .u8 0, .int .u8 0, .int .u8 0, .int .u8 0, .int .u8 0, .int .u8 0, .int .u8 0, .int .u8 0, .int .u8 0, .int .u8 0, .int .u8 0, .int .u8 0, .int .u8 0, .int .u8 0, .int .u8 0, .int .u8 0, .int .u8 0, .int .u8 0, .int .u8 0, .int .u8 0, .int .u8 0], .agg #[.int .i64 0, .int .i64 0, .int .i64 0, .int .i64 0, .int .u8 0, .int .u8 0, .int .u8 0, .int .u8 0, .int .u8 0, .int .u8 0, .int .u8 0, .int .u8 0, .int .u8 0, .int .u8 0, .int .u8 0, .int .u8 0, .int .u8 0, .int .u8 0, .int .u8 0, .int .u8 0, .int .u8 0, .int .u8 0, .int .u8 0, .int .u8 0, .int .u8 0, .int .u8 0, .int .u8 0, .int .u8 0, .int .u8 0, .int .u8 0, .int .u8 0, .int .u8 0, .int .u8 0, .int .u8 0, .int .u8 0, .int .u8 0, .int .i64 0, .int .u8 0, .int .u8 0, .int .u8 0, .int .u8 0, .int .u8 0, .int .u8 0, .int .u8 0, .int .u8 0, .int .u8 0, .int .u8 0, .int .u8 0, .int .u8 0, .int .u8 0, .int .u8 0, .int .u8 0, .int .u8 0, .int .u8 0, .int .u8 0, .int .u8 0, .int .u8 0, .int .u8 0, .int .u8 0, .int .u8 0, .int .u8 0, .int .u8 0, .int .u8 0, .int .u8 0, .int .u8 0, .int .u8 0, .int .u8 0, .int .u8 0, .int .u8 0, .int .u8 0, .int .u8 0, .int .u8 0, .int .u8 0, .int .u8 0, .int .u8 0, .int .u8 0, .int .u8 0, .int .u8 0, .int .u8 0, .int .u8 0, .int .u8 0, .int .u8 0, .int .u8 0, .int .u8 0, .int .u8 0, .int .u8 0, .int .u8 0, .int .u8 0, .int .u8 0, .int .u8 0, .int .u8 0, .int .u8 0, .int .u8 0, .int .u8 0, .int .u8 0, .int .u8 0, .int .u8 0, .int .u8 0, .int .u8 0, .int .u8 0, .int .u8 0]] 8 rfl (World.shaped_of_RefB (by kernel_rfl) (by kernel_rfl)) (by kernel_rfl) (by kernel_rfl) (by kernel_rfl) (met3 os _))
    laidOut rfl rfl Tryd.underlying4 (fun H ds h => by
      rw [Tryd.params3] at h
      match ds, h with
      | [d1, d2], _ => rfl)
    (fun t ht => by
      rw [Tryd.params3] at ht; simp at ht; rcases ht with rfl | rfl
      all_goals exact ⟨by kernel_rfl, of_decide_eq_true (by kernel_rfl)⟩)
    (fun t ht => by
      rw [Tryd.params3] at ht; simp at ht; rcases ht with rfl | rfl
      all_goals kernel_rfl)
    (fun W hL => tabs_of_laid (by kernel_rfl) hL (tabOk3)) law3
theorem over3 : Rows.attSignsRow.holds Tryd.pinned (OpenSpec.ofChange Rows.attSignsSpec) :=
  OpenClaim.holds_of_wide 3 Tryd.f3 rfl rfl rfl rfl rfl rfl rfl ⟨rfl, rfl, rfl, rfl, rfl⟩ rfl rfl rfl rfl rfl (by kernel_rfl) Tryd.func3 (by kernel_rfl)
    (of_decide_eq_true (by kernel_rfl)) (by unfold Func.isWrapper; first | (rw [if_pos (by decide +kernel)]; kernel_rfl) | (rw [if_neg (by decide +kernel)]; exact ⟨rfl, rfl⟩))
    (fun os started H enc _ => lifted3 os started H enc)
theorem attSigns_holds : Rows.AttSignsCardSaid :=
  Claim7.holds_tied_plain_at .later [] [.data, .data] true (true, "7fcc048a7e2da9567ba7f78ecbc16aececed3802d0b0264e315d33bc8d2dbdc5") false
    over3 (fun _ h => by cases h) (by kernel_rfl) (fun _ h => by cases h) attSigns_row_tie rfl ⟨rfl, rfl⟩ (by kernel_rfl) rfl
    (fun f fn hf hfn => by
      obtain rfl : f = 3 := Option.some.inj ((show Tryd.prog.funcNamed "tithing/tithinglaw08.AttSigns" = some 3 by kernel_rfl).symm.trans hf) |>.symm
      obtain rfl : fn = Tryd.f3 := (Option.some.inj (Tryd.func3.symm.trans hfn)).symm
      exact ⟨by kernel_rfl, fun j t ht => by
        rw [Tryd.params3] at ht
        have hm : t ∈ [25, 25] := by simpa using Array.mem_of_getElem? ht
        have hall : ([25, 25].all fun u => !Tryd.prog.wantsStandIn u) = true := by kernel_rfl
        exact (show Tryd.prog.wantsStandIn t = false by simpa using List.all_eq_true.1 hall t hm)⟩)
    (by kernel_rfl)
#print axioms attSigns_holds
end Go.Proofs.YtpedaeaikbmbnaaDoor.Sha
