/- For every input AccuMakes returns true and leaves its arguments as they were; no conditions. -/
import Derived.Test.YtjbglbhcbenhpaaDoorTAcc6
import Derived.Test.YtjbglbhcbenhpaaDoorCrtB
import Derived.Test.YtjbglbhcbenhpaaDoorTSrt6
import Derived.Test.YtjbglbhcbenhpaaDoorTSha1
import Derived.Test.YtjbglbhcbenhpaaDoorTSha2
import Derived.Test.YtjbglbhcbenhpaaDoorTSha3
import Derived.Test.YtjbglbhcbenhpaaDoorTSha4
import Derived.Test.YtjbglbhcbenhpaaDoorTAtt2
import Derived.Test.YtjbglbhcbenhpaaDoorRows
import Derived.Test.YtjbglbhcbenhpaaDoorCards
import Derived.Test.YtjbglbhcbenhpaaDoorTie
import Derived.OpenShut
import Derived.Below
import Derived.SevenTiedAt
namespace Go.Proofs.YtjbglbhcbenhpaaDoor.Sha
open Go Go.Abs Go.RowKit Go.Abs.Sha Go.Abs.Srt
set_option linter.unusedSimpArgs false
set_option linter.unusedVariables false
set_option maxRecDepth 100000
theorem p6 : prepF Tryd.prog 6 12 [[1, 2, 5, 9, 10], [1, 2, 5, 9, 10, 11]] [] = some pf6 := by kernel_rfl
theorem p37 : prepF Tryd.prog 37 3 [] [] = some pf37 := by kernel_rfl
theorem p133 : prepF Tryd.prog 133 1 [] [] = some pf133 := by kernel_rfl
theorem p139 : prepF Tryd.prog 139 5 [[0, 3, 4]] [] = some pf139 := by kernel_rfl
theorem p134 : prepF Tryd.prog 134 4 [] [] = some pf134 := by kernel_rfl
theorem p145 : prepF Tryd.prog 145 6 [] [] = some pf145 := by kernel_rfl
theorem p141 : prepF Tryd.prog 141 5 [] [] = some pf141 := by kernel_rfl
theorem p140 : prepF Tryd.prog 140 23 [[1, 2, 3, 12], [1, 2, 3, 4, 12, 20, 21, 22], [2, 3, 7]] [] = some pf140 := by kernel_rfl
theorem p135 : prepF Tryd.prog 135 109 [[2, 4, 5, 6, 7, 8, 9, 10, 11, 12, 36, 37], [2, 4, 107, 108]] [] = some pf135 := by kernel_rfl
theorem p123 : prepF Tryd.prog 123 37 [[2, 3, 11, 12, 13], [2, 6, 7], [2, 8, 35, 36]] [] = some pf123 := by kernel_rfl
theorem p104 : prepF Tryd.prog 104 3 [] [] = some pf104 := by kernel_rfl
theorem p126 : prepF Tryd.prog 126 5 [] [] = some pf126 := by kernel_rfl
theorem p106 : prepF Tryd.prog 106 28 [[0, 3, 9, 10, 11], [6, 25, 26, 27]] [] = some pf106 := by kernel_rfl
theorem p124 : prepF Tryd.prog 124 5 [] [] = some pf124 := by kernel_rfl
theorem p125 : prepF Tryd.prog 125 7 [[1, 2, 6]] [] = some pf125 := by kernel_rfl
theorem p105 : prepF Tryd.prog 105 7 [] [] = some pf105 := by kernel_rfl
theorem p62 : prepF Tryd.prog 62 8 [] [] = some pf62 := by kernel_rfl
theorem p111 : prepF Tryd.prog 111 10 [[3, 5, 8, 9]] [] = some pf111 := by kernel_rfl
theorem p68 : prepF Tryd.prog 68 9 [] [] = some pf68 := by kernel_rfl
theorem p99 : prepF Tryd.prog 99 4 [] [] = some pf99 := by kernel_rfl
theorem p50 : prepF Tryd.prog 50 3 [] [] = some pf50 := by kernel_rfl
theorem p87 : prepF Tryd.prog 87 5 [] [] = some pf87 := by kernel_rfl
theorem p107 : prepF Tryd.prog 107 6 [[1, 5]] [] = some pf107 := by kernel_rfl
theorem p100 : prepF Tryd.prog 100 16 [[0, 3, 13, 14, 15]] [] = some pf100 := by kernel_rfl
theorem p60 : prepF Tryd.prog 60 3 [] [] = some pf60 := by kernel_rfl
theorem p69 : prepF Tryd.prog 69 4 [] [] = some pf69 := by kernel_rfl
theorem p71 : prepF Tryd.prog 71 5 [] [] = some pf71 := by kernel_rfl
theorem p70 : prepF Tryd.prog 70 4 [] [] = some pf70 := by kernel_rfl
theorem p59 : prepF Tryd.prog 59 5 [] [] = some pf59 := by kernel_rfl
theorem p113 : prepF Tryd.prog 113 3 [] [] = some pf113 := by kernel_rfl
theorem p75 : prepF Tryd.prog 75 7 [] [] = some pf75 := by kernel_rfl
theorem p74 : prepF Tryd.prog 74 5 [] [] = some pf74 := by kernel_rfl
theorem p102 : prepF Tryd.prog 102 5 [] [] = some pf102 := by kernel_rfl
theorem p77 : prepF Tryd.prog 77 5 [] [] = some pf77 := by kernel_rfl
theorem p103 : prepF Tryd.prog 103 5 [] [] = some pf103 := by kernel_rfl
theorem p82 : prepF Tryd.prog 82 6 [] [] = some pf82 := by kernel_rfl
theorem p81 : prepF Tryd.prog 81 4 [] [] = some pf81 := by kernel_rfl
theorem p56 : prepF Tryd.prog 56 3 [] [] = some pf56 := by kernel_rfl
theorem p57 : prepF Tryd.prog 57 7 [] [] = some pf57 := by kernel_rfl
theorem p101 : prepF Tryd.prog 101 9 [[0, 1, 7, 8]] [] = some pf101 := by kernel_rfl
theorem p58 : prepF Tryd.prog 58 5 [] [] = some pf58 := by kernel_rfl
theorem p72 : prepF Tryd.prog 72 3 [] [5, 7] = some pf72 := by kernel_rfl
theorem p128 : prepF Tryd.prog 128 10 [[0, 1, 2, 3, 8], [0, 1, 2, 3, 8, 9]] [] = some pf128 := by kernel_rfl
theorem p142 : prepF Tryd.prog 142 11 [[0, 1, 2, 3, 10]] [] = some pf142 := by kernel_rfl
theorem p136 : prepF Tryd.prog 136 12 [[0, 2, 4, 10, 11]] [] = some pf136 := by kernel_rfl
theorem p129 : prepF Tryd.prog 129 25 [[0, 1, 4, 10, 11], [0, 10, 13], [0, 2, 4, 14, 15], [0, 14, 17], [0, 1, 2, 3, 4, 18, 19, 20, 21, 22]] [] = some pf129 := by kernel_rfl
theorem p112 : prepF Tryd.prog 112 10 [[0, 1, 2, 6, 7, 8], [0, 1, 2, 6], [0, 1, 2, 6, 7, 8]] [] = some pf112 := by kernel_rfl
theorem p73 : prepF Tryd.prog 73 2 [] [] = some pf73 := by kernel_rfl
theorem p76 : prepF Tryd.prog 76 8 [[0, 1, 5], [0, 1, 5, 6, 7]] [] = some pf76 := by kernel_rfl
theorem p61 : prepF Tryd.prog 61 4 [] [] = some pf61 := by kernel_rfl
theorem p63 : prepF Tryd.prog 63 29 [[0, 26, 27, 28]] [] = some pf63 := by kernel_rfl
theorem p26 : prepF Tryd.prog 26 50 [[0, 8, 12, 47, 48, 49]] [5, 6, 69] = some pf26 := by kernel_rfl
theorem p67 : prepF Tryd.prog 67 10 [[1, 3, 7, 8, 9]] [] = some pf67 := by kernel_rfl
theorem p29 : prepF Tryd.prog 29 6 [] [] = some pf29 := by kernel_rfl
theorem p55 : prepF Tryd.prog 55 3 [] [] = some pf55 := by kernel_rfl
theorem p25 : prepF Tryd.prog 25 5 [] [] = some pf25 := by kernel_rfl
theorem p64 : prepF Tryd.prog 64 4 [[0, 3]] [] = some pf64 := by kernel_rfl
theorem p108 : prepF Tryd.prog 108 3 [] [] = some pf108 := by kernel_rfl
theorem p137 : prepF Tryd.prog 137 5 [[0, 3]] [] = some pf137 := by kernel_rfl
theorem p143 : prepF Tryd.prog 143 6 [[0, 1, 5]] [] = some pf143 := by kernel_rfl
theorem p144 : prepF Tryd.prog 144 6 [[0, 1, 5]] [] = some pf144 := by kernel_rfl
theorem p138 : prepF Tryd.prog 138 18 [[2, 3, 4, 5, 6], [2, 4, 5, 9, 10], [2, 4, 9, 17]] [] = some pf138 := by kernel_rfl
theorem p131 : prepF Tryd.prog 131 10 [[2, 3, 4, 5], [2, 3, 4, 5, 6, 7], [2, 3, 8, 9]] [] = some pf131 := by kernel_rfl
theorem p120 : prepF Tryd.prog 120 3 [] [] = some pf120 := by kernel_rfl
theorem p132 : prepF Tryd.prog 132 7 [[2, 3, 4, 5], [0, 2, 3, 6]] [] = some pf132 := by kernel_rfl
theorem p121 : prepF Tryd.prog 121 11 [[1, 4, 5, 6, 7, 8], [4, 7, 9, 10]] [] = some pf121 := by kernel_rfl
theorem p97 : prepF Tryd.prog 97 10 [[1, 2, 6, 7, 8, 9]] [] = some pf97 := by kernel_rfl
theorem p96 : prepF Tryd.prog 96 5 [[1, 3, 4]] [] = some pf96 := by kernel_rfl
theorem p119 : prepF Tryd.prog 119 3 [] [] = some pf119 := by kernel_rfl
theorem p127 : prepF Tryd.prog 127 4 [] [] = some pf127 := by kernel_rfl
theorem p109 : prepF Tryd.prog 109 3 [] [] = some pf109 := by kernel_rfl
theorem p65 : prepF Tryd.prog 65 3 [] [] = some pf65 := by kernel_rfl
theorem p110 : prepF Tryd.prog 110 5 [[1, 3, 4]] [] = some pf110 := by kernel_rfl
theorem p66 : prepF Tryd.prog 66 3 [] [] = some pf66 := by kernel_rfl
theorem p27 : prepF Tryd.prog 27 15 [[0, 1, 2, 3, 8, 10, 11], [1, 3, 8, 10, 12, 13], [1, 3, 8, 10, 12, 13, 14]] [134] = some pf27 := by kernel_rfl
theorem p28 : prepF Tryd.prog 28 6 [[2, 3, 5]] [] = some pf28 := by kernel_rfl
theorem det_SNo : (SNo).Det := by
  intro vs G Q h; unfold SNo at h ⊢; split at h <;> first | exact h.elim | exact det00 h | exact det0 h | exact detE1 h | exact detE2 h | exact detE3 h | exact detE4 h | exact detE5 h | exact detE6 h | exact detE7 h | exact detN h | exact detA h | exact detN0 h | exact detN1 h | exact detN2 h | exact detN3 h | exact detA0 h | exact detA1 h | exact detA2 h | exact detA3 h | exact detIf h
theorem det_SSt : (SSt).Det := by
  intro vs G Q h; unfold SSt at h ⊢; split at h <;> first | exact h.elim | exact det00 h | exact det0 h | exact detE1 h | exact detE2 h | exact detE3 h | exact detE4 h | exact detE5 h | exact detE6 h | exact detE7 h | exact detN h | exact detA h | exact detN0 h | exact detN1 h | exact detN2 h | exact detN3 h | exact detA0 h | exact detA1 h | exact detA2 h | exact detA3 h | exact detIf h
theorem det_SEn : (SEn).Det := by
  intro vs G Q h; unfold SEn at h ⊢; split at h <;> first | exact h.elim | exact det00 h | exact det0 h | exact detE1 h | exact detE2 h | exact detE3 h | exact detE4 h | exact detE5 h | exact detE6 h | exact detE7 h | exact detN h | exact detA h | exact detN0 h | exact detN1 h | exact detN2 h | exact detN3 h | exact detA0 h | exact detA1 h | exact detA2 h | exact detA3 h | exact detIf h
theorem det_SFi : (SFi).Det := by
  intro vs G Q h; unfold SFi at h ⊢; split at h <;> first | exact h.elim | exact det00 h | exact det0 h | exact detE1 h | exact detE2 h | exact detE3 h | exact detE4 h | exact detE5 h | exact detE6 h | exact detE7 h | exact detN h | exact detA h | exact detN0 h | exact detN1 h | exact detN2 h | exact detN3 h | exact detA0 h | exact detA1 h | exact detA2 h | exact detA3 h | exact detIf h
theorem det_SRl : (SRl).Det := by
  intro vs G Q h; unfold SRl at h ⊢; split at h <;> first | exact h.elim | exact det00 h | exact det0 h | exact detE1 h | exact detE2 h | exact detE3 h | exact detE4 h | exact detE5 h | exact detE6 h | exact detE7 h | exact detN h | exact detA h | exact detN0 h | exact detN1 h | exact detN2 h | exact detN3 h | exact detA0 h | exact detA1 h | exact detA2 h | exact detA3 h | exact detIf h
theorem det_SRo : (SRo).Det := by
  intro vs G Q h; unfold SRo at h ⊢; split at h <;> first | exact h.elim | exact det00 h | exact det0 h | exact detE1 h | exact detE2 h | exact detE3 h | exact detE4 h | exact detE5 h | exact detE6 h | exact detE7 h | exact detN h | exact detA h | exact detN0 h | exact detN1 h | exact detN2 h | exact detN3 h | exact detA0 h | exact detA1 h | exact detA2 h | exact detA3 h | exact detIf h
theorem det_SSc : (SSc).Det := by
  intro vs G Q h; unfold SSc at h ⊢; split at h <;> first | exact h.elim | exact det00 h | exact det0 h | exact detE1 h | exact detE2 h | exact detE3 h | exact detE4 h | exact detE5 h | exact detE6 h | exact detE7 h | exact detN h | exact detA h | exact detN0 h | exact detN1 h | exact detN2 h | exact detN3 h | exact detA0 h | exact detA1 h | exact detA2 h | exact detA3 h | exact detIf h
theorem det_STu_K256 : (STu K256).Det := by
  intro vs G Q h; unfold STu at h ⊢; split at h <;> first | exact h.elim | exact det00 h | exact det0 h | exact detE1 h | exact detE2 h | exact detE3 h | exact detE4 h | exact detE5 h | exact detE6 h | exact detE7 h | exact detN h | exact detA h | exact detN0 h | exact detN1 h | exact detN2 h | exact detN3 h | exact detA0 h | exact detA1 h | exact detA2 h | exact detA3 h | exact detIf h
theorem det_SOf_K256 : (SOf K256).Det := by
  intro vs G Q h; unfold SOf at h ⊢; split at h <;> first | exact h.elim | exact det00 h | exact det0 h | exact detE1 h | exact detE2 h | exact detE3 h | exact detE4 h | exact detE5 h | exact detE6 h | exact detE7 h | exact detN h | exact detA h | exact detN0 h | exact detN1 h | exact detN2 h | exact detN3 h | exact detA0 h | exact detA1 h | exact detA2 h | exact detA3 h | exact detIf h
theorem det_SKe_K256 : (SKe K256).Det := by
  intro vs G Q h; unfold SKe at h ⊢; split at h <;> first | exact h.elim | exact det00 h | exact det0 h | exact detE1 h | exact detE2 h | exact detE3 h | exact detE4 h | exact detE5 h | exact detE6 h | exact detE7 h | exact detN h | exact detA h | exact detN0 h | exact detN1 h | exact detN2 h | exact detN3 h | exact detA0 h | exact detA1 h | exact detA2 h | exact detA3 h | exact detIf h
theorem det_SGr : (SGr).Det := by
  intro vs G Q h; unfold SGr at h ⊢; split at h <;> first | exact h.elim | exact det00 h | exact det0 h | exact detE1 h | exact detE2 h | exact detE3 h | exact detE4 h | exact detE5 h | exact detE6 h | exact detE7 h | exact detN h | exact detA h | exact detN0 h | exact detN1 h | exact detN2 h | exact detN3 h | exact detA0 h | exact detA1 h | exact detA2 h | exact detA3 h | exact detIf h
theorem det_SCc : (SCc).Det := by
  intro vs G Q h; unfold SCc at h ⊢; split at h <;> first | exact h.elim | exact det00 h | exact det0 h | exact detE1 h | exact detE2 h | exact detE3 h | exact detE4 h | exact detE5 h | exact detE6 h | exact detE7 h | exact detN h | exact detA h | exact detN0 h | exact detN1 h | exact detN2 h | exact detN3 h | exact detA0 h | exact detA1 h | exact detA2 h | exact detA3 h | exact detIf h
theorem det_SBl_K256 : (SBl K256).Det := by
  intro vs G Q h; unfold SBl at h ⊢; split at h <;> first | exact h.elim | exact det00 h | exact det0 h | exact detE1 h | exact detE2 h | exact detE3 h | exact detE4 h | exact detE5 h | exact detE6 h | exact detE7 h | exact detN h | exact detA h | exact detN0 h | exact detN1 h | exact detN2 h | exact detN3 h | exact detA0 h | exact detA1 h | exact detA2 h | exact detA3 h | exact detIf h
theorem det_STd : (STd).Det := by
  intro vs G Q h; unfold STd at h ⊢; split at h <;> first | exact h.elim | exact det00 h | exact det0 h | exact detE1 h | exact detE2 h | exact detE3 h | exact detE4 h | exact detE5 h | exact detE6 h | exact detE7 h | exact detN h | exact detA h | exact detN0 h | exact detN1 h | exact detN2 h | exact detN3 h | exact detA0 h | exact detA1 h | exact detA2 h | exact detA3 h | exact detIf h
theorem det_SMa_K256 : (SMa K256).Det := by
  intro vs G Q h; unfold SMa at h ⊢; split at h <;> first | exact h.elim | exact det00 h | exact det0 h | exact detE1 h | exact detE2 h | exact detE3 h | exact detE4 h | exact detE5 h | exact detE6 h | exact detE7 h | exact detN h | exact detA h | exact detN0 h | exact detN1 h | exact detN2 h | exact detN3 h | exact detA0 h | exact detA1 h | exact detA2 h | exact detA3 h | exact detIf h
theorem det_STa_K256 : (STa K256).Det := by
  intro vs G Q h; unfold STa at h ⊢; split at h <;> first | exact h.elim | exact det00 h | exact det0 h | exact detE1 h | exact detE2 h | exact detE3 h | exact detE4 h | exact detE5 h | exact detE6 h | exact detE7 h | exact detN h | exact detA h | exact detN0 h | exact detN1 h | exact detN2 h | exact detN3 h | exact detA0 h | exact detA1 h | exact detA2 h | exact detA3 h | exact detIf h
theorem det_SSa : (SSa).Det := by
  intro vs G Q h; unfold SSa at h ⊢; split at h <;> first | exact h.elim | exact det00 h | exact det0 h | exact detE1 h | exact detE2 h | exact detE3 h | exact detE4 h | exact detE5 h | exact detE6 h | exact detE7 h | exact detN h | exact detA h | exact detN0 h | exact detN1 h | exact detN2 h | exact detN3 h | exact detA0 h | exact detA1 h | exact detA2 h | exact detA3 h | exact detIf h
theorem det_SCh_K256 : (SCh K256).Det := by
  intro vs G Q h; unfold SCh at h ⊢; split at h <;> first | exact h.elim | exact det00 h | exact det0 h | exact detE1 h | exact detE2 h | exact detE3 h | exact detE4 h | exact detE5 h | exact detE6 h | exact detE7 h | exact detN h | exact detA h | exact detN0 h | exact detN1 h | exact detN2 h | exact detN3 h | exact detA0 h | exact detA1 h | exact detA2 h | exact detA3 h | exact detIf h
theorem det_SCk : (SCk).Det := by
  intro vs G Q h; unfold SCk at h ⊢; split at h <;> first | exact h.elim | exact det00 h | exact det0 h | exact detE1 h | exact detE2 h | exact detE3 h | exact detE4 h | exact detE5 h | exact detE6 h | exact detE7 h | exact detN h | exact detA h | exact detN0 h | exact detN1 h | exact detN2 h | exact detN3 h | exact detA0 h | exact detA1 h | exact detA2 h | exact detA3 h | exact detIf h
theorem det_SCl : (SCl).Det := by
  intro vs G Q h; unfold SCl at h ⊢; split at h <;> first | exact h.elim | exact det00 h | exact det0 h | exact detE1 h | exact detE2 h | exact detE3 h | exact detE4 h | exact detE5 h | exact detE6 h | exact detE7 h | exact detN h | exact detA h | exact detN0 h | exact detN1 h | exact detN2 h | exact detN3 h | exact detA0 h | exact detA1 h | exact detA2 h | exact detA3 h | exact detIf h
theorem det_SHa : (SHa).Det := by
  intro vs G Q h; unfold SHa at h ⊢; split at h <;> first | exact h.elim | exact det00 h | exact det0 h | exact detE1 h | exact detE2 h | exact detE3 h | exact detE4 h | exact detE5 h | exact detE6 h | exact detE7 h | exact detN h | exact detA h | exact detN0 h | exact detN1 h | exact detN2 h | exact detN3 h | exact detA0 h | exact detA1 h | exact detA2 h | exact detA3 h | exact detIf h
theorem det_SNu : (SNu).Det := by
  intro vs G Q h; unfold SNu at h ⊢; split at h <;> first | exact h.elim | exact det00 h | exact det0 h | exact detE1 h | exact detE2 h | exact detE3 h | exact detE4 h | exact detE5 h | exact detE6 h | exact detE7 h | exact detN h | exact detA h | exact detN0 h | exact detN1 h | exact detN2 h | exact detN3 h | exact detA0 h | exact detA1 h | exact detA2 h | exact detA3 h | exact detIf h
theorem det_STg : (STg).Det := by
  intro vs G Q h; unfold STg at h ⊢; split at h <;> first | exact h.elim | exact det00 h | exact det0 h | exact detE1 h | exact detE2 h | exact detE3 h | exact detE4 h | exact detE5 h | exact detE6 h | exact detE7 h | exact detN h | exact detA h | exact detN0 h | exact detN1 h | exact detN2 h | exact detN3 h | exact detA0 h | exact detA1 h | exact detA2 h | exact detA3 h | exact detIf h
theorem det_SRi_K256 : (SRi K256).Det := by
  intro vs G Q h; unfold SRi at h ⊢; split at h <;> first | exact h.elim | exact det00 h | exact det0 h | exact detE1 h | exact detE2 h | exact detE3 h | exact detE4 h | exact detE5 h | exact detE6 h | exact detE7 h | exact detN h | exact detA h | exact detN0 h | exact detN1 h | exact detN2 h | exact detN3 h | exact detA0 h | exact detA1 h | exact detA2 h | exact detA3 h | exact detIf h
theorem det_ZP1_K256 : (ZP1 K256).Det := by
  intro vs G Q h; unfold ZP1 at h ⊢; split at h <;> first | exact h.elim | exact det00 h | exact det0 h | exact detE1 h | exact detE2 h | exact detE3 h | exact detE4 h | exact detE5 h | exact detE6 h | exact detE7 h | exact detN h | exact detA h | exact detN0 h | exact detN1 h | exact detN2 h | exact detN3 h | exact detA0 h | exact detA1 h | exact detA2 h | exact detA3 h | exact detIf h
theorem det_SAl : (SAl).Det := by
  intro vs G Q h; unfold SAl at h ⊢; split at h <;> first | exact h.elim | exact det00 h | exact det0 h | exact detE1 h | exact detE2 h | exact detE3 h | exact detE4 h | exact detE5 h | exact detE6 h | exact detE7 h | exact detN h | exact detA h | exact detN0 h | exact detN1 h | exact detN2 h | exact detN3 h | exact detA0 h | exact detA1 h | exact detA2 h | exact detA3 h | exact detIf h
theorem det_ZP2 : (ZP2).Det := by
  intro vs G Q h; unfold ZP2 at h ⊢; split at h <;> first | exact h.elim | exact det00 h | exact det0 h | exact detE1 h | exact detE2 h | exact detE3 h | exact detE4 h | exact detE5 h | exact detE6 h | exact detE7 h | exact detN h | exact detA h | exact detN0 h | exact detN1 h | exact detN2 h | exact detN3 h | exact detA0 h | exact detA1 h | exact detA2 h | exact detA3 h | exact detIf h
theorem det_ZP3_K256 : (ZP3 K256).Det := by
  intro vs G Q h; unfold ZP3 at h ⊢; split at h <;> first | exact h.elim | exact det00 h | exact det0 h | exact detE1 h | exact detE2 h | exact detE3 h | exact detE4 h | exact detE5 h | exact detE6 h | exact detE7 h | exact detN h | exact detA h | exact detN0 h | exact detN1 h | exact detN2 h | exact detN3 h | exact detA0 h | exact detA1 h | exact detA2 h | exact detA3 h | exact detIf h
theorem det_ZNan : (ZNan).Det := by
  intro vs G Q h; unfold ZNan at h ⊢; split at h <;> first | exact h.elim | exact det00 h | exact det0 h | exact detE1 h | exact detE2 h | exact detE3 h | exact detE4 h | exact detE5 h | exact detE6 h | exact detE7 h | exact detN h | exact detA h | exact detN0 h | exact detN1 h | exact detN2 h | exact detN3 h | exact detA0 h | exact detA1 h | exact detA2 h | exact detA3 h | exact detIf h
theorem det_ZCmp : (ZCmp).Det := by
  intro vs G Q h; unfold ZCmp at h ⊢; split at h <;> first | exact h.elim | exact det00 h | exact det0 h | exact detE1 h | exact detE2 h | exact detE3 h | exact detE4 h | exact detE5 h | exact detE6 h | exact detE7 h | exact detN h | exact detA h | exact detN0 h | exact detN1 h | exact detN2 h | exact detN3 h | exact detA0 h | exact detA1 h | exact detA2 h | exact detA3 h | exact detIf h
theorem det_ZCb : (ZCb).Det := by
  intro vs G Q h; unfold ZCb at h ⊢; split at h <;> first | exact h.elim | exact det00 h | exact det0 h | exact detE1 h | exact detE2 h | exact detE3 h | exact detE4 h | exact detE5 h | exact detE6 h | exact detE7 h | exact detN h | exact detA h | exact detN0 h | exact detN1 h | exact detN2 h | exact detN3 h | exact detA0 h | exact detA1 h | exact detA2 h | exact detA3 h | exact detIf h
theorem det_ZEb : (ZEb).Det := by
  intro vs G Q h; unfold ZEb at h ⊢; split at h <;> first | exact h.elim | exact det00 h | exact det0 h | exact detE1 h | exact detE2 h | exact detE3 h | exact detE4 h | exact detE5 h | exact detE6 h | exact detE7 h | exact detN h | exact detA h | exact detN0 h | exact detN1 h | exact detN2 h | exact detN3 h | exact detA0 h | exact detA1 h | exact detA2 h | exact detA3 h | exact detIf h
theorem det_ZWi : (ZWi).Det := by
  intro vs G Q h; unfold ZWi at h ⊢; split at h <;> first | exact h.elim | exact det00 h | exact det0 h | exact detE1 h | exact detE2 h | exact detE3 h | exact detE4 h | exact detE5 h | exact detE6 h | exact detE7 h | exact detN h | exact detA h | exact detN0 h | exact detN1 h | exact detN2 h | exact detN3 h | exact detA0 h | exact detA1 h | exact detA2 h | exact detA3 h | exact detIf h
theorem det_ZCr_K256 : (ZCr K256).Det := by
  intro vs G Q h; unfold ZCr at h ⊢; split at h <;> first | exact h.elim | exact det00 h | exact det0 h | exact detE1 h | exact detE2 h | exact detE3 h | exact detE4 h | exact detE5 h | exact detE6 h | exact detE7 h | exact detN h | exact detA h | exact detN0 h | exact detN1 h | exact detN2 h | exact detN3 h | exact detA0 h | exact detA1 h | exact detA2 h | exact detA3 h | exact detIf h
theorem det_ZQu : (ZQu).Det := by
  intro vs G Q h; unfold ZQu at h ⊢; split at h <;> first | exact h.elim | exact det00 h | exact det0 h | exact detE1 h | exact detE2 h | exact detE3 h | exact detE4 h | exact detE5 h | exact detE6 h | exact detE7 h | exact detN h | exact detA h | exact detN0 h | exact detN1 h | exact detN2 h | exact detN3 h | exact detA0 h | exact detA1 h | exact detA2 h | exact detA3 h | exact detIf h
theorem det_ZWn : (ZWn).Det := by
  intro vs G Q h; unfold ZWn at h ⊢; split at h <;> first | exact h.elim | exact det00 h | exact det0 h | exact detE1 h | exact detE2 h | exact detE3 h | exact detE4 h | exact detE5 h | exact detE6 h | exact detE7 h | exact detN h | exact detA h | exact detN0 h | exact detN1 h | exact detN2 h | exact detN3 h | exact detA0 h | exact detA1 h | exact detA2 h | exact detA3 h | exact detIf h
theorem det_ZIx_TT : (ZIx TT).Det := by
  intro vs G Q h; unfold ZIx at h ⊢; split at h <;> first | exact h.elim | exact det00 h | exact det0 h | exact detE1 h | exact detE2 h | exact detE3 h | exact detE4 h | exact detE5 h | exact detE6 h | exact detE7 h | exact detN h | exact detA h | exact detN0 h | exact detN1 h | exact detN2 h | exact detN3 h | exact detA0 h | exact detA1 h | exact detA2 h | exact detA3 h | exact detIf h
theorem det_ZCo_TT : (ZCo TT).Det := by
  intro vs G Q h; unfold ZCo at h ⊢; split at h <;> first | exact h.elim | exact det00 h | exact det0 h | exact detE1 h | exact detE2 h | exact detE3 h | exact detE4 h | exact detE5 h | exact detE6 h | exact detE7 h | exact detN h | exact detA h | exact detN0 h | exact detN1 h | exact detN2 h | exact detN3 h | exact detA0 h | exact detA1 h | exact detA2 h | exact detA3 h | exact detIf h
theorem det_ZCn : (ZCn).Det := by
  intro vs G Q h; unfold ZCn at h ⊢; split at h
  · obtain ⟨h0, h | ⟨h1, h⟩⟩ := h
    · exact ⟨_, h.2, fun Q' h' => ⟨h0, .inl h'⟩⟩
    · exact absurd (congrArg List.length (h (fresh_id _).choose _ (fresh_id _).choose_spec (Nat.le_refl _)).1) (by simp)
  · exact h.elim
theorem det_ZIs_TT : (ZIs TT).Det := by
  intro vs G Q h; unfold ZIs at h ⊢; split at h <;> first | exact h.elim | exact det00 h | exact det0 h | exact detE1 h | exact detE2 h | exact detE3 h | exact detE4 h | exact detE5 h | exact detE6 h | exact detE7 h | exact detN h | exact detA h | exact detN0 h | exact detN1 h | exact detN2 h | exact detN3 h | exact detA0 h | exact detA1 h | exact detA2 h | exact detA3 h | exact detIf h
theorem det_ZSr : (ZSr).Det := by
  intro vs G Q h; unfold ZSr at h ⊢; split at h <;> first | exact h.elim | exact det00 h | exact det0 h | exact detE1 h | exact detE2 h | exact detE3 h | exact detE4 h | exact detE5 h | exact detE6 h | exact detE7 h | exact detN h | exact detA h | exact detN0 h | exact detN1 h | exact detN2 h | exact detN3 h | exact detA0 h | exact detA1 h | exact detA2 h | exact detA3 h | exact detIf h
theorem det_ZRt : (ZRt).Det := by
  intro vs G Q h; unfold ZRt at h ⊢; split at h <;> first | exact h.elim | exact det00 h | exact det0 h | exact detE1 h | exact detE2 h | exact detE3 h | exact detE4 h | exact detE5 h | exact detE6 h | exact detE7 h | exact detN h | exact detA h | exact detN0 h | exact detN1 h | exact detN2 h | exact detN3 h | exact detA0 h | exact detA1 h | exact detA2 h | exact detA3 h | exact detIf h
theorem det_ZSy_TT_40 : (ZSy TT 40).Det := by
  intro vs G Q h; unfold ZSy at h ⊢; split at h <;> first | exact h.elim | exact det00 h | exact det0 h | exact detE1 h | exact detE2 h | exact detE3 h | exact detE4 h | exact detE5 h | exact detE6 h | exact detE7 h | exact detN h | exact detA h | exact detN0 h | exact detN1 h | exact detN2 h | exact detN3 h | exact detA0 h | exact detA1 h | exact detA2 h | exact detA3 h | exact detIf h
theorem det_ZSb_TT : (ZSb TT).Det := by
  intro vs G Q h; unfold ZSb at h ⊢; split at h <;> first | exact h.elim | exact det00 h | exact det0 h | exact detE1 h | exact detE2 h | exact detE3 h | exact detE4 h | exact detE5 h | exact detE6 h | exact detE7 h | exact detN h | exact detA h | exact detN0 h | exact detN1 h | exact detN2 h | exact detN3 h | exact detA0 h | exact detA1 h | exact detA2 h | exact detA3 h | exact detIf h
theorem det_ZSf_TT : (ZSf TT).Det := by
  intro vs G Q h; unfold ZSf at h ⊢; split at h <;> first | exact h.elim | exact det00 h | exact det0 h | exact detE1 h | exact detE2 h | exact detE3 h | exact detE4 h | exact detE5 h | exact detE6 h | exact detE7 h | exact detN h | exact detA h | exact detN0 h | exact detN1 h | exact detN2 h | exact detN3 h | exact detA0 h | exact detA1 h | exact detA2 h | exact detA3 h | exact detIf h
theorem det_ZCm_TT : (ZCm TT).Det := by
  intro vs G Q h; unfold ZCm at h ⊢; split at h <;> first | exact h.elim | exact det00 h | exact det0 h | exact detE1 h | exact detE2 h | exact detE3 h | exact detE4 h | exact detE5 h | exact detE6 h | exact detE7 h | exact detN h | exact detA h | exact detN0 h | exact detN1 h | exact detN2 h | exact detN3 h | exact detA0 h | exact detA1 h | exact detA2 h | exact detA3 h | exact detIf h
theorem det_ZFi : (ZFi).Det := by
  intro vs G Q h; unfold ZFi at h ⊢; split at h
  · obtain ⟨aa, n, h0, h1, h2⟩ := h
    by_cases e : aa = []
    · exact ⟨_, (h1 e).2, fun Q' h' => ⟨aa, n, h0, fun _ => h', fun ne => absurd e ne⟩⟩
    · have := h2 e (fresh_id _).choose _ (List.replicate 0 .nilp) (fresh_id _).choose_spec (Nat.le_refl _) (by simp) (fun x hx => by simp at hx)
      exact absurd (congrArg List.length this.1) (by simp)
  · exact h.elim
theorem det_ZTg : (ZTg).Det := by
  intro vs G Q h; unfold ZTg at h ⊢; split at h <;> first | exact h.elim | exact det00 h | exact det0 h | exact detE1 h | exact detE2 h | exact detE3 h | exact detE4 h | exact detE5 h | exact detE6 h | exact detE7 h | exact detN h | exact detA h | exact detN0 h | exact detN1 h | exact detN2 h | exact detN3 h | exact detA0 h | exact detA1 h | exact detA2 h | exact detA3 h | exact detIf h
theorem det_ZAm_K256 : (ZAm K256).Det := by
  intro vs G Q h; unfold ZAm at h ⊢; split at h <;> first | exact h.elim | exact det00 h | exact det0 h | exact detE1 h | exact detE2 h | exact detE3 h | exact detE4 h | exact detE5 h | exact detE6 h | exact detE7 h | exact detN h | exact detA h | exact detN0 h | exact detN1 h | exact detN2 h | exact detN3 h | exact detA0 h | exact detA1 h | exact detA2 h | exact detA3 h | exact detIf h
theorem det_ZMa : (ZMa).Det := by
  intro vs G Q h; unfold ZMa at h ⊢; split at h <;> first | exact h.elim | exact det00 h | exact det0 h | exact detE1 h | exact detE2 h | exact detE3 h | exact detE4 h | exact detE5 h | exact detE6 h | exact detE7 h | exact detN h | exact detA h | exact detN0 h | exact detN1 h | exact detN2 h | exact detN3 h | exact detA0 h | exact detA1 h | exact detA2 h | exact detA3 h | exact detIf h
theorem det_ZRa_K256 : (ZRa K256).Det := by
  intro vs G Q h; unfold ZRa at h ⊢; split at h <;> first | exact h.elim | exact det00 h | exact det0 h | exact detE1 h | exact detE2 h | exact detE3 h | exact detE4 h | exact detE5 h | exact detE6 h | exact detE7 h | exact detN h | exact detA h | exact detN0 h | exact detN1 h | exact detN2 h | exact detN3 h | exact detA0 h | exact detA1 h | exact detA2 h | exact detA3 h | exact detIf h
theorem det_SSi_K256 : (SSi K256).Det := by
  intro vs G Q h; unfold SSi at h ⊢; split at h <;> first | exact h.elim | exact det00 h | exact det0 h | exact detE1 h | exact detE2 h | exact detE3 h | exact detE4 h | exact detE5 h | exact detE6 h | exact detE7 h | exact detN h | exact detA h | exact detN0 h | exact detN1 h | exact detN2 h | exact detN3 h | exact detA0 h | exact detA1 h | exact detA2 h | exact detA3 h | exact detIf h
theorem det_ZAx : (ZAx).Det := by
  intro vs G Q h; unfold ZAx at h ⊢; split at h <;> first | exact h.elim | exact det00 h | exact det0 h | exact detE1 h | exact detE2 h | exact detE3 h | exact detE4 h | exact detE5 h | exact detE6 h | exact detE7 h | exact detN h | exact detA h | exact detN0 h | exact detN1 h | exact detN2 h | exact detN3 h | exact detA0 h | exact detA1 h | exact detA2 h | exact detA3 h | exact detIf h
theorem det_SMy : (SMy).Det := by
  intro vs G Q h; unfold SMy at h ⊢; split at h <;> first | exact h.elim | exact det00 h | exact det0 h | exact detE1 h | exact detE2 h | exact detE3 h | exact detE4 h | exact detE5 h | exact detE6 h | exact detE7 h | exact detN h | exact detA h | exact detN0 h | exact detN1 h | exact detN2 h | exact detN3 h | exact detA0 h | exact detA1 h | exact detA2 h | exact detA3 h | exact detIf h
theorem det_SSh : (SSh).Det := by
  intro vs G Q h; unfold SSh at h ⊢; split at h <;> first | exact h.elim | exact det00 h | exact det0 h | exact detE1 h | exact detE2 h | exact detE3 h | exact detE4 h | exact detE5 h | exact detE6 h | exact detE7 h | exact detN h | exact detA h | exact detN0 h | exact detN1 h | exact detN2 h | exact detN3 h | exact detA0 h | exact detA1 h | exact detA2 h | exact detA3 h | exact detIf h
theorem det_SRf_K256 : (SRf K256).Det := by
  intro vs G Q h; unfold SRf at h ⊢; split at h <;> first | exact h.elim | exact det00 h | exact det0 h | exact detE1 h | exact detE2 h | exact detE3 h | exact detE4 h | exact detE5 h | exact detE6 h | exact detE7 h | exact detN h | exact detA h | exact detN0 h | exact detN1 h | exact detN2 h | exact detN3 h | exact detA0 h | exact detA1 h | exact detA2 h | exact detA3 h | exact detIf h
theorem det_SMr_K256 : (SMr K256).Det := by
  intro vs G Q h; unfold SMr at h ⊢; split at h <;> first | exact h.elim | exact det00 h | exact det0 h | exact detE1 h | exact detE2 h | exact detE3 h | exact detE4 h | exact detE5 h | exact detE6 h | exact detE7 h | exact detN h | exact detA h | exact detN0 h | exact detN1 h | exact detN2 h | exact detN3 h | exact detA0 h | exact detA1 h | exact detA2 h | exact detA3 h | exact detIf h
theorem det_STr_K256 : (STr K256).Det := by
  intro vs G Q h; unfold STr at h ⊢; split at h <;> first | exact h.elim | exact det00 h | exact det0 h | exact detE1 h | exact detE2 h | exact detE3 h | exact detE4 h | exact detE5 h | exact detE6 h | exact detE7 h | exact detN h | exact detA h | exact detN0 h | exact detN1 h | exact detN2 h | exact detN3 h | exact detA0 h | exact detA1 h | exact detA2 h | exact detA3 h | exact detIf h
theorem det_SBy : (SBy).Det := by
  intro vs G Q h; unfold SBy at h ⊢; split at h <;> first | exact h.elim | exact det00 h | exact det0 h | exact detE1 h | exact detE2 h | exact detE3 h | exact detE4 h | exact detE5 h | exact detE6 h | exact detE7 h | exact detN h | exact detA h | exact detN0 h | exact detN1 h | exact detN2 h | exact detN3 h | exact detA0 h | exact detA1 h | exact detA2 h | exact detA3 h | exact detIf h
theorem det_SRn_10 : (SRn 10).Det := by
  intro vs G Q h; unfold SRn at h ⊢; split at h <;> first | exact h.elim | exact det00 h | exact det0 h | exact detE1 h | exact detE2 h | exact detE3 h | exact detE4 h | exact detE5 h | exact detE6 h | exact detE7 h | exact detN h | exact detA h | exact detN0 h | exact detN1 h | exact detN2 h | exact detN3 h | exact detA0 h | exact detA1 h | exact detA2 h | exact detA3 h | exact detIf h
theorem det_ST8 : (ST8).Det := by
  intro vs G Q h; unfold ST8 at h ⊢; split at h <;> first | exact h.elim | exact det00 h | exact det0 h | exact detE1 h | exact detE2 h | exact detE3 h | exact detE4 h | exact detE5 h | exact detE6 h | exact detE7 h | exact detN h | exact detA h | exact detN0 h | exact detN1 h | exact detN2 h | exact detN3 h | exact detA0 h | exact detA1 h | exact detA2 h | exact detA3 h | exact detIf h
theorem det_STr8_K256 : (STr8 K256).Det := by
  intro vs G Q h; unfold STr8 at h ⊢; split at h <;> first | exact h.elim | exact det00 h | exact det0 h | exact detE1 h | exact detE2 h | exact detE3 h | exact detE4 h | exact detE5 h | exact detE6 h | exact detE7 h | exact detN h | exact detA h | exact detN0 h | exact detN1 h | exact detN2 h | exact detN3 h | exact detA0 h | exact detA1 h | exact detA2 h | exact detA3 h | exact detIf h
theorem det_ZT1 : (ZT1).Det := by
  intro vs G Q h; unfold ZT1 at h ⊢; split at h <;> first | exact h.elim | exact det00 h | exact det0 h | exact detE1 h | exact detE2 h | exact detE3 h | exact detE4 h | exact detE5 h | exact detE6 h | exact detE7 h | exact detN h | exact detA h | exact detN0 h | exact detN1 h | exact detN2 h | exact detN3 h | exact detA0 h | exact detA1 h | exact detA2 h | exact detA3 h | exact detIf h
theorem det_ZTa_K256 : (ZTa K256).Det := by
  intro vs G Q h; unfold ZTa at h ⊢; split at h <;> first | exact h.elim | exact det00 h | exact det0 h | exact detE1 h | exact detE2 h | exact detE3 h | exact detE4 h | exact detE5 h | exact detE6 h | exact detE7 h | exact detN h | exact detA h | exact detN0 h | exact detN1 h | exact detN2 h | exact detN3 h | exact detA0 h | exact detA1 h | exact detA2 h | exact detA3 h | exact detIf h
theorem det_ZS10 : (ZS10).Det := by
  intro vs G Q h; unfold ZS10 at h ⊢; split at h <;> first | exact h.elim | exact det00 h | exact det0 h | exact detE1 h | exact detE2 h | exact detE3 h | exact detE4 h | exact detE5 h | exact detE6 h | exact detE7 h | exact detN h | exact detA h | exact detN0 h | exact detN1 h | exact detN2 h | exact detN3 h | exact detA0 h | exact detA1 h | exact detA2 h | exact detA3 h | exact detIf h
theorem own : ownKnob Tryd.prog.godebug = none := by kernel_rfl
theorem laidOut : laidOutB Tryd.prog = true := by kernel_rfl
noncomputable def EE : Env := ⟨Tryd.prog, [(0, .arr .u32 64 K256), (1, .arr .u32 64 K256)]⟩
noncomputable def T37 : List (Nat × Spec1) := (37, SNo) :: []
theorem g37 : Abs.Good EE T37 := (Abs.Good.nil EE).cons det_SNo fun vs G Q h => by
  unfold SNo at h; split at h
  · exact (Abs.Good.nil EE).ret (E := EE) p37 rfl (walk37 h)
  · exact h.elim
noncomputable def T133 : List (Nat × Spec1) := (133, SSt) :: T37
theorem g133 : Abs.Good EE T133 := g37.cons det_SSt fun vs G Q h => by
  unfold SSt at h; split at h
  · exact g37.ret (E := EE) p133 rfl (walk133 h)
  · exact h.elim
noncomputable def T139 : List (Nat × Spec1) := (139, SEn) :: T133
theorem g139 : Abs.Good EE T139 := g133.cons det_SEn fun vs G Q h => by
  unfold SEn at h; split at h
  · rename_i n; obtain ⟨k, rfl⟩ : ∃ k : Nat, n = k := ⟨n.toNat, by omega⟩; rw [Int.toNat_natCast] at h; exact g133.ret (E := EE) p139 rfl (walk139 (n := k) (by omega) h.2)
  · exact h.elim
noncomputable def T134 : List (Nat × Spec1) := (134, SFi) :: T139
theorem g134 : Abs.Good EE T134 := g139.cons det_SFi fun vs G Q h => by
  unfold SFi at h; split at h
  · obtain ⟨b, ⟨hx, hb⟩, h⟩ := h; exact g139.ret (E := EE) p134 rfl (walk134 rfl hx hb h)
  · exact h.elim
noncomputable def T145 : List (Nat × Spec1) := (145, SRl) :: T134
theorem g145 : Abs.Good EE T145 := g134.cons det_SRl fun vs G Q h => by
  unfold SRl at h; split at h
  · exact g134.ret (E := EE) p145 rfl (walk145 h.1.1 h.1.2 h.2)
  · exact h.elim
noncomputable def T141 : List (Nat × Spec1) := (141, SRo) :: T145
theorem g141 : Abs.Good EE T141 := g145.cons det_SRo fun vs G Q h => by
  unfold SRo at h; split at h
  · exact g145.ret (E := EE) p141 rfl (walk141 rfl h.1.1 h.1.2 h.2)
  · exact h.elim
noncomputable def T140 : List (Nat × Spec1) := (140, SSc) :: T141
theorem g140 : Abs.Good EE T140 := g141.cons det_SSc fun vs G Q h => by
  unfold SSc at h; split at h
  · exact g141.ret (E := EE) p140 rfl (walk140 rfl h.1.1 h.1.2 h.2)
  · exact h.elim
noncomputable def T135 : List (Nat × Spec1) := (135, STu K256) :: T140
theorem g135 : Abs.Good EE T135 := g140.cons det_STu_K256 fun vs G Q h => by
  unfold STu at h; split at h
  · exact g140.ret (E := EE) p135 rfl (walk135 rfl rfl rfl h.1.1.1 h.1.1.2 h.1.2.1 h.1.2.2 h.2)
  · exact h.elim
noncomputable def T123 : List (Nat × Spec1) := (123, SOf K256) :: T135
theorem g123 : Abs.Good EE T123 := g135.cons det_SOf_K256 fun vs G Q h => by
  unfold SOf at h; split at h
  · obtain ⟨b, ⟨hx, hxl, hby, hb⟩, h⟩ := h; exact g135.ret (E := EE) p123 rfl (walk123 rfl rfl rfl hx hxl hby hb h)
  · exact h.elim
noncomputable def T104 : List (Nat × Spec1) := (104, SKe K256) :: T123
theorem g104 : Abs.Good EE T104 := g123.cons det_SKe_K256 fun vs G Q h => by
  unfold SKe at h; split at h
  · exact g123.ret (E := EE) p104 rfl (walk104 rfl rfl h)
  · exact h.elim
noncomputable def T126 : List (Nat × Spec1) := (126, SGr) :: T104
theorem g126 : Abs.Good EE T126 := g104.cons det_SGr fun vs G Q h => by
  unfold SGr at h; split at h
  · exact g104.ret (E := EE) p126 rfl (walk126 h.1 h.2)
  · exact h.elim
noncomputable def T106 : List (Nat × Spec1) := (106, SCc) :: T126
theorem g106 : Abs.Good EE T106 := g126.cons det_SCc fun vs G Q h => by
  unfold SCc at h; split at h
  · obtain ⟨b, ⟨hc, hne, hl, hpl⟩, h⟩ := h; exact g126.ret (E := EE) p106 rfl (walk106 rfl hc hne hl hpl h)
  · exact h.elim
noncomputable def T124 : List (Nat × Spec1) := (124, SBl K256) :: T106
theorem g124 : Abs.Good EE T124 := g106.cons det_SBl_K256 fun vs G Q h => by
  unfold SBl at h; split at h
  · obtain ⟨b, ⟨hx, hby, hb⟩, h⟩ := h; exact g106.ret (E := EE) p124 rfl (walk124 rfl hx hby hb h)
  · exact h.elim
noncomputable def T125 : List (Nat × Spec1) := (125, STd) :: T124
theorem g125 : Abs.Good EE T125 := g124.cons det_STd fun vs G Q h => by
  unfold STd at h; split at h
  · exact g124.ret (E := EE) p125 rfl (walk125 h.1 h.2)
  · exact h.elim
noncomputable def T105 : List (Nat × Spec1) := (105, SMa K256) :: T125
theorem g105 : Abs.Good EE T105 := g125.cons det_SMa_K256 fun vs G Q h => by
  unfold SMa at h; split at h
  · obtain ⟨b, c, r, ⟨h1, h2, h3, h4, h5, h6, h7, h8⟩, h⟩ := h; exact g125.ret (E := EE) p105 rfl (walk105 rfl rfl rfl rfl h1 h2 h3 h4 h5 h6 h7 h8 h)
  · exact h.elim
noncomputable def T62 : List (Nat × Spec1) := (62, STa K256) :: T105
theorem g62 : Abs.Good EE T62 := g105.cons det_STa_K256 fun vs G Q h => by
  unfold STa at h; split at h
  · obtain ⟨c, r, ⟨h1, h2, h3, h4, h5, h6⟩, h⟩ := h; exact g105.ret (E := EE) p62 rfl (walk62 rfl rfl rfl rfl h1 h2 h3 h4 h5 h6 h)
  · exact h.elim
noncomputable def T111 : List (Nat × Spec1) := (111, SSa) :: T62
theorem g111 : Abs.Good EE T111 := g62.cons det_SSa fun vs G Q h => by
  unfold SSa at h; split at h
  · exact g62.ret (E := EE) p111 rfl (walk111 h.1.1.1 h.1.2.1 h.1.1.2 h.1.2.2 h.2)
  · exact h.elim
noncomputable def T68 : List (Nat × Spec1) := (68, SCh K256) :: T111
theorem g68 : Abs.Good EE T68 := g111.cons det_SCh_K256 fun vs G Q h => by
  unfold SCh at h; split at h
  · obtain ⟨c, r, ⟨⟨h1, h2, h3⟩, h4, h5, h6, h7, h8⟩, h⟩ := h; exact g111.ret (E := EE) p68 rfl (walk68 rfl rfl rfl h1 ⟨h2, h3⟩ h4 h5 h6 h7 h8 h)
  · exact h.elim
noncomputable def T99 : List (Nat × Spec1) := (99, SCk) :: T68
theorem g99 : Abs.Good EE T99 := g68.cons det_SCk fun vs G Q h => by
  unfold SCk at h; split at h
  · exact g68.ret (E := EE) p99 rfl (walk99 rfl h.1 h.2)
  · exact h.elim
noncomputable def T50 : List (Nat × Spec1) := (50, SCl) :: T99
theorem g50 : Abs.Good EE T50 := g99.cons det_SCl fun vs G Q h => by
  unfold SCl at h; split at h
  · obtain ⟨b, ⟨hx, hb⟩, h⟩ := h; exact Ret.res .u8 (Ret.args (vs' := [.sli .u8 b]) rfl (wk_1 (byV_wk hx)) (g99.ret (E := EE) p50 rfl (walk50 hb h)))
  · exact h.elim
noncomputable def T87 : List (Nat × Spec1) := (87, SHa) :: T50
theorem g87 : Abs.Good EE T87 := g50.cons det_SHa fun vs G Q h => by
  unfold SHa at h; split at h
  · obtain ⟨b, ⟨hx, hb, hl⟩, h⟩ := h; exact Ret.args (vs' := [.sli .u8 b, _]) rfl (wk_1 (byV_wk hx)) (g50.ret (E := EE) p87 rfl (walk87 rfl hb hl h))
  · exact h.elim
noncomputable def T107 : List (Nat × Spec1) := (107, SNu) :: T87
theorem g107 : Abs.Good EE T107 := g87.cons det_SNu fun vs G Q h => by
  unfold SNu at h; split at h
  · obtain ⟨b, ⟨hx, hb, hn⟩, h⟩ := h; exact Ret.args (vs' := [.sli .u8 b, _]) rfl (wk_1 (byV_wk hx)) (g87.ret (E := EE) p107 rfl (walk107 rfl hb hn h))
  · exact h.elim
noncomputable def T100 : List (Nat × Spec1) := (100, STg) :: T107
theorem g100 : Abs.Good EE T100 := g107.cons det_STg fun vs G Q h => by
  unfold STg at h; split at h
  · obtain ⟨b, ⟨hx, hb, hw, hm⟩, h⟩ := h; exact Ret.args (vs' := [.sli .u8 b, _]) rfl (wk_1 (byV_wk hx)) (g107.ret (E := EE) p100 rfl (walk100 rfl rfl hb hw hm h))
  · exact h.elim
noncomputable def T60 : List (Nat × Spec1) := (60, SRi K256) :: T100
theorem g60 : Abs.Good EE T60 := g100.cons det_SRi_K256 fun vs G Q h => by
  unfold SRi at h; split at h
  · exact g100.ret (E := EE) p60 rfl (walk60 rfl rfl rfl h.1 h.2)
  · exact h.elim
noncomputable def T69 : List (Nat × Spec1) := (69, ZP1 K256) :: T60
theorem g69 : Abs.Good EE T69 := g60.cons det_ZP1_K256 fun vs G Q h => by
  unfold ZP1 at h; split at h
  · obtain ⟨n, ⟨hG, hw⟩, h⟩ := h; exact g60.ret (E := EE) p69 rfl (walk69 rfl hG hw h)
  · exact h.elim
noncomputable def T71 : List (Nat × Spec1) := (71, SAl) :: T69
theorem g71 : Abs.Good EE T71 := g69.cons det_SAl fun vs G Q h => by
  unfold SAl at h; split at h
  · exact g69.ret (E := EE) p71 rfl (walk71 h)
  · exact h.elim
noncomputable def T70 : List (Nat × Spec1) := (70, ZP2) :: T71
theorem g70 : Abs.Good EE T70 := g71.cons det_ZP2 fun vs G Q h => by
  unfold ZP2 at h; split at h
  · obtain ⟨b, r, hG, h⟩ := h; exact g71.ret (E := EE) p70 rfl (walk70 rfl hG h)
  · exact h.elim
noncomputable def T59 : List (Nat × Spec1) := (59, ZP3 K256) :: T70
theorem g59 : Abs.Good EE T59 := g70.cons det_ZP3_K256 fun vs G Q h => by
  unfold ZP3 at h; split at h
  · obtain ⟨v, n, ⟨hG, hG2, hw⟩, h⟩ := h; exact g70.ret (E := EE) p59 rfl (walk59 rfl hG hG2 hw h)
  · exact h.elim
noncomputable def T113 : List (Nat × Spec1) := (113, ZNan) :: T59
theorem g113 : Abs.Good EE T113 := g59.cons det_ZNan fun vs G Q h => by
  unfold ZNan at h; split at h
  · exact g59.ret (E := EE) p113 rfl (walk113 h)
  · exact h.elim
noncomputable def T75 : List (Nat × Spec1) := (75, ZCmp) :: T113
theorem g75 : Abs.Good EE T75 := g113.cons det_ZCmp fun vs G Q h => by
  unfold ZCmp at h; split at h
  · exact g113.ret (E := EE) p75 rfl (walk75 rfl h)
  · exact h.elim
noncomputable def T74 : List (Nat × Spec1) := (74, ZCb) :: T75
theorem g74 : Abs.Good EE T74 := g75.cons det_ZCb fun vs G Q h => by
  unfold ZCb at h; split at h
  · exact g75.ret (E := EE) p74 rfl (walk74 rfl h)
  · exact h.elim
noncomputable def T102 : List (Nat × Spec1) := (102, ZCb) :: T74
theorem g102 : Abs.Good EE T102 := g74.cons det_ZCb fun vs G Q h => by
  unfold ZCb at h; split at h
  · exact g74.ret (E := EE) p102 rfl (walk102 rfl h)
  · exact h.elim
noncomputable def T77 : List (Nat × Spec1) := (77, ZEb) :: T102
theorem g77 : Abs.Good EE T77 := g102.cons det_ZEb fun vs G Q h => by
  unfold ZEb at h; split at h
  · exact g102.ret (E := EE) p77 rfl (walk77 h)
  · exact h.elim
noncomputable def T103 : List (Nat × Spec1) := (103, ZEb) :: T77
theorem g103 : Abs.Good EE T103 := g77.cons det_ZEb fun vs G Q h => by
  unfold ZEb at h; split at h
  · exact g77.ret (E := EE) p103 rfl (walk103 h)
  · exact h.elim
noncomputable def T82 : List (Nat × Spec1) := (82, ZWi) :: T103
theorem g82 : Abs.Good EE T82 := g103.cons det_ZWi fun vs G Q h => by
  unfold ZWi at h; split at h
  · obtain ⟨c, p, ⟨rfl, rfl⟩, h⟩ := h; exact g103.ret (E := EE) p82 rfl (walk82 h)
  · exact h.elim
noncomputable def T81 : List (Nat × Spec1) := (81, ZCr K256) :: T82
theorem g81 : Abs.Good EE T81 := g82.cons det_ZCr_K256 fun vs G Q h => by
  unfold ZCr at h; split at h
  · obtain ⟨c, p, ⟨hG, rfl, hc, h1, h2⟩, h⟩ := h; exact g82.ret (E := EE) p81 rfl (walk81 rfl rfl hG hc h1 h2 h)
  · exact h.elim
noncomputable def T56 : List (Nat × Spec1) := (56, ZQu) :: T81
theorem g56 : Abs.Good EE T56 := g81.cons det_ZQu fun vs G Q h => by
  unfold ZQu at h; split at h
  · obtain ⟨hn, h⟩ := h; exact g81.ret (E := EE) p56 rfl (walk56 rfl hn h)
  · exact h.elim
noncomputable def T57 : List (Nat × Spec1) := (57, ZWn) :: T56
theorem g57 : Abs.Good EE T57 := g56.cons det_ZWn fun vs G Q h => by
  unfold ZWn at h; split at h
  · exact g56.ret (E := EE) p57 rfl (walk57 h)
  · exact h.elim
noncomputable def T101 : List (Nat × Spec1) := (101, ZIx TT) :: T57
theorem g101 : Abs.Good EE T101 := g57.cons det_ZIx_TT fun vs G Q h => by
  unfold ZIx at h; split at h
  · exact g57.ret (E := EE) p101 rfl (walk101 (sub_of fun p hp => by unfold TT at hp; simp only [List.mem_cons, List.not_mem_nil, or_false] at hp; rcases hp with rfl | rfl | rfl | rfl | rfl | rfl | rfl <;> rfl) (by unfold TT; kernel_rfl) h)
  · exact h.elim
noncomputable def T58 : List (Nat × Spec1) := (58, ZCo TT) :: T101
theorem g58 : Abs.Good EE T58 := g101.cons det_ZCo_TT fun vs G Q h => by
  unfold ZCo at h; split at h
  · exact g101.ret (E := EE) p58 rfl (walk58 rfl h)
  · exact h.elim
noncomputable def T72 : List (Nat × Spec1) := (72, ZCn) :: T58
theorem g72 : Abs.Good EE T72 := g58.cons det_ZCn fun vs G Q h => by
  unfold ZCn at h; split at h
  · exact ret72 (fun Q' w => g58.ret (E := EE) p72 rfl w) h
  · exact h.elim
noncomputable def T128 : List (Nat × Spec1) := (128, ZIs TT) :: T72
theorem g128 : Abs.Good EE T128 := g72.cons det_ZIs_TT fun vs G Q h => by
  unfold ZIs at h; split at h
  · obtain ⟨A, S, B, key, P, z, ⟨hG, ⟨rfl, rfl⟩, ⟨h1, h2, h3⟩, hP, hR, hf⟩, h⟩ := h; exact g72.ret (E := EE) p128 rfl (walk128 (sub_of fun p hp => by unfold TT at hp; simp only [List.mem_cons, List.not_mem_nil, or_false] at hp; rcases hp with rfl | rfl | rfl | rfl | rfl | rfl | rfl <;> rfl) (by unfold TT; kernel_rfl) hf hG h3 h2 (by simp) h1 hP hR (by rw [cut3]; exact h))
  · obtain ⟨⟨rfl, rfl⟩, h⟩ := h; exact g72.ret (E := EE) p128 rfl (walk0128 h)
  · exact h.elim
noncomputable def T142 : List (Nat × Spec1) := (142, ZSr) :: T128
theorem g142 : Abs.Good EE T142 := g128.cons det_ZSr fun vs G Q h => by
  unfold ZSr at h; split at h
  · exact g128.ret (E := EE) p142 rfl (walk142 h)
  · exact h.elim
noncomputable def T136 : List (Nat × Spec1) := (136, ZRt) :: T142
theorem g136 : Abs.Good EE T136 := g142.cons det_ZRt fun vs G Q h => by
  unfold ZRt at h; split at h
  · exact g142.ret (E := EE) p136 rfl (walk136 rfl h)
  · exact h.elim
noncomputable def T129 : List (Nat × Spec1) := (129, ZSy TT 40) :: T136
theorem ind129 : ∀ (k : Nat) vs G Q, ZSy TT k vs G Q → Ret EE 129 vs G Q := by
  intro k
  induction k with
  | zero =>
    intro vs G Q h
    unfold ZSy at h; split at h
    · obtain ⟨P, A, B, S, key, pr, z, h⟩ := h
      exact absurd h.1.2.1 (by omega)
    · exact h.elim
  | succ k ih =>
    intro vs G Q h
    have hg := g136.cons (g := 129) (s := ZSy TT k) (by
      intro vs G Q h
      unfold ZSy at h ⊢
      split at h
      · exact detE7 h
      · exact h.elim) ih
    have h' := h
    unfold ZSy at h; split at h
    · exact hg.ret (E := EE) p129 rfl (walk129 (sub_of fun p hp => by unfold TT at hp; simp only [List.mem_cons, List.not_mem_nil, or_false] at hp; rcases hp with rfl | rfl | rfl | rfl | rfl | rfl | rfl <;> rfl) (by unfold TT; kernel_rfl) rfl rfl h')
    · exact h.elim
theorem g129 : Abs.Good EE T129 := g136.cons det_ZSy_TT_40 fun vs G Q h => ind129 _ vs G Q h
noncomputable def T112 : List (Nat × Spec1) := (112, ZSb TT) :: T129
theorem g112 : Abs.Good EE T112 := g129.cons det_ZSb_TT fun vs G Q h => by
  unfold ZSb at h; split at h
  · exact g129.ret (E := EE) p112 rfl (walk112 rfl rfl h)
  · obtain ⟨rfl, h⟩ := h; exact g129.ret (E := EE) p112 rfl (walk0112 rfl h)
  · exact h.elim
noncomputable def T73 : List (Nat × Spec1) := (73, ZSf TT) :: T112
theorem g73 : Abs.Good EE T73 := g112.cons det_ZSf_TT fun vs G Q h => by
  unfold ZSf at h; split at h
  · exact g112.ret (E := EE) p73 rfl (walk73 rfl h)
  · exact g112.ret (E := EE) p73 rfl (walk073 rfl h)
  · exact h.elim
noncomputable def T76 : List (Nat × Spec1) := (76, ZCm TT) :: T73
theorem g76 : Abs.Good EE T76 := g73.cons det_ZCm_TT fun vs G Q h => by
  unfold ZCm at h; split at h
  · exact g73.ret (E := EE) p76 rfl (walk76 (sub_of fun p hp => by unfold TT at hp; simp only [List.mem_cons, List.not_mem_nil, or_false] at hp; rcases hp with rfl | rfl | rfl | rfl | rfl | rfl | rfl <;> rfl) (by unfold TT; kernel_rfl) h)
  · exact g73.ret (E := EE) p76 rfl (walk076 h)
  · exact h.elim
noncomputable def T61 : List (Nat × Spec1) := (61, ZFi) :: T76
theorem g61 : Abs.Good EE T61 := g76.cons det_ZFi fun vs G Q h => by
  unfold ZFi at h; split at h
  · exact g76.ret (E := EE) p61 rfl (walk61 rfl rfl rfl h)
  · exact h.elim
noncomputable def T63 : List (Nat × Spec1) := (63, ZTg) :: T61
theorem g63 : Abs.Good EE T63 := g61.cons det_ZTg fun vs G Q h => by
  unfold ZTg at h; split at h
  · obtain ⟨bb, fr, ⟨hx, hb, hf, hw, hm⟩, h⟩ := h; exact (by
      rcases hf with rfl | ⟨rfl, rfl⟩ | ⟨id, c, LL, rfl, hG, hLL, hfl, hsz⟩
      · exact Ret.args (vs' := [.sli .u8 bb, _]) rfl (wk_1 (byV_wk hx)) (g61.ret (E := EE) p63 rfl (walk63i rfl rfl hb hw hm h))
      · exact absurd rfl hm.2.2.2.1
      · exact Ret.args (vs' := [.sli .u8 bb, _]) rfl (wk_1 (byV_wk hx)) (g61.ret (E := EE) p63 rfl (walk63s hG hLL hfl hsz rfl rfl hb hw hm h)))
  · exact h.elim
noncomputable def T26 : List (Nat × Spec1) := (26, ZAm K256) :: T63
theorem g26 : Abs.Good EE T26 := g63.cons det_ZAm_K256 fun vs G Q h => by
  unfold ZAm at h; split at h
  · obtain ⟨aa, ⟨rfl, hb, hI, hv, hw, hl⟩, h⟩ := h; exact Ret.low (g63.ret (E := EE) p26 rfl (walk26 rfl rfl rfl rfl rfl rfl hb hI hv hw hl h))
  · exact h.elim
noncomputable def T67 : List (Nat × Spec1) := (67, ZMa) :: T26
theorem g67 : Abs.Good EE T67 := g26.cons det_ZMa fun vs G Q h => by
  unfold ZMa at h; split at h
  · obtain ⟨fr, ⟨hf, hw, hl⟩, h⟩ := h; exact (by
      rcases hf with rfl | ⟨rfl, rfl⟩ | ⟨id, c, LL, rfl, hG, hLL, hfl, hsz⟩
      · exact g26.ret (E := EE) p67 rfl (walk67i rfl rfl hl hw h)
      · exact g26.ret (E := EE) p67 rfl (walk67n rfl rfl hl hw h)
      · exact g26.ret (E := EE) p67 rfl (walk67s hG hLL hfl hsz rfl rfl hl hw h))
  · exact h.elim
noncomputable def T29 : List (Nat × Spec1) := (29, ZRa K256) :: T67
theorem g29 : Abs.Good EE T29 := g67.cons det_ZRa_K256 fun vs G Q h => by
  unfold ZRa at h; split at h
  · obtain ⟨a, ⟨rfl, hw, hl, hI⟩, h⟩ := h; exact g67.ret (E := EE) p29 rfl (walk29 rfl rfl rfl rfl hw hl hI h)
  · exact h.elim
noncomputable def T55 : List (Nat × Spec1) := (55, SSi K256) :: T29
theorem g55 : Abs.Good EE T55 := g29.cons det_SSi_K256 fun vs G Q h => by
  unfold SSi at h; split at h
  · exact g29.ret (E := EE) p55 rfl (walk55 rfl rfl rfl h.1 h.2)
  · exact h.elim
noncomputable def T25 : List (Nat × Spec1) := (25, ZAx) :: T55
theorem g25 : Abs.Good EE T25 := g55.cons det_ZAx fun vs G Q h => by
  unfold ZAx at h; split at h
  · exact g55.ret (E := EE) p25 rfl (walk25 rfl rfl rfl h)
  · exact h.elim
noncomputable def T64 : List (Nat × Spec1) := (64, ZQu) :: T25
theorem g64 : Abs.Good EE T64 := g25.cons det_ZQu fun vs G Q h => by
  unfold ZQu at h; split at h
  · obtain ⟨hn, h⟩ := h; exact g25.ret (E := EE) p64 rfl (walk64 h)
  · exact h.elim
noncomputable def T108 : List (Nat × Spec1) := (108, SMy) :: T64
theorem g108 : Abs.Good EE T108 := g64.cons det_SMy fun vs G Q h => by
  unfold SMy at h; split at h
  · exact g64.ret (E := EE) p108 rfl (walk108 h.1 h.2)
  · exact h.elim
noncomputable def T137 : List (Nat × Spec1) := (137, SFi) :: T108
theorem g137 : Abs.Good EE T137 := g108.cons det_SFi fun vs G Q h => by
  unfold SFi at h; split at h
  · obtain ⟨b, ⟨hx, hb⟩, h⟩ := h; exact g108.ret (E := EE) p137 rfl (walk137 hx hb h)
  · exact h.elim
noncomputable def T143 : List (Nat × Spec1) := (143, SRo) :: T137
theorem g143 : Abs.Good EE T143 := g137.cons det_SRo fun vs G Q h => by
  unfold SRo at h; split at h
  · exact g137.ret (E := EE) p143 rfl (walk143 h.1.1 h.1.2 h.2)
  · exact h.elim
noncomputable def T144 : List (Nat × Spec1) := (144, SSh) :: T143
theorem g144 : Abs.Good EE T144 := g143.cons det_SSh fun vs G Q h => by
  unfold SSh at h; split at h
  · exact g143.ret (E := EE) p144 rfl (walk144 h.1.1 h.1.2 h.2)
  · exact h.elim
noncomputable def T138 : List (Nat × Spec1) := (138, STu K256) :: T144
theorem g138 : Abs.Good EE T138 := g144.cons det_STu_K256 fun vs G Q h => by
  unfold STu at h; split at h
  · exact g144.ret (E := EE) p138 rfl (walk138 rfl rfl rfl h.1.1.1 h.1.1.2 h.1.2.1 h.1.2.2 h.2)
  · exact h.elim
noncomputable def T131 : List (Nat × Spec1) := (131, SRf K256) :: T138
theorem g131 : Abs.Good EE T131 := g138.cons det_SRf_K256 fun vs G Q h => by
  unfold SRf at h; split at h
  · obtain ⟨b, ⟨hx, hby, hb⟩, h⟩ := h; exact g138.ret (E := EE) p131 rfl (walk131 rfl rfl hx hby hb h)
  · exact h.elim
noncomputable def T120 : List (Nat × Spec1) := (120, SKe K256) :: T131
theorem g120 : Abs.Good EE T120 := g131.cons det_SKe_K256 fun vs G Q h => by
  unfold SKe at h; split at h
  · exact g131.ret (E := EE) p120 rfl (walk120 rfl h)
  · exact h.elim
noncomputable def T132 : List (Nat × Spec1) := (132, SBl K256) :: T120
theorem g132 : Abs.Good EE T132 := g120.cons det_SBl_K256 fun vs G Q h => by
  unfold SBl at h; split at h
  · obtain ⟨b, ⟨hx, hby, hb⟩, h⟩ := h; exact g120.ret (E := EE) p132 rfl (walk132 rfl hx hby hb h)
  · exact h.elim
noncomputable def T121 : List (Nat × Spec1) := (121, SMr K256) :: T132
theorem g121 : Abs.Good EE T121 := g132.cons det_SMr_K256 fun vs G Q h => by
  unfold SMr at h; split at h
  · obtain ⟨b, c, ⟨h1, h2, h3, h4, h5, h6⟩, h⟩ := h; exact g132.ret (E := EE) p121 rfl (walk121 rfl rfl h1 h2 h3 h4 h5 h6 h)
  · exact h.elim
noncomputable def T97 : List (Nat × Spec1) := (97, STr K256) :: T121
theorem g97 : Abs.Good EE T97 := g121.cons det_STr_K256 fun vs G Q h => by
  unfold STr at h; split at h
  · obtain ⟨c, ⟨h1, h2, h3, h4⟩, h⟩ := h; exact g121.ret (E := EE) p97 rfl (walk97 rfl rfl h1 h2 h3 h4 h)
  · exact h.elim
noncomputable def T96 : List (Nat × Spec1) := (96, SBy) :: T97
theorem g96 : Abs.Good EE T96 := g97.cons det_SBy fun vs G Q h => by
  unfold SBy at h; split at h
  · exact g97.ret (E := EE) p96 rfl (walk96 h.1 h.2)
  · exact h.elim
noncomputable def T119 : List (Nat × Spec1) := (119, SRn 10) :: T96
theorem ind119 : ∀ (k : Nat) vs G Q, SRn k vs G Q → Ret EE 119 vs G Q := by
  intro k
  induction k with
  | zero =>
    intro vs G Q h
    unfold SRn at h; split at h
    · exact absurd h.1.2.2.1 (by decide)
    · exact h.elim
  | succ k ih =>
    intro vs G Q h
    have hg := g96.cons (g := 119) (s := SRn k) (by
      intro vs G Q h
      unfold SRn at h ⊢
      split at h
      · exact ⟨_, h.2.2, fun Q' h' => ⟨h.1, h'⟩⟩
      · exact h.elim) ih
    unfold SRn at h; split at h
    · rename_i n
      obtain ⟨⟨h1, h2, h3, h4⟩, h⟩ := h
      obtain ⟨m, rfl⟩ : ∃ m : Nat, n = m := ⟨n.toNat, by omega⟩
      rw [Int.toNat_natCast] at h h2
      exact hg.ret (E := EE) p119 rfl (walk119 rfl h2 (by omega) h)
    · exact h.elim
theorem g119 : Abs.Good EE T119 := g96.cons det_SRn_10 fun vs G Q h => ind119 _ vs G Q h
noncomputable def T127 : List (Nat × Spec1) := (127, ST8) :: T119
theorem g127 : Abs.Good EE T127 := g119.cons det_ST8 fun vs G Q h => by
  unfold ST8 at h; split at h
  · exact g119.ret (E := EE) p127 rfl (walk127 rfl rfl h.1.1 h.1.2 h.2)
  · exact h.elim
noncomputable def T109 : List (Nat × Spec1) := (109, STr8 K256) :: T127
theorem g109 : Abs.Good EE T109 := g127.cons det_STr8_K256 fun vs G Q h => by
  unfold STr8 at h; split at h
  · exact g127.ret (E := EE) p109 rfl (walk109 rfl rfl h.1.1 h.1.2 h.2)
  · exact h.elim
noncomputable def T65 : List (Nat × Spec1) := (65, SRi K256) :: T109
theorem g65 : Abs.Good EE T65 := g109.cons det_SRi_K256 fun vs G Q h => by
  unfold SRi at h; split at h
  · exact g109.ret (E := EE) p65 rfl (walk65 rfl rfl h.1 h.2)
  · exact h.elim
noncomputable def T110 : List (Nat × Spec1) := (110, ZT1) :: T65
theorem g110 : Abs.Good EE T110 := g65.cons det_ZT1 fun vs G Q h => by
  unfold ZT1 at h; split at h
  · obtain ⟨fr, ⟨hf, hw, hm⟩, h⟩ := h; exact (by
      rcases hf with rfl | ⟨rfl, rfl⟩ | ⟨id, c, LL, rfl, hG, hLL, hfl, hsz⟩
      · exact g65.ret (E := EE) p110 rfl (walk110i rfl rfl hw hm h)
      · exact absurd rfl hm.2.2.2.1
      · exact g65.ret (E := EE) p110 rfl (walk110s hG hLL hfl hsz rfl rfl hw hm h))
  · exact h.elim
noncomputable def T66 : List (Nat × Spec1) := (66, ZTa K256) :: T110
theorem g66 : Abs.Good EE T66 := g110.cons det_ZTa_K256 fun vs G Q h => by
  unfold ZTa at h; split at h
  · obtain ⟨fr, ⟨hf, hw, hm⟩, h⟩ := h; exact (by
      rcases hf with rfl | ⟨rfl, rfl⟩ | ⟨id, c, LL, rfl, hG, hLL, hfl, hsz⟩
      · exact g110.ret (E := EE) p66 rfl (walk66i rfl rfl hw hm h)
      · exact absurd rfl hm.2.2.2.1
      · exact g110.ret (E := EE) p66 rfl (walk66s hG hLL hfl hsz rfl rfl hw hm h))
  · exact h.elim
noncomputable def T27 : List (Nat × Spec1) := (27, ZAm K256) :: T66
theorem g27 : Abs.Good EE T27 := g66.cons det_ZAm_K256 fun vs G Q h => by
  unfold ZAm at h; split at h
  · obtain ⟨aa, ⟨rfl, hb, hI, hv, hw, hl⟩, h⟩ := h; exact Ret.low (g66.ret (E := EE) p27 rfl (walk27 rfl rfl rfl hb hI hv hw hl h))
  · exact h.elim
noncomputable def T28 : List (Nat × Spec1) := (28, ZS10) :: T27
theorem g28 : Abs.Good EE T28 := g27.cons det_ZS10 fun vs G Q h => by
  unfold ZS10 at h; split at h
  · obtain ⟨a, b, ⟨rfl, rfl, h1, h2⟩, h⟩ := h; exact g27.ret (E := EE) p28 rfl (walk28 h1 h2 h)
  · exact h.elim
theorem law6 : ∀ vs : List V, TyAll Tryd.prog 12 Tryd.f6.params.toList vs → Ret EE 6 vs [] (fun r _ => r = .v (.bool true)) := by
  intro vs h
  have hk5 : intK Tryd.prog 5 = some .u8 := by kernel_rfl
  have hk70 : intK Tryd.prog 70 = none := by kernel_rfl
  have hc : Tryd.prog.cellsOf 70 = 101 := by kernel_rfl
  simp only [Tryd.params6, TyAll, TyV, TyL, Tryd.underlying3, Tryd.underlying61, Tryd.underlying62, Tryd.underlying70, Tryd.underlying38, hk5, hk70, hc] at h
  obtain ⟨x, l, rfl, ⟨_, rfl, _, _, rfl, ⟨b, rfl, ib⟩, _, _, rfl, ⟨n, rfl, i_n⟩, _, _, rfl, ⟨v, rfl, i_v⟩, rfl⟩, _, _, rfl, ⟨xs, rfl, hxs, hlen⟩, rfl⟩ := h
  obtain ⟨as_, rfl, hw⟩ := rows_of (xs := xs) fun e he => by
    obtain ⟨_, rfl, _, _, rfl, ⟨a1, rfl, ia1⟩, _, _, rfl, ⟨a2, rfl, ia2⟩, _, _, rfl, ⟨a3, rfl, ia3⟩, _, _, rfl, ⟨a4, rfl, ia4⟩, _, _, rfl, ⟨a5, rfl, la5, ia5⟩, _, _, rfl, ⟨a6, rfl, ia6⟩, _, _, rfl, ⟨a7, rfl, la7, ia7⟩, _, _, rfl, ⟨a8, rfl, la8, ia8⟩, rfl⟩ := hxs e he
    exact ⟨⟨a1, a2, a3, a4, a5, a6, a7, a8⟩, rfl, ⟨wf64 ia1, wf64 ia2, wf64 ia3, wf64 ia4, wf64 ia6, ⟨fun x hx => wf8 (ia5 x hx), la5⟩, ⟨fun x hx => wf8 (ia7 x hx), la7⟩, ⟨fun x hx => wf8 (ia8 x hx), la8⟩⟩⟩
  rw [List.length_map] at hlen
  exact g28.ret (E := EE) p6 rfl (walk6 rfl rfl rfl rfl rfl (wf64 ib) (wf64 i_n) (wf64 i_v) hw (Nat.lt_of_le_of_lt hlen (by decide)) rfl)
theorem tabOk6 : ∀ g x, Abs.look ([(0, .arr .u32 64 K256), (1, .arr .u32 64 K256)] : List (Nat × V)) g = some x → ∃ nm t e k n xs, (nm, DataW.agg (xs.map fun x => .lit (.int k x))) ∈ Rows.accuMakesRow.laid ∧ Tryd.prog.globalNamed nm = some g ∧ (Tryd.prog.globals[g]?).map (·.type) = some t ∧ Tryd.prog.underlying t = some (.array n e) ∧ Tryd.prog.underlying e = some (.int k) ∧ Tryd.prog.cellsOf e = 1 ∧ Tryd.prog.cellsOf t = n ∧ x = .arr k n xs := by
  intro g x h
  by_cases e0 : g = 0
  · subst e0
    simp only [look_cons, if_pos, reduceIte, Nat.reduceEqDiff] at h
    cases h
    exact ⟨"tithing/sha.constants", 189, 185, .u32, 64, K256, by simp only [Rows.accuMakesRow, List.mem_cons]; first | (left; rfl) | (right; left; rfl), by kernel_rfl, by kernel_rfl, by kernel_rfl, by kernel_rfl, by kernel_rfl, by kernel_rfl, rfl⟩
  by_cases e1 : g = 1
  · subst e1
    simp only [look_cons, if_pos, reduceIte, Nat.reduceEqDiff] at h
    cases h
    exact ⟨"tithing/tithingref02.constants", 189, 185, .u32, 64, K256, by simp only [Rows.accuMakesRow, List.mem_cons]; first | (left; rfl) | (right; left; rfl), by kernel_rfl, by kernel_rfl, by kernel_rfl, by kernel_rfl, by kernel_rfl, by kernel_rfl, rfl⟩
  simp only [look_cons, e0, e1, if_false, look] at h
  cases h
theorem met6 (os : Os) (args : Array Value) : laidMetH Tryd.prog Rows.accuMakesRow.laid ((World.doorLaid Tryd.prog 400 os).forCall (fun _ _ => 0) ⟨#[], args, []⟩).memory :=
  laidMetH_of_parts3 (fuel := 8) (laidMet_of_run' 8 (by kernel_rfl) (by kernel_rfl)) (by kernel_rfl) (by kernel_rfl)
set_option maxRecDepth 100000 in
theorem lifted6 (os : Os) (started : os.Started) (H : Type) (enc : TypeId × Value → H) :
    ReturnsInHanded {} Tryd.checked os 6 .any (fun w args => (Rows.accuMakesSpec.pre enc Tryd.prog Tryd.f6 [] false w args ∧ laidMetH Tryd.prog Rows.accuMakesRow.laid w) ∧ sizedMet enc Tryd.prog Tryd.f6 (OpenSpec.ofChange Rows.accuMakesSpec) false w args) (Rows.accuMakesSpec.post enc Tryd.prog Tryd.f6 false true false false) :=
  law_laid (C := Tryd.checked) (fn := Tryd.f6) (n := 12) (tab := [(0, .arr .u32 64 K256), (1, .arr .u32 64 K256)]) (tb := 4) own started (by kernel_rfl) Tryd.func6
    (ChangeSpec.witness_shaped (enc := enc) (C := Tryd.checked) (os := os) (X := fun w _ => laidMetH Tryd.prog Rows.accuMakesRow.laid w) false (World.doorLaid Tryd.prog 400 os) #[.agg #[.int .i64 0, .int .i64 0, .int .i64 0], .slice none 0 0] 8 rfl (World.shaped_of_RefB (by kernel_rfl) (by kernel_rfl)) (by kernel_rfl) (by kernel_rfl) (by kernel_rfl) (met6 os _))
    laidOut rfl rfl Tryd.underlying4 (fun H ds h => by
      rw [Tryd.params6] at h
      match ds, h with
      | [d1, d2], _ => rfl)
    (fun t ht => by
      rw [Tryd.params6] at ht; simp at ht; rcases ht with rfl | rfl
      all_goals exact ⟨by kernel_rfl, of_decide_eq_true (by kernel_rfl)⟩)
    (fun t ht => by
      rw [Tryd.params6] at ht; simp at ht; rcases ht with rfl | rfl
      all_goals kernel_rfl)
    (fun W hL => tabs_of_laid (by kernel_rfl) hL (tabOk6)) law6
theorem over6 : Rows.accuMakesRow.holds Tryd.pinned (OpenSpec.ofChange Rows.accuMakesSpec) :=
  OpenClaim.holds_of_wide 6 Tryd.f6 rfl rfl rfl rfl rfl rfl rfl ⟨rfl, rfl, rfl, rfl, rfl⟩ rfl rfl rfl rfl rfl (by kernel_rfl) Tryd.func6 (by kernel_rfl)
    (of_decide_eq_true (by kernel_rfl)) (by unfold Func.isWrapper; first | (rw [if_pos (by decide +kernel)]; kernel_rfl) | (rw [if_neg (by decide +kernel)]; exact ⟨rfl, rfl⟩))
    (fun os started H enc _ => lifted6 os started H enc)
theorem accuMakes_holds : Rows.AccuMakesCardSaid :=
  Claim7.holds_tied_plain_at .later [] [.data, .data] true (true, "c3d703041ae3eab4dd22cb90f0a7a17acaa9b161d26fb10ce2aad357cd424b18") false
    over6 (fun _ h => by cases h) (by kernel_rfl) (fun _ h => by cases h) accuMakes_row_tie rfl ⟨rfl, rfl⟩ (by kernel_rfl) rfl
    (fun f fn hf hfn => by
      obtain rfl : f = 6 := Option.some.inj ((show Tryd.prog.funcNamed "tithing/tithinglaw10.AccuMakes" = some 6 by kernel_rfl).symm.trans hf) |>.symm
      obtain rfl : fn = Tryd.f6 := (Option.some.inj (Tryd.func6.symm.trans hfn)).symm
      exact ⟨by kernel_rfl, fun j t ht => by
        rw [Tryd.params6] at ht
        have hm : t ∈ [61, 62] := by simpa using Array.mem_of_getElem? ht
        have hall : ([61, 62].all fun u => !Tryd.prog.wantsStandIn u) = true := by kernel_rfl
        exact (show Tryd.prog.wantsStandIn t = false by simpa using List.all_eq_true.1 hall t hm)⟩)
    (by kernel_rfl)
#print axioms accuMakes_holds
end Go.Proofs.YtjbglbhcbenhpaaDoor.Sha
