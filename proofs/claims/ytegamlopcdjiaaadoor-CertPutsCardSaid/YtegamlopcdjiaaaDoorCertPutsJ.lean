/- For every input CertPuts returns true and leaves its arguments as they were; no conditions. -/
import Derived.Test.YtegamlopcdjiaaaDoorUCrt12
import Derived.Test.YtegamlopcdjiaaaDoorG12
import Derived.Test.YtegamlopcdjiaaaDoorG10
import Derived.Test.YtegamlopcdjiaaaDoorG13
import Derived.Test.YtegamlopcdjiaaaDoorG4
import Derived.Test.YtegamlopcdjiaaaDoorRows
import Derived.Test.YtegamlopcdjiaaaDoorCards
import Derived.Test.YtegamlopcdjiaaaDoorTie
import Derived.OpenShut
import Derived.Below
import Derived.SevenTiedAt
namespace Go.Proofs.YtegamlopcdjiaaaDoor.Sha
open Go Go.Abs Go.RowKit Go.Abs.Sha Go.Abs.Srt
set_option linter.unusedSimpArgs false
set_option linter.unusedVariables false
set_option maxRecDepth 100000
theorem p8:prepF Tryd.prog 8 17 [] []=some pf8:=by kernel_rfl
theorem p85:prepF Tryd.prog 85 3 [] []=some pf85:=by kernel_rfl
theorem p123:prepF Tryd.prog 123 1 [] []=some pf123:=by kernel_rfl
theorem p129:prepF Tryd.prog 129 5 [[0,3,4]] []=some pf129:=by kernel_rfl
theorem p124:prepF Tryd.prog 124 4 [] []=some pf124:=by kernel_rfl
theorem p135:prepF Tryd.prog 135 6 [] []=some pf135:=by kernel_rfl
theorem p131:prepF Tryd.prog 131 5 [] []=some pf131:=by kernel_rfl
theorem p130:prepF Tryd.prog 130 23 [[1,2,3,12],[1,2,3,4,12,20,21,22],[2,3,7]] []=some pf130:=by kernel_rfl
theorem p125:prepF Tryd.prog 125 109 [[2,4,5,6,7,8,9,10,11,12,36,37],[2,4,107,108]] []=some pf125:=by kernel_rfl
theorem p115:prepF Tryd.prog 115 37 [[2,3,11,12,13],[2,6,7],[2,8,35,36]] []=some pf115:=by kernel_rfl
theorem p107:prepF Tryd.prog 107 3 [] []=some pf107:=by kernel_rfl
theorem p118:prepF Tryd.prog 118 5 [] []=some pf118:=by kernel_rfl
theorem p109:prepF Tryd.prog 109 28 [[0,3,9,10,11],[6,25,26,27]] []=some pf109:=by kernel_rfl
theorem p116:prepF Tryd.prog 116 5 [] []=some pf116:=by kernel_rfl
theorem p117:prepF Tryd.prog 117 7 [[1,2,6]] []=some pf117:=by kernel_rfl
theorem p108:prepF Tryd.prog 108 7 [] []=some pf108:=by kernel_rfl
theorem p82:prepF Tryd.prog 82 8 [] []=some pf82:=by kernel_rfl
theorem p86:prepF Tryd.prog 86 10 [[3,5,8,9]] []=some pf86:=by kernel_rfl
theorem p46:prepF Tryd.prog 46 9 [] []=some pf46:=by kernel_rfl
theorem p83:prepF Tryd.prog 83 4 [] []=some pf83:=by kernel_rfl
theorem p65:prepF Tryd.prog 65 3 [] []=some pf65:=by kernel_rfl
theorem p71:prepF Tryd.prog 71 5 [] []=some pf71:=by kernel_rfl
theorem p72:prepF Tryd.prog 72 6 [[1,5]] []=some pf72:=by kernel_rfl
theorem p84:prepF Tryd.prog 84 16 [[0,3,13,14,15]] []=some pf84:=by kernel_rfl
theorem p56:prepF Tryd.prog 56 3 [] []=some pf56:=by kernel_rfl
theorem p88:prepF Tryd.prog 88 4 [] []=some pf88:=by kernel_rfl
theorem p90:prepF Tryd.prog 90 5 [] []=some pf90:=by kernel_rfl
theorem p89:prepF Tryd.prog 89 4 [] []=some pf89:=by kernel_rfl
theorem p80:prepF Tryd.prog 80 5 [] []=some pf80:=by kernel_rfl
theorem p113:prepF Tryd.prog 113 3 [] []=some pf113:=by kernel_rfl
theorem p94:prepF Tryd.prog 94 7 [] []=some pf94:=by kernel_rfl
theorem p93:prepF Tryd.prog 93 5 [] []=some pf93:=by kernel_rfl
theorem p105:prepF Tryd.prog 105 5 [] []=some pf105:=by kernel_rfl
theorem p96:prepF Tryd.prog 96 5 [] []=some pf96:=by kernel_rfl
theorem p106:prepF Tryd.prog 106 5 [] []=some pf106:=by kernel_rfl
theorem p57:prepF Tryd.prog 57 6 [] []=some pf57:=by kernel_rfl
theorem p55:prepF Tryd.prog 55 4 [] []=some pf55:=by kernel_rfl
theorem p44:prepF Tryd.prog 44 3 [] []=some pf44:=by kernel_rfl
theorem p53:prepF Tryd.prog 53 11 [[1,5,8,9,10]] []=some pf53:=by kernel_rfl
theorem p97:prepF Tryd.prog 97 9 [[0,1,7,8]] []=some pf97:=by kernel_rfl
theorem p54:prepF Tryd.prog 54 5 [] []=some pf54:=by kernel_rfl
theorem p15:prepF Tryd.prog 15 6 [] [3]=some pf15:=by kernel_rfl
theorem p43:prepF Tryd.prog 43 3 [] []=some pf43:=by kernel_rfl
theorem p104:prepF Tryd.prog 104 9 [[0,1,7,8]] []=some pf104:=by kernel_rfl
theorem p79:prepF Tryd.prog 79 5 [] []=some pf79:=by kernel_rfl
theorem p91:prepF Tryd.prog 91 3 [] [5,7]=some pf91:=by kernel_rfl
theorem p121:prepF Tryd.prog 121 10 [[0,1,2,3,8],[0,1,2,3,8,9]] []=some pf121:=by kernel_rfl
theorem p134:prepF Tryd.prog 134 11 [[0,1,2,3,10]] []=some pf134:=by kernel_rfl
theorem p128:prepF Tryd.prog 128 12 [[0,2,4,10,11]] []=some pf128:=by kernel_rfl
theorem p122:prepF Tryd.prog 122 25 [[0,1,4,10,11],[0,10,13],[0,2,4,14,15],[0,14,17],[0,1,2,3,4,18,19,20,21,22]] []=some pf122:=by kernel_rfl
theorem p112:prepF Tryd.prog 112 10 [[0,1,2,6,7,8],[0,1,2,6],[0,1,2,6,7,8]] []=some pf112:=by kernel_rfl
theorem p92:prepF Tryd.prog 92 2 [] []=some pf92:=by kernel_rfl
theorem p95:prepF Tryd.prog 95 8 [[0,1,5],[0,1,5,6,7]] []=some pf95:=by kernel_rfl
theorem p51:prepF Tryd.prog 51 55 [[4,8,52,53,54]] [2,3,66]=some pf51:=by kernel_rfl
theorem p52:prepF Tryd.prog 52 10 [[3,7,8,9]] []=some pf52:=by kernel_rfl
theorem p14:prepF Tryd.prog 14 6 [] []=some pf14:=by kernel_rfl
theorem p18:prepF Tryd.prog 18 6 [[2,3,5]] []=some pf18:=by kernel_rfl
theorem p29:prepF Tryd.prog 29 3 [] [6]=some pf29:=by kernel_rfl
theorem p32:prepF Tryd.prog 32 3 [] []=some pf32:=by kernel_rfl
theorem p35:prepF Tryd.prog 35 6 [[0,1,5]] []=some pf35:=by kernel_rfl
theorem p100:prepF Tryd.prog 100 3 [] []=some pf100:=by kernel_rfl
theorem p114:prepF Tryd.prog 114 7 [[0,4,5]] []=some pf114:=by kernel_rfl
theorem p101:prepF Tryd.prog 101 5 [] []=some pf101:=by kernel_rfl
theorem p66:prepF Tryd.prog 66 7 [] []=some pf66:=by kernel_rfl
theorem p67:prepF Tryd.prog 67 4 [] []=some pf67:=by kernel_rfl
theorem p68:prepF Tryd.prog 68 3 [] []=some pf68:=by kernel_rfl
theorem p75:prepF Tryd.prog 75 3 [] []=some pf75:=by kernel_rfl
theorem p37:prepF Tryd.prog 37 22 [[0,2,4,20,21]] [31,2000026,2000028]=some pf37:=by kernel_rfl
theorem p58:prepF Tryd.prog 58 6 [[0,1,5]] []=some pf58:=by kernel_rfl
theorem p59:prepF Tryd.prog 59 3 [] []=some pf59:=by kernel_rfl
theorem p61:prepF Tryd.prog 61 5 [] []=some pf61:=by kernel_rfl
theorem p76:prepF Tryd.prog 76 3 [] []=some pf76:=by kernel_rfl
theorem p40:prepF Tryd.prog 40 3 [] []=some pf40:=by kernel_rfl
theorem p103:prepF Tryd.prog 103 3 [] []=some pf103:=by kernel_rfl
theorem p102:prepF Tryd.prog 102 7 [[1,2,4,5,6]] []=some pf102:=by kernel_rfl
theorem p69:prepF Tryd.prog 69 8 [] []=some pf69:=by kernel_rfl
theorem p70:prepF Tryd.prog 70 6 [[1,2,3,4,5]] []=some pf70:=by kernel_rfl
theorem p38:prepF Tryd.prog 38 9 [[1,2,3,5,6,7]] [79]=some pf38:=by kernel_rfl
theorem p39:prepF Tryd.prog 39 58 [[0,3,23,24,25],[0,55,56,57]] []=some pf39:=by kernel_rfl
theorem p74:prepF Tryd.prog 74 5 [[1,3,4]] []=some pf74:=by kernel_rfl
theorem p77:prepF Tryd.prog 77 4 [] []=some pf77:=by kernel_rfl
theorem p41:prepF Tryd.prog 41 5 [[1,3,4]] []=some pf41:=by kernel_rfl
theorem det_SNo:(SNo).Det:=by
 intro vs G Q h;unfold SNo at h⊢;split at h<;>first|exact h.elim|exact det00 h|exact det0 h|exact detE1 h|exact detE2 h|exact detE3 h|exact detE4 h|exact detE5 h|exact detE6 h|exact detE7 h|exact detN h|exact detA h|exact detN0 h|exact detN1 h|exact detN2 h|exact detN3 h|exact detA0 h|exact detA1 h|exact detA2 h|exact detA3 h|exact detIf h
theorem det_SSt:(SSt).Det:=by
 intro vs G Q h;unfold SSt at h⊢;split at h<;>first|exact h.elim|exact det00 h|exact det0 h|exact detE1 h|exact detE2 h|exact detE3 h|exact detE4 h|exact detE5 h|exact detE6 h|exact detE7 h|exact detN h|exact detA h|exact detN0 h|exact detN1 h|exact detN2 h|exact detN3 h|exact detA0 h|exact detA1 h|exact detA2 h|exact detA3 h|exact detIf h
theorem det_SEn:(SEn).Det:=by
 intro vs G Q h;unfold SEn at h⊢;split at h<;>first|exact h.elim|exact det00 h|exact det0 h|exact detE1 h|exact detE2 h|exact detE3 h|exact detE4 h|exact detE5 h|exact detE6 h|exact detE7 h|exact detN h|exact detA h|exact detN0 h|exact detN1 h|exact detN2 h|exact detN3 h|exact detA0 h|exact detA1 h|exact detA2 h|exact detA3 h|exact detIf h
theorem det_SFi:(SFi).Det:=by
 intro vs G Q h;unfold SFi at h⊢;split at h<;>first|exact h.elim|exact det00 h|exact det0 h|exact detE1 h|exact detE2 h|exact detE3 h|exact detE4 h|exact detE5 h|exact detE6 h|exact detE7 h|exact detN h|exact detA h|exact detN0 h|exact detN1 h|exact detN2 h|exact detN3 h|exact detA0 h|exact detA1 h|exact detA2 h|exact detA3 h|exact detIf h
theorem det_SRl:(SRl).Det:=by
 intro vs G Q h;unfold SRl at h⊢;split at h<;>first|exact h.elim|exact det00 h|exact det0 h|exact detE1 h|exact detE2 h|exact detE3 h|exact detE4 h|exact detE5 h|exact detE6 h|exact detE7 h|exact detN h|exact detA h|exact detN0 h|exact detN1 h|exact detN2 h|exact detN3 h|exact detA0 h|exact detA1 h|exact detA2 h|exact detA3 h|exact detIf h
theorem det_SRo:(SRo).Det:=by
 intro vs G Q h;unfold SRo at h⊢;split at h<;>first|exact h.elim|exact det00 h|exact det0 h|exact detE1 h|exact detE2 h|exact detE3 h|exact detE4 h|exact detE5 h|exact detE6 h|exact detE7 h|exact detN h|exact detA h|exact detN0 h|exact detN1 h|exact detN2 h|exact detN3 h|exact detA0 h|exact detA1 h|exact detA2 h|exact detA3 h|exact detIf h
theorem det_SSc:(SSc).Det:=by
 intro vs G Q h;unfold SSc at h⊢;split at h<;>first|exact h.elim|exact det00 h|exact det0 h|exact detE1 h|exact detE2 h|exact detE3 h|exact detE4 h|exact detE5 h|exact detE6 h|exact detE7 h|exact detN h|exact detA h|exact detN0 h|exact detN1 h|exact detN2 h|exact detN3 h|exact detA0 h|exact detA1 h|exact detA2 h|exact detA3 h|exact detIf h
theorem det_STu_K256:(STu K256).Det:=by
 intro vs G Q h;unfold STu at h⊢;split at h<;>first|exact h.elim|exact det00 h|exact det0 h|exact detE1 h|exact detE2 h|exact detE3 h|exact detE4 h|exact detE5 h|exact detE6 h|exact detE7 h|exact detN h|exact detA h|exact detN0 h|exact detN1 h|exact detN2 h|exact detN3 h|exact detA0 h|exact detA1 h|exact detA2 h|exact detA3 h|exact detIf h
theorem det_SOf_K256:(SOf K256).Det:=by
 intro vs G Q h;unfold SOf at h⊢;split at h<;>first|exact h.elim|exact det00 h|exact det0 h|exact detE1 h|exact detE2 h|exact detE3 h|exact detE4 h|exact detE5 h|exact detE6 h|exact detE7 h|exact detN h|exact detA h|exact detN0 h|exact detN1 h|exact detN2 h|exact detN3 h|exact detA0 h|exact detA1 h|exact detA2 h|exact detA3 h|exact detIf h
theorem det_SKe_K256:(SKe K256).Det:=by
 intro vs G Q h;unfold SKe at h⊢;split at h<;>first|exact h.elim|exact det00 h|exact det0 h|exact detE1 h|exact detE2 h|exact detE3 h|exact detE4 h|exact detE5 h|exact detE6 h|exact detE7 h|exact detN h|exact detA h|exact detN0 h|exact detN1 h|exact detN2 h|exact detN3 h|exact detA0 h|exact detA1 h|exact detA2 h|exact detA3 h|exact detIf h
theorem det_SGr:(SGr).Det:=by
 intro vs G Q h;unfold SGr at h⊢;split at h<;>first|exact h.elim|exact det00 h|exact det0 h|exact detE1 h|exact detE2 h|exact detE3 h|exact detE4 h|exact detE5 h|exact detE6 h|exact detE7 h|exact detN h|exact detA h|exact detN0 h|exact detN1 h|exact detN2 h|exact detN3 h|exact detA0 h|exact detA1 h|exact detA2 h|exact detA3 h|exact detIf h
theorem det_SCc:(SCc).Det:=by
 intro vs G Q h;unfold SCc at h⊢;split at h<;>first|exact h.elim|exact det00 h|exact det0 h|exact detE1 h|exact detE2 h|exact detE3 h|exact detE4 h|exact detE5 h|exact detE6 h|exact detE7 h|exact detN h|exact detA h|exact detN0 h|exact detN1 h|exact detN2 h|exact detN3 h|exact detA0 h|exact detA1 h|exact detA2 h|exact detA3 h|exact detIf h
theorem det_SBl_K256:(SBl K256).Det:=by
 intro vs G Q h;unfold SBl at h⊢;split at h<;>first|exact h.elim|exact det00 h|exact det0 h|exact detE1 h|exact detE2 h|exact detE3 h|exact detE4 h|exact detE5 h|exact detE6 h|exact detE7 h|exact detN h|exact detA h|exact detN0 h|exact detN1 h|exact detN2 h|exact detN3 h|exact detA0 h|exact detA1 h|exact detA2 h|exact detA3 h|exact detIf h
theorem det_STd:(STd).Det:=by
 intro vs G Q h;unfold STd at h⊢;split at h<;>first|exact h.elim|exact det00 h|exact det0 h|exact detE1 h|exact detE2 h|exact detE3 h|exact detE4 h|exact detE5 h|exact detE6 h|exact detE7 h|exact detN h|exact detA h|exact detN0 h|exact detN1 h|exact detN2 h|exact detN3 h|exact detA0 h|exact detA1 h|exact detA2 h|exact detA3 h|exact detIf h
theorem det_SMa_K256:(SMa K256).Det:=by
 intro vs G Q h;unfold SMa at h⊢;split at h<;>first|exact h.elim|exact det00 h|exact det0 h|exact detE1 h|exact detE2 h|exact detE3 h|exact detE4 h|exact detE5 h|exact detE6 h|exact detE7 h|exact detN h|exact detA h|exact detN0 h|exact detN1 h|exact detN2 h|exact detN3 h|exact detA0 h|exact detA1 h|exact detA2 h|exact detA3 h|exact detIf h
theorem det_STa_K256:(STa K256).Det:=by
 intro vs G Q h;unfold STa at h⊢;split at h<;>first|exact h.elim|exact det00 h|exact det0 h|exact detE1 h|exact detE2 h|exact detE3 h|exact detE4 h|exact detE5 h|exact detE6 h|exact detE7 h|exact detN h|exact detA h|exact detN0 h|exact detN1 h|exact detN2 h|exact detN3 h|exact detA0 h|exact detA1 h|exact detA2 h|exact detA3 h|exact detIf h
theorem det_SSa:(SSa).Det:=by
 intro vs G Q h;unfold SSa at h⊢;split at h<;>first|exact h.elim|exact det00 h|exact det0 h|exact detE1 h|exact detE2 h|exact detE3 h|exact detE4 h|exact detE5 h|exact detE6 h|exact detE7 h|exact detN h|exact detA h|exact detN0 h|exact detN1 h|exact detN2 h|exact detN3 h|exact detA0 h|exact detA1 h|exact detA2 h|exact detA3 h|exact detIf h
theorem det_SCh_K256:(SCh K256).Det:=by
 intro vs G Q h;unfold SCh at h⊢;split at h<;>first|exact h.elim|exact det00 h|exact det0 h|exact detE1 h|exact detE2 h|exact detE3 h|exact detE4 h|exact detE5 h|exact detE6 h|exact detE7 h|exact detN h|exact detA h|exact detN0 h|exact detN1 h|exact detN2 h|exact detN3 h|exact detA0 h|exact detA1 h|exact detA2 h|exact detA3 h|exact detIf h
theorem det_SCk:(SCk).Det:=by
 intro vs G Q h;unfold SCk at h⊢;split at h<;>first|exact h.elim|exact det00 h|exact det0 h|exact detE1 h|exact detE2 h|exact detE3 h|exact detE4 h|exact detE5 h|exact detE6 h|exact detE7 h|exact detN h|exact detA h|exact detN0 h|exact detN1 h|exact detN2 h|exact detN3 h|exact detA0 h|exact detA1 h|exact detA2 h|exact detA3 h|exact detIf h
theorem det_SCl:(SCl).Det:=by
 intro vs G Q h;unfold SCl at h⊢;split at h<;>first|exact h.elim|exact det00 h|exact det0 h|exact detE1 h|exact detE2 h|exact detE3 h|exact detE4 h|exact detE5 h|exact detE6 h|exact detE7 h|exact detN h|exact detA h|exact detN0 h|exact detN1 h|exact detN2 h|exact detN3 h|exact detA0 h|exact detA1 h|exact detA2 h|exact detA3 h|exact detIf h
theorem det_SHa:(SHa).Det:=by
 intro vs G Q h;unfold SHa at h⊢;split at h<;>first|exact h.elim|exact det00 h|exact det0 h|exact detE1 h|exact detE2 h|exact detE3 h|exact detE4 h|exact detE5 h|exact detE6 h|exact detE7 h|exact detN h|exact detA h|exact detN0 h|exact detN1 h|exact detN2 h|exact detN3 h|exact detA0 h|exact detA1 h|exact detA2 h|exact detA3 h|exact detIf h
theorem det_SNu:(SNu).Det:=by
 intro vs G Q h;unfold SNu at h⊢;split at h<;>first|exact h.elim|exact det00 h|exact det0 h|exact detE1 h|exact detE2 h|exact detE3 h|exact detE4 h|exact detE5 h|exact detE6 h|exact detE7 h|exact detN h|exact detA h|exact detN0 h|exact detN1 h|exact detN2 h|exact detN3 h|exact detA0 h|exact detA1 h|exact detA2 h|exact detA3 h|exact detIf h
theorem det_STg:(STg).Det:=by
 intro vs G Q h;unfold STg at h⊢;split at h<;>first|exact h.elim|exact det00 h|exact det0 h|exact detE1 h|exact detE2 h|exact detE3 h|exact detE4 h|exact detE5 h|exact detE6 h|exact detE7 h|exact detN h|exact detA h|exact detN0 h|exact detN1 h|exact detN2 h|exact detN3 h|exact detA0 h|exact detA1 h|exact detA2 h|exact detA3 h|exact detIf h
theorem det_SRi_K256:(SRi K256).Det:=by
 intro vs G Q h;unfold SRi at h⊢;split at h<;>first|exact h.elim|exact det00 h|exact det0 h|exact detE1 h|exact detE2 h|exact detE3 h|exact detE4 h|exact detE5 h|exact detE6 h|exact detE7 h|exact detN h|exact detA h|exact detN0 h|exact detN1 h|exact detN2 h|exact detN3 h|exact detA0 h|exact detA1 h|exact detA2 h|exact detA3 h|exact detIf h
theorem det_ZP1_K256:(ZP1 K256).Det:=by
 intro vs G Q h;unfold ZP1 at h⊢;split at h<;>first|exact h.elim|exact det00 h|exact det0 h|exact detE1 h|exact detE2 h|exact detE3 h|exact detE4 h|exact detE5 h|exact detE6 h|exact detE7 h|exact detN h|exact detA h|exact detN0 h|exact detN1 h|exact detN2 h|exact detN3 h|exact detA0 h|exact detA1 h|exact detA2 h|exact detA3 h|exact detIf h
theorem det_SAl:(SAl).Det:=by
 intro vs G Q h;unfold SAl at h⊢;split at h<;>first|exact h.elim|exact det00 h|exact det0 h|exact detE1 h|exact detE2 h|exact detE3 h|exact detE4 h|exact detE5 h|exact detE6 h|exact detE7 h|exact detN h|exact detA h|exact detN0 h|exact detN1 h|exact detN2 h|exact detN3 h|exact detA0 h|exact detA1 h|exact detA2 h|exact detA3 h|exact detIf h
theorem det_ZP2:(ZP2).Det:=by
 intro vs G Q h;unfold ZP2 at h⊢;split at h<;>first|exact h.elim|exact det00 h|exact det0 h|exact detE1 h|exact detE2 h|exact detE3 h|exact detE4 h|exact detE5 h|exact detE6 h|exact detE7 h|exact detN h|exact detA h|exact detN0 h|exact detN1 h|exact detN2 h|exact detN3 h|exact detA0 h|exact detA1 h|exact detA2 h|exact detA3 h|exact detIf h
theorem det_ZP3_K256:(ZP3 K256).Det:=by
 intro vs G Q h;unfold ZP3 at h⊢;split at h<;>first|exact h.elim|exact det00 h|exact det0 h|exact detE1 h|exact detE2 h|exact detE3 h|exact detE4 h|exact detE5 h|exact detE6 h|exact detE7 h|exact detN h|exact detA h|exact detN0 h|exact detN1 h|exact detN2 h|exact detN3 h|exact detA0 h|exact detA1 h|exact detA2 h|exact detA3 h|exact detIf h
theorem det_ZNan:(ZNan).Det:=by
 intro vs G Q h;unfold ZNan at h⊢;split at h<;>first|exact h.elim|exact det00 h|exact det0 h|exact detE1 h|exact detE2 h|exact detE3 h|exact detE4 h|exact detE5 h|exact detE6 h|exact detE7 h|exact detN h|exact detA h|exact detN0 h|exact detN1 h|exact detN2 h|exact detN3 h|exact detA0 h|exact detA1 h|exact detA2 h|exact detA3 h|exact detIf h
theorem det_ZCmp:(ZCmp).Det:=by
 intro vs G Q h;unfold ZCmp at h⊢;split at h<;>first|exact h.elim|exact det00 h|exact det0 h|exact detE1 h|exact detE2 h|exact detE3 h|exact detE4 h|exact detE5 h|exact detE6 h|exact detE7 h|exact detN h|exact detA h|exact detN0 h|exact detN1 h|exact detN2 h|exact detN3 h|exact detA0 h|exact detA1 h|exact detA2 h|exact detA3 h|exact detIf h
theorem det_ZCb:(ZCb).Det:=by
 intro vs G Q h;unfold ZCb at h⊢;split at h<;>first|exact h.elim|exact det00 h|exact det0 h|exact detE1 h|exact detE2 h|exact detE3 h|exact detE4 h|exact detE5 h|exact detE6 h|exact detE7 h|exact detN h|exact detA h|exact detN0 h|exact detN1 h|exact detN2 h|exact detN3 h|exact detA0 h|exact detA1 h|exact detA2 h|exact detA3 h|exact detIf h
theorem det_ZEb:(ZEb).Det:=by
 intro vs G Q h;unfold ZEb at h⊢;split at h<;>first|exact h.elim|exact det00 h|exact det0 h|exact detE1 h|exact detE2 h|exact detE3 h|exact detE4 h|exact detE5 h|exact detE6 h|exact detE7 h|exact detN h|exact detA h|exact detN0 h|exact detN1 h|exact detN2 h|exact detN3 h|exact detA0 h|exact detA1 h|exact detA2 h|exact detA3 h|exact detIf h
theorem det_ZWi:(ZWi).Det:=by
 intro vs G Q h;unfold ZWi at h⊢;split at h<;>first|exact h.elim|exact det00 h|exact det0 h|exact detE1 h|exact detE2 h|exact detE3 h|exact detE4 h|exact detE5 h|exact detE6 h|exact detE7 h|exact detN h|exact detA h|exact detN0 h|exact detN1 h|exact detN2 h|exact detN3 h|exact detA0 h|exact detA1 h|exact detA2 h|exact detA3 h|exact detIf h
theorem det_ZCr_K256:(ZCr K256).Det:=by
 intro vs G Q h;unfold ZCr at h⊢;split at h<;>first|exact h.elim|exact det00 h|exact det0 h|exact detE1 h|exact detE2 h|exact detE3 h|exact detE4 h|exact detE5 h|exact detE6 h|exact detE7 h|exact detN h|exact detA h|exact detN0 h|exact detN1 h|exact detN2 h|exact detN3 h|exact detA0 h|exact detA1 h|exact detA2 h|exact detA3 h|exact detIf h
theorem det_ZQu:(ZQu).Det:=by
 intro vs G Q h;unfold ZQu at h⊢;split at h<;>first|exact h.elim|exact det00 h|exact det0 h|exact detE1 h|exact detE2 h|exact detE3 h|exact detE4 h|exact detE5 h|exact detE6 h|exact detE7 h|exact detN h|exact detA h|exact detN0 h|exact detN1 h|exact detN2 h|exact detN3 h|exact detA0 h|exact detA1 h|exact detA2 h|exact detA3 h|exact detIf h
theorem det_ZRs:(ZRs).Det:=by
 intro vs G Q h;unfold ZRs at h⊢;split at h<;>first|exact h.elim|exact det00 h|exact det0 h|exact detE1 h|exact detE2 h|exact detE3 h|exact detE4 h|exact detE5 h|exact detE6 h|exact detE7 h|exact detN h|exact detA h|exact detN0 h|exact detN1 h|exact detN2 h|exact detN3 h|exact detA0 h|exact detA1 h|exact detA2 h|exact detA3 h|exact detIf h
theorem det_ZIy_TT2:(ZIy TT2).Det:=by
 intro vs G Q h;unfold ZIy at h⊢;split at h<;>first|exact h.elim|exact det00 h|exact det0 h|exact detE1 h|exact detE2 h|exact detE3 h|exact detE4 h|exact detE5 h|exact detE6 h|exact detE7 h|exact detN h|exact detA h|exact detN0 h|exact detN1 h|exact detN2 h|exact detN3 h|exact detA0 h|exact detA1 h|exact detA2 h|exact detA3 h|exact detIf h
theorem det_ZCy_TT2:(ZCy TT2).Det:=by
 intro vs G Q h;unfold ZCy at h⊢;split at h<;>first|exact h.elim|exact det00 h|exact det0 h|exact detE1 h|exact detE2 h|exact detE3 h|exact detE4 h|exact detE5 h|exact detE6 h|exact detE7 h|exact detN h|exact detA h|exact detN0 h|exact detN1 h|exact detN2 h|exact detN3 h|exact detA0 h|exact detA1 h|exact detA2 h|exact detA3 h|exact detIf h
theorem det_ZRi_K256:(ZRi K256).Det:=by
 intro vs G Q h;unfold ZRi at h⊢;split at h<;>first|exact h.elim|exact det00 h|exact det0 h|exact detE1 h|exact detE2 h|exact detE3 h|exact detE4 h|exact detE5 h|exact detE6 h|exact detE7 h|exact detN h|exact detA h|exact detN0 h|exact detN1 h|exact detN2 h|exact detN3 h|exact detA0 h|exact detA1 h|exact detA2 h|exact detA3 h|exact detIf h
theorem det_SSi_K256:(SSi K256).Det:=by
 intro vs G Q h;unfold SSi at h⊢;split at h<;>first|exact h.elim|exact det00 h|exact det0 h|exact detE1 h|exact detE2 h|exact detE3 h|exact detE4 h|exact detE5 h|exact detE6 h|exact detE7 h|exact detN h|exact detA h|exact detN0 h|exact detN1 h|exact detN2 h|exact detN3 h|exact detA0 h|exact detA1 h|exact detA2 h|exact detA3 h|exact detIf h
theorem det_ZIx_TT:(ZIx TT).Det:=by
 intro vs G Q h;unfold ZIx at h⊢;split at h<;>first|exact h.elim|exact det00 h|exact det0 h|exact detE1 h|exact detE2 h|exact detE3 h|exact detE4 h|exact detE5 h|exact detE6 h|exact detE7 h|exact detN h|exact detA h|exact detN0 h|exact detN1 h|exact detN2 h|exact detN3 h|exact detA0 h|exact detA1 h|exact detA2 h|exact detA3 h|exact detIf h
theorem det_ZCo_TT:(ZCo TT).Det:=by
 intro vs G Q h;unfold ZCo at h⊢;split at h<;>first|exact h.elim|exact det00 h|exact det0 h|exact detE1 h|exact detE2 h|exact detE3 h|exact detE4 h|exact detE5 h|exact detE6 h|exact detE7 h|exact detN h|exact detA h|exact detN0 h|exact detN1 h|exact detN2 h|exact detN3 h|exact detA0 h|exact detA1 h|exact detA2 h|exact detA3 h|exact detIf h
theorem det_ZCn:(ZCn).Det:=by
 intro vs G Q h;unfold ZCn at h⊢;split at h
 ·obtain⟨h0,h|⟨h1,h⟩⟩:=h
  ·exact⟨_,h.2,fun Q' h'=>⟨h0,.inl h'⟩⟩
  ·exact absurd (congrArg List.length (h (fresh_id _).choose _ (fresh_id _).choose_spec (Nat.le_refl _)).1) (by simp)
 ·exact h.elim
theorem det_ZIs_TT:(ZIs TT).Det:=by
 intro vs G Q h;unfold ZIs at h⊢;split at h<;>first|exact h.elim|exact det00 h|exact det0 h|exact detE1 h|exact detE2 h|exact detE3 h|exact detE4 h|exact detE5 h|exact detE6 h|exact detE7 h|exact detN h|exact detA h|exact detN0 h|exact detN1 h|exact detN2 h|exact detN3 h|exact detA0 h|exact detA1 h|exact detA2 h|exact detA3 h|exact detIf h
theorem det_ZSr:(ZSr).Det:=by
 intro vs G Q h;unfold ZSr at h⊢;split at h<;>first|exact h.elim|exact det00 h|exact det0 h|exact detE1 h|exact detE2 h|exact detE3 h|exact detE4 h|exact detE5 h|exact detE6 h|exact detE7 h|exact detN h|exact detA h|exact detN0 h|exact detN1 h|exact detN2 h|exact detN3 h|exact detA0 h|exact detA1 h|exact detA2 h|exact detA3 h|exact detIf h
theorem det_ZRt:(ZRt).Det:=by
 intro vs G Q h;unfold ZRt at h⊢;split at h<;>first|exact h.elim|exact det00 h|exact det0 h|exact detE1 h|exact detE2 h|exact detE3 h|exact detE4 h|exact detE5 h|exact detE6 h|exact detE7 h|exact detN h|exact detA h|exact detN0 h|exact detN1 h|exact detN2 h|exact detN3 h|exact detA0 h|exact detA1 h|exact detA2 h|exact detA3 h|exact detIf h
theorem det_ZSy_TT_40:(ZSy TT 40).Det:=by
 intro vs G Q h;unfold ZSy at h⊢;split at h<;>first|exact h.elim|exact det00 h|exact det0 h|exact detE1 h|exact detE2 h|exact detE3 h|exact detE4 h|exact detE5 h|exact detE6 h|exact detE7 h|exact detN h|exact detA h|exact detN0 h|exact detN1 h|exact detN2 h|exact detN3 h|exact detA0 h|exact detA1 h|exact detA2 h|exact detA3 h|exact detIf h
theorem det_ZSb_TT:(ZSb TT).Det:=by
 intro vs G Q h;unfold ZSb at h⊢;split at h<;>first|exact h.elim|exact det00 h|exact det0 h|exact detE1 h|exact detE2 h|exact detE3 h|exact detE4 h|exact detE5 h|exact detE6 h|exact detE7 h|exact detN h|exact detA h|exact detN0 h|exact detN1 h|exact detN2 h|exact detN3 h|exact detA0 h|exact detA1 h|exact detA2 h|exact detA3 h|exact detIf h
theorem det_ZSf_TT:(ZSf TT).Det:=by
 intro vs G Q h;unfold ZSf at h⊢;split at h<;>first|exact h.elim|exact det00 h|exact det0 h|exact detE1 h|exact detE2 h|exact detE3 h|exact detE4 h|exact detE5 h|exact detE6 h|exact detE7 h|exact detN h|exact detA h|exact detN0 h|exact detN1 h|exact detN2 h|exact detN3 h|exact detA0 h|exact detA1 h|exact detA2 h|exact detA3 h|exact detIf h
theorem det_ZCm_TT:(ZCm TT).Det:=by
 intro vs G Q h;unfold ZCm at h⊢;split at h<;>first|exact h.elim|exact det00 h|exact det0 h|exact detE1 h|exact detE2 h|exact detE3 h|exact detE4 h|exact detE5 h|exact detE6 h|exact detE7 h|exact detN h|exact detA h|exact detN0 h|exact detN1 h|exact detN2 h|exact detN3 h|exact detA0 h|exact detA1 h|exact detA2 h|exact detA3 h|exact detIf h
theorem det_ZMk_K256:(ZMk K256).Det:=by
 intro vs G Q h;unfold ZMk at h⊢;split at h<;>first|exact h.elim|exact det00 h|exact det0 h|exact detE1 h|exact detE2 h|exact detE3 h|exact detE4 h|exact detE5 h|exact detE6 h|exact detE7 h|exact detN h|exact detA h|exact detN0 h|exact detN1 h|exact detN2 h|exact detN3 h|exact detA0 h|exact detA1 h|exact detA2 h|exact detA3 h|exact detIf h
theorem det_ZSg:(ZSg).Det:=by
 intro vs G Q h;unfold ZSg at h⊢;split at h<;>first|exact h.elim|exact det00 h|exact det0 h|exact detE1 h|exact detE2 h|exact detE3 h|exact detE4 h|exact detE5 h|exact detE6 h|exact detE7 h|exact detN h|exact detA h|exact detN0 h|exact detN1 h|exact detN2 h|exact detN3 h|exact detA0 h|exact detA1 h|exact detA2 h|exact detA3 h|exact detIf h
theorem det_ZAw:(ZAw).Det:=by
 intro vs G Q h;unfold ZAw at h⊢;split at h<;>first|exact h.elim|exact det00 h|exact det0 h|exact detE1 h|exact detE2 h|exact detE3 h|exact detE4 h|exact detE5 h|exact detE6 h|exact detE7 h|exact detN h|exact detA h|exact detN0 h|exact detN1 h|exact detN2 h|exact detN3 h|exact detA0 h|exact detA1 h|exact detA2 h|exact detA3 h|exact detIf h
theorem det_ZSn:(ZSn).Det:=by
 intro vs G Q h;unfold ZSn at h⊢;split at h<;>first|exact h.elim|exact det00 h|exact det0 h|exact detE1 h|exact detE2 h|exact detE3 h|exact detE4 h|exact detE5 h|exact detE6 h|exact detE7 h|exact detN h|exact detA h|exact detN0 h|exact detN1 h|exact detN2 h|exact detN3 h|exact detA0 h|exact detA1 h|exact detA2 h|exact detA3 h|exact detIf h
theorem det_SRd:(SRd).Det:=by
 intro vs G Q h;unfold SRd at h⊢;split at h<;>first|exact h.elim|exact det00 h|exact det0 h|exact detE1 h|exact detE2 h|exact detE3 h|exact detE4 h|exact detE5 h|exact detE6 h|exact detE7 h|exact detN h|exact detA h|exact detN0 h|exact detN1 h|exact detN2 h|exact detN3 h|exact detA0 h|exact detA1 h|exact detA2 h|exact detA3 h|exact detIf h
theorem det_SLf:(SLf).Det:=by
 intro vs G Q h;unfold SLf at h⊢;split at h<;>first|exact h.elim|exact det00 h|exact det0 h|exact detE1 h|exact detE2 h|exact detE3 h|exact detE4 h|exact detE5 h|exact detE6 h|exact detE7 h|exact detN h|exact detA h|exact detN0 h|exact detN1 h|exact detN2 h|exact detN3 h|exact detA0 h|exact detA1 h|exact detA2 h|exact detA3 h|exact detIf h
theorem det_SSm:(SSm).Det:=by
 intro vs G Q h;unfold SSm at h⊢;split at h<;>first|exact h.elim|exact det00 h|exact det0 h|exact detE1 h|exact detE2 h|exact detE3 h|exact detE4 h|exact detE5 h|exact detE6 h|exact detE7 h|exact detN h|exact detA h|exact detN0 h|exact detN1 h|exact detN2 h|exact detN3 h|exact detA0 h|exact detA1 h|exact detA2 h|exact detA3 h|exact detIf h
theorem det_SOff:(SOff).Det:=by
 intro vs G Q h;unfold SOff at h⊢;split at h<;>first|exact h.elim|exact det00 h|exact det0 h|exact detE1 h|exact detE2 h|exact detE3 h|exact detE4 h|exact detE5 h|exact detE6 h|exact detE7 h|exact detN h|exact detA h|exact detN0 h|exact detN1 h|exact detN2 h|exact detN3 h|exact detA0 h|exact detA1 h|exact detA2 h|exact detA3 h|exact detIf h
theorem det_SNb:(SNb).Det:=by
 intro vs G Q h;unfold SNb at h⊢;split at h<;>first|exact h.elim|exact det00 h|exact det0 h|exact detE1 h|exact detE2 h|exact detE3 h|exact detE4 h|exact detE5 h|exact detE6 h|exact detE7 h|exact detN h|exact detA h|exact detN0 h|exact detN1 h|exact detN2 h|exact detN3 h|exact detA0 h|exact detA1 h|exact detA2 h|exact detA3 h|exact detIf h
theorem det_SNm:(SNm).Det:=by
 intro vs G Q h;unfold SNm at h⊢;split at h<;>first|exact h.elim|exact det00 h|exact det0 h|exact detE1 h|exact detE2 h|exact detE3 h|exact detE4 h|exact detE5 h|exact detE6 h|exact detE7 h|exact detN h|exact detA h|exact detN0 h|exact detN1 h|exact detN2 h|exact detN3 h|exact detA0 h|exact detA1 h|exact detA2 h|exact detA3 h|exact detIf h
theorem det_SUp:(SUp).Det:=by
 intro vs G Q h;unfold SUp at h⊢;split at h<;>first|exact h.elim|exact det00 h|exact det0 h|exact detE1 h|exact detE2 h|exact detE3 h|exact detE4 h|exact detE5 h|exact detE6 h|exact detE7 h|exact detN h|exact detA h|exact detN0 h|exact detN1 h|exact detN2 h|exact detN3 h|exact detA0 h|exact detA1 h|exact detA2 h|exact detA3 h|exact detIf h
theorem det_SHs:(SHs).Det:=by
 intro vs G Q h;unfold SHs at h⊢;split at h<;>first|exact h.elim|exact det00 h|exact det0 h|exact detE1 h|exact detE2 h|exact detE3 h|exact detE4 h|exact detE5 h|exact detE6 h|exact detE7 h|exact detN h|exact detA h|exact detN0 h|exact detN1 h|exact detN2 h|exact detN3 h|exact detA0 h|exact detA1 h|exact detA2 h|exact detA3 h|exact detIf h
theorem det_ZMc:(ZMc).Det:=by
 intro vs G Q h;unfold ZMc at h⊢;split at h<;>first|exact h.elim|exact det00 h|exact det0 h|exact detE1 h|exact detE2 h|exact detE3 h|exact detE4 h|exact detE5 h|exact detE6 h|exact detE7 h|exact detN h|exact detA h|exact detN0 h|exact detN1 h|exact detN2 h|exact detN3 h|exact detA0 h|exact detA1 h|exact detA2 h|exact detA3 h|exact detIf h
theorem det_ZRc:(ZRc).Det:=by
 intro vs G Q h;unfold ZRc at h⊢;split at h<;>first|exact h.elim|exact det00 h|exact det0 h|exact detE1 h|exact detE2 h|exact detE3 h|exact detE4 h|exact detE5 h|exact detE6 h|exact detE7 h|exact detN h|exact detA h|exact detN0 h|exact detN1 h|exact detN2 h|exact detN3 h|exact detA0 h|exact detA1 h|exact detA2 h|exact detA3 h|exact detIf h
theorem det_ZBa:(ZBa).Det:=by
 intro vs G Q h;unfold ZBa at h⊢;split at h<;>first|exact h.elim|exact det00 h|exact det0 h|exact detE1 h|exact detE2 h|exact detE3 h|exact detE4 h|exact detE5 h|exact detE6 h|exact detE7 h|exact detN h|exact detA h|exact detN0 h|exact detN1 h|exact detN2 h|exact detN3 h|exact detA0 h|exact detA1 h|exact detA2 h|exact detA3 h|exact detIf h
theorem det_ZWj:(ZWj).Det:=by
 intro vs G Q h;unfold ZWj at h⊢;split at h<;>first|exact h.elim|exact det00 h|exact det0 h|exact detE1 h|exact detE2 h|exact detE3 h|exact detE4 h|exact detE5 h|exact detE6 h|exact detE7 h|exact detN h|exact detA h|exact detN0 h|exact detN1 h|exact detN2 h|exact detN3 h|exact detA0 h|exact detA1 h|exact detA2 h|exact detA3 h|exact detIf h
theorem det_SMy:(SMy).Det:=by
 intro vs G Q h;unfold SMy at h⊢;split at h<;>first|exact h.elim|exact det00 h|exact det0 h|exact detE1 h|exact detE2 h|exact detE3 h|exact detE4 h|exact detE5 h|exact detE6 h|exact detE7 h|exact detN h|exact detA h|exact detN0 h|exact detN1 h|exact detN2 h|exact detN3 h|exact detA0 h|exact detA1 h|exact detA2 h|exact detA3 h|exact detIf h
theorem det_SRn_10:(SRn 10).Det:=by
 intro vs G Q h;unfold SRn at h⊢;split at h<;>first|exact h.elim|exact det00 h|exact det0 h|exact detE1 h|exact detE2 h|exact detE3 h|exact detE4 h|exact detE5 h|exact detE6 h|exact detE7 h|exact detN h|exact detA h|exact detN0 h|exact detN1 h|exact detN2 h|exact detN3 h|exact detA0 h|exact detA1 h|exact detA2 h|exact detA3 h|exact detIf h
theorem det_SRm:(SRm).Det:=by
 intro vs G Q h;unfold SRm at h⊢;split at h<;>first|exact h.elim|exact det00 h|exact det0 h|exact detE1 h|exact detE2 h|exact detE3 h|exact detE4 h|exact detE5 h|exact detE6 h|exact detE7 h|exact detN h|exact detA h|exact detN0 h|exact detN1 h|exact detN2 h|exact detN3 h|exact detA0 h|exact detA1 h|exact detA2 h|exact detA3 h|exact detIf h
theorem det_SRu:(SRu).Det:=by
 intro vs G Q h;unfold SRu at h⊢;split at h<;>first|exact h.elim|exact det00 h|exact det0 h|exact detE1 h|exact detE2 h|exact detE3 h|exact detE4 h|exact detE5 h|exact detE6 h|exact detE7 h|exact detN h|exact detA h|exact detN0 h|exact detN1 h|exact detN2 h|exact detN3 h|exact detA0 h|exact detA1 h|exact detA2 h|exact detA3 h|exact detIf h
theorem det_SRh:(SRh).Det:=by
 intro vs G Q h;unfold SRh at h⊢;split at h<;>first|exact h.elim|exact det00 h|exact det0 h|exact detE1 h|exact detE2 h|exact detE3 h|exact detE4 h|exact detE5 h|exact detE6 h|exact detE7 h|exact detN h|exact detA h|exact detN0 h|exact detN1 h|exact detN2 h|exact detN3 h|exact detA0 h|exact detA1 h|exact detA2 h|exact detA3 h|exact detIf h
theorem det_ZRe:(ZRe).Det:=by
 intro vs G Q h;unfold ZRe at h⊢;split at h<;>first|exact h.elim|exact det00 h|exact det0 h|exact detE1 h|exact detE2 h|exact detE3 h|exact detE4 h|exact detE5 h|exact detE6 h|exact detE7 h|exact detN h|exact detA h|exact detN0 h|exact detN1 h|exact detN2 h|exact detN3 h|exact detA0 h|exact detA1 h|exact detA2 h|exact detA3 h|exact detIf h
theorem det_ZPc:(ZPc).Det:=by
 intro vs G Q h;unfold ZPc at h⊢;split at h<;>first|exact h.elim|exact det00 h|exact det0 h|exact detE1 h|exact detE2 h|exact detE3 h|exact detE4 h|exact detE5 h|exact detE6 h|exact detE7 h|exact detN h|exact detA h|exact detN0 h|exact detN1 h|exact detN2 h|exact detN3 h|exact detA0 h|exact detA1 h|exact detA2 h|exact detA3 h|exact detIf h
theorem det_SBy:(SBy).Det:=by
 intro vs G Q h;unfold SBy at h⊢;split at h<;>first|exact h.elim|exact det00 h|exact det0 h|exact detE1 h|exact detE2 h|exact detE3 h|exact detE4 h|exact detE5 h|exact detE6 h|exact detE7 h|exact detN h|exact detA h|exact detN0 h|exact detN1 h|exact detN2 h|exact detN3 h|exact detA0 h|exact detA1 h|exact detA2 h|exact detA3 h|exact detIf h
theorem det_ZT9:(ZT9).Det:=by
 intro vs G Q h;unfold ZT9 at h⊢;split at h<;>first|exact h.elim|exact det00 h|exact det0 h|exact detE1 h|exact detE2 h|exact detE3 h|exact detE4 h|exact detE5 h|exact detE6 h|exact detE7 h|exact detN h|exact detA h|exact detN0 h|exact detN1 h|exact detN2 h|exact detN3 h|exact detA0 h|exact detA1 h|exact detA2 h|exact detA3 h|exact detIf h
theorem det_ZBc:(ZBc).Det:=by
 intro vs G Q h;unfold ZBc at h⊢;split at h<;>first|exact h.elim|exact det00 h|exact det0 h|exact detE1 h|exact detE2 h|exact detE3 h|exact detE4 h|exact detE5 h|exact detE6 h|exact detE7 h|exact detN h|exact detA h|exact detN0 h|exact detN1 h|exact detN2 h|exact detN3 h|exact detA0 h|exact detA1 h|exact detA2 h|exact detA3 h|exact detIf h
theorem own:ownKnob Tryd.prog.godebug=none:=by kernel_rfl
theorem laidOut:laidOutB Tryd.prog=true:=by kernel_rfl
noncomputable def EE:Env:=⟨Tryd.prog,[(0,.arr .u32 64 K256)]⟩
noncomputable def T85:List (Nat×Spec1):=(85,SNo)::[]
theorem g85:Abs.Good EE T85:=(Abs.Good.nil EE).cons det_SNo fun vs G Q h=>by
 unfold SNo at h;split at h
 ·exact (Abs.Good.nil EE).ret (E:=EE) p85 rfl (walk85 h)
 ·exact h.elim
noncomputable def T123:List (Nat×Spec1):=(123,SSt)::T85
theorem g123:Abs.Good EE T123:=g85.cons det_SSt fun vs G Q h=>by
 unfold SSt at h;split at h
 ·exact g85.ret (E:=EE) p123 rfl (walk123 h)
 ·exact h.elim
noncomputable def T129:List (Nat×Spec1):=(129,SEn)::T123
theorem g129:Abs.Good EE T129:=g123.cons det_SEn fun vs G Q h=>by
 unfold SEn at h;split at h
 ·rename_i n;obtain⟨k,rfl⟩:∃k:Nat,n=k:=⟨n.toNat,by omega⟩;rw[Int.toNat_natCast]at h;exact g123.ret (E:=EE) p129 rfl (walk129 (n:=k) (by omega) h.2)
 ·exact h.elim
noncomputable def T124:List (Nat×Spec1):=(124,SFi)::T129
theorem g124:Abs.Good EE T124:=g129.cons det_SFi fun vs G Q h=>by
 unfold SFi at h;split at h
 ·obtain⟨b,⟨hx,hb⟩,h⟩:=h;exact g129.ret (E:=EE) p124 rfl (walk124 rfl hx hb h)
 ·exact h.elim
noncomputable def T135:List (Nat×Spec1):=(135,SRl)::T124
theorem g135:Abs.Good EE T135:=g124.cons det_SRl fun vs G Q h=>by
 unfold SRl at h;split at h
 ·exact g124.ret (E:=EE) p135 rfl (walk135 h.1.1 h.1.2 h.2)
 ·exact h.elim
noncomputable def T131:List (Nat×Spec1):=(131,SRo)::T135
theorem g131:Abs.Good EE T131:=g135.cons det_SRo fun vs G Q h=>by
 unfold SRo at h;split at h
 ·exact g135.ret (E:=EE) p131 rfl (walk131 rfl h.1.1 h.1.2 h.2)
 ·exact h.elim
noncomputable def T130:List (Nat×Spec1):=(130,SSc)::T131
theorem g130:Abs.Good EE T130:=g131.cons det_SSc fun vs G Q h=>by
 unfold SSc at h;split at h
 ·exact g131.ret (E:=EE) p130 rfl (walk130 rfl h.1.1 h.1.2 h.2)
 ·exact h.elim
noncomputable def T125:List (Nat×Spec1):=(125,STu K256)::T130
theorem g125:Abs.Good EE T125:=g130.cons det_STu_K256 fun vs G Q h=>by
 unfold STu at h;split at h
 ·exact g130.ret (E:=EE) p125 rfl (walk125 rfl rfl rfl h.1.1.1 h.1.1.2 h.1.2.1 h.1.2.2 h.2)
 ·exact h.elim
noncomputable def T115:List (Nat×Spec1):=(115,SOf K256)::T125
theorem g115:Abs.Good EE T115:=g125.cons det_SOf_K256 fun vs G Q h=>by
 unfold SOf at h;split at h
 ·obtain⟨b,⟨hx,hxl,hby,hb⟩,h⟩:=h;exact g125.ret (E:=EE) p115 rfl (walk115 rfl rfl rfl hx hxl hby hb h)
 ·exact h.elim
noncomputable def T107:List (Nat×Spec1):=(107,SKe K256)::T115
theorem g107:Abs.Good EE T107:=g115.cons det_SKe_K256 fun vs G Q h=>by
 unfold SKe at h;split at h
 ·exact g115.ret (E:=EE) p107 rfl (walk107 rfl rfl h)
 ·exact h.elim
noncomputable def T118:List (Nat×Spec1):=(118,SGr)::T107
theorem g118:Abs.Good EE T118:=g107.cons det_SGr fun vs G Q h=>by
 unfold SGr at h;split at h
 ·exact g107.ret (E:=EE) p118 rfl (walk118 h.1 h.2)
 ·exact h.elim
noncomputable def T109:List (Nat×Spec1):=(109,SCc)::T118
theorem g109:Abs.Good EE T109:=g118.cons det_SCc fun vs G Q h=>by
 unfold SCc at h;split at h
 ·obtain⟨b,⟨hc,hne,hl,hpl⟩,h⟩:=h;exact g118.ret (E:=EE) p109 rfl (walk109 rfl hc hne hl hpl h)
 ·exact h.elim
noncomputable def T116:List (Nat×Spec1):=(116,SBl K256)::T109
theorem g116:Abs.Good EE T116:=g109.cons det_SBl_K256 fun vs G Q h=>by
 unfold SBl at h;split at h
 ·obtain⟨b,⟨hx,hby,hb⟩,h⟩:=h;exact g109.ret (E:=EE) p116 rfl (walk116 rfl hx hby hb h)
 ·exact h.elim
noncomputable def T117:List (Nat×Spec1):=(117,STd)::T116
theorem g117:Abs.Good EE T117:=g116.cons det_STd fun vs G Q h=>by
 unfold STd at h;split at h
 ·exact g116.ret (E:=EE) p117 rfl (walk117 h.1 h.2)
 ·exact h.elim
noncomputable def T108:List (Nat×Spec1):=(108,SMa K256)::T117
theorem g108:Abs.Good EE T108:=g117.cons det_SMa_K256 fun vs G Q h=>by
 unfold SMa at h;split at h
 ·obtain⟨b,c,r,⟨h1,h2,h3,h4,h5,h6,h7,h8⟩,h⟩:=h;exact g117.ret (E:=EE) p108 rfl (walk108 rfl rfl rfl rfl h1 h2 h3 h4 h5 h6 h7 h8 h)
 ·exact h.elim
noncomputable def T82:List (Nat×Spec1):=(82,STa K256)::T108
theorem g82:Abs.Good EE T82:=g108.cons det_STa_K256 fun vs G Q h=>by
 unfold STa at h;split at h
 ·obtain⟨c,r,⟨h1,h2,h3,h4,h5,h6⟩,h⟩:=h;exact g108.ret (E:=EE) p82 rfl (walk82 rfl rfl rfl rfl h1 h2 h3 h4 h5 h6 h)
 ·exact h.elim
noncomputable def T86:List (Nat×Spec1):=(86,SSa)::T82
theorem g86:Abs.Good EE T86:=g82.cons det_SSa fun vs G Q h=>by
 unfold SSa at h;split at h
 ·exact g82.ret (E:=EE) p86 rfl (walk86 h.1.1.1 h.1.2.1 h.1.1.2 h.1.2.2 h.2)
 ·exact h.elim
noncomputable def T46:List (Nat×Spec1):=(46,SCh K256)::T86
theorem g46:Abs.Good EE T46:=g86.cons det_SCh_K256 fun vs G Q h=>by
 unfold SCh at h;split at h
 ·obtain⟨c,r,⟨⟨h1,h2,h3⟩,h4,h5,h6,h7,h8⟩,h⟩:=h;exact g86.ret (E:=EE) p46 rfl (walk46 rfl rfl rfl h1 ⟨h2,h3⟩ h4 h5 h6 h7 h8 h)
 ·exact h.elim
noncomputable def T83:List (Nat×Spec1):=(83,SCk)::T46
theorem g83:Abs.Good EE T83:=g46.cons det_SCk fun vs G Q h=>by
 unfold SCk at h;split at h
 ·exact g46.ret (E:=EE) p83 rfl (walk83 rfl h.1 h.2)
 ·exact h.elim
noncomputable def T65:List (Nat×Spec1):=(65,SCl)::T83
theorem g65:Abs.Good EE T65:=g83.cons det_SCl fun vs G Q h=>by
 unfold SCl at h;split at h
 ·obtain⟨b,⟨hx,hb⟩,h⟩:=h;exact Ret.res .u8 (Ret.args (vs':=[.sli .u8 b]) rfl (wk_1 (byV_wk hx)) (g83.ret (E:=EE) p65 rfl (walk65 hb h)))
 ·exact h.elim
noncomputable def T71:List (Nat×Spec1):=(71,SHa)::T65
theorem g71:Abs.Good EE T71:=g65.cons det_SHa fun vs G Q h=>by
 unfold SHa at h;split at h
 ·obtain⟨b,⟨hx,hb,hl⟩,h⟩:=h;exact Ret.args (vs':=[.sli .u8 b,_]) rfl (wk_1 (byV_wk hx)) (g65.ret (E:=EE) p71 rfl (walk71 rfl hb hl h))
 ·exact h.elim
noncomputable def T72:List (Nat×Spec1):=(72,SNu)::T71
theorem g72:Abs.Good EE T72:=g71.cons det_SNu fun vs G Q h=>by
 unfold SNu at h;split at h
 ·obtain⟨b,⟨hx,hb,hn⟩,h⟩:=h;exact Ret.args (vs':=[.sli .u8 b,_]) rfl (wk_1 (byV_wk hx)) (g71.ret (E:=EE) p72 rfl (walk72 rfl hb hn h))
 ·exact h.elim
noncomputable def T84:List (Nat×Spec1):=(84,STg)::T72
theorem g84:Abs.Good EE T84:=g72.cons det_STg fun vs G Q h=>by
 unfold STg at h;split at h
 ·obtain⟨b,⟨hx,hb,hw,hm⟩,h⟩:=h;exact Ret.args (vs':=[.sli .u8 b,_]) rfl (wk_1 (byV_wk hx)) (g72.ret (E:=EE) p84 rfl (walk84 rfl rfl hb hw hm h))
 ·exact h.elim
noncomputable def T56:List (Nat×Spec1):=(56,SRi K256)::T84
theorem g56:Abs.Good EE T56:=g84.cons det_SRi_K256 fun vs G Q h=>by
 unfold SRi at h;split at h
 ·exact g84.ret (E:=EE) p56 rfl (walk56 rfl rfl rfl h.1 h.2)
 ·exact h.elim
noncomputable def T88:List (Nat×Spec1):=(88,ZP1 K256)::T56
theorem g88:Abs.Good EE T88:=g56.cons det_ZP1_K256 fun vs G Q h=>by
 unfold ZP1 at h;split at h
 ·obtain⟨n,⟨hG,hw⟩,h⟩:=h;exact g56.ret (E:=EE) p88 rfl (walk88 rfl hG hw h)
 ·exact h.elim
noncomputable def T90:List (Nat×Spec1):=(90,SAl)::T88
theorem g90:Abs.Good EE T90:=g88.cons det_SAl fun vs G Q h=>by
 unfold SAl at h;split at h
 ·exact g88.ret (E:=EE) p90 rfl (walk90 h)
 ·exact h.elim
noncomputable def T89:List (Nat×Spec1):=(89,ZP2)::T90
theorem g89:Abs.Good EE T89:=g90.cons det_ZP2 fun vs G Q h=>by
 unfold ZP2 at h;split at h
 ·obtain⟨b,r,hG,h⟩:=h;exact g90.ret (E:=EE) p89 rfl (walk89 rfl hG h)
 ·exact h.elim
noncomputable def T80:List (Nat×Spec1):=(80,ZP3 K256)::T89
theorem g80:Abs.Good EE T80:=g89.cons det_ZP3_K256 fun vs G Q h=>by
 unfold ZP3 at h;split at h
 ·obtain⟨v,n,⟨hG,hG2,hw⟩,h⟩:=h;exact g89.ret (E:=EE) p80 rfl (walk80 rfl hG hG2 hw h)
 ·exact h.elim
noncomputable def T113:List (Nat×Spec1):=(113,ZNan)::T80
theorem g113:Abs.Good EE T113:=g80.cons det_ZNan fun vs G Q h=>by
 unfold ZNan at h;split at h
 ·exact g80.ret (E:=EE) p113 rfl (walk113 h)
 ·exact h.elim
noncomputable def T94:List (Nat×Spec1):=(94,ZCmp)::T113
theorem g94:Abs.Good EE T94:=g113.cons det_ZCmp fun vs G Q h=>by
 unfold ZCmp at h;split at h
 ·exact g113.ret (E:=EE) p94 rfl (walk94 rfl h)
 ·exact h.elim
noncomputable def T93:List (Nat×Spec1):=(93,ZCb)::T94
theorem g93:Abs.Good EE T93:=g94.cons det_ZCb fun vs G Q h=>by
 unfold ZCb at h;split at h
 ·exact g94.ret (E:=EE) p93 rfl (walk93 rfl h)
 ·exact h.elim
noncomputable def T105:List (Nat×Spec1):=(105,ZCb)::T93
theorem g105:Abs.Good EE T105:=g93.cons det_ZCb fun vs G Q h=>by
 unfold ZCb at h;split at h
 ·exact g93.ret (E:=EE) p105 rfl (walk105 rfl h)
 ·exact h.elim
noncomputable def T96:List (Nat×Spec1):=(96,ZEb)::T105
theorem g96:Abs.Good EE T96:=g105.cons det_ZEb fun vs G Q h=>by
 unfold ZEb at h;split at h
 ·exact g105.ret (E:=EE) p96 rfl (walk96 h)
 ·exact h.elim
noncomputable def T106:List (Nat×Spec1):=(106,ZEb)::T96
theorem g106:Abs.Good EE T106:=g96.cons det_ZEb fun vs G Q h=>by
 unfold ZEb at h;split at h
 ·exact g96.ret (E:=EE) p106 rfl (walk106 h)
 ·exact h.elim
noncomputable def T57:List (Nat×Spec1):=(57,ZWi)::T106
theorem g57:Abs.Good EE T57:=g106.cons det_ZWi fun vs G Q h=>by
 unfold ZWi at h;split at h
 ·obtain⟨a,s,p,⟨rfl,hs,hs2,rfl⟩,h⟩:=h;exact g106.ret (E:=EE) p57 rfl (walk57 hs hs2 h)
 ·exact h.elim
noncomputable def T55:List (Nat×Spec1):=(55,ZCr K256)::T57
theorem g55:Abs.Good EE T55:=g57.cons det_ZCr_K256 fun vs G Q h=>by
 unfold ZCr at h;split at h
 ·obtain⟨c,p,⟨hG,rfl,hc,h1,h2⟩,h⟩:=h;exact g57.ret (E:=EE) p55 rfl (walk55 rfl rfl hG hc h1 h2 h)
 ·exact h.elim
noncomputable def T44:List (Nat×Spec1):=(44,ZQu)::T55
theorem g44:Abs.Good EE T44:=g55.cons det_ZQu fun vs G Q h=>by
 unfold ZQu at h;split at h
 ·obtain⟨hn,h⟩:=h;exact g55.ret (E:=EE) p44 rfl (walk44 rfl hn h)
 ·exact h.elim
noncomputable def T53:List (Nat×Spec1):=(53,ZRs)::T44
theorem g53:Abs.Good EE T53:=g44.cons det_ZRs fun vs G Q h=>by
 unfold ZRs at h;split at h
 ·obtain⟨sg,⟨rfl,hl⟩,h⟩:=h;exact g44.ret (E:=EE) p53 rfl (walk53 hl h)
 ·exact g44.ret (E:=EE) p53 rfl (walk53n h)
 ·obtain⟨sg,LL,⟨rfl,hl,hG,hLL,hfl,hsz⟩,h⟩:=h;exact g44.ret (E:=EE) p53 rfl (walk53s hG hLL hfl hsz hl h)
 ·exact h.elim
noncomputable def T97:List (Nat×Spec1):=(97,ZIy TT2)::T53
theorem g97:Abs.Good EE T97:=g53.cons det_ZIy_TT2 fun vs G Q h=>by
 unfold ZIy at h;split at h
 ·exact g53.ret (E:=EE) p97 rfl (walk97 (sub_of fun p hp=>by unfold TT2 at hp;simp only[List.mem_cons,List.not_mem_nil,or_false]at hp;rcases hp with rfl;rfl) (by unfold TT2;kernel_rfl) h)
 ·exact h.elim
noncomputable def T54:List (Nat×Spec1):=(54,ZCy TT2)::T97
theorem g54:Abs.Good EE T54:=g97.cons det_ZCy_TT2 fun vs G Q h=>by
 unfold ZCy at h;split at h
 ·exact g97.ret (E:=EE) p54 rfl (walk54 rfl h)
 ·exact h.elim
noncomputable def T15:List (Nat×Spec1):=(15,ZRi K256)::T54
theorem g15:Abs.Good EE T15:=g54.cons det_ZRi_K256 fun vs G Q h=>by
 unfold ZRi at h;split at h
 ·obtain⟨c,⟨rfl,hw,hl,hI⟩,h⟩:=h;exact Ret.low (g54.ret (E:=EE) p15 rfl (walk15 rfl rfl rfl hw hl hI h))
 ·exact h.elim
noncomputable def T43:List (Nat×Spec1):=(43,SSi K256)::T15
theorem g43:Abs.Good EE T43:=g15.cons det_SSi_K256 fun vs G Q h=>by
 unfold SSi at h;split at h
 ·exact g15.ret (E:=EE) p43 rfl (walk43 rfl rfl rfl h.1 h.2)
 ·exact h.elim
noncomputable def T104:List (Nat×Spec1):=(104,ZIx TT)::T43
theorem g104:Abs.Good EE T104:=g43.cons det_ZIx_TT fun vs G Q h=>by
 unfold ZIx at h;split at h
 ·exact g43.ret (E:=EE) p104 rfl (walk104 (sub_of fun p hp=>by unfold TT at hp;simp only[List.mem_cons,List.not_mem_nil,or_false]at hp;rcases hp with rfl|rfl|rfl|rfl|rfl|rfl|rfl<;>rfl) (by unfold TT;kernel_rfl) h)
 ·exact h.elim
noncomputable def T79:List (Nat×Spec1):=(79,ZCo TT)::T104
theorem g79:Abs.Good EE T79:=g104.cons det_ZCo_TT fun vs G Q h=>by
 unfold ZCo at h;split at h
 ·exact g104.ret (E:=EE) p79 rfl (walk79 rfl h)
 ·exact h.elim
noncomputable def T91:List (Nat×Spec1):=(91,ZCn)::T79
theorem g91:Abs.Good EE T91:=g79.cons det_ZCn fun vs G Q h=>by
 unfold ZCn at h;split at h
 ·exact ret91 (fun Q' w=>g79.ret (E:=EE) p91 rfl w) h
 ·exact h.elim
noncomputable def T121:List (Nat×Spec1):=(121,ZIs TT)::T91
theorem g121:Abs.Good EE T121:=g91.cons det_ZIs_TT fun vs G Q h=>by
 unfold ZIs at h;split at h
 ·obtain⟨A,S,B,key,P,z,⟨hG,⟨rfl,rfl⟩,⟨h1,h2,h3⟩,hP,hR,hf⟩,h⟩:=h;exact g91.ret (E:=EE) p121 rfl (walk121 (sub_of fun p hp=>by unfold TT at hp;simp only[List.mem_cons,List.not_mem_nil,or_false]at hp;rcases hp with rfl|rfl|rfl|rfl|rfl|rfl|rfl<;>rfl) (by unfold TT;kernel_rfl) hf hG h3 h2 (by simp) h1 hP hR (by rw[cut3'];exact h))
 ·obtain⟨⟨rfl,rfl⟩,h⟩:=h;exact g91.ret (E:=EE) p121 rfl (walk0121 h)
 ·exact h.elim
noncomputable def T134:List (Nat×Spec1):=(134,ZSr)::T121
theorem g134:Abs.Good EE T134:=g121.cons det_ZSr fun vs G Q h=>by
 unfold ZSr at h;split at h
 ·exact g121.ret (E:=EE) p134 rfl (walk134 h)
 ·exact h.elim
noncomputable def T128:List (Nat×Spec1):=(128,ZRt)::T134
theorem g128:Abs.Good EE T128:=g134.cons det_ZRt fun vs G Q h=>by
 unfold ZRt at h;split at h
 ·exact g134.ret (E:=EE) p128 rfl (walk128 rfl h)
 ·exact h.elim
noncomputable def T122:List (Nat×Spec1):=(122,ZSy TT 40)::T128
theorem ind122:∀(k:Nat) vs G Q,ZSy TT k vs G Q→Ret EE 122 vs G Q:=by
 intro k
 induction k with
 |zero=>
  intro vs G Q h
  unfold ZSy at h;split at h
  ·obtain⟨P,A,B,S,key,pr,z,h⟩:=h
   exact absurd h.1.2.1 (by omega)
  ·exact h.elim
 |succ k ih=>
  intro vs G Q h
  have hg:=g128.cons (g:=122) (s:=ZSy TT k) (by
   intro vs G Q h
   unfold ZSy at h⊢
   split at h
   ·exact detE7 h
   ·exact h.elim) ih
  have h':=h
  unfold ZSy at h;split at h
  ·exact hg.ret (E:=EE) p122 rfl (walk122 (sub_of fun p hp=>by unfold TT at hp;simp only[List.mem_cons,List.not_mem_nil,or_false]at hp;rcases hp with rfl|rfl|rfl|rfl|rfl|rfl|rfl<;>rfl) (by unfold TT;kernel_rfl) rfl rfl h')
  ·exact h.elim
theorem g122:Abs.Good EE T122:=g128.cons det_ZSy_TT_40 fun vs G Q h=>ind122 _ vs G Q h
noncomputable def T112:List (Nat×Spec1):=(112,ZSb TT)::T122
theorem g112:Abs.Good EE T112:=g122.cons det_ZSb_TT fun vs G Q h=>by
 unfold ZSb at h;split at h
 ·exact g122.ret (E:=EE) p112 rfl (walk112 rfl rfl h)
 ·obtain⟨rfl,h⟩:=h;exact g122.ret (E:=EE) p112 rfl (walk0112 rfl h)
 ·exact h.elim
noncomputable def T92:List (Nat×Spec1):=(92,ZSf TT)::T112
theorem g92:Abs.Good EE T92:=g112.cons det_ZSf_TT fun vs G Q h=>by
 unfold ZSf at h;split at h
 ·exact g112.ret (E:=EE) p92 rfl (walk92 rfl h)
 ·exact g112.ret (E:=EE) p92 rfl (walk092 rfl h)
 ·exact h.elim
noncomputable def T95:List (Nat×Spec1):=(95,ZCm TT)::T92
theorem g95:Abs.Good EE T95:=g92.cons det_ZCm_TT fun vs G Q h=>by
 unfold ZCm at h;split at h
 ·exact g92.ret (E:=EE) p95 rfl (walk95 (sub_of fun p hp=>by unfold TT at hp;simp only[List.mem_cons,List.not_mem_nil,or_false]at hp;rcases hp with rfl|rfl|rfl|rfl|rfl|rfl|rfl<;>rfl) (by unfold TT;kernel_rfl) h)
 ·exact g92.ret (E:=EE) p95 rfl (walk095 h)
 ·exact h.elim
noncomputable def T51:List (Nat×Spec1):=(51,ZMk K256)::T95
theorem g51:Abs.Good EE T51:=g95.cons det_ZMk_K256 fun vs G Q h=>by
 unfold ZMk at h;split at h
 ·obtain⟨aa,⟨rfl,hI,hw,hl⟩,h⟩:=h;exact Ret.low (g95.ret (E:=EE) p51 rfl (walk51 rfl rfl rfl rfl rfl hI hw hl h))
 ·exact h.elim
noncomputable def T52:List (Nat×Spec1):=(52,ZSg)::T51
theorem g52:Abs.Good EE T52:=g51.cons det_ZSg fun vs G Q h=>by
 unfold ZSg at h;split at h
 ·obtain⟨c,⟨rfl,hl⟩,h⟩:=h;exact g51.ret (E:=EE) p52 rfl (walk52 hl h)
 ·exact h.elim
noncomputable def T14:List (Nat×Spec1):=(14,ZAw)::T52
theorem g14:Abs.Good EE T14:=g52.cons det_ZAw fun vs G Q h=>by
 unfold ZAw at h;split at h
 ·exact g52.ret (E:=EE) p14 rfl (walk14 rfl rfl rfl rfl h)
 ·exact h.elim
noncomputable def T18:List (Nat×Spec1):=(18,ZSn)::T14
theorem g18:Abs.Good EE T18:=g14.cons det_ZSn fun vs G Q h=>by
 unfold ZSn at h;split at h
 ·obtain⟨a,b,⟨rfl,rfl,h1,h2⟩,h⟩:=h;exact g14.ret (E:=EE) p18 rfl (walk18g h1 h2 h)
 ·exact h.elim
noncomputable def T29:List (Nat×Spec1):=(29,SRd)::T18
theorem g29:Abs.Good EE T29:=g18.cons det_SRd fun vs G Q h=>by
 unfold SRd at h;split at h
 ·obtain⟨b,⟨hx,hl⟩,h⟩:=h;exact Ret.args (vs':=[.sli .u8 b]) rfl (wk_1 (byV_wk hx)) (g18.ret (E:=EE) p29 rfl (walk29 rfl hl h))
 ·exact h.elim
noncomputable def T32:List (Nat×Spec1):=(32,SLf)::T29
theorem g32:Abs.Good EE T32:=g29.cons det_SLf fun vs G Q h=>by
 unfold SLf at h;split at h
 ·obtain⟨b,w,hG,h⟩:=h;exact g29.ret (E:=EE) p32 rfl (walk32 hG h)
 ·exact h.elim
noncomputable def T35:List (Nat×Spec1):=(35,SSm)::T32
theorem g35:Abs.Good EE T35:=g32.cons det_SSm fun vs G Q h=>by
 unfold SSm at h;split at h
 ·obtain⟨a,b,⟨hx,hy,ha,hb⟩,h⟩:=h;exact Ret.args (vs':=[.sli .u8 a,.sli .u8 b]) rfl (wk_11 (byV_wk hx) (byV_wk hy)) (g32.ret (E:=EE) p35 rfl (walk35 ha hb h))
 ·exact h.elim
noncomputable def T100:List (Nat×Spec1):=(100,SOff)::T35
theorem g100:Abs.Good EE T100:=g35.cons det_SOff fun vs G Q h=>by
 unfold SOff at h;split at h
 ·obtain⟨b,w,hG,h⟩:=h;exact g35.ret (E:=EE) p100 rfl (walk100 hG h)
 ·exact h.elim
noncomputable def T114:List (Nat×Spec1):=(114,SNb)::T100
theorem g114:Abs.Good EE T114:=g100.cons det_SNb fun vs G Q h=>by
 unfold SNb at h;split at h
 ·exact g100.ret (E:=EE) p114 rfl (walk114 h.1.1 h.1.2 h.2)
 ·exact h.elim
noncomputable def T101:List (Nat×Spec1):=(101,SNm)::T114
theorem g101:Abs.Good EE T101:=g114.cons det_SNm fun vs G Q h=>by
 unfold SNm at h;split at h
 ·obtain⟨b,w,⟨hG,hb,hl⟩,h⟩:=h;exact g114.ret (E:=EE) p101 rfl (walk101 rfl rfl hG hb hl h)
 ·exact h.elim
noncomputable def T66:List (Nat×Spec1):=(66,SUp)::T101
theorem g66:Abs.Good EE T66:=g101.cons det_SUp fun vs G Q h=>by
 unfold SUp at h;split at h
 ·obtain⟨b,w,n,r,w2,⟨hG,hb,hl,ht,e⟩,h⟩:=h;exact g101.ret (E:=EE) p66 rfl (walk66 rfl rfl hG hb hl ht (by rw[e];exact h))
 ·exact h.elim
noncomputable def T67:List (Nat×Spec1):=(67,SHs)::T66
theorem g67:Abs.Good EE T67:=g66.cons det_SHs fun vs G Q h=>by
 unfold SHs at h;split at h
 ·obtain⟨b,w,hh,r,w2,⟨hG,hb,hl,e⟩,h⟩:=h;exact g66.ret (E:=EE) p67 rfl (walk67 rfl hG hb hl (by rw[e];exact h))
 ·exact h.elim
noncomputable def T68:List (Nat×Spec1):=(68,SOff)::T67
theorem g68:Abs.Good EE T68:=g67.cons det_SOff fun vs G Q h=>by
 unfold SOff at h;split at h
 ·obtain⟨b,w,hG,h⟩:=h;exact g67.ret (E:=EE) p68 rfl (walk68 rfl hG h)
 ·exact h.elim
noncomputable def T75:List (Nat×Spec1):=(75,ZMc)::T68
theorem g75:Abs.Good EE T75:=g68.cons det_ZMc fun vs G Q h=>by
 unfold ZMc at h;split at h
 ·obtain⟨a,x,sg,⟨rfl,hf,hw,hl⟩,h⟩:=h;exact (by
   rcases hf with rfl|⟨rfl,rfl⟩|⟨id,c,LL,rfl,hG,hLL,hfl,hsz⟩
   ·exact g68.ret (E:=EE) p75 rfl (walk75i rfl rfl rfl hw hl h)
   ·exact g68.ret (E:=EE) p75 rfl (walk75n rfl rfl rfl hw h)
   ·exact g68.ret (E:=EE) p75 rfl (walk75s hG hLL hfl hsz rfl rfl rfl hw hl h))
 ·exact h.elim
noncomputable def T37:List (Nat×Spec1):=(37,ZRc)::T75
theorem g37:Abs.Good EE T37:=g75.cons det_ZRc fun vs G Q h=>by
 unfold ZRc at h;split at h
 ·obtain⟨b,c,r,w,⟨hG,hb,hl,e⟩,h⟩:=h;exact Ret.low (g75.ret (E:=EE) p37 rfl (walk37 rfl rfl rfl rfl hG hb hl e h))
 ·exact h.elim
noncomputable def T58:List (Nat×Spec1):=(58,ZRs)::T37
theorem g58:Abs.Good EE T58:=g37.cons det_ZRs fun vs G Q h=>by
 unfold ZRs at h;split at h
 ·obtain⟨sg,⟨rfl,hl⟩,h⟩:=h;exact g37.ret (E:=EE) p58 rfl (walk58 hl h)
 ·exact g37.ret (E:=EE) p58 rfl (walk58n h)
 ·obtain⟨sg,LL,⟨rfl,hl,hG,hLL,hfl,hsz⟩,h⟩:=h;exact g37.ret (E:=EE) p58 rfl (walk58s hG hLL hfl hsz hl h)
 ·exact h.elim
noncomputable def T59:List (Nat×Spec1):=(59,ZBa)::T58
theorem g59:Abs.Good EE T59:=g58.cons det_ZBa fun vs G Q h=>by
 unfold ZBa at h;split at h
 ·obtain⟨a,s,⟨rfl,hs,hs2⟩,h⟩:=h;exact g58.ret (E:=EE) p59 rfl (walk59 hs hs2 h)
 ·exact h.elim
noncomputable def T61:List (Nat×Spec1):=(61,ZWj)::T59
theorem g61:Abs.Good EE T61:=g59.cons det_ZWj fun vs G Q h=>by
 unfold ZWj at h;split at h
 ·obtain⟨a,p,⟨rfl,rfl⟩,h⟩:=h;exact g59.ret (E:=EE) p61 rfl (walk61 h)
 ·exact h.elim
noncomputable def T76:List (Nat×Spec1):=(76,SMy)::T61
theorem g76:Abs.Good EE T76:=g61.cons det_SMy fun vs G Q h=>by
 unfold SMy at h;split at h
 ·exact g61.ret (E:=EE) p76 rfl (walk76 h.1 h.2)
 ·exact h.elim
noncomputable def T40:List (Nat×Spec1):=(40,ZMc)::T76
theorem g40:Abs.Good EE T40:=g76.cons det_ZMc fun vs G Q h=>by
 unfold ZMc at h;split at h
 ·obtain⟨a,x,sg,⟨rfl,hf,hw,hl⟩,h⟩:=h;exact (by
   rcases hf with rfl|⟨rfl,rfl⟩|⟨id,c,LL,rfl,hG,hLL,hfl,hsz⟩
   ·exact g76.ret (E:=EE) p40 rfl (walk40i rfl rfl rfl rfl hw hl h)
   ·exact g76.ret (E:=EE) p40 rfl (walk40n (sg:=[]) rfl rfl rfl rfl hw hl h)
   ·exact g76.ret (E:=EE) p40 rfl (walk40s hG hLL hfl hsz rfl rfl rfl rfl hw hl h))
 ·exact h.elim
noncomputable def T103:List (Nat×Spec1):=(103,SRn 10)::T40
theorem ind103:∀(k:Nat) vs G Q,SRn k vs G Q→Ret EE 103 vs G Q:=by
 intro k
 induction k with
 |zero=>
  intro vs G Q h
  unfold SRn at h;split at h
  ·exact absurd h.1.2.2.1 (by decide)
  ·exact h.elim
 |succ k ih=>
  intro vs G Q h
  have hg:=g40.cons (g:=103) (s:=SRn k) (by
   intro vs G Q h
   unfold SRn at h⊢
   split at h
   ·exact⟨_,h.2.2,fun Q' h'=>⟨h.1,h'⟩⟩
   ·exact h.elim) ih
  unfold SRn at h;split at h
  ·rename_i n
   obtain⟨⟨h1,h2,h3,h4⟩,h⟩:=h
   obtain⟨m,rfl⟩:∃m:Nat,n=m:=⟨n.toNat,by omega⟩
   rw[Int.toNat_natCast]at h h2
   exact hg.ret (E:=EE) p103 rfl (walk103 rfl h2 (by omega) h)
  ·exact h.elim
theorem g103:Abs.Good EE T103:=g40.cons det_SRn_10 fun vs G Q h=>ind103 _ vs G Q h
noncomputable def T102:List (Nat×Spec1):=(102,SRm)::T103
theorem g102:Abs.Good EE T102:=g103.cons det_SRm fun vs G Q h=>by
 unfold SRm at h;split at h
 ·obtain⟨t,r,⟨rfl,rfl,hb,hl⟩,h⟩:=h;exact g103.ret (E:=EE) p102 rfl (walk102 rfl rfl hb hl h)
 ·exact h.elim
noncomputable def T69:List (Nat×Spec1):=(69,SRu)::T102
theorem g69:Abs.Good EE T69:=g102.cons det_SRu fun vs G Q h=>by
 unfold SRu at h;split at h
 ·obtain⟨t,r,n,r2,w2,⟨rfl,rfl,hb,hl,ht,e⟩,h⟩:=h;exact g102.ret (E:=EE) p69 rfl (walk69 rfl hb hl ht (by rw[e];exact h))
 ·exact h.elim
noncomputable def T70:List (Nat×Spec1):=(70,SRh)::T69
theorem g70:Abs.Good EE T70:=g69.cons det_SRh fun vs G Q h=>by
 unfold SRh at h;split at h
 ·obtain⟨t,r,hh,r2,w2,⟨rfl,rfl,hb,hl,e⟩,h⟩:=h;exact g69.ret (E:=EE) p70 rfl (walk70 hb hl (by rw[e];exact h))
 ·exact h.elim
noncomputable def T38:List (Nat×Spec1):=(38,ZRe)::T70
theorem g38:Abs.Good EE T38:=g70.cons det_ZRe fun vs G Q h=>by
 unfold ZRe at h;split at h
 ·obtain⟨c,r,w,⟨hb,hl,e⟩,h⟩:=h;exact Ret.low (g70.ret (E:=EE) p38 rfl (walk38 rfl rfl rfl hb hl e h))
 ·exact h.elim
noncomputable def T39:List (Nat×Spec1):=(39,ZPc)::T38
theorem g39:Abs.Good EE T39:=g38.cons det_ZPc fun vs G Q h=>by
 unfold ZPc at h;split at h
 ·obtain⟨b,c,⟨hx,hb,rfl,hw,hl⟩,h⟩:=h;exact Ret.args (vs':=[.sli .u8 b,_]) rfl (wk_1 (byV_wk hx)) (g38.ret (E:=EE) p39 rfl (walk39 rfl rfl rfl rfl hb hw hl h))
 ·exact h.elim
noncomputable def T74:List (Nat×Spec1):=(74,SBy)::T39
theorem g74:Abs.Good EE T74:=g39.cons det_SBy fun vs G Q h=>by
 unfold SBy at h;split at h
 ·exact g39.ret (E:=EE) p74 rfl (walk74 h.1 h.2)
 ·exact h.elim
noncomputable def T77:List (Nat×Spec1):=(77,ZT9)::T74
theorem g77:Abs.Good EE T77:=g74.cons det_ZT9 fun vs G Q h=>by
 unfold ZT9 at h;split at h
 ·obtain⟨a,⟨rfl,hw,hm⟩,h⟩:=h;exact g74.ret (E:=EE) p77 rfl (walk77c rfl rfl hw hm h)
 ·exact h.elim
noncomputable def T41:List (Nat×Spec1):=(41,ZBc)::T77
theorem g41:Abs.Good EE T41:=g77.cons det_ZBc fun vs G Q h=>by
 unfold ZBc at h;split at h
 ·obtain⟨c,⟨rfl,hw,hm⟩,h⟩:=h;exact g77.ret (E:=EE) p41 rfl (walk41 rfl rfl hw hm h)
 ·exact h.elim
theorem law8:∀vs:List V,TyAll Tryd.prog 12 Tryd.f8.params.toList vs→Ret EE 8 vs [] (fun r _=>r= .v (.bool true)):=by
 intro vs h
 have hk5:intK Tryd.prog 5=some .u8:=by kernel_rfl
 have hk90:intK Tryd.prog 90=none:=by kernel_rfl
 have hc90:Tryd.prog.cellsOf 90=33:=by kernel_rfl
 simp only[Tryd.params8,TyAll,TyV,TyL,Tryd.underlying40,Tryd.underlying3,Tryd.underlying35,Tryd.underlying32,Tryd.underlying33,Tryd.underlying90,Tryd.underlying23,hk5,hk90,hc90]at h
 obtain⟨x,l,rfl,⟨_,rfl,_,_,rfl,⟨_,rfl,_,_,rfl,⟨a1,rfl,ia1⟩,_,_,rfl,⟨a2,rfl,ia2⟩,_,_,rfl,⟨a3,rfl,ia3⟩,_,_,rfl,⟨a4,rfl,ia4⟩,_,_,rfl,⟨a5,rfl,la5,ia5⟩,_,_,rfl,⟨a6,rfl,ia6⟩,_,_,rfl,⟨a7,rfl,la7,ia7⟩,_,_,rfl,⟨a8,rfl,la8,ia8⟩,rfl⟩,_,_,rfl,⟨axs,rfl,haxs,alen⟩,rfl⟩,_,_,rfl,⟨b,rfl,ib,lb⟩,_,_,rfl,⟨c,rfl,ic,lc⟩,rfl⟩:=h
 obtain⟨asg,rfl,hwasg⟩:=sigs_of (xs:=axs) fun e he=>by
  obtain⟨_,rfl,_,_,rfl,⟨w,rfl,iw⟩,_,_,rfl,⟨t,rfl,lt,it⟩,rfl⟩:=haxs e he
  exact⟨(w,t),rfl,wf64 iw,fun x hx=>wf8 (it x hx),lt⟩
 exact g41.ret (E:=EE) p8 rfl (walk8 (c:=⟨⟨a1,a2,a3,a4,a5,a6,a7,a8⟩,asg⟩) rfl rfl rfl rfl rfl rfl rfl rfl rfl rfl ⟨⟨wf64 ia1,wf64 ia2,wf64 ia3,wf64 ia4,wf64 ia6,⟨fun x hx=>wf8 (ia5 x hx),la5⟩,⟨fun x hx=>wf8 (ia7 x hx),la7⟩,⟨fun x hx=>wf8 (ia8 x hx),la8⟩⟩,hwasg⟩ (fun x hx=>wf8 (ib x hx)) (fun x hx=>wf8 (ic x hx)) (fun _=>rfl))
theorem tabOk8:∀g x,Abs.look ([(0,.arr .u32 64 K256)]:List (Nat×V)) g=some x→∃nm t e k n xs,(nm,DataW.agg (xs.map fun x=> .lit (.int k x)))∈Rows.certPutsRow.laid∧Tryd.prog.globalNamed nm=some g∧(Tryd.prog.globals[g]?).map (·.type)=some t∧Tryd.prog.underlying t=some (.array n e)∧Tryd.prog.underlying e=some (.int k)∧Tryd.prog.cellsOf e=1∧Tryd.prog.cellsOf t=n∧x= .arr k n xs:=by
 intro g x h
 by_cases e0:g=0
 ·subst e0
  simp only[look_cons,if_pos,reduceIte,Nat.reduceEqDiff]at h
  cases h
  exact⟨"tithing/sha.constants",157,152,.u32,64,K256,by simp only[Rows.certPutsRow,List.mem_cons];first|(left;rfl)|(right;left;rfl),by kernel_rfl,by kernel_rfl,by kernel_rfl,by kernel_rfl,by kernel_rfl,by kernel_rfl,rfl⟩
 simp only[look_cons,e0,if_false,look]at h
 cases h
theorem met8 (os:Os) (args:Array Value):laidMetH Tryd.prog Rows.certPutsRow.laid ((World.doorLaid Tryd.prog 400 os).forCall (fun _ _=>0) ⟨#[],args,[]⟩).memory:=
 laidMetH_of_parts3 (fuel:=8) (laidMet_of_run' 8 (by kernel_rfl) (by kernel_rfl)) (by kernel_rfl) (by kernel_rfl)
set_option maxRecDepth 100000 in
theorem lifted8 (os:Os) (started:os.Started) (H:Type) (enc:TypeId×Value→H):
  ReturnsInHanded {} Tryd.checked os 8 .any (fun w args=>(Rows.certPutsSpec.pre enc Tryd.prog Tryd.f8 [] false w args∧laidMetH Tryd.prog Rows.certPutsRow.laid w)∧sizedMet enc Tryd.prog Tryd.f8 (OpenSpec.ofChange Rows.certPutsSpec) false w args) (Rows.certPutsSpec.post enc Tryd.prog Tryd.f8 false true false false):=
 law_laid (C:=Tryd.checked) (fn:=Tryd.f8) (n:=12) (tab:=[(0,.arr .u32 64 K256)]) (tb:=4) own started (by kernel_rfl) Tryd.func8
  (ChangeSpec.witness_shaped (enc:=enc) (C:=Tryd.checked) (os:=os) (X:=fun w _=>laidMetH Tryd.prog Rows.certPutsRow.laid w) false (World.doorLaid Tryd.prog 400 os) #[.agg #[.int .i64 0,.int .i64 0,.int .i64 0,.int .i64 0,.int .u8 0,.int .u8 0,.int .u8 0,.int .u8 0,.int .u8 0,.int .u8 0,.int .u8 0,.int .u8 0,.int .u8 0,.int .u8 0,.int .u8 0,.int .u8 0,.int .u8 0,.int .u8 0,.int .u8 0,.int .u8 0,.int .u8 0,.int .u8 0,.int .u8 0,.int .u8 0,.int .u8 0,.int .u8 0,.int .u8 0,.int .u8 0,.int .u8 0,.int .u8 0,.int .u8 0,.int .u8 0,.int .u8 0,.int .u8 0,.int .u8 0,.int .u8 0,.int .i64 0,.int .u8 0,.int .u8 0,.int .u8 0,.int .u8 0,.int .u8 0,.int .u8 0,.int .u8 0,.int .u8 0,.int .u8 0,.int .u8 0,.int .u8 0,.int .u8 0,.int .u8 0,.int .u8 0,.int .u8 0,.int .u8 0,.int .u8 0,.int .u8 0,.int .u8 0,.int .u8 0,.int .u8 0,.int .u8 0,.int .u8 0,.int .u8 0,.int .u8 0,.int .u8 0,.int .u8 0,.int .u8 0,.int .u8 0,.int .u8 0,.int .u8 0,.int .u8 0,.int .u8 0,.int .u8 0,.int .u8 0,.int .u8 0,.int .u8 0,.int .u8 0,.int .u8 0,.int .u8 0,.int .u8 0,.int .u8 0,.int .u8 0,.int .u8 0,.int .u8 0,.int .u8 0,.int .u8 0,.int .u8 0,.int .u8 0,.int .u8 0,.int .u8 0,.int .u8 0,.int .u8 0,.int .u8 0,.int .u8 0,.int .u8 0,.int .u8 0,.int .u8 0,.int .u8 0,.int .u8 0,.int .u8 0,.int .u8 0,.int .u8 0,.int .u8 0,.slice none 0 0],.slice none 0 0,.slice none 0 0] 8 rfl (World.shaped_of_RefB (by kernel_rfl) (by kernel_rfl)) (by kernel_rfl) (by kernel_rfl) (by kernel_rfl) (met8 os _))
  laidOut rfl rfl Tryd.underlying4 (fun H ds h=>by
   rw[Tryd.params8]at h
   match ds,h with
   |[d1,d2,d3],_=>rfl)
  (fun t ht=>by
   rw[Tryd.params8]at ht;simp at ht;rcases ht with rfl|rfl|rfl
   all_goals exact⟨by kernel_rfl,of_decide_eq_true (by kernel_rfl)⟩)
  (fun t ht=>by
   rw[Tryd.params8]at ht;simp at ht;rcases ht with rfl|rfl|rfl
   all_goals kernel_rfl)
  (fun W hL=>tabs_of_laid (by kernel_rfl) hL (tabOk8)) law8
theorem over8:Rows.certPutsRow.holds Tryd.pinned (OpenSpec.ofChange Rows.certPutsSpec):=
 OpenClaim.holds_of_wide 8 Tryd.f8 rfl rfl rfl rfl rfl rfl rfl ⟨rfl,rfl,rfl,rfl,rfl⟩ rfl rfl rfl rfl rfl (by kernel_rfl) Tryd.func8 (by kernel_rfl)
  (of_decide_eq_true (by kernel_rfl)) (by unfold Func.isWrapper;first|(rw[if_pos (by decide+kernel)];kernel_rfl)|(rw[if_neg (by decide+kernel)];exact⟨rfl,rfl⟩))
  (fun os started H enc _=>lifted8 os started H enc)
theorem certPuts_holds:Rows.CertPutsCardSaid:=
 Claim7.holds_tied_plain_at .later [] [.data] true (true, "526da861eb12e7ca7e2fc527045aef24094dd4dc78cd82388896d0713aa02ce2") false
  over8 (fun _ h=>by cases h) (by kernel_rfl) (fun _ h=>by cases h) certPuts_row_tie rfl ⟨rfl,rfl⟩ (by kernel_rfl) rfl
  (fun f fn hf hfn=>by
   obtain rfl:f=8:=Option.some.inj ((show Tryd.prog.funcNamed "tithing/tithinglaw09.CertPuts" =some 8 by kernel_rfl).symm.trans hf) |>.symm
   obtain rfl:fn=Tryd.f8:=(Option.some.inj (Tryd.func8.symm.trans hfn)).symm
   exact⟨by kernel_rfl,fun j t ht=>by
    rw[Tryd.params8]at ht
    have hm:t∈[35,40,40]:=by simpa using Array.mem_of_getElem? ht
    have hall:([35,40,40].all fun u=> !Tryd.prog.wantsStandIn u)=true:=by kernel_rfl
    exact (show Tryd.prog.wantsStandIn t=false by simpa using List.all_eq_true.1 hall t hm)⟩)
  (by kernel_rfl)
#print axioms certPuts_holds
end Go.Proofs.YtegamlopcdjiaaaDoor.Sha
