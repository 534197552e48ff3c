/- For every input VaultActs returns true and leaves its arguments as they were; no conditions. -/
import Derived.Test.YtjbglbhcbenhpaaDoorG11
import Derived.Test.YtjbglbhcbenhpaaDoorG12
import Derived.Test.YtjbglbhcbenhpaaDoorG3
import Derived.Test.YtjbglbhcbenhpaaDoorRows
import Derived.Test.YtjbglbhcbenhpaaDoorCards
import Derived.Test.YtjbglbhcbenhpaaDoorTie
import Derived.OpenShut
import Derived.Below
import Derived.SevenTiedAt
namespace Go.Proofs.YtjbglbhcbenhpaaDoor.Sha
open Go Go.Abs Go.RowKit Go.Abs.Sha
set_option linter.unusedSimpArgs false
set_option linter.unusedVariables false
set_option maxRecDepth 100000
theorem p3:prepF Tryd.prog 3 14 [[2,7,9,10,11]] [2000076]=some pf3:=by kernel_rfl
theorem p9:prepF Tryd.prog 9 4 [[0,3]] []=some pf9:=by kernel_rfl
theorem p83:prepF Tryd.prog 83 2 [] []=some pf83:=by kernel_rfl
theorem p36:prepF Tryd.prog 36 5 [] [12]=some pf36:=by kernel_rfl
theorem p37:prepF Tryd.prog 37 3 [] []=some pf37:=by kernel_rfl
theorem p11:prepF Tryd.prog 11 8 [] [23]=some pf11:=by kernel_rfl
theorem p42:prepF Tryd.prog 42 3 [] []=some pf42:=by kernel_rfl
theorem p98:prepF Tryd.prog 98 3 [] []=some pf98:=by kernel_rfl
theorem p54:prepF Tryd.prog 54 3 [] []=some pf54:=by kernel_rfl
theorem p24:prepF Tryd.prog 24 3 [] []=some pf24:=by kernel_rfl
theorem p85:prepF Tryd.prog 85 7 [] []=some pf85:=by kernel_rfl
theorem p43:prepF Tryd.prog 43 5 [] []=some pf43:=by kernel_rfl
theorem p133:prepF Tryd.prog 133 1 [] []=some pf133:=by kernel_rfl
theorem p139:prepF Tryd.prog 139 5 [[0,3,4]] []=some pf139:=by kernel_rfl
theorem p134:prepF Tryd.prog 134 4 [] []=some pf134:=by kernel_rfl
theorem p145:prepF Tryd.prog 145 6 [] []=some pf145:=by kernel_rfl
theorem p141:prepF Tryd.prog 141 5 [] []=some pf141:=by kernel_rfl
theorem p140:prepF Tryd.prog 140 23 [[1,2,3,12],[1,2,3,4,12,20,21,22],[2,3,7]] []=some pf140:=by kernel_rfl
theorem p135:prepF Tryd.prog 135 109 [[2,4,5,6,7,8,9,10,11,12,36,37],[2,4,107,108]] []=some pf135:=by kernel_rfl
theorem p123:prepF Tryd.prog 123 37 [[2,3,11,12,13],[2,6,7],[2,8,35,36]] []=some pf123:=by kernel_rfl
theorem p104:prepF Tryd.prog 104 3 [] []=some pf104:=by kernel_rfl
theorem p126:prepF Tryd.prog 126 5 [] []=some pf126:=by kernel_rfl
theorem p106:prepF Tryd.prog 106 28 [[0,3,9,10,11],[6,25,26,27]] []=some pf106:=by kernel_rfl
theorem p124:prepF Tryd.prog 124 5 [] []=some pf124:=by kernel_rfl
theorem p125:prepF Tryd.prog 125 7 [[1,2,6]] []=some pf125:=by kernel_rfl
theorem p105:prepF Tryd.prog 105 7 [] []=some pf105:=by kernel_rfl
theorem p62:prepF Tryd.prog 62 8 [] []=some pf62:=by kernel_rfl
theorem p50:prepF Tryd.prog 50 3 [] []=some pf50:=by kernel_rfl
theorem p87:prepF Tryd.prog 87 5 [] []=some pf87:=by kernel_rfl
theorem p107:prepF Tryd.prog 107 6 [[1,5]] []=some pf107:=by kernel_rfl
theorem p86:prepF Tryd.prog 86 18 [[3,5,15,16,17]] []=some pf86:=by kernel_rfl
theorem p44:prepF Tryd.prog 44 9 [] []=some pf44:=by kernel_rfl
theorem p46:prepF Tryd.prog 46 3 [] []=some pf46:=by kernel_rfl
theorem p45:prepF Tryd.prog 45 7 [] []=some pf45:=by kernel_rfl
theorem p88:prepF Tryd.prog 88 5 [] []=some pf88:=by kernel_rfl
theorem p47:prepF Tryd.prog 47 4 [] []=some pf47:=by kernel_rfl
theorem p15:prepF Tryd.prog 15 8 [] []=some pf15:=by kernel_rfl
theorem p111:prepF Tryd.prog 111 10 [[3,5,8,9]] []=some pf111:=by kernel_rfl
theorem p68:prepF Tryd.prog 68 9 [] []=some pf68:=by kernel_rfl
theorem p90:prepF Tryd.prog 90 3 [] [6]=some pf90:=by kernel_rfl
theorem p117:prepF Tryd.prog 117 3 [] []=some pf117:=by kernel_rfl
theorem p130:prepF Tryd.prog 130 7 [[0,4,5]] []=some pf130:=by kernel_rfl
theorem p118:prepF Tryd.prog 118 5 [] []=some pf118:=by kernel_rfl
theorem p91:prepF Tryd.prog 91 7 [] []=some pf91:=by kernel_rfl
theorem p92:prepF Tryd.prog 92 4 [] []=some pf92:=by kernel_rfl
theorem p93:prepF Tryd.prog 93 3 [] []=some pf93:=by kernel_rfl
theorem p49:prepF Tryd.prog 49 11 [] []=some pf49:=by kernel_rfl
theorem p19:prepF Tryd.prog 19 30 [[0,2,28,29]] []=some pf19:=by kernel_rfl
theorem p21:prepF Tryd.prog 21 7 [] []=some pf21:=by kernel_rfl
theorem p23:prepF Tryd.prog 23 5 [] []=some pf23:=by kernel_rfl
theorem p10:prepF Tryd.prog 10 11 [] []=some pf10:=by kernel_rfl
theorem p12:prepF Tryd.prog 12 5 [] []=some pf12:=by kernel_rfl
theorem p17:prepF Tryd.prog 17 2 [] []=some pf17:=by kernel_rfl
theorem p89:prepF Tryd.prog 89 5 [] []=some pf89:=by kernel_rfl
theorem p48:prepF Tryd.prog 48 28 [[0,3,9,10,11],[6,25,26,27]] []=some pf48:=by kernel_rfl
theorem p18:prepF Tryd.prog 18 6 [] []=some pf18:=by kernel_rfl
theorem p16:prepF Tryd.prog 16 3 [] []=some pf16:=by kernel_rfl
theorem p96:prepF Tryd.prog 96 5 [[1,3,4]] []=some pf96:=by kernel_rfl
theorem p119:prepF Tryd.prog 119 3 [] []=some pf119:=by kernel_rfl
theorem p95:prepF Tryd.prog 95 6 [] []=some pf95:=by kernel_rfl
theorem p137:prepF Tryd.prog 137 5 [[0,3]] []=some pf137:=by kernel_rfl
theorem p143:prepF Tryd.prog 143 6 [[0,1,5]] []=some pf143:=by kernel_rfl
theorem p144:prepF Tryd.prog 144 6 [[0,1,5]] []=some pf144:=by kernel_rfl
theorem p138:prepF Tryd.prog 138 18 [[2,3,4,5,6],[2,4,5,9,10],[2,4,9,17]] []=some pf138:=by kernel_rfl
theorem p131:prepF Tryd.prog 131 10 [[2,3,4,5],[2,3,4,5,6,7],[2,3,8,9]] []=some pf131:=by kernel_rfl
theorem p120:prepF Tryd.prog 120 3 [] []=some pf120:=by kernel_rfl
theorem p132:prepF Tryd.prog 132 7 [[2,3,4,5],[0,2,3,6]] []=some pf132:=by kernel_rfl
theorem p121:prepF Tryd.prog 121 11 [[1,4,5,6,7,8],[4,7,9,10]] []=some pf121:=by kernel_rfl
theorem p97:prepF Tryd.prog 97 10 [[1,2,6,7,8,9]] []=some pf97:=by kernel_rfl
theorem p53:prepF Tryd.prog 53 8 [] []=some pf53:=by kernel_rfl
theorem p84:prepF Tryd.prog 84 4 [] []=some pf84:=by kernel_rfl
theorem p38:prepF Tryd.prog 38 12 [] []=some pf38:=by kernel_rfl
theorem p41:prepF Tryd.prog 41 6 [[0,1,5]] []=some pf41:=by kernel_rfl
theorem p94:prepF Tryd.prog 94 7 [[1,2,4,5,6]] []=some pf94:=by kernel_rfl
theorem p51:prepF Tryd.prog 51 8 [] []=some pf51:=by kernel_rfl
theorem p52:prepF Tryd.prog 52 6 [[1,2,3,4,5]] []=some pf52:=by kernel_rfl
theorem p22:prepF Tryd.prog 22 10 [] []=some pf22:=by kernel_rfl
theorem p39:prepF Tryd.prog 39 8 [[1,2,4]] []=some pf39:=by kernel_rfl
theorem p40:prepF Tryd.prog 40 7 [[1,2,4,5,6]] [11,17,49]=some pf40:=by kernel_rfl
theorem p13:prepF Tryd.prog 13 20 [] [2000033,2000094]=some pf13:=by kernel_rfl
theorem p20:prepF Tryd.prog 20 3 [] []=some pf20:=by kernel_rfl
theorem p14:prepF Tryd.prog 14 5 [] []=some pf14:=by kernel_rfl
theorem det_SLi:(SLi).Det:=by
 intro vs G Q h;unfold SLi at h⊢;split at h<;>first|exact h.elim|exact det00 h|exact det0 h|exact detE1 h|exact detE2 h|exact detE3 h|exact detE4 h|exact detE5 h|exact detE6 h|exact detE7 h|exact detN h|exact detA h|exact detN0 h|exact detN1 h|exact detN2 h|exact detN3 h|exact detA0 h|exact detA1 h|exact detA2 h|exact detA3 h|exact detIf h
theorem det_S44:(S44).Det:=by
 intro vs G Q h;unfold S44 at h⊢;split at h<;>first|exact h.elim|exact det00 h|exact det0 h|exact detE1 h|exact detE2 h|exact detE3 h|exact detE4 h|exact detE5 h|exact detE6 h|exact detE7 h|exact detN h|exact detA h|exact detN0 h|exact detN1 h|exact detN2 h|exact detN3 h|exact detA0 h|exact detA1 h|exact detA2 h|exact detA3 h|exact detIf h
theorem det_S26:(S26).Det:=detS26
theorem det_SNo:(SNo).Det:=by
 intro vs G Q h;unfold SNo at h⊢;split at h<;>first|exact h.elim|exact det00 h|exact det0 h|exact detE1 h|exact detE2 h|exact detE3 h|exact detE4 h|exact detE5 h|exact detE6 h|exact detE7 h|exact detN h|exact detA h|exact detN0 h|exact detN1 h|exact detN2 h|exact detN3 h|exact detA0 h|exact detA1 h|exact detA2 h|exact detA3 h|exact detIf h
theorem det_SNew2:(SNew2).Det:=detSNew2
theorem det_SIs:(SIs).Det:=by
 intro vs G Q h;unfold SIs at h⊢;split at h<;>first|exact h.elim|exact det00 h|exact det0 h|exact detE1 h|exact detE2 h|exact detE3 h|exact detE4 h|exact detE5 h|exact detE6 h|exact detE7 h|exact detN h|exact detA h|exact detN0 h|exact detN1 h|exact detN2 h|exact detN3 h|exact detA0 h|exact detA1 h|exact detA2 h|exact detA3 h|exact detIf h
theorem det_S46:(S46).Det:=by
 intro vs G Q h;unfold S46 at h⊢;split at h<;>first|exact h.elim|exact det00 h|exact det0 h|exact detE1 h|exact detE2 h|exact detE3 h|exact detE4 h|exact detE5 h|exact detE6 h|exact detE7 h|exact detN h|exact detA h|exact detN0 h|exact detN1 h|exact detN2 h|exact detN3 h|exact detA0 h|exact detA1 h|exact detA2 h|exact detA3 h|exact detIf h
theorem det_S30:(S30).Det:=by
 intro vs G Q h;unfold S30 at h⊢;split at h<;>first|exact h.elim|exact det00 h|exact det0 h|exact detE1 h|exact detE2 h|exact detE3 h|exact detE4 h|exact detE5 h|exact detE6 h|exact detE7 h|exact detN h|exact detA h|exact detN0 h|exact detN1 h|exact detN2 h|exact detN3 h|exact detA0 h|exact detA1 h|exact detA2 h|exact detA3 h|exact detIf h
theorem det_SVat:(SVat).Det:=by
 intro vs G Q h;unfold SVat at h⊢;split at h<;>first|exact h.elim|exact det00 h|exact det0 h|exact detE1 h|exact detE2 h|exact detE3 h|exact detE4 h|exact detE5 h|exact detE6 h|exact detE7 h|exact detN h|exact detA h|exact detN0 h|exact detN1 h|exact detN2 h|exact detN3 h|exact detA0 h|exact detA1 h|exact detA2 h|exact detA3 h|exact detIf h
theorem det_SWi:(SWi).Det:=by
 intro vs G Q h;unfold SWi at h⊢;split at h<;>first|exact h.elim|exact det00 h|exact det0 h|exact detE1 h|exact detE2 h|exact detE3 h|exact detE4 h|exact detE5 h|exact detE6 h|exact detE7 h|exact detN h|exact detA h|exact detN0 h|exact detN1 h|exact detN2 h|exact detN3 h|exact detA0 h|exact detA1 h|exact detA2 h|exact detA3 h|exact detIf h
theorem det_SBc:(SBc).Det:=by
 intro vs G Q h;unfold SBc at h⊢;split at h<;>first|exact h.elim|exact det00 h|exact det0 h|exact detE1 h|exact detE2 h|exact detE3 h|exact detE4 h|exact detE5 h|exact detE6 h|exact detE7 h|exact detN h|exact detA h|exact detN0 h|exact detN1 h|exact detN2 h|exact detN3 h|exact detA0 h|exact detA1 h|exact detA2 h|exact detA3 h|exact detIf h
theorem det_SSt:(SSt).Det:=by
 intro vs G Q h;unfold SSt at h⊢;split at h<;>first|exact h.elim|exact det00 h|exact det0 h|exact detE1 h|exact detE2 h|exact detE3 h|exact detE4 h|exact detE5 h|exact detE6 h|exact detE7 h|exact detN h|exact detA h|exact detN0 h|exact detN1 h|exact detN2 h|exact detN3 h|exact detA0 h|exact detA1 h|exact detA2 h|exact detA3 h|exact detIf h
theorem det_SEn:(SEn).Det:=by
 intro vs G Q h;unfold SEn at h⊢;split at h<;>first|exact h.elim|exact det00 h|exact det0 h|exact detE1 h|exact detE2 h|exact detE3 h|exact detE4 h|exact detE5 h|exact detE6 h|exact detE7 h|exact detN h|exact detA h|exact detN0 h|exact detN1 h|exact detN2 h|exact detN3 h|exact detA0 h|exact detA1 h|exact detA2 h|exact detA3 h|exact detIf h
theorem det_SFi:(SFi).Det:=by
 intro vs G Q h;unfold SFi at h⊢;split at h<;>first|exact h.elim|exact det00 h|exact det0 h|exact detE1 h|exact detE2 h|exact detE3 h|exact detE4 h|exact detE5 h|exact detE6 h|exact detE7 h|exact detN h|exact detA h|exact detN0 h|exact detN1 h|exact detN2 h|exact detN3 h|exact detA0 h|exact detA1 h|exact detA2 h|exact detA3 h|exact detIf h
theorem det_SRl:(SRl).Det:=by
 intro vs G Q h;unfold SRl at h⊢;split at h<;>first|exact h.elim|exact det00 h|exact det0 h|exact detE1 h|exact detE2 h|exact detE3 h|exact detE4 h|exact detE5 h|exact detE6 h|exact detE7 h|exact detN h|exact detA h|exact detN0 h|exact detN1 h|exact detN2 h|exact detN3 h|exact detA0 h|exact detA1 h|exact detA2 h|exact detA3 h|exact detIf h
theorem det_SRo:(SRo).Det:=by
 intro vs G Q h;unfold SRo at h⊢;split at h<;>first|exact h.elim|exact det00 h|exact det0 h|exact detE1 h|exact detE2 h|exact detE3 h|exact detE4 h|exact detE5 h|exact detE6 h|exact detE7 h|exact detN h|exact detA h|exact detN0 h|exact detN1 h|exact detN2 h|exact detN3 h|exact detA0 h|exact detA1 h|exact detA2 h|exact detA3 h|exact detIf h
theorem det_SSc:(SSc).Det:=by
 intro vs G Q h;unfold SSc at h⊢;split at h<;>first|exact h.elim|exact det00 h|exact det0 h|exact detE1 h|exact detE2 h|exact detE3 h|exact detE4 h|exact detE5 h|exact detE6 h|exact detE7 h|exact detN h|exact detA h|exact detN0 h|exact detN1 h|exact detN2 h|exact detN3 h|exact detA0 h|exact detA1 h|exact detA2 h|exact detA3 h|exact detIf h
theorem det_STu_K256:(STu K256).Det:=by
 intro vs G Q h;unfold STu at h⊢;split at h<;>first|exact h.elim|exact det00 h|exact det0 h|exact detE1 h|exact detE2 h|exact detE3 h|exact detE4 h|exact detE5 h|exact detE6 h|exact detE7 h|exact detN h|exact detA h|exact detN0 h|exact detN1 h|exact detN2 h|exact detN3 h|exact detA0 h|exact detA1 h|exact detA2 h|exact detA3 h|exact detIf h
theorem det_SOf_K256:(SOf K256).Det:=by
 intro vs G Q h;unfold SOf at h⊢;split at h<;>first|exact h.elim|exact det00 h|exact det0 h|exact detE1 h|exact detE2 h|exact detE3 h|exact detE4 h|exact detE5 h|exact detE6 h|exact detE7 h|exact detN h|exact detA h|exact detN0 h|exact detN1 h|exact detN2 h|exact detN3 h|exact detA0 h|exact detA1 h|exact detA2 h|exact detA3 h|exact detIf h
theorem det_SKe_K256:(SKe K256).Det:=by
 intro vs G Q h;unfold SKe at h⊢;split at h<;>first|exact h.elim|exact det00 h|exact det0 h|exact detE1 h|exact detE2 h|exact detE3 h|exact detE4 h|exact detE5 h|exact detE6 h|exact detE7 h|exact detN h|exact detA h|exact detN0 h|exact detN1 h|exact detN2 h|exact detN3 h|exact detA0 h|exact detA1 h|exact detA2 h|exact detA3 h|exact detIf h
theorem det_SGr:(SGr).Det:=by
 intro vs G Q h;unfold SGr at h⊢;split at h<;>first|exact h.elim|exact det00 h|exact det0 h|exact detE1 h|exact detE2 h|exact detE3 h|exact detE4 h|exact detE5 h|exact detE6 h|exact detE7 h|exact detN h|exact detA h|exact detN0 h|exact detN1 h|exact detN2 h|exact detN3 h|exact detA0 h|exact detA1 h|exact detA2 h|exact detA3 h|exact detIf h
theorem det_SCc:(SCc).Det:=by
 intro vs G Q h;unfold SCc at h⊢;split at h<;>first|exact h.elim|exact det00 h|exact det0 h|exact detE1 h|exact detE2 h|exact detE3 h|exact detE4 h|exact detE5 h|exact detE6 h|exact detE7 h|exact detN h|exact detA h|exact detN0 h|exact detN1 h|exact detN2 h|exact detN3 h|exact detA0 h|exact detA1 h|exact detA2 h|exact detA3 h|exact detIf h
theorem det_SBl_K256:(SBl K256).Det:=by
 intro vs G Q h;unfold SBl at h⊢;split at h<;>first|exact h.elim|exact det00 h|exact det0 h|exact detE1 h|exact detE2 h|exact detE3 h|exact detE4 h|exact detE5 h|exact detE6 h|exact detE7 h|exact detN h|exact detA h|exact detN0 h|exact detN1 h|exact detN2 h|exact detN3 h|exact detA0 h|exact detA1 h|exact detA2 h|exact detA3 h|exact detIf h
theorem det_STd:(STd).Det:=by
 intro vs G Q h;unfold STd at h⊢;split at h<;>first|exact h.elim|exact det00 h|exact det0 h|exact detE1 h|exact detE2 h|exact detE3 h|exact detE4 h|exact detE5 h|exact detE6 h|exact detE7 h|exact detN h|exact detA h|exact detN0 h|exact detN1 h|exact detN2 h|exact detN3 h|exact detA0 h|exact detA1 h|exact detA2 h|exact detA3 h|exact detIf h
theorem det_SMa_K256:(SMa K256).Det:=by
 intro vs G Q h;unfold SMa at h⊢;split at h<;>first|exact h.elim|exact det00 h|exact det0 h|exact detE1 h|exact detE2 h|exact detE3 h|exact detE4 h|exact detE5 h|exact detE6 h|exact detE7 h|exact detN h|exact detA h|exact detN0 h|exact detN1 h|exact detN2 h|exact detN3 h|exact detA0 h|exact detA1 h|exact detA2 h|exact detA3 h|exact detIf h
theorem det_STa_K256:(STa K256).Det:=by
 intro vs G Q h;unfold STa at h⊢;split at h<;>first|exact h.elim|exact det00 h|exact det0 h|exact detE1 h|exact detE2 h|exact detE3 h|exact detE4 h|exact detE5 h|exact detE6 h|exact detE7 h|exact detN h|exact detA h|exact detN0 h|exact detN1 h|exact detN2 h|exact detN3 h|exact detA0 h|exact detA1 h|exact detA2 h|exact detA3 h|exact detIf h
theorem det_SCl:(SCl).Det:=by
 intro vs G Q h;unfold SCl at h⊢;split at h<;>first|exact h.elim|exact det00 h|exact det0 h|exact detE1 h|exact detE2 h|exact detE3 h|exact detE4 h|exact detE5 h|exact detE6 h|exact detE7 h|exact detN h|exact detA h|exact detN0 h|exact detN1 h|exact detN2 h|exact detN3 h|exact detA0 h|exact detA1 h|exact detA2 h|exact detA3 h|exact detIf h
theorem det_SHa:(SHa).Det:=by
 intro vs G Q h;unfold SHa at h⊢;split at h<;>first|exact h.elim|exact det00 h|exact det0 h|exact detE1 h|exact detE2 h|exact detE3 h|exact detE4 h|exact detE5 h|exact detE6 h|exact detE7 h|exact detN h|exact detA h|exact detN0 h|exact detN1 h|exact detN2 h|exact detN3 h|exact detA0 h|exact detA1 h|exact detA2 h|exact detA3 h|exact detIf h
theorem det_SNu:(SNu).Det:=by
 intro vs G Q h;unfold SNu at h⊢;split at h<;>first|exact h.elim|exact det00 h|exact det0 h|exact detE1 h|exact detE2 h|exact detE3 h|exact detE4 h|exact detE5 h|exact detE6 h|exact detE7 h|exact detN h|exact detA h|exact detN0 h|exact detN1 h|exact detN2 h|exact detN3 h|exact detA0 h|exact detA1 h|exact detA2 h|exact detA3 h|exact detIf h
theorem det_SBt:(SBt).Det:=by
 intro vs G Q h;unfold SBt at h⊢;split at h<;>first|exact h.elim|exact det00 h|exact det0 h|exact detE1 h|exact detE2 h|exact detE3 h|exact detE4 h|exact detE5 h|exact detE6 h|exact detE7 h|exact detN h|exact detA h|exact detN0 h|exact detN1 h|exact detN2 h|exact detN3 h|exact detA0 h|exact detA1 h|exact detA2 h|exact detA3 h|exact detIf h
theorem det_SBp_K256:(SBp K256).Det:=by
 intro vs G Q h;unfold SBp at h⊢;split at h<;>first|exact h.elim|exact det00 h|exact det0 h|exact detE1 h|exact detE2 h|exact detE3 h|exact detE4 h|exact detE5 h|exact detE6 h|exact detE7 h|exact detN h|exact detA h|exact detN0 h|exact detN1 h|exact detN2 h|exact detN3 h|exact detA0 h|exact detA1 h|exact detA2 h|exact detA3 h|exact detIf h
theorem det_SSt2:(SSt2).Det:=by
 intro vs G Q h;unfold SSt2 at h⊢;split at h<;>first|exact h.elim|exact det00 h|exact det0 h|exact detE1 h|exact detE2 h|exact detE3 h|exact detE4 h|exact detE5 h|exact detE6 h|exact detE7 h|exact detN h|exact detA h|exact detN0 h|exact detN1 h|exact detN2 h|exact detN3 h|exact detA0 h|exact detA1 h|exact detA2 h|exact detA3 h|exact detIf h
theorem det_SWr2:(SWr2).Det:=by
 intro vs G Q h;unfold SWr2 at h⊢;split at h<;>first|exact h.elim|exact det00 h|exact det0 h|exact detE1 h|exact detE2 h|exact detE3 h|exact detE4 h|exact detE5 h|exact detE6 h|exact detE7 h|exact detN h|exact detA h|exact detN0 h|exact detN1 h|exact detN2 h|exact detN3 h|exact detA0 h|exact detA1 h|exact detA2 h|exact detA3 h|exact detIf h
theorem det_S45:(S45).Det:=by
 intro vs G Q h;unfold S45 at h⊢;split at h<;>first|exact h.elim|exact det00 h|exact det0 h|exact detE1 h|exact detE2 h|exact detE3 h|exact detE4 h|exact detE5 h|exact detE6 h|exact detE7 h|exact detN h|exact detA h|exact detN0 h|exact detN1 h|exact detN2 h|exact detN3 h|exact detA0 h|exact detA1 h|exact detA2 h|exact detA3 h|exact detIf h
theorem det_S28:(S28).Det:=by
 intro vs G Q h;unfold S28 at h⊢;split at h<;>first|exact h.elim|exact det00 h|exact det0 h|exact detE1 h|exact detE2 h|exact detE3 h|exact detE4 h|exact detE5 h|exact detE6 h|exact detE7 h|exact detN h|exact detA h|exact detN0 h|exact detN1 h|exact detN2 h|exact detN3 h|exact detA0 h|exact detA1 h|exact detA2 h|exact detA3 h|exact detIf h
theorem det_SKp3_K256:(SKp3 K256).Det:=by
 intro vs G Q h;unfold SKp3 at h⊢;split at h<;>first|exact h.elim|exact det00 h|exact det0 h|exact detE1 h|exact detE2 h|exact detE3 h|exact detE4 h|exact detE5 h|exact detE6 h|exact detE7 h|exact detN h|exact detA h|exact detN0 h|exact detN1 h|exact detN2 h|exact detN3 h|exact detA0 h|exact detA1 h|exact detA2 h|exact detA3 h|exact detIf h
theorem det_SSa:(SSa).Det:=by
 intro vs G Q h;unfold SSa at h⊢;split at h<;>first|exact h.elim|exact det00 h|exact det0 h|exact detE1 h|exact detE2 h|exact detE3 h|exact detE4 h|exact detE5 h|exact detE6 h|exact detE7 h|exact detN h|exact detA h|exact detN0 h|exact detN1 h|exact detN2 h|exact detN3 h|exact detA0 h|exact detA1 h|exact detA2 h|exact detA3 h|exact detIf h
theorem det_SCh_K256:(SCh K256).Det:=by
 intro vs G Q h;unfold SCh at h⊢;split at h<;>first|exact h.elim|exact det00 h|exact det0 h|exact detE1 h|exact detE2 h|exact detE3 h|exact detE4 h|exact detE5 h|exact detE6 h|exact detE7 h|exact detN h|exact detA h|exact detN0 h|exact detN1 h|exact detN2 h|exact detN3 h|exact detA0 h|exact detA1 h|exact detA2 h|exact detA3 h|exact detIf h
theorem det_SRd:(SRd).Det:=by
 intro vs G Q h;unfold SRd at h⊢;split at h<;>first|exact h.elim|exact det00 h|exact det0 h|exact detE1 h|exact detE2 h|exact detE3 h|exact detE4 h|exact detE5 h|exact detE6 h|exact detE7 h|exact detN h|exact detA h|exact detN0 h|exact detN1 h|exact detN2 h|exact detN3 h|exact detA0 h|exact detA1 h|exact detA2 h|exact detA3 h|exact detIf h
theorem det_SOff:(SOff).Det:=by
 intro vs G Q h;unfold SOff at h⊢;split at h<;>first|exact h.elim|exact det00 h|exact det0 h|exact detE1 h|exact detE2 h|exact detE3 h|exact detE4 h|exact detE5 h|exact detE6 h|exact detE7 h|exact detN h|exact detA h|exact detN0 h|exact detN1 h|exact detN2 h|exact detN3 h|exact detA0 h|exact detA1 h|exact detA2 h|exact detA3 h|exact detIf h
theorem det_SNb:(SNb).Det:=by
 intro vs G Q h;unfold SNb at h⊢;split at h<;>first|exact h.elim|exact det00 h|exact det0 h|exact detE1 h|exact detE2 h|exact detE3 h|exact detE4 h|exact detE5 h|exact detE6 h|exact detE7 h|exact detN h|exact detA h|exact detN0 h|exact detN1 h|exact detN2 h|exact detN3 h|exact detA0 h|exact detA1 h|exact detA2 h|exact detA3 h|exact detIf h
theorem det_SNm:(SNm).Det:=by
 intro vs G Q h;unfold SNm at h⊢;split at h<;>first|exact h.elim|exact det00 h|exact det0 h|exact detE1 h|exact detE2 h|exact detE3 h|exact detE4 h|exact detE5 h|exact detE6 h|exact detE7 h|exact detN h|exact detA h|exact detN0 h|exact detN1 h|exact detN2 h|exact detN3 h|exact detA0 h|exact detA1 h|exact detA2 h|exact detA3 h|exact detIf h
theorem det_SUp:(SUp).Det:=by
 intro vs G Q h;unfold SUp at h⊢;split at h<;>first|exact h.elim|exact det00 h|exact det0 h|exact detE1 h|exact detE2 h|exact detE3 h|exact detE4 h|exact detE5 h|exact detE6 h|exact detE7 h|exact detN h|exact detA h|exact detN0 h|exact detN1 h|exact detN2 h|exact detN3 h|exact detA0 h|exact detA1 h|exact detA2 h|exact detA3 h|exact detIf h
theorem det_SHs:(SHs).Det:=by
 intro vs G Q h;unfold SHs at h⊢;split at h<;>first|exact h.elim|exact det00 h|exact det0 h|exact detE1 h|exact detE2 h|exact detE3 h|exact detE4 h|exact detE5 h|exact detE6 h|exact detE7 h|exact detN h|exact detA h|exact detN0 h|exact detN1 h|exact detN2 h|exact detN3 h|exact detA0 h|exact detA1 h|exact detA2 h|exact detA3 h|exact detIf h
theorem det_SDn:(SDn).Det:=by
 intro vs G Q h;unfold SDn at h⊢;split at h<;>first|exact h.elim|exact det00 h|exact det0 h|exact detE1 h|exact detE2 h|exact detE3 h|exact detE4 h|exact detE5 h|exact detE6 h|exact detE7 h|exact detN h|exact detA h|exact detN0 h|exact detN1 h|exact detN2 h|exact detN3 h|exact detA0 h|exact detA1 h|exact detA2 h|exact detA3 h|exact detIf h
theorem det_SBg_K256:(SBg K256).Det:=by
 intro vs G Q h;unfold SBg at h⊢;split at h<;>first|exact h.elim|exact det00 h|exact det0 h|exact detE1 h|exact detE2 h|exact detE3 h|exact detE4 h|exact detE5 h|exact detE6 h|exact detE7 h|exact detN h|exact detA h|exact detN0 h|exact detN1 h|exact detN2 h|exact detN3 h|exact detA0 h|exact detA1 h|exact detA2 h|exact detA3 h|exact detIf h
theorem det_SLd2_K256:(SLd2 K256).Det:=detSLd2 K256
theorem det_SSw2:(SSw2).Det:=detSSw2
theorem det_SSlo2:(SSlo2).Det:=detSSlo2
theorem det_SAv:(SAv).Det:=by
 intro vs G Q h;unfold SAv at h⊢;split at h<;>first|exact h.elim|exact det00 h|exact det0 h|exact detE1 h|exact detE2 h|exact detE3 h|exact detE4 h|exact detE5 h|exact detE6 h|exact detE7 h|exact detN h|exact detA h|exact detN0 h|exact detN1 h|exact detN2 h|exact detN3 h|exact detA0 h|exact detA1 h|exact detA2 h|exact detA3 h|exact detIf h
theorem det_SVn:(SVn).Det:=by
 intro vs G Q h;unfold SVn at h⊢;split at h<;>first|exact h.elim|exact det00 h|exact det0 h|exact detE1 h|exact detE2 h|exact detE3 h|exact detE4 h|exact detE5 h|exact detE6 h|exact detE7 h|exact detN h|exact detA h|exact detN0 h|exact detN1 h|exact detN2 h|exact detN3 h|exact detA0 h|exact detA1 h|exact detA2 h|exact detA3 h|exact detIf h
theorem det_SArm2:(SArm2).Det:=detSArm2
theorem det_SGrb:(SGrb).Det:=by
 intro vs G Q h;unfold SGrb at h⊢;split at h<;>first|exact h.elim|exact det00 h|exact det0 h|exact detE1 h|exact detE2 h|exact detE3 h|exact detE4 h|exact detE5 h|exact detE6 h|exact detE7 h|exact detN h|exact detA h|exact detN0 h|exact detN1 h|exact detN2 h|exact detN3 h|exact detA0 h|exact detA1 h|exact detA2 h|exact detA3 h|exact detIf h
theorem det_SCb:(SCb).Det:=by
 intro vs G Q h;unfold SCb at h⊢;split at h<;>first|exact h.elim|exact det00 h|exact det0 h|exact detE1 h|exact detE2 h|exact detE3 h|exact detE4 h|exact detE5 h|exact detE6 h|exact detE7 h|exact detN h|exact detA h|exact detN0 h|exact detN1 h|exact detN2 h|exact detN3 h|exact detA0 h|exact detA1 h|exact detA2 h|exact detA3 h|exact detIf h
theorem det_SCr2:(SCr2).Det:=by
 intro vs G Q h;unfold SCr2 at h⊢;split at h<;>first|exact h.elim|exact det00 h|exact det0 h|exact detE1 h|exact detE2 h|exact detE3 h|exact detE4 h|exact detE5 h|exact detE6 h|exact detE7 h|exact detN h|exact detA h|exact detN0 h|exact detN1 h|exact detN2 h|exact detN3 h|exact detA0 h|exact detA1 h|exact detA2 h|exact detA3 h|exact detIf h
theorem det_SBm:(SBm).Det:=by
 intro vs G Q h;unfold SBm at h⊢;split at h<;>first|exact h.elim|exact det00 h|exact det0 h|exact detE1 h|exact detE2 h|exact detE3 h|exact detE4 h|exact detE5 h|exact detE6 h|exact detE7 h|exact detN h|exact detA h|exact detN0 h|exact detN1 h|exact detN2 h|exact detN3 h|exact detA0 h|exact detA1 h|exact detA2 h|exact detA3 h|exact detIf h
theorem det_SBy:(SBy).Det:=by
 intro vs G Q h;unfold SBy at h⊢;split at h<;>first|exact h.elim|exact det00 h|exact det0 h|exact detE1 h|exact detE2 h|exact detE3 h|exact detE4 h|exact detE5 h|exact detE6 h|exact detE7 h|exact detN h|exact detA h|exact detN0 h|exact detN1 h|exact detN2 h|exact detN3 h|exact detA0 h|exact detA1 h|exact detA2 h|exact detA3 h|exact detIf h
theorem det_SRn_10:(SRn 10).Det:=by
 intro vs G Q h;unfold SRn at h⊢;split at h<;>first|exact h.elim|exact det00 h|exact det0 h|exact detE1 h|exact detE2 h|exact detE3 h|exact detE4 h|exact detE5 h|exact detE6 h|exact detE7 h|exact detN h|exact detA h|exact detN0 h|exact detN1 h|exact detN2 h|exact detN3 h|exact detA0 h|exact detA1 h|exact detA2 h|exact detA3 h|exact detIf h
theorem det_SSh:(SSh).Det:=by
 intro vs G Q h;unfold SSh at h⊢;split at h<;>first|exact h.elim|exact det00 h|exact det0 h|exact detE1 h|exact detE2 h|exact detE3 h|exact detE4 h|exact detE5 h|exact detE6 h|exact detE7 h|exact detN h|exact detA h|exact detN0 h|exact detN1 h|exact detN2 h|exact detN3 h|exact detA0 h|exact detA1 h|exact detA2 h|exact detA3 h|exact detIf h
theorem det_SRf_K256:(SRf K256).Det:=by
 intro vs G Q h;unfold SRf at h⊢;split at h<;>first|exact h.elim|exact det00 h|exact det0 h|exact detE1 h|exact detE2 h|exact detE3 h|exact detE4 h|exact detE5 h|exact detE6 h|exact detE7 h|exact detN h|exact detA h|exact detN0 h|exact detN1 h|exact detN2 h|exact detN3 h|exact detA0 h|exact detA1 h|exact detA2 h|exact detA3 h|exact detIf h
theorem det_SMr_K256:(SMr K256).Det:=by
 intro vs G Q h;unfold SMr at h⊢;split at h<;>first|exact h.elim|exact det00 h|exact det0 h|exact detE1 h|exact detE2 h|exact detE3 h|exact detE4 h|exact detE5 h|exact detE6 h|exact detE7 h|exact detN h|exact detA h|exact detN0 h|exact detN1 h|exact detN2 h|exact detN3 h|exact detA0 h|exact detA1 h|exact detA2 h|exact detA3 h|exact detIf h
theorem det_STr_K256:(STr K256).Det:=by
 intro vs G Q h;unfold STr at h⊢;split at h<;>first|exact h.elim|exact det00 h|exact det0 h|exact detE1 h|exact detE2 h|exact detE3 h|exact detE4 h|exact detE5 h|exact detE6 h|exact detE7 h|exact detN h|exact detA h|exact detN0 h|exact detN1 h|exact detN2 h|exact detN3 h|exact detA0 h|exact detA1 h|exact detA2 h|exact detA3 h|exact detIf h
theorem det_SBr_K256:(SBr K256).Det:=by
 intro vs G Q h;unfold SBr at h⊢;split at h<;>first|exact h.elim|exact det00 h|exact det0 h|exact detE1 h|exact detE2 h|exact detE3 h|exact detE4 h|exact detE5 h|exact detE6 h|exact detE7 h|exact detN h|exact detA h|exact detN0 h|exact detN1 h|exact detN2 h|exact detN3 h|exact detA0 h|exact detA1 h|exact detA2 h|exact detA3 h|exact detIf h
theorem det_SVs:(SVs).Det:=by
 intro vs G Q h;unfold SVs at h⊢;split at h<;>first|exact h.elim|exact det00 h|exact det0 h|exact detE1 h|exact detE2 h|exact detE3 h|exact detE4 h|exact detE5 h|exact detE6 h|exact detE7 h|exact detN h|exact detA h|exact detN0 h|exact detN1 h|exact detN2 h|exact detN3 h|exact detA0 h|exact detA1 h|exact detA2 h|exact detA3 h|exact detIf h
theorem det_SVk_K256:(SVk K256).Det:=by
 intro vs G Q h;unfold SVk at h⊢;split at h<;>first|exact h.elim|exact det00 h|exact det0 h|exact detE1 h|exact detE2 h|exact detE3 h|exact detE4 h|exact detE5 h|exact detE6 h|exact detE7 h|exact detN h|exact detA h|exact detN0 h|exact detN1 h|exact detN2 h|exact detN3 h|exact detA0 h|exact detA1 h|exact detA2 h|exact detA3 h|exact detIf h
theorem det_SSm:(SSm).Det:=by
 intro vs G Q h;unfold SSm at h⊢;split at h<;>first|exact h.elim|exact det00 h|exact det0 h|exact detE1 h|exact detE2 h|exact detE3 h|exact detE4 h|exact detE5 h|exact detE6 h|exact detE7 h|exact detN h|exact detA h|exact detN0 h|exact detN1 h|exact detN2 h|exact detN3 h|exact detA0 h|exact detA1 h|exact detA2 h|exact detA3 h|exact detIf h
theorem det_SRm:(SRm).Det:=by
 intro vs G Q h;unfold SRm at h⊢;split at h<;>first|exact h.elim|exact det00 h|exact det0 h|exact detE1 h|exact detE2 h|exact detE3 h|exact detE4 h|exact detE5 h|exact detE6 h|exact detE7 h|exact detN h|exact detA h|exact detN0 h|exact detN1 h|exact detN2 h|exact detN3 h|exact detA0 h|exact detA1 h|exact detA2 h|exact detA3 h|exact detIf h
theorem det_SRu:(SRu).Det:=by
 intro vs G Q h;unfold SRu at h⊢;split at h<;>first|exact h.elim|exact det00 h|exact det0 h|exact detE1 h|exact detE2 h|exact detE3 h|exact detE4 h|exact detE5 h|exact detE6 h|exact detE7 h|exact detN h|exact detA h|exact detN0 h|exact detN1 h|exact detN2 h|exact detN3 h|exact detA0 h|exact detA1 h|exact detA2 h|exact detA3 h|exact detIf h
theorem det_SRh:(SRh).Det:=by
 intro vs G Q h;unfold SRh at h⊢;split at h<;>first|exact h.elim|exact det00 h|exact det0 h|exact detE1 h|exact detE2 h|exact detE3 h|exact detE4 h|exact detE5 h|exact detE6 h|exact detE7 h|exact detN h|exact detA h|exact detN0 h|exact detN1 h|exact detN2 h|exact detN3 h|exact detA0 h|exact detA1 h|exact detA2 h|exact detA3 h|exact detIf h
theorem det_SBh2_K256:(SBh2 K256).Det:=by
 intro vs G Q h;unfold SBh2 at h⊢;split at h<;>first|exact h.elim|exact det00 h|exact det0 h|exact detE1 h|exact detE2 h|exact detE3 h|exact detE4 h|exact detE5 h|exact detE6 h|exact detE7 h|exact detN h|exact detA h|exact detN0 h|exact detN1 h|exact detN2 h|exact detN3 h|exact detA0 h|exact detA1 h|exact detA2 h|exact detA3 h|exact detIf h
theorem det_SVl_K256:(SVl K256).Det:=by
 intro vs G Q h;unfold SVl at h⊢;split at h<;>first|exact h.elim|exact det00 h|exact det0 h|exact detE1 h|exact detE2 h|exact detE3 h|exact detE4 h|exact detE5 h|exact detE6 h|exact detE7 h|exact detN h|exact detA h|exact detN0 h|exact detN1 h|exact detN2 h|exact detN3 h|exact detA0 h|exact detA1 h|exact detA2 h|exact detA3 h|exact detIf h
theorem det_SVc:(SVc).Det:=by
 intro vs G Q h;unfold SVc at h⊢;split at h<;>first|exact h.elim|exact det00 h|exact det0 h|exact detE1 h|exact detE2 h|exact detE3 h|exact detE4 h|exact detE5 h|exact detE6 h|exact detE7 h|exact detN h|exact detA h|exact detN0 h|exact detN1 h|exact detN2 h|exact detN3 h|exact detA0 h|exact detA1 h|exact detA2 h|exact detA3 h|exact detIf h
theorem det_SDo_K256:(SDo K256).Det:=detSDo K256
theorem det_SDead:(SDead).Det:=by
 intro vs G Q h;unfold SDead at h⊢;split at h<;>first|exact h.elim|exact det00 h|exact det0 h|exact detE1 h|exact detE2 h|exact detE3 h|exact detE4 h|exact detE5 h|exact detE6 h|exact detE7 h|exact detN h|exact detA h|exact detN0 h|exact detN1 h|exact detN2 h|exact detN3 h|exact detA0 h|exact detA1 h|exact detA2 h|exact detA3 h|exact detIf h
theorem det_SLk:(SLk).Det:=by
 intro vs G Q h;unfold SLk at h⊢;split at h<;>first|exact h.elim|exact det00 h|exact det0 h|exact detE1 h|exact detE2 h|exact detE3 h|exact detE4 h|exact detE5 h|exact detE6 h|exact detE7 h|exact detN h|exact detA h|exact detN0 h|exact detN1 h|exact detN2 h|exact detN3 h|exact detA0 h|exact detA1 h|exact detA2 h|exact detA3 h|exact detIf h
theorem own:ownKnob Tryd.prog.godebug=none:=by kernel_rfl
theorem laidOut:laidOutB Tryd.prog=true:=by kernel_rfl
noncomputable def EE:Env:=⟨Tryd.prog,[(0,.arr .u32 64 K256),(1,.arr .u32 64 K256)]⟩
noncomputable def T9:List (Nat×Spec1):=(9,SLi)::[]
theorem g9:Abs.Good EE T9:=(Abs.Good.nil EE).cons det_SLi fun vs G Q h=>by
 unfold SLi at h;split at h
 ·obtain⟨⟨hA,hl⟩,h⟩:=h;exact (Abs.Good.nil EE).ret (E:=EE) p9 rfl (walk9 hA hl h)
 ·exact h.elim
noncomputable def T83:List (Nat×Spec1):=(83,S44)::T9
theorem g83:Abs.Good EE T83:=g9.cons det_S44 fun vs G Q h=>by
 unfold S44 at h;split at h
 ·obtain⟨a,b,hL,h⟩:=h;exact g9.ret (E:=EE) p83 rfl (walk83 hL h)
 ·exact h.elim
noncomputable def T36:List (Nat×Spec1):=(36,S26)::T83
theorem g36:Abs.Good EE T36:=g83.cons det_S26 fun vs G Q h=>by
 unfold S26 at h;split at h
 ·obtain⟨h1,h2⟩:=h;exact g83.ret (E:=EE) p36 rfl (walk36 rfl h1 h2)
 ·exact h.elim
noncomputable def T37:List (Nat×Spec1):=(37,SNo)::T36
theorem g37:Abs.Good EE T37:=g36.cons det_SNo fun vs G Q h=>by
 unfold SNo at h;split at h
 ·exact g36.ret (E:=EE) p37 rfl (walk37 h)
 ·exact h.elim
noncomputable def T11:List (Nat×Spec1):=(11,SNew2)::T37
theorem g11:Abs.Good EE T11:=g37.cons det_SNew2 fun vs G Q h=>by
 unfold SNew2 at h;split at h
 ·exact g37.ret (E:=EE) p11 rfl (walk311 rfl rfl h)
 ·exact h.elim
noncomputable def T42:List (Nat×Spec1):=(42,SIs)::T11
theorem g42:Abs.Good EE T42:=g11.cons det_SIs fun vs G Q h=>by
 unfold SIs at h;split at h
 ·obtain⟨b,hx,h⟩:=h;exact g11.ret (E:=EE) p42 rfl (walk42 hx h)
 ·exact h.elim
noncomputable def T98:List (Nat×Spec1):=(98,S46)::T42
theorem g98:Abs.Good EE T98:=g42.cons det_S46 fun vs G Q h=>by
 unfold S46 at h;split at h
 ·obtain⟨a,b,hL,h⟩:=h;exact g42.ret (E:=EE) p98 rfl (walk98 hL h)
 ·exact h.elim
noncomputable def T54:List (Nat×Spec1):=(54,S30)::T98
theorem g54:Abs.Good EE T54:=g98.cons det_S30 fun vs G Q h=>by
 unfold S30 at h;split at h
 ·obtain⟨a,b,hx,h⟩:=h;exact g98.ret (E:=EE) p54 rfl (walk54 rfl hx h)
 ·exact h.elim
noncomputable def T24:List (Nat×Spec1):=(24,SVat)::T54
theorem g24:Abs.Good EE T24:=g54.cons det_SVat fun vs G Q h=>by
 unfold SVat at h;split at h
 ·obtain⟨n,hx,h⟩:=h;exact g54.ret (E:=EE) p24 rfl (walk24 rfl rfl hx h)
 ·exact h.elim
noncomputable def T85:List (Nat×Spec1):=(85,SWi)::T24
theorem g85:Abs.Good EE T85:=g24.cons det_SWi fun vs G Q h=>by
 unfold SWi at h;split at h
 ·exact g24.ret (E:=EE) p85 rfl (walk85 h)
 ·exact h.elim
noncomputable def T43:List (Nat×Spec1):=(43,SBc)::T85
theorem g43:Abs.Good EE T43:=g85.cons det_SBc fun vs G Q h=>by
 unfold SBc at h;split at h
 ·exact g85.ret (E:=EE) p43 rfl (walk43 rfl h.1 h.2)
 ·exact h.elim
noncomputable def T133:List (Nat×Spec1):=(133,SSt)::T43
theorem g133:Abs.Good EE T133:=g43.cons det_SSt fun vs G Q h=>by
 unfold SSt at h;split at h
 ·exact g43.ret (E:=EE) p133 rfl (walk133 h)
 ·exact h.elim
noncomputable def T139:List (Nat×Spec1):=(139,SEn)::T133
theorem g139:Abs.Good EE T139:=g133.cons det_SEn fun vs G Q h=>by
 unfold SEn at h;split at h
 ·rename_i n;obtain⟨k,rfl⟩:∃k:Nat,n=k:=⟨n.toNat,by omega⟩;rw[Int.toNat_natCast]at h;exact g133.ret (E:=EE) p139 rfl (walk139 (n:=k) (by omega) h.2)
 ·exact h.elim
noncomputable def T134:List (Nat×Spec1):=(134,SFi)::T139
theorem g134:Abs.Good EE T134:=g139.cons det_SFi fun vs G Q h=>by
 unfold SFi at h;split at h
 ·obtain⟨b,⟨hx,hb⟩,h⟩:=h;exact g139.ret (E:=EE) p134 rfl (walk134 rfl hx hb h)
 ·exact h.elim
noncomputable def T145:List (Nat×Spec1):=(145,SRl)::T134
theorem g145:Abs.Good EE T145:=g134.cons det_SRl fun vs G Q h=>by
 unfold SRl at h;split at h
 ·exact g134.ret (E:=EE) p145 rfl (walk145 h.1.1 h.1.2 h.2)
 ·exact h.elim
noncomputable def T141:List (Nat×Spec1):=(141,SRo)::T145
theorem g141:Abs.Good EE T141:=g145.cons det_SRo fun vs G Q h=>by
 unfold SRo at h;split at h
 ·exact g145.ret (E:=EE) p141 rfl (walk141 rfl h.1.1 h.1.2 h.2)
 ·exact h.elim
noncomputable def T140:List (Nat×Spec1):=(140,SSc)::T141
theorem g140:Abs.Good EE T140:=g141.cons det_SSc fun vs G Q h=>by
 unfold SSc at h;split at h
 ·exact g141.ret (E:=EE) p140 rfl (walk140 rfl h.1.1 h.1.2 h.2)
 ·exact h.elim
noncomputable def T135:List (Nat×Spec1):=(135,STu K256)::T140
theorem g135:Abs.Good EE T135:=g140.cons det_STu_K256 fun vs G Q h=>by
 unfold STu at h;split at h
 ·exact g140.ret (E:=EE) p135 rfl (walk135 rfl rfl rfl h.1.1.1 h.1.1.2 h.1.2.1 h.1.2.2 h.2)
 ·exact h.elim
noncomputable def T123:List (Nat×Spec1):=(123,SOf K256)::T135
theorem g123:Abs.Good EE T123:=g135.cons det_SOf_K256 fun vs G Q h=>by
 unfold SOf at h;split at h
 ·obtain⟨b,⟨hx,hxl,hby,hb⟩,h⟩:=h;exact g135.ret (E:=EE) p123 rfl (walk123 rfl rfl rfl hx hxl hby hb h)
 ·exact h.elim
noncomputable def T104:List (Nat×Spec1):=(104,SKe K256)::T123
theorem g104:Abs.Good EE T104:=g123.cons det_SKe_K256 fun vs G Q h=>by
 unfold SKe at h;split at h
 ·exact g123.ret (E:=EE) p104 rfl (walk104 rfl rfl h)
 ·exact h.elim
noncomputable def T126:List (Nat×Spec1):=(126,SGr)::T104
theorem g126:Abs.Good EE T126:=g104.cons det_SGr fun vs G Q h=>by
 unfold SGr at h;split at h
 ·exact g104.ret (E:=EE) p126 rfl (walk126 h.1 h.2)
 ·exact h.elim
noncomputable def T106:List (Nat×Spec1):=(106,SCc)::T126
theorem g106:Abs.Good EE T106:=g126.cons det_SCc fun vs G Q h=>by
 unfold SCc at h;split at h
 ·obtain⟨b,⟨hc,hne,hl,hpl⟩,h⟩:=h;exact g126.ret (E:=EE) p106 rfl (walk106 rfl hc hne hl hpl h)
 ·exact h.elim
noncomputable def T124:List (Nat×Spec1):=(124,SBl K256)::T106
theorem g124:Abs.Good EE T124:=g106.cons det_SBl_K256 fun vs G Q h=>by
 unfold SBl at h;split at h
 ·obtain⟨b,⟨hx,hby,hb⟩,h⟩:=h;exact g106.ret (E:=EE) p124 rfl (walk124 rfl hx hby hb h)
 ·exact h.elim
noncomputable def T125:List (Nat×Spec1):=(125,STd)::T124
theorem g125:Abs.Good EE T125:=g124.cons det_STd fun vs G Q h=>by
 unfold STd at h;split at h
 ·exact g124.ret (E:=EE) p125 rfl (walk125 h.1 h.2)
 ·exact h.elim
noncomputable def T105:List (Nat×Spec1):=(105,SMa K256)::T125
theorem g105:Abs.Good EE T105:=g125.cons det_SMa_K256 fun vs G Q h=>by
 unfold SMa at h;split at h
 ·obtain⟨b,c,r,⟨h1,h2,h3,h4,h5,h6,h7,h8⟩,h⟩:=h;exact g125.ret (E:=EE) p105 rfl (walk105 rfl rfl rfl rfl h1 h2 h3 h4 h5 h6 h7 h8 h)
 ·exact h.elim
noncomputable def T62:List (Nat×Spec1):=(62,STa K256)::T105
theorem g62:Abs.Good EE T62:=g105.cons det_STa_K256 fun vs G Q h=>by
 unfold STa at h;split at h
 ·obtain⟨c,r,⟨h1,h2,h3,h4,h5,h6⟩,h⟩:=h;exact g105.ret (E:=EE) p62 rfl (walk62 rfl rfl rfl rfl h1 h2 h3 h4 h5 h6 h)
 ·exact h.elim
noncomputable def T50:List (Nat×Spec1):=(50,SCl)::T62
theorem g50:Abs.Good EE T50:=g62.cons det_SCl fun vs G Q h=>by
 unfold SCl at h;split at h
 ·obtain⟨b,⟨hx,hb⟩,h⟩:=h;exact Ret.res .u8 (Ret.args (vs':=[.sli .u8 b]) rfl (wk_1 (byV_wk hx)) (g62.ret (E:=EE) p50 rfl (walk50 hb h)))
 ·exact h.elim
noncomputable def T87:List (Nat×Spec1):=(87,SHa)::T50
theorem g87:Abs.Good EE T87:=g50.cons det_SHa fun vs G Q h=>by
 unfold SHa at h;split at h
 ·obtain⟨b,⟨hx,hb,hl⟩,h⟩:=h;exact Ret.args (vs':=[.sli .u8 b,_]) rfl (wk_1 (byV_wk hx)) (g50.ret (E:=EE) p87 rfl (walk87 rfl hb hl h))
 ·exact h.elim
noncomputable def T107:List (Nat×Spec1):=(107,SNu)::T87
theorem g107:Abs.Good EE T107:=g87.cons det_SNu fun vs G Q h=>by
 unfold SNu at h;split at h
 ·obtain⟨b,⟨hx,hb,hn⟩,h⟩:=h;exact Ret.args (vs':=[.sli .u8 b,_]) rfl (wk_1 (byV_wk hx)) (g87.ret (E:=EE) p107 rfl (walk107 rfl hb hn h))
 ·exact h.elim
noncomputable def T86:List (Nat×Spec1):=(86,SBt)::T107
theorem g86:Abs.Good EE T86:=g107.cons det_SBt fun vs G Q h=>by
 unfold SBt at h;split at h
 ·exact g107.ret (E:=EE) p86 rfl (walk86 rfl rfl h.1.1 h.1.2.1 h.1.2.2 h.2)
 ·exact h.elim
noncomputable def T44:List (Nat×Spec1):=(44,SBp K256)::T86
theorem g44:Abs.Good EE T44:=g86.cons det_SBp_K256 fun vs G Q h=>by
 unfold SBp at h;split at h
 ·exact g86.ret (E:=EE) p44 rfl (walk44 rfl rfl rfl rfl rfl rfl h.1 h.2)
 ·exact h.elim
noncomputable def T46:List (Nat×Spec1):=(46,SSt2)::T44
theorem g46:Abs.Good EE T46:=g44.cons det_SSt2 fun vs G Q h=>by
 unfold SSt2 at h;split at h
 ·obtain⟨s,⟨hs,hg⟩,h⟩:=h;exact g44.ret (E:=EE) p46 rfl (walk246 hs hg h)
 ·exact h.elim
noncomputable def T45:List (Nat×Spec1):=(45,SWr2)::T46
theorem g45:Abs.Good EE T45:=g46.cons det_SWr2 fun vs G Q h=>by
 unfold SWr2 at h;split at h
 ·obtain⟨s,⟨hs,hg,hk⟩,h⟩:=h;exact g46.ret (E:=EE) p45 rfl (walk245 rfl hs hg hk h)
 ·exact h.elim
noncomputable def T88:List (Nat×Spec1):=(88,S45)::T45
theorem g88:Abs.Good EE T88:=g45.cons det_S45 fun vs G Q h=>by
 unfold S45 at h;split at h
 ·obtain⟨a,b,hL,h⟩:=h;exact g45.ret (E:=EE) p88 rfl (walk88 hL h)
 ·exact h.elim
noncomputable def T47:List (Nat×Spec1):=(47,S28)::T88
theorem g47:Abs.Good EE T47:=g88.cons det_S28 fun vs G Q h=>by
 unfold S28 at h;split at h
 ·obtain⟨a,b,⟨hx,ha⟩,h⟩:=h;exact g88.ret (E:=EE) p47 rfl (walk47 rfl rfl hx ha h)
 ·exact h.elim
noncomputable def T15:List (Nat×Spec1):=(15,SKp3 K256)::T47
theorem g15:Abs.Good EE T15:=g47.cons det_SKp3_K256 fun vs G Q h=>by
 unfold SKp3 at h;split at h
 ·obtain⟨s,⟨hs,hg,hw⟩,h⟩:=h;exact g47.ret (E:=EE) p15 rfl (walk315 rfl rfl rfl rfl rfl rfl rfl hs hg hw h)
 ·exact h.elim
noncomputable def T111:List (Nat×Spec1):=(111,SSa)::T15
theorem g111:Abs.Good EE T111:=g15.cons det_SSa fun vs G Q h=>by
 unfold SSa at h;split at h
 ·exact g15.ret (E:=EE) p111 rfl (walk111 h.1.1.1 h.1.2.1 h.1.1.2 h.1.2.2 h.2)
 ·exact h.elim
noncomputable def T68:List (Nat×Spec1):=(68,SCh K256)::T111
theorem g68:Abs.Good EE T68:=g111.cons det_SCh_K256 fun vs G Q h=>by
 unfold SCh at h;split at h
 ·obtain⟨c,r,⟨⟨h1,h2,h3⟩,h4,h5,h6,h7,h8⟩,h⟩:=h;exact g111.ret (E:=EE) p68 rfl (walk68 rfl rfl rfl h1 ⟨h2,h3⟩ h4 h5 h6 h7 h8 h)
 ·exact h.elim
noncomputable def T90:List (Nat×Spec1):=(90,SRd)::T68
theorem g90:Abs.Good EE T90:=g68.cons det_SRd fun vs G Q h=>by
 unfold SRd at h;split at h
 ·obtain⟨b,⟨hx,hl⟩,h⟩:=h;exact Ret.args (vs':=[.sli .u8 b]) rfl (wk_1 (byV_wk hx)) (g68.ret (E:=EE) p90 rfl (walk90 rfl hl h))
 ·exact h.elim
noncomputable def T117:List (Nat×Spec1):=(117,SOff)::T90
theorem g117:Abs.Good EE T117:=g90.cons det_SOff fun vs G Q h=>by
 unfold SOff at h;split at h
 ·obtain⟨b,w,hG,h⟩:=h;exact g90.ret (E:=EE) p117 rfl (walk117 hG h)
 ·exact h.elim
noncomputable def T130:List (Nat×Spec1):=(130,SNb)::T117
theorem g130:Abs.Good EE T130:=g117.cons det_SNb fun vs G Q h=>by
 unfold SNb at h;split at h
 ·exact g117.ret (E:=EE) p130 rfl (walk130 h.1.1 h.1.2 h.2)
 ·exact h.elim
noncomputable def T118:List (Nat×Spec1):=(118,SNm)::T130
theorem g118:Abs.Good EE T118:=g130.cons det_SNm fun vs G Q h=>by
 unfold SNm at h;split at h
 ·obtain⟨b,w,⟨hG,hb,hl⟩,h⟩:=h;exact g130.ret (E:=EE) p118 rfl (walk118 rfl rfl hG hb hl h)
 ·exact h.elim
noncomputable def T91:List (Nat×Spec1):=(91,SUp)::T118
theorem g91:Abs.Good EE T91:=g118.cons det_SUp fun vs G Q h=>by
 unfold SUp at h;split at h
 ·obtain⟨b,w,n,r,w2,⟨hG,hb,hl,ht,e⟩,h⟩:=h;exact g118.ret (E:=EE) p91 rfl (walk91 rfl rfl hG hb hl ht (by rw[e];exact h))
 ·exact h.elim
noncomputable def T92:List (Nat×Spec1):=(92,SHs)::T91
theorem g92:Abs.Good EE T92:=g91.cons det_SHs fun vs G Q h=>by
 unfold SHs at h;split at h
 ·obtain⟨b,w,hh,r,w2,⟨hG,hb,hl,e⟩,h⟩:=h;exact g91.ret (E:=EE) p92 rfl (walk92 rfl hG hb hl (by rw[e];exact h))
 ·exact h.elim
noncomputable def T93:List (Nat×Spec1):=(93,SDn)::T92
theorem g93:Abs.Good EE T93:=g92.cons det_SDn fun vs G Q h=>by
 unfold SDn at h;split at h
 ·obtain⟨b,w,hG,h⟩:=h;exact g92.ret (E:=EE) p93 rfl (walk93 rfl hG h)
 ·exact h.elim
noncomputable def T49:List (Nat×Spec1):=(49,SBg K256)::T93
theorem g49:Abs.Good EE T49:=g93.cons det_SBg_K256 fun vs G Q h=>by
 unfold SBg at h;split at h
 ·obtain⟨b,⟨hx,hb,hl⟩,h⟩:=h;exact Ret.args (vs':=[_,.sli .u8 b]) rfl (wk_2 (byV_wk hx)) (g93.ret (E:=EE) p49 rfl (walk49 rfl rfl rfl rfl rfl rfl rfl hb hl h))
 ·exact h.elim
noncomputable def T19:List (Nat×Spec1):=(19,SLd2 K256)::T49
theorem g19:Abs.Good EE T19:=g49.cons det_SLd2_K256 fun vs G Q h=>by
 unfold SLd2 at h;split at h
 ·exact g49.ret (E:=EE) p19 rfl (walk219 rfl rfl rfl h)
 ·exact h.elim
noncomputable def T21:List (Nat×Spec1):=(21,SSw2)::T19
theorem g21:Abs.Good EE T21:=g19.cons det_SSw2 fun vs G Q h=>by
 unfold SSw2 at h;split at h
 ·exact g19.ret (E:=EE) p21 rfl (walk321 rfl rfl h)
 ·exact h.elim
noncomputable def T23:List (Nat×Spec1):=(23,SSlo2)::T21
theorem g23:Abs.Good EE T23:=g21.cons det_SSlo2 fun vs G Q h=>by
 unfold SSlo2 at h;split at h
 ·exact g21.ret (E:=EE) p23 rfl (walk323 rfl rfl h)
 ·exact h.elim
noncomputable def T10:List (Nat×Spec1):=(10,SAv)::T23
theorem g10:Abs.Good EE T10:=g23.cons det_SAv fun vs G Q h=>by
 unfold SAv at h;split at h
 ·exact g23.ret (E:=EE) p10 rfl (walk310 rfl rfl rfl rfl rfl rfl h)
 ·exact h.elim
noncomputable def T12:List (Nat×Spec1):=(12,SVn)::T10
theorem g12:Abs.Good EE T12:=g10.cons det_SVn fun vs G Q h=>by
 unfold SVn at h;split at h
 ·exact g10.ret (E:=EE) p12 rfl (walk12 h)
 ·exact h.elim
noncomputable def T17:List (Nat×Spec1):=(17,SArm2)::T12
theorem g17:Abs.Good EE T17:=g12.cons det_SArm2 fun vs G Q h=>by
 unfold SArm2 at h;split at h
 ·exact g12.ret (E:=EE) p17 rfl (walk217 rfl h)
 ·exact h.elim
noncomputable def T89:List (Nat×Spec1):=(89,SGrb)::T17
theorem g89:Abs.Good EE T89:=g17.cons det_SGrb fun vs G Q h=>by
 unfold SGrb at h;split at h
 ·obtain⟨hn,h⟩:=h;exact Ret.own (g17.ret (E:=EE) p89 rfl (walk89 hn h))
 ·exact h.elim
noncomputable def T48:List (Nat×Spec1):=(48,SCb)::T89
theorem g48:Abs.Good EE T48:=g89.cons det_SCb fun vs G Q h=>by
 unfold SCb at h;split at h
 ·obtain⟨b,⟨hy,ha,hb⟩,h⟩:=h;exact Ret.res .u8 (g89.ret (E:=EE) p48 rfl (walk48 rfl hy ha hb h))
 ·exact h.elim
noncomputable def T18:List (Nat×Spec1):=(18,SCr2)::T48
theorem g18:Abs.Good EE T18:=g48.cons det_SCr2 fun vs G Q h=>by
 unfold SCr2 at h;split at h
 ·obtain⟨s,⟨hs,hg⟩,h⟩:=h;exact g48.ret (E:=EE) p18 rfl (walk218 rfl rfl hs hg h)
 ·exact h.elim
noncomputable def T16:List (Nat×Spec1):=(16,SBm)::T18
theorem g16:Abs.Good EE T16:=g18.cons det_SBm fun vs G Q h=>by
 unfold SBm at h;split at h
 ·exact g18.ret (E:=EE) p16 rfl (walk16 h.1 h.2)
 ·exact h.elim
noncomputable def T96:List (Nat×Spec1):=(96,SBy)::T16
theorem g96:Abs.Good EE T96:=g16.cons det_SBy fun vs G Q h=>by
 unfold SBy at h;split at h
 ·exact g16.ret (E:=EE) p96 rfl (walk96 h.1 h.2)
 ·exact h.elim
noncomputable def T119:List (Nat×Spec1):=(119,SRn 10)::T96
theorem ind119:∀(k:Nat) vs G Q,SRn k vs G Q→Ret EE 119 vs G Q:=by
 intro k
 induction k with
 |zero=>
  intro vs G Q h
  unfold SRn at h;split at h
  ·exact absurd h.1.2.2.1 (by decide)
  ·exact h.elim
 |succ k ih=>
  intro vs G Q h
  have hg:=g96.cons (g:=119) (s:=SRn k) (by
   intro vs G Q h
   unfold SRn at h⊢
   split at h
   ·exact⟨_,h.2.2,fun Q' h'=>⟨h.1,h'⟩⟩
   ·exact h.elim) ih
  unfold SRn at h;split at h
  ·rename_i n
   obtain⟨⟨h1,h2,h3,h4⟩,h⟩:=h
   obtain⟨m,rfl⟩:∃m:Nat,n=m:=⟨n.toNat,by omega⟩
   rw[Int.toNat_natCast]at h h2
   exact hg.ret (E:=EE) p119 rfl (walk119 rfl h2 (by omega) h)
  ·exact h.elim
theorem g119:Abs.Good EE T119:=g96.cons det_SRn_10 fun vs G Q h=>ind119 _ vs G Q h
noncomputable def T95:List (Nat×Spec1):=(95,SBt)::T119
theorem g95:Abs.Good EE T95:=g119.cons det_SBt fun vs G Q h=>by
 unfold SBt at h;split at h
 ·exact g119.ret (E:=EE) p95 rfl (walk95 rfl rfl h.1.1 h.1.2.1 h.1.2.2 h.2)
 ·exact h.elim
noncomputable def T137:List (Nat×Spec1):=(137,SFi)::T95
theorem g137:Abs.Good EE T137:=g95.cons det_SFi fun vs G Q h=>by
 unfold SFi at h;split at h
 ·obtain⟨b,⟨hx,hb⟩,h⟩:=h;exact g95.ret (E:=EE) p137 rfl (walk137 hx hb h)
 ·exact h.elim
noncomputable def T143:List (Nat×Spec1):=(143,SRo)::T137
theorem g143:Abs.Good EE T143:=g137.cons det_SRo fun vs G Q h=>by
 unfold SRo at h;split at h
 ·exact g137.ret (E:=EE) p143 rfl (walk143 h.1.1 h.1.2 h.2)
 ·exact h.elim
noncomputable def T144:List (Nat×Spec1):=(144,SSh)::T143
theorem g144:Abs.Good EE T144:=g143.cons det_SSh fun vs G Q h=>by
 unfold SSh at h;split at h
 ·exact g143.ret (E:=EE) p144 rfl (walk144 h.1.1 h.1.2 h.2)
 ·exact h.elim
noncomputable def T138:List (Nat×Spec1):=(138,STu K256)::T144
theorem g138:Abs.Good EE T138:=g144.cons det_STu_K256 fun vs G Q h=>by
 unfold STu at h;split at h
 ·exact g144.ret (E:=EE) p138 rfl (walk138 rfl rfl rfl h.1.1.1 h.1.1.2 h.1.2.1 h.1.2.2 h.2)
 ·exact h.elim
noncomputable def T131:List (Nat×Spec1):=(131,SRf K256)::T138
theorem g131:Abs.Good EE T131:=g138.cons det_SRf_K256 fun vs G Q h=>by
 unfold SRf at h;split at h
 ·obtain⟨b,⟨hx,hby,hb⟩,h⟩:=h;exact g138.ret (E:=EE) p131 rfl (walk131 rfl rfl hx hby hb h)
 ·exact h.elim
noncomputable def T120:List (Nat×Spec1):=(120,SKe K256)::T131
theorem g120:Abs.Good EE T120:=g131.cons det_SKe_K256 fun vs G Q h=>by
 unfold SKe at h;split at h
 ·exact g131.ret (E:=EE) p120 rfl (walk120 rfl h)
 ·exact h.elim
noncomputable def T132:List (Nat×Spec1):=(132,SBl K256)::T120
theorem g132:Abs.Good EE T132:=g120.cons det_SBl_K256 fun vs G Q h=>by
 unfold SBl at h;split at h
 ·obtain⟨b,⟨hx,hby,hb⟩,h⟩:=h;exact g120.ret (E:=EE) p132 rfl (walk132 rfl hx hby hb h)
 ·exact h.elim
noncomputable def T121:List (Nat×Spec1):=(121,SMr K256)::T132
theorem g121:Abs.Good EE T121:=g132.cons det_SMr_K256 fun vs G Q h=>by
 unfold SMr at h;split at h
 ·obtain⟨b,c,⟨h1,h2,h3,h4,h5,h6⟩,h⟩:=h;exact g132.ret (E:=EE) p121 rfl (walk121 rfl rfl h1 h2 h3 h4 h5 h6 h)
 ·exact h.elim
noncomputable def T97:List (Nat×Spec1):=(97,STr K256)::T121
theorem g97:Abs.Good EE T97:=g121.cons det_STr_K256 fun vs G Q h=>by
 unfold STr at h;split at h
 ·obtain⟨c,⟨h1,h2,h3,h4⟩,h⟩:=h;exact g121.ret (E:=EE) p97 rfl (walk97 rfl rfl h1 h2 h3 h4 h)
 ·exact h.elim
noncomputable def T53:List (Nat×Spec1):=(53,SBr K256)::T97
theorem g53:Abs.Good EE T53:=g97.cons det_SBr_K256 fun vs G Q h=>by
 unfold SBr at h;split at h
 ·exact g97.ret (E:=EE) p53 rfl (walk53 rfl rfl rfl h.1.1 h.1.2.1 h.1.2.2 h.2)
 ·exact h.elim
noncomputable def T84:List (Nat×Spec1):=(84,SVs)::T53
theorem g84:Abs.Good EE T84:=g53.cons det_SVs fun vs G Q h=>by
 unfold SVs at h;split at h
 ·obtain⟨t,⟨hx,hg⟩,h⟩:=h;exact g53.ret (E:=EE) p84 rfl (walk84 hx hg h)
 ·exact h.elim
noncomputable def T38:List (Nat×Spec1):=(38,SVk K256)::T84
theorem g38:Abs.Good EE T38:=g84.cons det_SVk_K256 fun vs G Q h=>by
 unfold SVk at h;split at h
 ·obtain⟨t,⟨hx,hg,hn,hw⟩,h⟩:=h;exact g84.ret (E:=EE) p38 rfl (walk38 rfl rfl rfl hx hg hn hw h)
 ·exact h.elim
noncomputable def T41:List (Nat×Spec1):=(41,SSm)::T38
theorem g41:Abs.Good EE T41:=g38.cons det_SSm fun vs G Q h=>by
 unfold SSm at h;split at h
 ·obtain⟨a,b,⟨hx,hy,ha,hb⟩,h⟩:=h;exact Ret.args (vs':=[.sli .u8 a,.sli .u8 b]) rfl (wk_11 (byV_wk hx) (byV_wk hy)) (g38.ret (E:=EE) p41 rfl (walk41 ha hb h))
 ·exact h.elim
noncomputable def T94:List (Nat×Spec1):=(94,SRm)::T41
theorem g94:Abs.Good EE T94:=g41.cons det_SRm fun vs G Q h=>by
 unfold SRm at h;split at h
 ·obtain⟨t,r,⟨rfl,rfl,hb,hl⟩,h⟩:=h;exact g41.ret (E:=EE) p94 rfl (walk94 rfl rfl hb hl h)
 ·exact h.elim
noncomputable def T51:List (Nat×Spec1):=(51,SRu)::T94
theorem g51:Abs.Good EE T51:=g94.cons det_SRu fun vs G Q h=>by
 unfold SRu at h;split at h
 ·obtain⟨t,r,n,r2,w2,⟨rfl,rfl,hb,hl,ht,e⟩,h⟩:=h;exact g94.ret (E:=EE) p51 rfl (walk51 rfl hb hl ht (by rw[e];exact h))
 ·exact h.elim
noncomputable def T52:List (Nat×Spec1):=(52,SRh)::T51
theorem g52:Abs.Good EE T52:=g51.cons det_SRh fun vs G Q h=>by
 unfold SRh at h;split at h
 ·obtain⟨t,r,hh,r2,w2,⟨rfl,rfl,hb,hl,e⟩,h⟩:=h;exact g51.ret (E:=EE) p52 rfl (walk52 hb hl (by rw[e];exact h))
 ·exact h.elim
noncomputable def T22:List (Nat×Spec1):=(22,SBh2 K256)::T52
theorem g22:Abs.Good EE T22:=g52.cons det_SBh2_K256 fun vs G Q h=>by
 unfold SBh2 at h;split at h
 ·obtain⟨b,⟨hx,hb,hl⟩,h⟩:=h;exact Ret.args (vs':=[_,.sli .u8 b]) rfl (wk_2 (byV_wk hx)) (g52.ret (E:=EE) p22 rfl (walk22 rfl rfl rfl rfl rfl hb hl h))
 ·exact h.elim
noncomputable def T39:List (Nat×Spec1):=(39,SVl K256)::T22
theorem g39:Abs.Good EE T39:=g22.cons det_SVl_K256 fun vs G Q h=>by
 unfold SVl at h;split at h
 ·obtain⟨t,⟨hx,hg⟩,h⟩:=h;exact g22.ret (E:=EE) p39 rfl (walk39 rfl hx hg h)
 ·exact h.elim
noncomputable def T40:List (Nat×Spec1):=(40,SVc)::T39
theorem g40:Abs.Good EE T40:=g39.cons det_SVc fun vs G Q h=>by
 unfold SVc at h;split at h
 ·obtain⟨t,⟨hx,hg,hm⟩,h⟩:=h;exact Ret.low (g39.ret (E:=EE) p40 rfl (walk40 hx hg hm h))
 ·exact h.elim
noncomputable def T13:List (Nat×Spec1):=(13,SDo K256)::T40
theorem g13:Abs.Good EE T13:=g40.cons det_SDo_K256 fun vs G Q h=>by
 unfold SDo at h;split at h
 ·obtain⟨s,t,⟨hs,hg,hy,ht,r,hw,hn,hb,hbl,ho,hol⟩,h⟩:=h;exact g40.ret (E:=EE) p13 rfl (walk13 rfl rfl rfl rfl rfl rfl rfl rfl hs hg hy ht r hw hn hb hbl ho hol h)
 ·exact h.elim
noncomputable def T20:List (Nat×Spec1):=(20,SDead)::T13
theorem g20:Abs.Good EE T20:=g13.cons det_SDead fun vs G Q h=>by
 unfold SDead at h;split at h
 ·obtain⟨n,hx,h⟩:=h;exact g13.ret (E:=EE) p20 rfl (walk20 rfl hx h)
 ·exact h.elim
noncomputable def T14:List (Nat×Spec1):=(14,SLk)::T20
theorem g14:Abs.Good EE T14:=g20.cons det_SLk fun vs G Q h=>by
 unfold SLk at h;split at h
 ·obtain⟨s,t,⟨hs,hg,hy,ht,r⟩,h⟩:=h;exact g20.ret (E:=EE) p14 rfl (walk14 rfl rfl rfl rfl hs hg hy ht r h)
 ·exact h.elim
theorem law3:∀vs:List V,TyAll Tryd.prog 12 Tryd.f3.params.toList vs→Ret EE 3 vs [] (fun r _=>r= .v (.bool true)):=by
 intro vs h
 have hk5:intK Tryd.prog 5=some .u8:=by kernel_rfl
 have hkB:intK Tryd.prog 42=none:=by kernel_rfl
 have hc:Tryd.prog.cellsOf 42=40:=by kernel_rfl
 simp only[Tryd.params3,TyAll,TyV,TyL,Tryd.underlying3,Tryd.underlying22,Tryd.underlying42,Tryd.underlying40,Tryd.underlying38,Tryd.underlying29,hk5,hkB,hc]at h
 obtain⟨x,l,rfl,⟨i,rfl,ii⟩,_,_,rfl,⟨n,rfl,i_n⟩,_,_,rfl,⟨xs,rfl,hxs,hlen⟩,rfl⟩:=h
 have hA:∀e∈xs,AS2 e:=by
  intro e he
  obtain⟨_,rfl,_,_,rfl,⟨do_,rfl,ido⟩,_,_,rfl,⟨_,rfl,_,_,rfl,⟨a1,rfl,i1⟩,_,_,rfl,⟨a2,rfl,i2⟩,_,_,rfl,⟨a3,rfl,i3⟩,_,_,rfl,⟨a4,rfl,l4,i4⟩,rfl⟩,_,_,rfl,⟨n,rfl,i_n⟩,_,_,rfl,⟨m,rfl,im⟩,_,_,rfl,⟨k,rfl,ik⟩,_,_,rfl,⟨bs,rfl,ib,lb⟩,rfl⟩:=hxs e he
  exact⟨do_,a1,a2,a3,a4,n,m,k,bs,rfl,⟨wf64 i1,wf64 i2,wf64 i3,⟨fun x hx=>wf8 (i4 x hx),l4⟩⟩,⟨wf64 i_n,wf64 im⟩,fun x hx=>wf8 (ib x hx)⟩
 exact g14.ret (E:=EE) p3 rfl (walk3 rfl rfl rfl rfl rfl rfl hA (Nat.lt_of_le_of_lt hlen (by decide)) (fun _=>rfl))
theorem tabOk3:∀g x,Abs.look ([(0,.arr .u32 64 K256),(1,.arr .u32 64 K256)]:List (Nat×V)) g=some x→∃nm t e k n xs,(nm,DataW.agg (xs.map fun x=> .lit (.int k x)))∈Rows.vaultActsRow.laid∧Tryd.prog.globalNamed nm=some g∧(Tryd.prog.globals[g]?).map (·.type)=some t∧Tryd.prog.underlying t=some (.array n e)∧Tryd.prog.underlying e=some (.int k)∧Tryd.prog.cellsOf e=1∧Tryd.prog.cellsOf t=n∧x= .arr k n xs:=by
 intro g x h
 by_cases e0:g=0
 ·subst e0
  simp only[look_cons,if_pos,reduceIte,Nat.reduceEqDiff]at h
  cases h
  exact⟨"tithing/sha.constants",189,185,.u32,64,K256,by simp only[Rows.vaultActsRow,List.mem_cons];first|(left;rfl)|(right;left;rfl),by kernel_rfl,by kernel_rfl,by kernel_rfl,by kernel_rfl,by kernel_rfl,by kernel_rfl,rfl⟩
 by_cases e1:g=1
 ·subst e1
  simp only[look_cons,if_pos,reduceIte,Nat.reduceEqDiff]at h
  cases h
  exact⟨"tithing/tithingref02.constants",189,185,.u32,64,K256,by simp only[Rows.vaultActsRow,List.mem_cons];first|(left;rfl)|(right;left;rfl),by kernel_rfl,by kernel_rfl,by kernel_rfl,by kernel_rfl,by kernel_rfl,by kernel_rfl,rfl⟩
 simp only[look_cons,e0,e1,if_false,look]at h
 cases h
theorem met3 (os:Os) (args:Array Value):laidMetH Tryd.prog Rows.vaultActsRow.laid ((World.doorLaid Tryd.prog 400 os).forCall (fun _ _=>0) ⟨#[],args,[]⟩).memory:=
 laidMetH_of_parts3 (fuel:=8) (laidMet_of_run' 8 (by kernel_rfl) (by kernel_rfl)) (by kernel_rfl) (by kernel_rfl)
set_option maxRecDepth 100000 in
theorem lifted3 (os:Os) (started:os.Started) (H:Type) (enc:TypeId×Value→H):
  ReturnsInHanded {} Tryd.checked os 3 .any (fun w args=>(Rows.vaultActsSpec.pre enc Tryd.prog Tryd.f3 [] false w args∧laidMetH Tryd.prog Rows.vaultActsRow.laid w)∧sizedMet enc Tryd.prog Tryd.f3 (OpenSpec.ofChange Rows.vaultActsSpec) false w args) (Rows.vaultActsSpec.post enc Tryd.prog Tryd.f3 false true false false):=
 law_laid (C:=Tryd.checked) (fn:=Tryd.f3) (n:=12) (tab:=[(0,.arr .u32 64 K256),(1,.arr .u32 64 K256)]) (tb:=4) own started (by kernel_rfl) Tryd.func3
  (ChangeSpec.witness_shaped (enc:=enc) (C:=Tryd.checked) (os:=os) (X:=fun w _=>laidMetH Tryd.prog Rows.vaultActsRow.laid w) false (World.doorLaid Tryd.prog 400 os) #[.int .i64 0,.int .i64 0,.slice none 0 0] 8 rfl (World.shaped_of_RefB (by kernel_rfl) (by kernel_rfl)) (by kernel_rfl) (by kernel_rfl) (by kernel_rfl) (met3 os _))
  laidOut rfl rfl Tryd.underlying4 (fun H ds h=>by
   rw[Tryd.params3]at h
   match ds,h with
   |[d1,d2,d3],_=>rfl)
  (fun t ht=>by
   rw[Tryd.params3]at ht;simp at ht;rcases ht with rfl|rfl|rfl
   all_goals exact⟨by kernel_rfl,of_decide_eq_true (by kernel_rfl)⟩)
  (fun t ht=>by
   rw[Tryd.params3]at ht;simp at ht;rcases ht with rfl|rfl|rfl
   all_goals kernel_rfl)
  (fun W hL=>tabs_of_laid (by kernel_rfl) hL (tabOk3)) law3
theorem over3:Rows.vaultActsRow.holds Tryd.pinned (OpenSpec.ofChange Rows.vaultActsSpec):=
 OpenClaim.holds_of_wide 3 Tryd.f3 rfl rfl rfl rfl rfl rfl rfl ⟨rfl,rfl,rfl,rfl,rfl⟩ rfl rfl rfl rfl rfl (by kernel_rfl) Tryd.func3 (by kernel_rfl)
  (of_decide_eq_true (by kernel_rfl)) (by unfold Func.isWrapper;first|(rw[if_pos (by decide+kernel)];kernel_rfl)|(rw[if_neg (by decide+kernel)];exact⟨rfl,rfl⟩))
  (fun os started H enc _=>lifted3 os started H enc)
theorem vaultActs_holds:Rows.VaultActsCardSaid:=
 Claim7.holds_tied_plain_at .later [] [.data,.data] true (true, "c3d703041ae3eab4dd22cb90f0a7a17acaa9b161d26fb10ce2aad357cd424b18") false
  over3 (fun _ h=>by cases h) (by kernel_rfl) (fun _ h=>by cases h) vaultActs_row_tie rfl ⟨rfl,rfl⟩ (by kernel_rfl) rfl
  (fun f fn hf hfn=>by
   obtain rfl:f=3:=Option.some.inj ((show Tryd.prog.funcNamed "tithing/tithinglaw14.VaultActs" =some 3 by kernel_rfl).symm.trans hf) |>.symm
   obtain rfl:fn=Tryd.f3:=(Option.some.inj (Tryd.func3.symm.trans hfn)).symm
   exact⟨by kernel_rfl,fun j t ht=>by
    rw[Tryd.params3]at ht
    have hm:t∈[3,3,22]:=by simpa using Array.mem_of_getElem? ht
    have hall:([3,3,22].all fun u=> !Tryd.prog.wantsStandIn u)=true:=by kernel_rfl
    exact (show Tryd.prog.wantsStandIn t=false by simpa using List.all_eq_true.1 hall t hm)⟩)
  (by kernel_rfl)
#print axioms vaultActs_holds
end Go.Proofs.YtjbglbhcbenhpaaDoor.Sha
