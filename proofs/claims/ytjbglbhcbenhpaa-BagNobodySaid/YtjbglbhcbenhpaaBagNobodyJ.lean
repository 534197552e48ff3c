/- For every input BagNobody returns true and leaves its arguments as they were; no conditions. -/
import Derived.Test.YtjbglbhcbenhpaaG16
import Derived.Test.YtjbglbhcbenhpaaG3
import Derived.Test.YtjbglbhcbenhpaaG4
import Derived.Test.YtjbglbhcbenhpaaG1
import Derived.Test.YtjbglbhcbenhpaaRows
import Derived.OpenShut
import Derived.Below
namespace Go.Proofs.Ytjbglbhcbenhpaa.Sha
open Go Go.Abs Go.RowKit Go.Abs.Sha Go.Abs.Srt
set_option linter.unusedSimpArgs false
set_option linter.unusedVariables false
set_option maxRecDepth 100000
theorem p4:prepF Try.prog 4 12 [[1,2,5,6,7],[1,2,8]] [57]=some pf4:=by kernel_rfl
theorem p82:prepF Try.prog 82 7 [] []=some pf82:=by kernel_rfl
theorem p83:prepF Try.prog 83 9 [[0,6,7,8]] []=some pf83:=by kernel_rfl
theorem p59:prepF Try.prog 59 23 [] []=some pf59:=by kernel_rfl
theorem p148:prepF Try.prog 148 3 [] []=some pf148:=by kernel_rfl
theorem p11:prepF Try.prog 11 1 [] [2]=some pf11:=by kernel_rfl
theorem p69:prepF Try.prog 69 3 [] []=some pf69:=by kernel_rfl
theorem p114:prepF Try.prog 114 14 [[0,1,12,13]] []=some pf114:=by kernel_rfl
theorem p92:prepF Try.prog 92 5 [] []=some pf92:=by kernel_rfl
theorem p115:prepF Try.prog 115 14 [[0,1,12,13]] []=some pf115:=by kernel_rfl
theorem p93:prepF Try.prog 93 5 [] []=some pf93:=by kernel_rfl
theorem p116:prepF Try.prog 116 14 [[0,1,12,13]] []=some pf116:=by kernel_rfl
theorem p94:prepF Try.prog 94 5 [] []=some pf94:=by kernel_rfl
theorem p70:prepF Try.prog 70 5 [] []=some pf70:=by kernel_rfl
theorem p71:prepF Try.prog 71 13 [] []=some pf71:=by kernel_rfl
theorem p118:prepF Try.prog 118 3 [] []=some pf118:=by kernel_rfl
theorem p97:prepF Try.prog 97 5 [] []=some pf97:=by kernel_rfl
theorem p117:prepF Try.prog 117 4 [] []=some pf117:=by kernel_rfl
theorem p120:prepF Try.prog 120 6 [[1,5]] []=some pf120:=by kernel_rfl
theorem p119:prepF Try.prog 119 16 [[0,3,13,14,15]] []=some pf119:=by kernel_rfl
theorem p95:prepF Try.prog 95 5 [] []=some pf95:=by kernel_rfl
theorem p142:prepF Try.prog 142 6 [] []=some pf142:=by kernel_rfl
theorem p143:prepF Try.prog 143 11 [[1,5,8,9,10]] []=some pf143:=by kernel_rfl
theorem p121:prepF Try.prog 121 3 [] []=some pf121:=by kernel_rfl
theorem p96:prepF Try.prog 96 58 [[0,3,23,24,25],[0,55,56,57]] []=some pf96:=by kernel_rfl
theorem p101:prepF Try.prog 101 5 [] []=some pf101:=by kernel_rfl
theorem p98:prepF Try.prog 98 31 [[0,3,18,19,20]] []=some pf98:=by kernel_rfl
theorem p144:prepF Try.prog 144 7 [] []=some pf144:=by kernel_rfl
theorem p122:prepF Try.prog 122 10 [[1,3,7,8,9]] []=some pf122:=by kernel_rfl
theorem p123:prepF Try.prog 123 29 [[0,26,27,28]] []=some pf123:=by kernel_rfl
theorem p99:prepF Try.prog 99 5 [] []=some pf99:=by kernel_rfl
theorem p145:prepF Try.prog 145 1 [] []=some pf145:=by kernel_rfl
theorem p146:prepF Try.prog 146 7 [] []=some pf146:=by kernel_rfl
theorem p165:prepF Try.prog 165 9 [[0,1,7,8]] []=some pf165:=by kernel_rfl
theorem p147:prepF Try.prog 147 5 [] []=some pf147:=by kernel_rfl
theorem p124:prepF Try.prog 124 3 [] []=some pf124:=by kernel_rfl
theorem p100:prepF Try.prog 100 42 [[1,5,27,28,29],[5,39,40,41]] []=some pf100:=by kernel_rfl
theorem p72:prepF Try.prog 72 8 [] []=some pf72:=by kernel_rfl
theorem p73:prepF Try.prog 73 5 [] []=some pf73:=by kernel_rfl
theorem p43:prepF Try.prog 43 3 [] []=some pf43:=by kernel_rfl
theorem p13:prepF Try.prog 13 20 [[0,5,17,18,19]] [41]=some pf13:=by kernel_rfl
theorem p44:prepF Try.prog 44 5 [] []=some pf44:=by kernel_rfl
theorem p45:prepF Try.prog 45 8 [] [26]=some pf45:=by kernel_rfl
theorem p14:prepF Try.prog 14 8 [] []=some pf14:=by kernel_rfl
theorem p17:prepF Try.prog 17 6 [] [33]=some pf17:=by kernel_rfl
theorem p49:prepF Try.prog 49 3 [] [5,7]=some pf49:=by kernel_rfl
theorem p20:prepF Try.prog 20 3 [] []=some pf20:=by kernel_rfl
theorem p21:prepF Try.prog 21 12 [[1,5,9,10,11]] []=some pf21:=by kernel_rfl
theorem p10:prepF Try.prog 10 6 [] []=some pf10:=by kernel_rfl
theorem p18:prepF Try.prog 18 7 [] []=some pf18:=by kernel_rfl
theorem p26:prepF Try.prog 26 3 [] []=some pf26:=by kernel_rfl
theorem p50:prepF Try.prog 50 4 [[1,3]] []=some pf50:=by kernel_rfl
theorem p22:prepF Try.prog 22 3 [] []=some pf22:=by kernel_rfl
theorem p46:prepF Try.prog 46 6 [[2,3,5]] []=some pf46:=by kernel_rfl
theorem p47:prepF Try.prog 47 6 [[2,3,5]] []=some pf47:=by kernel_rfl
theorem p48:prepF Try.prog 48 6 [[2,3,5]] []=some pf48:=by kernel_rfl
theorem p15:prepF Try.prog 15 5 [] []=some pf15:=by kernel_rfl
theorem p51:prepF Try.prog 51 3 [] []=some pf51:=by kernel_rfl
theorem p77:prepF Try.prog 77 4 [[0,3]] []=some pf77:=by kernel_rfl
theorem p55:prepF Try.prog 55 23 [] []=some pf55:=by kernel_rfl
theorem p52:prepF Try.prog 52 4 [[1,3]] []=some pf52:=by kernel_rfl
theorem p53:prepF Try.prog 53 4 [[1,3]] []=some pf53:=by kernel_rfl
theorem p74:prepF Try.prog 74 3 [] []=some pf74:=by kernel_rfl
theorem p75:prepF Try.prog 75 5 [] []=some pf75:=by kernel_rfl
theorem p76:prepF Try.prog 76 6 [[0,1,5]] []=some pf76:=by kernel_rfl
theorem p54:prepF Try.prog 54 3 [] []=some pf54:=by kernel_rfl
theorem p23:prepF Try.prog 23 33 [] []=some pf23:=by kernel_rfl
theorem det_ZWt:(ZWt).Det:=by
 intro vs G Q h;unfold ZWt at h⊢;split at h<;>first|exact h.elim|exact det00 h|exact det0 h|exact detE1 h|exact detE2 h|exact detE3 h|exact detE4 h|exact detE5 h|exact detE6 h|exact detE7 h|exact detN h|exact detA h|exact detN0 h|exact detN1 h|exact detN2 h|exact detN3 h|exact detA0 h|exact detA1 h|exact detA2 h|exact detA3 h|exact detIf h
theorem det_ZKy:(ZKy).Det:=by
 intro vs G Q h;unfold ZKy at h⊢;split at h<;>first|exact h.elim|exact det00 h|exact det0 h|exact detE1 h|exact detE2 h|exact detE3 h|exact detE4 h|exact detE5 h|exact detE6 h|exact detE7 h|exact detN h|exact detA h|exact detN0 h|exact detN1 h|exact detN2 h|exact detN3 h|exact detA0 h|exact detA1 h|exact detA2 h|exact detA3 h|exact detIf h
theorem det_ZTc:(ZTc).Det:=by
 intro vs G Q h;unfold ZTc at h⊢;split at h<;>first|exact h.elim|exact det00 h|exact det0 h|exact detE1 h|exact detE2 h|exact detE3 h|exact detE4 h|exact detE5 h|exact detE6 h|exact detE7 h|exact detN h|exact detA h|exact detN0 h|exact detN1 h|exact detN2 h|exact detN3 h|exact detA0 h|exact detA1 h|exact detA2 h|exact detA3 h|exact detIf h
theorem det_ZCf:(ZCf).Det:=by
 intro vs G Q h;unfold ZCf at h⊢;split at h<;>first|exact h.elim|exact det00 h|exact det0 h|exact detE1 h|exact detE2 h|exact detE3 h|exact detE4 h|exact detE5 h|exact detE6 h|exact detE7 h|exact detN h|exact detA h|exact detN0 h|exact detN1 h|exact detN2 h|exact detN3 h|exact detA0 h|exact detA1 h|exact detA2 h|exact detA3 h|exact detIf h
theorem det_ZNb:(ZNb).Det:=by
 intro vs G Q h;unfold ZNb at h⊢;split at h<;>first|exact h.elim|exact det00 h|exact det0 h|exact detE1 h|exact detE2 h|exact detE3 h|exact detE4 h|exact detE5 h|exact detE6 h|exact detE7 h|exact detN h|exact detA h|exact detN0 h|exact detN1 h|exact detN2 h|exact detN3 h|exact detA0 h|exact detA1 h|exact detA2 h|exact detA3 h|exact detIf h
theorem det_SNo:(SNo).Det:=by
 intro vs G Q h;unfold SNo at h⊢;split at h<;>first|exact h.elim|exact det00 h|exact det0 h|exact detE1 h|exact detE2 h|exact detE3 h|exact detE4 h|exact detE5 h|exact detE6 h|exact detE7 h|exact detN h|exact detA h|exact detN0 h|exact detN1 h|exact detN2 h|exact detN3 h|exact detA0 h|exact detA1 h|exact detA2 h|exact detA3 h|exact detIf h
theorem det_ZEs:(ZEs).Det:=by
 intro vs G Q h;unfold ZEs at h⊢;split at h<;>first|exact h.elim|exact det00 h|exact det0 h|exact detE1 h|exact detE2 h|exact detE3 h|exact detE4 h|exact detE5 h|exact detE6 h|exact detE7 h|exact detN h|exact detA h|exact detN0 h|exact detN1 h|exact detN2 h|exact detN3 h|exact detA0 h|exact detA1 h|exact detA2 h|exact detA3 h|exact detIf h
theorem det_ZSn:(ZSn).Det:=by
 intro vs G Q h;unfold ZSn at h⊢;split at h<;>first|exact h.elim|exact det00 h|exact det0 h|exact detE1 h|exact detE2 h|exact detE3 h|exact detE4 h|exact detE5 h|exact detE6 h|exact detE7 h|exact detN h|exact detA h|exact detN0 h|exact detN1 h|exact detN2 h|exact detN3 h|exact detA0 h|exact detA1 h|exact detA2 h|exact detA3 h|exact detIf h
theorem det_ZEi:(ZEi).Det:=by
 intro vs G Q h;unfold ZEi at h⊢;split at h<;>first|exact h.elim|exact det00 h|exact det0 h|exact detE1 h|exact detE2 h|exact detE3 h|exact detE4 h|exact detE5 h|exact detE6 h|exact detE7 h|exact detN h|exact detA h|exact detN0 h|exact detN1 h|exact detN2 h|exact detN3 h|exact detA0 h|exact detA1 h|exact detA2 h|exact detA3 h|exact detIf h
theorem det_ZS10:(ZS10).Det:=by
 intro vs G Q h;unfold ZS10 at h⊢;split at h<;>first|exact h.elim|exact det00 h|exact det0 h|exact detE1 h|exact detE2 h|exact detE3 h|exact detE4 h|exact detE5 h|exact detE6 h|exact detE7 h|exact detN h|exact detA h|exact detN0 h|exact detN1 h|exact detN2 h|exact detN3 h|exact detA0 h|exact detA1 h|exact detA2 h|exact detA3 h|exact detIf h
theorem det_ZEx:(ZEx).Det:=by
 intro vs G Q h;unfold ZEx at h⊢;split at h
 ·obtain⟨l1,l2,h1,h2,h3,h4⟩:=h
  exact⟨_,h4.2,fun Q' h'=>⟨l1,l2,h1,h2,h3,h'⟩⟩
 ·exact h.elim
theorem det_ZBs:(ZBs).Det:=by
 intro vs G Q h;unfold ZBs at h⊢;split at h<;>first|exact h.elim|exact det00 h|exact det0 h|exact detE1 h|exact detE2 h|exact detE3 h|exact detE4 h|exact detE5 h|exact detE6 h|exact detE7 h|exact detN h|exact detA h|exact detN0 h|exact detN1 h|exact detN2 h|exact detN3 h|exact detA0 h|exact detA1 h|exact detA2 h|exact detA3 h|exact detIf h
theorem det_ZMs:(ZMs).Det:=by
 intro vs G Q h;unfold ZMs at h⊢;split at h<;>first|exact h.elim|exact det00 h|exact det0 h|exact detE1 h|exact detE2 h|exact detE3 h|exact detE4 h|exact detE5 h|exact detE6 h|exact detE7 h|exact detN h|exact detA h|exact detN0 h|exact detN1 h|exact detN2 h|exact detN3 h|exact detA0 h|exact detA1 h|exact detA2 h|exact detA3 h|exact detIf h
theorem det_ZNm:(ZNm).Det:=by
 intro vs G Q h;unfold ZNm at h⊢;split at h<;>first|exact h.elim|exact det00 h|exact det0 h|exact detE1 h|exact detE2 h|exact detE3 h|exact detE4 h|exact detE5 h|exact detE6 h|exact detE7 h|exact detN h|exact detA h|exact detN0 h|exact detN1 h|exact detN2 h|exact detN3 h|exact detA0 h|exact detA1 h|exact detA2 h|exact detA3 h|exact detIf h
theorem det_SCl:(SCl).Det:=by
 intro vs G Q h;unfold SCl at h⊢;split at h<;>first|exact h.elim|exact det00 h|exact det0 h|exact detE1 h|exact detE2 h|exact detE3 h|exact detE4 h|exact detE5 h|exact detE6 h|exact detE7 h|exact detN h|exact detA h|exact detN0 h|exact detN1 h|exact detN2 h|exact detN3 h|exact detA0 h|exact detA1 h|exact detA2 h|exact detA3 h|exact detIf h
theorem det_SHa:(SHa).Det:=by
 intro vs G Q h;unfold SHa at h⊢;split at h<;>first|exact h.elim|exact det00 h|exact det0 h|exact detE1 h|exact detE2 h|exact detE3 h|exact detE4 h|exact detE5 h|exact detE6 h|exact detE7 h|exact detN h|exact detA h|exact detN0 h|exact detN1 h|exact detN2 h|exact detN3 h|exact detA0 h|exact detA1 h|exact detA2 h|exact detA3 h|exact detIf h
theorem det_SCk:(SCk).Det:=by
 intro vs G Q h;unfold SCk at h⊢;split at h<;>first|exact h.elim|exact det00 h|exact det0 h|exact detE1 h|exact detE2 h|exact detE3 h|exact detE4 h|exact detE5 h|exact detE6 h|exact detE7 h|exact detN h|exact detA h|exact detN0 h|exact detN1 h|exact detN2 h|exact detN3 h|exact detA0 h|exact detA1 h|exact detA2 h|exact detA3 h|exact detIf h
theorem det_SNu:(SNu).Det:=by
 intro vs G Q h;unfold SNu at h⊢;split at h<;>first|exact h.elim|exact det00 h|exact det0 h|exact detE1 h|exact detE2 h|exact detE3 h|exact detE4 h|exact detE5 h|exact detE6 h|exact detE7 h|exact detN h|exact detA h|exact detN0 h|exact detN1 h|exact detN2 h|exact detN3 h|exact detA0 h|exact detA1 h|exact detA2 h|exact detA3 h|exact detIf h
theorem det_STg:(STg).Det:=by
 intro vs G Q h;unfold STg at h⊢;split at h<;>first|exact h.elim|exact det00 h|exact det0 h|exact detE1 h|exact detE2 h|exact detE3 h|exact detE4 h|exact detE5 h|exact detE6 h|exact detE7 h|exact detN h|exact detA h|exact detN0 h|exact detN1 h|exact detN2 h|exact detN3 h|exact detA0 h|exact detA1 h|exact detA2 h|exact detA3 h|exact detIf h
theorem det_SAp:(SAp).Det:=by
 intro vs G Q h;unfold SAp at h⊢;split at h<;>first|exact h.elim|exact det00 h|exact det0 h|exact detE1 h|exact detE2 h|exact detE3 h|exact detE4 h|exact detE5 h|exact detE6 h|exact detE7 h|exact detN h|exact detA h|exact detN0 h|exact detN1 h|exact detN2 h|exact detN3 h|exact detA0 h|exact detA1 h|exact detA2 h|exact detA3 h|exact detIf h
theorem det_ZWi:(ZWi).Det:=by
 intro vs G Q h;unfold ZWi at h⊢;split at h<;>first|exact h.elim|exact det00 h|exact det0 h|exact detE1 h|exact detE2 h|exact detE3 h|exact detE4 h|exact detE5 h|exact detE6 h|exact detE7 h|exact detN h|exact detA h|exact detN0 h|exact detN1 h|exact detN2 h|exact detN3 h|exact detA0 h|exact detA1 h|exact detA2 h|exact detA3 h|exact detIf h
theorem det_ZRs:(ZRs).Det:=by
 intro vs G Q h;unfold ZRs at h⊢;split at h<;>first|exact h.elim|exact det00 h|exact det0 h|exact detE1 h|exact detE2 h|exact detE3 h|exact detE4 h|exact detE5 h|exact detE6 h|exact detE7 h|exact detN h|exact detA h|exact detN0 h|exact detN1 h|exact detN2 h|exact detN3 h|exact detA0 h|exact detA1 h|exact detA2 h|exact detA3 h|exact detIf h
theorem det_ZMc:(ZMc).Det:=by
 intro vs G Q h;unfold ZMc at h⊢;split at h<;>first|exact h.elim|exact det00 h|exact det0 h|exact detE1 h|exact detE2 h|exact detE3 h|exact detE4 h|exact detE5 h|exact detE6 h|exact detE7 h|exact detN h|exact detA h|exact detN0 h|exact detN1 h|exact detN2 h|exact detN3 h|exact detA0 h|exact detA1 h|exact detA2 h|exact detA3 h|exact detIf h
theorem det_ZPc:(ZPc).Det:=by
 intro vs G Q h;unfold ZPc at h⊢;split at h<;>first|exact h.elim|exact det00 h|exact det0 h|exact detE1 h|exact detE2 h|exact detE3 h|exact detE4 h|exact detE5 h|exact detE6 h|exact detE7 h|exact detN h|exact detA h|exact detN0 h|exact detN1 h|exact detN2 h|exact detN3 h|exact detA0 h|exact detA1 h|exact detA2 h|exact detA3 h|exact detIf h
theorem det_ZTt:(ZTt).Det:=by
 intro vs G Q h;unfold ZTt at h⊢;split at h<;>first|exact h.elim|exact det00 h|exact det0 h|exact detE1 h|exact detE2 h|exact detE3 h|exact detE4 h|exact detE5 h|exact detE6 h|exact detE7 h|exact detN h|exact detA h|exact detN0 h|exact detN1 h|exact detN2 h|exact detN3 h|exact detA0 h|exact detA1 h|exact detA2 h|exact detA3 h|exact detIf h
theorem det_ZPt:(ZPt).Det:=by
 intro vs G Q h;unfold ZPt at h⊢;split at h<;>first|exact h.elim|exact det00 h|exact det0 h|exact detE1 h|exact detE2 h|exact detE3 h|exact detE4 h|exact detE5 h|exact detE6 h|exact detE7 h|exact detN h|exact detA h|exact detN0 h|exact detN1 h|exact detN2 h|exact detN3 h|exact detA0 h|exact detA1 h|exact detA2 h|exact detA3 h|exact detIf h
theorem det_ZWn:(ZWn).Det:=by
 intro vs G Q h;unfold ZWn at h⊢;split at h<;>first|exact h.elim|exact det00 h|exact det0 h|exact detE1 h|exact detE2 h|exact detE3 h|exact detE4 h|exact detE5 h|exact detE6 h|exact detE7 h|exact detN h|exact detA h|exact detN0 h|exact detN1 h|exact detN2 h|exact detN3 h|exact detA0 h|exact detA1 h|exact detA2 h|exact detA3 h|exact detIf h
theorem det_ZMa:(ZMa).Det:=by
 intro vs G Q h;unfold ZMa at h⊢;split at h<;>first|exact h.elim|exact det00 h|exact det0 h|exact detE1 h|exact detE2 h|exact detE3 h|exact detE4 h|exact detE5 h|exact detE6 h|exact detE7 h|exact detN h|exact detA h|exact detN0 h|exact detN1 h|exact detN2 h|exact detN3 h|exact detA0 h|exact detA1 h|exact detA2 h|exact detA3 h|exact detIf h
theorem det_ZTg:(ZTg).Det:=by
 intro vs G Q h;unfold ZTg at h⊢;split at h<;>first|exact h.elim|exact det00 h|exact det0 h|exact detE1 h|exact detE2 h|exact detE3 h|exact detE4 h|exact detE5 h|exact detE6 h|exact detE7 h|exact detN h|exact detA h|exact detN0 h|exact detN1 h|exact detN2 h|exact detN3 h|exact detA0 h|exact detA1 h|exact detA2 h|exact detA3 h|exact detIf h
theorem det_ZPu:(ZPu).Det:=by
 intro vs G Q h;unfold ZPu at h⊢;split at h<;>first|exact h.elim|exact det00 h|exact det0 h|exact detE1 h|exact detE2 h|exact detE3 h|exact detE4 h|exact detE5 h|exact detE6 h|exact detE7 h|exact detN h|exact detA h|exact detN0 h|exact detN1 h|exact detN2 h|exact detN3 h|exact detA0 h|exact detA1 h|exact detA2 h|exact detA3 h|exact detIf h
theorem det_ZFb0:(ZFb0).Det:=by
 intro vs G Q h;unfold ZFb0 at h⊢;split at h<;>first|exact h.elim|exact det00 h|exact det0 h|exact detE1 h|exact detE2 h|exact detE3 h|exact detE4 h|exact detE5 h|exact detE6 h|exact detE7 h|exact detN h|exact detA h|exact detN0 h|exact detN1 h|exact detN2 h|exact detN3 h|exact detA0 h|exact detA1 h|exact detA2 h|exact detA3 h|exact detIf h
theorem det_ZIt:(ZIt).Det:=by
 intro vs G Q h;unfold ZIt at h⊢;split at h<;>first|exact h.elim|exact det00 h|exact det0 h|exact detE1 h|exact detE2 h|exact detE3 h|exact detE4 h|exact detE5 h|exact detE6 h|exact detE7 h|exact detN h|exact detA h|exact detN0 h|exact detN1 h|exact detN2 h|exact detN3 h|exact detA0 h|exact detA1 h|exact detA2 h|exact detA3 h|exact detIf h
theorem det_ZOt:(ZOt).Det:=by
 intro vs G Q h;unfold ZOt at h⊢;split at h<;>first|exact h.elim|exact det00 h|exact det0 h|exact detE1 h|exact detE2 h|exact detE3 h|exact detE4 h|exact detE5 h|exact detE6 h|exact detE7 h|exact detN h|exact detA h|exact detN0 h|exact detN1 h|exact detN2 h|exact detN3 h|exact detA0 h|exact detA1 h|exact detA2 h|exact detA3 h|exact detIf h
theorem det_ZKc:(ZKc).Det:=by
 intro vs G Q h;unfold ZKc at h⊢;split at h<;>first|exact h.elim|exact det00 h|exact det0 h|exact detE1 h|exact detE2 h|exact detE3 h|exact detE4 h|exact detE5 h|exact detE6 h|exact detE7 h|exact detN h|exact detA h|exact detN0 h|exact detN1 h|exact detN2 h|exact detN3 h|exact detA0 h|exact detA1 h|exact detA2 h|exact detA3 h|exact detIf h
theorem det_ZBp:(ZBp).Det:=by
 intro vs G Q h;unfold ZBp at h⊢;split at h<;>first|exact h.elim|exact det00 h|exact det0 h|exact detE1 h|exact detE2 h|exact detE3 h|exact detE4 h|exact detE5 h|exact detE6 h|exact detE7 h|exact detN h|exact detA h|exact detN0 h|exact detN1 h|exact detN2 h|exact detN3 h|exact detA0 h|exact detA1 h|exact detA2 h|exact detA3 h|exact detIf h
theorem det_ZBo:(ZBo).Det:=by
 intro vs G Q h;unfold ZBo at h⊢;split at h<;>first|exact h.elim|exact det00 h|exact det0 h|exact detE1 h|exact detE2 h|exact detE3 h|exact detE4 h|exact detE5 h|exact detE6 h|exact detE7 h|exact detN h|exact detA h|exact detN0 h|exact detN1 h|exact detN2 h|exact detN3 h|exact detA0 h|exact detA1 h|exact detA2 h|exact detA3 h|exact detIf h
theorem det_ZKi:(ZKi).Det:=by
 intro vs G Q h;unfold ZKi at h⊢;split at h<;>first|exact h.elim|exact det00 h|exact det0 h|exact detE1 h|exact detE2 h|exact detE3 h|exact detE4 h|exact detE5 h|exact detE6 h|exact detE7 h|exact detN h|exact detA h|exact detN0 h|exact detN1 h|exact detN2 h|exact detN3 h|exact detA0 h|exact detA1 h|exact detA2 h|exact detA3 h|exact detIf h
theorem det_ZCh:(ZCh).Det:=by
 intro vs G Q h;unfold ZCh at h⊢;split at h<;>first|exact h.elim|exact det00 h|exact det0 h|exact detE1 h|exact detE2 h|exact detE3 h|exact detE4 h|exact detE5 h|exact detE6 h|exact detE7 h|exact detN h|exact detA h|exact detN0 h|exact detN1 h|exact detN2 h|exact detN3 h|exact detA0 h|exact detA1 h|exact detA2 h|exact detA3 h|exact detIf h
theorem det_ZPb:(ZPb).Det:=detPb
theorem det_ZAt:(ZAt).Det:=by
 intro vs G Q h;unfold ZAt at h⊢;split at h<;>first|exact h.elim|exact det00 h|exact det0 h|exact detE1 h|exact detE2 h|exact detE3 h|exact detE4 h|exact detE5 h|exact detE6 h|exact detE7 h|exact detN h|exact detA h|exact detN0 h|exact detN1 h|exact detN2 h|exact detN3 h|exact detA0 h|exact detA1 h|exact detA2 h|exact detA3 h|exact detIf h
theorem det_ZDe:(ZDe).Det:=detDe
theorem det_ZTk:(ZTk).Det:=detTk
theorem det_ZCy6:(ZCy6).Det:=detCy
theorem det_ZCl6:(ZCl6).Det:=by
 intro vs G Q h;unfold ZCl6 at h⊢;split at h<;>first|exact h.elim|exact det00 h|exact det0 h|exact detE1 h|exact detE2 h|exact detE3 h|exact detE4 h|exact detE5 h|exact detE6 h|exact detE7 h|exact detN h|exact detA h|exact detN0 h|exact detN1 h|exact detN2 h|exact detN3 h|exact detA0 h|exact detA1 h|exact detA2 h|exact detA3 h|exact detIf h
theorem det_ZAl:(ZAl).Det:=by
 intro vs G Q h;unfold ZAl at h⊢;split at h<;>first|exact h.elim|exact det00 h|exact det0 h|exact detE1 h|exact detE2 h|exact detE3 h|exact detE4 h|exact detE5 h|exact detE6 h|exact detE7 h|exact detN h|exact detA h|exact detN0 h|exact detN1 h|exact detN2 h|exact detN3 h|exact detA0 h|exact detA1 h|exact detA2 h|exact detA3 h|exact detIf h
theorem det_ZTo:(ZTo).Det:=by
 intro vs G Q h;unfold ZTo at h⊢;split at h<;>first|exact h.elim|exact det00 h|exact det0 h|exact detE1 h|exact detE2 h|exact detE3 h|exact detE4 h|exact detE5 h|exact detE6 h|exact detE7 h|exact detN h|exact detA h|exact detN0 h|exact detN1 h|exact detN2 h|exact detN3 h|exact detA0 h|exact detA1 h|exact detA2 h|exact detA3 h|exact detIf h
theorem det_ZAw6:(ZAw6).Det:=by
 intro vs G Q h;unfold ZAw6 at h⊢;split at h<;>first|exact h.elim|exact det00 h|exact det0 h|exact detE1 h|exact detE2 h|exact detE3 h|exact detE4 h|exact detE5 h|exact detE6 h|exact detE7 h|exact detN h|exact detA h|exact detN0 h|exact detN1 h|exact detN2 h|exact detN3 h|exact detA0 h|exact detA1 h|exact detA2 h|exact detA3 h|exact detIf h
theorem det_ZDp:(ZDp).Det:=detDp
theorem det_ZLt:(ZLt).Det:=by
 intro vs G Q h;unfold ZLt at h⊢;split at h<;>first|exact h.elim|exact det00 h|exact det0 h|exact detE1 h|exact detE2 h|exact detE3 h|exact detE4 h|exact detE5 h|exact detE6 h|exact detE7 h|exact detN h|exact detA h|exact detN0 h|exact detN1 h|exact detN2 h|exact detN3 h|exact detA0 h|exact detA1 h|exact detA2 h|exact detA3 h|exact detIf h
theorem det_ZLb:(ZLb).Det:=by
 intro vs G Q h;unfold ZLb at h⊢;split at h<;>first|exact h.elim|exact det00 h|exact det0 h|exact detE1 h|exact detE2 h|exact detE3 h|exact detE4 h|exact detE5 h|exact detE6 h|exact detE7 h|exact detN h|exact detA h|exact detN0 h|exact detN1 h|exact detN2 h|exact detN3 h|exact detA0 h|exact detA1 h|exact detA2 h|exact detA3 h|exact detIf h
theorem det_ZLm:(ZLm).Det:=by
 intro vs G Q h;unfold ZLm at h⊢;split at h<;>first|exact h.elim|exact det00 h|exact det0 h|exact detE1 h|exact detE2 h|exact detE3 h|exact detE4 h|exact detE5 h|exact detE6 h|exact detE7 h|exact detN h|exact detA h|exact detN0 h|exact detN1 h|exact detN2 h|exact detN3 h|exact detA0 h|exact detA1 h|exact detA2 h|exact detA3 h|exact detIf h
theorem det_SMy:(SMy).Det:=by
 intro vs G Q h;unfold SMy at h⊢;split at h<;>first|exact h.elim|exact det00 h|exact det0 h|exact detE1 h|exact detE2 h|exact detE3 h|exact detE4 h|exact detE5 h|exact detE6 h|exact detE7 h|exact detN h|exact detA h|exact detN0 h|exact detN1 h|exact detN2 h|exact detN3 h|exact detA0 h|exact detA1 h|exact detA2 h|exact detA3 h|exact detIf h
theorem det_ZTm:(ZTm).Det:=by
 intro vs G Q h;unfold ZTm at h⊢;split at h<;>first|exact h.elim|exact det00 h|exact det0 h|exact detE1 h|exact detE2 h|exact detE3 h|exact detE4 h|exact detE5 h|exact detE6 h|exact detE7 h|exact detN h|exact detA h|exact detN0 h|exact detN1 h|exact detN2 h|exact detN3 h|exact detA0 h|exact detA1 h|exact detA2 h|exact detA3 h|exact detIf h
theorem det_ZKm:(ZKm).Det:=by
 intro vs G Q h;unfold ZKm at h⊢;split at h<;>first|exact h.elim|exact det00 h|exact det0 h|exact detE1 h|exact detE2 h|exact detE3 h|exact detE4 h|exact detE5 h|exact detE6 h|exact detE7 h|exact detN h|exact detA h|exact detN0 h|exact detN1 h|exact detN2 h|exact detN3 h|exact detA0 h|exact detA1 h|exact detA2 h|exact detA3 h|exact detIf h
theorem det_ZM10:(ZM10).Det:=by
 intro vs G Q h;unfold ZM10 at h⊢;split at h<;>first|exact h.elim|exact det00 h|exact det0 h|exact detE1 h|exact detE2 h|exact detE3 h|exact detE4 h|exact detE5 h|exact detE6 h|exact detE7 h|exact detN h|exact detA h|exact detN0 h|exact detN1 h|exact detN2 h|exact detN3 h|exact detA0 h|exact detA1 h|exact detA2 h|exact detA3 h|exact detIf h
theorem det_ZBa:(ZBa).Det:=by
 intro vs G Q h;unfold ZBa at h⊢;split at h<;>first|exact h.elim|exact det00 h|exact det0 h|exact detE1 h|exact detE2 h|exact detE3 h|exact detE4 h|exact detE5 h|exact detE6 h|exact detE7 h|exact detN h|exact detA h|exact detN0 h|exact detN1 h|exact detN2 h|exact detN3 h|exact detA0 h|exact detA1 h|exact detA2 h|exact detA3 h|exact detIf h
theorem det_ZWj:(ZWj).Det:=by
 intro vs G Q h;unfold ZWj at h⊢;split at h<;>first|exact h.elim|exact det00 h|exact det0 h|exact detE1 h|exact detE2 h|exact detE3 h|exact detE4 h|exact detE5 h|exact detE6 h|exact detE7 h|exact detN h|exact detA h|exact detN0 h|exact detN1 h|exact detN2 h|exact detN3 h|exact detA0 h|exact detA1 h|exact detA2 h|exact detA3 h|exact detIf h
theorem det_ZYm:(ZYm).Det:=by
 intro vs G Q h;unfold ZYm at h⊢;split at h<;>first|exact h.elim|exact det00 h|exact det0 h|exact detE1 h|exact detE2 h|exact detE3 h|exact detE4 h|exact detE5 h|exact detE6 h|exact detE7 h|exact detN h|exact detA h|exact detN0 h|exact detN1 h|exact detN2 h|exact detN3 h|exact detA0 h|exact detA1 h|exact detA2 h|exact detA3 h|exact detIf h
theorem own:ownKnob Try.prog.godebug=none:=by kernel_rfl
theorem laidOut:laidOutB Try.prog=true:=by kernel_rfl
noncomputable def EE:Env:=⟨Try.prog,[]⟩
noncomputable def T82:List (Nat×Spec1):=(82,ZWt)::[]
theorem g82:Abs.Good EE T82:=(Abs.Good.nil EE).cons det_ZWt fun vs G Q h=>by
 unfold ZWt at h;split at h
 ·exact (Abs.Good.nil EE).ret (E:=EE) p82 rfl (walk82 h)
 ·exact h.elim
noncomputable def T83:List (Nat×Spec1):=(83,ZKy)::T82
theorem g83:Abs.Good EE T83:=g82.cons det_ZKy fun vs G Q h=>by
 unfold ZKy at h;split at h
 ·obtain⟨hl,h⟩:=h;exact g82.ret (E:=EE) p83 rfl (walk83 rfl hl h)
 ·exact h.elim
noncomputable def T59:List (Nat×Spec1):=(59,ZTc)::T83
theorem g59:Abs.Good EE T59:=g83.cons det_ZTc fun vs G Q h=>by
 unfold ZTc at h;split at h
 ·obtain⟨t,⟨rfl,hk,hv⟩,h⟩:=h;exact g83.ret (E:=EE) p59 rfl (walk59 rfl rfl hk hv h)
 ·exact h.elim
noncomputable def T148:List (Nat×Spec1):=(148,ZCf)::T59
theorem g148:Abs.Good EE T148:=g59.cons det_ZCf fun vs G Q h=>by
 unfold ZCf at h;split at h
 ·obtain⟨t,⟨rfl,hk,hv⟩,h⟩:=h;exact g59.ret (E:=EE) p148 rfl (walk148 rfl hk hv h)
 ·exact h.elim
noncomputable def T11:List (Nat×Spec1):=(11,ZNb)::T148
theorem g11:Abs.Good EE T11:=g148.cons det_ZNb fun vs G Q h=>by
 unfold ZNb at h;split at h
 ·exact g148.ret (E:=EE) p11 rfl (walk11 h)
 ·exact h.elim
noncomputable def T69:List (Nat×Spec1):=(69,SNo)::T11
theorem g69:Abs.Good EE T69:=g11.cons det_SNo fun vs G Q h=>by
 unfold SNo at h;split at h
 ·exact g11.ret (E:=EE) p69 rfl (walk69 h)
 ·exact h.elim
noncomputable def T114:List (Nat×Spec1):=(114,ZEs)::T69
theorem g114:Abs.Good EE T114:=g69.cons det_ZEs fun vs G Q h=>by
 unfold ZEs at h;split at h
 ·obtain⟨sa,sb,⟨rfl,rfl,h1,h2⟩,h⟩:=h;exact g69.ret (E:=EE) p114 rfl (walk114 h1 h2 h)
 ·exact h.elim
noncomputable def T92:List (Nat×Spec1):=(92,ZSn)::T114
theorem g92:Abs.Good EE T92:=g114.cons det_ZSn fun vs G Q h=>by
 unfold ZSn at h;split at h
 ·obtain⟨a,b,⟨rfl,rfl,h1,h2⟩,h⟩:=h;exact g114.ret (E:=EE) p92 rfl (walk92 rfl h1 h2 h)
 ·exact h.elim
noncomputable def T115:List (Nat×Spec1):=(115,ZEi)::T92
theorem g115:Abs.Good EE T115:=g92.cons det_ZEi fun vs G Q h=>by
 unfold ZEi at h;split at h
 ·obtain⟨⟨h1,h2⟩,h⟩:=h;exact g92.ret (E:=EE) p115 rfl (walk115 h1 h2 h)
 ·exact h.elim
noncomputable def T93:List (Nat×Spec1):=(93,ZS10)::T115
theorem g93:Abs.Good EE T93:=g115.cons det_ZS10 fun vs G Q h=>by
 unfold ZS10 at h;split at h
 ·obtain⟨a,b,⟨rfl,rfl,h1,h2⟩,h⟩:=h;exact g115.ret (E:=EE) p93 rfl (walk93 rfl h1 h2 h)
 ·exact h.elim
noncomputable def T116:List (Nat×Spec1):=(116,ZEx)::T93
theorem g116:Abs.Good EE T116:=g93.cons det_ZEx fun vs G Q h=>by
 unfold ZEx at h;split at h
 ·obtain⟨l1,l2,hxy,hl,hl2,h⟩:=h;exact g93.ret (E:=EE) p116 rfl (walk116 hxy hl hl2 h)
 ·exact h.elim
noncomputable def T94:List (Nat×Spec1):=(94,ZBs)::T116
theorem g94:Abs.Good EE T94:=g116.cons det_ZBs fun vs G Q h=>by
 unfold ZBs at h;split at h
 ·obtain⟨a,b,x,y,⟨rfl,rfl,hr,hl,hl2⟩,h⟩:=h;exact g116.ret (E:=EE) p94 rfl (walk94 rfl hr hl hl2 h)
 ·exact h.elim
noncomputable def T70:List (Nat×Spec1):=(70,ZMs)::T94
theorem g70:Abs.Good EE T70:=g94.cons det_ZMs fun vs G Q h=>by
 unfold ZMs at h;split at h
 ·obtain⟨a,b,⟨ha,hb,sa,sb⟩,h⟩:=h;exact Ret.wkIn (vs':=[a.v,b.v]) (by unfold V.WkL;exact⟨_,_,rfl,ha,by unfold V.WkL;exact⟨_,_,rfl,hb,by unfold V.WkL;rfl⟩⟩) (WkG.refl _) (g94.ret (E:=EE) p70 rfl (walk70 rfl rfl rfl sa sb h))
 ·exact h.elim
noncomputable def T71:List (Nat×Spec1):=(71,ZNm)::T70
theorem g71:Abs.Good EE T71:=g70.cons det_ZNm fun vs G Q h=>by
 unfold ZNm at h;split at h
 ·obtain⟨m,hx,h⟩:=h;exact Ret.wkIn (vs':=[m.v]) (by unfold V.WkL;exact⟨_,_,rfl,hx,by unfold V.WkL;rfl⟩) (WkG.refl _) (Ret.low (g70.ret (E:=EE) p71 rfl (walk71 h)))
 ·exact h.elim
noncomputable def T118:List (Nat×Spec1):=(118,SCl)::T71
theorem g118:Abs.Good EE T118:=g71.cons det_SCl fun vs G Q h=>by
 unfold SCl at h;split at h
 ·obtain⟨b,⟨hx,hb⟩,h⟩:=h;exact Ret.res .u8 (Ret.args (vs':=[.sli .u8 b]) rfl (wk_1 (byV_wk hx)) (g71.ret (E:=EE) p118 rfl (walk118 hb h)))
 ·exact h.elim
noncomputable def T97:List (Nat×Spec1):=(97,SHa)::T118
theorem g97:Abs.Good EE T97:=g118.cons det_SHa fun vs G Q h=>by
 unfold SHa at h;split at h
 ·obtain⟨b,⟨hx,hb,hl⟩,h⟩:=h;exact Ret.args (vs':=[.sli .u8 b,_]) rfl (wk_1 (byV_wk hx)) (g118.ret (E:=EE) p97 rfl (walk97 rfl hb hl h))
 ·exact h.elim
noncomputable def T117:List (Nat×Spec1):=(117,SCk)::T97
theorem g117:Abs.Good EE T117:=g97.cons det_SCk fun vs G Q h=>by
 unfold SCk at h;split at h
 ·exact g97.ret (E:=EE) p117 rfl (walk117 rfl h.1 h.2)
 ·exact h.elim
noncomputable def T120:List (Nat×Spec1):=(120,SNu)::T117
theorem g120:Abs.Good EE T120:=g117.cons det_SNu fun vs G Q h=>by
 unfold SNu at h;split at h
 ·obtain⟨b,⟨hx,hb,hn⟩,h⟩:=h;exact Ret.args (vs':=[.sli .u8 b,_]) rfl (wk_1 (byV_wk hx)) (g117.ret (E:=EE) p120 rfl (walk120 rfl hb hn h))
 ·exact h.elim
noncomputable def T119:List (Nat×Spec1):=(119,STg)::T120
theorem g119:Abs.Good EE T119:=g120.cons det_STg fun vs G Q h=>by
 unfold STg at h;split at h
 ·obtain⟨b,⟨hx,hb,hw,hm⟩,h⟩:=h;exact Ret.args (vs':=[.sli .u8 b,_]) rfl (wk_1 (byV_wk hx)) (g120.ret (E:=EE) p119 rfl (walk119 rfl rfl hb hw hm h))
 ·exact h.elim
noncomputable def T95:List (Nat×Spec1):=(95,SAp)::T119
theorem g95:Abs.Good EE T95:=g119.cons det_SAp fun vs G Q h=>by
 unfold SAp at h;split at h
 ·obtain⟨b,⟨hx,hb,hw⟩,h⟩:=h;exact Ret.args (vs':=[.sli .u8 b,_]) rfl (wk_1 (byV_wk hx)) (g119.ret (E:=EE) p95 rfl (walk95 rfl rfl rfl rfl rfl hb hw h))
 ·exact h.elim
noncomputable def T142:List (Nat×Spec1):=(142,ZWi)::T95
theorem g142:Abs.Good EE T142:=g95.cons det_ZWi fun vs G Q h=>by
 unfold ZWi at h;split at h
 ·obtain⟨a,s,p,⟨rfl,hs,hs2,rfl⟩,h⟩:=h;exact g95.ret (E:=EE) p142 rfl (walk142 hs hs2 h)
 ·exact h.elim
noncomputable def T143:List (Nat×Spec1):=(143,ZRs)::T142
theorem g143:Abs.Good EE T143:=g142.cons det_ZRs fun vs G Q h=>by
 unfold ZRs at h;split at h
 ·obtain⟨sg,⟨rfl,hl⟩,h⟩:=h;exact g142.ret (E:=EE) p143 rfl (walk143 hl h)
 ·exact g142.ret (E:=EE) p143 rfl (walk143n h)
 ·obtain⟨sg,LL,⟨rfl,hl,hG,hLL,hfl,hsz⟩,h⟩:=h;exact g142.ret (E:=EE) p143 rfl (walk143s hG hLL hfl hsz hl h)
 ·exact h.elim
noncomputable def T121:List (Nat×Spec1):=(121,ZMc)::T143
theorem g121:Abs.Good EE T121:=g143.cons det_ZMc fun vs G Q h=>by
 unfold ZMc at h;split at h
 ·obtain⟨a,x,sg,⟨rfl,hf,hw,hl⟩,h⟩:=h;exact (by
   rcases hf with rfl|⟨rfl,rfl⟩|⟨id,c,LL,rfl,hG,hLL,hfl,hsz⟩
   ·exact g143.ret (E:=EE) p121 rfl (walk121i rfl rfl rfl hw hl h)
   ·exact g143.ret (E:=EE) p121 rfl (walk121n rfl rfl rfl hw h)
   ·exact g143.ret (E:=EE) p121 rfl (walk121s hG hLL hfl hsz rfl rfl rfl hw hl h))
 ·exact h.elim
noncomputable def T96:List (Nat×Spec1):=(96,ZPc)::T121
theorem g96:Abs.Good EE T96:=g121.cons det_ZPc fun vs G Q h=>by
 unfold ZPc at h;split at h
 ·obtain⟨b,c,⟨hx,hb,rfl,hw,hl⟩,h⟩:=h;exact Ret.args (vs':=[.sli .u8 b,_]) rfl (wk_1 (byV_wk hx)) (g121.ret (E:=EE) p96 rfl (walk96 rfl rfl rfl rfl hb hw hl h))
 ·exact h.elim
noncomputable def T101:List (Nat×Spec1):=(101,ZTt)::T96
theorem g101:Abs.Good EE T101:=g96.cons det_ZTt fun vs G Q h=>by
 unfold ZTt at h;split at h
 ·obtain⟨b,⟨hx,hb,ht⟩,h⟩:=h;exact g96.ret (E:=EE) p101 rfl (walk101 rfl hx hb ht h)
 ·exact h.elim
noncomputable def T98:List (Nat×Spec1):=(98,ZPt)::T101
theorem g98:Abs.Good EE T98:=g101.cons det_ZPt fun vs G Q h=>by
 unfold ZPt at h;split at h
 ·obtain⟨b,t,⟨hx,hb,rfl,hk,hv⟩,h⟩:=h;exact g101.ret (E:=EE) p98 rfl (walk98 rfl rfl rfl rfl hx hb hk hv h)
 ·exact h.elim
noncomputable def T144:List (Nat×Spec1):=(144,ZWn)::T98
theorem g144:Abs.Good EE T144:=g98.cons det_ZWn fun vs G Q h=>by
 unfold ZWn at h;split at h
 ·exact g98.ret (E:=EE) p144 rfl (walk144 h)
 ·exact h.elim
noncomputable def T122:List (Nat×Spec1):=(122,ZMa)::T144
theorem g122:Abs.Good EE T122:=g144.cons det_ZMa fun vs G Q h=>by
 unfold ZMa at h;split at h
 ·obtain⟨fr,⟨hf,hw,hl⟩,h⟩:=h;exact (by
   rcases hf with rfl|⟨rfl,rfl⟩|⟨id,c,LL,rfl,hG,hLL,hfl,hsz⟩
   ·exact g144.ret (E:=EE) p122 rfl (walk122i rfl rfl hl hw h)
   ·exact g144.ret (E:=EE) p122 rfl (walk122n rfl rfl hl hw h)
   ·exact g144.ret (E:=EE) p122 rfl (walk122s hG hLL hfl hsz rfl rfl hl hw h))
 ·exact h.elim
noncomputable def T123:List (Nat×Spec1):=(123,ZTg)::T122
theorem g123:Abs.Good EE T123:=g122.cons det_ZTg fun vs G Q h=>by
 unfold ZTg at h;split at h
 ·obtain⟨bb,fr,⟨hx,hb,hf,hw,hm⟩,h⟩:=h;exact (by
   rcases hf with rfl|⟨rfl,rfl⟩|⟨id,c,LL,rfl,hG,hLL,hfl,hsz⟩
   ·exact Ret.args (vs':=[.sli .u8 bb,_]) rfl (wk_1 (byV_wk hx)) (g122.ret (E:=EE) p123 rfl (walk123i rfl rfl hb hw hm h))
   ·exact absurd rfl hm.2.2.2.1
   ·exact Ret.args (vs':=[.sli .u8 bb,_]) rfl (wk_1 (byV_wk hx)) (g122.ret (E:=EE) p123 rfl (walk123s hG hLL hfl hsz rfl rfl hb hw hm h)))
 ·exact h.elim
noncomputable def T99:List (Nat×Spec1):=(99,ZPu)::T123
theorem g99:Abs.Good EE T99:=g123.cons det_ZPu fun vs G Q h=>by
 unfold ZPu at h;split at h
 ·obtain⟨b,a,⟨hx,hb,rfl,hw,hl⟩,h⟩:=h;exact Ret.args (vs':=[.sli .u8 b,_]) rfl (wk_1 (byV_wk hx)) (g123.ret (E:=EE) p99 rfl (walk99 rfl rfl rfl rfl rfl hb hw hl h))
 ·exact h.elim
noncomputable def T145:List (Nat×Spec1):=(145,ZFb0)::T99
theorem g145:Abs.Good EE T145:=g99.cons det_ZFb0 fun vs G Q h=>by
 unfold ZFb0 at h;split at h
 ·exact g99.ret (E:=EE) p145 rfl (walk145 h)
 ·exact h.elim
noncomputable def T146:List (Nat×Spec1):=(146,ZWt)::T145
theorem g146:Abs.Good EE T146:=g145.cons det_ZWt fun vs G Q h=>by
 unfold ZWt at h;split at h
 ·exact g145.ret (E:=EE) p146 rfl (walk146 h)
 ·exact h.elim
noncomputable def T165:List (Nat×Spec1):=(165,ZIt)::T146
theorem g165:Abs.Good EE T165:=g146.cons det_ZIt fun vs G Q h=>by
 unfold ZIt at h;split at h
 ·obtain⟨ts,⟨hx,hs⟩,h⟩:=h;exact g146.ret (E:=EE) p165 rfl (walk165 rfl (by kernel_rfl) hx hs h)
 ·exact h.elim
noncomputable def T147:List (Nat×Spec1):=(147,ZOt)::T165
theorem g147:Abs.Good EE T147:=g165.cons det_ZOt fun vs G Q h=>by
 unfold ZOt at h;split at h
 ·obtain⟨ts,⟨hx,hs⟩,h⟩:=h;exact g165.ret (E:=EE) p147 rfl (walk147 rfl hx hs h)
 ·exact h.elim
noncomputable def T124:List (Nat×Spec1):=(124,ZKc)::T147
theorem g124:Abs.Good EE T124:=g147.cons det_ZKc fun vs G Q h=>by
 unfold ZKc at h;split at h
 ·obtain⟨b,x,⟨rfl,hx,hs⟩,h⟩:=h;exact g147.ret (E:=EE) p124 rfl (walk124 rfl rfl rfl rfl hx hs h)
 ·exact h.elim
noncomputable def T100:List (Nat×Spec1):=(100,ZBp)::T124
theorem g100:Abs.Good EE T100:=g124.cons det_ZBp fun vs G Q h=>by
 unfold ZBp at h;split at h
 ·obtain⟨b,x,⟨rfl,hx,hs,hh⟩,h⟩:=h;exact g124.ret (E:=EE) p100 rfl (walk100 rfl rfl rfl rfl hx hs hh h)
 ·exact h.elim
noncomputable def T72:List (Nat×Spec1):=(72,ZBo)::T100
theorem g72:Abs.Good EE T72:=g100.cons det_ZBo fun vs G Q h=>by
 unfold ZBo at h;split at h
 ·obtain⟨m,⟨hx,ok⟩,h⟩:=h;exact Ret.wkIn (vs':=[m.v]) (by unfold V.WkL;exact⟨_,_,rfl,hx,by unfold V.WkL;rfl⟩) (WkG.refl _) (Ret.low (g100.ret (E:=EE) p72 rfl (walk72 rfl rfl rfl rfl rfl rfl rfl ok h)))
 ·exact h.elim
noncomputable def T73:List (Nat×Spec1):=(73,ZKi)::T72
theorem g73:Abs.Good EE T73:=g72.cons det_ZKi fun vs G Q h=>by
 unfold ZKi at h;split at h
 ·obtain⟨m,hx,h⟩:=h;exact Ret.wkIn (vs':=[m.v]) (by unfold V.WkL;exact⟨_,_,rfl,hx,by unfold V.WkL;rfl⟩) (WkG.refl _) (g72.ret (E:=EE) p73 rfl (walk73 h))
 ·exact h.elim
noncomputable def T43:List (Nat×Spec1):=(43,ZCh)::T73
theorem g43:Abs.Good EE T43:=g73.cons det_ZCh fun vs G Q h=>by
 unfold ZCh at h;split at h
 ·obtain⟨m,⟨hx,ok⟩,h⟩:=h;exact Ret.wkIn (vs':=[m.v]) (by unfold V.WkL;exact⟨_,_,rfl,hx,by unfold V.WkL;rfl⟩) (WkG.refl _) (g73.ret (E:=EE) p43 rfl (walk43 rfl rfl rfl rfl rfl ok h))
 ·exact h.elim
noncomputable def T13:List (Nat×Spec1):=(13,ZPb)::T43
theorem g13:Abs.Good EE T13:=g43.cons det_ZPb fun vs G Q h=>by
 unfold ZPb at h;split at h
 ·exact g43.ret (E:=EE) p13 rfl (walk13n h)
 ·obtain⟨l2,b,ms,⟨hB,hy,hok,hl,hl4⟩,h⟩:=h;exact Ret.wkIn (vs':=[_,.sle 349 (ms.map MsgS.v)]) (by unfold V.WkL;exact⟨_,_,rfl,V.Wk.refl _,by unfold V.WkL;exact⟨_,_,rfl,hy,by unfold V.WkL;rfl⟩⟩) (WkG.refl _) (g43.ret (E:=EE) p13 rfl (walk13 rfl hB hok hl hl4 h))
 ·exact h.elim
noncomputable def T44:List (Nat×Spec1):=(44,ZAt)::T13
theorem g44:Abs.Good EE T44:=g13.cons det_ZAt fun vs G Q h=>by
 unfold ZAt at h;split at h
 ·exact g13.ret (E:=EE) p44 rfl (walk44n h)
 ·obtain⟨l2,b,hB,h⟩:=h;exact g13.ret (E:=EE) p44 rfl (walk44 hB h)
 ·exact h.elim
noncomputable def T45:List (Nat×Spec1):=(45,ZDe)::T44
theorem g45:Abs.Good EE T45:=g44.cons det_ZDe fun vs G Q h=>by
 unfold ZDe at h;split at h
 ·obtain⟨G0,l2,k,⟨hR,rfl,rfl,hk,hl⟩,h⟩:=h;exact g44.ret (E:=EE) p45 rfl (walk45 hR hk hl h)
 ·exact h.elim
noncomputable def T14:List (Nat×Spec1):=(14,ZTk)::T45
theorem g14:Abs.Good EE T14:=g45.cons det_ZTk fun vs G Q h=>by
 unfold ZTk at h;split at h
 ·exact Ret.low (g45.ret (E:=EE) p14 rfl (walk14n rfl h))
 ·obtain⟨l2,b,⟨hB,hl⟩,h⟩:=h;exact Ret.low (g45.ret (E:=EE) p14 rfl (walk14 rfl rfl hB hl h))
 ·exact h.elim
noncomputable def T17:List (Nat×Spec1):=(17,ZCy6)::T14
theorem g17:Abs.Good EE T17:=g14.cons det_ZCy6 fun vs G Q h=>by
 unfold ZCy6 at h;split at h
 ·exact g14.ret (E:=EE) p17 rfl (walk17n rfl h)
 ·obtain⟨l2,b,⟨hB,hl⟩,h⟩:=h;exact g14.ret (E:=EE) p17 rfl (walk17 rfl hB hl h)
 ·exact h.elim
noncomputable def T49:List (Nat×Spec1):=(49,ZCl6)::T17
theorem g49:Abs.Good EE T49:=g17.cons det_ZCl6 fun vs G Q h=>by
 unfold ZCl6 at h;split at h
 ·obtain⟨G0,l2,⟨hR,hl⟩,h⟩:=h;exact Ret.low (g17.ret (E:=EE) p49 rfl (walk49 hR hl h))
 ·exact h.elim
noncomputable def T20:List (Nat×Spec1):=(20,ZAl)::T49
theorem g20:Abs.Good EE T20:=g49.cons det_ZAl fun vs G Q h=>by
 unfold ZAl at h;split at h
 ·exact Ret.low (g49.ret (E:=EE) p20 rfl (walk20n h))
 ·obtain⟨l2,b,⟨hB,hl⟩,h⟩:=h;exact Ret.low (g49.ret (E:=EE) p20 rfl (walk20 rfl hB hl h))
 ·exact h.elim
noncomputable def T21:List (Nat×Spec1):=(21,ZTo)::T20
theorem g21:Abs.Good EE T21:=g20.cons det_ZTo fun vs G Q h=>by
 unfold ZTo at h;split at h
 ·exact Ret.low (g20.ret (E:=EE) p21 rfl (walk21n rfl h))
 ·obtain⟨l2,b,⟨hB,hl⟩,h⟩:=h;exact Ret.low (g20.ret (E:=EE) p21 rfl (walk21 rfl hB hl h))
 ·exact h.elim
noncomputable def T10:List (Nat×Spec1):=(10,ZAw6)::T21
theorem g10:Abs.Good EE T10:=g21.cons det_ZAw6 fun vs G Q h=>by
 unfold ZAw6 at h;split at h
 ·exact g21.ret (E:=EE) p10 rfl (walk10 rfl rfl rfl rfl rfl rfl h)
 ·exact h.elim
noncomputable def T18:List (Nat×Spec1):=(18,ZDp)::T10
theorem g18:Abs.Good EE T18:=g10.cons det_ZDp fun vs G Q h=>by
 unfold ZDp at h;split at h
 ·exact g10.ret (E:=EE) p18 rfl (walk18n rfl h)
 ·obtain⟨l2,b,⟨hB,hl⟩,h⟩:=h;exact g10.ret (E:=EE) p18 rfl (walk18 rfl hB hl h)
 ·exact h.elim
noncomputable def T26:List (Nat×Spec1):=(26,ZLt)::T18
theorem g26:Abs.Good EE T26:=g18.cons det_ZLt fun vs G Q h=>by
 unfold ZLt at h;split at h
 ·obtain⟨t,rfl,h⟩:=h;exact g18.ret (E:=EE) p26 rfl (walk26 h)
 ·exact h.elim
noncomputable def T50:List (Nat×Spec1):=(50,ZLb)::T26
theorem g50:Abs.Good EE T50:=g26.cons det_ZLb fun vs G Q h=>by
 unfold ZLb at h;split at h
 ·obtain⟨b,rfl,h⟩:=h;exact g26.ret (E:=EE) p50 rfl (walk50 rfl h)
 ·exact h.elim
noncomputable def T22:List (Nat×Spec1):=(22,ZLm)::T50
theorem g22:Abs.Good EE T22:=g50.cons det_ZLm fun vs G Q h=>by
 unfold ZLm at h;split at h
 ·obtain⟨m,hx,h⟩:=h;exact Ret.wkIn (vs':=[m.v]) (by unfold V.WkL;exact⟨_,_,rfl,hx,by unfold V.WkL;rfl⟩) (WkG.refl _) (g50.ret (E:=EE) p22 rfl (walk22 rfl rfl h))
 ·exact h.elim
noncomputable def T46:List (Nat×Spec1):=(46,ZSn)::T22
theorem g46:Abs.Good EE T46:=g22.cons det_ZSn fun vs G Q h=>by
 unfold ZSn at h;split at h
 ·obtain⟨a,b,⟨rfl,rfl,h1,h2⟩,h⟩:=h;exact g22.ret (E:=EE) p46 rfl (walk46g h1 h2 h)
 ·exact h.elim
noncomputable def T47:List (Nat×Spec1):=(47,ZS10)::T46
theorem g47:Abs.Good EE T47:=g46.cons det_ZS10 fun vs G Q h=>by
 unfold ZS10 at h;split at h
 ·obtain⟨a,b,⟨rfl,rfl,h1,h2⟩,h⟩:=h;exact g46.ret (E:=EE) p47 rfl (walk47 h1 h2 h)
 ·exact h.elim
noncomputable def T48:List (Nat×Spec1):=(48,ZBs)::T47
theorem g48:Abs.Good EE T48:=g47.cons det_ZBs fun vs G Q h=>by
 unfold ZBs at h;split at h
 ·obtain⟨a,b,x,y,⟨rfl,rfl,hr,hl,hl2⟩,h⟩:=h;exact g47.ret (E:=EE) p48 rfl (walk48 hr hl hl2 h)
 ·exact h.elim
noncomputable def T15:List (Nat×Spec1):=(15,ZMs)::T48
theorem g15:Abs.Good EE T15:=g48.cons det_ZMs fun vs G Q h=>by
 unfold ZMs at h;split at h
 ·obtain⟨a,b,⟨ha,hb,sa,sb⟩,h⟩:=h;exact Ret.wkIn (vs':=[a.v,b.v]) (by unfold V.WkL;exact⟨_,_,rfl,ha,by unfold V.WkL;exact⟨_,_,rfl,hb,by unfold V.WkL;rfl⟩⟩) (WkG.refl _) (g48.ret (E:=EE) p15 rfl (walk15 rfl rfl rfl sa sb h))
 ·exact h.elim
noncomputable def T51:List (Nat×Spec1):=(51,SMy)::T15
theorem g51:Abs.Good EE T51:=g15.cons det_SMy fun vs G Q h=>by
 unfold SMy at h;split at h
 ·exact g15.ret (E:=EE) p51 rfl (walk51 h.1 h.2)
 ·exact h.elim
noncomputable def T77:List (Nat×Spec1):=(77,ZKy)::T51
theorem g77:Abs.Good EE T77:=g51.cons det_ZKy fun vs G Q h=>by
 unfold ZKy at h;split at h
 ·obtain⟨hl,h⟩:=h;exact g51.ret (E:=EE) p77 rfl (walk77 hl h)
 ·exact h.elim
noncomputable def T55:List (Nat×Spec1):=(55,ZTm)::T77
theorem g55:Abs.Good EE T55:=g77.cons det_ZTm fun vs G Q h=>by
 unfold ZTm at h;split at h
 ·obtain⟨t,⟨rfl,hk,hv⟩,h⟩:=h;exact g77.ret (E:=EE) p55 rfl (walk55 rfl hk hv h)
 ·exact h.elim
noncomputable def T52:List (Nat×Spec1):=(52,ZKm)::T55
theorem g52:Abs.Good EE T52:=g55.cons det_ZKm fun vs G Q h=>by
 unfold ZKm at h;split at h
 ·obtain⟨b,x,⟨rfl,hx,hs⟩,h⟩:=h;exact g55.ret (E:=EE) p52 rfl (walk52 rfl rfl hx hs h)
 ·exact h.elim
noncomputable def T53:List (Nat×Spec1):=(53,ZM10)::T52
theorem g53:Abs.Good EE T53:=g52.cons det_ZM10 fun vs G Q h=>by
 unfold ZM10 at h;split at h
 ·obtain⟨fr,⟨hf,hw,hl⟩,h⟩:=h;exact (by
   rcases hf with rfl|⟨rfl,rfl⟩|⟨id,c,LL,rfl,hG,hLL,hfl,hsz⟩
   ·exact g52.ret (E:=EE) p53 rfl (walk53i hl hw h)
   ·exact g52.ret (E:=EE) p53 rfl (walk53n hl hw h)
   ·exact g52.ret (E:=EE) p53 rfl (walk53s hG hLL hfl hsz hl hw h))
 ·exact h.elim
noncomputable def T74:List (Nat×Spec1):=(74,ZBa)::T53
theorem g74:Abs.Good EE T74:=g53.cons det_ZBa fun vs G Q h=>by
 unfold ZBa at h;split at h
 ·obtain⟨a,s,⟨rfl,hs,hs2⟩,h⟩:=h;exact g53.ret (E:=EE) p74 rfl (walk74 hs hs2 h)
 ·exact h.elim
noncomputable def T75:List (Nat×Spec1):=(75,ZWj)::T74
theorem g75:Abs.Good EE T75:=g74.cons det_ZWj fun vs G Q h=>by
 unfold ZWj at h;split at h
 ·obtain⟨a,p,⟨rfl,rfl⟩,h⟩:=h;exact g74.ret (E:=EE) p75 rfl (walk75 h)
 ·exact h.elim
noncomputable def T76:List (Nat×Spec1):=(76,ZRs)::T75
theorem g76:Abs.Good EE T76:=g75.cons det_ZRs fun vs G Q h=>by
 unfold ZRs at h;split at h
 ·obtain⟨sg,⟨rfl,hl⟩,h⟩:=h;exact g75.ret (E:=EE) p76 rfl (walk76 hl h)
 ·exact g75.ret (E:=EE) p76 rfl (walk76n h)
 ·obtain⟨sg,LL,⟨rfl,hl,hG,hLL,hfl,hsz⟩,h⟩:=h;exact g75.ret (E:=EE) p76 rfl (walk76s hG hLL hfl hsz hl h)
 ·exact h.elim
noncomputable def T54:List (Nat×Spec1):=(54,ZMc)::T76
theorem g54:Abs.Good EE T54:=g76.cons det_ZMc fun vs G Q h=>by
 unfold ZMc at h;split at h
 ·obtain⟨a,x,sg,⟨rfl,hf,hw,hl⟩,h⟩:=h;exact (by
   rcases hf with rfl|⟨rfl,rfl⟩|⟨id,c,LL,rfl,hG,hLL,hfl,hsz⟩
   ·exact g76.ret (E:=EE) p54 rfl (walk54i rfl rfl rfl rfl hw hl h)
   ·exact g76.ret (E:=EE) p54 rfl (walk54n (sg:=[]) rfl rfl rfl rfl hw hl h)
   ·exact g76.ret (E:=EE) p54 rfl (walk54s hG hLL hfl hsz rfl rfl rfl rfl hw hl h))
 ·exact h.elim
noncomputable def T23:List (Nat×Spec1):=(23,ZYm)::T54
theorem g23:Abs.Good EE T23:=g54.cons det_ZYm fun vs G Q h=>by
 unfold ZYm at h;split at h
 ·obtain⟨m,⟨hx,ok⟩,h⟩:=h;exact Ret.wkIn (vs':=[m.v]) (by unfold V.WkL;exact⟨_,_,rfl,hx,by unfold V.WkL;rfl⟩) (WkG.refl _) (g54.ret (E:=EE) p23 rfl (walk23 rfl rfl rfl rfl rfl rfl ok h))
 ·exact h.elim
theorem law4:∀vs:List V,TyAll Try.prog 12 Try.f4.params.toList vs→Ret EE 4 vs [] (fun r _=>r= .v (.bool true)):=by
 intro vs h
 simp only[Try.params4,TyAll]at h
 obtain⟨x,l,rfl,h1,_,_,rfl,h2,rfl⟩:=h
 obtain⟨m,rfl,wm⟩:=msg_of h1
 obtain⟨n,rfl,jn⟩:=int_of h2
 exact g23.ret (E:=EE) p4 rfl (walk4 rfl rfl rfl rfl rfl rfl rfl rfl rfl rfl wm (fun _=>rfl))
set_option maxRecDepth 100000 in
theorem lifted4 (os:Os) (started:os.Started) (H:Type) (enc:TypeId×Value→H):
  ReturnsInHanded {} Try.checked os 4 .any (Rows.bagNobodySpec.pre6 enc Try.prog Try.f4 Rows.bagNobodyRow.domain false) (Rows.bagNobodySpec.post enc Try.prog Try.f4 false true false false):=
 law_lifted (C:=Try.checked) (fn:=Try.f4) (n:=12) (tab:=[]) (tb:=4) own started (by kernel_rfl) Try.func4
  (ChangeSpec.witness6 (enc:=enc) (C:=Try.checked) false ⟨#[],#[.agg #[.int .i64 0,.int .i64 0,.int .i64 0,.int .i64 0,.int .i64 0,.int .i64 0,.int .i64 0,.int .u8 0,.int .u8 0,.int .u8 0,.int .u8 0,.int .u8 0,.int .u8 0,.int .u8 0,.int .u8 0,.int .u8 0,.int .u8 0,.int .u8 0,.int .u8 0,.int .u8 0,.int .u8 0,.int .u8 0,.int .u8 0,.int .u8 0,.int .u8 0,.int .u8 0,.int .u8 0,.int .u8 0,.int .u8 0,.int .u8 0,.int .u8 0,.int .u8 0,.int .u8 0,.int .u8 0,.int .u8 0,.int .u8 0,.int .u8 0,.int .u8 0,.int .u8 0,.int .i64 0,.int .u8 0,.int .u8 0,.int .u8 0,.int .u8 0,.int .u8 0,.int .u8 0,.int .u8 0,.int .u8 0,.int .u8 0,.int .u8 0,.int .u8 0,.int .u8 0,.int .u8 0,.int .u8 0,.int .u8 0,.int .u8 0,.int .u8 0,.int .u8 0,.int .u8 0,.int .u8 0,.int .u8 0,.int .u8 0,.int .u8 0,.int .u8 0,.int .u8 0,.int .u8 0,.int .u8 0,.int .u8 0,.int .u8 0,.int .u8 0,.int .u8 0,.int .u8 0,.int .u8 0,.int .u8 0,.int .u8 0,.int .u8 0,.int .u8 0,.int .u8 0,.int .u8 0,.int .u8 0,.int .u8 0,.int .u8 0,.int .u8 0,.int .u8 0,.int .u8 0,.int .u8 0,.int .u8 0,.int .u8 0,.int .u8 0,.int .u8 0,.int .u8 0,.int .u8 0,.int .u8 0,.int .u8 0,.int .u8 0,.int .u8 0,.int .u8 0,.int .u8 0,.int .u8 0,.int .u8 0,.int .u8 0,.int .u8 0,.int .u8 0,.int .u8 0,.int .i64 0,.int .i64 0,.int .i64 0,.int .i64 0,.int .u8 0,.int .u8 0,.int .u8 0,.int .u8 0,.int .u8 0,.int .u8 0,.int .u8 0,.int .u8 0,.int .u8 0,.int .u8 0,.int .u8 0,.int .u8 0,.int .u8 0,.int .u8 0,.int .u8 0,.int .u8 0,.int .u8 0,.int .u8 0,.int .u8 0,.int .u8 0,.int .u8 0,.int .u8 0,.int .u8 0,.int .u8 0,.int .u8 0,.int .u8 0,.int .u8 0,.int .u8 0,.int .u8 0,.int .u8 0,.int .u8 0,.int .u8 0,.int .i64 0,.int .u8 0,.int .u8 0,.int .u8 0,.int .u8 0,.int .u8 0,.int .u8 0,.int .u8 0,.int .u8 0,.int .u8 0,.int .u8 0,.int .u8 0,.int .u8 0,.int .u8 0,.int .u8 0,.int .u8 0,.int .u8 0,.int .u8 0,.int .u8 0,.int .u8 0,.int .u8 0,.int .u8 0,.int .u8 0,.int .u8 0,.int .u8 0,.int .u8 0,.int .u8 0,.int .u8 0,.int .u8 0,.int .u8 0,.int .u8 0,.int .u8 0,.int .u8 0,.int .u8 0,.int .u8 0,.int .u8 0,.int .u8 0,.int .u8 0,.int .u8 0,.int .u8 0,.int .u8 0,.int .u8 0,.int .u8 0,.int .u8 0,.int .u8 0,.int .u8 0,.int .u8 0,.int .u8 0,.int .u8 0,.int .u8 0,.int .u8 0,.int .u8 0,.int .u8 0,.int .u8 0,.int .u8 0,.int .u8 0,.int .u8 0,.int .u8 0,.int .u8 0,.int .u8 0,.int .u8 0,.int .u8 0,.int .u8 0,.int .u8 0,.int .u8 0,.slice none 0 0,.int .i64 0,.int .i64 0,.int .i64 0,.int .u8 0,.int .u8 0,.int .u8 0,.int .u8 0,.int .u8 0,.int .u8 0,.int .u8 0,.int .u8 0,.int .u8 0,.int .u8 0,.int .u8 0,.int .u8 0,.int .u8 0,.int .u8 0,.int .u8 0,.int .u8 0,.int .u8 0,.int .u8 0,.int .u8 0,.int .u8 0,.int .u8 0,.int .u8 0,.int .u8 0,.int .u8 0,.int .u8 0,.int .u8 0,.int .u8 0,.int .u8 0,.int .u8 0,.int .u8 0,.int .u8 0,.int .u8 0,.slice none 0 0,.int .u8 0,.int .u8 0,.int .u8 0,.int .u8 0,.int .u8 0,.int .u8 0,.int .u8 0,.int .u8 0,.int .u8 0,.int .u8 0,.int .u8 0,.int .u8 0,.int .u8 0,.int .u8 0,.int .u8 0,.int .u8 0,.int .u8 0,.int .u8 0,.int .u8 0,.int .u8 0,.int .u8 0,.int .u8 0,.int .u8 0,.int .u8 0,.int .u8 0,.int .u8 0,.int .u8 0,.int .u8 0,.int .u8 0,.int .u8 0,.int .u8 0,.int .u8 0,.int .u8 0,.int .u8 0,.int .u8 0,.int .u8 0,.int .u8 0,.int .u8 0,.int .u8 0,.int .u8 0,.int .u8 0,.int .u8 0,.int .u8 0,.int .u8 0,.int .u8 0,.int .u8 0,.int .u8 0,.int .u8 0,.int .u8 0,.int .u8 0,.int .u8 0,.int .u8 0,.int .u8 0,.int .u8 0,.int .u8 0,.int .u8 0,.int .u8 0,.int .u8 0,.int .u8 0,.int .u8 0,.int .u8 0,.int .u8 0,.int .u8 0,.int .u8 0,.int .i64 0,.int .i64 0,.int .i64 0,.slice none 0 0,.int .u8 0,.int .u8 0,.int .u8 0,.int .u8 0,.int .u8 0,.int .u8 0,.int .u8 0,.int .u8 0,.int .u8 0,.int .u8 0,.int .u8 0,.int .u8 0,.int .u8 0,.int .u8 0,.int .u8 0,.int .u8 0,.int .u8 0,.int .u8 0,.int .u8 0,.int .u8 0,.int .u8 0,.int .u8 0,.int .u8 0,.int .u8 0,.int .u8 0,.int .u8 0,.int .u8 0,.int .u8 0,.int .u8 0,.int .u8 0,.int .u8 0,.int .u8 0,.int .i64 0,.int .i64 0,.int .i64 0,.int .i64 0,.int .i64 0,.string ⟨#[]⟩,.string ⟨#[]⟩],.int .i64 0],[]⟩ 8 (by kernel_rfl) (by kernel_rfl) (by kernel_rfl) (by kernel_rfl))
  laidOut rfl rfl Try.underlying4 (fun H ds h=>by
   rw[Try.params4]at h
   match ds,h with
   |[d1,d2],_=>rfl)
  (fun t ht=>by
   rw[Try.params4]at ht;simp at ht;rcases ht with rfl|rfl
   all_goals exact⟨by kernel_rfl,of_decide_eq_true (by kernel_rfl)⟩)
  (fun t ht=>by
   rw[Try.params4]at ht;simp at ht;rcases ht with rfl|rfl
   all_goals kernel_rfl)
  (fun W g x h=>by cases h) law4
theorem over4:Rows.bagNobodyRow.holds Try.pinned (OpenSpec.ofChange Rows.bagNobodySpec):=
 OpenClaim.holds_of_wide 4 Try.f4 rfl rfl rfl rfl rfl rfl rfl ⟨rfl,rfl,rfl,rfl,rfl⟩ rfl rfl rfl rfl rfl (by kernel_rfl) Try.func4 (by kernel_rfl)
  (of_decide_eq_true (by kernel_rfl)) (by unfold Func.isWrapper;first|(rw[if_pos (by decide+kernel)];kernel_rfl)|(rw[if_neg (by decide+kernel)];exact⟨rfl,rfl⟩))
  (fun os started H enc _=>lifted4 os started H enc)
theorem bagNobody_holds:Rows.BagNobodySaid:=over4
#print axioms bagNobody_holds
end Go.Proofs.Ytjbglbhcbenhpaa.Sha
