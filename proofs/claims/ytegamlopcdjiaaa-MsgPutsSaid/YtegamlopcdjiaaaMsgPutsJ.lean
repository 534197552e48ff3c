/- For every input MsgPuts returns true and leaves its arguments as they were; no conditions. -/
import Derived.Test.YtegamlopcdjiaaaG14
import Derived.Test.YtegamlopcdjiaaaG4
import Derived.Test.YtegamlopcdjiaaaG6
import Derived.Test.YtegamlopcdjiaaaG1
import Derived.Test.YtegamlopcdjiaaaRows
import Derived.OpenShut
import Derived.Below
namespace Go.Proofs.Ytegamlopcdjiaaa.Sha
open Go Go.Abs Go.RowKit Go.Abs.Sha Go.Abs.Srt
set_option linter.unusedSimpArgs false
set_option linter.unusedVariables false
set_option maxRecDepth 100000
theorem p3:prepF Try.prog 3 10 [] []=some pf3:=by kernel_rfl
theorem p136:prepF Try.prog 136 7 [] []=some pf136:=by kernel_rfl
theorem p137:prepF Try.prog 137 9 [[0,6,7,8]] []=some pf137:=by kernel_rfl
theorem p116:prepF Try.prog 116 23 [] []=some pf116:=by kernel_rfl
theorem p142:prepF Try.prog 142 3 [] []=some pf142:=by kernel_rfl
theorem p30:prepF Try.prog 30 3 [] []=some pf30:=by kernel_rfl
theorem p29:prepF Try.prog 29 4 [[1,3]] []=some pf29:=by kernel_rfl
theorem p7:prepF Try.prog 7 3 [] []=some pf7:=by kernel_rfl
theorem p91:prepF Try.prog 91 14 [[0,1,12,13]] []=some pf91:=by kernel_rfl
theorem p41:prepF Try.prog 41 5 [] []=some pf41:=by kernel_rfl
theorem p92:prepF Try.prog 92 14 [[0,1,12,13]] []=some pf92:=by kernel_rfl
theorem p42:prepF Try.prog 42 5 [] []=some pf42:=by kernel_rfl
theorem p93:prepF Try.prog 93 14 [[0,1,12,13]] []=some pf93:=by kernel_rfl
theorem p43:prepF Try.prog 43 5 [] []=some pf43:=by kernel_rfl
theorem p12:prepF Try.prog 12 5 [] []=some pf12:=by kernel_rfl
theorem p79:prepF Try.prog 79 3 [] []=some pf79:=by kernel_rfl
theorem p31:prepF Try.prog 31 6 [[1,5]] []=some pf31:=by kernel_rfl
theorem p82:prepF Try.prog 82 5 [] []=some pf82:=by kernel_rfl
theorem p38:prepF Try.prog 38 3 [] []=some pf38:=by kernel_rfl
theorem p113:prepF Try.prog 113 4 [] []=some pf113:=by kernel_rfl
theorem p114:prepF Try.prog 114 16 [[0,3,13,14,15]] []=some pf114:=by kernel_rfl
theorem p80:prepF Try.prog 80 5 [] []=some pf80:=by kernel_rfl
theorem p134:prepF Try.prog 134 6 [] []=some pf134:=by kernel_rfl
theorem p135:prepF Try.prog 135 11 [[1,5,8,9,10]] []=some pf135:=by kernel_rfl
theorem p115:prepF Try.prog 115 3 [] []=some pf115:=by kernel_rfl
theorem p81:prepF Try.prog 81 58 [[0,3,23,24,25],[0,55,56,57]] []=some pf81:=by kernel_rfl
theorem p86:prepF Try.prog 86 5 [] []=some pf86:=by kernel_rfl
theorem p83:prepF Try.prog 83 31 [[0,3,18,19,20]] []=some pf83:=by kernel_rfl
theorem p138:prepF Try.prog 138 7 [] []=some pf138:=by kernel_rfl
theorem p117:prepF Try.prog 117 10 [[1,3,7,8,9]] []=some pf117:=by kernel_rfl
theorem p118:prepF Try.prog 118 29 [[0,26,27,28]] []=some pf118:=by kernel_rfl
theorem p84:prepF Try.prog 84 5 [] []=some pf84:=by kernel_rfl
theorem p139:prepF Try.prog 139 1 [] []=some pf139:=by kernel_rfl
theorem p140:prepF Try.prog 140 7 [] []=some pf140:=by kernel_rfl
theorem p149:prepF Try.prog 149 9 [[0,1,7,8]] []=some pf149:=by kernel_rfl
theorem p141:prepF Try.prog 141 5 [] []=some pf141:=by kernel_rfl
theorem p119:prepF Try.prog 119 3 [] []=some pf119:=by kernel_rfl
theorem p85:prepF Try.prog 85 42 [[1,5,27,28,29],[5,39,40,41]] []=some pf85:=by kernel_rfl
theorem p32:prepF Try.prog 32 8 [] []=some pf32:=by kernel_rfl
theorem p39:prepF Try.prog 39 13 [] []=some pf39:=by kernel_rfl
theorem p40:prepF Try.prog 40 5 [] []=some pf40:=by kernel_rfl
theorem p11:prepF Try.prog 11 3 [] []=some pf11:=by kernel_rfl
theorem p9:prepF Try.prog 9 6 [] []=some pf9:=by kernel_rfl
theorem p47:prepF Try.prog 47 3 [] [6]=some pf47:=by kernel_rfl
theorem p94:prepF Try.prog 94 3 [] []=some pf94:=by kernel_rfl
theorem p120:prepF Try.prog 120 7 [[0,4,5]] []=some pf120:=by kernel_rfl
theorem p95:prepF Try.prog 95 5 [] []=some pf95:=by kernel_rfl
theorem p48:prepF Try.prog 48 7 [] []=some pf48:=by kernel_rfl
theorem p98:prepF Try.prog 98 4 [] []=some pf98:=by kernel_rfl
theorem p121:prepF Try.prog 121 3 [] []=some pf121:=by kernel_rfl
theorem p96:prepF Try.prog 96 5 [] []=some pf96:=by kernel_rfl
theorem p97:prepF Try.prog 97 22 [[0,2,4,20,21]] [31,2000026,2000028]=some pf97:=by kernel_rfl
theorem p101:prepF Try.prog 101 6 [] []=some pf101:=by kernel_rfl
theorem p99:prepF Try.prog 99 14 [] [2000025,2000028]=some pf99:=by kernel_rfl
theorem p122:prepF Try.prog 122 3 [] []=some pf122:=by kernel_rfl
theorem p100:prepF Try.prog 100 22 [[2,4,5,20,21]] [35]=some pf100:=by kernel_rfl
theorem p102:prepF Try.prog 102 17 [[0,2,4,15,16]] [23,2000021]=some pf102:=by kernel_rfl
theorem p49:prepF Try.prog 49 8 [] []=some pf49:=by kernel_rfl
theorem p50:prepF Try.prog 50 5 [] []=some pf50:=by kernel_rfl
theorem p14:prepF Try.prog 14 8 [] [5]=some pf14:=by kernel_rfl
theorem p8:prepF Try.prog 8 5 [] []=some pf8:=by kernel_rfl
theorem p44:prepF Try.prog 44 6 [[2,3,5]] []=some pf44:=by kernel_rfl
theorem p45:prepF Try.prog 45 6 [[2,3,5]] []=some pf45:=by kernel_rfl
theorem p46:prepF Try.prog 46 6 [[2,3,5]] []=some pf46:=by kernel_rfl
theorem p13:prepF Try.prog 13 5 [] []=some pf13:=by kernel_rfl
theorem p33:prepF Try.prog 33 3 [] []=some pf33:=by kernel_rfl
theorem p90:prepF Try.prog 90 4 [[0,3]] []=some pf90:=by kernel_rfl
theorem p37:prepF Try.prog 37 23 [] []=some pf37:=by kernel_rfl
theorem p34:prepF Try.prog 34 4 [[1,3]] []=some pf34:=by kernel_rfl
theorem p35:prepF Try.prog 35 4 [[1,3]] []=some pf35:=by kernel_rfl
theorem p87:prepF Try.prog 87 3 [] []=some pf87:=by kernel_rfl
theorem p88:prepF Try.prog 88 5 [] []=some pf88:=by kernel_rfl
theorem p89:prepF Try.prog 89 6 [[0,1,5]] []=some pf89:=by kernel_rfl
theorem p36:prepF Try.prog 36 3 [] []=some pf36:=by kernel_rfl
theorem p10:prepF Try.prog 10 33 [] []=some pf10:=by kernel_rfl
theorem p15:prepF Try.prog 15 6 [[0,1,5]] []=some pf15:=by kernel_rfl
theorem p53:prepF Try.prog 53 5 [[1,3,4]] []=some pf53:=by kernel_rfl
theorem p104:prepF Try.prog 104 3 [] []=some pf104:=by kernel_rfl
theorem p103:prepF Try.prog 103 4 [] []=some pf103:=by kernel_rfl
theorem p51:prepF Try.prog 51 3 [] []=some pf51:=by kernel_rfl
theorem p52:prepF Try.prog 52 5 [[1,3,4]] []=some pf52:=by kernel_rfl
theorem p56:prepF Try.prog 56 3 [] []=some pf56:=by kernel_rfl
theorem p54:prepF Try.prog 54 4 [] []=some pf54:=by kernel_rfl
theorem p105:prepF Try.prog 105 5 [[1,3,4]] []=some pf105:=by kernel_rfl
theorem p55:prepF Try.prog 55 3 [] []=some pf55:=by kernel_rfl
theorem p57:prepF Try.prog 57 5 [[1,3,4]] []=some pf57:=by kernel_rfl
theorem p16:prepF Try.prog 16 16 [] []=some pf16:=by kernel_rfl
theorem det_ZWt:(ZWt).Det:=by
 intro vs G Q h;unfold ZWt at h⊢;split at h<;>first|exact h.elim|exact det00 h|exact det0 h|exact detE1 h|exact detE2 h|exact detE3 h|exact detE4 h|exact detE5 h|exact detE6 h|exact detE7 h|exact detN h|exact detA h|exact detN0 h|exact detN1 h|exact detN2 h|exact detN3 h|exact detA0 h|exact detA1 h|exact detA2 h|exact detA3 h|exact detIf h
theorem det_ZKy:(ZKy).Det:=by
 intro vs G Q h;unfold ZKy at h⊢;split at h<;>first|exact h.elim|exact det00 h|exact det0 h|exact detE1 h|exact detE2 h|exact detE3 h|exact detE4 h|exact detE5 h|exact detE6 h|exact detE7 h|exact detN h|exact detA h|exact detN0 h|exact detN1 h|exact detN2 h|exact detN3 h|exact detA0 h|exact detA1 h|exact detA2 h|exact detA3 h|exact detIf h
theorem det_ZTc:(ZTc).Det:=by
 intro vs G Q h;unfold ZTc at h⊢;split at h<;>first|exact h.elim|exact det00 h|exact det0 h|exact detE1 h|exact detE2 h|exact detE3 h|exact detE4 h|exact detE5 h|exact detE6 h|exact detE7 h|exact detN h|exact detA h|exact detN0 h|exact detN1 h|exact detN2 h|exact detN3 h|exact detA0 h|exact detA1 h|exact detA2 h|exact detA3 h|exact detIf h
theorem det_ZCf:(ZCf).Det:=by
 intro vs G Q h;unfold ZCf at h⊢;split at h<;>first|exact h.elim|exact det00 h|exact det0 h|exact detE1 h|exact detE2 h|exact detE3 h|exact detE4 h|exact detE5 h|exact detE6 h|exact detE7 h|exact detN h|exact detA h|exact detN0 h|exact detN1 h|exact detN2 h|exact detN3 h|exact detA0 h|exact detA1 h|exact detA2 h|exact detA3 h|exact detIf h
theorem det_ZLt:(ZLt).Det:=by
 intro vs G Q h;unfold ZLt at h⊢;split at h<;>first|exact h.elim|exact det00 h|exact det0 h|exact detE1 h|exact detE2 h|exact detE3 h|exact detE4 h|exact detE5 h|exact detE6 h|exact detE7 h|exact detN h|exact detA h|exact detN0 h|exact detN1 h|exact detN2 h|exact detN3 h|exact detA0 h|exact detA1 h|exact detA2 h|exact detA3 h|exact detIf h
theorem det_ZLb:(ZLb).Det:=by
 intro vs G Q h;unfold ZLb at h⊢;split at h<;>first|exact h.elim|exact det00 h|exact det0 h|exact detE1 h|exact detE2 h|exact detE3 h|exact detE4 h|exact detE5 h|exact detE6 h|exact detE7 h|exact detN h|exact detA h|exact detN0 h|exact detN1 h|exact detN2 h|exact detN3 h|exact detA0 h|exact detA1 h|exact detA2 h|exact detA3 h|exact detIf h
theorem det_ZLm:(ZLm).Det:=by
 intro vs G Q h;unfold ZLm at h⊢;split at h<;>first|exact h.elim|exact det00 h|exact det0 h|exact detE1 h|exact detE2 h|exact detE3 h|exact detE4 h|exact detE5 h|exact detE6 h|exact detE7 h|exact detN h|exact detA h|exact detN0 h|exact detN1 h|exact detN2 h|exact detN3 h|exact detA0 h|exact detA1 h|exact detA2 h|exact detA3 h|exact detIf h
theorem det_ZEs:(ZEs).Det:=by
 intro vs G Q h;unfold ZEs at h⊢;split at h<;>first|exact h.elim|exact det00 h|exact det0 h|exact detE1 h|exact detE2 h|exact detE3 h|exact detE4 h|exact detE5 h|exact detE6 h|exact detE7 h|exact detN h|exact detA h|exact detN0 h|exact detN1 h|exact detN2 h|exact detN3 h|exact detA0 h|exact detA1 h|exact detA2 h|exact detA3 h|exact detIf h
theorem det_ZSn:(ZSn).Det:=by
 intro vs G Q h;unfold ZSn at h⊢;split at h<;>first|exact h.elim|exact det00 h|exact det0 h|exact detE1 h|exact detE2 h|exact detE3 h|exact detE4 h|exact detE5 h|exact detE6 h|exact detE7 h|exact detN h|exact detA h|exact detN0 h|exact detN1 h|exact detN2 h|exact detN3 h|exact detA0 h|exact detA1 h|exact detA2 h|exact detA3 h|exact detIf h
theorem det_ZEi:(ZEi).Det:=by
 intro vs G Q h;unfold ZEi at h⊢;split at h<;>first|exact h.elim|exact det00 h|exact det0 h|exact detE1 h|exact detE2 h|exact detE3 h|exact detE4 h|exact detE5 h|exact detE6 h|exact detE7 h|exact detN h|exact detA h|exact detN0 h|exact detN1 h|exact detN2 h|exact detN3 h|exact detA0 h|exact detA1 h|exact detA2 h|exact detA3 h|exact detIf h
theorem det_ZS10:(ZS10).Det:=by
 intro vs G Q h;unfold ZS10 at h⊢;split at h<;>first|exact h.elim|exact det00 h|exact det0 h|exact detE1 h|exact detE2 h|exact detE3 h|exact detE4 h|exact detE5 h|exact detE6 h|exact detE7 h|exact detN h|exact detA h|exact detN0 h|exact detN1 h|exact detN2 h|exact detN3 h|exact detA0 h|exact detA1 h|exact detA2 h|exact detA3 h|exact detIf h
theorem det_ZEx:(ZEx).Det:=by
 intro vs G Q h;unfold ZEx at h⊢;split at h
 ·obtain⟨l1,l2,h1,h2,h3,h4⟩:=h
  exact⟨_,h4.2,fun Q' h'=>⟨l1,l2,h1,h2,h3,h'⟩⟩
 ·exact h.elim
theorem det_ZBs:(ZBs).Det:=by
 intro vs G Q h;unfold ZBs at h⊢;split at h<;>first|exact h.elim|exact det00 h|exact det0 h|exact detE1 h|exact detE2 h|exact detE3 h|exact detE4 h|exact detE5 h|exact detE6 h|exact detE7 h|exact detN h|exact detA h|exact detN0 h|exact detN1 h|exact detN2 h|exact detN3 h|exact detA0 h|exact detA1 h|exact detA2 h|exact detA3 h|exact detIf h
theorem det_ZMs:(ZMs).Det:=by
 intro vs G Q h;unfold ZMs at h⊢;split at h<;>first|exact h.elim|exact det00 h|exact det0 h|exact detE1 h|exact detE2 h|exact detE3 h|exact detE4 h|exact detE5 h|exact detE6 h|exact detE7 h|exact detN h|exact detA h|exact detN0 h|exact detN1 h|exact detN2 h|exact detN3 h|exact detA0 h|exact detA1 h|exact detA2 h|exact detA3 h|exact detIf h
theorem det_SCl:(SCl).Det:=by
 intro vs G Q h;unfold SCl at h⊢;split at h<;>first|exact h.elim|exact det00 h|exact det0 h|exact detE1 h|exact detE2 h|exact detE3 h|exact detE4 h|exact detE5 h|exact detE6 h|exact detE7 h|exact detN h|exact detA h|exact detN0 h|exact detN1 h|exact detN2 h|exact detN3 h|exact detA0 h|exact detA1 h|exact detA2 h|exact detA3 h|exact detIf h
theorem det_SNu:(SNu).Det:=by
 intro vs G Q h;unfold SNu at h⊢;split at h<;>first|exact h.elim|exact det00 h|exact det0 h|exact detE1 h|exact detE2 h|exact detE3 h|exact detE4 h|exact detE5 h|exact detE6 h|exact detE7 h|exact detN h|exact detA h|exact detN0 h|exact detN1 h|exact detN2 h|exact detN3 h|exact detA0 h|exact detA1 h|exact detA2 h|exact detA3 h|exact detIf h
theorem det_SHa:(SHa).Det:=by
 intro vs G Q h;unfold SHa at h⊢;split at h<;>first|exact h.elim|exact det00 h|exact det0 h|exact detE1 h|exact detE2 h|exact detE3 h|exact detE4 h|exact detE5 h|exact detE6 h|exact detE7 h|exact detN h|exact detA h|exact detN0 h|exact detN1 h|exact detN2 h|exact detN3 h|exact detA0 h|exact detA1 h|exact detA2 h|exact detA3 h|exact detIf h
theorem det_SNo:(SNo).Det:=by
 intro vs G Q h;unfold SNo at h⊢;split at h<;>first|exact h.elim|exact det00 h|exact det0 h|exact detE1 h|exact detE2 h|exact detE3 h|exact detE4 h|exact detE5 h|exact detE6 h|exact detE7 h|exact detN h|exact detA h|exact detN0 h|exact detN1 h|exact detN2 h|exact detN3 h|exact detA0 h|exact detA1 h|exact detA2 h|exact detA3 h|exact detIf h
theorem det_SCk:(SCk).Det:=by
 intro vs G Q h;unfold SCk at h⊢;split at h<;>first|exact h.elim|exact det00 h|exact det0 h|exact detE1 h|exact detE2 h|exact detE3 h|exact detE4 h|exact detE5 h|exact detE6 h|exact detE7 h|exact detN h|exact detA h|exact detN0 h|exact detN1 h|exact detN2 h|exact detN3 h|exact detA0 h|exact detA1 h|exact detA2 h|exact detA3 h|exact detIf h
theorem det_STg:(STg).Det:=by
 intro vs G Q h;unfold STg at h⊢;split at h<;>first|exact h.elim|exact det00 h|exact det0 h|exact detE1 h|exact detE2 h|exact detE3 h|exact detE4 h|exact detE5 h|exact detE6 h|exact detE7 h|exact detN h|exact detA h|exact detN0 h|exact detN1 h|exact detN2 h|exact detN3 h|exact detA0 h|exact detA1 h|exact detA2 h|exact detA3 h|exact detIf h
theorem det_SAp:(SAp).Det:=by
 intro vs G Q h;unfold SAp at h⊢;split at h<;>first|exact h.elim|exact det00 h|exact det0 h|exact detE1 h|exact detE2 h|exact detE3 h|exact detE4 h|exact detE5 h|exact detE6 h|exact detE7 h|exact detN h|exact detA h|exact detN0 h|exact detN1 h|exact detN2 h|exact detN3 h|exact detA0 h|exact detA1 h|exact detA2 h|exact detA3 h|exact detIf h
theorem det_ZWi:(ZWi).Det:=by
 intro vs G Q h;unfold ZWi at h⊢;split at h<;>first|exact h.elim|exact det00 h|exact det0 h|exact detE1 h|exact detE2 h|exact detE3 h|exact detE4 h|exact detE5 h|exact detE6 h|exact detE7 h|exact detN h|exact detA h|exact detN0 h|exact detN1 h|exact detN2 h|exact detN3 h|exact detA0 h|exact detA1 h|exact detA2 h|exact detA3 h|exact detIf h
theorem det_ZRs:(ZRs).Det:=by
 intro vs G Q h;unfold ZRs at h⊢;split at h<;>first|exact h.elim|exact det00 h|exact det0 h|exact detE1 h|exact detE2 h|exact detE3 h|exact detE4 h|exact detE5 h|exact detE6 h|exact detE7 h|exact detN h|exact detA h|exact detN0 h|exact detN1 h|exact detN2 h|exact detN3 h|exact detA0 h|exact detA1 h|exact detA2 h|exact detA3 h|exact detIf h
theorem det_ZMc:(ZMc).Det:=by
 intro vs G Q h;unfold ZMc at h⊢;split at h<;>first|exact h.elim|exact det00 h|exact det0 h|exact detE1 h|exact detE2 h|exact detE3 h|exact detE4 h|exact detE5 h|exact detE6 h|exact detE7 h|exact detN h|exact detA h|exact detN0 h|exact detN1 h|exact detN2 h|exact detN3 h|exact detA0 h|exact detA1 h|exact detA2 h|exact detA3 h|exact detIf h
theorem det_ZPc:(ZPc).Det:=by
 intro vs G Q h;unfold ZPc at h⊢;split at h<;>first|exact h.elim|exact det00 h|exact det0 h|exact detE1 h|exact detE2 h|exact detE3 h|exact detE4 h|exact detE5 h|exact detE6 h|exact detE7 h|exact detN h|exact detA h|exact detN0 h|exact detN1 h|exact detN2 h|exact detN3 h|exact detA0 h|exact detA1 h|exact detA2 h|exact detA3 h|exact detIf h
theorem det_ZTt:(ZTt).Det:=by
 intro vs G Q h;unfold ZTt at h⊢;split at h<;>first|exact h.elim|exact det00 h|exact det0 h|exact detE1 h|exact detE2 h|exact detE3 h|exact detE4 h|exact detE5 h|exact detE6 h|exact detE7 h|exact detN h|exact detA h|exact detN0 h|exact detN1 h|exact detN2 h|exact detN3 h|exact detA0 h|exact detA1 h|exact detA2 h|exact detA3 h|exact detIf h
theorem det_ZPt:(ZPt).Det:=by
 intro vs G Q h;unfold ZPt at h⊢;split at h<;>first|exact h.elim|exact det00 h|exact det0 h|exact detE1 h|exact detE2 h|exact detE3 h|exact detE4 h|exact detE5 h|exact detE6 h|exact detE7 h|exact detN h|exact detA h|exact detN0 h|exact detN1 h|exact detN2 h|exact detN3 h|exact detA0 h|exact detA1 h|exact detA2 h|exact detA3 h|exact detIf h
theorem det_ZWn:(ZWn).Det:=by
 intro vs G Q h;unfold ZWn at h⊢;split at h<;>first|exact h.elim|exact det00 h|exact det0 h|exact detE1 h|exact detE2 h|exact detE3 h|exact detE4 h|exact detE5 h|exact detE6 h|exact detE7 h|exact detN h|exact detA h|exact detN0 h|exact detN1 h|exact detN2 h|exact detN3 h|exact detA0 h|exact detA1 h|exact detA2 h|exact detA3 h|exact detIf h
theorem det_ZMa:(ZMa).Det:=by
 intro vs G Q h;unfold ZMa at h⊢;split at h<;>first|exact h.elim|exact det00 h|exact det0 h|exact detE1 h|exact detE2 h|exact detE3 h|exact detE4 h|exact detE5 h|exact detE6 h|exact detE7 h|exact detN h|exact detA h|exact detN0 h|exact detN1 h|exact detN2 h|exact detN3 h|exact detA0 h|exact detA1 h|exact detA2 h|exact detA3 h|exact detIf h
theorem det_ZTg:(ZTg).Det:=by
 intro vs G Q h;unfold ZTg at h⊢;split at h<;>first|exact h.elim|exact det00 h|exact det0 h|exact detE1 h|exact detE2 h|exact detE3 h|exact detE4 h|exact detE5 h|exact detE6 h|exact detE7 h|exact detN h|exact detA h|exact detN0 h|exact detN1 h|exact detN2 h|exact detN3 h|exact detA0 h|exact detA1 h|exact detA2 h|exact detA3 h|exact detIf h
theorem det_ZPu:(ZPu).Det:=by
 intro vs G Q h;unfold ZPu at h⊢;split at h<;>first|exact h.elim|exact det00 h|exact det0 h|exact detE1 h|exact detE2 h|exact detE3 h|exact detE4 h|exact detE5 h|exact detE6 h|exact detE7 h|exact detN h|exact detA h|exact detN0 h|exact detN1 h|exact detN2 h|exact detN3 h|exact detA0 h|exact detA1 h|exact detA2 h|exact detA3 h|exact detIf h
theorem det_ZFb0:(ZFb0).Det:=by
 intro vs G Q h;unfold ZFb0 at h⊢;split at h<;>first|exact h.elim|exact det00 h|exact det0 h|exact detE1 h|exact detE2 h|exact detE3 h|exact detE4 h|exact detE5 h|exact detE6 h|exact detE7 h|exact detN h|exact detA h|exact detN0 h|exact detN1 h|exact detN2 h|exact detN3 h|exact detA0 h|exact detA1 h|exact detA2 h|exact detA3 h|exact detIf h
theorem det_ZIt:(ZIt).Det:=by
 intro vs G Q h;unfold ZIt at h⊢;split at h<;>first|exact h.elim|exact det00 h|exact det0 h|exact detE1 h|exact detE2 h|exact detE3 h|exact detE4 h|exact detE5 h|exact detE6 h|exact detE7 h|exact detN h|exact detA h|exact detN0 h|exact detN1 h|exact detN2 h|exact detN3 h|exact detA0 h|exact detA1 h|exact detA2 h|exact detA3 h|exact detIf h
theorem det_ZOt:(ZOt).Det:=by
 intro vs G Q h;unfold ZOt at h⊢;split at h<;>first|exact h.elim|exact det00 h|exact det0 h|exact detE1 h|exact detE2 h|exact detE3 h|exact detE4 h|exact detE5 h|exact detE6 h|exact detE7 h|exact detN h|exact detA h|exact detN0 h|exact detN1 h|exact detN2 h|exact detN3 h|exact detA0 h|exact detA1 h|exact detA2 h|exact detA3 h|exact detIf h
theorem det_ZKc:(ZKc).Det:=by
 intro vs G Q h;unfold ZKc at h⊢;split at h<;>first|exact h.elim|exact det00 h|exact det0 h|exact detE1 h|exact detE2 h|exact detE3 h|exact detE4 h|exact detE5 h|exact detE6 h|exact detE7 h|exact detN h|exact detA h|exact detN0 h|exact detN1 h|exact detN2 h|exact detN3 h|exact detA0 h|exact detA1 h|exact detA2 h|exact detA3 h|exact detIf h
theorem det_ZBp:(ZBp).Det:=by
 intro vs G Q h;unfold ZBp at h⊢;split at h<;>first|exact h.elim|exact det00 h|exact det0 h|exact detE1 h|exact detE2 h|exact detE3 h|exact detE4 h|exact detE5 h|exact detE6 h|exact detE7 h|exact detN h|exact detA h|exact detN0 h|exact detN1 h|exact detN2 h|exact detN3 h|exact detA0 h|exact detA1 h|exact detA2 h|exact detA3 h|exact detIf h
theorem det_ZBo:(ZBo).Det:=by
 intro vs G Q h;unfold ZBo at h⊢;split at h<;>first|exact h.elim|exact det00 h|exact det0 h|exact detE1 h|exact detE2 h|exact detE3 h|exact detE4 h|exact detE5 h|exact detE6 h|exact detE7 h|exact detN h|exact detA h|exact detN0 h|exact detN1 h|exact detN2 h|exact detN3 h|exact detA0 h|exact detA1 h|exact detA2 h|exact detA3 h|exact detIf h
theorem det_ZNm:(ZNm).Det:=by
 intro vs G Q h;unfold ZNm at h⊢;split at h<;>first|exact h.elim|exact det00 h|exact det0 h|exact detE1 h|exact detE2 h|exact detE3 h|exact detE4 h|exact detE5 h|exact detE6 h|exact detE7 h|exact detN h|exact detA h|exact detN0 h|exact detN1 h|exact detN2 h|exact detN3 h|exact detA0 h|exact detA1 h|exact detA2 h|exact detA3 h|exact detIf h
theorem det_ZKi:(ZKi).Det:=by
 intro vs G Q h;unfold ZKi at h⊢;split at h<;>first|exact h.elim|exact det00 h|exact det0 h|exact detE1 h|exact detE2 h|exact detE3 h|exact detE4 h|exact detE5 h|exact detE6 h|exact detE7 h|exact detN h|exact detA h|exact detN0 h|exact detN1 h|exact detN2 h|exact detN3 h|exact detA0 h|exact detA1 h|exact detA2 h|exact detA3 h|exact detIf h
theorem det_ZCh:(ZCh).Det:=by
 intro vs G Q h;unfold ZCh at h⊢;split at h<;>first|exact h.elim|exact det00 h|exact det0 h|exact detE1 h|exact detE2 h|exact detE3 h|exact detE4 h|exact detE5 h|exact detE6 h|exact detE7 h|exact detN h|exact detA h|exact detN0 h|exact detN1 h|exact detN2 h|exact detN3 h|exact detA0 h|exact detA1 h|exact detA2 h|exact detA3 h|exact detIf h
theorem det_ZPm:(ZPm).Det:=by
 intro vs G Q h;unfold ZPm at h⊢;split at h<;>first|exact h.elim|exact det00 h|exact det0 h|exact detE1 h|exact detE2 h|exact detE3 h|exact detE4 h|exact detE5 h|exact detE6 h|exact detE7 h|exact detN h|exact detA h|exact detN0 h|exact detN1 h|exact detN2 h|exact detN3 h|exact detA0 h|exact detA1 h|exact detA2 h|exact detA3 h|exact detIf h
theorem det_SRd:(SRd).Det:=by
 intro vs G Q h;unfold SRd at h⊢;split at h<;>first|exact h.elim|exact det00 h|exact det0 h|exact detE1 h|exact detE2 h|exact detE3 h|exact detE4 h|exact detE5 h|exact detE6 h|exact detE7 h|exact detN h|exact detA h|exact detN0 h|exact detN1 h|exact detN2 h|exact detN3 h|exact detA0 h|exact detA1 h|exact detA2 h|exact detA3 h|exact detIf h
theorem det_SOff:(SOff).Det:=by
 intro vs G Q h;unfold SOff at h⊢;split at h<;>first|exact h.elim|exact det00 h|exact det0 h|exact detE1 h|exact detE2 h|exact detE3 h|exact detE4 h|exact detE5 h|exact detE6 h|exact detE7 h|exact detN h|exact detA h|exact detN0 h|exact detN1 h|exact detN2 h|exact detN3 h|exact detA0 h|exact detA1 h|exact detA2 h|exact detA3 h|exact detIf h
theorem det_SNb:(SNb).Det:=by
 intro vs G Q h;unfold SNb at h⊢;split at h<;>first|exact h.elim|exact det00 h|exact det0 h|exact detE1 h|exact detE2 h|exact detE3 h|exact detE4 h|exact detE5 h|exact detE6 h|exact detE7 h|exact detN h|exact detA h|exact detN0 h|exact detN1 h|exact detN2 h|exact detN3 h|exact detA0 h|exact detA1 h|exact detA2 h|exact detA3 h|exact detIf h
theorem det_SNm:(SNm).Det:=by
 intro vs G Q h;unfold SNm at h⊢;split at h<;>first|exact h.elim|exact det00 h|exact det0 h|exact detE1 h|exact detE2 h|exact detE3 h|exact detE4 h|exact detE5 h|exact detE6 h|exact detE7 h|exact detN h|exact detA h|exact detN0 h|exact detN1 h|exact detN2 h|exact detN3 h|exact detA0 h|exact detA1 h|exact detA2 h|exact detA3 h|exact detIf h
theorem det_SUp:(SUp).Det:=by
 intro vs G Q h;unfold SUp at h⊢;split at h<;>first|exact h.elim|exact det00 h|exact det0 h|exact detE1 h|exact detE2 h|exact detE3 h|exact detE4 h|exact detE5 h|exact detE6 h|exact detE7 h|exact detN h|exact detA h|exact detN0 h|exact detN1 h|exact detN2 h|exact detN3 h|exact detA0 h|exact detA1 h|exact detA2 h|exact detA3 h|exact detIf h
theorem det_SHs:(SHs).Det:=by
 intro vs G Q h;unfold SHs at h⊢;split at h<;>first|exact h.elim|exact det00 h|exact det0 h|exact detE1 h|exact detE2 h|exact detE3 h|exact detE4 h|exact detE5 h|exact detE6 h|exact detE7 h|exact detN h|exact detA h|exact detN0 h|exact detN1 h|exact detN2 h|exact detN3 h|exact detA0 h|exact detA1 h|exact detA2 h|exact detA3 h|exact detIf h
theorem det_SAr:(SAr).Det:=by
 intro vs G Q h;unfold SAr at h⊢;split at h<;>first|exact h.elim|exact det00 h|exact det0 h|exact detE1 h|exact detE2 h|exact detE3 h|exact detE4 h|exact detE5 h|exact detE6 h|exact detE7 h|exact detN h|exact detA h|exact detN0 h|exact detN1 h|exact detN2 h|exact detN3 h|exact detA0 h|exact detA1 h|exact detA2 h|exact detA3 h|exact detIf h
theorem det_ZRc:(ZRc).Det:=by
 intro vs G Q h;unfold ZRc at h⊢;split at h<;>first|exact h.elim|exact det00 h|exact det0 h|exact detE1 h|exact detE2 h|exact detE3 h|exact detE4 h|exact detE5 h|exact detE6 h|exact detE7 h|exact detN h|exact detA h|exact detN0 h|exact detN1 h|exact detN2 h|exact detN3 h|exact detA0 h|exact detA1 h|exact detA2 h|exact detA3 h|exact detIf h
theorem det_ZTr:(ZTr).Det:=by
 intro vs G Q h;unfold ZTr at h⊢;split at h<;>first|exact h.elim|exact det00 h|exact det0 h|exact detE1 h|exact detE2 h|exact detE3 h|exact detE4 h|exact detE5 h|exact detE6 h|exact detE7 h|exact detN h|exact detA h|exact detN0 h|exact detN1 h|exact detN2 h|exact detN3 h|exact detA0 h|exact detA1 h|exact detA2 h|exact detA3 h|exact detIf h
theorem det_ZQt:(ZQt).Det:=by
 intro vs G Q h;unfold ZQt at h⊢;split at h<;>first|exact h.elim|exact det00 h|exact det0 h|exact detE1 h|exact detE2 h|exact detE3 h|exact detE4 h|exact detE5 h|exact detE6 h|exact detE7 h|exact detN h|exact detA h|exact detN0 h|exact detN1 h|exact detN2 h|exact detN3 h|exact detA0 h|exact detA1 h|exact detA2 h|exact detA3 h|exact detIf h
theorem det_SDn:(SDn).Det:=by
 intro vs G Q h;unfold SDn at h⊢;split at h<;>first|exact h.elim|exact det00 h|exact det0 h|exact detE1 h|exact detE2 h|exact detE3 h|exact detE4 h|exact detE5 h|exact detE6 h|exact detE7 h|exact detN h|exact detA h|exact detN0 h|exact detN1 h|exact detN2 h|exact detN3 h|exact detA0 h|exact detA1 h|exact detA2 h|exact detA3 h|exact detIf h
theorem det_ZGb:(ZGb).Det:=by
 intro vs G Q h;unfold ZGb at h⊢;split at h<;>first|exact h.elim|exact det00 h|exact det0 h|exact detE1 h|exact detE2 h|exact detE3 h|exact detE4 h|exact detE5 h|exact detE6 h|exact detE7 h|exact detN h|exact detA h|exact detN0 h|exact detN1 h|exact detN2 h|exact detN3 h|exact detA0 h|exact detA1 h|exact detA2 h|exact detA3 h|exact detIf h
theorem det_ZRd:(ZRd).Det:=by
 intro vs G Q h;unfold ZRd at h⊢;split at h<;>first|exact h.elim|exact det00 h|exact det0 h|exact detE1 h|exact detE2 h|exact detE3 h|exact detE4 h|exact detE5 h|exact detE6 h|exact detE7 h|exact detN h|exact detA h|exact detN0 h|exact detN1 h|exact detN2 h|exact detN3 h|exact detA0 h|exact detA1 h|exact detA2 h|exact detA3 h|exact detIf h
theorem det_ZMr:(ZMr).Det:=by
 intro vs G Q h;unfold ZMr at h⊢;split at h
 ·obtain⟨k,f,t,b,w,m,r,w2,h1,h2⟩:=h
  exact⟨_,h2.2,fun Q' h'=>⟨k,f,t,b,w,m,r,w2,h1,by rw[h2.1];exact h'⟩⟩
 ·exact h.elim
theorem det_ZEb2:(ZEb2).Det:=by
 intro vs G Q h;unfold ZEb2 at h⊢;split at h<;>first|exact h.elim|exact det00 h|exact det0 h|exact detE1 h|exact detE2 h|exact detE3 h|exact detE4 h|exact detE5 h|exact detE6 h|exact detE7 h|exact detN h|exact detA h|exact detN0 h|exact detN1 h|exact detN2 h|exact detN3 h|exact detA0 h|exact detA1 h|exact detA2 h|exact detA3 h|exact detIf h
theorem det_ZGm:(ZGm).Det:=by
 intro vs G Q h;unfold ZGm at h⊢;split at h<;>first|exact h.elim|exact det00 h|exact det0 h|exact detE1 h|exact detE2 h|exact detE3 h|exact detE4 h|exact detE5 h|exact detE6 h|exact detE7 h|exact detN h|exact detA h|exact detN0 h|exact detN1 h|exact detN2 h|exact detN3 h|exact detA0 h|exact detA1 h|exact detA2 h|exact detA3 h|exact detIf h
theorem det_ZAwm:(ZAwm).Det:=by
 intro vs G Q h;unfold ZAwm at h⊢;split at h<;>first|exact h.elim|exact det00 h|exact det0 h|exact detE1 h|exact detE2 h|exact detE3 h|exact detE4 h|exact detE5 h|exact detE6 h|exact detE7 h|exact detN h|exact detA h|exact detN0 h|exact detN1 h|exact detN2 h|exact detN3 h|exact detA0 h|exact detA1 h|exact detA2 h|exact detA3 h|exact detIf h
theorem det_SMy:(SMy).Det:=by
 intro vs G Q h;unfold SMy at h⊢;split at h<;>first|exact h.elim|exact det00 h|exact det0 h|exact detE1 h|exact detE2 h|exact detE3 h|exact detE4 h|exact detE5 h|exact detE6 h|exact detE7 h|exact detN h|exact detA h|exact detN0 h|exact detN1 h|exact detN2 h|exact detN3 h|exact detA0 h|exact detA1 h|exact detA2 h|exact detA3 h|exact detIf h
theorem det_ZTm:(ZTm).Det:=by
 intro vs G Q h;unfold ZTm at h⊢;split at h<;>first|exact h.elim|exact det00 h|exact det0 h|exact detE1 h|exact detE2 h|exact detE3 h|exact detE4 h|exact detE5 h|exact detE6 h|exact detE7 h|exact detN h|exact detA h|exact detN0 h|exact detN1 h|exact detN2 h|exact detN3 h|exact detA0 h|exact detA1 h|exact detA2 h|exact detA3 h|exact detIf h
theorem det_ZKm:(ZKm).Det:=by
 intro vs G Q h;unfold ZKm at h⊢;split at h<;>first|exact h.elim|exact det00 h|exact det0 h|exact detE1 h|exact detE2 h|exact detE3 h|exact detE4 h|exact detE5 h|exact detE6 h|exact detE7 h|exact detN h|exact detA h|exact detN0 h|exact detN1 h|exact detN2 h|exact detN3 h|exact detA0 h|exact detA1 h|exact detA2 h|exact detA3 h|exact detIf h
theorem det_ZM10:(ZM10).Det:=by
 intro vs G Q h;unfold ZM10 at h⊢;split at h<;>first|exact h.elim|exact det00 h|exact det0 h|exact detE1 h|exact detE2 h|exact detE3 h|exact detE4 h|exact detE5 h|exact detE6 h|exact detE7 h|exact detN h|exact detA h|exact detN0 h|exact detN1 h|exact detN2 h|exact detN3 h|exact detA0 h|exact detA1 h|exact detA2 h|exact detA3 h|exact detIf h
theorem det_ZBa:(ZBa).Det:=by
 intro vs G Q h;unfold ZBa at h⊢;split at h<;>first|exact h.elim|exact det00 h|exact det0 h|exact detE1 h|exact detE2 h|exact detE3 h|exact detE4 h|exact detE5 h|exact detE6 h|exact detE7 h|exact detN h|exact detA h|exact detN0 h|exact detN1 h|exact detN2 h|exact detN3 h|exact detA0 h|exact detA1 h|exact detA2 h|exact detA3 h|exact detIf h
theorem det_ZWj:(ZWj).Det:=by
 intro vs G Q h;unfold ZWj at h⊢;split at h<;>first|exact h.elim|exact det00 h|exact det0 h|exact detE1 h|exact detE2 h|exact detE3 h|exact detE4 h|exact detE5 h|exact detE6 h|exact detE7 h|exact detN h|exact detA h|exact detN0 h|exact detN1 h|exact detN2 h|exact detN3 h|exact detA0 h|exact detA1 h|exact detA2 h|exact detA3 h|exact detIf h
theorem det_ZYm:(ZYm).Det:=by
 intro vs G Q h;unfold ZYm at h⊢;split at h<;>first|exact h.elim|exact det00 h|exact det0 h|exact detE1 h|exact detE2 h|exact detE3 h|exact detE4 h|exact detE5 h|exact detE6 h|exact detE7 h|exact detN h|exact detA h|exact detN0 h|exact detN1 h|exact detN2 h|exact detN3 h|exact detA0 h|exact detA1 h|exact detA2 h|exact detA3 h|exact detIf h
theorem det_SSm:(SSm).Det:=by
 intro vs G Q h;unfold SSm at h⊢;split at h<;>first|exact h.elim|exact det00 h|exact det0 h|exact detE1 h|exact detE2 h|exact detE3 h|exact detE4 h|exact detE5 h|exact detE6 h|exact detE7 h|exact detN h|exact detA h|exact detN0 h|exact detN1 h|exact detN2 h|exact detN3 h|exact detA0 h|exact detA1 h|exact detA2 h|exact detA3 h|exact detIf h
theorem det_SBy:(SBy).Det:=by
 intro vs G Q h;unfold SBy at h⊢;split at h<;>first|exact h.elim|exact det00 h|exact det0 h|exact detE1 h|exact detE2 h|exact detE3 h|exact detE4 h|exact detE5 h|exact detE6 h|exact detE7 h|exact detN h|exact detA h|exact detN0 h|exact detN1 h|exact detN2 h|exact detN3 h|exact detA0 h|exact detA1 h|exact detA2 h|exact detA3 h|exact detIf h
theorem det_SRn_10:(SRn 10).Det:=by
 intro vs G Q h;unfold SRn at h⊢;split at h<;>first|exact h.elim|exact det00 h|exact det0 h|exact detE1 h|exact detE2 h|exact detE3 h|exact detE4 h|exact detE5 h|exact detE6 h|exact detE7 h|exact detN h|exact detA h|exact detN0 h|exact detN1 h|exact detN2 h|exact detN3 h|exact detA0 h|exact detA1 h|exact detA2 h|exact detA3 h|exact detIf h
theorem det_ZT9:(ZT9).Det:=by
 intro vs G Q h;unfold ZT9 at h⊢;split at h<;>first|exact h.elim|exact det00 h|exact det0 h|exact detE1 h|exact detE2 h|exact detE3 h|exact detE4 h|exact detE5 h|exact detE6 h|exact detE7 h|exact detN h|exact detA h|exact detN0 h|exact detN1 h|exact detN2 h|exact detN3 h|exact detA0 h|exact detA1 h|exact detA2 h|exact detA3 h|exact detIf h
theorem det_SAb:(SAb).Det:=by
 intro vs G Q h;unfold SAb at h⊢;split at h<;>first|exact h.elim|exact det00 h|exact det0 h|exact detE1 h|exact detE2 h|exact detE3 h|exact detE4 h|exact detE5 h|exact detE6 h|exact detE7 h|exact detN h|exact detA h|exact detN0 h|exact detN1 h|exact detN2 h|exact detN3 h|exact detA0 h|exact detA1 h|exact detA2 h|exact detA3 h|exact detIf h
theorem det_ZBc:(ZBc).Det:=by
 intro vs G Q h;unfold ZBc at h⊢;split at h<;>first|exact h.elim|exact det00 h|exact det0 h|exact detE1 h|exact detE2 h|exact detE3 h|exact detE4 h|exact detE5 h|exact detE6 h|exact detE7 h|exact detN h|exact detA h|exact detN0 h|exact detN1 h|exact detN2 h|exact detN3 h|exact detA0 h|exact detA1 h|exact detA2 h|exact detA3 h|exact detIf h
theorem det_ZXt:(ZXt).Det:=by
 intro vs G Q h;unfold ZXt at h⊢;split at h<;>first|exact h.elim|exact det00 h|exact det0 h|exact detE1 h|exact detE2 h|exact detE3 h|exact detE4 h|exact detE5 h|exact detE6 h|exact detE7 h|exact detN h|exact detA h|exact detN0 h|exact detN1 h|exact detN2 h|exact detN3 h|exact detA0 h|exact detA1 h|exact detA2 h|exact detA3 h|exact detIf h
theorem det_ZBt:(ZBt).Det:=by
 intro vs G Q h;unfold ZBt at h⊢;split at h<;>first|exact h.elim|exact det00 h|exact det0 h|exact detE1 h|exact detE2 h|exact detE3 h|exact detE4 h|exact detE5 h|exact detE6 h|exact detE7 h|exact detN h|exact detA h|exact detN0 h|exact detN1 h|exact detN2 h|exact detN3 h|exact detA0 h|exact detA1 h|exact detA2 h|exact detA3 h|exact detIf h
theorem det_ZT1:(ZT1).Det:=by
 intro vs G Q h;unfold ZT1 at h⊢;split at h<;>first|exact h.elim|exact det00 h|exact det0 h|exact detE1 h|exact detE2 h|exact detE3 h|exact detE4 h|exact detE5 h|exact detE6 h|exact detE7 h|exact detN h|exact detA h|exact detN0 h|exact detN1 h|exact detN2 h|exact detN3 h|exact detA0 h|exact detA1 h|exact detA2 h|exact detA3 h|exact detIf h
theorem det_ZBy:(ZBy).Det:=by
 intro vs G Q h;unfold ZBy at h⊢;split at h<;>first|exact h.elim|exact det00 h|exact det0 h|exact detE1 h|exact detE2 h|exact detE3 h|exact detE4 h|exact detE5 h|exact detE6 h|exact detE7 h|exact detN h|exact detA h|exact detN0 h|exact detN1 h|exact detN2 h|exact detN3 h|exact detA0 h|exact detA1 h|exact detA2 h|exact detA3 h|exact detIf h
theorem det_ZBq:(ZBq).Det:=by
 intro vs G Q h;unfold ZBq at h⊢;split at h<;>first|exact h.elim|exact det00 h|exact det0 h|exact detE1 h|exact detE2 h|exact detE3 h|exact detE4 h|exact detE5 h|exact detE6 h|exact detE7 h|exact detN h|exact detA h|exact detN0 h|exact detN1 h|exact detN2 h|exact detN3 h|exact detA0 h|exact detA1 h|exact detA2 h|exact detA3 h|exact detIf h
theorem det_ZYb:(ZYb).Det:=by
 intro vs G Q h;unfold ZYb at h⊢;split at h<;>first|exact h.elim|exact det00 h|exact det0 h|exact detE1 h|exact detE2 h|exact detE3 h|exact detE4 h|exact detE5 h|exact detE6 h|exact detE7 h|exact detN h|exact detA h|exact detN0 h|exact detN1 h|exact detN2 h|exact detN3 h|exact detA0 h|exact detA1 h|exact detA2 h|exact detA3 h|exact detIf h
theorem own:ownKnob Try.prog.godebug=none:=by kernel_rfl
theorem laidOut:laidOutB Try.prog=true:=by kernel_rfl
noncomputable def EE:Env:=⟨Try.prog,[]⟩
noncomputable def T136:List (Nat×Spec1):=(136,ZWt)::[]
theorem g136:Abs.Good EE T136:=(Abs.Good.nil EE).cons det_ZWt fun vs G Q h=>by
 unfold ZWt at h;split at h
 ·exact (Abs.Good.nil EE).ret (E:=EE) p136 rfl (walk136 h)
 ·exact h.elim
noncomputable def T137:List (Nat×Spec1):=(137,ZKy)::T136
theorem g137:Abs.Good EE T137:=g136.cons det_ZKy fun vs G Q h=>by
 unfold ZKy at h;split at h
 ·obtain⟨hl,h⟩:=h;exact g136.ret (E:=EE) p137 rfl (walk137 rfl hl h)
 ·exact h.elim
noncomputable def T116:List (Nat×Spec1):=(116,ZTc)::T137
theorem g116:Abs.Good EE T116:=g137.cons det_ZTc fun vs G Q h=>by
 unfold ZTc at h;split at h
 ·obtain⟨t,⟨rfl,hk,hv⟩,h⟩:=h;exact g137.ret (E:=EE) p116 rfl (walk116 rfl rfl hk hv h)
 ·exact h.elim
noncomputable def T142:List (Nat×Spec1):=(142,ZCf)::T116
theorem g142:Abs.Good EE T142:=g116.cons det_ZCf fun vs G Q h=>by
 unfold ZCf at h;split at h
 ·obtain⟨t,⟨rfl,hk,hv⟩,h⟩:=h;exact g116.ret (E:=EE) p142 rfl (walk142 rfl hk hv h)
 ·exact h.elim
noncomputable def T30:List (Nat×Spec1):=(30,ZLt)::T142
theorem g30:Abs.Good EE T30:=g142.cons det_ZLt fun vs G Q h=>by
 unfold ZLt at h;split at h
 ·obtain⟨t,rfl,h⟩:=h;exact g142.ret (E:=EE) p30 rfl (walk30 h)
 ·exact h.elim
noncomputable def T29:List (Nat×Spec1):=(29,ZLb)::T30
theorem g29:Abs.Good EE T29:=g30.cons det_ZLb fun vs G Q h=>by
 unfold ZLb at h;split at h
 ·obtain⟨b,rfl,h⟩:=h;exact g30.ret (E:=EE) p29 rfl (walk29 rfl h)
 ·exact h.elim
noncomputable def T7:List (Nat×Spec1):=(7,ZLm)::T29
theorem g7:Abs.Good EE T7:=g29.cons det_ZLm fun vs G Q h=>by
 unfold ZLm at h;split at h
 ·obtain⟨m,hx,h⟩:=h;exact Ret.wkIn (vs':=[m.v]) (by unfold V.WkL;exact⟨_,_,rfl,hx,by unfold V.WkL;rfl⟩) (WkG.refl _) (g29.ret (E:=EE) p7 rfl (walk7 rfl rfl h))
 ·exact h.elim
noncomputable def T91:List (Nat×Spec1):=(91,ZEs)::T7
theorem g91:Abs.Good EE T91:=g7.cons det_ZEs fun vs G Q h=>by
 unfold ZEs at h;split at h
 ·obtain⟨sa,sb,⟨rfl,rfl,h1,h2⟩,h⟩:=h;exact g7.ret (E:=EE) p91 rfl (walk91 h1 h2 h)
 ·exact h.elim
noncomputable def T41:List (Nat×Spec1):=(41,ZSn)::T91
theorem g41:Abs.Good EE T41:=g91.cons det_ZSn fun vs G Q h=>by
 unfold ZSn at h;split at h
 ·obtain⟨a,b,⟨rfl,rfl,h1,h2⟩,h⟩:=h;exact g91.ret (E:=EE) p41 rfl (walk41 rfl h1 h2 h)
 ·exact h.elim
noncomputable def T92:List (Nat×Spec1):=(92,ZEi)::T41
theorem g92:Abs.Good EE T92:=g41.cons det_ZEi fun vs G Q h=>by
 unfold ZEi at h;split at h
 ·obtain⟨⟨h1,h2⟩,h⟩:=h;exact g41.ret (E:=EE) p92 rfl (walk92 h1 h2 h)
 ·exact h.elim
noncomputable def T42:List (Nat×Spec1):=(42,ZS10)::T92
theorem g42:Abs.Good EE T42:=g92.cons det_ZS10 fun vs G Q h=>by
 unfold ZS10 at h;split at h
 ·obtain⟨a,b,⟨rfl,rfl,h1,h2⟩,h⟩:=h;exact g92.ret (E:=EE) p42 rfl (walk42 rfl h1 h2 h)
 ·exact h.elim
noncomputable def T93:List (Nat×Spec1):=(93,ZEx)::T42
theorem g93:Abs.Good EE T93:=g42.cons det_ZEx fun vs G Q h=>by
 unfold ZEx at h;split at h
 ·obtain⟨l1,l2,hxy,hl,hl2,h⟩:=h;exact g42.ret (E:=EE) p93 rfl (walk93 hxy hl hl2 h)
 ·exact h.elim
noncomputable def T43:List (Nat×Spec1):=(43,ZBs)::T93
theorem g43:Abs.Good EE T43:=g93.cons det_ZBs fun vs G Q h=>by
 unfold ZBs at h;split at h
 ·obtain⟨a,b,x,y,⟨rfl,rfl,hr,hl,hl2⟩,h⟩:=h;exact g93.ret (E:=EE) p43 rfl (walk43 rfl hr hl hl2 h)
 ·exact h.elim
noncomputable def T12:List (Nat×Spec1):=(12,ZMs)::T43
theorem g12:Abs.Good EE T12:=g43.cons det_ZMs fun vs G Q h=>by
 unfold ZMs at h;split at h
 ·obtain⟨a,b,⟨ha,hb,sa,sb⟩,h⟩:=h;exact Ret.wkIn (vs':=[a.v,b.v]) (by unfold V.WkL;exact⟨_,_,rfl,ha,by unfold V.WkL;exact⟨_,_,rfl,hb,by unfold V.WkL;rfl⟩⟩) (WkG.refl _) (g43.ret (E:=EE) p12 rfl (walk12 rfl rfl rfl sa sb h))
 ·exact h.elim
noncomputable def T79:List (Nat×Spec1):=(79,SCl)::T12
theorem g79:Abs.Good EE T79:=g12.cons det_SCl fun vs G Q h=>by
 unfold SCl at h;split at h
 ·obtain⟨b,⟨hx,hb⟩,h⟩:=h;exact Ret.res .u8 (Ret.args (vs':=[.sli .u8 b]) rfl (wk_1 (byV_wk hx)) (g12.ret (E:=EE) p79 rfl (walk79 hb h)))
 ·exact h.elim
noncomputable def T31:List (Nat×Spec1):=(31,SNu)::T79
theorem g31:Abs.Good EE T31:=g79.cons det_SNu fun vs G Q h=>by
 unfold SNu at h;split at h
 ·obtain⟨b,⟨hx,hb,hn⟩,h⟩:=h;exact Ret.args (vs':=[.sli .u8 b,_]) rfl (wk_1 (byV_wk hx)) (g79.ret (E:=EE) p31 rfl (walk31 rfl hb hn h))
 ·exact h.elim
noncomputable def T82:List (Nat×Spec1):=(82,SHa)::T31
theorem g82:Abs.Good EE T82:=g31.cons det_SHa fun vs G Q h=>by
 unfold SHa at h;split at h
 ·obtain⟨b,⟨hx,hb,hl⟩,h⟩:=h;exact Ret.args (vs':=[.sli .u8 b,_]) rfl (wk_1 (byV_wk hx)) (g31.ret (E:=EE) p82 rfl (walk82 rfl hb hl h))
 ·exact h.elim
noncomputable def T38:List (Nat×Spec1):=(38,SNo)::T82
theorem g38:Abs.Good EE T38:=g82.cons det_SNo fun vs G Q h=>by
 unfold SNo at h;split at h
 ·exact g82.ret (E:=EE) p38 rfl (walk38 h)
 ·exact h.elim
noncomputable def T113:List (Nat×Spec1):=(113,SCk)::T38
theorem g113:Abs.Good EE T113:=g38.cons det_SCk fun vs G Q h=>by
 unfold SCk at h;split at h
 ·exact g38.ret (E:=EE) p113 rfl (walk113 rfl h.1 h.2)
 ·exact h.elim
noncomputable def T114:List (Nat×Spec1):=(114,STg)::T113
theorem g114:Abs.Good EE T114:=g113.cons det_STg fun vs G Q h=>by
 unfold STg at h;split at h
 ·obtain⟨b,⟨hx,hb,hw,hm⟩,h⟩:=h;exact Ret.args (vs':=[.sli .u8 b,_]) rfl (wk_1 (byV_wk hx)) (g113.ret (E:=EE) p114 rfl (walk114 rfl rfl hb hw hm h))
 ·exact h.elim
noncomputable def T80:List (Nat×Spec1):=(80,SAp)::T114
theorem g80:Abs.Good EE T80:=g114.cons det_SAp fun vs G Q h=>by
 unfold SAp at h;split at h
 ·obtain⟨b,⟨hx,hb,hw⟩,h⟩:=h;exact Ret.args (vs':=[.sli .u8 b,_]) rfl (wk_1 (byV_wk hx)) (g114.ret (E:=EE) p80 rfl (walk80 rfl rfl rfl rfl rfl hb hw h))
 ·exact h.elim
noncomputable def T134:List (Nat×Spec1):=(134,ZWi)::T80
theorem g134:Abs.Good EE T134:=g80.cons det_ZWi fun vs G Q h=>by
 unfold ZWi at h;split at h
 ·obtain⟨a,s,p,⟨rfl,hs,hs2,rfl⟩,h⟩:=h;exact g80.ret (E:=EE) p134 rfl (walk134 hs hs2 h)
 ·exact h.elim
noncomputable def T135:List (Nat×Spec1):=(135,ZRs)::T134
theorem g135:Abs.Good EE T135:=g134.cons det_ZRs fun vs G Q h=>by
 unfold ZRs at h;split at h
 ·obtain⟨sg,⟨rfl,hl⟩,h⟩:=h;exact g134.ret (E:=EE) p135 rfl (walk135 hl h)
 ·exact g134.ret (E:=EE) p135 rfl (walk135n h)
 ·obtain⟨sg,LL,⟨rfl,hl,hG,hLL,hfl,hsz⟩,h⟩:=h;exact g134.ret (E:=EE) p135 rfl (walk135s hG hLL hfl hsz hl h)
 ·exact h.elim
noncomputable def T115:List (Nat×Spec1):=(115,ZMc)::T135
theorem g115:Abs.Good EE T115:=g135.cons det_ZMc fun vs G Q h=>by
 unfold ZMc at h;split at h
 ·obtain⟨a,x,sg,⟨rfl,hf,hw,hl⟩,h⟩:=h;exact (by
   rcases hf with rfl|⟨rfl,rfl⟩|⟨id,c,LL,rfl,hG,hLL,hfl,hsz⟩
   ·exact g135.ret (E:=EE) p115 rfl (walk115i rfl rfl rfl hw hl h)
   ·exact g135.ret (E:=EE) p115 rfl (walk115n rfl rfl rfl hw h)
   ·exact g135.ret (E:=EE) p115 rfl (walk115s hG hLL hfl hsz rfl rfl rfl hw hl h))
 ·exact h.elim
noncomputable def T81:List (Nat×Spec1):=(81,ZPc)::T115
theorem g81:Abs.Good EE T81:=g115.cons det_ZPc fun vs G Q h=>by
 unfold ZPc at h;split at h
 ·obtain⟨b,c,⟨hx,hb,rfl,hw,hl⟩,h⟩:=h;exact Ret.args (vs':=[.sli .u8 b,_]) rfl (wk_1 (byV_wk hx)) (g115.ret (E:=EE) p81 rfl (walk81 rfl rfl rfl rfl hb hw hl h))
 ·exact h.elim
noncomputable def T86:List (Nat×Spec1):=(86,ZTt)::T81
theorem g86:Abs.Good EE T86:=g81.cons det_ZTt fun vs G Q h=>by
 unfold ZTt at h;split at h
 ·obtain⟨b,⟨hx,hb,ht⟩,h⟩:=h;exact g81.ret (E:=EE) p86 rfl (walk86 rfl hx hb ht h)
 ·exact h.elim
noncomputable def T83:List (Nat×Spec1):=(83,ZPt)::T86
theorem g83:Abs.Good EE T83:=g86.cons det_ZPt fun vs G Q h=>by
 unfold ZPt at h;split at h
 ·obtain⟨b,t,⟨hx,hb,rfl,hk,hv⟩,h⟩:=h;exact g86.ret (E:=EE) p83 rfl (walk83 rfl rfl rfl rfl hx hb hk hv h)
 ·exact h.elim
noncomputable def T138:List (Nat×Spec1):=(138,ZWn)::T83
theorem g138:Abs.Good EE T138:=g83.cons det_ZWn fun vs G Q h=>by
 unfold ZWn at h;split at h
 ·exact g83.ret (E:=EE) p138 rfl (walk138 h)
 ·exact h.elim
noncomputable def T117:List (Nat×Spec1):=(117,ZMa)::T138
theorem g117:Abs.Good EE T117:=g138.cons det_ZMa fun vs G Q h=>by
 unfold ZMa at h;split at h
 ·obtain⟨fr,⟨hf,hw,hl⟩,h⟩:=h;exact (by
   rcases hf with rfl|⟨rfl,rfl⟩|⟨id,c,LL,rfl,hG,hLL,hfl,hsz⟩
   ·exact g138.ret (E:=EE) p117 rfl (walk117i rfl rfl hl hw h)
   ·exact g138.ret (E:=EE) p117 rfl (walk117n rfl rfl hl hw h)
   ·exact g138.ret (E:=EE) p117 rfl (walk117s hG hLL hfl hsz rfl rfl hl hw h))
 ·exact h.elim
noncomputable def T118:List (Nat×Spec1):=(118,ZTg)::T117
theorem g118:Abs.Good EE T118:=g117.cons det_ZTg fun vs G Q h=>by
 unfold ZTg at h;split at h
 ·obtain⟨bb,fr,⟨hx,hb,hf,hw,hm⟩,h⟩:=h;exact (by
   rcases hf with rfl|⟨rfl,rfl⟩|⟨id,c,LL,rfl,hG,hLL,hfl,hsz⟩
   ·exact Ret.args (vs':=[.sli .u8 bb,_]) rfl (wk_1 (byV_wk hx)) (g117.ret (E:=EE) p118 rfl (walk118i rfl rfl hb hw hm h))
   ·exact absurd rfl hm.2.2.2.1
   ·exact Ret.args (vs':=[.sli .u8 bb,_]) rfl (wk_1 (byV_wk hx)) (g117.ret (E:=EE) p118 rfl (walk118s hG hLL hfl hsz rfl rfl hb hw hm h)))
 ·exact h.elim
noncomputable def T84:List (Nat×Spec1):=(84,ZPu)::T118
theorem g84:Abs.Good EE T84:=g118.cons det_ZPu fun vs G Q h=>by
 unfold ZPu at h;split at h
 ·obtain⟨b,a,⟨hx,hb,rfl,hw,hl⟩,h⟩:=h;exact Ret.args (vs':=[.sli .u8 b,_]) rfl (wk_1 (byV_wk hx)) (g118.ret (E:=EE) p84 rfl (walk84 rfl rfl rfl rfl rfl hb hw hl h))
 ·exact h.elim
noncomputable def T139:List (Nat×Spec1):=(139,ZFb0)::T84
theorem g139:Abs.Good EE T139:=g84.cons det_ZFb0 fun vs G Q h=>by
 unfold ZFb0 at h;split at h
 ·exact g84.ret (E:=EE) p139 rfl (walk139 h)
 ·exact h.elim
noncomputable def T140:List (Nat×Spec1):=(140,ZWt)::T139
theorem g140:Abs.Good EE T140:=g139.cons det_ZWt fun vs G Q h=>by
 unfold ZWt at h;split at h
 ·exact g139.ret (E:=EE) p140 rfl (walk140 h)
 ·exact h.elim
noncomputable def T149:List (Nat×Spec1):=(149,ZIt)::T140
theorem g149:Abs.Good EE T149:=g140.cons det_ZIt fun vs G Q h=>by
 unfold ZIt at h;split at h
 ·obtain⟨ts,⟨hx,hs⟩,h⟩:=h;exact g140.ret (E:=EE) p149 rfl (walk149 rfl (by kernel_rfl) hx hs h)
 ·exact h.elim
noncomputable def T141:List (Nat×Spec1):=(141,ZOt)::T149
theorem g141:Abs.Good EE T141:=g149.cons det_ZOt fun vs G Q h=>by
 unfold ZOt at h;split at h
 ·obtain⟨ts,⟨hx,hs⟩,h⟩:=h;exact g149.ret (E:=EE) p141 rfl (walk141 rfl hx hs h)
 ·exact h.elim
noncomputable def T119:List (Nat×Spec1):=(119,ZKc)::T141
theorem g119:Abs.Good EE T119:=g141.cons det_ZKc fun vs G Q h=>by
 unfold ZKc at h;split at h
 ·obtain⟨b,x,⟨rfl,hx,hs⟩,h⟩:=h;exact g141.ret (E:=EE) p119 rfl (walk119 rfl rfl rfl rfl hx hs h)
 ·exact h.elim
noncomputable def T85:List (Nat×Spec1):=(85,ZBp)::T119
theorem g85:Abs.Good EE T85:=g119.cons det_ZBp fun vs G Q h=>by
 unfold ZBp at h;split at h
 ·obtain⟨b,x,⟨rfl,hx,hs,hh⟩,h⟩:=h;exact g119.ret (E:=EE) p85 rfl (walk85 rfl rfl rfl rfl hx hs hh h)
 ·exact h.elim
noncomputable def T32:List (Nat×Spec1):=(32,ZBo)::T85
theorem g32:Abs.Good EE T32:=g85.cons det_ZBo fun vs G Q h=>by
 unfold ZBo at h;split at h
 ·obtain⟨m,⟨hx,ok⟩,h⟩:=h;exact Ret.wkIn (vs':=[m.v]) (by unfold V.WkL;exact⟨_,_,rfl,hx,by unfold V.WkL;rfl⟩) (WkG.refl _) (Ret.low (g85.ret (E:=EE) p32 rfl (walk32 rfl rfl rfl rfl rfl rfl rfl ok h)))
 ·exact h.elim
noncomputable def T39:List (Nat×Spec1):=(39,ZNm)::T32
theorem g39:Abs.Good EE T39:=g32.cons det_ZNm fun vs G Q h=>by
 unfold ZNm at h;split at h
 ·obtain⟨m,hx,h⟩:=h;exact Ret.wkIn (vs':=[m.v]) (by unfold V.WkL;exact⟨_,_,rfl,hx,by unfold V.WkL;rfl⟩) (WkG.refl _) (Ret.low (g32.ret (E:=EE) p39 rfl (walk39 h)))
 ·exact h.elim
noncomputable def T40:List (Nat×Spec1):=(40,ZKi)::T39
theorem g40:Abs.Good EE T40:=g39.cons det_ZKi fun vs G Q h=>by
 unfold ZKi at h;split at h
 ·obtain⟨m,hx,h⟩:=h;exact Ret.wkIn (vs':=[m.v]) (by unfold V.WkL;exact⟨_,_,rfl,hx,by unfold V.WkL;rfl⟩) (WkG.refl _) (g39.ret (E:=EE) p40 rfl (walk40 h))
 ·exact h.elim
noncomputable def T11:List (Nat×Spec1):=(11,ZCh)::T40
theorem g11:Abs.Good EE T11:=g40.cons det_ZCh fun vs G Q h=>by
 unfold ZCh at h;split at h
 ·obtain⟨m,⟨hx,ok⟩,h⟩:=h;exact Ret.wkIn (vs':=[m.v]) (by unfold V.WkL;exact⟨_,_,rfl,hx,by unfold V.WkL;rfl⟩) (WkG.refl _) (g40.ret (E:=EE) p11 rfl (walk11 rfl rfl rfl rfl rfl ok h))
 ·exact h.elim
noncomputable def T9:List (Nat×Spec1):=(9,ZPm)::T11
theorem g9:Abs.Good EE T9:=g11.cons det_ZPm fun vs G Q h=>by
 unfold ZPm at h;split at h
 ·obtain⟨m,⟨hx,ok⟩,h⟩:=h;exact Ret.wkIn (vs':=[m.v]) (by unfold V.WkL;exact⟨_,_,rfl,hx,by unfold V.WkL;rfl⟩) (WkG.refl _) (g11.ret (E:=EE) p9 rfl (walk9 rfl rfl rfl ok h))
 ·exact h.elim
noncomputable def T47:List (Nat×Spec1):=(47,SRd)::T9
theorem g47:Abs.Good EE T47:=g9.cons det_SRd fun vs G Q h=>by
 unfold SRd at h;split at h
 ·obtain⟨b,⟨hx,hl⟩,h⟩:=h;exact Ret.args (vs':=[.sli .u8 b]) rfl (wk_1 (byV_wk hx)) (g9.ret (E:=EE) p47 rfl (walk47 rfl hl h))
 ·exact h.elim
noncomputable def T94:List (Nat×Spec1):=(94,SOff)::T47
theorem g94:Abs.Good EE T94:=g47.cons det_SOff fun vs G Q h=>by
 unfold SOff at h;split at h
 ·obtain⟨b,w,hG,h⟩:=h;exact g47.ret (E:=EE) p94 rfl (walk94 hG h)
 ·exact h.elim
noncomputable def T120:List (Nat×Spec1):=(120,SNb)::T94
theorem g120:Abs.Good EE T120:=g94.cons det_SNb fun vs G Q h=>by
 unfold SNb at h;split at h
 ·exact g94.ret (E:=EE) p120 rfl (walk120 h.1.1 h.1.2 h.2)
 ·exact h.elim
noncomputable def T95:List (Nat×Spec1):=(95,SNm)::T120
theorem g95:Abs.Good EE T95:=g120.cons det_SNm fun vs G Q h=>by
 unfold SNm at h;split at h
 ·obtain⟨b,w,⟨hG,hb,hl⟩,h⟩:=h;exact g120.ret (E:=EE) p95 rfl (walk95 rfl rfl hG hb hl h)
 ·exact h.elim
noncomputable def T48:List (Nat×Spec1):=(48,SUp)::T95
theorem g48:Abs.Good EE T48:=g95.cons det_SUp fun vs G Q h=>by
 unfold SUp at h;split at h
 ·obtain⟨b,w,n,r,w2,⟨hG,hb,hl,ht,e⟩,h⟩:=h;exact g95.ret (E:=EE) p48 rfl (walk48 rfl rfl hG hb hl ht (by rw[e];exact h))
 ·exact h.elim
noncomputable def T98:List (Nat×Spec1):=(98,SHs)::T48
theorem g98:Abs.Good EE T98:=g48.cons det_SHs fun vs G Q h=>by
 unfold SHs at h;split at h
 ·obtain⟨b,w,hh,r,w2,⟨hG,hb,hl,e⟩,h⟩:=h;exact g48.ret (E:=EE) p98 rfl (walk98 rfl hG hb hl (by rw[e];exact h))
 ·exact h.elim
noncomputable def T121:List (Nat×Spec1):=(121,SOff)::T98
theorem g121:Abs.Good EE T121:=g98.cons det_SOff fun vs G Q h=>by
 unfold SOff at h;split at h
 ·obtain⟨b,w,hG,h⟩:=h;exact g98.ret (E:=EE) p121 rfl (walk121 rfl hG h)
 ·exact h.elim
noncomputable def T96:List (Nat×Spec1):=(96,SAr)::T121
theorem g96:Abs.Good EE T96:=g121.cons det_SAr fun vs G Q h=>by
 unfold SAr at h;split at h
 ·obtain⟨b,w0,a,r,w,⟨hG,hb,hl,e⟩,h⟩:=h;exact g121.ret (E:=EE) p96 rfl (walk96 rfl rfl rfl rfl hG hb hl e h)
 ·exact h.elim
noncomputable def T97:List (Nat×Spec1):=(97,ZRc)::T96
theorem g97:Abs.Good EE T97:=g96.cons det_ZRc fun vs G Q h=>by
 unfold ZRc at h;split at h
 ·obtain⟨b,w0,a,r,w,⟨hG,hb,hl,e⟩,h⟩:=h;exact Ret.low (g96.ret (E:=EE) p97 rfl (walk97 rfl rfl rfl rfl hG hb hl e h))
 ·exact h.elim
noncomputable def T101:List (Nat×Spec1):=(101,ZTr)::T97
theorem g101:Abs.Good EE T101:=g97.cons det_ZTr fun vs G Q h=>by
 unfold ZTr at h;split at h
 ·obtain⟨b,w,t,r,w2,⟨hG,hb,hl,e⟩,h⟩:=h;exact g97.ret (E:=EE) p101 rfl (walk101 rfl rfl rfl hG hb hl e h)
 ·exact h.elim
noncomputable def T99:List (Nat×Spec1):=(99,ZQt)::T101
theorem g99:Abs.Good EE T99:=g101.cons det_ZQt fun vs G Q h=>by
 unfold ZQt at h;split at h
 ·obtain⟨b,w,t,r,w2,⟨hG,hb,hl,e⟩,h⟩:=h;exact g101.ret (E:=EE) p99 rfl (walk99 rfl rfl rfl rfl hG hb hl e h)
 ·exact h.elim
noncomputable def T122:List (Nat×Spec1):=(122,SDn)::T99
theorem g122:Abs.Good EE T122:=g99.cons det_SDn fun vs G Q h=>by
 unfold SDn at h;split at h
 ·obtain⟨b,w,hG,h⟩:=h;exact g99.ret (E:=EE) p122 rfl (walk122 rfl hG h)
 ·exact h.elim
noncomputable def T100:List (Nat×Spec1):=(100,ZGb)::T122
theorem g100:Abs.Good EE T100:=g122.cons det_ZGb fun vs G Q h=>by
 unfold ZGb at h;split at h
 ·obtain⟨t,⟨hx,hb,hl⟩,h⟩:=h;exact Ret.low (g122.ret (E:=EE) p100 rfl (walk100 rfl rfl rfl rfl rfl rfl hx hb hl h))
 ·exact h.elim
noncomputable def T102:List (Nat×Spec1):=(102,ZRd)::T100
theorem g102:Abs.Good EE T102:=g100.cons det_ZRd fun vs G Q h=>by
 unfold ZRd at h;split at h
 ·obtain⟨b,w0,a,r,w,⟨hG,hb,hl,e⟩,h⟩:=h;exact Ret.low (g100.ret (E:=EE) p102 rfl (walk102 rfl rfl rfl rfl hG hb hl e h))
 ·exact h.elim
noncomputable def T49:List (Nat×Spec1):=(49,ZMr)::T102
theorem g49:Abs.Good EE T49:=g102.cons det_ZMr fun vs G Q h=>by
 unfold ZMr at h;split at h
 ·obtain⟨k,f,t,b,w,m,r,w2,⟨hG,hP,hne,hb,hl,e⟩,h⟩:=h;exact g102.ret (E:=EE) p49 rfl (walk49 rfl rfl rfl rfl rfl rfl rfl hG hP hne hb hl e h)
 ·exact h.elim
noncomputable def T50:List (Nat×Spec1):=(50,ZEb2)::T49
theorem g50:Abs.Good EE T50:=g49.cons det_ZEb2 fun vs G Q h=>by
 unfold ZEb2 at h;split at h
 ·obtain⟨a,b,⟨hx,hy,ha,hb⟩,h⟩:=h;exact g49.ret (E:=EE) p50 rfl (walk50 hx hy ha hb h)
 ·exact h.elim
noncomputable def T14:List (Nat×Spec1):=(14,ZGm)::T50
theorem g14:Abs.Good EE T14:=g50.cons det_ZGm fun vs G Q h=>by
 unfold ZGm at h;split at h
 ·obtain⟨b,⟨hx,hb,hl⟩,h⟩:=h;exact Ret.low (g50.ret (E:=EE) p14 rfl (walk14 rfl rfl rfl rfl rfl hx hb hl h))
 ·exact h.elim
noncomputable def T8:List (Nat×Spec1):=(8,ZAwm)::T14
theorem g8:Abs.Good EE T8:=g14.cons det_ZAwm fun vs G Q h=>by
 unfold ZAwm at h;split at h
 ·exact g14.ret (E:=EE) p8 rfl (walk8 rfl rfl h)
 ·exact h.elim
noncomputable def T44:List (Nat×Spec1):=(44,ZSn)::T8
theorem g44:Abs.Good EE T44:=g8.cons det_ZSn fun vs G Q h=>by
 unfold ZSn at h;split at h
 ·obtain⟨a,b,⟨rfl,rfl,h1,h2⟩,h⟩:=h;exact g8.ret (E:=EE) p44 rfl (walk44g h1 h2 h)
 ·exact h.elim
noncomputable def T45:List (Nat×Spec1):=(45,ZS10)::T44
theorem g45:Abs.Good EE T45:=g44.cons det_ZS10 fun vs G Q h=>by
 unfold ZS10 at h;split at h
 ·obtain⟨a,b,⟨rfl,rfl,h1,h2⟩,h⟩:=h;exact g44.ret (E:=EE) p45 rfl (walk45 h1 h2 h)
 ·exact h.elim
noncomputable def T46:List (Nat×Spec1):=(46,ZBs)::T45
theorem g46:Abs.Good EE T46:=g45.cons det_ZBs fun vs G Q h=>by
 unfold ZBs at h;split at h
 ·obtain⟨a,b,x,y,⟨rfl,rfl,hr,hl,hl2⟩,h⟩:=h;exact g45.ret (E:=EE) p46 rfl (walk46 hr hl hl2 h)
 ·exact h.elim
noncomputable def T13:List (Nat×Spec1):=(13,ZMs)::T46
theorem g13:Abs.Good EE T13:=g46.cons det_ZMs fun vs G Q h=>by
 unfold ZMs at h;split at h
 ·obtain⟨a,b,⟨ha,hb,sa,sb⟩,h⟩:=h;exact Ret.wkIn (vs':=[a.v,b.v]) (by unfold V.WkL;exact⟨_,_,rfl,ha,by unfold V.WkL;exact⟨_,_,rfl,hb,by unfold V.WkL;rfl⟩⟩) (WkG.refl _) (g46.ret (E:=EE) p13 rfl (walk13 rfl rfl rfl sa sb h))
 ·exact h.elim
noncomputable def T33:List (Nat×Spec1):=(33,SMy)::T13
theorem g33:Abs.Good EE T33:=g13.cons det_SMy fun vs G Q h=>by
 unfold SMy at h;split at h
 ·exact g13.ret (E:=EE) p33 rfl (walk33 h.1 h.2)
 ·exact h.elim
noncomputable def T90:List (Nat×Spec1):=(90,ZKy)::T33
theorem g90:Abs.Good EE T90:=g33.cons det_ZKy fun vs G Q h=>by
 unfold ZKy at h;split at h
 ·obtain⟨hl,h⟩:=h;exact g33.ret (E:=EE) p90 rfl (walk90 hl h)
 ·exact h.elim
noncomputable def T37:List (Nat×Spec1):=(37,ZTm)::T90
theorem g37:Abs.Good EE T37:=g90.cons det_ZTm fun vs G Q h=>by
 unfold ZTm at h;split at h
 ·obtain⟨t,⟨rfl,hk,hv⟩,h⟩:=h;exact g90.ret (E:=EE) p37 rfl (walk37 rfl hk hv h)
 ·exact h.elim
noncomputable def T34:List (Nat×Spec1):=(34,ZKm)::T37
theorem g34:Abs.Good EE T34:=g37.cons det_ZKm fun vs G Q h=>by
 unfold ZKm at h;split at h
 ·obtain⟨b,x,⟨rfl,hx,hs⟩,h⟩:=h;exact g37.ret (E:=EE) p34 rfl (walk34 rfl rfl hx hs h)
 ·exact h.elim
noncomputable def T35:List (Nat×Spec1):=(35,ZM10)::T34
theorem g35:Abs.Good EE T35:=g34.cons det_ZM10 fun vs G Q h=>by
 unfold ZM10 at h;split at h
 ·obtain⟨fr,⟨hf,hw,hl⟩,h⟩:=h;exact (by
   rcases hf with rfl|⟨rfl,rfl⟩|⟨id,c,LL,rfl,hG,hLL,hfl,hsz⟩
   ·exact g34.ret (E:=EE) p35 rfl (walk35i hl hw h)
   ·exact g34.ret (E:=EE) p35 rfl (walk35n hl hw h)
   ·exact g34.ret (E:=EE) p35 rfl (walk35s hG hLL hfl hsz hl hw h))
 ·exact h.elim
noncomputable def T87:List (Nat×Spec1):=(87,ZBa)::T35
theorem g87:Abs.Good EE T87:=g35.cons det_ZBa fun vs G Q h=>by
 unfold ZBa at h;split at h
 ·obtain⟨a,s,⟨rfl,hs,hs2⟩,h⟩:=h;exact g35.ret (E:=EE) p87 rfl (walk87 hs hs2 h)
 ·exact h.elim
noncomputable def T88:List (Nat×Spec1):=(88,ZWj)::T87
theorem g88:Abs.Good EE T88:=g87.cons det_ZWj fun vs G Q h=>by
 unfold ZWj at h;split at h
 ·obtain⟨a,p,⟨rfl,rfl⟩,h⟩:=h;exact g87.ret (E:=EE) p88 rfl (walk88 h)
 ·exact h.elim
noncomputable def T89:List (Nat×Spec1):=(89,ZRs)::T88
theorem g89:Abs.Good EE T89:=g88.cons det_ZRs fun vs G Q h=>by
 unfold ZRs at h;split at h
 ·obtain⟨sg,⟨rfl,hl⟩,h⟩:=h;exact g88.ret (E:=EE) p89 rfl (walk89 hl h)
 ·exact g88.ret (E:=EE) p89 rfl (walk89n h)
 ·obtain⟨sg,LL,⟨rfl,hl,hG,hLL,hfl,hsz⟩,h⟩:=h;exact g88.ret (E:=EE) p89 rfl (walk89s hG hLL hfl hsz hl h)
 ·exact h.elim
noncomputable def T36:List (Nat×Spec1):=(36,ZMc)::T89
theorem g36:Abs.Good EE T36:=g89.cons det_ZMc fun vs G Q h=>by
 unfold ZMc at h;split at h
 ·obtain⟨a,x,sg,⟨rfl,hf,hw,hl⟩,h⟩:=h;exact (by
   rcases hf with rfl|⟨rfl,rfl⟩|⟨id,c,LL,rfl,hG,hLL,hfl,hsz⟩
   ·exact g89.ret (E:=EE) p36 rfl (walk36i rfl rfl rfl rfl hw hl h)
   ·exact g89.ret (E:=EE) p36 rfl (walk36n (sg:=[]) rfl rfl rfl rfl hw hl h)
   ·exact g89.ret (E:=EE) p36 rfl (walk36s hG hLL hfl hsz rfl rfl rfl rfl hw hl h))
 ·exact h.elim
noncomputable def T10:List (Nat×Spec1):=(10,ZYm)::T36
theorem g10:Abs.Good EE T10:=g36.cons det_ZYm fun vs G Q h=>by
 unfold ZYm at h;split at h
 ·obtain⟨m,⟨hx,ok⟩,h⟩:=h;exact Ret.wkIn (vs':=[m.v]) (by unfold V.WkL;exact⟨_,_,rfl,hx,by unfold V.WkL;rfl⟩) (WkG.refl _) (g36.ret (E:=EE) p10 rfl (walk10 rfl rfl rfl rfl rfl rfl ok h))
 ·exact h.elim
noncomputable def T15:List (Nat×Spec1):=(15,SSm)::T10
theorem g15:Abs.Good EE T15:=g10.cons det_SSm fun vs G Q h=>by
 unfold SSm at h;split at h
 ·obtain⟨a,b,⟨hx,hy,ha,hb⟩,h⟩:=h;exact Ret.args (vs':=[.sli .u8 a,.sli .u8 b]) rfl (wk_11 (byV_wk hx) (byV_wk hy)) (g10.ret (E:=EE) p15 rfl (walk15 ha hb h))
 ·exact h.elim
noncomputable def T53:List (Nat×Spec1):=(53,SBy)::T15
theorem g53:Abs.Good EE T53:=g15.cons det_SBy fun vs G Q h=>by
 unfold SBy at h;split at h
 ·exact g15.ret (E:=EE) p53 rfl (walk53 h.1 h.2)
 ·exact h.elim
noncomputable def T104:List (Nat×Spec1):=(104,SRn 10)::T53
theorem ind104:∀(k:Nat) vs G Q,SRn k vs G Q→Ret EE 104 vs G Q:=by
 intro k
 induction k with
 |zero=>
  intro vs G Q h
  unfold SRn at h;split at h
  ·exact absurd h.1.2.2.1 (by decide)
  ·exact h.elim
 |succ k ih=>
  intro vs G Q h
  have hg:=g53.cons (g:=104) (s:=SRn k) (by
   intro vs G Q h
   unfold SRn at h⊢
   split at h
   ·exact⟨_,h.2.2,fun Q' h'=>⟨h.1,h'⟩⟩
   ·exact h.elim) ih
  unfold SRn at h;split at h
  ·rename_i n
   obtain⟨⟨h1,h2,h3,h4⟩,h⟩:=h
   obtain⟨m,rfl⟩:∃m:Nat,n=m:=⟨n.toNat,by omega⟩
   rw[Int.toNat_natCast]at h h2
   exact hg.ret (E:=EE) p104 rfl (walk104 rfl h2 (by omega) h)
  ·exact h.elim
theorem g104:Abs.Good EE T104:=g53.cons det_SRn_10 fun vs G Q h=>ind104 _ vs G Q h
noncomputable def T103:List (Nat×Spec1):=(103,ZT9)::T104
theorem g103:Abs.Good EE T103:=g104.cons det_ZT9 fun vs G Q h=>by
 unfold ZT9 at h;split at h
 ·obtain⟨a,⟨rfl,hw,hm⟩,h⟩:=h;exact g104.ret (E:=EE) p103 rfl (walk103c rfl rfl hw hm h)
 ·exact h.elim
noncomputable def T51:List (Nat×Spec1):=(51,SAb)::T103
theorem g51:Abs.Good EE T51:=g103.cons det_SAb fun vs G Q h=>by
 unfold SAb at h;split at h
 ·exact g103.ret (E:=EE) p51 rfl (walk51c rfl rfl rfl h.1.1 h.1.2 h.2)
 ·exact h.elim
noncomputable def T52:List (Nat×Spec1):=(52,ZBc)::T51
theorem g52:Abs.Good EE T52:=g51.cons det_ZBc fun vs G Q h=>by
 unfold ZBc at h;split at h
 ·obtain⟨c,⟨rfl,hw,hm⟩,h⟩:=h;exact g51.ret (E:=EE) p52 rfl (walk52 rfl rfl hw hm h)
 ·exact h.elim
noncomputable def T56:List (Nat×Spec1):=(56,ZXt)::T52
theorem g56:Abs.Good EE T56:=g52.cons det_ZXt fun vs G Q h=>by
 unfold ZXt at h;split at h
 ·obtain⟨ht,h⟩:=h;exact g52.ret (E:=EE) p56 rfl (walk56 rfl ht h)
 ·exact h.elim
noncomputable def T54:List (Nat×Spec1):=(54,ZBt)::T56
theorem g54:Abs.Good EE T54:=g56.cons det_ZBt fun vs G Q h=>by
 unfold ZBt at h;split at h
 ·obtain⟨t,⟨rfl,hM⟩,h⟩:=h;exact g56.ret (E:=EE) p54 rfl (walk54 rfl rfl hM h)
 ·exact h.elim
noncomputable def T105:List (Nat×Spec1):=(105,ZT1)::T54
theorem g105:Abs.Good EE T105:=g54.cons det_ZT1 fun vs G Q h=>by
 unfold ZT1 at h;split at h
 ·obtain⟨fr,⟨hf,hw,hm⟩,h⟩:=h;exact (by
   rcases hf with rfl|⟨rfl,rfl⟩|⟨id,c,LL,rfl,hG,hLL,hfl,hsz⟩
   ·exact g54.ret (E:=EE) p105 rfl (walk105i rfl rfl hw hm h)
   ·exact absurd rfl hm.2.2.2.1
   ·exact g54.ret (E:=EE) p105 rfl (walk105s hG hLL hfl hsz rfl rfl hw hm h))
 ·exact h.elim
noncomputable def T55:List (Nat×Spec1):=(55,ZBy)::T105
theorem g55:Abs.Good EE T55:=g105.cons det_ZBy fun vs G Q h=>by
 unfold ZBy at h;split at h
 ·obtain⟨a,⟨rfl,hw,hm⟩,h⟩:=h;exact g105.ret (E:=EE) p55 rfl (walk55 rfl rfl hw hm h)
 ·exact h.elim
noncomputable def T57:List (Nat×Spec1):=(57,ZBq)::T55
theorem g57:Abs.Good EE T57:=g55.cons det_ZBq fun vs G Q h=>by
 unfold ZBq at h;split at h
 ·obtain⟨b,x,⟨rfl,hx,hh,hM⟩,h⟩:=h;exact g55.ret (E:=EE) p57 rfl (walk57 rfl rfl rfl hx hh hM h)
 ·exact h.elim
noncomputable def T16:List (Nat×Spec1):=(16,ZYb)::T57
theorem g16:Abs.Good EE T16:=g57.cons det_ZYb fun vs G Q h=>by
 unfold ZYb at h;split at h
 ·obtain⟨m,⟨hx,ok,hm⟩,h⟩:=h;exact Ret.wkIn (vs':=[m.v]) (by unfold V.WkL;exact⟨_,_,rfl,hx,by unfold V.WkL;rfl⟩) (WkG.refl _) (g57.ret (E:=EE) p16 rfl (walk16 rfl rfl rfl rfl rfl rfl rfl ok hm h))
 ·exact h.elim
theorem law3:∀vs:List V,TyAll Try.prog 12 Try.f3.params.toList vs→Ret EE 3 vs [] (fun r _=>r= .v (.bool true)):=by
 intro vs h
 simp only[Try.params3,TyAll]at h
 obtain⟨x,l,rfl,h1,_,_,rfl,h2,rfl⟩:=h
 obtain⟨a,rfl,wa⟩:=msg_of h1
 obtain⟨b,rfl,wb⟩:=msg_of h2
 exact g16.ret (E:=EE) p3 rfl (walk3 rfl rfl rfl rfl rfl rfl rfl rfl rfl rfl wa wb rfl)
set_option maxRecDepth 100000 in
theorem lifted3 (os:Os) (started:os.Started) (H:Type) (enc:TypeId×Value→H):
  ReturnsInHanded {} Try.checked os 3 .any (Rows.msgPutsSpec.pre6 enc Try.prog Try.f3 Rows.msgPutsRow.domain false) (Rows.msgPutsSpec.post enc Try.prog Try.f3 false true false false):=
 law_lifted (C:=Try.checked) (fn:=Try.f3) (n:=12) (tab:=[]) (tb:=4) own started (by kernel_rfl) Try.func3
  (ChangeSpec.witness6 (enc:=enc) (C:=Try.checked) false ⟨#[],#[.agg #[.int .i64 0,.int .i64 0,.int .i64 0,.int .i64 0,.int .i64 0,.int .i64 0,.int .i64 0,.int .u8 0,.int .u8 0,.int .u8 0,.int .u8 0,.int .u8 0,.int .u8 0,.int .u8 0,.int .u8 0,.int .u8 0,.int .u8 0,.int .u8 0,.int .u8 0,.int .u8 0,.int .u8 0,.int .u8 0,.int .u8 0,.int .u8 0,.int .u8 0,.int .u8 0,.int .u8 0,.int .u8 0,.int .u8 0,.int .u8 0,.int .u8 0,.int .u8 0,.int .u8 0,.int .u8 0,.int .u8 0,.int .u8 0,.int .u8 0,.int .u8 0,.int .u8 0,.int .i64 0,.int .u8 0,.int .u8 0,.int .u8 0,.int .u8 0,.int .u8 0,.int .u8 0,.int .u8 0,.int .u8 0,.int .u8 0,.int .u8 0,.int .u8 0,.int .u8 0,.int .u8 0,.int .u8 0,.int .u8 0,.int .u8 0,.int .u8 0,.int .u8 0,.int .u8 0,.int .u8 0,.int .u8 0,.int .u8 0,.int .u8 0,.int .u8 0,.int .u8 0,.int .u8 0,.int .u8 0,.int .u8 0,.int .u8 0,.int .u8 0,.int .u8 0,.int .u8 0,.int .u8 0,.int .u8 0,.int .u8 0,.int .u8 0,.int .u8 0,.int .u8 0,.int .u8 0,.int .u8 0,.int .u8 0,.int .u8 0,.int .u8 0,.int .u8 0,.int .u8 0,.int .u8 0,.int .u8 0,.int .u8 0,.int .u8 0,.int .u8 0,.int .u8 0,.int .u8 0,.int .u8 0,.int .u8 0,.int .u8 0,.int .u8 0,.int .u8 0,.int .u8 0,.int .u8 0,.int .u8 0,.int .u8 0,.int .u8 0,.int .u8 0,.int .u8 0,.int .i64 0,.int .i64 0,.int .i64 0,.int .i64 0,.int .u8 0,.int .u8 0,.int .u8 0,.int .u8 0,.int .u8 0,.int .u8 0,.int .u8 0,.int .u8 0,.int .u8 0,.int .u8 0,.int .u8 0,.int .u8 0,.int .u8 0,.int .u8 0,.int .u8 0,.int .u8 0,.int .u8 0,.int .u8 0,.int .u8 0,.int .u8 0,.int .u8 0,.int .u8 0,.int .u8 0,.int .u8 0,.int .u8 0,.int .u8 0,.int .u8 0,.int .u8 0,.int .u8 0,.int .u8 0,.int .u8 0,.int .u8 0,.int .i64 0,.int .u8 0,.int .u8 0,.int .u8 0,.int .u8 0,.int .u8 0,.int .u8 0,.int .u8 0,.int .u8 0,.int .u8 0,.int .u8 0,.int .u8 0,.int .u8 0,.int .u8 0,.int .u8 0,.int .u8 0,.int .u8 0,.int .u8 0,.int .u8 0,.int .u8 0,.int .u8 0,.int .u8 0,.int .u8 0,.int .u8 0,.int .u8 0,.int .u8 0,.int .u8 0,.int .u8 0,.int .u8 0,.int .u8 0,.int .u8 0,.int .u8 0,.int .u8 0,.int .u8 0,.int .u8 0,.int .u8 0,.int .u8 0,.int .u8 0,.int .u8 0,.int .u8 0,.int .u8 0,.int .u8 0,.int .u8 0,.int .u8 0,.int .u8 0,.int .u8 0,.int .u8 0,.int .u8 0,.int .u8 0,.int .u8 0,.int .u8 0,.int .u8 0,.int .u8 0,.int .u8 0,.int .u8 0,.int .u8 0,.int .u8 0,.int .u8 0,.int .u8 0,.int .u8 0,.int .u8 0,.int .u8 0,.int .u8 0,.int .u8 0,.int .u8 0,.slice none 0 0,.int .i64 0,.int .i64 0,.int .i64 0,.int .u8 0,.int .u8 0,.int .u8 0,.int .u8 0,.int .u8 0,.int .u8 0,.int .u8 0,.int .u8 0,.int .u8 0,.int .u8 0,.int .u8 0,.int .u8 0,.int .u8 0,.int .u8 0,.int .u8 0,.int .u8 0,.int .u8 0,.int .u8 0,.int .u8 0,.int .u8 0,.int .u8 0,.int .u8 0,.int .u8 0,.int .u8 0,.int .u8 0,.int .u8 0,.int .u8 0,.int .u8 0,.int .u8 0,.int .u8 0,.int .u8 0,.int .u8 0,.slice none 0 0,.int .u8 0,.int .u8 0,.int .u8 0,.int .u8 0,.int .u8 0,.int .u8 0,.int .u8 0,.int .u8 0,.int .u8 0,.int .u8 0,.int .u8 0,.int .u8 0,.int .u8 0,.int .u8 0,.int .u8 0,.int .u8 0,.int .u8 0,.int .u8 0,.int .u8 0,.int .u8 0,.int .u8 0,.int .u8 0,.int .u8 0,.int .u8 0,.int .u8 0,.int .u8 0,.int .u8 0,.int .u8 0,.int .u8 0,.int .u8 0,.int .u8 0,.int .u8 0,.int .u8 0,.int .u8 0,.int .u8 0,.int .u8 0,.int .u8 0,.int .u8 0,.int .u8 0,.int .u8 0,.int .u8 0,.int .u8 0,.int .u8 0,.int .u8 0,.int .u8 0,.int .u8 0,.int .u8 0,.int .u8 0,.int .u8 0,.int .u8 0,.int .u8 0,.int .u8 0,.int .u8 0,.int .u8 0,.int .u8 0,.int .u8 0,.int .u8 0,.int .u8 0,.int .u8 0,.int .u8 0,.int .u8 0,.int .u8 0,.int .u8 0,.int .u8 0,.int .i64 0,.int .i64 0,.int .i64 0,.slice none 0 0,.int .u8 0,.int .u8 0,.int .u8 0,.int .u8 0,.int .u8 0,.int .u8 0,.int .u8 0,.int .u8 0,.int .u8 0,.int .u8 0,.int .u8 0,.int .u8 0,.int .u8 0,.int .u8 0,.int .u8 0,.int .u8 0,.int .u8 0,.int .u8 0,.int .u8 0,.int .u8 0,.int .u8 0,.int .u8 0,.int .u8 0,.int .u8 0,.int .u8 0,.int .u8 0,.int .u8 0,.int .u8 0,.int .u8 0,.int .u8 0,.int .u8 0,.int .u8 0,.int .i64 0,.int .i64 0,.int .i64 0,.int .i64 0,.int .i64 0,.string ⟨#[]⟩,.string ⟨#[]⟩],.agg #[.int .i64 0,.int .i64 0,.int .i64 0,.int .i64 0,.int .i64 0,.int .i64 0,.int .i64 0,.int .u8 0,.int .u8 0,.int .u8 0,.int .u8 0,.int .u8 0,.int .u8 0,.int .u8 0,.int .u8 0,.int .u8 0,.int .u8 0,.int .u8 0,.int .u8 0,.int .u8 0,.int .u8 0,.int .u8 0,.int .u8 0,.int .u8 0,.int .u8 0,.int .u8 0,.int .u8 0,.int .u8 0,.int .u8 0,.int .u8 0,.int .u8 0,.int .u8 0,.int .u8 0,.int .u8 0,.int .u8 0,.int .u8 0,.int .u8 0,.int .u8 0,.int .u8 0,.int .i64 0,.int .u8 0,.int .u8 0,.int .u8 0,.int .u8 0,.int .u8 0,.int .u8 0,.int .u8 0,.int .u8 0,.int .u8 0,.int .u8 0,.int .u8 0,.int .u8 0,.int .u8 0,.int .u8 0,.int .u8 0,.int .u8 0,.int .u8 0,.int .u8 0,.int .u8 0,.int .u8 0,.int .u8 0,.int .u8 0,.int .u8 0,.int .u8 0,.int .u8 0,.int .u8 0,.int .u8 0,.int .u8 0,.int .u8 0,.int .u8 0,.int .u8 0,.int .u8 0,.int .u8 0,.int .u8 0,.int .u8 0,.int .u8 0,.int .u8 0,.int .u8 0,.int .u8 0,.int .u8 0,.int .u8 0,.int .u8 0,.int .u8 0,.int .u8 0,.int .u8 0,.int .u8 0,.int .u8 0,.int .u8 0,.int .u8 0,.int .u8 0,.int .u8 0,.int .u8 0,.int .u8 0,.int .u8 0,.int .u8 0,.int .u8 0,.int .u8 0,.int .u8 0,.int .u8 0,.int .u8 0,.int .u8 0,.int .u8 0,.int .u8 0,.int .u8 0,.int .i64 0,.int .i64 0,.int .i64 0,.int .i64 0,.int .u8 0,.int .u8 0,.int .u8 0,.int .u8 0,.int .u8 0,.int .u8 0,.int .u8 0,.int .u8 0,.int .u8 0,.int .u8 0,.int .u8 0,.int .u8 0,.int .u8 0,.int .u8 0,.int .u8 0,.int .u8 0,.int .u8 0,.int .u8 0,.int .u8 0,.int .u8 0,.int .u8 0,.int .u8 0,.int .u8 0,.int .u8 0,.int .u8 0,.int .u8 0,.int .u8 0,.int .u8 0,.int .u8 0,.int .u8 0,.int .u8 0,.int .u8 0,.int .i64 0,.int .u8 0,.int .u8 0,.int .u8 0,.int .u8 0,.int .u8 0,.int .u8 0,.int .u8 0,.int .u8 0,.int .u8 0,.int .u8 0,.int .u8 0,.int .u8 0,.int .u8 0,.int .u8 0,.int .u8 0,.int .u8 0,.int .u8 0,.int .u8 0,.int .u8 0,.int .u8 0,.int .u8 0,.int .u8 0,.int .u8 0,.int .u8 0,.int .u8 0,.int .u8 0,.int .u8 0,.int .u8 0,.int .u8 0,.int .u8 0,.int .u8 0,.int .u8 0,.int .u8 0,.int .u8 0,.int .u8 0,.int .u8 0,.int .u8 0,.int .u8 0,.int .u8 0,.int .u8 0,.int .u8 0,.int .u8 0,.int .u8 0,.int .u8 0,.int .u8 0,.int .u8 0,.int .u8 0,.int .u8 0,.int .u8 0,.int .u8 0,.int .u8 0,.int .u8 0,.int .u8 0,.int .u8 0,.int .u8 0,.int .u8 0,.int .u8 0,.int .u8 0,.int .u8 0,.int .u8 0,.int .u8 0,.int .u8 0,.int .u8 0,.int .u8 0,.slice none 0 0,.int .i64 0,.int .i64 0,.int .i64 0,.int .u8 0,.int .u8 0,.int .u8 0,.int .u8 0,.int .u8 0,.int .u8 0,.int .u8 0,.int .u8 0,.int .u8 0,.int .u8 0,.int .u8 0,.int .u8 0,.int .u8 0,.int .u8 0,.int .u8 0,.int .u8 0,.int .u8 0,.int .u8 0,.int .u8 0,.int .u8 0,.int .u8 0,.int .u8 0,.int .u8 0,.int .u8 0,.int .u8 0,.int .u8 0,.int .u8 0,.int .u8 0,.int .u8 0,.int .u8 0,.int .u8 0,.int .u8 0,.slice none 0 0,.int .u8 0,.int .u8 0,.int .u8 0,.int .u8 0,.int .u8 0,.int .u8 0,.int .u8 0,.int .u8 0,.int .u8 0,.int .u8 0,.int .u8 0,.int .u8 0,.int .u8 0,.int .u8 0,.int .u8 0,.int .u8 0,.int .u8 0,.int .u8 0,.int .u8 0,.int .u8 0,.int .u8 0,.int .u8 0,.int .u8 0,.int .u8 0,.int .u8 0,.int .u8 0,.int .u8 0,.int .u8 0,.int .u8 0,.int .u8 0,.int .u8 0,.int .u8 0,.int .u8 0,.int .u8 0,.int .u8 0,.int .u8 0,.int .u8 0,.int .u8 0,.int .u8 0,.int .u8 0,.int .u8 0,.int .u8 0,.int .u8 0,.int .u8 0,.int .u8 0,.int .u8 0,.int .u8 0,.int .u8 0,.int .u8 0,.int .u8 0,.int .u8 0,.int .u8 0,.int .u8 0,.int .u8 0,.int .u8 0,.int .u8 0,.int .u8 0,.int .u8 0,.int .u8 0,.int .u8 0,.int .u8 0,.int .u8 0,.int .u8 0,.int .u8 0,.int .i64 0,.int .i64 0,.int .i64 0,.slice none 0 0,.int .u8 0,.int .u8 0,.int .u8 0,.int .u8 0,.int .u8 0,.int .u8 0,.int .u8 0,.int .u8 0,.int .u8 0,.int .u8 0,.int .u8 0,.int .u8 0,.int .u8 0,.int .u8 0,.int .u8 0,.int .u8 0,.int .u8 0,.int .u8 0,.int .u8 0,.int .u8 0,.int .u8 0,.int .u8 0,.int .u8 0,.int .u8 0,.int .u8 0,.int .u8 0,.int .u8 0,.int .u8 0,.int .u8 0,.int .u8 0,.int .u8 0,.int .u8 0,.int .i64 0,.int .i64 0,.int .i64 0,.int .i64 0,.int .i64 0,.string ⟨#[]⟩,.string ⟨#[]⟩]],[]⟩ 8 (by kernel_rfl) (by kernel_rfl) (by kernel_rfl) (by kernel_rfl))
  laidOut rfl rfl Try.underlying4 (fun H ds h=>by
   rw[Try.params3]at h
   match ds,h with
   |[d1,d2],_=>rfl)
  (fun t ht=>by
   rw[Try.params3]at ht;simp at ht;rcases ht with rfl|rfl
   all_goals exact⟨by kernel_rfl,of_decide_eq_true (by kernel_rfl)⟩)
  (fun t ht=>by
   rw[Try.params3]at ht;simp at ht;rcases ht with rfl|rfl
   all_goals kernel_rfl)
  (fun W g x h=>by cases h) law3
theorem over3:Rows.msgPutsRow.holds Try.pinned (OpenSpec.ofChange Rows.msgPutsSpec):=
 OpenClaim.holds_of_wide 3 Try.f3 rfl rfl rfl rfl rfl rfl rfl ⟨rfl,rfl,rfl,rfl,rfl⟩ rfl rfl rfl rfl rfl (by kernel_rfl) Try.func3 (by kernel_rfl)
  (of_decide_eq_true (by kernel_rfl)) (by unfold Func.isWrapper;first|(rw[if_pos (by decide+kernel)];kernel_rfl)|(rw[if_neg (by decide+kernel)];exact⟨rfl,rfl⟩))
  (fun os started H enc _=>lifted3 os started H enc)
theorem msgPuts_holds:Rows.MsgPutsSaid:=over3
#print axioms msgPuts_holds
end Go.Proofs.Ytegamlopcdjiaaa.Sha
