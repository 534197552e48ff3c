/- For every input ViewsMost returns true and leaves its arguments as they were; no conditions. -/
import Derived.Test.YtjbglbhcbenhpaaWVw10
import Derived.Test.YtjbglbhcbenhpaaG3
import Derived.Test.YtjbglbhcbenhpaaRows
import Derived.OpenShut
import Derived.Below
namespace Go.Proofs.Ytjbglbhcbenhpaa.Sha
open Go Go.Abs Go.RowKit Go.Abs.Sha Go.Abs.Srt
set_option linter.unusedSimpArgs false
set_option linter.unusedVariables false
set_option maxRecDepth 100000
theorem p8:prepF Try.prog 8 12 [[0,1,5,6],[0,1,5,9],[0,1,5,9,10,11]] []=some pf8:=by kernel_rfl
theorem p88:prepF Try.prog 88 3 [] []=some pf88:=by kernel_rfl
theorem p69:prepF Try.prog 69 3 [] []=some pf69:=by kernel_rfl
theorem p66:prepF Try.prog 66 3 [] []=some pf66:=by kernel_rfl
theorem p110:prepF Try.prog 110 9 [[0,1,7,8]] []=some pf110:=by kernel_rfl
theorem p87:prepF Try.prog 87 5 [] []=some pf87:=by kernel_rfl
theorem p64:prepF Try.prog 64 3 [] []=some pf64:=by kernel_rfl
theorem p65:prepF Try.prog 65 3 [] [5,7]=some pf65:=by kernel_rfl
theorem p33:prepF Try.prog 33 9 [] []=some pf33:=by kernel_rfl
theorem p36:prepF Try.prog 36 3 [] []=some pf36:=by kernel_rfl
theorem p68:prepF Try.prog 68 3 [] [1]=some pf68:=by kernel_rfl
theorem p39:prepF Try.prog 39 4 [] []=some pf39:=by kernel_rfl
theorem p40:prepF Try.prog 40 14 [[1,5,11,12,13]] []=some pf40:=by kernel_rfl
theorem p32:prepF Try.prog 32 3 [] []=some pf32:=by kernel_rfl
theorem p37:prepF Try.prog 37 4 [[0,3]] []=some pf37:=by kernel_rfl
theorem det_ZMc:(ZMc).Det:=by
 intro vs G Q h;unfold ZMc at h⊢;split at h<;>first|exact h.elim|exact det00 h|exact det0 h|exact detE1 h|exact detE2 h|exact detE3 h|exact detE4 h|exact detE5 h|exact detE6 h|exact detE7 h|exact detN h|exact detA h|exact detN0 h|exact detN1 h|exact detN2 h|exact detN3 h|exact detA0 h|exact detA1 h|exact detA2 h|exact detA3 h|exact detIf h
theorem det_SNo:(SNo).Det:=by
 intro vs G Q h;unfold SNo at h⊢;split at h<;>first|exact h.elim|exact det00 h|exact det0 h|exact detE1 h|exact detE2 h|exact detE3 h|exact detE4 h|exact detE5 h|exact detE6 h|exact detE7 h|exact detN h|exact detA h|exact detN0 h|exact detN1 h|exact detN2 h|exact detN3 h|exact detA0 h|exact detA1 h|exact detA2 h|exact detA3 h|exact detIf h
theorem det_ZQu:(ZQu).Det:=by
 intro vs G Q h;unfold ZQu at h⊢;split at h<;>first|exact h.elim|exact det00 h|exact det0 h|exact detE1 h|exact detE2 h|exact detE3 h|exact detE4 h|exact detE5 h|exact detE6 h|exact detE7 h|exact detN h|exact detA h|exact detN0 h|exact detN1 h|exact detN2 h|exact detN3 h|exact detA0 h|exact detA1 h|exact detA2 h|exact detA3 h|exact detIf h
theorem det_ZIv:(ZIv).Det:=by
 intro vs G Q h;unfold ZIv at h⊢;split at h<;>first|exact h.elim|exact det00 h|exact det0 h|exact detE1 h|exact detE2 h|exact detE3 h|exact detE4 h|exact detE5 h|exact detE6 h|exact detE7 h|exact detN h|exact detA h|exact detN0 h|exact detN1 h|exact detN2 h|exact detN3 h|exact detA0 h|exact detA1 h|exact detA2 h|exact detA3 h|exact detIf h
theorem det_ZCv:(ZCv).Det:=by
 intro vs G Q h;unfold ZCv at h⊢;split at h<;>first|exact h.elim|exact det00 h|exact det0 h|exact detE1 h|exact detE2 h|exact detE3 h|exact detE4 h|exact detE5 h|exact detE6 h|exact detE7 h|exact detN h|exact detA h|exact detN0 h|exact detN1 h|exact detN2 h|exact detN3 h|exact detA0 h|exact detA1 h|exact detA2 h|exact detA3 h|exact detIf h
theorem det_ZMv:(ZMv).Det:=by
 intro vs G Q h;unfold ZMv at h⊢;split at h<;>first|exact h.elim|exact det00 h|exact det0 h|exact detE1 h|exact detE2 h|exact detE3 h|exact detE4 h|exact detE5 h|exact detE6 h|exact detE7 h|exact detN h|exact detA h|exact detN0 h|exact detN1 h|exact detN2 h|exact detN3 h|exact detA0 h|exact detA1 h|exact detA2 h|exact detA3 h|exact detIf h
theorem det_ZLv:(ZLv).Det:=by
 intro vs G Q h;unfold ZLv at h⊢;split at h
 ·exact detLvx h
 ·exact h.elim
theorem det_ZHv:(ZHv).Det:=by
 intro vs G Q h;unfold ZHv at h⊢;split at h<;>first|exact h.elim|exact det00 h|exact det0 h|exact detE1 h|exact detE2 h|exact detE3 h|exact detE4 h|exact detE5 h|exact detE6 h|exact detE7 h|exact detN h|exact detA h|exact detN0 h|exact detN1 h|exact detN2 h|exact detN3 h|exact detA0 h|exact detA1 h|exact detA2 h|exact detA3 h|exact detIf h
theorem det_ZNv:(ZNv).Det:=by
 intro vs G Q h;unfold ZNv at h⊢;split at h<;>first|exact h.elim|exact det00 h|exact det0 h|exact detE1 h|exact detE2 h|exact detE3 h|exact detE4 h|exact detE5 h|exact detE6 h|exact detE7 h|exact detN h|exact detA h|exact detN0 h|exact detN1 h|exact detN2 h|exact detN3 h|exact detA0 h|exact detA1 h|exact detA2 h|exact detA3 h|exact detIf h
theorem det_ZSo:(ZSo).Det:=by
 intro vs G Q h;unfold ZSo at h⊢;split at h
 ·obtain⟨zs,a,b,c,e,hq⟩:=h;exact⟨_,hq,fun Q2 h2=>⟨zs,a,b,c,h2⟩⟩
 ·exact h.elim
theorem det_ZVv:(ZVv).Det:=by
 intro vs G Q h;unfold ZVv at h⊢;split at h<;>first|exact h.elim|exact det00 h|exact det0 h|exact detE1 h|exact detE2 h|exact detE3 h|exact detE4 h|exact detE5 h|exact detE6 h|exact detE7 h|exact detN h|exact detA h|exact detN0 h|exact detN1 h|exact detN2 h|exact detN3 h|exact detA0 h|exact detA1 h|exact detA2 h|exact detA3 h|exact detIf h
theorem det_ZJv:(ZJv).Det:=by
 intro vs G Q h;unfold ZJv at h⊢;split at h<;>first|exact h.elim|exact det00 h|exact det0 h|exact detE1 h|exact detE2 h|exact detE3 h|exact detE4 h|exact detE5 h|exact detE6 h|exact detE7 h|exact detN h|exact detA h|exact detN0 h|exact detN1 h|exact detN2 h|exact detN3 h|exact detA0 h|exact detA1 h|exact detA2 h|exact detA3 h|exact detIf h
theorem det_ZAv:(ZAv).Det:=by
 intro vs G Q h;unfold ZAv at h⊢;split at h<;>first|exact h.elim|exact det00 h|exact det0 h|exact detE1 h|exact detE2 h|exact detE3 h|exact detE4 h|exact detE5 h|exact detE6 h|exact detE7 h|exact detN h|exact detA h|exact detN0 h|exact detN1 h|exact detN2 h|exact detN3 h|exact detA0 h|exact detA1 h|exact detA2 h|exact detA3 h|exact detIf h
theorem det_ZAv0:(ZAv0).Det:=by
 intro vs G Q h;unfold ZAv0 at h⊢;split at h<;>first|exact h.elim|exact det00 h|exact det0 h|exact detE1 h|exact detE2 h|exact detE3 h|exact detE4 h|exact detE5 h|exact detE6 h|exact detE7 h|exact detN h|exact detA h|exact detN0 h|exact detN1 h|exact detN2 h|exact detN3 h|exact detA0 h|exact detA1 h|exact detA2 h|exact detA3 h|exact detIf h
theorem own:ownKnob Try.prog.godebug=none:=by kernel_rfl
theorem laidOut:laidOutB Try.prog=true:=by kernel_rfl
noncomputable def EE:Env:=⟨Try.prog,[]⟩
noncomputable def T88:List (Nat×Spec1):=(88,ZMc)::[]
theorem g88:Abs.Good EE T88:=(Abs.Good.nil EE).cons det_ZMc fun vs G Q h=>by
 unfold ZMc at h;split at h
 ·exact (Abs.Good.nil EE).ret (E:=EE) p88 rfl (walk88 h)
 ·exact h.elim
noncomputable def T69:List (Nat×Spec1):=(69,SNo)::T88
theorem g69:Abs.Good EE T69:=g88.cons det_SNo fun vs G Q h=>by
 unfold SNo at h;split at h
 ·exact g88.ret (E:=EE) p69 rfl (walk69 h)
 ·exact h.elim
noncomputable def T66:List (Nat×Spec1):=(66,ZQu)::T69
theorem g66:Abs.Good EE T66:=g69.cons det_ZQu fun vs G Q h=>by
 unfold ZQu at h;split at h
 ·obtain⟨hn,h⟩:=h;exact g69.ret (E:=EE) p66 rfl (walk66 rfl hn h)
 ·exact h.elim
noncomputable def T110:List (Nat×Spec1):=(110,ZIv)::T66
theorem g110:Abs.Good EE T110:=g66.cons det_ZIv fun vs G Q h=>by
 unfold ZIv at h;split at h
 ·obtain⟨xs,⟨hx,hl⟩,h⟩:=h;exact g66.ret (E:=EE) p110 rfl (walk110 rfl (by kernel_rfl) hx hl h)
 ·exact h.elim
noncomputable def T87:List (Nat×Spec1):=(87,ZCv)::T110
theorem g87:Abs.Good EE T87:=g110.cons det_ZCv fun vs G Q h=>by
 unfold ZCv at h;split at h
 ·obtain⟨xs,⟨hx,hl⟩,h⟩:=h;exact g110.ret (E:=EE) p87 rfl (walk87 rfl hx hl h)
 ·exact h.elim
noncomputable def T64:List (Nat×Spec1):=(64,ZMv)::T87
theorem g64:Abs.Good EE T64:=g87.cons det_ZMv fun vs G Q h=>by
 unfold ZMv at h;split at h
 ·obtain⟨xs,⟨hx,hl⟩,h⟩:=h;exact g87.ret (E:=EE) p64 rfl (walk64 rfl rfl hx hl h)
 ·exact h.elim
noncomputable def T65:List (Nat×Spec1):=(65,ZLv)::T64
theorem g65:Abs.Good EE T65:=g64.cons det_ZLv fun vs G Q h=>by
 unfold ZLv at h;split at h
 ·obtain⟨⟨hp,hl⟩,h⟩:=h;exact g64.ret (E:=EE) p65 rfl (walk65 hp hl h)
 ·exact h.elim
noncomputable def T33:List (Nat×Spec1):=(33,ZHv)::T65
theorem g33:Abs.Good EE T33:=g65.cons det_ZHv fun vs G Q h=>by
 unfold ZHv at h;split at h
 ·obtain⟨xs,⟨hx,hl,hi,hv⟩,h⟩:=h;exact Ret.low (g65.ret (E:=EE) p33 rfl (walk33 rfl rfl hx hl hi hv h))
 ·exact h.elim
noncomputable def T36:List (Nat×Spec1):=(36,ZNv)::T33
theorem g36:Abs.Good EE T36:=g33.cons det_ZNv fun vs G Q h=>by
 unfold ZNv at h;split at h
 ·obtain⟨hn,h⟩:=h;exact g33.ret (E:=EE) p36 rfl (walk36 rfl hn h)
 ·exact h.elim
noncomputable def T67:List (Nat×Spec1):=(67,ZSo)::T36
theorem g67:Abs.Good EE T67:=g36.cons det_ZSo fun vs G Q h=>by
 unfold ZSo at h;split at h
 ·exact ret_sorted (E:=EE) rfl (by unfold ZSo;exact h)
 ·exact h.elim
noncomputable def T68:List (Nat×Spec1):=(68,ZVv)::T67
theorem g68:Abs.Good EE T68:=g67.cons det_ZVv fun vs G Q h=>by
 unfold ZVv at h;split at h
 ·exact g67.ret (E:=EE) p68 rfl (walk68n h)
 ·exact g67.ret (E:=EE) p68 rfl (walk68s h)
 ·exact h.elim
noncomputable def T39:List (Nat×Spec1):=(39,ZJv)::T68
theorem g39:Abs.Good EE T39:=g68.cons det_ZJv fun vs G Q h=>by
 unfold ZJv at h;split at h
 ·obtain⟨xs,⟨hx,hl⟩,h⟩:=h;exact Ret.low (g68.ret (E:=EE) p39 rfl (walk39 rfl rfl rfl rfl hx hl (fun G2 he=>⟨_,_,.dropAll he,h⟩)))
 ·exact h.elim
noncomputable def T40:List (Nat×Spec1):=(40,ZAv)::T39
theorem g40:Abs.Good EE T40:=g39.cons det_ZAv fun vs G Q h=>by
 unfold ZAv at h;split at h
 ·obtain⟨xs,⟨hx,hl⟩,h⟩:=h;exact g39.ret (E:=EE) p40 rfl (walk40 rfl hx hl h)
 ·exact h.elim
noncomputable def T32:List (Nat×Spec1):=(32,ZAv0)::T40
theorem g32:Abs.Good EE T32:=g40.cons det_ZAv0 fun vs G Q h=>by
 unfold ZAv0 at h;split at h
 ·exact g40.ret (E:=EE) p32 rfl (walk32 rfl rfl rfl rfl h)
 ·exact h.elim
noncomputable def T37:List (Nat×Spec1):=(37,ZQu)::T32
theorem g37:Abs.Good EE T37:=g32.cons det_ZQu fun vs G Q h=>by
 unfold ZQu at h;split at h
 ·obtain⟨hn,h⟩:=h;exact g32.ret (E:=EE) p37 rfl (walk37 h)
 ·exact h.elim
theorem law8:∀vs:List V,TyAll Try.prog 12 Try.f8.params.toList vs→Ret EE 8 vs [] (fun r _=>r= .v (.bool true)):=by
 intro vs h
 simp only[Try.params8,TyAll]at h
 obtain⟨x,l,rfl,h1,_,_,rfl,h2,rfl⟩:=h
 obtain⟨n,rfl,jn⟩:=int_of h1
 obtain⟨ps,rfl,wp⟩:=pairs_of h2
 exact g37.ret (E:=EE) p8 rfl (walk8 rfl rfl rfl rfl jn wp rfl)
set_option maxRecDepth 100000 in
theorem lifted8 (os:Os) (started:os.Started) (H:Type) (enc:TypeId×Value→H):
  ReturnsInHanded {} Try.checked os 8 .any (Rows.viewsMostSpec.pre6 enc Try.prog Try.f8 Rows.viewsMostRow.domain false) (Rows.viewsMostSpec.post enc Try.prog Try.f8 false true false false):=
 law_lifted (C:=Try.checked) (fn:=Try.f8) (n:=12) (tab:=[]) (tb:=4) own started (by kernel_rfl) Try.func8
  (ChangeSpec.witness6 (enc:=enc) (C:=Try.checked) false ⟨#[],#[.int .i64 0,.slice none 0 0],[]⟩ 8 (by kernel_rfl) (by kernel_rfl) (by kernel_rfl) (by kernel_rfl))
  laidOut rfl rfl Try.underlying4 (fun H ds h=>by
   rw[Try.params8]at h
   match ds,h with
   |[d1,d2],_=>rfl)
  (fun t ht=>by
   rw[Try.params8]at ht;simp at ht;rcases ht with rfl|rfl
   all_goals exact⟨by kernel_rfl,of_decide_eq_true (by kernel_rfl)⟩)
  (fun t ht=>by
   rw[Try.params8]at ht;simp at ht;rcases ht with rfl|rfl
   all_goals kernel_rfl)
  (fun W g x h=>by cases h) law8
theorem over8:Rows.viewsMostRow.holds Try.pinned (OpenSpec.ofChange Rows.viewsMostSpec):=
 OpenClaim.holds_of_wide 8 Try.f8 rfl rfl rfl rfl rfl rfl rfl ⟨rfl,rfl,rfl,rfl,rfl⟩ rfl rfl rfl rfl rfl (by kernel_rfl) Try.func8 (by kernel_rfl)
  (of_decide_eq_true (by kernel_rfl)) (by unfold Func.isWrapper;first|(rw[if_pos (by decide+kernel)];kernel_rfl)|(rw[if_neg (by decide+kernel)];exact⟨rfl,rfl⟩))
  (fun os started H enc _=>lifted8 os started H enc)
theorem viewsMost_holds:Rows.ViewsMostSaid:=over8
#print axioms viewsMost_holds
end Go.Proofs.Ytjbglbhcbenhpaa.Sha
