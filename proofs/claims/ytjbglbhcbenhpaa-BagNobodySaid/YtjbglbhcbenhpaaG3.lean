/- Laws over plain values, and what functions of the program hand back; no conditions. -/
import Derived.Test.YtjbglbhcbenhpaaG1
import Derived.Test.YtjbglbhcbenhpaaG2
namespace Go.Proofs.Ytjbglbhcbenhpaa.Sha
open Go Go.Abs Go.Abs.Sha
set_option linter.unusedSimpArgs false
set_option linter.unusedVariables false
set_option maxRecDepth 100000
def pf95:PF:=
 PF.mk 2 5 20 ((PC.reg [nn (.v 3) (.box (.v 1)),nn (.v 4) (.mv true (.c (.own .nils)))]).seq (((PC.reg [nn (.t 5) (.load 101 true (.v 3)),nn (.t 6)
  (.call 117 [.t 5]),nn (.t 7) (.bin .neq (.t 6) (.c (.v (.int .i64 0))))]).seq (PC.cond (.t 7) ((PC.reg [mm 8 0,nn (.t 9) (.call 118 [.t 8]),ma 4
  9]).seq PC.ret) PC.skip)).seq ((PC.regD 0 [mm 10 0,nn (.t 11) (.fadr 0 0 (.v 3)),nn (.t 12) (.load 1 false (.t 11)),nn (.t 13) (.conv .u64 (.t
  12)),nn (.t 14) (.call 120 [.t 10,.t 13]),nn (.t 15) (.load 101 true (.v 3)),nn (.t 16) (.call 119 [.t 14,.t 15]),nn (.t 17) (.fadr 7 69 (.v
  3)),nn (.t 18) (.load 32 true (.t 17)),nn (.t 19) (.call 97 [.t 16,.t 18]),ma 4 19] []).seq PC.ret))) [(.v 4,none)]
attribute [local irreducible] W Wops WopsD WL Wop WopD
variable {E:Env} {C:Abs.Spec} {l:List (Nat×Spec1)} {G:List (Nat×V)} {Q:R→List (Nat×V)→Prop}
set_option maxHeartbeats 1000000
def SAp:Spec1
 |[x,.agg [.int .i64 a1,.int .i64 a2,.int .i64 a3,.int .i64 a4,.arr .u8 32 a5,.int .i64 a6,.arr .u8 32 a7,.arr .u8 32 a8]],G,Q=>∃b,(byV x=some b∧b.length < 100000000∧(⟨a1,a2,a3,a4,a5,a6,a7,a8⟩:AttS).wf)∧Q (.own (.sli .u8 (if (⟨a1,a2,a3,a4,a5,a6,a7,a8⟩:AttS).may=true then b++(⟨a1,a2,a3,a4,a5,a6,a7,a8⟩:AttS).bytes else b))) G
 |_,_,_=>False
theorem SAp_eq {x a1 a2 a3 a4 a5 a6 a7 a8}:SAp [x,.agg [.int .i64 a1,.int .i64 a2,.int .i64 a3,.int .i64 a4,.arr .u8 32 a5,.int .i64 a6,.arr .u8 32 a7,.arr .u8 32 a8]] G Q=(∃b,(byV x=some b∧b.length < 100000000∧(⟨a1,a2,a3,a4,a5,a6,a7,a8⟩:AttS).wf)∧Q (.own (.sli .u8 (if (⟨a1,a2,a3,a4,a5,a6,a7,a8⟩:AttS).may=true then b++(⟨a1,a2,a3,a4,a5,a6,a7,a8⟩:AttS).bytes else b))) G):=rfl
theorem walk95 {a1 a2 a3 a4 a6:Int} {a5 a7 a8:List Int} {b:List Int} (h11:Abs.look l 117=some SCk) (h50:Abs.look l 118=some SCl) (h52:Abs.look l 120=some SNu) (h35:Abs.look l 119=some STg) (h46:Abs.look l 97=some SHa)
  (hb:b.length < 100000000) (hw:(⟨a1,a2,a3,a4,a5,a6,a7,a8⟩:AttS).wf) (h:Q (.own (.sli .u8 (if (⟨a1,a2,a3,a4,a5,a6,a7,a8⟩:AttS).may=true then b++(⟨a1,a2,a3,a4,a5,a6,a7,a8⟩:AttS).bytes else b))) G):Wf E (specOf l) pf95 [.sli .u8 b,.agg [.int .i64 a1,.int .i64 a2,.int .i64 a3,.int .i64 a4,.arr .u8 32 a5,.int .i64 a6,.arr .u8 32 a7,.arr .u8 32 a8]] G Q:=by
 by_cases hm:(⟨a1,a2,a3,a4,a5,a6,a7,a8⟩:AttS).May
 ·have hmay:(⟨a1,a2,a3,a4,a5,a6,a7,a8⟩:AttS).may=true:=decide_eq_true hm
  obtain⟨m1,m2⟩:=hm.1
  dsimp only at m1 m2
  obtain⟨s1,s2⟩:=AttS.said_ok hw hm
  obtain⟨r1,n1⟩:=num_ok (n:=a1.toNat) (by omega)
  have w1:=u64_of (n:=a1) (by omega) (by omega)
  rw[if_pos hmay]at h
  unfold AttS.bytes at h
  simp -implicitDefEqProofs only[pf95,h11,SCk_eq,hmay,h52,SNu_eq,w1,h35,STg_eq,h46,SHa_eq,go_sem,↓reduceIte]
  refine⟨hw,b,⟨rfl,by omega,by omega,by omega⟩,_,⟨byV_u8 _,by rw[List.length_append];omega,hw,hm⟩,_,⟨byV_u8 _,by simp only[List.length_append];omega,hw.ta.2⟩,?_⟩
  simpa only[List.append_assoc]using h
 ·have hmay:(⟨a1,a2,a3,a4,a5,a6,a7,a8⟩:AttS).may=false:=decide_eq_false hm
  rw[if_neg (by rw[hmay];exact Bool.false_ne_true)]at h
  simp -implicitDefEqProofs only[pf95,h11,SCk_eq,hmay,h50,SCl_eq,go_sem,↓reduceIte]
  exact⟨hw,b,⟨rfl,by omega⟩,h⟩
end Go.Proofs.Ytjbglbhcbenhpaa.Sha
namespace Go.Abs.Sha
open Go Go.Abs Go.Abs.Srt
set_option linter.unusedVariables false
set_option linter.unusedSimpArgs false
structure AccS where
 who:Int
 vi:Int
 pv:Int
 ph:List Int
 fr:List Int
 ta:List Int
def AccS.v (a:AccS):V:= .agg [.int .i64 a.who,.int .i64 a.vi,.int .i64 a.pv,.arr .u8 32 a.ph,.sli .i64 a.fr,.arr .u8 32 a.ta]
def AccS.zero:AccS:=⟨0,0,0,zero32,[],zero32⟩
structure AccS.wf (a:AccS):Prop where
 who:I64 a.who
 vi:I64 a.vi
 pv:I64 a.pv
 ph:H32 a.ph
 fr:∀x∈a.fr,I64 x
 ta:H32 a.ta
def riseI (n:Int):Int→List Int→Bool
 |_,[]=>true
 |low,w::ws=>if w≤low∨n < w then false else riseI n w ws
theorem riseI_all {n:Int}:∀{l:List Int} {low:Int},riseI n low l=true→∀x∈l,low < x∧x≤n
 |[],_,_=>fun x hx=>by cases hx
 |w::ws,low,h=>by
  unfold riseI at h
  split at h
  ·cases h
  ·rename_i hw
   intro x hx
   rcases List.mem_cons.1 hx with rfl|hx
   ·omega
   ·have:=riseI_all h x hx;omega
theorem riseI_len {n:Int}:∀{l:List Int} {low:Int},riseI n low l=true→l=[]∨(l.length:Int)≤n-low
 |[],_,_=> .inl rfl
 |w::ws,low,h=>by
  unfold riseI at h
  split at h
  ·cases h
  ·rename_i hw
   rcases riseI_len h with rfl|h2
   ·right;simp;omega
   ·right;simp only[List.length_cons];omega
def AccS.May (a:AccS):Prop:=(1≤a.who∧a.who≤21)∧(1≤a.vi∧a.vi≤1099511627776)∧(0≤a.pv∧a.pv < a.vi)∧a.fr≠[]∧riseI 21 0 a.fr=true
instance decMayA (a:AccS):Decidable a.May:=by unfold AccS.May;infer_instance
def AccS.may (a:AccS):Bool:=decide a.May
def nums:List Int→List Int
 |[]=>[]
 |x::l=>num x.toNat++nums l
theorem nums_ok:∀{l:List Int},(∀x∈l,0≤x∧x < 2000000000000)→Byt (nums l)∧(nums l).length≤10*l.length
 |[],_=>⟨byt_nil,by simp[nums]⟩
 |x::l,h=>by
  obtain⟨h1,h2⟩:=nums_ok (l:=l) fun y hy=>h y (List.mem_cons_of_mem _ hy)
  have hx:=h x (List.mem_cons_self ..)
  obtain⟨h3,h4⟩:=num_ok (n:=x.toNat) (by omega)
  refine⟨byt_app h3 h1,?_⟩
  simp only[nums,List.length_append,List.length_cons];omega
def AccS.said (a:AccS):List Int:=num a.vi.toNat++num a.pv.toNat++a.ph++num a.fr.length++nums a.fr
def AccS.tag (kt:List Int) (a:AccS):List Int:=tagH kt a.who 2 a.said
def AccS.right (kt:List Int) (n:Int) (a:AccS):Bool:=
 decide (quo n≠0)&&a.may&&decide (a.who≤n)&&decide ((a.fr.length:Int)=quo n)&&decide (a.fr.getLast?.getD 0≤n)&&decide (a.ta=a.tag kt)
theorem AccS.may_len {a:AccS} (h:a.May):a.fr.length≤21∧0 < a.fr.length∧∀x∈a.fr,0 < x∧x≤21:=by
 obtain⟨_,_,_,h4,h5⟩:=h
 refine⟨?_,List.length_pos_iff.2 h4,riseI_all h5⟩
 rcases riseI_len h5 with h|h
 ·exact absurd h h4
 ·omega
theorem AccS.said_ok {a:AccS} (h:a.wf) (hm:a.May):Byt a.said∧a.said.length≤300:=by
 obtain⟨l1,l2,l3⟩:=AccS.may_len hm
 obtain⟨m1,m2,m3,m4,m5⟩:=hm
 obtain⟨a1,a2⟩:=num_ok (n:=a.vi.toNat) (by omega)
 obtain⟨b1,b2⟩:=num_ok (n:=a.pv.toNat) (by omega)
 obtain⟨c1,c2⟩:=num_ok (n:=a.fr.length) (by omega)
 obtain⟨d1,d2⟩:=nums_ok (l:=a.fr) fun x hx=>by have:=l3 x hx;omega
 refine⟨byt_app (byt_app (byt_app (byt_app a1 b1) h.ph.1) c1) d1,?_⟩
 have:=h.ph.2
 simp only[AccS.said,List.length_append];omega
theorem AccS.zero_wf:AccS.zero.wf:=⟨by decide,by decide,by decide,h32_zero,(fun x hx=>by cases hx),h32_zero⟩
structure MkOk (kt:List Int) (by_ n view:Int) (l:List AttS) (a:AccS) (fs:List AttS):Prop where
 q0:quo n≠0
 ne:fs≠[]
 fr:a.fr=fs.map (·.who)
 len:(a.fr.length:Int)=quo n
 find:∀x∈fs,l.find? (fun y=>decide (y.who=x.who))=some x
 ge:∀x∈fs,x.pv≤a.pv
 told:∃x∈fs,x.pv=a.pv∧x.pa=a.ph
 right:a.right kt n=true
 may:a.May
 who:a.who=by_
end Go.Abs.Sha
namespace Go.Abs
open Go Go.RowKit
set_option linter.unusedVariables false
set_option linter.unusedSimpArgs false
namespace Sha
end Sha
end Go.Abs
namespace Go.Abs
open Go Go.RowKit
set_option linter.unusedVariables false
set_option linter.unusedSimpArgs false
theorem Low.rebase {G Gr:List (Nat×V)} (hd:∀j,look Gr j=none→look G j=none) (hs:∀j r,look G j=some r→∃r',look Gr j=some r'∧r.same r'=true) {r:R} {G':List (Nat×V)} {r2:R} {G2:List (Nat×V)} (h:Low Gr r G' r2 G2):Low G r G' r2 G2:=by
 induction h with
 |refl r G'=>exact .refl r G'
 |fz id L k h0 h1 h2 h3 h4 h ih=>
  refine .fz id L k (hd id h0) h1 h2 h3 (fun j r hj=> ?_) ih
  obtain⟨r',e1,e2⟩:=hs j r hj
  obtain⟨r2,e3,e4⟩:=h4 j r' e1
  exact⟨r2,e3,V.same_trans' e2 e4⟩
 |wk h1 h2 h ih=>exact .wk h1 h2 ih
 |drop h1 h2 h ih=>
  refine .drop h1 (fun j r hj=> ?_) ih
  obtain⟨r',e1,e2⟩:=hs j r hj
  obtain⟨r2,e3,e4⟩:=h2 j r' e1
  exact⟨r2,e3,V.same_trans' e2 e4⟩
theorem look_upd_none {G:List (Nat×V)} {id j:Nat} {y:V}:look (upd G id y) j=none→look G j=none:=by
 intro h
 by_cases e:j=id
 ·subst e
  cases hx:look G j with
  |none=>rfl
  |some x=>rw[look_upd_same hx]at h;cases h
 ·rwa [look_upd_ne e]at h
theorem Low.upd {G:List (Nat×V)} {id:Nat} {x y:V} (hx:look G id=some x) (hxy:x.same y=true) {r:R} {G':List (Nat×V)} {r2:R} {G2:List (Nat×V)} (h:Low (upd G id y) r G' r2 G2):Low G r G' r2 G2:=by
 refine h.rebase (fun j=>look_upd_none) (fun j r hj=> ?_)
 by_cases e:j=id
 ·subst e
  rw[hx]at hj;cases hj
  exact⟨y,look_upd_same hx,hxy⟩
 ·exact⟨r,by rw[look_upd_ne e];exact hj,V.same_refl r⟩
theorem Row.upd {G0 G:List (Nat×V)} {sz:Nat} {z x:V} {els:List V} (h:Row G0 G sz z x els) {id:Nat} {u y:V} (hid:look G0 id=some u):Row (upd G0 id y) (upd G id y) sz z x els:=by
 obtain⟨he,h⟩:=h
 have hG:=he id u hid
 refine⟨fun j w hj=> ?_,?_⟩
 ·by_cases e:j=id
  ·subst e;rw[look_upd_same hid]at hj;rw[look_upd_same hG];exact hj
  ·rw[look_upd_ne e]at hj⊢;exact he j w hj
 ·rcases h with h|⟨i,c,L,h1,h2,h3,h4⟩
  ·exact .inl h
  ·have ne:i≠id:=by rintro rfl;rw[hid]at h2;cases h2
   exact .inr ⟨i,c,L,h1,by rw[look_upd_ne ne];exact h2,by rw[look_upd_ne ne];exact h3,h4⟩
namespace Sha
structure RdMany (b:List Int) (w:Bool) (k:Nat) (l r:List Int) (w':Bool):Prop where
 num:∀x∈l,0≤x∧x≤21
 cnt:l.length=k
 byt:Byt r
 len:r.length≤b.length
 suf:∃u,b=u++r
 right:w'=false→w=false∧b=nums l++r
def AccS.bytes (a:AccS):List Int:=num a.who.toNat++a.said++a.ta
structure RdAccu (b:List Int) (w:Bool) (a:AccS) (r:List Int) (w':Bool):Prop where
 wf:a.wf
 cnt:a.fr.length≤21
 byt:Byt r
 len:r.length≤b.length
 suf:∃u,b=u++r
theorem AccS.bytes_ok {a:AccS} (hw:a.wf) (hm:a.May):Byt a.bytes∧a.bytes.length≤400:=by
 obtain⟨s1,s2⟩:=AccS.said_ok hw hm
 obtain⟨r1,n1⟩:=num_ok (n:=a.who.toNat) (by have:=hm.1;omega)
 refine⟨byt_app (byt_app r1 s1) hw.ta.1,?_⟩
 have:=hw.ta.2
 simp only[AccS.bytes,List.length_append];omega
end Sha
end Go.Abs
namespace Go.Abs.Sha
open Go Go.Abs Go.Abs.Srt
theorem sigs_of:∀{xs:List V},(∀e∈xs,∃p:Int×List Int,e=sgV p∧I64 p.1∧H32 p.2)→∃sg:List (Int×List Int),xs=sg.map sgV∧∀p∈sg,I64 p.1∧H32 p.2
 |[],_=>⟨[],rfl,fun a ha=>by cases ha⟩
 |x::xs,h=>by
  obtain⟨a,rfl,hw⟩:=h x (List.mem_cons_self ..)
  obtain⟨sg,rfl,hws⟩:=sigs_of (xs:=xs) fun e he=>h e (List.mem_cons_of_mem _ he)
  exact⟨a::sg,rfl,fun b hb=>by rcases List.mem_cons.1 hb with rfl|hb<;>first|exact hw|exact hws _ hb⟩
theorem list_of {α:Type} {f:α→V} {P:α→Prop}:∀{xs:List V},(∀e∈xs,∃a,e=f a∧P a)→∃as:List α,xs=as.map f∧∀a∈as,P a
 |[],_=>⟨[],rfl,fun a ha=>by cases ha⟩
 |x::xs,h=>by
  obtain⟨a,rfl,hw⟩:=h x (List.mem_cons_self ..)
  obtain⟨sg,rfl,hws⟩:=list_of (xs:=xs) fun e he=>h e (List.mem_cons_of_mem _ he)
  exact⟨a::sg,rfl,fun b hb=>by rcases List.mem_cons.1 hb with rfl|hb<;>first|exact hw|exact hws _ hb⟩
end Go.Abs.Sha
namespace Go.Abs
open Go Go.RowKit
set_option linter.unusedVariables false
set_option linter.unusedSimpArgs false
namespace Sha
def CertS.one (c:CertS):AttS:={ c.att with who:=1,ta:=zero32 }
def CertS.May (c:CertS):Prop:=c.one.May∧c.att.who=0∧c.att.ta=zero32∧c.sigs≠[]∧riseI 21 0 (c.sigs.map (·.1))=true
instance (c:CertS):Decidable c.May:=by unfold CertS.May;infer_instance
def CertS.may (c:CertS):Bool:=decide c.May
def CertS.ok (c:CertS):Prop:=c.att.wf∧(∀p∈c.sigs,I64 p.1∧H32 p.2)
def sigB:List (Int×List Int)→List Int
 |[]=>[]
 |p::l=>num p.1.toNat++p.2++sigB l
theorem sigB_ok:∀{l:List (Int×List Int)},(∀p∈l,(0≤p.1∧p.1≤21)∧H32 p.2)→Byt (sigB l)∧(sigB l).length≤42*l.length
 |[],_=>⟨byt_nil,by simp[sigB]⟩
 |p::l,h=>by
  obtain⟨h1,h2⟩:=h p (List.mem_cons_self ..)
  obtain⟨r1,n1⟩:=num_ok (n:=p.1.toNat) (by omega)
  obtain⟨i1,i2⟩:=sigB_ok (l:=l) fun q hq=>h q (List.mem_cons_of_mem _ hq)
  refine⟨byt_app (byt_app r1 h2.1) i1,?_⟩
  have:=h2.2
  simp only[sigB,List.length_append,List.length_cons];omega
def CertS.bytes (c:CertS):List Int:=c.att.said++num c.sigs.length++sigB c.sigs
structure RdSigs (b:List Int) (k:Nat) (l:List (Int×List Int)) (r:List Int):Prop where
 num:∀p∈l,(0≤p.1∧p.1≤21)∧H32 p.2
 cnt:l.length=k
 byt:Byt r
 len:r.length≤b.length
 suf:∃u,b=u++r
structure RdCert (b:List Int) (c:CertS) (r:List Int):Prop where
 wf:c.ok
 cnt:c.sigs.length≤21
 byt:Byt r
 len:r.length≤b.length
 suf:∃u,b=u++r
theorem CertS.may_len {c:CertS} (h:c.May):c.sigs.length≤21∧0 < c.sigs.length∧∀p∈c.sigs,0 < p.1∧p.1≤21:=by
 obtain⟨_,_,_,h4,h5⟩:=h
 refine⟨?_,List.length_pos_iff.2 h4,fun p hp=>riseI_all h5 _ (List.mem_map_of_mem hp)⟩
 rcases riseI_len h5 with h|h
 ·rw[List.map_eq_nil_iff.1 h];decide
 ·rw[List.length_map]at h;omega
theorem CertS.sigs_in {c:CertS} (hw:c.ok) (h:c.May):∀p∈c.sigs,(0≤p.1∧p.1≤21)∧H32 p.2:=fun p hp=>by
 have:=(CertS.may_len h).2.2 p hp
 exact⟨by omega,(hw.2 p hp).2⟩
theorem CertS.bytes_ok {c:CertS} (hw:c.ok) (hm:c.May):Byt c.bytes∧c.bytes.length≤1100:=by
 have hl:=(CertS.may_len hm).1
 have hs:=sigB_ok (CertS.sigs_in hw hm)
 have h1:c.one.wf:=⟨i64_of (by show (0:Int)≤1;decide) (by show (1:Int)≤1099511627776;decide),hw.1.ki,hw.1.vi,hw.1.ph,hw.1.pv,hw.1.ha,hw.1.pa,h32_zero⟩
 obtain⟨s1,s2⟩:=AttS.said_ok h1 hm.1
 obtain⟨r1,n1⟩:=num_ok (n:=c.sigs.length) (by omega)
 refine⟨byt_app (byt_app s1 r1) hs.1,?_⟩
 have s3:c.att.said.length≤104:=s2
 have:=hs.2
 simp only[CertS.bytes,List.length_append];omega
end Sha
end Go.Abs
namespace Go.Proofs.Ytjbglbhcbenhpaa.Sha
open Go Go.Abs Go.Abs.Sha Go.Abs.Srt
set_option linter.unusedSimpArgs false
set_option linter.unusedVariables false
set_option maxRecDepth 100000
def pf121:PF:=
 PF.mk 1 3 32 ((PC.reg [nn (.v 1) (.box (.v 0)),nn (.v 2) (.mv true (.c (.v (.bool false))))]).seq ((PC.reg [nn (.t 3) (.load 102 true (.v 1)),nn (.t
  4) (.build (.agg [.int .i64 0,.arr .u8 32 zz2]) [(0,.c
  (.v (.int .i64 1)))]),nn (.t 5) (.call 142 [.t 3,.t 4]),nn (.t 6) (.call 117 [.t 5]),nn (.t 7) (.bin .eql (.t 6) (.c (.v (.int .i64 0)))),nn (.t
  8) (.mv false (.t 7)),⟨.t 9,.fadr 1 101 (.v 1),some (.t 8,true)⟩,⟨.t 10,.load 1 false (.t 9),some (.t 8,true)⟩,⟨.t 11,.len (.t 10),some
  (.t 8,true)⟩,⟨.t 12,.bin .gtr (.t 11) (.c (.v (.int .i64 0))),some (.t 8,true)⟩,nn (.t 13) (.pick (.t 8) (.t 12) (.c (.v (.bool false)))),nn
  (.t 14) (.mv false (.t 13)),⟨.t 15,.fadr 1 101 (.v 1),some (.t 14,true)⟩,⟨.t 16,.load 1 false (.t 15),some (.t 14,true)⟩,⟨.t 17,.call 143
  [.t 16,.c (.v (.int .i64 21))],some (.t 14,true)⟩,nn (.t 18) (.pick (.t 14) (.t 17) (.c (.v (.bool false)))),nn (.t 19) (.mv false (.t 18)),⟨.t
  20,.fadr 0 0 (.v 1),some (.t 19,true)⟩,⟨.t 21,.fadr 0 0 (.t 20),some (.t 19,true)⟩,⟨.t 22,.load 1 false (.t 21),some (.t 19,true)⟩,⟨.t
  23,.bin .eql (.t 22) (.c (.v (.int .i64 0))),some (.t 19,true)⟩,nn (.t 24) (.pick (.t 19) (.t 23) (.c (.v (.bool false)))),nn (.t 25) (.mv false
  (.t 24)),⟨.t 26,.fadr 0 0 (.v 1),some (.t 25,true)⟩,⟨.t 27,.fadr 7 69 (.t 26),some (.t 25,true)⟩,⟨.t 28,.load 32 true (.t 27),some (.t 25,
  true)⟩,⟨.t 29,.build (.arr .u8 32 zz2) [],some (.t
  25,true)⟩,⟨.t 30,.eqa false (.arr 32) (.t 28) (.t 29),some (.t 25,true)⟩,nn (.t 31) (.pick (.t 25) (.t 30) (.c (.v (.bool false)))),ma 2
  31]).seq PC.ret)) [(.v 2,none)]
def pf54:PF:=
 PF.mk 1 3 23 ((PC.reg [nn (.v 1) (.box (.v 0)),nn (.v 2) (.mv true (.c (.v (.bool false))))]).seq ((PC.reg [nn (.t 3) (.load 102 true (.v 1)),nn (.t
  4) (.call 74 [.t 3]),nn (.t 5) (.mv false (.t 4)),⟨.t 6,.fadr 0 0 (.v 1),some (.t 5,true)⟩,⟨.t 7,.load 101 true (.t 6),some (.t 5,true)⟩,
  ⟨.t 8,.build (.agg [.int .i64 0,.arr .u8 32 zz2]) [(0,
  .c (.v (.int .i64 1)))],some (.t 5,true)⟩,⟨.t 9,.call 75 [.t 7,.t 8],some (.t 5,true)⟩,⟨.t 10,.call 51 [.t 9],some (.t 5,true)⟩,nn (.t
  11) (.pick (.t 5) (.t 10) (.c (.v (.bool false)))),nn (.t 12) (.mv false (.t 11)),⟨.t 13,.fadr 1 101 (.v 1),some (.t 12,true)⟩,⟨.t 14,.load 1
  false (.t 13),some (.t 12,true)⟩,⟨.t 15,.len (.t 14),some (.t 12,true)⟩,⟨.t 16,.bin .gtr (.t 15) (.c (.v (.int .i64 0))),some (.t 12,
  true)⟩,nn (.t 17) (.pick (.t 12) (.t 16) (.c (.v (.bool false)))),nn (.t 18) (.mv false (.t 17)),⟨.t 19,.fadr 1 101 (.v 1),some (.t 18,true)⟩,
  ⟨.t 20,.load 1 false (.t 19),some (.t 18,true)⟩,⟨.t 21,.call 76 [.t 20,.c (.v (.int .i64 21))],some (.t 18,true)⟩,nn (.t 22) (.pick (.t 18)
  (.t 21) (.c (.v (.bool false)))),ma 2 22]).seq PC.ret)) [(.v 2,none)]
attribute [local irreducible] W Wops WopsD WL Wop WopD
variable {E:Env} {C:Abs.Spec} {l:List (Nat×Spec1)} {G:List (Nat×V)} {Q:R→List (Nat×V)→Prop}
set_option maxHeartbeats 1000000
theorem risesB_eq {n:Int}:∀{l:List Int} {low:Int},risesB n low l=riseI n low l
 |[],_=>rfl
 |w::ws,low=>by unfold risesB riseI;rw[risesB_eq]
def ZMc:Spec1
 |[y],G,Q=>∃(a:AttS) (x:V) (sg:List (Int×List Int)),(y= .agg [a.v,x]∧SgV G x sg∧a.wf∧sg.length < 1000000)∧Q (.v (.bool (CertS.may ⟨a,sg⟩))) G
 |_,_,_=>False
theorem ZMc_eq {y}:ZMc [y] G Q=(∃(a:AttS) (x:V) (sg:List (Int×List Int)),(y= .agg [a.v,x]∧SgV G x sg∧a.wf∧sg.length < 1000000)∧Q (.v (.bool (CertS.may ⟨a,sg⟩))) G):=rfl
theorem one_wf {a:AttS} (h:a.wf):(⟨1,a.ki,a.vi,a.ph,a.ha,a.pv,a.pa,zero32⟩:AttS).wf:=⟨i64_of (by show (0:Int)≤1;decide) (by show (1:Int)≤1099511627776;decide),h.ki,h.vi,h.ph,h.pv,h.ha,h.pa,h32_zero⟩
theorem walk121i {a:AttS} {sg:List (Int×List Int)} (hW:Abs.look l 142=some ZWi) (hC:Abs.look l 117=some SCk) (hR:Abs.look l 143=some ZRs) (hw:a.wf) (hl:sg.length < 1000000) (h:Q (.v (.bool (CertS.may ⟨a,sg⟩))) G):Wf E (specOf l) pf121 [.agg [a.v,.sle 33 (sg.map sgV)]] G Q:=by
 have key:∀b:Bool,(b=true↔CertS.May ⟨a,sg⟩)→Q (.v (.bool b)) G:=fun b hb=>by
  have:b=CertS.may ⟨a,sg⟩:=by unfold CertS.may;rw[Bool.eq_iff_iff,hb];simp
  rw[this];exact h
 have ow:=one_wf hw
 obtain⟨a1,a2,a3,a4,a5,a6,a7,a8⟩:=a
 unfold CertS.May CertS.one at key
 dsimp only at key ow
 simp -implicitDefEqProofs only[pf121,AttS.v,hW,ZWi_eq,go_sem,↓reduceIte]
 refine⟨⟨a1,a2,a3,a4,a5,a6,a7,a8⟩,_,(1,zero32),⟨rfl,rfl,rfl,rfl⟩,?_⟩
 simp -implicitDefEqProofs only[withS,AttS.v,hC,SCk_eq,go_sem,↓reduceIte]
 refine⟨ow,?_⟩
 cases hq:AttS.may ⟨1,a2,a3,a4,a5,a6,a7,zero32⟩with
 |false=>
  have hn:¬AttS.May ⟨1,a2,a3,a4,a5,a6,a7,zero32⟩:=of_decide_eq_false hq
  try simp -implicitDefEqProofs only[go_sem,↓reduceIte]
  exact key false ⟨fun e=>(by cases e),fun e=>absurd e.1 hn⟩
 |true=>
  have hm:AttS.May ⟨1,a2,a3,a4,a5,a6,a7,zero32⟩:=of_decide_eq_true hq
  by_cases q2:sg=[]
  ·subst q2
   simp -implicitDefEqProofs only[List.map_nil,List.length_nil,Int.lt_irrefl,Int.natCast_zero,go_sem,↓reduceIte]
   exact key false ⟨fun e=>(by cases e),fun e=>absurd rfl e.2.2.2.1⟩
  have q2':(0:Int) < (sg.length:Int):=by have:=List.length_pos_iff.2 q2;omega
  have q2n:¬(sg.length:Int)≤0:=by omega
  simp -implicitDefEqProofs only[q2',q2n,List.length_map,hR,ZRs_eq,go_sem,↓reduceIte]
  refine⟨sg,⟨rfl,hl⟩,?_⟩
  rw[risesB_eq]
  cases hr:riseI 21 0 (sg.map (·.1))with
  |false=>
   try simp -implicitDefEqProofs only[go_sem,↓reduceIte]
   exact key false ⟨fun e=>(by cases e),fun e=>absurd e.2.2.2.2 (by rw[hr];decide)⟩
  |true=>
   by_cases q4:a1=0
   case neg=>
    simp -implicitDefEqProofs only[q4,go_sem,↓reduceIte]
    exact key false ⟨fun e=>(by cases e),fun e=>absurd e.2.1 q4⟩
   simp -implicitDefEqProofs only[q4,go_sem,↓reduceIte]
   refine key _ ?_
   rw[beq_iff_eq]
   exact⟨fun e=>⟨hm,q4,e,q2,hr⟩,fun e=>e.2.2.1⟩
theorem walk121s {a:AttS} {sg:List (Int×List Int)} {id c:Nat} {LL:List V} (hG:Abs.look G id=some (.agg LL)) (hLL:∀(i:Nat) p,sg[i]? =some p→LL[i]? =some (sgV p)) (hfl:sg.length≤LL.length) (hsz:∀y∈LL,V.size y=33) (hW:Abs.look l 142=some ZWi) (hC:Abs.look l 117=some SCk) (hR:Abs.look l 143=some ZRs) (hw:a.wf) (hl:sg.length < 1000000) (h:Q (.v (.bool (CertS.may ⟨a,sg⟩))) G):Wf E (specOf l) pf121 [.agg [a.v,.sob id 33 0 sg.length c]] G Q:=by
 have key:∀b:Bool,(b=true↔CertS.May ⟨a,sg⟩)→Q (.v (.bool b)) G:=fun b hb=>by
  have:b=CertS.may ⟨a,sg⟩:=by unfold CertS.may;rw[Bool.eq_iff_iff,hb];simp
  rw[this];exact h
 have ow:=one_wf hw
 obtain⟨a1,a2,a3,a4,a5,a6,a7,a8⟩:=a
 unfold CertS.May CertS.one at key
 dsimp only at key ow
 simp -implicitDefEqProofs only[pf121,AttS.v,hW,ZWi_eq,go_sem,↓reduceIte]
 refine⟨⟨a1,a2,a3,a4,a5,a6,a7,a8⟩,_,(1,zero32),⟨rfl,rfl,rfl,rfl⟩,?_⟩
 simp -implicitDefEqProofs only[withS,AttS.v,hC,SCk_eq,go_sem,↓reduceIte]
 refine⟨ow,?_⟩
 cases hq:AttS.may ⟨1,a2,a3,a4,a5,a6,a7,zero32⟩with
 |false=>
  have hn:¬AttS.May ⟨1,a2,a3,a4,a5,a6,a7,zero32⟩:=of_decide_eq_false hq
  try simp -implicitDefEqProofs only[go_sem,↓reduceIte]
  exact key false ⟨fun e=>(by cases e),fun e=>absurd e.1 hn⟩
 |true=>
  have hm:AttS.May ⟨1,a2,a3,a4,a5,a6,a7,zero32⟩:=of_decide_eq_true hq
  by_cases q2:sg=[]
  ·subst q2
   simp -implicitDefEqProofs only[List.map_nil,List.length_nil,Int.lt_irrefl,Int.natCast_zero,go_sem,↓reduceIte]
   exact key false ⟨fun e=>(by cases e),fun e=>absurd rfl e.2.2.2.1⟩
  have q2':(0:Int) < (sg.length:Int):=by have:=List.length_pos_iff.2 q2;omega
  have q2n:¬(sg.length:Int)≤0:=by omega
  simp -implicitDefEqProofs only[q2',q2n,List.length_map,hR,ZRs_eq,go_sem,↓reduceIte]
  refine⟨sg,LL,⟨rfl,hl,hG,hLL,hfl,hsz⟩,?_⟩
  rw[risesB_eq]
  cases hr:riseI 21 0 (sg.map (·.1))with
  |false=>
   try simp -implicitDefEqProofs only[go_sem,↓reduceIte]
   exact key false ⟨fun e=>(by cases e),fun e=>absurd e.2.2.2.2 (by rw[hr];decide)⟩
  |true=>
   by_cases q4:a1=0
   case neg=>
    simp -implicitDefEqProofs only[q4,go_sem,↓reduceIte]
    exact key false ⟨fun e=>(by cases e),fun e=>absurd e.2.1 q4⟩
   simp -implicitDefEqProofs only[q4,go_sem,↓reduceIte]
   refine key _ ?_
   rw[beq_iff_eq]
   exact⟨fun e=>⟨hm,q4,e,q2,hr⟩,fun e=>e.2.2.1⟩
theorem walk121n {a:AttS} (hW:Abs.look l 142=some ZWi) (hC:Abs.look l 117=some SCk) (hR:Abs.look l 143=some ZRs) (hw:a.wf) (h:Q (.v (.bool (CertS.may ⟨a,[]⟩))) G):Wf E (specOf l) pf121 [.agg [a.v,.nils]] G Q:=by
 have hm:CertS.may ⟨a,[]⟩=false:=decide_eq_false fun e=>e.2.2.2.1 rfl
 rw[hm]at h
 have ow:=one_wf hw
 obtain⟨a1,a2,a3,a4,a5,a6,a7,a8⟩:=a
 dsimp only at ow
 simp -implicitDefEqProofs only[pf121,AttS.v,hW,ZWi_eq,go_sem,↓reduceIte]
 refine⟨⟨a1,a2,a3,a4,a5,a6,a7,a8⟩,_,(1,zero32),⟨rfl,rfl,rfl,rfl⟩,?_⟩
 simp -implicitDefEqProofs only[withS,AttS.v,hC,SCk_eq,go_sem,↓reduceIte]
 refine⟨ow,?_⟩
 try simp -implicitDefEqProofs only[go_sem,↓reduceIte]
 first|exact h|exact⟨fun _=>h,fun _=>h⟩|trace_state
theorem walk54i {a:AttS} {sg:List (Int×List Int)} (hB:Abs.look l 74=some ZBa) (hW:Abs.look l 75=some ZWj) (hC:Abs.look l 51=some SMy) (hR:Abs.look l 76=some ZRs) (hw:a.wf) (hl:sg.length < 1000000) (h:Q (.v (.bool (CertS.may ⟨a,sg⟩))) G):Wf E (specOf l) pf54 [.agg [a.v,.sle 33 (sg.map sgV)]] G Q:=by
 have key:∀b:Bool,(b=true↔CertS.May ⟨a,sg⟩)→Q (.v (.bool b)) G:=fun b hb=>by
  have:b=CertS.may ⟨a,sg⟩:=by unfold CertS.may;rw[Bool.eq_iff_iff,hb];simp
  rw[this];exact h
 have ow:=one_wf hw
 obtain⟨a1,a2,a3,a4,a5,a6,a7,a8⟩:=a
 unfold CertS.May CertS.one at key
 dsimp only at key ow
 simp -implicitDefEqProofs only[pf54,AttS.v,hB,ZBa_eq,go_sem,↓reduceIte]
 refine⟨⟨a1,a2,a3,a4,a5,a6,a7,a8⟩,_,⟨rfl,rfl,rfl⟩,?_⟩
 by_cases q4:a1=0
 case neg=>
  simp -implicitDefEqProofs only[q4,go_sem,↓reduceIte]
  exact key false ⟨fun e=>(by cases e),fun e=>absurd e.2.1 q4⟩
 cases q5:a8==zero32 with
 |false=>
  simp -implicitDefEqProofs only[q4,q5,go_sem,↓reduceIte]
  exact key false ⟨fun e=>(by cases e),fun e=>absurd e.2.2.1 (by intro c;rw[c,beq_self_eq_true]at q5;cases q5)⟩
 |true=>
  have q5e:=eq_of_beq q5
  simp -implicitDefEqProofs only[q4,q5,hW,ZWj_eq,go_sem,↓reduceIte]
  refine⟨⟨0,a2,a3,a4,a5,a6,a7,a8⟩,(1,zero32),⟨rfl,rfl⟩,?_⟩
  simp -implicitDefEqProofs only[withS,AttS.v,hC,SMy_eq,go_sem,↓reduceIte]
  refine⟨ow,?_⟩
  cases hq:AttS.may ⟨1,a2,a3,a4,a5,a6,a7,zero32⟩with
  |false=>
   have hn:¬AttS.May ⟨1,a2,a3,a4,a5,a6,a7,zero32⟩:=of_decide_eq_false hq
   try simp -implicitDefEqProofs only[go_sem,↓reduceIte]
   exact key false ⟨fun e=>(by cases e),fun e=>absurd e.1 hn⟩
  |true=>
   have hm:AttS.May ⟨1,a2,a3,a4,a5,a6,a7,zero32⟩:=of_decide_eq_true hq
   by_cases q2:sg=[]
   ·subst q2
    simp -implicitDefEqProofs only[List.map_nil,List.length_nil,Int.lt_irrefl,Int.natCast_zero,go_sem,↓reduceIte]
    exact key false ⟨fun e=>(by cases e),fun e=>absurd rfl e.2.2.2.1⟩
   have q2':(0:Int) < (sg.length:Int):=by have:=List.length_pos_iff.2 q2;omega
   have q2n:¬(sg.length:Int)≤0:=by omega
   simp -implicitDefEqProofs only[q2',q2n,List.length_map,hR,ZRs_eq,go_sem,↓reduceIte]
   refine⟨sg,⟨rfl,hl⟩,?_⟩
   rw[risesB_eq]
   try simp -implicitDefEqProofs only[go_sem,↓reduceIte]
   refine key _ ?_
   exact⟨fun e=>⟨hm,q4,q5e,q2,e⟩,fun e=>e.2.2.2.2⟩
theorem walk54n {a:AttS} {sg:List (Int×List Int)} (hB:Abs.look l 74=some ZBa) (hW:Abs.look l 75=some ZWj) (hC:Abs.look l 51=some SMy) (hR:Abs.look l 76=some ZRs) (hw:a.wf) (hl:sg.length < 1000000) (h:Q (.v (.bool (CertS.may ⟨a,[]⟩))) G):Wf E (specOf l) pf54 [.agg [a.v,.nils]] G Q:=by
 have key:∀b:Bool,(b=true↔CertS.May ⟨a,[]⟩)→Q (.v (.bool b)) G:=fun b hb=>by
  have:b=CertS.may ⟨a,[]⟩:=by unfold CertS.may;rw[Bool.eq_iff_iff,hb];simp
  rw[this];exact h
 have ow:=one_wf hw
 obtain⟨a1,a2,a3,a4,a5,a6,a7,a8⟩:=a
 unfold CertS.May CertS.one at key
 dsimp only at key ow
 simp -implicitDefEqProofs only[pf54,AttS.v,hB,ZBa_eq,go_sem,↓reduceIte]
 refine⟨⟨a1,a2,a3,a4,a5,a6,a7,a8⟩,_,⟨rfl,rfl,rfl⟩,?_⟩
 by_cases q4:a1=0
 case neg=>
  simp -implicitDefEqProofs only[q4,go_sem,↓reduceIte]
  exact key false ⟨fun e=>(by cases e),fun e=>absurd e.2.1 q4⟩
 cases q5:a8==zero32 with
 |false=>
  simp -implicitDefEqProofs only[q4,q5,go_sem,↓reduceIte]
  exact key false ⟨fun e=>(by cases e),fun e=>absurd e.2.2.1 (by intro c;rw[c,beq_self_eq_true]at q5;cases q5)⟩
 |true=>
  have q5e:=eq_of_beq q5
  simp -implicitDefEqProofs only[q4,q5,hW,ZWj_eq,go_sem,↓reduceIte]
  refine⟨⟨0,a2,a3,a4,a5,a6,a7,a8⟩,(1,zero32),⟨rfl,rfl⟩,?_⟩
  simp -implicitDefEqProofs only[withS,AttS.v,hC,SMy_eq,go_sem,↓reduceIte]
  refine⟨ow,?_⟩
  cases hq:AttS.may ⟨1,a2,a3,a4,a5,a6,a7,zero32⟩with
  |false=>
   have hn:¬AttS.May ⟨1,a2,a3,a4,a5,a6,a7,zero32⟩:=of_decide_eq_false hq
   try simp -implicitDefEqProofs only[go_sem,↓reduceIte]
   exact key false ⟨fun e=>(by cases e),fun e=>absurd e.1 hn⟩
  |true=>
   have hm:AttS.May ⟨1,a2,a3,a4,a5,a6,a7,zero32⟩:=of_decide_eq_true hq
   try simp -implicitDefEqProofs only[go_sem,↓reduceIte]
   exact key false ⟨fun e=>(by cases e),fun e=>absurd rfl e.2.2.2.1⟩
theorem walk54s {a:AttS} {sg:List (Int×List Int)} {id c:Nat} {LL:List V} (hG:Abs.look G id=some (.agg LL)) (hLL:∀(i:Nat) p,sg[i]? =some p→LL[i]? =some (sgV p)) (hfl:sg.length≤LL.length) (hsz:∀y∈LL,V.size y=33) (hB:Abs.look l 74=some ZBa) (hW:Abs.look l 75=some ZWj) (hC:Abs.look l 51=some SMy) (hR:Abs.look l 76=some ZRs) (hw:a.wf) (hl:sg.length < 1000000) (h:Q (.v (.bool (CertS.may ⟨a,sg⟩))) G):Wf E (specOf l) pf54 [.agg [a.v,.sob id 33 0 sg.length c]] G Q:=by
 have key:∀b:Bool,(b=true↔CertS.May ⟨a,sg⟩)→Q (.v (.bool b)) G:=fun b hb=>by
  have:b=CertS.may ⟨a,sg⟩:=by unfold CertS.may;rw[Bool.eq_iff_iff,hb];simp
  rw[this];exact h
 have ow:=one_wf hw
 obtain⟨a1,a2,a3,a4,a5,a6,a7,a8⟩:=a
 unfold CertS.May CertS.one at key
 dsimp only at key ow
 simp -implicitDefEqProofs only[pf54,AttS.v,hB,ZBa_eq,go_sem,↓reduceIte]
 refine⟨⟨a1,a2,a3,a4,a5,a6,a7,a8⟩,_,⟨rfl,rfl,rfl⟩,?_⟩
 by_cases q4:a1=0
 case neg=>
  simp -implicitDefEqProofs only[q4,go_sem,↓reduceIte]
  exact key false ⟨fun e=>(by cases e),fun e=>absurd e.2.1 q4⟩
 cases q5:a8==zero32 with
 |false=>
  simp -implicitDefEqProofs only[q4,q5,go_sem,↓reduceIte]
  exact key false ⟨fun e=>(by cases e),fun e=>absurd e.2.2.1 (by intro c;rw[c,beq_self_eq_true]at q5;cases q5)⟩
 |true=>
  have q5e:=eq_of_beq q5
  simp -implicitDefEqProofs only[q4,q5,hW,ZWj_eq,go_sem,↓reduceIte]
  refine⟨⟨0,a2,a3,a4,a5,a6,a7,a8⟩,(1,zero32),⟨rfl,rfl⟩,?_⟩
  simp -implicitDefEqProofs only[withS,AttS.v,hC,SMy_eq,go_sem,↓reduceIte]
  refine⟨ow,?_⟩
  cases hq:AttS.may ⟨1,a2,a3,a4,a5,a6,a7,zero32⟩with
  |false=>
   have hn:¬AttS.May ⟨1,a2,a3,a4,a5,a6,a7,zero32⟩:=of_decide_eq_false hq
   try simp -implicitDefEqProofs only[go_sem,↓reduceIte]
   exact key false ⟨fun e=>(by cases e),fun e=>absurd e.1 hn⟩
  |true=>
   have hm:AttS.May ⟨1,a2,a3,a4,a5,a6,a7,zero32⟩:=of_decide_eq_true hq
   by_cases q2:sg=[]
   ·subst q2
    simp -implicitDefEqProofs only[List.map_nil,List.length_nil,Int.lt_irrefl,Int.natCast_zero,go_sem,↓reduceIte]
    exact key false ⟨fun e=>(by cases e),fun e=>absurd rfl e.2.2.2.1⟩
   have q2':(0:Int) < (sg.length:Int):=by have:=List.length_pos_iff.2 q2;omega
   have q2n:¬(sg.length:Int)≤0:=by omega
   simp -implicitDefEqProofs only[q2',q2n,List.length_map,hR,ZRs_eq,go_sem,↓reduceIte]
   refine⟨sg,LL,⟨rfl,hl,hG,hLL,hfl,hsz⟩,?_⟩
   rw[risesB_eq]
   try simp -implicitDefEqProofs only[go_sem,↓reduceIte]
   refine key _ ?_
   exact⟨fun e=>⟨hm,q4,q5e,q2,e⟩,fun e=>e.2.2.2.2⟩
def lp96_0:PC:=
 (PC.reg [nn (.t 58) (.bin .lss (.v 57) (.v 56))]).seq ((PC.cond (.t 58) PC.skip (PC.exit 2)).seq ((PC.block 3 ((PC.reg [nn (.t 59) (.iadrS 33 (.v 55)
  (.v 57)),nn (.t 60) (.load 33 true (.t 59)),nn (.v 8) (.alloc (.agg [.int .i64 0,.arr .u8 32 [0,0,0,0,0,0,0,0,0,0,0,0,0,0,0,0,0,
  0,0,0,0,0,0,0,0,0,0,0,0,0,0,0]])),nn .no (.store 33 (.v 8) (.t 60))]).seq (PC.regD 0 [mm 61 0,nn (.t 62) (.fadr 0 0 (.v 8)),nn (.t
  63) (.load 1 false (.t 62)),nn (.t 64) (.conv .u64 (.t 63)),nn (.t 65) (.call 120 [.t 61,.t 64]),nn (.t 66) (.fadr 1 1 (.v 8)),nn (.t 67) (.load
  32 true (.t 66)),nn (.t 68) (.call 97 [.t 65,.t 67]),ma 0 68] []))).seq (PC.reg [nn (.t 69) (.bin .add (.v 57) (.c (.v (.int .i64 1)))),nn (.v
  57) (.mv false (.t 69))])))
def lp96_1:PC:=
 (PC.reg [nn (.v 26) (.bin .lss (.v 25) (.v 24))]).seq ((PC.cond (.v 26) PC.skip (PC.exit 0)).seq ((PC.block 1 ((PC.reg [nn (.v 27) (.iadrS 1 (.v 23)
  (.v 25)),nn (.v 28) (.load 1 false (.v 27)),nn (.v 6) (.mv true (.v 28))]).seq (PC.reg [nn (.v 29) (.mv false (.v 0)),nn (.v 30) (.mv false (.v
  6)),nn (.v 31) (.conv .u64 (.v 30)),nn (.v 32) (.call 120 [.v 29,.v 31]),nn (.v 0) (.mv true (.v 32))]))).seq (PC.reg [nn (.v 33) (.bin .add (.v
  25) (.c (.v (.int .i64 1)))),nn (.v 25) (.mv false (.v 33))])))
def pf96:PF:=
 PF.mk 2 58 71 ((PC.reg [nn (.v 3) (.box (.v 1)),nn (.v 4) (.mv true (.c (.own .nils)))]).seq (((PC.reg [nn (.v 9) (.load 102 true (.v 3)),nn (.v 10)
  (.call 121 [.v 9]),nn (.v 11) (.un .not (.v 10))]).seq (PC.cond (.v 11) ((PC.reg [nn (.v 12) (.mv false (.v 0)),nn (.v 13) (.call 118 [.v 12]),nn
  (.v 4) (.mv true (.v 13))]).seq PC.ret) PC.skip)).seq (((PC.reg [nn (.v 14) (.fadr 0 0 (.v 3)),nn (.v 15) (.fadr 1 1 (.v 14)),nn (.v 16) (.load 1
  false (.v 15)),nn (.v 17) (.fadr 0 0 (.v 3)),nn (.v 18) (.fadr 2 2 (.v 17)),nn (.v 19) (.load 1 false (.v 18)),nn (.v 20) (.fadr 0 0 (.v 3)),nn
  (.v 21) (.fadr 3 3 (.v 20)),nn (.v 22) (.load 1 false (.v 21)),nn (.v 23) (.buildS (some .i64) 1 (.int .i64 0) 3 [(0,.v 16),(1,.v 19),(2,.v
  22)]),nn (.v 24) (.len (.v 23)),nn (.v 25) (.mv false (.c (.v (.int .i64 0))))]).seq (PC.block 0 (PC.loop [0,3,23,24,25] lp96_1))).seq
  ((PC.regD 0 [nn (.v 34) (.mv false (.v 0)),nn (.v 35) (.fadr 0 0 (.v 3)),nn (.v 36) (.fadr 4 4 (.v 35)),nn (.v 37) (.load 32 true (.v 36)),nn (.v
  38) (.call 97 [.v 34,.v 37]),nn (.v 39) (.fadr 0 0 (.v 3)),nn (.v 40) (.fadr 5 36 (.v 39)),nn (.v 41) (.load 1 false (.v 40)),nn (.v 42) (.conv
  .u64 (.v 41)),nn (.v 43) (.call 120 [.v 38,.v 42]),nn (.v 44) (.fadr 0 0 (.v 3)),nn (.v 45) (.fadr 6 37 (.v 44)),nn (.v 46) (.load 32 true (.v
  45)),nn (.v 47) (.call 97 [.v 43,.v 46]),nn (.v 0) (.mv true (.v 47))] []).seq ((PC.reg [nn (.v 48) (.mv false (.v 0)),nn (.v 49) (.fadr 1 101
  (.v 3)),nn (.v 50) (.load 1 false (.v 49)),nn (.v 51) (.len (.v 50)),nn (.v 52) (.conv .u64 (.v 51)),nn (.v 53) (.call 120 [.v 48,.v 52]),nn
  (.v 0) (.mv true (.v 53))]).seq (((PC.reg [nn (.v 54) (.fadr 1 101 (.v 3)),nn (.v 55) (.load 1 false (.v 54)),nn (.v 56) (.len (.v 55)),nn (.v 57)
  (.mv false (.c (.v (.int .i64 0))))]).seq (PC.block 2 (PC.loop [0,55,56,57] lp96_0))).seq ((PC.reg [nn (.t 70) (.mv true (.v 0)),ma 4 70]).seq
  PC.ret))))))) [(.v 4,none)]
def ZPc:Spec1
 |[x,y],G,Q=>∃(b:List Int) (c:CertS),(byV x=some b∧b.length < 100000000∧y=c.v∧c.ok∧c.sigs.length < 1000000)∧Q (.own (.sli .u8 (if c.may=true then b++c.bytes else b))) G
 |_,_,_=>False
theorem ZPc_eq {x y}:ZPc [x,y] G Q=(∃(b:List Int) (c:CertS),(byV x=some b∧b.length < 100000000∧y=c.v∧c.ok∧c.sigs.length < 1000000)∧Q (.own (.sli .u8 (if c.may=true then b++c.bytes else b))) G):=rfl
theorem loop96 (hN:Abs.look l 120=some SNu) (hH:Abs.look l 97=some SHa) {QQ:Ex→St→Prop} {sg:List (Int×List Int)} {b0:List Int} (hs:∀p∈sg,(0≤p.1∧p.1≤21)∧H32 p.2) (hl:sg.length≤21)
  (hx:∀(j:Nat) ts L,QQ (.exit 2) ⟨[some (.own (.sli .u8 b0)),none,none,none,none,none,none,none,none,none,none,none,none,none,none,none,none,none,none,none,none,none,none,none,none,none,none,none,none,none,none,none,none,none,none,none,none,none,none,none,none,none,none,none,none,none,none,none,none,none,none,none,none,none,none,some (.v (.sle 33 (sg.map sgV))),some (.v (.int .i64 (sg.length:Nat))),some (.v (.int .i64 (j:Nat)))],ts,L,G⟩):
  ∀(r:List (Int×List Int)) (j:Nat) (b:List Int) (L:List Bx),sg.drop j=r→j≤sg.length→b++sigB r=b0→b.length≤200000000+42*j→
   WL (W E (specOf l) lp96_0) [0,55,56,57] QQ (r.length+1) ⟨[some (.own (.sli .u8 b)),none,none,none,none,none,none,none,none,none,none,none,none,none,none,none,none,none,none,none,none,none,none,none,none,none,none,none,none,none,none,none,none,none,none,none,none,none,none,none,none,none,none,none,none,none,none,none,none,none,none,none,none,none,none,some (.v (.sle 33 (sg.map sgV))),some (.v (.int .i64 (sg.length:Nat))),some (.v (.int .i64 (j:Nat)))],[],L,G⟩:=by
 intro r
 induction r with
 |nil=>
  intro j b L h1 h2 h3 h4
  have:=drop_none h1
  have c1:¬(j:Int) < (sg.length:Int):=by omega
  obtain rfl:b=b0:=by rw[←h3];simp[sigB]
  refine WL_in lp96_0.eq_1 ?_
  simp -implicitDefEqProofs only[c1,go_sem,↓reduceIte]
  exact hx _ _ _
 |cons p r ih=>
  intro j b L h1 h2 h3 h4
  obtain⟨hd,hj,hlen⟩:=drop_one h1
  have g:=getD_sg h1
  have hp:=hs p (List.mem_of_getElem? (at_drop2 h1))
  have c1:(j:Int) < (sg.length:Int):=by omega
  have c2:(0:Int)≤(j:Int):=by omega
  have w1:IntKind.i64.wrap ((j:Int)+1)=((j+1:Nat):Int):=wc (by omega) (by omega)
  obtain⟨p1,p2⟩:=p
  dsimp only at hp
  have wp:=u64_of (n:=p1) (by omega) (by omega)
  obtain⟨_,k1⟩:=num_ok (n:=p1.toNat) (by omega)
  have hAl:∀y z,(L++[y]).set L.length z=L++[z]:=fun y z=>by simp
  refine WL_in lp96_0.eq_1 ?_
  simp -implicitDefEqProofs only[c1,c2,g,sgV,w1,Int.toNat_natCast,List.length_map,hN,SNu_eq,hH,SHa_eq,wp,go_sem,↓reduceIte]
  refine⟨b,⟨byV_u8 _,by omega,by omega,by omega⟩,_,⟨byV_u8 _,by rw[List.length_append];omega,hp.2.2⟩,?_⟩
  try simp -implicitDefEqProofs only[go_sem,↓reduceIte]
  refine ih (j+1) _ _ hd (by omega) ?_ ?_
  ·rw[←h3];simp only[sigB,List.append_assoc]
  ·have:=hp.2.2;simp only[List.length_append];omega
theorem walk96 {b:List Int} {c:CertS} (hM:Abs.look l 121=some ZMc) (hC:Abs.look l 118=some SCl) (hN:Abs.look l 120=some SNu) (hH:Abs.look l 97=some SHa)
  (hb:b.length < 100000000) (hw:c.ok) (hl:c.sigs.length < 1000000) (h:Q (.own (.sli .u8 (if c.may=true then b++c.bytes else b))) G):Wf E (specOf l) pf96 [.sli .u8 b,c.v] G Q:=by
 obtain⟨a,sg⟩:=c
 obtain⟨a1,a2,a3,a4,a5,a6,a7,a8⟩:=a
 simp -implicitDefEqProofs only[pf96,CertS.v,AttS.v,List.length_map,hM,ZMc_eq,go_sem,↓reduceIte]
 refine⟨⟨a1,a2,a3,a4,a5,a6,a7,a8⟩,_,sg,⟨rfl,.inl rfl,hw.1,hl⟩,?_⟩
 cases hmay:CertS.may ⟨⟨a1,a2,a3,a4,a5,a6,a7,a8⟩,sg⟩with
 |false=>
  rw[hmay]at h
  simp -implicitDefEqProofs only[hC,SCl_eq,go_sem,↓reduceIte]
  exact⟨b,⟨rfl,by omega⟩,h⟩
 |true=>
  rw[hmay,if_pos rfl]at h
  have hm:CertS.May ⟨⟨a1,a2,a3,a4,a5,a6,a7,a8⟩,sg⟩:=of_decide_eq_true hmay
  obtain⟨m1,m2,m3,m4,m5⟩:=id hm
  obtain⟨m1a,m1b,m1c,m1d,m1e,m1f⟩:=m1
  unfold CertS.one at m1a m1b m1c m1d m1e m1f
  dsimp only at m1a m1b m1c m1d m1e m1f m2 m3 m4 m5
  have w2:=u64_of (n:=a2) (by omega) (by omega)
  have w3:=u64_of (n:=a3) (by omega) (by omega)
  have w4:=u64_of (n:=a4) (by omega) (by omega)
  have w6:=u64_of (n:=a6) (by omega) (by omega)
  try simp -implicitDefEqProofs only[go_sem,↓reduceIte]
  refine⟨4,?_⟩
  refine WL_in lp96_1.eq_1 ?_
  have o1:IntKind.i64.wrap 1=1:=by decide
  have o2:IntKind.i64.wrap 2=2:=by decide
  have o3:IntKind.i64.wrap 3=3:=by decide
  obtain⟨_,k2⟩:=num_ok (n:=a2.toNat) (by omega)
  obtain⟨_,k3⟩:=num_ok (n:=a3.toNat) (by omega)
  obtain⟨_,k4⟩:=num_ok (n:=a4.toNat) (by omega)
  obtain⟨_,k6⟩:=num_ok (n:=a6.toNat) (by omega)
  obtain⟨q1,q2,q3⟩:=CertS.may_len hm
  obtain⟨_,k9⟩:=num_ok (n:=sg.length) (by dsimp only at q1;omega)
  have l5:=hw.1.ha.2
  have l7:=hw.1.pa.2
  dsimp only at l5 l7 q1
  simp -implicitDefEqProofs only[hN,SNu_eq,w2,o1,o2,o3,go_sem,↓reduceIte]
  refine⟨b,⟨rfl,by omega,by omega,by omega⟩,?_⟩
  refine WL_in lp96_1.eq_1 ?_
  simp -implicitDefEqProofs only[hN,SNu_eq,w3,o1,o2,o3,go_sem,↓reduceIte]
  refine⟨_,⟨byV_u8 _,by simp only[List.length_append];omega,by omega,by omega⟩,?_⟩
  refine WL_in lp96_1.eq_1 ?_
  simp -implicitDefEqProofs only[hN,SNu_eq,w4,o1,o2,o3,go_sem,↓reduceIte]
  refine⟨_,⟨byV_u8 _,by simp only[List.length_append];omega,by omega,by omega⟩,?_⟩
  refine WL_in lp96_1.eq_1 ?_
  have w9:=u64_of (n:=(sg.length:Int)) (by omega) (by omega)
  simp -implicitDefEqProofs only[hN,SNu_eq,hH,SHa_eq,w6,w9,o1,o2,o3,List.length_map,Int.toNat_natCast,go_sem,↓reduceIte]
  refine⟨_,⟨byV_u8 _,by simp only[List.length_append];omega,l5⟩,_,⟨byV_u8 _,by simp only[List.length_append];omega,by omega,by omega⟩,_,⟨byV_u8 _,by simp only[List.length_append];omega,l7⟩,_,⟨byV_u8 _,by simp only[List.length_append];omega,by omega,by omega⟩,?_⟩
  try simp -implicitDefEqProofs only[go_sem,↓reduceIte]
  refine⟨sg.length+1,?_⟩
  refine loop96 hN hH (CertS.sigs_in hw hm) q1 (fun j ts L=> ?_) sg 0 _ _ rfl (Nat.zero_le _) rfl (by simp only[List.length_append];omega)
  try simp -implicitDefEqProofs only[go_sem,↓reduceIte]
  unfold CertS.bytes AttS.said at h
  simpa only[List.append_assoc]using h
end Go.Proofs.Ytjbglbhcbenhpaa.Sha
namespace Go.Abs.Sha
open Go Go.Abs Go.Abs.Srt
set_option linter.unusedVariables false
set_option linter.unusedSimpArgs false
theorem riseI_from {n low k:Int} {l:List Int} {x:Int} (h:riseI n low (x::l)=true) (hk:k < x):riseI n k (x::l)=true:=by
 unfold riseI at h⊢
 split at h
 ·cases h
 ·rename_i hw
  rw[if_neg (by omega)];exact h
theorem riseI_tail {n low:Int} {l:List Int} {x:Int} (h:riseI n low (x::l)=true):low < x∧x≤n∧riseI n x l=true:=by
 unfold riseI at h
 split at h
 ·cases h
 ·rename_i hw
  exact⟨by omega,by omega,h⟩
theorem meet {n:Int}:∀(k:Nat) {l m:List Int} {low:Int},l.length+m.length=k→riseI n low l=true→riseI n low m=true→low≤n→(∀x∈l,x∉m)→(l.length:Int)+m.length≤n-low:=by
 intro k
 induction k with
 |zero=>intro l m low hk h1 h2 hl hd;omega
 |succ k ih=>
  intro l m low hk h1 h2 hl hd
  cases l with
  |nil=>
   rcases riseI_len h2 with rfl|h2
   ·simp at hk
   ·simp only[List.length_nil];omega
  |cons x l=>
   cases m with
   |nil=>
    rcases riseI_len h1 with h1|h1
    ·cases h1
    ·simp only[List.length_nil];omega
   |cons y m=>
    obtain⟨a1,a2,a3⟩:=riseI_tail h1
    obtain⟨b1,b2,b3⟩:=riseI_tail h2
    have hne:x≠y:=by rintro rfl;exact hd x (List.mem_cons_self ..) (List.mem_cons_self ..)
    simp only[List.length_cons]at hk
    by_cases hxy:x < y
    ·have:=ih (l:=l) (m:=y::m) (low:=x) (by simp only[List.length_cons];omega) a3 (riseI_from h2 hxy) a2 fun z hz=>hd z (List.mem_cons_of_mem _ hz)
     simp only[List.length_cons]at this⊢;omega
    ·have:=ih (l:=x::l) (m:=m) (low:=y) (by simp only[List.length_cons];omega) (riseI_from h1 (by omega)) b3 b2 fun z hz hz2=>hd z hz (List.mem_cons_of_mem _ hz2)
     simp only[List.length_cons]at this⊢;omega
end Go.Abs.Sha
namespace Go.Proofs.Ytjbglbhcbenhpaa.Sha
open Go Go.Abs Go.Abs.Sha Go.Abs.Srt
set_option linter.unusedSimpArgs false
set_option linter.unusedVariables false
set_option maxRecDepth 100000
attribute [local irreducible] W Wops WopsD WL Wop WopD
variable {E:Env} {C:Abs.Spec} {l:List (Nat×Spec1)} {G:List (Nat×V)} {Q:R→List (Nat×V)→Prop}
set_option maxHeartbeats 1000000
theorem getD_at {l:List Int} {j:Nat} {p:Int} {r:List Int} (h:l.drop j=p::r):l.getD j 0=p:=by
 have:(l.drop j)[0]? =some p:=by rw[h];rfl
 rw[List.getElem?_drop,Nat.add_zero]at this
 rw[List.getD_eq_getElem?_getD,this];rfl
end Go.Proofs.Ytjbglbhcbenhpaa.Sha
