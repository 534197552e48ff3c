/- Laws over plain values, and what functions of the program hand back; no conditions. -/
import Derived.Test.YtegamlopcdjiaaaG1
import Derived.Test.YtegamlopcdjiaaaG3
import Derived.Test.YtegamlopcdjiaaaG2
namespace Go.Proofs.Ytegamlopcdjiaaa.Sha
open Go Go.Abs Go.Abs.Sha
set_option linter.unusedSimpArgs false
set_option linter.unusedVariables false
set_option maxRecDepth 100000
def pf96:PF:=
 PF.mk 1 5 31 ((PC.reg [nn (.v 2) (.alloc (.agg [.int .i64 0,.int .i64 0,.int .i64 0,.int .i64 0,.arr .u8 32 [0,0,0,0,0,0,0,0,0,0,0,0,0,
  0,0,0,0,0,0,0,0,0,0,0,0,0,0,0,0,0,0,0],.int .i64 0,.arr .u8 32 [0,0,0,0,0,0,0,0,0,0,0,0,0,0,0,0,0,0,0,0,0,0,
  0,0,0,0,0,0,0,0,0,0],.arr .u8 32 zz2])),nn
  (.v 3) (.mv true (.c (.v (.bool false))))]).seq ((PC.reg [mm 5 0,nn (.t 6) (.call 48 [.t 5,.c (.v (.int .i64 21))]),mm 7 0,nn (.t 8) (.call 48
  [.t 7,.c (.v (.int .i64 3))]),mm 9 0,nn (.t 10) (.call 48 [.t 9,.c (.v (.int .i64 1099511627776))]),mm 11 0,nn (.t 12) (.call 48 [.t 11,.c (.v
  (.int .i64 3))]),mm 13 0,nn (.t 14) (.call 98 [.t 13]),mm 15 0,nn (.t 16) (.call 48 [.t 15,.c (.v (.int .i64 1099511627776))]),mm 17 0,nn (.t
  18) (.call 98 [.t 17]),mm 19 0,nn (.t 20) (.call 98 [.t 19]),nn (.t 21) (.build (.agg [.int .i64 0,.int .i64 0,.int .i64 0,.int .i64 0,.arr
  .u8 32 zz2,.int .i64 0,.arr .u8 32 [0,0,0,0,0,0,
  0,0,0,0,0,0,0,0,0,0,0,0,0,0,0,0,0,0,0,0,0,0,0,0,0,0],.arr .u8 32 [0,0,0,0,0,0,0,0,0,0,0,0,0,0,0,0,0,0,0,
  0,0,0,0,0,0,0,0,0,0,0,0,0]]) [(0,.t 6),(1,.t 8),(2,.t 10),(3,.t 12),(4,.t 14),(5,.t 16),(6,.t 18),(7,.t 20)]),nn (.v 4)
  (.alloc (.agg [.int .i64 0,.int .i64 0,.int .i64 0,.int .i64 0,.arr .u8 32 [0,0,0,0,0,0,0,0,0,0,0,0,0,0,0,0,0,0,0,0,0,0,0,
  0,0,0,0,0,0,0,0,0],.int .i64 0,.arr .u8 32 [0,0,0,0,0,0,0,0,0,0,0,0,0,0,0,0,0,0,0,0,0,0,0,0,0,0,0,0,0,0,0,
  0],.arr .u8 32 zz2])),nn .no (.store 101 (.v 4) (.t
  21))]).seq (((PC.reg [mm 22 0,nn (.t 23) (.call 121 [.t 22]),nn (.t 24) (.mv false (.t 23)),⟨.t 25,.load 101 true (.v 4),some (.t 24,false)⟩,
  ⟨.t 26,.call 113 [.t 25],some (.t 24,false)⟩,⟨.t 27,.bin .neq (.t 26) (.c (.v (.int .i64 0))),some (.t 24,false)⟩,nn (.t 28) (.pick (.t 24)
  (.c (.v (.bool true))) (.t 27))]).seq (PC.cond (.t 28) ((PC.reg [nn (.t 29) (.build (.agg [.int .i64 0,.int .i64 0,.int .i64 0,.int .i64 0,.arr
  .u8 32 zz2,.int .i64 0,.arr .u8 32 [0,0,0,0,0,0,
  0,0,0,0,0,0,0,0,0,0,0,0,0,0,0,0,0,0,0,0,0,0,0,0,0,0],.arr .u8 32 [0,0,0,0,0,0,0,0,0,0,0,0,0,0,0,0,0,0,0,
  0,0,0,0,0,0,0,0,0,0,0,0,0]]) []),nn .no (.store 101 (.v 2) (.t 29)),nn (.v 3) (.mv true (.c (.v (.bool false))))]).seq PC.ret)
  PC.skip)).seq ((PC.reg [nn (.t 30) (.load 101 true (.v 4)),nn .no (.store 101 (.v 2) (.t 30)),nn (.v 3) (.mv true (.c (.v (.bool true))))]).seq
  PC.ret)))) [(.v 2,some (101,true)),(.v 3,none)]
def pf80:PF:=
 PF.mk 2 5 20 ((PC.reg [nn (.v 3) (.box (.v 1)),nn (.v 4) (.mv true (.c (.own .nils)))]).seq (((PC.reg [nn (.t 5) (.load 101 true (.v 3)),nn (.t 6)
  (.call 113 [.t 5]),nn (.t 7) (.bin .neq (.t 6) (.c (.v (.int .i64 0))))]).seq (PC.cond (.t 7) ((PC.reg [mm 8 0,nn (.t 9) (.call 79 [.t 8]),ma 4
  9]).seq PC.ret) PC.skip)).seq ((PC.regD 0 [mm 10 0,nn (.t 11) (.fadr 0 0 (.v 3)),nn (.t 12) (.load 1 false (.t 11)),nn (.t 13) (.conv .u64 (.t
  12)),nn (.t 14) (.call 31 [.t 10,.t 13]),nn (.t 15) (.load 101 true (.v 3)),nn (.t 16) (.call 114 [.t 14,.t 15]),nn (.t 17) (.fadr 7 69 (.v
  3)),nn (.t 18) (.load 32 true (.t 17)),nn (.t 19) (.call 82 [.t 16,.t 18]),ma 4 19] []).seq PC.ret))) [(.v 4,none)]
def pf51:PF:=
 PF.mk 1 3 14 ((PC.reg [nn (.v 1) (.box (.v 0)),nn (.v 2) (.mv true (.c (.own .nils)))]).seq ((PC.regD 0 [nn (.t 3) (.fadr 0 0 (.v 1)),nn (.t 4)
  (.load 1 false (.t 3)),nn (.t 5) (.conv .u8 (.t 4)),nn (.t 6) (.buildS (some .u8) 1 (.int .u8 0) 1 [(0,.t 5)]),nn (.t 7) (.load 101 true (.v 1)),
  nn (.t 8) (.call 103 [.t 7]),nn (.t 9) (.app (some .u8) 1 1 (.t 6) (.t 8)),nn (.t 10) (.fadr 7 69 (.v 1)),nn (.t 11) (.load 32 true (.t 10)),nn
  (.t 12) (.call 53 [.t 11]),nn (.t 13) (.app (some .u8) 1 1 (.t 9) (.t 12)),ma 2 13] []).seq PC.ret)) [(.v 2,none)]
attribute [local irreducible] W Wops WopsD WL Wop WopD
variable {E:Env} {C:Abs.Spec} {l:List (Nat×Spec1)} {G:List (Nat×V)} {Q:R→List (Nat×V)→Prop}
set_option maxHeartbeats 1000000
def attR (a:AttS) (w:Bool):AttS:=if (!w&&a.may)=true then a else .zero
def SAr:Spec1
 |[.ptr id],G,Q=>∃b w0 a r w,(Abs.look G id=some (.agg [.sli .u8 b,.bool w0])∧Byt b∧b.length < 100000000000∧rdAtt (b,w0)=(a,r,w))∧Q (.tup [(attR a w).v,.bool (!w&&a.may)]) (Abs.upd G id (.agg [.sli .u8 r,.bool w]))
 |_,_,_=>False
theorem SAr_eq {id}:SAr [.ptr id] G Q=(∃b w0 a r w,(Abs.look G id=some (.agg [.sli .u8 b,.bool w0])∧Byt b∧b.length < 100000000000∧rdAtt (b,w0)=(a,r,w))∧Q (.tup [(attR a w).v,.bool (!w&&a.may)]) (Abs.upd G id (.agg [.sli .u8 r,.bool w]))):=rfl
def SAp:Spec1
 |[x,.agg [.int .i64 a1,.int .i64 a2,.int .i64 a3,.int .i64 a4,.arr .u8 32 a5,.int .i64 a6,.arr .u8 32 a7,.arr .u8 32 a8]],G,Q=>∃b,(byV x=some b∧b.length < 100000000∧(⟨a1,a2,a3,a4,a5,a6,a7,a8⟩:AttS).wf)∧Q (.own (.sli .u8 (if (⟨a1,a2,a3,a4,a5,a6,a7,a8⟩:AttS).may=true then b++(⟨a1,a2,a3,a4,a5,a6,a7,a8⟩:AttS).bytes else b))) G
 |_,_,_=>False
theorem SAp_eq {x a1 a2 a3 a4 a5 a6 a7 a8}:SAp [x,.agg [.int .i64 a1,.int .i64 a2,.int .i64 a3,.int .i64 a4,.arr .u8 32 a5,.int .i64 a6,.arr .u8 32 a7,.arr .u8 32 a8]] G Q=(∃b,(byV x=some b∧b.length < 100000000∧(⟨a1,a2,a3,a4,a5,a6,a7,a8⟩:AttS).wf)∧Q (.own (.sli .u8 (if (⟨a1,a2,a3,a4,a5,a6,a7,a8⟩:AttS).may=true then b++(⟨a1,a2,a3,a4,a5,a6,a7,a8⟩:AttS).bytes else b))) G):=rfl
def SAb:Spec1
 |[.agg [.int .i64 a1,.int .i64 a2,.int .i64 a3,.int .i64 a4,.arr .u8 32 a5,.int .i64 a6,.arr .u8 32 a7,.arr .u8 32 a8]],G,Q=>((⟨a1,a2,a3,a4,a5,a6,a7,a8⟩:AttS).wf∧(⟨a1,a2,a3,a4,a5,a6,a7,a8⟩:AttS).May)∧Q (.own (.sli .u8 (⟨a1,a2,a3,a4,a5,a6,a7,a8⟩:AttS).bytes)) G
 |_,_,_=>False
theorem SAb_eq {a1 a2 a3 a4 a5 a6 a7 a8}:SAb [.agg [.int .i64 a1,.int .i64 a2,.int .i64 a3,.int .i64 a4,.arr .u8 32 a5,.int .i64 a6,.arr .u8 32 a7,.arr .u8 32 a8]] G Q=(((⟨a1,a2,a3,a4,a5,a6,a7,a8⟩:AttS).wf∧(⟨a1,a2,a3,a4,a5,a6,a7,a8⟩:AttS).May)∧Q (.own (.sli .u8 (⟨a1,a2,a3,a4,a5,a6,a7,a8⟩:AttS).bytes)) G):=rfl
theorem walk96 {id:Nat} {w0:Bool} {b r:List Int} {a:AttS} {w:Bool} (h39:Abs.look l 48=some SUp) (h40:Abs.look l 98=some SHs) (h51:Abs.look l 121=some SOff) (h11:Abs.look l 113=some SCk)
  (hG:Abs.look G id=some (.agg [.sli .u8 b,.bool w0])) (hb:Byt b) (hl:b.length < 100000000000) (he:rdAtt (b,w0)=(a,r,w))
  (h:Q (.tup [(attR a w).v,.bool (!w&&a.may)]) (Abs.upd G id (.agg [.sli .u8 r,.bool w]))):Wf E (specOf l) pf96 [.ptr id] G Q:=by
 rcases e1:rdUpto 21 (b,w0)with⟨n1,r1,w1⟩
 rcases e2:rdUpto 3 (r1,w1)with⟨n2,r2,w2⟩
 rcases e3:rdUpto 1099511627776 (r2,w2)with⟨n3,r3,w3⟩
 rcases e4:rdUpto 3 (r3,w3)with⟨n4,r4,w4⟩
 rcases e5:rdHash (r4,w4)with⟨n5,r5,w5⟩
 rcases e6:rdUpto 1099511627776 (r5,w5)with⟨n6,r6,w6⟩
 rcases e7:rdHash (r6,w6)with⟨n7,r7,w7⟩
 rcases e8:rdHash (r7,w7)with⟨n8,r8,w8⟩
 obtain⟨z11,z12,_,_,⟨u1,z15⟩,_⟩:=rdUpto_all e1 hb (by omega)
 obtain⟨z21,z22,_,_,⟨u2,z25⟩,_⟩:=rdUpto_all e2 z11 (by omega)
 obtain⟨z31,z32,_,_,⟨u3,z35⟩,_⟩:=rdUpto_all e3 z21 (by omega)
 obtain⟨z41,z42,_,_,⟨u4,z45⟩,_⟩:=rdUpto_all e4 z31 (by omega)
 obtain⟨z51,z52,_,⟨u5,z55⟩,_⟩:=rdHash_all e5 z41
 obtain⟨z61,z62,_,_,⟨u6,z65⟩,_⟩:=rdUpto_all e6 z51 (by omega)
 obtain⟨z71,z72,_,⟨u7,z75⟩,_⟩:=rdHash_all e7 z61
 obtain⟨z81,z82,_,⟨u8,z85⟩,_⟩:=rdHash_all e8 z71
 have eA:rdAtt (b,w0)=(⟨n1,n2,n3,n4,n5,n6,n7,n8⟩,r8,w8):=by simp only[rdAtt,e1,e2,e3,e4,e5,e6,e7,e8]
 have ok:=rdAtt_all eA hb
 have hw:=ok.wf
 rw[eA]at he
 simp only[Prod.mk.injEq]at he
 obtain⟨rfl,rfl,rfl⟩:=he
 have g:∀x,Abs.look (Abs.upd G id x) id=some x:=fun x=>look_upd_same hG
 simp -implicitDefEqProofs only[pf96,h39,SUp_eq,h40,SHs_eq,h51,SOff_eq,g,go_sem,↓reduceIte]
 refine⟨b,w0,n1,r1,w1,⟨hG,hb,by omega,e1⟩,r1,w1,n2,r2,w2,⟨rfl,z11,by omega,e2⟩,r2,w2,n3,r3,w3,⟨rfl,z21,by omega,e3⟩,r3,w3,n4,r4,w4,⟨rfl,z31,by omega,e4⟩,r4,w4,n5,r5,w5,⟨rfl,z41,by omega,e5⟩,r5,w5,n6,r6,w6,⟨rfl,z51,by omega,e6⟩,r6,w6,n7,r7,w7,⟨rfl,z61,by omega,e7⟩,r7,w7,n8,r8,w8,⟨rfl,z71,by omega,e8⟩,r8,w8,rfl,?_⟩
 cases w8 with
 |true=>
  try simp -implicitDefEqProofs only[go_sem,↓reduceIte]
  exact h
 |false=>
  by_cases hm:(⟨n1,n2,n3,n4,n5,n6,n7,n8⟩:AttS).May
  ·have hmay:(⟨n1,n2,n3,n4,n5,n6,n7,n8⟩:AttS).may=true:=decide_eq_true hm
   unfold attR at h
   rw[hmay]at h
   simp -implicitDefEqProofs only[h11,SCk_eq,hmay,go_sem,↓reduceIte]
   exact⟨hw,h⟩
  ·have hmay:(⟨n1,n2,n3,n4,n5,n6,n7,n8⟩:AttS).may=false:=decide_eq_false hm
   unfold attR at h
   rw[hmay]at h
   simp -implicitDefEqProofs only[h11,SCk_eq,hmay,go_sem,↓reduceIte]
   exact⟨hw,h⟩
theorem walk80 {a1 a2 a3 a4 a6:Int} {a5 a7 a8:List Int} {b:List Int} (h11:Abs.look l 113=some SCk) (h50:Abs.look l 79=some SCl) (h52:Abs.look l 31=some SNu) (h35:Abs.look l 114=some STg) (h46:Abs.look l 82=some SHa)
  (hb:b.length < 100000000) (hw:(⟨a1,a2,a3,a4,a5,a6,a7,a8⟩:AttS).wf) (h:Q (.own (.sli .u8 (if (⟨a1,a2,a3,a4,a5,a6,a7,a8⟩:AttS).may=true then b++(⟨a1,a2,a3,a4,a5,a6,a7,a8⟩:AttS).bytes else b))) G):Wf E (specOf l) pf80 [.sli .u8 b,.agg [.int .i64 a1,.int .i64 a2,.int .i64 a3,.int .i64 a4,.arr .u8 32 a5,.int .i64 a6,.arr .u8 32 a7,.arr .u8 32 a8]] G Q:=by
 by_cases hm:(⟨a1,a2,a3,a4,a5,a6,a7,a8⟩:AttS).May
 ·have hmay:(⟨a1,a2,a3,a4,a5,a6,a7,a8⟩:AttS).may=true:=decide_eq_true hm
  obtain⟨m1,m2⟩:=hm.1
  dsimp only at m1 m2
  obtain⟨s1,s2⟩:=AttS.said_ok hw hm
  obtain⟨r1,n1⟩:=num_ok (n:=a1.toNat) (by omega)
  have w1:=u64_of (n:=a1) (by omega) (by omega)
  rw[if_pos hmay]at h
  unfold AttS.bytes at h
  simp -implicitDefEqProofs only[pf80,h11,SCk_eq,hmay,h52,SNu_eq,w1,h35,STg_eq,h46,SHa_eq,go_sem,↓reduceIte]
  refine⟨hw,b,⟨rfl,by omega,by omega,by omega⟩,_,⟨byV_u8 _,by rw[List.length_append];omega,hw,hm⟩,_,⟨byV_u8 _,by simp only[List.length_append];omega,hw.ta.2⟩,?_⟩
  simpa only[List.append_assoc]using h
 ·have hmay:(⟨a1,a2,a3,a4,a5,a6,a7,a8⟩:AttS).may=false:=decide_eq_false hm
  rw[if_neg (by rw[hmay];exact Bool.false_ne_true)]at h
  simp -implicitDefEqProofs only[pf80,h11,SCk_eq,hmay,h50,SCl_eq,go_sem,↓reduceIte]
  exact⟨hw,b,⟨rfl,by omega⟩,h⟩
end Go.Proofs.Ytegamlopcdjiaaa.Sha
namespace Go.Abs.Sha
open Go Go.Abs Go.Abs.Srt
set_option linter.unusedVariables false
set_option linter.unusedSimpArgs false
structure AccS where
 who:Int
 vi:Int
 pv:Int
 ph:List Int
 fr:List Int
 ta:List Int
def AccS.v (a:AccS):V:= .agg [.int .i64 a.who,.int .i64 a.vi,.int .i64 a.pv,.arr .u8 32 a.ph,.sli .i64 a.fr,.arr .u8 32 a.ta]
def AccS.zero:AccS:=⟨0,0,0,zero32,[],zero32⟩
structure AccS.wf (a:AccS):Prop where
 who:I64 a.who
 vi:I64 a.vi
 pv:I64 a.pv
 ph:H32 a.ph
 fr:∀x∈a.fr,I64 x
 ta:H32 a.ta
def riseI (n:Int):Int→List Int→Bool
 |_,[]=>true
 |low,w::ws=>if w≤low∨n < w then false else riseI n w ws
theorem riseI_all {n:Int}:∀{l:List Int} {low:Int},riseI n low l=true→∀x∈l,low < x∧x≤n
 |[],_,_=>fun x hx=>by cases hx
 |w::ws,low,h=>by
  unfold riseI at h
  split at h
  ·cases h
  ·rename_i hw
   intro x hx
   rcases List.mem_cons.1 hx with rfl|hx
   ·omega
   ·have:=riseI_all h x hx;omega
theorem riseI_len {n:Int}:∀{l:List Int} {low:Int},riseI n low l=true→l=[]∨(l.length:Int)≤n-low
 |[],_,_=> .inl rfl
 |w::ws,low,h=>by
  unfold riseI at h
  split at h
  ·cases h
  ·rename_i hw
   rcases riseI_len h with rfl|h2
   ·right;simp;omega
   ·right;simp only[List.length_cons];omega
def AccS.May (a:AccS):Prop:=(1≤a.who∧a.who≤21)∧(1≤a.vi∧a.vi≤1099511627776)∧(0≤a.pv∧a.pv < a.vi)∧a.fr≠[]∧riseI 21 0 a.fr=true
instance decMayA (a:AccS):Decidable a.May:=by unfold AccS.May;infer_instance
def AccS.may (a:AccS):Bool:=decide a.May
def nums:List Int→List Int
 |[]=>[]
 |x::l=>num x.toNat++nums l
theorem nums_ok:∀{l:List Int},(∀x∈l,0≤x∧x < 2000000000000)→Byt (nums l)∧(nums l).length≤10*l.length
 |[],_=>⟨byt_nil,by simp[nums]⟩
 |x::l,h=>by
  obtain⟨h1,h2⟩:=nums_ok (l:=l) fun y hy=>h y (List.mem_cons_of_mem _ hy)
  have hx:=h x (List.mem_cons_self ..)
  obtain⟨h3,h4⟩:=num_ok (n:=x.toNat) (by omega)
  refine⟨byt_app h3 h1,?_⟩
  simp only[nums,List.length_append,List.length_cons];omega
theorem nums_small:∀{l:List Int},(∀x∈l,0≤x∧x < 128)→nums l=l
 |[],_=>rfl
 |x::l,h=>by
  have hx:=h x (List.mem_cons_self ..)
  simp only[nums]
  rw[num_small (by omega),nums_small fun y hy=>h y (List.mem_cons_of_mem _ hy)]
  simp only[List.cons_append,List.nil_append,List.cons.injEq,and_true]
  omega
def AccS.said (a:AccS):List Int:=num a.vi.toNat++num a.pv.toNat++a.ph++num a.fr.length++nums a.fr
def AccS.tag (kt:List Int) (a:AccS):List Int:=tagH kt a.who 2 a.said
def AccS.right (kt:List Int) (n:Int) (a:AccS):Bool:=
 decide (quo n≠0)&&a.may&&decide (a.who≤n)&&decide ((a.fr.length:Int)=quo n)&&decide (a.fr.getLast?.getD 0≤n)&&decide (a.ta=a.tag kt)
theorem AccS.may_len {a:AccS} (h:a.May):a.fr.length≤21∧0 < a.fr.length∧∀x∈a.fr,0 < x∧x≤21:=by
 obtain⟨_,_,_,h4,h5⟩:=h
 refine⟨?_,List.length_pos_iff.2 h4,riseI_all h5⟩
 rcases riseI_len h5 with h|h
 ·exact absurd h h4
 ·omega
theorem AccS.said_ok {a:AccS} (h:a.wf) (hm:a.May):Byt a.said∧a.said.length≤300:=by
 obtain⟨l1,l2,l3⟩:=AccS.may_len hm
 obtain⟨m1,m2,m3,m4,m5⟩:=hm
 obtain⟨a1,a2⟩:=num_ok (n:=a.vi.toNat) (by omega)
 obtain⟨b1,b2⟩:=num_ok (n:=a.pv.toNat) (by omega)
 obtain⟨c1,c2⟩:=num_ok (n:=a.fr.length) (by omega)
 obtain⟨d1,d2⟩:=nums_ok (l:=a.fr) fun x hx=>by have:=l3 x hx;omega
 refine⟨byt_app (byt_app (byt_app (byt_app a1 b1) h.ph.1) c1) d1,?_⟩
 have:=h.ph.2
 simp only[AccS.said,List.length_append];omega
theorem AccS.zero_wf:AccS.zero.wf:=⟨by decide,by decide,by decide,h32_zero,(fun x hx=>by cases hx),h32_zero⟩
structure MkOk (kt:List Int) (by_ n view:Int) (l:List AttS) (a:AccS) (fs:List AttS):Prop where
 q0:quo n≠0
 ne:fs≠[]
 fr:a.fr=fs.map (·.who)
 len:(a.fr.length:Int)=quo n
 find:∀x∈fs,l.find? (fun y=>decide (y.who=x.who))=some x
 ge:∀x∈fs,x.pv≤a.pv
 told:∃x∈fs,x.pv=a.pv∧x.pa=a.ph
 right:a.right kt n=true
 may:a.May
 who:a.who=by_
end Go.Abs.Sha
namespace Go.Abs
open Go Go.RowKit
set_option linter.unusedVariables false
set_option linter.unusedSimpArgs false
theorem intsV_map {k:IntKind}:∀{l:List Int},intsV k (l.map (V.int k))=some l
 |[]=>rfl
 |x::l=>by
  simp only[List.map_cons,intsV]
  rw[if_pos (by simp),intsV_map];rfl
theorem Row.fzI {G0 G:List (Nat×V)} {k:IntKind} {z x:V} {els:List Int} (h:Row G0 G 1 z x (els.map (V.int k))) (ctx:V→R) (hf:∀id L k y,V.Fz id L k x y→R.Fz id L k (ctx x) (ctx y)) (hw:∀y,V.Wk x y→R.Wk (ctx x) (ctx y)):Low G0 (ctx x) G (ctx (.sli k els)) G0:=by
 obtain⟨he,⟨rfl,e0⟩|⟨id,c,L,rfl,h1,h2,h3,h4,h5,h6⟩⟩:=h
 ·have:els=[]:=by simpa using e0
  subst this
  refine .wk (r1:=ctx (.sli k [])) (hw _ ?_) (WkG.refl _) (.dropAll he)
  unfold V.Wk;exact .inr (.inl ⟨_,rfl⟩)
 ·refine .fz id L (some k) h1 h2 (hf id L (some k) _ ?_) (fun j y hj=> ?_) (fun j r hj=>⟨r,hj,V.same_refl r⟩) (.refl _ _)
  ·unfold V.Fz
   refine .inr ⟨rfl,h3,by omega,fun y hy=>(h6 y hy).1,?_,fun k e=>rfl⟩
   unfold elemsV;rw[List.drop_zero,h5]
   simp only[intsV_map,Option.map_some]
  ·have hne:j≠id:=by rintro rfl;rw[h1]at hj;cases hj
   exact⟨hne,y,he j y hj,V.Fz.refl y⟩
namespace Sha
theorem low_accu {G0 G:List (Nat×V)} {z x:V} {els:List Int} {a b c d t e:V} (h:Row G0 G 1 z x (els.map (V.int .i64))):Low G0 (.tup [.agg [a,b,c,d,x,t],e]) G (.tup [.agg [a,b,c,d,.sli .i64 els,t],e]) G0:=by
 refine h.fzI (fun y=> .tup [.agg [a,b,c,d,y,t],e]) (fun id L k y hy=> ?_) (fun y hy=> ?_)
 ·simp only[R.Fz]
  refine⟨_,rfl,?_⟩
  unfold V.FzL;refine⟨_,_,rfl,?_,V.FzL.refl _⟩
  unfold V.Fz;refine⟨_,rfl,?_⟩
  unfold V.FzL;refine⟨_,_,rfl,V.Fz.refl _,?_⟩
  unfold V.FzL;refine⟨_,_,rfl,V.Fz.refl _,?_⟩
  unfold V.FzL;refine⟨_,_,rfl,V.Fz.refl _,?_⟩
  unfold V.FzL;refine⟨_,_,rfl,V.Fz.refl _,?_⟩
  unfold V.FzL;refine⟨_,_,rfl,hy,V.FzL.refl _⟩
 ·simp only[R.Wk]
  refine⟨_,rfl,?_⟩
  unfold V.WkL;refine⟨_,_,rfl,?_,V.WkL.refl _⟩
  unfold V.Wk;refine⟨_,rfl,?_⟩
  unfold V.WkL;refine⟨_,_,rfl,V.Wk.refl _,?_⟩
  unfold V.WkL;refine⟨_,_,rfl,V.Wk.refl _,?_⟩
  unfold V.WkL;refine⟨_,_,rfl,V.Wk.refl _,?_⟩
  unfold V.WkL;refine⟨_,_,rfl,V.Wk.refl _,?_⟩
  unfold V.WkL;refine⟨_,_,rfl,hy,V.WkL.refl _⟩
end Sha
end Go.Abs
namespace Go.Abs
open Go Go.RowKit
set_option linter.unusedVariables false
set_option linter.unusedSimpArgs false
theorem Low.rebase {G Gr:List (Nat×V)} (hd:∀j,look Gr j=none→look G j=none) (hs:∀j r,look G j=some r→∃r',look Gr j=some r'∧r.same r'=true) {r:R} {G':List (Nat×V)} {r2:R} {G2:List (Nat×V)} (h:Low Gr r G' r2 G2):Low G r G' r2 G2:=by
 induction h with
 |refl r G'=>exact .refl r G'
 |fz id L k h0 h1 h2 h3 h4 h ih=>
  refine .fz id L k (hd id h0) h1 h2 h3 (fun j r hj=> ?_) ih
  obtain⟨r',e1,e2⟩:=hs j r hj
  obtain⟨r2,e3,e4⟩:=h4 j r' e1
  exact⟨r2,e3,V.same_trans' e2 e4⟩
 |wk h1 h2 h ih=>exact .wk h1 h2 ih
 |drop h1 h2 h ih=>
  refine .drop h1 (fun j r hj=> ?_) ih
  obtain⟨r',e1,e2⟩:=hs j r hj
  obtain⟨r2,e3,e4⟩:=h2 j r' e1
  exact⟨r2,e3,V.same_trans' e2 e4⟩
theorem look_upd_none {G:List (Nat×V)} {id j:Nat} {y:V}:look (upd G id y) j=none→look G j=none:=by
 intro h
 by_cases e:j=id
 ·subst e
  cases hx:look G j with
  |none=>rfl
  |some x=>rw[look_upd_same hx]at h;cases h
 ·rwa [look_upd_ne e]at h
theorem Low.upd {G:List (Nat×V)} {id:Nat} {x y:V} (hx:look G id=some x) (hxy:x.same y=true) {r:R} {G':List (Nat×V)} {r2:R} {G2:List (Nat×V)} (h:Low (upd G id y) r G' r2 G2):Low G r G' r2 G2:=by
 refine h.rebase (fun j=>look_upd_none) (fun j r hj=> ?_)
 by_cases e:j=id
 ·subst e
  rw[hx]at hj;cases hj
  exact⟨y,look_upd_same hx,hxy⟩
 ·exact⟨r,by rw[look_upd_ne e];exact hj,V.same_refl r⟩
theorem Row.upd {G0 G:List (Nat×V)} {sz:Nat} {z x:V} {els:List V} (h:Row G0 G sz z x els) {id:Nat} {u y:V} (hid:look G0 id=some u):Row (upd G0 id y) (upd G id y) sz z x els:=by
 obtain⟨he,h⟩:=h
 have hG:=he id u hid
 refine⟨fun j w hj=> ?_,?_⟩
 ·by_cases e:j=id
  ·subst e;rw[look_upd_same hid]at hj;rw[look_upd_same hG];exact hj
  ·rw[look_upd_ne e]at hj⊢;exact he j w hj
 ·rcases h with h|⟨i,c,L,h1,h2,h3,h4⟩
  ·exact .inl h
  ·have ne:i≠id:=by rintro rfl;rw[hid]at h2;cases h2
   exact .inr ⟨i,c,L,h1,by rw[look_upd_ne ne];exact h2,by rw[look_upd_ne ne];exact h3,h4⟩
namespace Sha
def rdMany:Nat→Rd→List Int×Rd
 |0,s=>([],s)
 |k+1,s=>((rdUpto 21 s).1::(rdMany k (rdUpto 21 s).2).1,(rdMany k (rdUpto 21 s).2).2)
structure RdMany (b:List Int) (w:Bool) (k:Nat) (l r:List Int) (w':Bool):Prop where
 num:∀x∈l,0≤x∧x≤21
 cnt:l.length=k
 byt:Byt r
 len:r.length≤b.length
 suf:∃u,b=u++r
 right:w'=false→w=false∧b=nums l++r
theorem rdMany_all:∀{k:Nat} {b r l:List Int} {w w':Bool},rdMany k (b,w)=(l,r,w')→Byt b→RdMany b w k l r w'
 |0,b,r,l,w,w',e,hb=>by
  simp only[rdMany,Prod.mk.injEq]at e
  obtain⟨rfl,rfl,rfl⟩:=e
  exact⟨(fun x hx=>by cases hx),rfl,hb,Nat.le_refl _,⟨[],rfl⟩,fun h=>⟨h,rfl⟩⟩
 |k+1,b,r,l,w,w',e,hb=>by
  rcases e1:rdUpto 21 (b,w)with⟨n1,r1,w1⟩
  rcases e2:rdMany k (r1,w1)with⟨l2,r2,w2⟩
  simp only[rdMany,e1,e2,Prod.mk.injEq]at e
  obtain⟨rfl,rfl,rfl⟩:=e
  obtain⟨a1,a2,a3,a4,⟨u1,a5⟩,a6⟩:=rdUpto_all e1 hb (by omega)
  have ih:=rdMany_all e2 a1
  obtain⟨u2,hu⟩:=ih.suf
  refine⟨fun x hx=> ?_,by rw[List.length_cons,ih.cnt],ih.byt,by have:=ih.len;omega,⟨u1++u2,by rw[List.append_assoc,←hu,←a5]⟩,fun h=> ?_⟩
  ·rcases List.mem_cons.1 hx with rfl|hx
   ·exact⟨a3,a4⟩
   ·exact ih.num x hx
  ·obtain⟨h1,h2⟩:=ih.right h
   obtain⟨h3,h4⟩:=a6 h1
   exact⟨h3,by simp only[nums,List.append_assoc];rw[←h2,←h4]⟩
theorem rdMany_of:∀{l r:List Int},(∀x∈l,0≤x∧x≤21)→rdMany l.length (nums l++r,false)=(l,(r,false))
 |[],r,_=>rfl
 |x::l,r,h=>by
  have hx:=h x (List.mem_cons_self ..)
  have e1:=rdUpto_of (top:=21) (n:=x.toNat) (r:=nums l++r) (by omega) (by omega)
  rw[show ((x.toNat:Nat):Int)=x by omega]at e1
  have e2:=rdMany_of (l:=l) (r:=r) fun y hy=>h y (List.mem_cons_of_mem _ hy)
  simp only[List.length_cons,nums,List.append_assoc,rdMany,e1,e2]
theorem rdMany_snoc:∀{k:Nat} {s:Rd},rdMany (k+1) s=((rdMany k s).1++[(rdUpto 21 (rdMany k s).2).1],(rdUpto 21 (rdMany k s).2).2)
 |0,s=>rfl
 |k+1,s=>by
  rw[rdMany,rdMany_snoc]
  simp only[rdMany,List.cons_append]
def rdAccu (s:Rd):AccS×Rd:=
 let p1:=rdUpto 21 s
 let p2:=rdUpto 1099511627776 p1.2
 let p3:=rdUpto 1099511627776 p2.2
 let p4:=rdHash p3.2
 let p5:=rdUpto 21 p4.2
 let p6:=rdMany p5.1.toNat p5.2
 let p7:=rdHash p6.2
 (⟨p1.1,p2.1,p3.1,p4.1,p6.1,p7.1⟩,p7.2)
def AccS.bytes (a:AccS):List Int:=num a.who.toNat++a.said++a.ta
structure RdAccu (b:List Int) (w:Bool) (a:AccS) (r:List Int) (w':Bool):Prop where
 wf:a.wf
 cnt:a.fr.length≤21
 byt:Byt r
 len:r.length≤b.length
 suf:∃u,b=u++r
theorem rdAccu_all {b r:List Int} {w w':Bool} {a:AccS} (e:rdAccu (b,w)=(a,r,w')) (hb:Byt b):RdAccu b w a r w':=by
 unfold rdAccu at e
 rcases e1:rdUpto 21 (b,w)with⟨n1,r1,w1⟩
 rcases e2:rdUpto 1099511627776 (r1,w1)with⟨n2,r2,w2⟩
 rcases e3:rdUpto 1099511627776 (r2,w2)with⟨n3,r3,w3⟩
 rcases e4:rdHash (r3,w3)with⟨n4,r4,w4⟩
 rcases e5:rdUpto 21 (r4,w4)with⟨n5,r5,w5⟩
 rcases e6:rdMany n5.toNat (r5,w5)with⟨n6,r6,w6⟩
 rcases e7:rdHash (r6,w6)with⟨n7,r7,w7⟩
 simp only[e1,e2,e3,e4,e5,e6,e7,Prod.mk.injEq]at e
 obtain⟨rfl,rfl,rfl⟩:=e
 obtain⟨a1,a2,a3,a4,⟨u1,a5⟩,_⟩:=rdUpto_all e1 hb (by omega)
 obtain⟨b1,b2,b3,b4,⟨u2,b5⟩,_⟩:=rdUpto_all e2 a1 (by omega)
 obtain⟨c1,c2,c3,c4,⟨u3,c5⟩,_⟩:=rdUpto_all e3 b1 (by omega)
 obtain⟨d1,d2,d3,⟨u4,d5⟩,_⟩:=rdHash_all e4 c1
 obtain⟨f1,f2,f3,f4,⟨u5,f5⟩,_⟩:=rdUpto_all e5 d1 (by omega)
 have g:=rdMany_all e6 f1
 obtain⟨u6,g5⟩:=g.suf
 obtain⟨l1,l2,l3,⟨u7,l5⟩,_⟩:=rdHash_all e7 g.byt
 have gl:=g.len
 have q1:I64 n1:=i64_of a3 (by omega)
 have q2:I64 n2:=i64_of b3 (by omega)
 have q3:I64 n3:=i64_of c3 (by omega)
 refine⟨⟨q1,q2,q3,d3,fun x hx=>i64_of (g.num x hx).1 (by have:=(g.num x hx).2;omega),l3⟩,by show n6.length≤21;rw[g.cnt];omega,l1,by omega,?_⟩
 exact⟨u1++u2++u3++u4++u5++u6++u7,by simp only[List.append_assoc];rw[←l5,←g5,←f5,←d5,←c5,←b5,←a5]⟩
theorem rdAccu_of {a:AccS} {r:List Int} (hw:a.wf) (hm:a.May):rdAccu (a.bytes++r,false)=(a,(r,false)):=by
 obtain⟨l1,l2,l3⟩:=AccS.may_len hm
 obtain⟨m1,m2,m3,m4,m5⟩:=hm
 unfold rdAccu AccS.bytes
 simp only[AccS.said,List.append_assoc]
 have T:∀{n top:Int} {r:List Int},0≤n→n≤top→n≤1099511627776→rdUpto top (num n.toNat++r,false)=(n,(r,false)):=by
  intro n top r h1 h2 h3
  have:=rdUpto_of (top:=top) (n:=n.toNat) (r:=r) (by omega) (by omega)
  rw[this,show ((n.toNat:Nat):Int)=n by omega]
 have T5:∀{r:List Int},rdUpto 21 (num a.fr.length++r,false)=((a.fr.length:Int),(r,false)):=fun {r}=>rdUpto_of (by omega) (by omega)
 rw[T (by omega) (by omega) (by omega)];simp only
 rw[T (by omega) (by omega) (by omega)];simp only
 rw[T (by omega) (by omega) (by omega)];simp only
 rw[rdHash_of hw.ph.2];simp only
 rw[T5];simp only[Int.toNat_natCast]
 rw[rdMany_of fun x hx=>by have:=l3 x hx;omega];simp only
 rw[rdHash_of hw.ta.2]
theorem AccS.bytes_ok {a:AccS} (hw:a.wf) (hm:a.May):Byt a.bytes∧a.bytes.length≤400:=by
 obtain⟨s1,s2⟩:=AccS.said_ok hw hm
 obtain⟨r1,n1⟩:=num_ok (n:=a.who.toNat) (by have:=hm.1;omega)
 refine⟨byt_app (byt_app r1 s1) hw.ta.1,?_⟩
 have:=hw.ta.2
 simp only[AccS.bytes,List.length_append];omega
def accR (a:AccS) (w:Bool):AccS:=if (!w&&a.may)=true then a else .zero
end Sha
end Go.Abs
namespace Go.Abs.Sha
open Go Go.Abs Go.Abs.Srt
theorem sigs_of:∀{xs:List V},(∀e∈xs,∃p:Int×List Int,e=sgV p∧I64 p.1∧H32 p.2)→∃sg:List (Int×List Int),xs=sg.map sgV∧∀p∈sg,I64 p.1∧H32 p.2
 |[],_=>⟨[],rfl,fun a ha=>by cases ha⟩
 |x::xs,h=>by
  obtain⟨a,rfl,hw⟩:=h x (List.mem_cons_self ..)
  obtain⟨sg,rfl,hws⟩:=sigs_of (xs:=xs) fun e he=>h e (List.mem_cons_of_mem _ he)
  exact⟨a::sg,rfl,fun b hb=>by rcases List.mem_cons.1 hb with rfl|hb<;>first|exact hw|exact hws _ hb⟩
theorem list_of {α:Type} {f:α→V} {P:α→Prop}:∀{xs:List V},(∀e∈xs,∃a,e=f a∧P a)→∃as:List α,xs=as.map f∧∀a∈as,P a
 |[],_=>⟨[],rfl,fun a ha=>by cases ha⟩
 |x::xs,h=>by
  obtain⟨a,rfl,hw⟩:=h x (List.mem_cons_self ..)
  obtain⟨sg,rfl,hws⟩:=list_of (xs:=xs) fun e he=>h e (List.mem_cons_of_mem _ he)
  exact⟨a::sg,rfl,fun b hb=>by rcases List.mem_cons.1 hb with rfl|hb<;>first|exact hw|exact hws _ hb⟩
end Go.Abs.Sha
namespace Go.Abs
open Go Go.RowKit
set_option linter.unusedVariables false
set_option linter.unusedSimpArgs false
namespace Sha
def CertS.one (c:CertS):AttS:={ c.att with who:=1,ta:=zero32 }
def CertS.May (c:CertS):Prop:=c.one.May∧c.att.who=0∧c.att.ta=zero32∧c.sigs≠[]∧riseI 21 0 (c.sigs.map (·.1))=true
instance (c:CertS):Decidable c.May:=by unfold CertS.May;infer_instance
def CertS.may (c:CertS):Bool:=decide c.May
def CertS.ok (c:CertS):Prop:=c.att.wf∧(∀p∈c.sigs,I64 p.1∧H32 p.2)
def sigB:List (Int×List Int)→List Int
 |[]=>[]
 |p::l=>num p.1.toNat++p.2++sigB l
theorem sigB_ok:∀{l:List (Int×List Int)},(∀p∈l,(0≤p.1∧p.1≤21)∧H32 p.2)→Byt (sigB l)∧(sigB l).length≤42*l.length
 |[],_=>⟨byt_nil,by simp[sigB]⟩
 |p::l,h=>by
  obtain⟨h1,h2⟩:=h p (List.mem_cons_self ..)
  obtain⟨r1,n1⟩:=num_ok (n:=p.1.toNat) (by omega)
  obtain⟨i1,i2⟩:=sigB_ok (l:=l) fun q hq=>h q (List.mem_cons_of_mem _ hq)
  refine⟨byt_app (byt_app r1 h2.1) i1,?_⟩
  have:=h2.2
  simp only[sigB,List.length_append,List.length_cons];omega
def CertS.bytes (c:CertS):List Int:=c.att.said++num c.sigs.length++sigB c.sigs
def rdSigs:Nat→Rd→List (Int×List Int)×Rd
 |0,s=>([],s)
 |k+1,s=>(((rdUpto 21 s).1,(rdHash (rdUpto 21 s).2).1)::(rdSigs k (rdHash (rdUpto 21 s).2).2).1,(rdSigs k (rdHash (rdUpto 21 s).2).2).2)
structure RdSigs (b:List Int) (k:Nat) (l:List (Int×List Int)) (r:List Int):Prop where
 num:∀p∈l,(0≤p.1∧p.1≤21)∧H32 p.2
 cnt:l.length=k
 byt:Byt r
 len:r.length≤b.length
 suf:∃u,b=u++r
theorem rdSigs_all:∀{k:Nat} {b r:List Int} {l:List (Int×List Int)} {w w':Bool},rdSigs k (b,w)=(l,r,w')→Byt b→RdSigs b k l r
 |0,b,r,l,w,w',e,hb=>by
  simp only[rdSigs,Prod.mk.injEq]at e
  obtain⟨rfl,rfl,rfl⟩:=e
  exact⟨(fun x hx=>by cases hx),rfl,hb,Nat.le_refl _,⟨[],rfl⟩⟩
 |k+1,b,r,l,w,w',e,hb=>by
  rcases e1:rdUpto 21 (b,w)with⟨n1,r1,w1⟩
  rcases e2:rdHash (r1,w1)with⟨n2,r2,w2⟩
  rcases e3:rdSigs k (r2,w2)with⟨l3,r3,w3⟩
  simp only[rdSigs,e1,e2,e3,Prod.mk.injEq]at e
  obtain⟨rfl,rfl,rfl⟩:=e
  obtain⟨a1,a2,a3,a4,⟨u1,a5⟩,_⟩:=rdUpto_all e1 hb (by omega)
  obtain⟨b1,b2,b3,⟨u2,b5⟩,_⟩:=rdHash_all e2 a1
  have ih:=rdSigs_all e3 b1
  obtain⟨u3,hu⟩:=ih.suf
  refine⟨fun x hx=> ?_,by rw[List.length_cons,ih.cnt],ih.byt,by have:=ih.len;omega,⟨u1++u2++u3,by simp only[List.append_assoc];rw[←hu,←b5,←a5]⟩⟩
  rcases List.mem_cons.1 hx with rfl|hx
  ·exact⟨⟨a3,a4⟩,b3⟩
  ·exact ih.num x hx
theorem rdSigs_of:∀{l:List (Int×List Int)} {r:List Int},(∀p∈l,(0≤p.1∧p.1≤21)∧H32 p.2)→rdSigs l.length (sigB l++r,false)=(l,(r,false))
 |[],r,_=>rfl
 |p::l,r,h=>by
  obtain⟨hx,hh⟩:=h p (List.mem_cons_self ..)
  have e1:=rdUpto_of (top:=21) (n:=p.1.toNat) (r:=p.2++(sigB l++r)) (by omega) (by omega)
  rw[show ((p.1.toNat:Nat):Int)=p.1 by omega]at e1
  have e2:=rdHash_of (h:=p.2) (r:=sigB l++r) hh.2
  have e3:=rdSigs_of (l:=l) (r:=r) fun y hy=>h y (List.mem_cons_of_mem _ hy)
  simp only[List.length_cons,sigB,List.append_assoc,rdSigs,e1,e2,e3]
theorem rdSigs_snoc:∀{k:Nat} {s:Rd},rdSigs (k+1) s=((rdSigs k s).1++[((rdUpto 21 (rdSigs k s).2).1,(rdHash (rdUpto 21 (rdSigs k s).2).2).1)],(rdHash (rdUpto 21 (rdSigs k s).2).2).2)
 |0,s=>rfl
 |k+1,s=>by
  rw[rdSigs,rdSigs_snoc]
  simp only[rdSigs,List.cons_append]
def rdCert (s:Rd):CertS×Rd:=
 let p1:=rdUpto 3 s
 let p2:=rdUpto 1099511627776 p1.2
 let p3:=rdUpto 3 p2.2
 let p4:=rdHash p3.2
 let p5:=rdUpto 1099511627776 p4.2
 let p6:=rdHash p5.2
 let p7:=rdUpto 21 p6.2
 let p8:=rdSigs p7.1.toNat p7.2
 (⟨⟨0,p1.1,p2.1,p3.1,p4.1,p5.1,p6.1,zero32⟩,p8.1⟩,p8.2)
structure RdCert (b:List Int) (c:CertS) (r:List Int):Prop where
 wf:c.ok
 cnt:c.sigs.length≤21
 byt:Byt r
 len:r.length≤b.length
 suf:∃u,b=u++r
theorem rdCert_all {b r:List Int} {w w':Bool} {c:CertS} (e:rdCert (b,w)=(c,r,w')) (hb:Byt b):RdCert b c r:=by
 unfold rdCert at e
 rcases e1:rdUpto 3 (b,w)with⟨n1,r1,w1⟩
 rcases e2:rdUpto 1099511627776 (r1,w1)with⟨n2,r2,w2⟩
 rcases e3:rdUpto 3 (r2,w2)with⟨n3,r3,w3⟩
 rcases e4:rdHash (r3,w3)with⟨n4,r4,w4⟩
 rcases e5:rdUpto 1099511627776 (r4,w4)with⟨n5,r5,w5⟩
 rcases e6:rdHash (r5,w5)with⟨n6,r6,w6⟩
 rcases e7:rdUpto 21 (r6,w6)with⟨n7,r7,w7⟩
 rcases e8:rdSigs n7.toNat (r7,w7)with⟨n8,r8,w8⟩
 simp only[e1,e2,e3,e4,e5,e6,e7,e8,Prod.mk.injEq]at e
 obtain⟨rfl,rfl,rfl⟩:=e
 obtain⟨a1,a2,a3,a4,⟨u1,a5⟩,_⟩:=rdUpto_all e1 hb (by omega)
 obtain⟨b1,b2,b3,b4,⟨u2,b5⟩,_⟩:=rdUpto_all e2 a1 (by omega)
 obtain⟨c1,c2,c3,c4,⟨u3,c5⟩,_⟩:=rdUpto_all e3 b1 (by omega)
 obtain⟨d1,d2,d3,⟨u4,d5⟩,_⟩:=rdHash_all e4 c1
 obtain⟨f1,f2,f3,f4,⟨u5,f5⟩,_⟩:=rdUpto_all e5 d1 (by omega)
 obtain⟨g1,g2,g3,⟨u6,g5⟩,_⟩:=rdHash_all e6 f1
 obtain⟨k1,k2,k3,k4,⟨u7,k5⟩,_⟩:=rdUpto_all e7 g1 (by omega)
 have m:=rdSigs_all e8 k1
 obtain⟨u8,m5⟩:=m.suf
 have ml:=m.len
 have q0:I64 (0:Int):=i64_of (by omega) (by omega)
 have q1:I64 n1:=i64_of a3 (by omega)
 have q2:I64 n2:=i64_of b3 (by omega)
 have q3:I64 n3:=i64_of c3 (by omega)
 have q5:I64 n5:=i64_of f3 (by omega)
 refine⟨⟨⟨q0,q1,q2,q3,q5,d3,g3,h32_zero⟩,fun p hp=>⟨i64_of (m.num p hp).1.1 (by have:=(m.num p hp).1.2;omega),(m.num p hp).2⟩⟩,by show n8.length≤21;rw[m.cnt];omega,m.byt,by omega,?_⟩
 exact⟨u1++u2++u3++u4++u5++u6++u7++u8,by simp only[List.append_assoc];rw[←m5,←k5,←g5,←f5,←d5,←c5,←b5,←a5]⟩
theorem CertS.may_len {c:CertS} (h:c.May):c.sigs.length≤21∧0 < c.sigs.length∧∀p∈c.sigs,0 < p.1∧p.1≤21:=by
 obtain⟨_,_,_,h4,h5⟩:=h
 refine⟨?_,List.length_pos_iff.2 h4,fun p hp=>riseI_all h5 _ (List.mem_map_of_mem hp)⟩
 rcases riseI_len h5 with h|h
 ·rw[List.map_eq_nil_iff.1 h];decide
 ·rw[List.length_map]at h;omega
theorem CertS.sigs_in {c:CertS} (hw:c.ok) (h:c.May):∀p∈c.sigs,(0≤p.1∧p.1≤21)∧H32 p.2:=fun p hp=>by
 have:=(CertS.may_len h).2.2 p hp
 exact⟨by omega,(hw.2 p hp).2⟩
theorem rdCert_of {c:CertS} {r:List Int} (hw:c.ok) (hm:c.May):rdCert (c.bytes++r,false)=(c,(r,false)):=by
 obtain⟨l1,l2,l3⟩:=CertS.may_len hm
 have hs:=CertS.sigs_in hw hm
 obtain⟨m1,m2,m3,m4,m5⟩:=hm
 obtain⟨m1a,m1b,m1c,m1d,m1e,m1f⟩:=m1
 obtain⟨⟨a1,a2,a3,a4,a5,a6,a7,a8⟩,sg⟩:=c
 unfold CertS.one at m1a m1b m1c m1d m1e m1f
 dsimp only at*
 unfold rdCert CertS.bytes
 simp only[AttS.said,List.append_assoc]
 have T:∀{n top:Int} {r:List Int},0≤n→n≤top→n≤1099511627776→rdUpto top (num n.toNat++r,false)=(n,(r,false)):=by
  intro n top r h1 h2 h3
  have:=rdUpto_of (top:=top) (n:=n.toNat) (r:=r) (by omega) (by omega)
  rw[this,show ((n.toNat:Nat):Int)=n by omega]
 have T7:∀{r:List Int},rdUpto 21 (num sg.length++r,false)=((sg.length:Int),(r,false)):=fun {r}=>rdUpto_of (by omega) (by omega)
 rw[T (by omega) (by omega) (by omega)];simp only
 rw[T (by omega) (by omega) (by omega)];simp only
 rw[T (by omega) (by omega) (by omega)];simp only
 rw[rdHash_of hw.1.ha.2];simp only
 rw[T (by omega) (by omega) (by omega)];simp only
 rw[rdHash_of hw.1.pa.2];simp only
 rw[T7];simp only[Int.toNat_natCast]
 rw[rdSigs_of hs]
 subst m2;subst m3;rfl
theorem CertS.bytes_ok {c:CertS} (hw:c.ok) (hm:c.May):Byt c.bytes∧c.bytes.length≤1100:=by
 have hl:=(CertS.may_len hm).1
 have hs:=sigB_ok (CertS.sigs_in hw hm)
 have h1:c.one.wf:=⟨i64_of (by show (0:Int)≤1;decide) (by show (1:Int)≤1099511627776;decide),hw.1.ki,hw.1.vi,hw.1.ph,hw.1.pv,hw.1.ha,hw.1.pa,h32_zero⟩
 obtain⟨s1,s2⟩:=AttS.said_ok h1 hm.1
 obtain⟨r1,n1⟩:=num_ok (n:=c.sigs.length) (by omega)
 refine⟨byt_app (byt_app s1 r1) hs.1,?_⟩
 have s3:c.att.said.length≤104:=s2
 have:=hs.2
 simp only[CertS.bytes,List.length_append];omega
def certR (c:CertS) (w:Bool):CertS:=if (!w&&c.may)=true then c else .zero
end Sha
end Go.Abs
namespace Go.Proofs.Ytegamlopcdjiaaa.Sha
open Go Go.Abs Go.Abs.Sha Go.Abs.Srt
set_option linter.unusedSimpArgs false
set_option linter.unusedVariables false
set_option maxRecDepth 100000
def pf115:PF:=
 PF.mk 1 3 32 ((PC.reg [nn (.v 1) (.box (.v 0)),nn (.v 2) (.mv true (.c (.v (.bool false))))]).seq ((PC.reg [nn (.t 3) (.load 102 true (.v 1)),nn (.t
  4) (.build (.agg [.int .i64 0,.arr .u8 32 zz2]) [(0,.c
  (.v (.int .i64 1)))]),nn (.t 5) (.call 134 [.t 3,.t 4]),nn (.t 6) (.call 113 [.t 5]),nn (.t 7) (.bin .eql (.t 6) (.c (.v (.int .i64 0)))),nn (.t
  8) (.mv false (.t 7)),⟨.t 9,.fadr 1 101 (.v 1),some (.t 8,true)⟩,⟨.t 10,.load 1 false (.t 9),some (.t 8,true)⟩,⟨.t 11,.len (.t 10),some
  (.t 8,true)⟩,⟨.t 12,.bin .gtr (.t 11) (.c (.v (.int .i64 0))),some (.t 8,true)⟩,nn (.t 13) (.pick (.t 8) (.t 12) (.c (.v (.bool false)))),nn
  (.t 14) (.mv false (.t 13)),⟨.t 15,.fadr 1 101 (.v 1),some (.t 14,true)⟩,⟨.t 16,.load 1 false (.t 15),some (.t 14,true)⟩,⟨.t 17,.call 135
  [.t 16,.c (.v (.int .i64 21))],some (.t 14,true)⟩,nn (.t 18) (.pick (.t 14) (.t 17) (.c (.v (.bool false)))),nn (.t 19) (.mv false (.t 18)),⟨.t
  20,.fadr 0 0 (.v 1),some (.t 19,true)⟩,⟨.t 21,.fadr 0 0 (.t 20),some (.t 19,true)⟩,⟨.t 22,.load 1 false (.t 21),some (.t 19,true)⟩,⟨.t
  23,.bin .eql (.t 22) (.c (.v (.int .i64 0))),some (.t 19,true)⟩,nn (.t 24) (.pick (.t 19) (.t 23) (.c (.v (.bool false)))),nn (.t 25) (.mv false
  (.t 24)),⟨.t 26,.fadr 0 0 (.v 1),some (.t 25,true)⟩,⟨.t 27,.fadr 7 69 (.t 26),some (.t 25,true)⟩,⟨.t 28,.load 32 true (.t 27),some (.t 25,
  true)⟩,⟨.t 29,.build (.arr .u8 32 zz2) [],some (.t
  25,true)⟩,⟨.t 30,.eqa false (.arr 32) (.t 28) (.t 29),some (.t 25,true)⟩,nn (.t 31) (.pick (.t 25) (.t 30) (.c (.v (.bool false)))),ma 2
  31]).seq PC.ret)) [(.v 2,none)]
def pf36:PF:=
 PF.mk 1 3 23 ((PC.reg [nn (.v 1) (.box (.v 0)),nn (.v 2) (.mv true (.c (.v (.bool false))))]).seq ((PC.reg [nn (.t 3) (.load 102 true (.v 1)),nn (.t
  4) (.call 87 [.t 3]),nn (.t 5) (.mv false (.t 4)),⟨.t 6,.fadr 0 0 (.v 1),some (.t 5,true)⟩,⟨.t 7,.load 101 true (.t 6),some (.t 5,true)⟩,
  ⟨.t 8,.build (.agg [.int .i64 0,.arr .u8 32 zz2]) [(0,
  .c (.v (.int .i64 1)))],some (.t 5,true)⟩,⟨.t 9,.call 88 [.t 7,.t 8],some (.t 5,true)⟩,⟨.t 10,.call 33 [.t 9],some (.t 5,true)⟩,nn (.t
  11) (.pick (.t 5) (.t 10) (.c (.v (.bool false)))),nn (.t 12) (.mv false (.t 11)),⟨.t 13,.fadr 1 101 (.v 1),some (.t 12,true)⟩,⟨.t 14,.load 1
  false (.t 13),some (.t 12,true)⟩,⟨.t 15,.len (.t 14),some (.t 12,true)⟩,⟨.t 16,.bin .gtr (.t 15) (.c (.v (.int .i64 0))),some (.t 12,
  true)⟩,nn (.t 17) (.pick (.t 12) (.t 16) (.c (.v (.bool false)))),nn (.t 18) (.mv false (.t 17)),⟨.t 19,.fadr 1 101 (.v 1),some (.t 18,true)⟩,
  ⟨.t 20,.load 1 false (.t 19),some (.t 18,true)⟩,⟨.t 21,.call 89 [.t 20,.c (.v (.int .i64 21))],some (.t 18,true)⟩,nn (.t 22) (.pick (.t 18)
  (.t 21) (.c (.v (.bool false)))),ma 2 22]).seq PC.ret)) [(.v 2,none)]
attribute [local irreducible] W Wops WopsD WL Wop WopD
variable {E:Env} {C:Abs.Spec} {l:List (Nat×Spec1)} {G:List (Nat×V)} {Q:R→List (Nat×V)→Prop}
set_option maxHeartbeats 1000000
theorem risesB_eq {n:Int}:∀{l:List Int} {low:Int},risesB n low l=riseI n low l
 |[],_=>rfl
 |w::ws,low=>by unfold risesB riseI;rw[risesB_eq]
def ZMc:Spec1
 |[y],G,Q=>∃(a:AttS) (x:V) (sg:List (Int×List Int)),(y= .agg [a.v,x]∧SgV G x sg∧a.wf∧sg.length < 1000000)∧Q (.v (.bool (CertS.may ⟨a,sg⟩))) G
 |_,_,_=>False
theorem ZMc_eq {y}:ZMc [y] G Q=(∃(a:AttS) (x:V) (sg:List (Int×List Int)),(y= .agg [a.v,x]∧SgV G x sg∧a.wf∧sg.length < 1000000)∧Q (.v (.bool (CertS.may ⟨a,sg⟩))) G):=rfl
theorem one_wf {a:AttS} (h:a.wf):(⟨1,a.ki,a.vi,a.ph,a.ha,a.pv,a.pa,zero32⟩:AttS).wf:=⟨i64_of (by show (0:Int)≤1;decide) (by show (1:Int)≤1099511627776;decide),h.ki,h.vi,h.ph,h.pv,h.ha,h.pa,h32_zero⟩
theorem walk115i {a:AttS} {sg:List (Int×List Int)} (hW:Abs.look l 134=some ZWi) (hC:Abs.look l 113=some SCk) (hR:Abs.look l 135=some ZRs) (hw:a.wf) (hl:sg.length < 1000000) (h:Q (.v (.bool (CertS.may ⟨a,sg⟩))) G):Wf E (specOf l) pf115 [.agg [a.v,.sle 33 (sg.map sgV)]] G Q:=by
 have key:∀b:Bool,(b=true↔CertS.May ⟨a,sg⟩)→Q (.v (.bool b)) G:=fun b hb=>by
  have:b=CertS.may ⟨a,sg⟩:=by unfold CertS.may;rw[Bool.eq_iff_iff,hb];simp
  rw[this];exact h
 have ow:=one_wf hw
 obtain⟨a1,a2,a3,a4,a5,a6,a7,a8⟩:=a
 unfold CertS.May CertS.one at key
 dsimp only at key ow
 simp -implicitDefEqProofs only[pf115,AttS.v,hW,ZWi_eq,go_sem,↓reduceIte]
 refine⟨⟨a1,a2,a3,a4,a5,a6,a7,a8⟩,_,(1,zero32),⟨rfl,rfl,rfl,rfl⟩,?_⟩
 simp -implicitDefEqProofs only[withS,AttS.v,hC,SCk_eq,go_sem,↓reduceIte]
 refine⟨ow,?_⟩
 cases hq:AttS.may ⟨1,a2,a3,a4,a5,a6,a7,zero32⟩with
 |false=>
  have hn:¬AttS.May ⟨1,a2,a3,a4,a5,a6,a7,zero32⟩:=of_decide_eq_false hq
  try simp -implicitDefEqProofs only[go_sem,↓reduceIte]
  exact key false ⟨fun e=>(by cases e),fun e=>absurd e.1 hn⟩
 |true=>
  have hm:AttS.May ⟨1,a2,a3,a4,a5,a6,a7,zero32⟩:=of_decide_eq_true hq
  by_cases q2:sg=[]
  ·subst q2
   simp -implicitDefEqProofs only[List.map_nil,List.length_nil,Int.lt_irrefl,Int.natCast_zero,go_sem,↓reduceIte]
   exact key false ⟨fun e=>(by cases e),fun e=>absurd rfl e.2.2.2.1⟩
  have q2':(0:Int) < (sg.length:Int):=by have:=List.length_pos_iff.2 q2;omega
  have q2n:¬(sg.length:Int)≤0:=by omega
  simp -implicitDefEqProofs only[q2',q2n,List.length_map,hR,ZRs_eq,go_sem,↓reduceIte]
  refine⟨sg,⟨rfl,hl⟩,?_⟩
  rw[risesB_eq]
  cases hr:riseI 21 0 (sg.map (·.1))with
  |false=>
   try simp -implicitDefEqProofs only[go_sem,↓reduceIte]
   exact key false ⟨fun e=>(by cases e),fun e=>absurd e.2.2.2.2 (by rw[hr];decide)⟩
  |true=>
   by_cases q4:a1=0
   case neg=>
    simp -implicitDefEqProofs only[q4,go_sem,↓reduceIte]
    exact key false ⟨fun e=>(by cases e),fun e=>absurd e.2.1 q4⟩
   simp -implicitDefEqProofs only[q4,go_sem,↓reduceIte]
   refine key _ ?_
   rw[beq_iff_eq]
   exact⟨fun e=>⟨hm,q4,e,q2,hr⟩,fun e=>e.2.2.1⟩
theorem walk115s {a:AttS} {sg:List (Int×List Int)} {id c:Nat} {LL:List V} (hG:Abs.look G id=some (.agg LL)) (hLL:∀(i:Nat) p,sg[i]? =some p→LL[i]? =some (sgV p)) (hfl:sg.length≤LL.length) (hsz:∀y∈LL,V.size y=33) (hW:Abs.look l 134=some ZWi) (hC:Abs.look l 113=some SCk) (hR:Abs.look l 135=some ZRs) (hw:a.wf) (hl:sg.length < 1000000) (h:Q (.v (.bool (CertS.may ⟨a,sg⟩))) G):Wf E (specOf l) pf115 [.agg [a.v,.sob id 33 0 sg.length c]] G Q:=by
 have key:∀b:Bool,(b=true↔CertS.May ⟨a,sg⟩)→Q (.v (.bool b)) G:=fun b hb=>by
  have:b=CertS.may ⟨a,sg⟩:=by unfold CertS.may;rw[Bool.eq_iff_iff,hb];simp
  rw[this];exact h
 have ow:=one_wf hw
 obtain⟨a1,a2,a3,a4,a5,a6,a7,a8⟩:=a
 unfold CertS.May CertS.one at key
 dsimp only at key ow
 simp -implicitDefEqProofs only[pf115,AttS.v,hW,ZWi_eq,go_sem,↓reduceIte]
 refine⟨⟨a1,a2,a3,a4,a5,a6,a7,a8⟩,_,(1,zero32),⟨rfl,rfl,rfl,rfl⟩,?_⟩
 simp -implicitDefEqProofs only[withS,AttS.v,hC,SCk_eq,go_sem,↓reduceIte]
 refine⟨ow,?_⟩
 cases hq:AttS.may ⟨1,a2,a3,a4,a5,a6,a7,zero32⟩with
 |false=>
  have hn:¬AttS.May ⟨1,a2,a3,a4,a5,a6,a7,zero32⟩:=of_decide_eq_false hq
  try simp -implicitDefEqProofs only[go_sem,↓reduceIte]
  exact key false ⟨fun e=>(by cases e),fun e=>absurd e.1 hn⟩
 |true=>
  have hm:AttS.May ⟨1,a2,a3,a4,a5,a6,a7,zero32⟩:=of_decide_eq_true hq
  by_cases q2:sg=[]
  ·subst q2
   simp -implicitDefEqProofs only[List.map_nil,List.length_nil,Int.lt_irrefl,Int.natCast_zero,go_sem,↓reduceIte]
   exact key false ⟨fun e=>(by cases e),fun e=>absurd rfl e.2.2.2.1⟩
  have q2':(0:Int) < (sg.length:Int):=by have:=List.length_pos_iff.2 q2;omega
  have q2n:¬(sg.length:Int)≤0:=by omega
  simp -implicitDefEqProofs only[q2',q2n,List.length_map,hR,ZRs_eq,go_sem,↓reduceIte]
  refine⟨sg,LL,⟨rfl,hl,hG,hLL,hfl,hsz⟩,?_⟩
  rw[risesB_eq]
  cases hr:riseI 21 0 (sg.map (·.1))with
  |false=>
   try simp -implicitDefEqProofs only[go_sem,↓reduceIte]
   exact key false ⟨fun e=>(by cases e),fun e=>absurd e.2.2.2.2 (by rw[hr];decide)⟩
  |true=>
   by_cases q4:a1=0
   case neg=>
    simp -implicitDefEqProofs only[q4,go_sem,↓reduceIte]
    exact key false ⟨fun e=>(by cases e),fun e=>absurd e.2.1 q4⟩
   simp -implicitDefEqProofs only[q4,go_sem,↓reduceIte]
   refine key _ ?_
   rw[beq_iff_eq]
   exact⟨fun e=>⟨hm,q4,e,q2,hr⟩,fun e=>e.2.2.1⟩
theorem walk115n {a:AttS} (hW:Abs.look l 134=some ZWi) (hC:Abs.look l 113=some SCk) (hR:Abs.look l 135=some ZRs) (hw:a.wf) (h:Q (.v (.bool (CertS.may ⟨a,[]⟩))) G):Wf E (specOf l) pf115 [.agg [a.v,.nils]] G Q:=by
 have hm:CertS.may ⟨a,[]⟩=false:=decide_eq_false fun e=>e.2.2.2.1 rfl
 rw[hm]at h
 have ow:=one_wf hw
 obtain⟨a1,a2,a3,a4,a5,a6,a7,a8⟩:=a
 dsimp only at ow
 simp -implicitDefEqProofs only[pf115,AttS.v,hW,ZWi_eq,go_sem,↓reduceIte]
 refine⟨⟨a1,a2,a3,a4,a5,a6,a7,a8⟩,_,(1,zero32),⟨rfl,rfl,rfl,rfl⟩,?_⟩
 simp -implicitDefEqProofs only[withS,AttS.v,hC,SCk_eq,go_sem,↓reduceIte]
 refine⟨ow,?_⟩
 try simp -implicitDefEqProofs only[go_sem,↓reduceIte]
 first|exact h|exact⟨fun _=>h,fun _=>h⟩|trace_state
theorem walk36i {a:AttS} {sg:List (Int×List Int)} (hB:Abs.look l 87=some ZBa) (hW:Abs.look l 88=some ZWj) (hC:Abs.look l 33=some SMy) (hR:Abs.look l 89=some ZRs) (hw:a.wf) (hl:sg.length < 1000000) (h:Q (.v (.bool (CertS.may ⟨a,sg⟩))) G):Wf E (specOf l) pf36 [.agg [a.v,.sle 33 (sg.map sgV)]] G Q:=by
 have key:∀b:Bool,(b=true↔CertS.May ⟨a,sg⟩)→Q (.v (.bool b)) G:=fun b hb=>by
  have:b=CertS.may ⟨a,sg⟩:=by unfold CertS.may;rw[Bool.eq_iff_iff,hb];simp
  rw[this];exact h
 have ow:=one_wf hw
 obtain⟨a1,a2,a3,a4,a5,a6,a7,a8⟩:=a
 unfold CertS.May CertS.one at key
 dsimp only at key ow
 simp -implicitDefEqProofs only[pf36,AttS.v,hB,ZBa_eq,go_sem,↓reduceIte]
 refine⟨⟨a1,a2,a3,a4,a5,a6,a7,a8⟩,_,⟨rfl,rfl,rfl⟩,?_⟩
 by_cases q4:a1=0
 case neg=>
  simp -implicitDefEqProofs only[q4,go_sem,↓reduceIte]
  exact key false ⟨fun e=>(by cases e),fun e=>absurd e.2.1 q4⟩
 cases q5:a8==zero32 with
 |false=>
  simp -implicitDefEqProofs only[q4,q5,go_sem,↓reduceIte]
  exact key false ⟨fun e=>(by cases e),fun e=>absurd e.2.2.1 (by intro c;rw[c,beq_self_eq_true]at q5;cases q5)⟩
 |true=>
  have q5e:=eq_of_beq q5
  simp -implicitDefEqProofs only[q4,q5,hW,ZWj_eq,go_sem,↓reduceIte]
  refine⟨⟨0,a2,a3,a4,a5,a6,a7,a8⟩,(1,zero32),⟨rfl,rfl⟩,?_⟩
  simp -implicitDefEqProofs only[withS,AttS.v,hC,SMy_eq,go_sem,↓reduceIte]
  refine⟨ow,?_⟩
  cases hq:AttS.may ⟨1,a2,a3,a4,a5,a6,a7,zero32⟩with
  |false=>
   have hn:¬AttS.May ⟨1,a2,a3,a4,a5,a6,a7,zero32⟩:=of_decide_eq_false hq
   try simp -implicitDefEqProofs only[go_sem,↓reduceIte]
   exact key false ⟨fun e=>(by cases e),fun e=>absurd e.1 hn⟩
  |true=>
   have hm:AttS.May ⟨1,a2,a3,a4,a5,a6,a7,zero32⟩:=of_decide_eq_true hq
   by_cases q2:sg=[]
   ·subst q2
    simp -implicitDefEqProofs only[List.map_nil,List.length_nil,Int.lt_irrefl,Int.natCast_zero,go_sem,↓reduceIte]
    exact key false ⟨fun e=>(by cases e),fun e=>absurd rfl e.2.2.2.1⟩
   have q2':(0:Int) < (sg.length:Int):=by have:=List.length_pos_iff.2 q2;omega
   have q2n:¬(sg.length:Int)≤0:=by omega
   simp -implicitDefEqProofs only[q2',q2n,List.length_map,hR,ZRs_eq,go_sem,↓reduceIte]
   refine⟨sg,⟨rfl,hl⟩,?_⟩
   rw[risesB_eq]
   try simp -implicitDefEqProofs only[go_sem,↓reduceIte]
   refine key _ ?_
   exact⟨fun e=>⟨hm,q4,q5e,q2,e⟩,fun e=>e.2.2.2.2⟩
theorem walk36n {a:AttS} {sg:List (Int×List Int)} (hB:Abs.look l 87=some ZBa) (hW:Abs.look l 88=some ZWj) (hC:Abs.look l 33=some SMy) (hR:Abs.look l 89=some ZRs) (hw:a.wf) (hl:sg.length < 1000000) (h:Q (.v (.bool (CertS.may ⟨a,[]⟩))) G):Wf E (specOf l) pf36 [.agg [a.v,.nils]] G Q:=by
 have key:∀b:Bool,(b=true↔CertS.May ⟨a,[]⟩)→Q (.v (.bool b)) G:=fun b hb=>by
  have:b=CertS.may ⟨a,[]⟩:=by unfold CertS.may;rw[Bool.eq_iff_iff,hb];simp
  rw[this];exact h
 have ow:=one_wf hw
 obtain⟨a1,a2,a3,a4,a5,a6,a7,a8⟩:=a
 unfold CertS.May CertS.one at key
 dsimp only at key ow
 simp -implicitDefEqProofs only[pf36,AttS.v,hB,ZBa_eq,go_sem,↓reduceIte]
 refine⟨⟨a1,a2,a3,a4,a5,a6,a7,a8⟩,_,⟨rfl,rfl,rfl⟩,?_⟩
 by_cases q4:a1=0
 case neg=>
  simp -implicitDefEqProofs only[q4,go_sem,↓reduceIte]
  exact key false ⟨fun e=>(by cases e),fun e=>absurd e.2.1 q4⟩
 cases q5:a8==zero32 with
 |false=>
  simp -implicitDefEqProofs only[q4,q5,go_sem,↓reduceIte]
  exact key false ⟨fun e=>(by cases e),fun e=>absurd e.2.2.1 (by intro c;rw[c,beq_self_eq_true]at q5;cases q5)⟩
 |true=>
  have q5e:=eq_of_beq q5
  simp -implicitDefEqProofs only[q4,q5,hW,ZWj_eq,go_sem,↓reduceIte]
  refine⟨⟨0,a2,a3,a4,a5,a6,a7,a8⟩,(1,zero32),⟨rfl,rfl⟩,?_⟩
  simp -implicitDefEqProofs only[withS,AttS.v,hC,SMy_eq,go_sem,↓reduceIte]
  refine⟨ow,?_⟩
  cases hq:AttS.may ⟨1,a2,a3,a4,a5,a6,a7,zero32⟩with
  |false=>
   have hn:¬AttS.May ⟨1,a2,a3,a4,a5,a6,a7,zero32⟩:=of_decide_eq_false hq
   try simp -implicitDefEqProofs only[go_sem,↓reduceIte]
   exact key false ⟨fun e=>(by cases e),fun e=>absurd e.1 hn⟩
  |true=>
   have hm:AttS.May ⟨1,a2,a3,a4,a5,a6,a7,zero32⟩:=of_decide_eq_true hq
   try simp -implicitDefEqProofs only[go_sem,↓reduceIte]
   exact key false ⟨fun e=>(by cases e),fun e=>absurd rfl e.2.2.2.1⟩
theorem walk36s {a:AttS} {sg:List (Int×List Int)} {id c:Nat} {LL:List V} (hG:Abs.look G id=some (.agg LL)) (hLL:∀(i:Nat) p,sg[i]? =some p→LL[i]? =some (sgV p)) (hfl:sg.length≤LL.length) (hsz:∀y∈LL,V.size y=33) (hB:Abs.look l 87=some ZBa) (hW:Abs.look l 88=some ZWj) (hC:Abs.look l 33=some SMy) (hR:Abs.look l 89=some ZRs) (hw:a.wf) (hl:sg.length < 1000000) (h:Q (.v (.bool (CertS.may ⟨a,sg⟩))) G):Wf E (specOf l) pf36 [.agg [a.v,.sob id 33 0 sg.length c]] G Q:=by
 have key:∀b:Bool,(b=true↔CertS.May ⟨a,sg⟩)→Q (.v (.bool b)) G:=fun b hb=>by
  have:b=CertS.may ⟨a,sg⟩:=by unfold CertS.may;rw[Bool.eq_iff_iff,hb];simp
  rw[this];exact h
 have ow:=one_wf hw
 obtain⟨a1,a2,a3,a4,a5,a6,a7,a8⟩:=a
 unfold CertS.May CertS.one at key
 dsimp only at key ow
 simp -implicitDefEqProofs only[pf36,AttS.v,hB,ZBa_eq,go_sem,↓reduceIte]
 refine⟨⟨a1,a2,a3,a4,a5,a6,a7,a8⟩,_,⟨rfl,rfl,rfl⟩,?_⟩
 by_cases q4:a1=0
 case neg=>
  simp -implicitDefEqProofs only[q4,go_sem,↓reduceIte]
  exact key false ⟨fun e=>(by cases e),fun e=>absurd e.2.1 q4⟩
 cases q5:a8==zero32 with
 |false=>
  simp -implicitDefEqProofs only[q4,q5,go_sem,↓reduceIte]
  exact key false ⟨fun e=>(by cases e),fun e=>absurd e.2.2.1 (by intro c;rw[c,beq_self_eq_true]at q5;cases q5)⟩
 |true=>
  have q5e:=eq_of_beq q5
  simp -implicitDefEqProofs only[q4,q5,hW,ZWj_eq,go_sem,↓reduceIte]
  refine⟨⟨0,a2,a3,a4,a5,a6,a7,a8⟩,(1,zero32),⟨rfl,rfl⟩,?_⟩
  simp -implicitDefEqProofs only[withS,AttS.v,hC,SMy_eq,go_sem,↓reduceIte]
  refine⟨ow,?_⟩
  cases hq:AttS.may ⟨1,a2,a3,a4,a5,a6,a7,zero32⟩with
  |false=>
   have hn:¬AttS.May ⟨1,a2,a3,a4,a5,a6,a7,zero32⟩:=of_decide_eq_false hq
   try simp -implicitDefEqProofs only[go_sem,↓reduceIte]
   exact key false ⟨fun e=>(by cases e),fun e=>absurd e.1 hn⟩
  |true=>
   have hm:AttS.May ⟨1,a2,a3,a4,a5,a6,a7,zero32⟩:=of_decide_eq_true hq
   by_cases q2:sg=[]
   ·subst q2
    simp -implicitDefEqProofs only[List.map_nil,List.length_nil,Int.lt_irrefl,Int.natCast_zero,go_sem,↓reduceIte]
    exact key false ⟨fun e=>(by cases e),fun e=>absurd rfl e.2.2.2.1⟩
   have q2':(0:Int) < (sg.length:Int):=by have:=List.length_pos_iff.2 q2;omega
   have q2n:¬(sg.length:Int)≤0:=by omega
   simp -implicitDefEqProofs only[q2',q2n,List.length_map,hR,ZRs_eq,go_sem,↓reduceIte]
   refine⟨sg,LL,⟨rfl,hl,hG,hLL,hfl,hsz⟩,?_⟩
   rw[risesB_eq]
   try simp -implicitDefEqProofs only[go_sem,↓reduceIte]
   refine key _ ?_
   exact⟨fun e=>⟨hm,q4,q5e,q2,e⟩,fun e=>e.2.2.2.2⟩
end Go.Proofs.Ytegamlopcdjiaaa.Sha
