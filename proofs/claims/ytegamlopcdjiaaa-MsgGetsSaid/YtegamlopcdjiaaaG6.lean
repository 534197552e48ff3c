/- Laws over plain values, and what functions of the program hand back; no conditions. -/
import Derived.Test.YtegamlopcdjiaaaG2
import Derived.Test.YtegamlopcdjiaaaG5
namespace Go.Proofs.Ytegamlopcdjiaaa.Sha
open Go Go.Abs Go.Abs.Sha Go.Abs.Srt
set_option linter.unusedSimpArgs false
set_option linter.unusedVariables false
set_option maxRecDepth 100000
def pf115:PF:=
 PF.mk 1 3 32 ((PC.reg [nn (.v 1) (.box (.v 0)),nn (.v 2) (.mv true (.c (.v (.bool false))))]).seq ((PC.reg [nn (.t 3) (.load 102 true (.v 1)),nn (.t
  4) (.build (.agg [.int .i64 0,.arr .u8 32 zz2]) [(0,.c
  (.v (.int .i64 1)))]),nn (.t 5) (.call 134 [.t 3,.t 4]),nn (.t 6) (.call 113 [.t 5]),nn (.t 7) (.bin .eql (.t 6) (.c (.v (.int .i64 0)))),nn (.t
  8) (.mv false (.t 7)),⟨.t 9,.fadr 1 101 (.v 1),some (.t 8,true)⟩,⟨.t 10,.load 1 false (.t 9),some (.t 8,true)⟩,⟨.t 11,.len (.t 10),some
  (.t 8,true)⟩,⟨.t 12,.bin .gtr (.t 11) (.c (.v (.int .i64 0))),some (.t 8,true)⟩,nn (.t 13) (.pick (.t 8) (.t 12) (.c (.v (.bool false)))),nn
  (.t 14) (.mv false (.t 13)),⟨.t 15,.fadr 1 101 (.v 1),some (.t 14,true)⟩,⟨.t 16,.load 1 false (.t 15),some (.t 14,true)⟩,⟨.t 17,.call 135
  [.t 16,.c (.v (.int .i64 21))],some (.t 14,true)⟩,nn (.t 18) (.pick (.t 14) (.t 17) (.c (.v (.bool false)))),nn (.t 19) (.mv false (.t 18)),⟨.t
  20,.fadr 0 0 (.v 1),some (.t 19,true)⟩,⟨.t 21,.fadr 0 0 (.t 20),some (.t 19,true)⟩,⟨.t 22,.load 1 false (.t 21),some (.t 19,true)⟩,⟨.t
  23,.bin .eql (.t 22) (.c (.v (.int .i64 0))),some (.t 19,true)⟩,nn (.t 24) (.pick (.t 19) (.t 23) (.c (.v (.bool false)))),nn (.t 25) (.mv false
  (.t 24)),⟨.t 26,.fadr 0 0 (.v 1),some (.t 25,true)⟩,⟨.t 27,.fadr 7 69 (.t 26),some (.t 25,true)⟩,⟨.t 28,.load 32 true (.t 27),some (.t 25,
  true)⟩,⟨.t 29,.build (.arr .u8 32 zz2) [],some (.t
  25,true)⟩,⟨.t 30,.eqa false (.arr 32) (.t 28) (.t 29),some (.t 25,true)⟩,nn (.t 31) (.pick (.t 25) (.t 30) (.c (.v (.bool false)))),ma 2
  31]).seq PC.ret)) [(.v 2,none)]
def pf36:PF:=
 PF.mk 1 3 23 ((PC.reg [nn (.v 1) (.box (.v 0)),nn (.v 2) (.mv true (.c (.v (.bool false))))]).seq ((PC.reg [nn (.t 3) (.load 102 true (.v 1)),nn (.t
  4) (.call 87 [.t 3]),nn (.t 5) (.mv false (.t 4)),⟨.t 6,.fadr 0 0 (.v 1),some (.t 5,true)⟩,⟨.t 7,.load 101 true (.t 6),some (.t 5,true)⟩,
  ⟨.t 8,.build (.agg [.int .i64 0,.arr .u8 32 zz2]) [(0,
  .c (.v (.int .i64 1)))],some (.t 5,true)⟩,⟨.t 9,.call 88 [.t 7,.t 8],some (.t 5,true)⟩,⟨.t 10,.call 33 [.t 9],some (.t 5,true)⟩,nn (.t
  11) (.pick (.t 5) (.t 10) (.c (.v (.bool false)))),nn (.t 12) (.mv false (.t 11)),⟨.t 13,.fadr 1 101 (.v 1),some (.t 12,true)⟩,⟨.t 14,.load 1
  false (.t 13),some (.t 12,true)⟩,⟨.t 15,.len (.t 14),some (.t 12,true)⟩,⟨.t 16,.bin .gtr (.t 15) (.c (.v (.int .i64 0))),some (.t 12,
  true)⟩,nn (.t 17) (.pick (.t 12) (.t 16) (.c (.v (.bool false)))),nn (.t 18) (.mv false (.t 17)),⟨.t 19,.fadr 1 101 (.v 1),some (.t 18,true)⟩,
  ⟨.t 20,.load 1 false (.t 19),some (.t 18,true)⟩,⟨.t 21,.call 89 [.t 20,.c (.v (.int .i64 21))],some (.t 18,true)⟩,nn (.t 22) (.pick (.t 18)
  (.t 21) (.c (.v (.bool false)))),ma 2 22]).seq PC.ret)) [(.v 2,none)]
attribute [local irreducible] W Wops WopsD WL Wop WopD
variable {E:Env} {C:Abs.Spec} {l:List (Nat×Spec1)} {G:List (Nat×V)} {Q:R→List (Nat×V)→Prop}
set_option maxHeartbeats 1000000
theorem risesB_eq {n:Int}:∀{l:List Int} {low:Int},risesB n low l=riseI n low l
 |[],_=>rfl
 |w::ws,low=>by unfold risesB riseI;rw[risesB_eq]
def ZMc:Spec1
 |[y],G,Q=>∃(a:AttS) (x:V) (sg:List (Int×List Int)),(y= .agg [a.v,x]∧SgV G x sg∧a.wf∧sg.length < 1000000)∧Q (.v (.bool (CertS.may ⟨a,sg⟩))) G
 |_,_,_=>False
theorem ZMc_eq {y}:ZMc [y] G Q=(∃(a:AttS) (x:V) (sg:List (Int×List Int)),(y= .agg [a.v,x]∧SgV G x sg∧a.wf∧sg.length < 1000000)∧Q (.v (.bool (CertS.may ⟨a,sg⟩))) G):=rfl
theorem one_wf {a:AttS} (h:a.wf):(⟨1,a.ki,a.vi,a.ph,a.ha,a.pv,a.pa,zero32⟩:AttS).wf:=⟨i64_of (by show (0:Int)≤1;decide) (by show (1:Int)≤1099511627776;decide),h.ki,h.vi,h.ph,h.pv,h.ha,h.pa,h32_zero⟩
theorem walk115i {a:AttS} {sg:List (Int×List Int)} (hW:Abs.look l 134=some ZWi) (hC:Abs.look l 113=some SCk) (hR:Abs.look l 135=some ZRs) (hw:a.wf) (hl:sg.length < 1000000) (h:Q (.v (.bool (CertS.may ⟨a,sg⟩))) G):Wf E (specOf l) pf115 [.agg [a.v,.sle 33 (sg.map sgV)]] G Q:=by
 have key:∀b:Bool,(b=true↔CertS.May ⟨a,sg⟩)→Q (.v (.bool b)) G:=fun b hb=>by
  have:b=CertS.may ⟨a,sg⟩:=by unfold CertS.may;rw[Bool.eq_iff_iff,hb];simp
  rw[this];exact h
 have ow:=one_wf hw
 obtain⟨a1,a2,a3,a4,a5,a6,a7,a8⟩:=a
 unfold CertS.May CertS.one at key
 dsimp only at key ow
 simp -implicitDefEqProofs only[pf115,AttS.v,hW,ZWi_eq,go_sem,↓reduceIte]
 refine⟨⟨a1,a2,a3,a4,a5,a6,a7,a8⟩,_,(1,zero32),⟨rfl,rfl,rfl,rfl⟩,?_⟩
 simp -implicitDefEqProofs only[withS,AttS.v,hC,SCk_eq,go_sem,↓reduceIte]
 refine⟨ow,?_⟩
 cases hq:AttS.may ⟨1,a2,a3,a4,a5,a6,a7,zero32⟩with
 |false=>
  have hn:¬AttS.May ⟨1,a2,a3,a4,a5,a6,a7,zero32⟩:=of_decide_eq_false hq
  try simp -implicitDefEqProofs only[go_sem,↓reduceIte]
  exact key false ⟨fun e=>(by cases e),fun e=>absurd e.1 hn⟩
 |true=>
  have hm:AttS.May ⟨1,a2,a3,a4,a5,a6,a7,zero32⟩:=of_decide_eq_true hq
  by_cases q2:sg=[]
  ·subst q2
   simp -implicitDefEqProofs only[List.map_nil,List.length_nil,Int.lt_irrefl,Int.natCast_zero,go_sem,↓reduceIte]
   exact key false ⟨fun e=>(by cases e),fun e=>absurd rfl e.2.2.2.1⟩
  have q2':(0:Int) < (sg.length:Int):=by have:=List.length_pos_iff.2 q2;omega
  have q2n:¬(sg.length:Int)≤0:=by omega
  simp -implicitDefEqProofs only[q2',q2n,List.length_map,hR,ZRs_eq,go_sem,↓reduceIte]
  refine⟨sg,⟨rfl,hl⟩,?_⟩
  rw[risesB_eq]
  cases hr:riseI 21 0 (sg.map (·.1))with
  |false=>
   try simp -implicitDefEqProofs only[go_sem,↓reduceIte]
   exact key false ⟨fun e=>(by cases e),fun e=>absurd e.2.2.2.2 (by rw[hr];decide)⟩
  |true=>
   by_cases q4:a1=0
   case neg=>
    simp -implicitDefEqProofs only[q4,go_sem,↓reduceIte]
    exact key false ⟨fun e=>(by cases e),fun e=>absurd e.2.1 q4⟩
   simp -implicitDefEqProofs only[q4,go_sem,↓reduceIte]
   refine key _ ?_
   rw[beq_iff_eq]
   exact⟨fun e=>⟨hm,q4,e,q2,hr⟩,fun e=>e.2.2.1⟩
theorem walk115s {a:AttS} {sg:List (Int×List Int)} {id c:Nat} {LL:List V} (hG:Abs.look G id=some (.agg LL)) (hLL:∀(i:Nat) p,sg[i]? =some p→LL[i]? =some (sgV p)) (hfl:sg.length≤LL.length) (hsz:∀y∈LL,V.size y=33) (hW:Abs.look l 134=some ZWi) (hC:Abs.look l 113=some SCk) (hR:Abs.look l 135=some ZRs) (hw:a.wf) (hl:sg.length < 1000000) (h:Q (.v (.bool (CertS.may ⟨a,sg⟩))) G):Wf E (specOf l) pf115 [.agg [a.v,.sob id 33 0 sg.length c]] G Q:=by
 have key:∀b:Bool,(b=true↔CertS.May ⟨a,sg⟩)→Q (.v (.bool b)) G:=fun b hb=>by
  have:b=CertS.may ⟨a,sg⟩:=by unfold CertS.may;rw[Bool.eq_iff_iff,hb];simp
  rw[this];exact h
 have ow:=one_wf hw
 obtain⟨a1,a2,a3,a4,a5,a6,a7,a8⟩:=a
 unfold CertS.May CertS.one at key
 dsimp only at key ow
 simp -implicitDefEqProofs only[pf115,AttS.v,hW,ZWi_eq,go_sem,↓reduceIte]
 refine⟨⟨a1,a2,a3,a4,a5,a6,a7,a8⟩,_,(1,zero32),⟨rfl,rfl,rfl,rfl⟩,?_⟩
 simp -implicitDefEqProofs only[withS,AttS.v,hC,SCk_eq,go_sem,↓reduceIte]
 refine⟨ow,?_⟩
 cases hq:AttS.may ⟨1,a2,a3,a4,a5,a6,a7,zero32⟩with
 |false=>
  have hn:¬AttS.May ⟨1,a2,a3,a4,a5,a6,a7,zero32⟩:=of_decide_eq_false hq
  try simp -implicitDefEqProofs only[go_sem,↓reduceIte]
  exact key false ⟨fun e=>(by cases e),fun e=>absurd e.1 hn⟩
 |true=>
  have hm:AttS.May ⟨1,a2,a3,a4,a5,a6,a7,zero32⟩:=of_decide_eq_true hq
  by_cases q2:sg=[]
  ·subst q2
   simp -implicitDefEqProofs only[List.map_nil,List.length_nil,Int.lt_irrefl,Int.natCast_zero,go_sem,↓reduceIte]
   exact key false ⟨fun e=>(by cases e),fun e=>absurd rfl e.2.2.2.1⟩
  have q2':(0:Int) < (sg.length:Int):=by have:=List.length_pos_iff.2 q2;omega
  have q2n:¬(sg.length:Int)≤0:=by omega
  simp -implicitDefEqProofs only[q2',q2n,List.length_map,hR,ZRs_eq,go_sem,↓reduceIte]
  refine⟨sg,LL,⟨rfl,hl,hG,hLL,hfl,hsz⟩,?_⟩
  rw[risesB_eq]
  cases hr:riseI 21 0 (sg.map (·.1))with
  |false=>
   try simp -implicitDefEqProofs only[go_sem,↓reduceIte]
   exact key false ⟨fun e=>(by cases e),fun e=>absurd e.2.2.2.2 (by rw[hr];decide)⟩
  |true=>
   by_cases q4:a1=0
   case neg=>
    simp -implicitDefEqProofs only[q4,go_sem,↓reduceIte]
    exact key false ⟨fun e=>(by cases e),fun e=>absurd e.2.1 q4⟩
   simp -implicitDefEqProofs only[q4,go_sem,↓reduceIte]
   refine key _ ?_
   rw[beq_iff_eq]
   exact⟨fun e=>⟨hm,q4,e,q2,hr⟩,fun e=>e.2.2.1⟩
theorem walk115n {a:AttS} (hW:Abs.look l 134=some ZWi) (hC:Abs.look l 113=some SCk) (hR:Abs.look l 135=some ZRs) (hw:a.wf) (h:Q (.v (.bool (CertS.may ⟨a,[]⟩))) G):Wf E (specOf l) pf115 [.agg [a.v,.nils]] G Q:=by
 have hm:CertS.may ⟨a,[]⟩=false:=decide_eq_false fun e=>e.2.2.2.1 rfl
 rw[hm]at h
 have ow:=one_wf hw
 obtain⟨a1,a2,a3,a4,a5,a6,a7,a8⟩:=a
 dsimp only at ow
 simp -implicitDefEqProofs only[pf115,AttS.v,hW,ZWi_eq,go_sem,↓reduceIte]
 refine⟨⟨a1,a2,a3,a4,a5,a6,a7,a8⟩,_,(1,zero32),⟨rfl,rfl,rfl,rfl⟩,?_⟩
 simp -implicitDefEqProofs only[withS,AttS.v,hC,SCk_eq,go_sem,↓reduceIte]
 refine⟨ow,?_⟩
 try simp -implicitDefEqProofs only[go_sem,↓reduceIte]
 first|exact h|exact⟨fun _=>h,fun _=>h⟩|trace_state
theorem walk36i {a:AttS} {sg:List (Int×List Int)} (hB:Abs.look l 87=some ZBa) (hW:Abs.look l 88=some ZWj) (hC:Abs.look l 33=some SMy) (hR:Abs.look l 89=some ZRs) (hw:a.wf) (hl:sg.length < 1000000) (h:Q (.v (.bool (CertS.may ⟨a,sg⟩))) G):Wf E (specOf l) pf36 [.agg [a.v,.sle 33 (sg.map sgV)]] G Q:=by
 have key:∀b:Bool,(b=true↔CertS.May ⟨a,sg⟩)→Q (.v (.bool b)) G:=fun b hb=>by
  have:b=CertS.may ⟨a,sg⟩:=by unfold CertS.may;rw[Bool.eq_iff_iff,hb];simp
  rw[this];exact h
 have ow:=one_wf hw
 obtain⟨a1,a2,a3,a4,a5,a6,a7,a8⟩:=a
 unfold CertS.May CertS.one at key
 dsimp only at key ow
 simp -implicitDefEqProofs only[pf36,AttS.v,hB,ZBa_eq,go_sem,↓reduceIte]
 refine⟨⟨a1,a2,a3,a4,a5,a6,a7,a8⟩,_,⟨rfl,rfl,rfl⟩,?_⟩
 by_cases q4:a1=0
 case neg=>
  simp -implicitDefEqProofs only[q4,go_sem,↓reduceIte]
  exact key false ⟨fun e=>(by cases e),fun e=>absurd e.2.1 q4⟩
 cases q5:a8==zero32 with
 |false=>
  simp -implicitDefEqProofs only[q4,q5,go_sem,↓reduceIte]
  exact key false ⟨fun e=>(by cases e),fun e=>absurd e.2.2.1 (by intro c;rw[c,beq_self_eq_true]at q5;cases q5)⟩
 |true=>
  have q5e:=eq_of_beq q5
  simp -implicitDefEqProofs only[q4,q5,hW,ZWj_eq,go_sem,↓reduceIte]
  refine⟨⟨0,a2,a3,a4,a5,a6,a7,a8⟩,(1,zero32),⟨rfl,rfl⟩,?_⟩
  simp -implicitDefEqProofs only[withS,AttS.v,hC,SMy_eq,go_sem,↓reduceIte]
  refine⟨ow,?_⟩
  cases hq:AttS.may ⟨1,a2,a3,a4,a5,a6,a7,zero32⟩with
  |false=>
   have hn:¬AttS.May ⟨1,a2,a3,a4,a5,a6,a7,zero32⟩:=of_decide_eq_false hq
   try simp -implicitDefEqProofs only[go_sem,↓reduceIte]
   exact key false ⟨fun e=>(by cases e),fun e=>absurd e.1 hn⟩
  |true=>
   have hm:AttS.May ⟨1,a2,a3,a4,a5,a6,a7,zero32⟩:=of_decide_eq_true hq
   by_cases q2:sg=[]
   ·subst q2
    simp -implicitDefEqProofs only[List.map_nil,List.length_nil,Int.lt_irrefl,Int.natCast_zero,go_sem,↓reduceIte]
    exact key false ⟨fun e=>(by cases e),fun e=>absurd rfl e.2.2.2.1⟩
   have q2':(0:Int) < (sg.length:Int):=by have:=List.length_pos_iff.2 q2;omega
   have q2n:¬(sg.length:Int)≤0:=by omega
   simp -implicitDefEqProofs only[q2',q2n,List.length_map,hR,ZRs_eq,go_sem,↓reduceIte]
   refine⟨sg,⟨rfl,hl⟩,?_⟩
   rw[risesB_eq]
   try simp -implicitDefEqProofs only[go_sem,↓reduceIte]
   refine key _ ?_
   exact⟨fun e=>⟨hm,q4,q5e,q2,e⟩,fun e=>e.2.2.2.2⟩
theorem walk36n {a:AttS} {sg:List (Int×List Int)} (hB:Abs.look l 87=some ZBa) (hW:Abs.look l 88=some ZWj) (hC:Abs.look l 33=some SMy) (hR:Abs.look l 89=some ZRs) (hw:a.wf) (hl:sg.length < 1000000) (h:Q (.v (.bool (CertS.may ⟨a,[]⟩))) G):Wf E (specOf l) pf36 [.agg [a.v,.nils]] G Q:=by
 have key:∀b:Bool,(b=true↔CertS.May ⟨a,[]⟩)→Q (.v (.bool b)) G:=fun b hb=>by
  have:b=CertS.may ⟨a,[]⟩:=by unfold CertS.may;rw[Bool.eq_iff_iff,hb];simp
  rw[this];exact h
 have ow:=one_wf hw
 obtain⟨a1,a2,a3,a4,a5,a6,a7,a8⟩:=a
 unfold CertS.May CertS.one at key
 dsimp only at key ow
 simp -implicitDefEqProofs only[pf36,AttS.v,hB,ZBa_eq,go_sem,↓reduceIte]
 refine⟨⟨a1,a2,a3,a4,a5,a6,a7,a8⟩,_,⟨rfl,rfl,rfl⟩,?_⟩
 by_cases q4:a1=0
 case neg=>
  simp -implicitDefEqProofs only[q4,go_sem,↓reduceIte]
  exact key false ⟨fun e=>(by cases e),fun e=>absurd e.2.1 q4⟩
 cases q5:a8==zero32 with
 |false=>
  simp -implicitDefEqProofs only[q4,q5,go_sem,↓reduceIte]
  exact key false ⟨fun e=>(by cases e),fun e=>absurd e.2.2.1 (by intro c;rw[c,beq_self_eq_true]at q5;cases q5)⟩
 |true=>
  have q5e:=eq_of_beq q5
  simp -implicitDefEqProofs only[q4,q5,hW,ZWj_eq,go_sem,↓reduceIte]
  refine⟨⟨0,a2,a3,a4,a5,a6,a7,a8⟩,(1,zero32),⟨rfl,rfl⟩,?_⟩
  simp -implicitDefEqProofs only[withS,AttS.v,hC,SMy_eq,go_sem,↓reduceIte]
  refine⟨ow,?_⟩
  cases hq:AttS.may ⟨1,a2,a3,a4,a5,a6,a7,zero32⟩with
  |false=>
   have hn:¬AttS.May ⟨1,a2,a3,a4,a5,a6,a7,zero32⟩:=of_decide_eq_false hq
   try simp -implicitDefEqProofs only[go_sem,↓reduceIte]
   exact key false ⟨fun e=>(by cases e),fun e=>absurd e.1 hn⟩
  |true=>
   have hm:AttS.May ⟨1,a2,a3,a4,a5,a6,a7,zero32⟩:=of_decide_eq_true hq
   try simp -implicitDefEqProofs only[go_sem,↓reduceIte]
   exact key false ⟨fun e=>(by cases e),fun e=>absurd rfl e.2.2.2.1⟩
theorem walk36s {a:AttS} {sg:List (Int×List Int)} {id c:Nat} {LL:List V} (hG:Abs.look G id=some (.agg LL)) (hLL:∀(i:Nat) p,sg[i]? =some p→LL[i]? =some (sgV p)) (hfl:sg.length≤LL.length) (hsz:∀y∈LL,V.size y=33) (hB:Abs.look l 87=some ZBa) (hW:Abs.look l 88=some ZWj) (hC:Abs.look l 33=some SMy) (hR:Abs.look l 89=some ZRs) (hw:a.wf) (hl:sg.length < 1000000) (h:Q (.v (.bool (CertS.may ⟨a,sg⟩))) G):Wf E (specOf l) pf36 [.agg [a.v,.sob id 33 0 sg.length c]] G Q:=by
 have key:∀b:Bool,(b=true↔CertS.May ⟨a,sg⟩)→Q (.v (.bool b)) G:=fun b hb=>by
  have:b=CertS.may ⟨a,sg⟩:=by unfold CertS.may;rw[Bool.eq_iff_iff,hb];simp
  rw[this];exact h
 have ow:=one_wf hw
 obtain⟨a1,a2,a3,a4,a5,a6,a7,a8⟩:=a
 unfold CertS.May CertS.one at key
 dsimp only at key ow
 simp -implicitDefEqProofs only[pf36,AttS.v,hB,ZBa_eq,go_sem,↓reduceIte]
 refine⟨⟨a1,a2,a3,a4,a5,a6,a7,a8⟩,_,⟨rfl,rfl,rfl⟩,?_⟩
 by_cases q4:a1=0
 case neg=>
  simp -implicitDefEqProofs only[q4,go_sem,↓reduceIte]
  exact key false ⟨fun e=>(by cases e),fun e=>absurd e.2.1 q4⟩
 cases q5:a8==zero32 with
 |false=>
  simp -implicitDefEqProofs only[q4,q5,go_sem,↓reduceIte]
  exact key false ⟨fun e=>(by cases e),fun e=>absurd e.2.2.1 (by intro c;rw[c,beq_self_eq_true]at q5;cases q5)⟩
 |true=>
  have q5e:=eq_of_beq q5
  simp -implicitDefEqProofs only[q4,q5,hW,ZWj_eq,go_sem,↓reduceIte]
  refine⟨⟨0,a2,a3,a4,a5,a6,a7,a8⟩,(1,zero32),⟨rfl,rfl⟩,?_⟩
  simp -implicitDefEqProofs only[withS,AttS.v,hC,SMy_eq,go_sem,↓reduceIte]
  refine⟨ow,?_⟩
  cases hq:AttS.may ⟨1,a2,a3,a4,a5,a6,a7,zero32⟩with
  |false=>
   have hn:¬AttS.May ⟨1,a2,a3,a4,a5,a6,a7,zero32⟩:=of_decide_eq_false hq
   try simp -implicitDefEqProofs only[go_sem,↓reduceIte]
   exact key false ⟨fun e=>(by cases e),fun e=>absurd e.1 hn⟩
  |true=>
   have hm:AttS.May ⟨1,a2,a3,a4,a5,a6,a7,zero32⟩:=of_decide_eq_true hq
   by_cases q2:sg=[]
   ·subst q2
    simp -implicitDefEqProofs only[List.map_nil,List.length_nil,Int.lt_irrefl,Int.natCast_zero,go_sem,↓reduceIte]
    exact key false ⟨fun e=>(by cases e),fun e=>absurd rfl e.2.2.2.1⟩
   have q2':(0:Int) < (sg.length:Int):=by have:=List.length_pos_iff.2 q2;omega
   have q2n:¬(sg.length:Int)≤0:=by omega
   simp -implicitDefEqProofs only[q2',q2n,List.length_map,hR,ZRs_eq,go_sem,↓reduceIte]
   refine⟨sg,LL,⟨rfl,hl,hG,hLL,hfl,hsz⟩,?_⟩
   rw[risesB_eq]
   try simp -implicitDefEqProofs only[go_sem,↓reduceIte]
   refine key _ ?_
   exact⟨fun e=>⟨hm,q4,q5e,q2,e⟩,fun e=>e.2.2.2.2⟩
def lp81_0:PC:=
 (PC.reg [nn (.t 58) (.bin .lss (.v 57) (.v 56))]).seq ((PC.cond (.t 58) PC.skip (PC.exit 2)).seq ((PC.block 3 ((PC.reg [nn (.t 59) (.iadrS 33 (.v 55)
  (.v 57)),nn (.t 60) (.load 33 true (.t 59)),nn (.v 8) (.alloc (.agg [.int .i64 0,.arr .u8 32 [0,0,0,0,0,0,0,0,0,0,0,0,0,0,0,0,0,
  0,0,0,0,0,0,0,0,0,0,0,0,0,0,0]])),nn .no (.store 33 (.v 8) (.t 60))]).seq (PC.regD 0 [mm 61 0,nn (.t 62) (.fadr 0 0 (.v 8)),nn (.t
  63) (.load 1 false (.t 62)),nn (.t 64) (.conv .u64 (.t 63)),nn (.t 65) (.call 31 [.t 61,.t 64]),nn (.t 66) (.fadr 1 1 (.v 8)),nn (.t 67) (.load
  32 true (.t 66)),nn (.t 68) (.call 82 [.t 65,.t 67]),ma 0 68] []))).seq (PC.reg [nn (.t 69) (.bin .add (.v 57) (.c (.v (.int .i64 1)))),nn (.v
  57) (.mv false (.t 69))])))
def lp81_1:PC:=
 (PC.reg [nn (.v 26) (.bin .lss (.v 25) (.v 24))]).seq ((PC.cond (.v 26) PC.skip (PC.exit 0)).seq ((PC.block 1 ((PC.reg [nn (.v 27) (.iadrS 1 (.v 23)
  (.v 25)),nn (.v 28) (.load 1 false (.v 27)),nn (.v 6) (.mv true (.v 28))]).seq (PC.reg [nn (.v 29) (.mv false (.v 0)),nn (.v 30) (.mv false (.v
  6)),nn (.v 31) (.conv .u64 (.v 30)),nn (.v 32) (.call 31 [.v 29,.v 31]),nn (.v 0) (.mv true (.v 32))]))).seq (PC.reg [nn (.v 33) (.bin .add (.v
  25) (.c (.v (.int .i64 1)))),nn (.v 25) (.mv false (.v 33))])))
def pf81:PF:=
 PF.mk 2 58 71 ((PC.reg [nn (.v 3) (.box (.v 1)),nn (.v 4) (.mv true (.c (.own .nils)))]).seq (((PC.reg [nn (.v 9) (.load 102 true (.v 3)),nn (.v 10)
  (.call 115 [.v 9]),nn (.v 11) (.un .not (.v 10))]).seq (PC.cond (.v 11) ((PC.reg [nn (.v 12) (.mv false (.v 0)),nn (.v 13) (.call 79 [.v 12]),nn
  (.v 4) (.mv true (.v 13))]).seq PC.ret) PC.skip)).seq (((PC.reg [nn (.v 14) (.fadr 0 0 (.v 3)),nn (.v 15) (.fadr 1 1 (.v 14)),nn (.v 16) (.load 1
  false (.v 15)),nn (.v 17) (.fadr 0 0 (.v 3)),nn (.v 18) (.fadr 2 2 (.v 17)),nn (.v 19) (.load 1 false (.v 18)),nn (.v 20) (.fadr 0 0 (.v 3)),nn
  (.v 21) (.fadr 3 3 (.v 20)),nn (.v 22) (.load 1 false (.v 21)),nn (.v 23) (.buildS (some .i64) 1 (.int .i64 0) 3 [(0,.v 16),(1,.v 19),(2,.v
  22)]),nn (.v 24) (.len (.v 23)),nn (.v 25) (.mv false (.c (.v (.int .i64 0))))]).seq (PC.block 0 (PC.loop [0,3,23,24,25] lp81_1))).seq
  ((PC.regD 0 [nn (.v 34) (.mv false (.v 0)),nn (.v 35) (.fadr 0 0 (.v 3)),nn (.v 36) (.fadr 4 4 (.v 35)),nn (.v 37) (.load 32 true (.v 36)),nn (.v
  38) (.call 82 [.v 34,.v 37]),nn (.v 39) (.fadr 0 0 (.v 3)),nn (.v 40) (.fadr 5 36 (.v 39)),nn (.v 41) (.load 1 false (.v 40)),nn (.v 42) (.conv
  .u64 (.v 41)),nn (.v 43) (.call 31 [.v 38,.v 42]),nn (.v 44) (.fadr 0 0 (.v 3)),nn (.v 45) (.fadr 6 37 (.v 44)),nn (.v 46) (.load 32 true (.v
  45)),nn (.v 47) (.call 82 [.v 43,.v 46]),nn (.v 0) (.mv true (.v 47))] []).seq ((PC.reg [nn (.v 48) (.mv false (.v 0)),nn (.v 49) (.fadr 1 101
  (.v 3)),nn (.v 50) (.load 1 false (.v 49)),nn (.v 51) (.len (.v 50)),nn (.v 52) (.conv .u64 (.v 51)),nn (.v 53) (.call 31 [.v 48,.v 52]),nn (.v
  0) (.mv true (.v 53))]).seq (((PC.reg [nn (.v 54) (.fadr 1 101 (.v 3)),nn (.v 55) (.load 1 false (.v 54)),nn (.v 56) (.len (.v 55)),nn (.v 57)
  (.mv false (.c (.v (.int .i64 0))))]).seq (PC.block 2 (PC.loop [0,55,56,57] lp81_0))).seq ((PC.reg [nn (.t 70) (.mv true (.v 0)),ma 4 70]).seq
  PC.ret))))))) [(.v 4,none)]
def lp52_0:PC:=
 ((PC.reg [mm 14 4,nn (.t 15) (.fadr 1 101 (.v 1)),nn (.t 16) (.load 1 false (.t 15)),nn (.t 17) (.len (.t 16)),nn (.t 18) (.bin .lss (.t 14) (.t
  17))]).seq (PC.cond (.t 18) PC.skip (PC.exit 0))).seq ((PC.block 1 (PC.regD 0 [nn (.t 21) (.mv true (.v 3)),nn (.t 22) (.fadr 1 101 (.v 1)),nn (.t
  23) (.load 1 false (.t 22)),mm 24 4,nn (.t 25) (.iadrS 33 (.t 23) (.t 24)),nn (.t 26) (.fadr 0 0 (.t 25)),nn (.t 27) (.load 1 false (.t 26)),nn
  (.t 28) (.conv .u8 (.t 27)),nn (.t 29) (.buildS (some .u8) 1 (.int .u8 0) 1 [(0,.t 28)]),nn (.t 30) (.app (some .u8) 1 1 (.t 21) (.t 29)),nn (.t
  31) (.fadr 1 101 (.v 1)),nn (.t 32) (.load 1 false (.t 31)),mm 33 4,nn (.t 34) (.iadrS 33 (.t 32) (.t 33)),nn (.t 35) (.fadr 1 1 (.t 34)),nn (.t
  36) (.load 32 true (.t 35)),nn (.t 37) (.call 53 [.t 36]),nn (.t 38) (.app (some .u8) 1 1 (.t 30) (.t 37)),ma 3 38] [])).seq (PC.reg [mm 19 4,nn
  (.t 20) (.bin .add (.t 19) (.c (.v (.int .i64 1)))),ma 4 20]))
def pf52:PF:=
 PF.mk 1 5 40 ((PC.reg [nn (.v 1) (.box (.v 0)),nn (.v 2) (.mv true (.c (.own .nils)))]).seq ((PC.regD 0 [nn (.t 5) (.fadr 0 0 (.v 1)),nn (.t 6)
  (.load 101 true (.t 5)),nn (.t 7) (.call 103 [.t 6]),nn (.t 8) (.fadr 1 101 (.v 1)),nn (.t 9) (.load 1 false (.t 8)),nn (.t 10) (.len (.t 9)),nn
  (.t 11) (.conv .u8 (.t 10)),nn (.t 12) (.buildS (some .u8) 1 (.int .u8 0) 1 [(0,.t 11)]),nn (.t 13) (.app (some .u8) 1 1 (.t 7) (.t 12)),ma 3 13]
  []).seq (((PC.reg [nn (.v 4) (.mv true (.c (.v (.int .i64 0))))]).seq (PC.block 0 (PC.loop [1,3,4] lp52_0))).seq ((PC.reg [nn (.t 39) (.mv true (.v
  3)),ma 2 39]).seq PC.ret)))) [(.v 2,none)]
def ZPc:Spec1
 |[x,y],G,Q=>∃(b:List Int) (c:CertS),(byV x=some b∧b.length < 100000000∧y=c.v∧c.ok∧c.sigs.length < 1000000)∧Q (.own (.sli .u8 (if c.may=true then b++c.bytes else b))) G
 |_,_,_=>False
theorem ZPc_eq {x y}:ZPc [x,y] G Q=(∃(b:List Int) (c:CertS),(byV x=some b∧b.length < 100000000∧y=c.v∧c.ok∧c.sigs.length < 1000000)∧Q (.own (.sli .u8 (if c.may=true then b++c.bytes else b))) G):=rfl
def ZBc:Spec1
 |[y],G,Q=>∃(c:CertS),(y=c.v∧c.ok∧c.May)∧Q (.own (.sli .u8 c.bytes)) G
 |_,_,_=>False
theorem ZBc_eq {y}:ZBc [y] G Q=(∃(c:CertS),(y=c.v∧c.ok∧c.May)∧Q (.own (.sli .u8 c.bytes)) G):=rfl
theorem loop81 (hN:Abs.look l 31=some SNu) (hH:Abs.look l 82=some SHa) {QQ:Ex→St→Prop} {sg:List (Int×List Int)} {b0:List Int} (hs:∀p∈sg,(0≤p.1∧p.1≤21)∧H32 p.2) (hl:sg.length≤21)
  (hx:∀(j:Nat) ts L,QQ (.exit 2) ⟨[some (.own (.sli .u8 b0)),none,none,none,none,none,none,none,none,none,none,none,none,none,none,none,none,none,none,none,none,none,none,none,none,none,none,none,none,none,none,none,none,none,none,none,none,none,none,none,none,none,none,none,none,none,none,none,none,none,none,none,none,none,none,some (.v (.sle 33 (sg.map sgV))),some (.v (.int .i64 (sg.length:Nat))),some (.v (.int .i64 (j:Nat)))],ts,L,G⟩):
  ∀(r:List (Int×List Int)) (j:Nat) (b:List Int) (L:List Bx),sg.drop j=r→j≤sg.length→b++sigB r=b0→b.length≤200000000+42*j→
   WL (W E (specOf l) lp81_0) [0,55,56,57] QQ (r.length+1) ⟨[some (.own (.sli .u8 b)),none,none,none,none,none,none,none,none,none,none,none,none,none,none,none,none,none,none,none,none,none,none,none,none,none,none,none,none,none,none,none,none,none,none,none,none,none,none,none,none,none,none,none,none,none,none,none,none,none,none,none,none,none,none,some (.v (.sle 33 (sg.map sgV))),some (.v (.int .i64 (sg.length:Nat))),some (.v (.int .i64 (j:Nat)))],[],L,G⟩:=by
 intro r
 induction r with
 |nil=>
  intro j b L h1 h2 h3 h4
  have:=drop_none h1
  have c1:¬(j:Int) < (sg.length:Int):=by omega
  obtain rfl:b=b0:=by rw[←h3];simp[sigB]
  refine WL_in lp81_0.eq_1 ?_
  simp -implicitDefEqProofs only[c1,go_sem,↓reduceIte]
  exact hx _ _ _
 |cons p r ih=>
  intro j b L h1 h2 h3 h4
  obtain⟨hd,hj,hlen⟩:=drop_one h1
  have g:=getD_sg h1
  have hp:=hs p (List.mem_of_getElem? (at_drop2 h1))
  have c1:(j:Int) < (sg.length:Int):=by omega
  have c2:(0:Int)≤(j:Int):=by omega
  have w1:IntKind.i64.wrap ((j:Int)+1)=((j+1:Nat):Int):=wc (by omega) (by omega)
  obtain⟨p1,p2⟩:=p
  dsimp only at hp
  have wp:=u64_of (n:=p1) (by omega) (by omega)
  obtain⟨_,k1⟩:=num_ok (n:=p1.toNat) (by omega)
  have hAl:∀y z,(L++[y]).set L.length z=L++[z]:=fun y z=>by simp
  refine WL_in lp81_0.eq_1 ?_
  simp -implicitDefEqProofs only[c1,c2,g,sgV,w1,Int.toNat_natCast,List.length_map,hN,SNu_eq,hH,SHa_eq,wp,go_sem,↓reduceIte]
  refine⟨b,⟨byV_u8 _,by omega,by omega,by omega⟩,_,⟨byV_u8 _,by rw[List.length_append];omega,hp.2.2⟩,?_⟩
  try simp -implicitDefEqProofs only[go_sem,↓reduceIte]
  refine ih (j+1) _ _ hd (by omega) ?_ ?_
  ·rw[←h3];simp only[sigB,List.append_assoc]
  ·have:=hp.2.2;simp only[List.length_append];omega
theorem walk81 {b:List Int} {c:CertS} (hM:Abs.look l 115=some ZMc) (hC:Abs.look l 79=some SCl) (hN:Abs.look l 31=some SNu) (hH:Abs.look l 82=some SHa)
  (hb:b.length < 100000000) (hw:c.ok) (hl:c.sigs.length < 1000000) (h:Q (.own (.sli .u8 (if c.may=true then b++c.bytes else b))) G):Wf E (specOf l) pf81 [.sli .u8 b,c.v] G Q:=by
 obtain⟨a,sg⟩:=c
 obtain⟨a1,a2,a3,a4,a5,a6,a7,a8⟩:=a
 simp -implicitDefEqProofs only[pf81,CertS.v,AttS.v,List.length_map,hM,ZMc_eq,go_sem,↓reduceIte]
 refine⟨⟨a1,a2,a3,a4,a5,a6,a7,a8⟩,_,sg,⟨rfl,.inl rfl,hw.1,hl⟩,?_⟩
 cases hmay:CertS.may ⟨⟨a1,a2,a3,a4,a5,a6,a7,a8⟩,sg⟩with
 |false=>
  rw[hmay]at h
  simp -implicitDefEqProofs only[hC,SCl_eq,go_sem,↓reduceIte]
  exact⟨b,⟨rfl,by omega⟩,h⟩
 |true=>
  rw[hmay,if_pos rfl]at h
  have hm:CertS.May ⟨⟨a1,a2,a3,a4,a5,a6,a7,a8⟩,sg⟩:=of_decide_eq_true hmay
  obtain⟨m1,m2,m3,m4,m5⟩:=id hm
  obtain⟨m1a,m1b,m1c,m1d,m1e,m1f⟩:=m1
  unfold CertS.one at m1a m1b m1c m1d m1e m1f
  dsimp only at m1a m1b m1c m1d m1e m1f m2 m3 m4 m5
  have w2:=u64_of (n:=a2) (by omega) (by omega)
  have w3:=u64_of (n:=a3) (by omega) (by omega)
  have w4:=u64_of (n:=a4) (by omega) (by omega)
  have w6:=u64_of (n:=a6) (by omega) (by omega)
  try simp -implicitDefEqProofs only[go_sem,↓reduceIte]
  refine⟨4,?_⟩
  refine WL_in lp81_1.eq_1 ?_
  have o1:IntKind.i64.wrap 1=1:=by decide
  have o2:IntKind.i64.wrap 2=2:=by decide
  have o3:IntKind.i64.wrap 3=3:=by decide
  obtain⟨_,k2⟩:=num_ok (n:=a2.toNat) (by omega)
  obtain⟨_,k3⟩:=num_ok (n:=a3.toNat) (by omega)
  obtain⟨_,k4⟩:=num_ok (n:=a4.toNat) (by omega)
  obtain⟨_,k6⟩:=num_ok (n:=a6.toNat) (by omega)
  obtain⟨q1,q2,q3⟩:=CertS.may_len hm
  obtain⟨_,k9⟩:=num_ok (n:=sg.length) (by dsimp only at q1;omega)
  have l5:=hw.1.ha.2
  have l7:=hw.1.pa.2
  dsimp only at l5 l7 q1
  simp -implicitDefEqProofs only[hN,SNu_eq,w2,o1,o2,o3,go_sem,↓reduceIte]
  refine⟨b,⟨rfl,by omega,by omega,by omega⟩,?_⟩
  refine WL_in lp81_1.eq_1 ?_
  simp -implicitDefEqProofs only[hN,SNu_eq,w3,o1,o2,o3,go_sem,↓reduceIte]
  refine⟨_,⟨byV_u8 _,by simp only[List.length_append];omega,by omega,by omega⟩,?_⟩
  refine WL_in lp81_1.eq_1 ?_
  simp -implicitDefEqProofs only[hN,SNu_eq,w4,o1,o2,o3,go_sem,↓reduceIte]
  refine⟨_,⟨byV_u8 _,by simp only[List.length_append];omega,by omega,by omega⟩,?_⟩
  refine WL_in lp81_1.eq_1 ?_
  have w9:=u64_of (n:=(sg.length:Int)) (by omega) (by omega)
  simp -implicitDefEqProofs only[hN,SNu_eq,hH,SHa_eq,w6,w9,o1,o2,o3,List.length_map,Int.toNat_natCast,go_sem,↓reduceIte]
  refine⟨_,⟨byV_u8 _,by simp only[List.length_append];omega,l5⟩,_,⟨byV_u8 _,by simp only[List.length_append];omega,by omega,by omega⟩,_,⟨byV_u8 _,by simp only[List.length_append];omega,l7⟩,_,⟨byV_u8 _,by simp only[List.length_append];omega,by omega,by omega⟩,?_⟩
  try simp -implicitDefEqProofs only[go_sem,↓reduceIte]
  refine⟨sg.length+1,?_⟩
  refine loop81 hN hH (CertS.sigs_in hw hm) q1 (fun j ts L=> ?_) sg 0 _ _ rfl (Nat.zero_le _) rfl (by simp only[List.length_append];omega)
  try simp -implicitDefEqProofs only[go_sem,↓reduceIte]
  unfold CertS.bytes AttS.said at h
  simpa only[List.append_assoc]using h
def ZT9:Spec1
 |[y],G,Q=>∃a:AttS,(y=a.v∧a.wf∧AttS.May ⟨1,a.ki,a.vi,a.ph,a.ha,a.pv,a.pa,zero32⟩)∧Q (.own (.sli .u8 a.said)) G
 |_,_,_=>False
theorem ZT9_eq {y}:ZT9 [y] G Q=(∃a:AttS,(y=a.v∧a.wf∧AttS.May ⟨1,a.ki,a.vi,a.ph,a.ha,a.pv,a.pa,zero32⟩)∧Q (.own (.sli .u8 a.said)) G):=rfl
theorem walk103c {a:AttS} (h61:Abs.look l 104=some (SRn 10)) (h48:Abs.look l 53=some SBy) (hw:a.wf) (hm:AttS.May ⟨1,a.ki,a.vi,a.ph,a.ha,a.pv,a.pa,zero32⟩) (h:Q (.own (.sli .u8 a.said)) G):Wf E (specOf l) pf103 [a.v] G Q:=by
 obtain⟨a1,a2,a3,a4,a5,a6,a7,a8⟩:=a
 obtain⟨m1,m2,m3,m4,m5,m6⟩:=hm
 dsimp only at m1 m2 m3 m4 m5 m6
 subst m3
 obtain⟨r3,n3⟩:=num_ok (n:=a3.toNat) (by omega)
 obtain⟨r6,n6⟩:=num_ok (n:=a6.toNat) (by omega)
 have w3:=u64_of (n:=a3) (by omega) (by omega)
 have w6:=u64_of (n:=a6) (by omega) (by omega)
 have w2:IntKind.u8.wrap a4=a4:=by simp only[IntKind.wrap,IntKind.bits,IntKind.signed];simp;omega
 have l5:a5.length=32:=hw.ha.2
 have l7:a7.length=32:=hw.pa.2
 have big:∀n:Nat,n < 2000000000000→n < 128 ^ 10:=fun n hn=>Nat.lt_of_lt_of_le hn (by decide)
 unfold AttS.said at h;dsimp only at h
 rw[num_small (n:=a4.toNat) (by omega),show ((a4.toNat:Nat):Int)=a4 by omega]at h
 simp -implicitDefEqProofs only[pf103,AttS.v,w2,w3,w6,h61,SRn_eq,h48,SBy_eq,l5,l7,go_sem,↓reduceIte]
 refine⟨⟨by omega,big _ (by omega),by omega⟩,by omega,by omega,by omega,⟨by omega,big _ (by omega),by omega⟩,by omega,by omega,?_⟩
 exact h
theorem loop52 (hB:Abs.look l 53=some SBy) {QQ:Ex→St→Prop} {a:AttS} {sg:List (Int×List Int)} {b0:List Int} (hs:∀p∈sg,(0≤p.1∧p.1≤21)∧H32 p.2) (hl:sg.length≤21)
  (hx:∀(j:Nat) ts,QQ (.exit 0) ⟨[none,some (.lp 0 []),none,some (.own (.sli .u8 b0)),some (.v (.int .i64 (j:Nat)))],ts,[⟨false,.agg [a.v,.sle 33 (sg.map sgV)]⟩],G⟩):
  ∀(r:List (Int×List Int)) (j:Nat) (b:List Int),sg.drop j=r→j≤sg.length→b++sigB r=b0→b.length≤1000+42*j→
   WL (W E (specOf l) lp52_0) [1,3,4] QQ (r.length+1) ⟨[none,some (.lp 0 []),none,some (.own (.sli .u8 b)),some (.v (.int .i64 (j:Nat)))],[],[⟨false,.agg [a.v,.sle 33 (sg.map sgV)]⟩],G⟩:=by
 intro r
 induction r with
 |nil=>
  intro j b h1 h2 h3 h4
  have:=drop_none h1
  have c1:¬(j:Int) < (sg.length:Int):=by omega
  obtain rfl:b=b0:=by rw[←h3];simp[sigB]
  refine WL_in lp52_0.eq_1 ?_
  simp -implicitDefEqProofs only[AttS.v,c1,List.length_map,go_sem,↓reduceIte]
  exact hx _ _
 |cons p r ih=>
  intro j b h1 h2 h3 h4
  obtain⟨hd,hj,hlen⟩:=drop_one h1
  have g:=getD_sg h1
  have hp:=hs p (List.mem_of_getElem? (at_drop2 h1))
  have c1:(j:Int) < (sg.length:Int):=by omega
  have c2:(0:Int)≤(j:Int):=by omega
  have w1:IntKind.i64.wrap ((j:Int)+1)=((j+1:Nat):Int):=wc (by omega) (by omega)
  obtain⟨p1,p2⟩:=p
  dsimp only at hp
  have wp:IntKind.u8.wrap p1=p1:=by simp only[IntKind.wrap,IntKind.bits,IntKind.signed];simp;omega
  have en:num p1.toNat=[p1]:=by rw[num_small (by omega),show ((p1.toNat:Nat):Int)=p1 by omega]
  have lh:=hp.2.2
  refine WL_in lp52_0.eq_1 ?_
  simp -implicitDefEqProofs only[AttS.v,c1,c2,g,sgV,w1,Int.toNat_natCast,List.length_map,hB,SBy_eq,wp,go_sem,↓reduceIte]
  refine⟨by omega,lh,by omega,ih (j+1) _ hd (by omega) ?_ ?_⟩
  ·rw[←h3];simp only[sigB,en,List.append_assoc]
  ·simp only[List.length_append,List.length_cons,List.length_nil];omega
theorem walk52 {c:CertS} (hT:Abs.look l 103=some ZT9) (hB:Abs.look l 53=some SBy) (hw:c.ok) (hm:c.May) (h:Q (.own (.sli .u8 c.bytes)) G):Wf E (specOf l) pf52 [c.v] G Q:=by
 obtain⟨a,sg⟩:=c
 obtain⟨q1,q2,q3⟩:=CertS.may_len hm
 have hs:=CertS.sigs_in hw hm
 dsimp only at q1 q2 q3 hs
 have s1:a.said.length≤104:=(AttS.said_ok (one_wf hw.1) hm.1).2
 have ws:IntKind.u8.wrap (sg.length:Int)=(sg.length:Int):=by simp only[IntKind.wrap,IntKind.bits,IntKind.signed];simp;omega
 have en:num sg.length=[(sg.length:Int)]:=num_small (by omega)
 simp -implicitDefEqProofs only[pf52,CertS.v,AttS.v,hT,ZT9_eq,List.length_map,ws,go_sem,↓reduceIte]
 refine⟨a,⟨rfl,hw.1,hm.1⟩,?_⟩
 try simp -implicitDefEqProofs only[go_sem,↓reduceIte]
 refine⟨by omega,sg.length+1,?_⟩
 refine loop52 (a:=a) hB hs q1 (fun j ts=> ?_) sg 0 _ rfl (Nat.zero_le _) rfl (by simp only[List.length_append,List.length_cons,List.length_nil];omega)
 try simp -implicitDefEqProofs only[go_sem,↓reduceIte]
 unfold CertS.bytes at h
 dsimp only at h
 rw[en]at h
 exact h
end Go.Proofs.Ytegamlopcdjiaaa.Sha
