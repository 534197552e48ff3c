/- Certificates: may they be. -/
import Derived.Test.YtegamlopcdjiaaaDoorUCrt7
import Derived.Test.YtegamlopcdjiaaaDoorG12
import Derived.Test.YtegamlopcdjiaaaDoorCrtR
namespace Go.Proofs.YtegamlopcdjiaaaDoor.Sha
open Go Go.Abs Go.Abs.Sha Go.Abs.Srt
set_option linter.unusedSimpArgs false
set_option linter.unusedVariables false
set_option maxRecDepth 100000
def pf75:PF:=
 PF.mk 1 3 32 ((PC.reg [nn (.v 1) (.box (.v 0)),nn (.v 2) (.mv true (.c (.v (.bool false))))]).seq ((PC.reg [nn (.t 3) (.load 102 true (.v 1)),nn (.t
  4) (.build (.agg [.int .i64 0,.arr .u8 32 [0,0,0,0,0,0,0,0,0,0,0,0,0,0,0,0,0,0,0,0,0,0,0,0,0,0,0,0,0,0,0,0]]) [(0,.c
  (.v (.int .i64 1)))]),nn (.t 5) (.call 57 [.t 3,.t 4]),nn (.t 6) (.call 83 [.t 5]),nn (.t 7) (.bin .eql (.t 6) (.c (.v (.int .i64 0)))),nn (.t
  8) (.mv false (.t 7)),⟨.t 9,.fadr 1 101 (.v 1),some (.t 8,true)⟩,⟨.t 10,.load 1 false (.t 9),some (.t 8,true)⟩,⟨.t 11,.len (.t 10),some
  (.t 8,true)⟩,⟨.t 12,.bin .gtr (.t 11) (.c (.v (.int .i64 0))),some (.t 8,true)⟩,nn (.t 13) (.pick (.t 8) (.t 12) (.c (.v (.bool false)))),nn
  (.t 14) (.mv false (.t 13)),⟨.t 15,.fadr 1 101 (.v 1),some (.t 14,true)⟩,⟨.t 16,.load 1 false (.t 15),some (.t 14,true)⟩,⟨.t 17,.call 53
  [.t 16,.c (.v (.int .i64 21))],some (.t 14,true)⟩,nn (.t 18) (.pick (.t 14) (.t 17) (.c (.v (.bool false)))),nn (.t 19) (.mv false (.t 18)),⟨.t
  20,.fadr 0 0 (.v 1),some (.t 19,true)⟩,⟨.t 21,.fadr 0 0 (.t 20),some (.t 19,true)⟩,⟨.t 22,.load 1 false (.t 21),some (.t 19,true)⟩,⟨.t
  23,.bin .eql (.t 22) (.c (.v (.int .i64 0))),some (.t 19,true)⟩,nn (.t 24) (.pick (.t 19) (.t 23) (.c (.v (.bool false)))),nn (.t 25) (.mv false
  (.t 24)),⟨.t 26,.fadr 0 0 (.v 1),some (.t 25,true)⟩,⟨.t 27,.fadr 7 69 (.t 26),some (.t 25,true)⟩,⟨.t 28,.load 32 true (.t 27),some (.t 25,
  true)⟩,⟨.t 29,.build (.arr .u8 32 [0,0,0,0,0,0,0,0,0,0,0,0,0,0,0,0,0,0,0,0,0,0,0,0,0,0,0,0,0,0,0,0]) [],some (.t
  25,true)⟩,⟨.t 30,.eqa false (.arr 32) (.t 28) (.t 29),some (.t 25,true)⟩,nn (.t 31) (.pick (.t 25) (.t 30) (.c (.v (.bool false)))),ma 2
  31]).seq PC.ret)) [(.v 2,none)]
def pf40:PF:=
 PF.mk 1 3 23 ((PC.reg [nn (.v 1) (.box (.v 0)),nn (.v 2) (.mv true (.c (.v (.bool false))))]).seq ((PC.reg [nn (.t 3) (.load 102 true (.v 1)),nn (.t
  4) (.call 59 [.t 3]),nn (.t 5) (.mv false (.t 4)),⟨.t 6,.fadr 0 0 (.v 1),some (.t 5,true)⟩,⟨.t 7,.load 101 true (.t 6),some (.t 5,true)⟩,
  ⟨.t 8,.build (.agg [.int .i64 0,.arr .u8 32 [0,0,0,0,0,0,0,0,0,0,0,0,0,0,0,0,0,0,0,0,0,0,0,0,0,0,0,0,0,0,0,0]]) [(0,
  .c (.v (.int .i64 1)))],some (.t 5,true)⟩,⟨.t 9,.call 61 [.t 7,.t 8],some (.t 5,true)⟩,⟨.t 10,.call 76 [.t 9],some (.t 5,true)⟩,nn (.t
  11) (.pick (.t 5) (.t 10) (.c (.v (.bool false)))),nn (.t 12) (.mv false (.t 11)),⟨.t 13,.fadr 1 101 (.v 1),some (.t 12,true)⟩,⟨.t 14,.load 1
  false (.t 13),some (.t 12,true)⟩,⟨.t 15,.len (.t 14),some (.t 12,true)⟩,⟨.t 16,.bin .gtr (.t 15) (.c (.v (.int .i64 0))),some (.t 12,
  true)⟩,nn (.t 17) (.pick (.t 12) (.t 16) (.c (.v (.bool false)))),nn (.t 18) (.mv false (.t 17)),⟨.t 19,.fadr 1 101 (.v 1),some (.t 18,true)⟩,
  ⟨.t 20,.load 1 false (.t 19),some (.t 18,true)⟩,⟨.t 21,.call 58 [.t 20,.c (.v (.int .i64 21))],some (.t 18,true)⟩,nn (.t 22) (.pick (.t 18)
  (.t 21) (.c (.v (.bool false)))),ma 2 22]).seq PC.ret)) [(.v 2,none)]
attribute [local irreducible] W Wops WopsD WL Wop WopD
variable {E:Env} {C:Abs.Spec} {l:List (Nat×Spec1)} {G:List (Nat×V)} {Q:R→List (Nat×V)→Prop}
set_option maxHeartbeats 1000000
theorem risesB_eq {n:Int}:∀{l:List Int} {low:Int},risesB n low l=riseI n low l
 |[],_=>rfl
 |w::ws,low=>by unfold risesB riseI;rw[risesB_eq]
def ZMc:Spec1
 |[y],G,Q=>∃(a:AttS) (x:V) (sg:List (Int×List Int)),(y= .agg [a.v,x]∧SgV G x sg∧a.wf∧sg.length < 1000000)∧Q (.v (.bool (CertS.may ⟨a,sg⟩))) G
 |_,_,_=>False
theorem ZMc_eq {y}:ZMc [y] G Q=(∃(a:AttS) (x:V) (sg:List (Int×List Int)),(y= .agg [a.v,x]∧SgV G x sg∧a.wf∧sg.length < 1000000)∧Q (.v (.bool (CertS.may ⟨a,sg⟩))) G):=rfl
theorem one_wf {a:AttS} (h:a.wf):(⟨1,a.ki,a.vi,a.ph,a.ha,a.pv,a.pa,zero32⟩:AttS).wf:=⟨i64_of (by show (0:Int)≤1;decide) (by show (1:Int)≤1099511627776;decide),h.ki,h.vi,h.ph,h.pv,h.ha,h.pa,h32_zero⟩
theorem walk75i {a:AttS} {sg:List (Int×List Int)} (hW:Abs.look l 57=some ZWi) (hC:Abs.look l 83=some SCk) (hR:Abs.look l 53=some ZRs) (hw:a.wf) (hl:sg.length < 1000000) (h:Q (.v (.bool (CertS.may ⟨a,sg⟩))) G):Wf E (specOf l) pf75 [.agg [a.v,.sle 33 (sg.map sgV)]] G Q:=by
 have key:∀b:Bool,(b=true↔CertS.May ⟨a,sg⟩)→Q (.v (.bool b)) G:=fun b hb=>by
  have:b=CertS.may ⟨a,sg⟩:=by unfold CertS.may;rw[Bool.eq_iff_iff,hb];simp
  rw[this];exact h
 have ow:=one_wf hw
 obtain⟨a1,a2,a3,a4,a5,a6,a7,a8⟩:=a
 unfold CertS.May CertS.one at key
 dsimp only at key ow
 simp (maxSteps:=1000000) (implicitDefEqProofs:=false) only[pf75,AttS.v,hW,ZWi_eq,go_sem,↓reduceIte]
 refine⟨⟨a1,a2,a3,a4,a5,a6,a7,a8⟩,_,(1,zero32),⟨rfl,rfl,rfl,rfl⟩,?_⟩
 simp (maxSteps:=1000000) (implicitDefEqProofs:=false) only[withS,AttS.v,hC,SCk_eq,go_sem,↓reduceIte]
 refine⟨ow,?_⟩
 cases hq:AttS.may ⟨1,a2,a3,a4,a5,a6,a7,zero32⟩with
 |false=>
  have hn:¬AttS.May ⟨1,a2,a3,a4,a5,a6,a7,zero32⟩:=of_decide_eq_false hq
  try simp (maxSteps:=1000000) (implicitDefEqProofs:=false) only[go_sem,↓reduceIte]
  exact key false ⟨fun e=>(by cases e),fun e=>absurd e.1 hn⟩
 |true=>
  have hm:AttS.May ⟨1,a2,a3,a4,a5,a6,a7,zero32⟩:=of_decide_eq_true hq
  by_cases q2:sg=[]
  ·subst q2
   simp (maxSteps:=1000000) (implicitDefEqProofs:=false) only[List.map_nil,List.length_nil,Int.lt_irrefl,Int.natCast_zero,go_sem,↓reduceIte]
   exact key false ⟨fun e=>(by cases e),fun e=>absurd rfl e.2.2.2.1⟩
  have q2':(0:Int) < (sg.length:Int):=by have:=List.length_pos_iff.2 q2;omega
  have q2n:¬(sg.length:Int)≤0:=by omega
  simp (maxSteps:=1000000) (implicitDefEqProofs:=false) only[q2',q2n,List.length_map,hR,ZRs_eq,go_sem,↓reduceIte]
  refine⟨sg,⟨rfl,hl⟩,?_⟩
  rw[risesB_eq]
  cases hr:riseI 21 0 (sg.map (·.1))with
  |false=>
   try simp (maxSteps:=1000000) (implicitDefEqProofs:=false) only[go_sem,↓reduceIte]
   exact key false ⟨fun e=>(by cases e),fun e=>absurd e.2.2.2.2 (by rw[hr];decide)⟩
  |true=>
   by_cases q4:a1=0
   case neg=>
    simp (maxSteps:=1000000) (implicitDefEqProofs:=false) only[q4,go_sem,↓reduceIte]
    exact key false ⟨fun e=>(by cases e),fun e=>absurd e.2.1 q4⟩
   simp (maxSteps:=1000000) (implicitDefEqProofs:=false) only[q4,go_sem,↓reduceIte]
   refine key _ ?_
   rw[beq_iff_eq]
   exact⟨fun e=>⟨hm,q4,e,q2,hr⟩,fun e=>e.2.2.1⟩
theorem walk75s {a:AttS} {sg:List (Int×List Int)} {id c:Nat} {LL:List V} (hG:Abs.look G id=some (.agg LL)) (hLL:∀(i:Nat) p,sg[i]? =some p→LL[i]? =some (sgV p)) (hfl:sg.length≤LL.length) (hsz:∀y∈LL,V.size y=33) (hW:Abs.look l 57=some ZWi) (hC:Abs.look l 83=some SCk) (hR:Abs.look l 53=some ZRs) (hw:a.wf) (hl:sg.length < 1000000) (h:Q (.v (.bool (CertS.may ⟨a,sg⟩))) G):Wf E (specOf l) pf75 [.agg [a.v,.sob id 33 0 sg.length c]] G Q:=by
 have key:∀b:Bool,(b=true↔CertS.May ⟨a,sg⟩)→Q (.v (.bool b)) G:=fun b hb=>by
  have:b=CertS.may ⟨a,sg⟩:=by unfold CertS.may;rw[Bool.eq_iff_iff,hb];simp
  rw[this];exact h
 have ow:=one_wf hw
 obtain⟨a1,a2,a3,a4,a5,a6,a7,a8⟩:=a
 unfold CertS.May CertS.one at key
 dsimp only at key ow
 simp (maxSteps:=1000000) (implicitDefEqProofs:=false) only[pf75,AttS.v,hW,ZWi_eq,go_sem,↓reduceIte]
 refine⟨⟨a1,a2,a3,a4,a5,a6,a7,a8⟩,_,(1,zero32),⟨rfl,rfl,rfl,rfl⟩,?_⟩
 simp (maxSteps:=1000000) (implicitDefEqProofs:=false) only[withS,AttS.v,hC,SCk_eq,go_sem,↓reduceIte]
 refine⟨ow,?_⟩
 cases hq:AttS.may ⟨1,a2,a3,a4,a5,a6,a7,zero32⟩with
 |false=>
  have hn:¬AttS.May ⟨1,a2,a3,a4,a5,a6,a7,zero32⟩:=of_decide_eq_false hq
  try simp (maxSteps:=1000000) (implicitDefEqProofs:=false) only[go_sem,↓reduceIte]
  exact key false ⟨fun e=>(by cases e),fun e=>absurd e.1 hn⟩
 |true=>
  have hm:AttS.May ⟨1,a2,a3,a4,a5,a6,a7,zero32⟩:=of_decide_eq_true hq
  by_cases q2:sg=[]
  ·subst q2
   simp (maxSteps:=1000000) (implicitDefEqProofs:=false) only[List.map_nil,List.length_nil,Int.lt_irrefl,Int.natCast_zero,go_sem,↓reduceIte]
   exact key false ⟨fun e=>(by cases e),fun e=>absurd rfl e.2.2.2.1⟩
  have q2':(0:Int) < (sg.length:Int):=by have:=List.length_pos_iff.2 q2;omega
  have q2n:¬(sg.length:Int)≤0:=by omega
  simp (maxSteps:=1000000) (implicitDefEqProofs:=false) only[q2',q2n,List.length_map,hR,ZRs_eq,go_sem,↓reduceIte]
  refine⟨sg,LL,⟨rfl,hl,hG,hLL,hfl,hsz⟩,?_⟩
  rw[risesB_eq]
  cases hr:riseI 21 0 (sg.map (·.1))with
  |false=>
   try simp (maxSteps:=1000000) (implicitDefEqProofs:=false) only[go_sem,↓reduceIte]
   exact key false ⟨fun e=>(by cases e),fun e=>absurd e.2.2.2.2 (by rw[hr];decide)⟩
  |true=>
   by_cases q4:a1=0
   case neg=>
    simp (maxSteps:=1000000) (implicitDefEqProofs:=false) only[q4,go_sem,↓reduceIte]
    exact key false ⟨fun e=>(by cases e),fun e=>absurd e.2.1 q4⟩
   simp (maxSteps:=1000000) (implicitDefEqProofs:=false) only[q4,go_sem,↓reduceIte]
   refine key _ ?_
   rw[beq_iff_eq]
   exact⟨fun e=>⟨hm,q4,e,q2,hr⟩,fun e=>e.2.2.1⟩
theorem walk75n {a:AttS} (hW:Abs.look l 57=some ZWi) (hC:Abs.look l 83=some SCk) (hR:Abs.look l 53=some ZRs) (hw:a.wf) (h:Q (.v (.bool (CertS.may ⟨a,[]⟩))) G):Wf E (specOf l) pf75 [.agg [a.v,.nils]] G Q:=by
 have hm:CertS.may ⟨a,[]⟩=false:=decide_eq_false fun e=>e.2.2.2.1 rfl
 rw[hm]at h
 have ow:=one_wf hw
 obtain⟨a1,a2,a3,a4,a5,a6,a7,a8⟩:=a
 dsimp only at ow
 simp (maxSteps:=1000000) (implicitDefEqProofs:=false) only[pf75,AttS.v,hW,ZWi_eq,go_sem,↓reduceIte]
 refine⟨⟨a1,a2,a3,a4,a5,a6,a7,a8⟩,_,(1,zero32),⟨rfl,rfl,rfl,rfl⟩,?_⟩
 simp (maxSteps:=1000000) (implicitDefEqProofs:=false) only[withS,AttS.v,hC,SCk_eq,go_sem,↓reduceIte]
 refine⟨ow,?_⟩
 try simp (maxSteps:=1000000) (implicitDefEqProofs:=false) only[go_sem,↓reduceIte]
 first|exact h|exact⟨fun _=>h,fun _=>h⟩|trace_state
theorem walk40i {a:AttS} {sg:List (Int×List Int)} (hB:Abs.look l 59=some ZBa) (hW:Abs.look l 61=some ZWj) (hC:Abs.look l 76=some SMy) (hR:Abs.look l 58=some ZRs) (hw:a.wf) (hl:sg.length < 1000000) (h:Q (.v (.bool (CertS.may ⟨a,sg⟩))) G):Wf E (specOf l) pf40 [.agg [a.v,.sle 33 (sg.map sgV)]] G Q:=by
 have key:∀b:Bool,(b=true↔CertS.May ⟨a,sg⟩)→Q (.v (.bool b)) G:=fun b hb=>by
  have:b=CertS.may ⟨a,sg⟩:=by unfold CertS.may;rw[Bool.eq_iff_iff,hb];simp
  rw[this];exact h
 have ow:=one_wf hw
 obtain⟨a1,a2,a3,a4,a5,a6,a7,a8⟩:=a
 unfold CertS.May CertS.one at key
 dsimp only at key ow
 simp (maxSteps:=1000000) (implicitDefEqProofs:=false) only[pf40,AttS.v,hB,ZBa_eq,go_sem,↓reduceIte]
 refine⟨⟨a1,a2,a3,a4,a5,a6,a7,a8⟩,_,⟨rfl,rfl,rfl⟩,?_⟩
 by_cases q4:a1=0
 case neg=>
  simp (maxSteps:=1000000) (implicitDefEqProofs:=false) only[q4,go_sem,↓reduceIte]
  exact key false ⟨fun e=>(by cases e),fun e=>absurd e.2.1 q4⟩
 cases q5:a8==zero32 with
 |false=>
  simp (maxSteps:=1000000) (implicitDefEqProofs:=false) only[q4,q5,go_sem,↓reduceIte]
  exact key false ⟨fun e=>(by cases e),fun e=>absurd e.2.2.1 (by intro c;rw[c,beq_self_eq_true]at q5;cases q5)⟩
 |true=>
  have q5e:=eq_of_beq q5
  simp (maxSteps:=1000000) (implicitDefEqProofs:=false) only[q4,q5,hW,ZWj_eq,go_sem,↓reduceIte]
  refine⟨⟨0,a2,a3,a4,a5,a6,a7,a8⟩,(1,zero32),⟨rfl,rfl⟩,?_⟩
  simp (maxSteps:=1000000) (implicitDefEqProofs:=false) only[withS,AttS.v,hC,SMy_eq,go_sem,↓reduceIte]
  refine⟨ow,?_⟩
  cases hq:AttS.may ⟨1,a2,a3,a4,a5,a6,a7,zero32⟩with
  |false=>
   have hn:¬AttS.May ⟨1,a2,a3,a4,a5,a6,a7,zero32⟩:=of_decide_eq_false hq
   try simp (maxSteps:=1000000) (implicitDefEqProofs:=false) only[go_sem,↓reduceIte]
   exact key false ⟨fun e=>(by cases e),fun e=>absurd e.1 hn⟩
  |true=>
   have hm:AttS.May ⟨1,a2,a3,a4,a5,a6,a7,zero32⟩:=of_decide_eq_true hq
   by_cases q2:sg=[]
   ·subst q2
    simp (maxSteps:=1000000) (implicitDefEqProofs:=false) only[List.map_nil,List.length_nil,Int.lt_irrefl,Int.natCast_zero,go_sem,↓reduceIte]
    exact key false ⟨fun e=>(by cases e),fun e=>absurd rfl e.2.2.2.1⟩
   have q2':(0:Int) < (sg.length:Int):=by have:=List.length_pos_iff.2 q2;omega
   have q2n:¬(sg.length:Int)≤0:=by omega
   simp (maxSteps:=1000000) (implicitDefEqProofs:=false) only[q2',q2n,List.length_map,hR,ZRs_eq,go_sem,↓reduceIte]
   refine⟨sg,⟨rfl,hl⟩,?_⟩
   rw[risesB_eq]
   try simp (maxSteps:=1000000) (implicitDefEqProofs:=false) only[go_sem,↓reduceIte]
   refine key _ ?_
   exact⟨fun e=>⟨hm,q4,q5e,q2,e⟩,fun e=>e.2.2.2.2⟩
theorem walk40n {a:AttS} {sg:List (Int×List Int)} (hB:Abs.look l 59=some ZBa) (hW:Abs.look l 61=some ZWj) (hC:Abs.look l 76=some SMy) (hR:Abs.look l 58=some ZRs) (hw:a.wf) (hl:sg.length < 1000000) (h:Q (.v (.bool (CertS.may ⟨a,[]⟩))) G):Wf E (specOf l) pf40 [.agg [a.v,.nils]] G Q:=by
 have key:∀b:Bool,(b=true↔CertS.May ⟨a,[]⟩)→Q (.v (.bool b)) G:=fun b hb=>by
  have:b=CertS.may ⟨a,[]⟩:=by unfold CertS.may;rw[Bool.eq_iff_iff,hb];simp
  rw[this];exact h
 have ow:=one_wf hw
 obtain⟨a1,a2,a3,a4,a5,a6,a7,a8⟩:=a
 unfold CertS.May CertS.one at key
 dsimp only at key ow
 simp (maxSteps:=1000000) (implicitDefEqProofs:=false) only[pf40,AttS.v,hB,ZBa_eq,go_sem,↓reduceIte]
 refine⟨⟨a1,a2,a3,a4,a5,a6,a7,a8⟩,_,⟨rfl,rfl,rfl⟩,?_⟩
 by_cases q4:a1=0
 case neg=>
  simp (maxSteps:=1000000) (implicitDefEqProofs:=false) only[q4,go_sem,↓reduceIte]
  exact key false ⟨fun e=>(by cases e),fun e=>absurd e.2.1 q4⟩
 cases q5:a8==zero32 with
 |false=>
  simp (maxSteps:=1000000) (implicitDefEqProofs:=false) only[q4,q5,go_sem,↓reduceIte]
  exact key false ⟨fun e=>(by cases e),fun e=>absurd e.2.2.1 (by intro c;rw[c,beq_self_eq_true]at q5;cases q5)⟩
 |true=>
  have q5e:=eq_of_beq q5
  simp (maxSteps:=1000000) (implicitDefEqProofs:=false) only[q4,q5,hW,ZWj_eq,go_sem,↓reduceIte]
  refine⟨⟨0,a2,a3,a4,a5,a6,a7,a8⟩,(1,zero32),⟨rfl,rfl⟩,?_⟩
  simp (maxSteps:=1000000) (implicitDefEqProofs:=false) only[withS,AttS.v,hC,SMy_eq,go_sem,↓reduceIte]
  refine⟨ow,?_⟩
  cases hq:AttS.may ⟨1,a2,a3,a4,a5,a6,a7,zero32⟩with
  |false=>
   have hn:¬AttS.May ⟨1,a2,a3,a4,a5,a6,a7,zero32⟩:=of_decide_eq_false hq
   try simp (maxSteps:=1000000) (implicitDefEqProofs:=false) only[go_sem,↓reduceIte]
   exact key false ⟨fun e=>(by cases e),fun e=>absurd e.1 hn⟩
  |true=>
   have hm:AttS.May ⟨1,a2,a3,a4,a5,a6,a7,zero32⟩:=of_decide_eq_true hq
   try simp (maxSteps:=1000000) (implicitDefEqProofs:=false) only[go_sem,↓reduceIte]
   exact key false ⟨fun e=>(by cases e),fun e=>absurd rfl e.2.2.2.1⟩
theorem walk40s {a:AttS} {sg:List (Int×List Int)} {id c:Nat} {LL:List V} (hG:Abs.look G id=some (.agg LL)) (hLL:∀(i:Nat) p,sg[i]? =some p→LL[i]? =some (sgV p)) (hfl:sg.length≤LL.length) (hsz:∀y∈LL,V.size y=33) (hB:Abs.look l 59=some ZBa) (hW:Abs.look l 61=some ZWj) (hC:Abs.look l 76=some SMy) (hR:Abs.look l 58=some ZRs) (hw:a.wf) (hl:sg.length < 1000000) (h:Q (.v (.bool (CertS.may ⟨a,sg⟩))) G):Wf E (specOf l) pf40 [.agg [a.v,.sob id 33 0 sg.length c]] G Q:=by
 have key:∀b:Bool,(b=true↔CertS.May ⟨a,sg⟩)→Q (.v (.bool b)) G:=fun b hb=>by
  have:b=CertS.may ⟨a,sg⟩:=by unfold CertS.may;rw[Bool.eq_iff_iff,hb];simp
  rw[this];exact h
 have ow:=one_wf hw
 obtain⟨a1,a2,a3,a4,a5,a6,a7,a8⟩:=a
 unfold CertS.May CertS.one at key
 dsimp only at key ow
 simp (maxSteps:=1000000) (implicitDefEqProofs:=false) only[pf40,AttS.v,hB,ZBa_eq,go_sem,↓reduceIte]
 refine⟨⟨a1,a2,a3,a4,a5,a6,a7,a8⟩,_,⟨rfl,rfl,rfl⟩,?_⟩
 by_cases q4:a1=0
 case neg=>
  simp (maxSteps:=1000000) (implicitDefEqProofs:=false) only[q4,go_sem,↓reduceIte]
  exact key false ⟨fun e=>(by cases e),fun e=>absurd e.2.1 q4⟩
 cases q5:a8==zero32 with
 |false=>
  simp (maxSteps:=1000000) (implicitDefEqProofs:=false) only[q4,q5,go_sem,↓reduceIte]
  exact key false ⟨fun e=>(by cases e),fun e=>absurd e.2.2.1 (by intro c;rw[c,beq_self_eq_true]at q5;cases q5)⟩
 |true=>
  have q5e:=eq_of_beq q5
  simp (maxSteps:=1000000) (implicitDefEqProofs:=false) only[q4,q5,hW,ZWj_eq,go_sem,↓reduceIte]
  refine⟨⟨0,a2,a3,a4,a5,a6,a7,a8⟩,(1,zero32),⟨rfl,rfl⟩,?_⟩
  simp (maxSteps:=1000000) (implicitDefEqProofs:=false) only[withS,AttS.v,hC,SMy_eq,go_sem,↓reduceIte]
  refine⟨ow,?_⟩
  cases hq:AttS.may ⟨1,a2,a3,a4,a5,a6,a7,zero32⟩with
  |false=>
   have hn:¬AttS.May ⟨1,a2,a3,a4,a5,a6,a7,zero32⟩:=of_decide_eq_false hq
   try simp (maxSteps:=1000000) (implicitDefEqProofs:=false) only[go_sem,↓reduceIte]
   exact key false ⟨fun e=>(by cases e),fun e=>absurd e.1 hn⟩
  |true=>
   have hm:AttS.May ⟨1,a2,a3,a4,a5,a6,a7,zero32⟩:=of_decide_eq_true hq
   by_cases q2:sg=[]
   ·subst q2
    simp (maxSteps:=1000000) (implicitDefEqProofs:=false) only[List.map_nil,List.length_nil,Int.lt_irrefl,Int.natCast_zero,go_sem,↓reduceIte]
    exact key false ⟨fun e=>(by cases e),fun e=>absurd rfl e.2.2.2.1⟩
   have q2':(0:Int) < (sg.length:Int):=by have:=List.length_pos_iff.2 q2;omega
   have q2n:¬(sg.length:Int)≤0:=by omega
   simp (maxSteps:=1000000) (implicitDefEqProofs:=false) only[q2',q2n,List.length_map,hR,ZRs_eq,go_sem,↓reduceIte]
   refine⟨sg,LL,⟨rfl,hl,hG,hLL,hfl,hsz⟩,?_⟩
   rw[risesB_eq]
   try simp (maxSteps:=1000000) (implicitDefEqProofs:=false) only[go_sem,↓reduceIte]
   refine key _ ?_
   exact⟨fun e=>⟨hm,q4,q5e,q2,e⟩,fun e=>e.2.2.2.2⟩
end Go.Proofs.YtegamlopcdjiaaaDoor.Sha
