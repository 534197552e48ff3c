/- Accumulations: put and read, the law. -/
import Derived.Test.YtegamlopcdjiaaaDoorUAcc9
namespace Go.Proofs.YtegamlopcdjiaaaDoor.Sha
open Go Go.Abs Go.Abs.Sha Go.Abs.Srt
set_option linter.unusedSimpArgs false
set_option linter.unusedVariables false
set_option maxRecDepth 100000
def pf7:PF:=
 PF.mk 3 17 110 ((PC.reg [nn (.v 3) (.box (.v 0)),nn (.v 6) (.mv true (.c (.v (.bool false))))]).seq (((PC.reg [nn (.t 17) (.fadr 4 35 (.v 3)),nn (.t
  18) (.load 1 false (.t 17)),nn (.t 19) (.len (.t 18)),nn (.t 20) (.bin .gtr (.t 19) (.c (.v (.int .i64 30)))),nn (.t 21) (.mv false (.t 20)),gm
  22 1 21 false,⟨.t 23,.len (.t 22),some (.t 21,false)⟩,⟨.t 24,.bin .gtr (.t 23) (.c (.v (.int .i64 200))),some (.t 21,false)⟩,nn (.t 25)
  (.pick (.t 21) (.c (.v (.bool true))) (.t 24)),nn (.t 26) (.mv false (.t 25)),gm 27 2 26 false,⟨.t 28,.len (.t 27),some (.t 26,false)⟩,⟨.t 29,
  .bin .gtr (.t 28) (.c (.v (.int .i64 500))),some (.t 26,false)⟩,nn (.t 30) (.pick (.t 26) (.c (.v (.bool true))) (.t 29))]).seq (PC.cond (.t 30)
  ((PC.reg [nn (.t 31) (.call 9 []),ma 6 31]).seq PC.ret) PC.skip)).seq ((PC.reg [mm 32 2,nn (.t 33) (.call 29 [.t 32]),ma 7 33]).seq ((PC.reg [mm
  35 7,nn (.t 36) (.call 30 [.t 35]),nn (.t 34) (.mv false (.t 36)),nn (.t 37) (.ext (.t 34) 0),nn (.t 38) (.ext (.t 34) 1),nn (.v 8) (.alloc
  (.agg [.int .i64 0,.int .i64 0,.int .i64 0,.arr .u8 32 [0,0,0,0,0,0,0,0,0,0,0,0,0,0,0,0,0,0,0,0,0,0,0,0,0,0,0,0,0,0,
  0,0],.nils,.arr .u8 32 [0,0,0,0,0,0,0,0,0,0,0,0,0,0,0,0,0,0,0,0,0,0,0,0,0,0,0,0,0,0,0,0]])),nn .no (.store 68 (.v
  8) (.t 37)),ma 9 38]).seq ((PC.reg [mm 40 2,nn (.t 41) (.build (.agg [.nils,.int .i64 0,.bool false]) [(0,.t 40)]),nn (.t 42) (.call 31 [.t
  41]),nn (.t 39) (.mv false (.t 42)),nn (.t 43) (.ext (.t 39) 0),nn (.t 44) (.ext (.t 39) 1),nn (.t 45) (.ext (.t 39) 2),nn (.v 10) (.alloc (.agg
  [.nils,.int .i64 0,.bool false])),nn (.v 11) (.alloc (.agg [.int .i64 0,.int .i64 0,.int .i64 0,.arr .u8 32 [0,0,0,0,0,0,0,0,0,0,0,
  0,0,0,0,0,0,0,0,0,0,0,0,0,0,0,0,0,0,0,0,0],.nils,.arr .u8 32 [0,0,0,0,0,0,0,0,0,0,0,0,0,0,0,0,0,0,0,0,0,0,
  0,0,0,0,0,0,0,0,0,0]])),nn .no (.store 3 (.v 10) (.t 43)),nn .no (.store 68 (.v 11) (.t 44)),ma 12 45]).seq (((PC.regD 0 [mm 46 9,mm 47
  12,nn (.t 48) (.binB .neq (.t 46) (.t 47)),nn (.t 49) (.mv false (.t 48)),⟨.t 50,.load 68 true (.v 8),some (.t 49,false)⟩,⟨.t 51,.load 68
  true (.v 11),some (.t 49,false)⟩,⟨.t 52,.call 13 [.t 50,.t 51],some (.t 49,false)⟩,⟨.t 53,.un .not (.t 52),some (.t 49,false)⟩,nn (.t 54)
  (.pick (.t 49) (.c (.v (.bool true))) (.t 53)),nn (.t 55) (.mv false (.t 54)),gm 56 9 55 false,⟨.t 57,.mv false (.t 56),some (.t 55,false)⟩,gm
  58 7 57 true,⟨.t 59,.call 32 [.t 58],some (.t 57,true)⟩,gm 60 2 57 true,⟨.t 61,.len (.t 60),some (.t 57,true)⟩,⟨.t 62,.fadr 1 1 (.v 10),
  some (.t 57,true)⟩,⟨.t 63,.load 1 false (.t 62),some (.t 57,true)⟩,⟨.t 64,.bin .sub (.t 61) (.t 63),some (.t 57,true)⟩,⟨.t 65,.bin .neq
  (.t 59) (.t 64),some (.t 57,true)⟩,⟨.t 66,.pick (.t 57) (.t 65) (.c (.v (.bool false))),some (.t 55,false)⟩,nn (.t 67) (.pick (.t 55) (.c (.v
  (.bool true))) (.t 66))] []).seq (PC.cond (.t 67) ((PC.reg [nn (.v 6) (.mv true (.c (.v (.bool false))))]).seq PC.ret) PC.skip)).seq ((PC.reg [mm 68
  1,nn (.t 69) (.load 68 true (.v 3)),nn (.t 70) (.call 33 [.t 68,.t 69]),ma 13 70]).seq (((PC.reg [nn (.t 71) (.load 68 true (.v 3)),nn (.t 72)
  (.call 34 [.t 71]),nn (.t 73) (.un .not (.t 72))]).seq (PC.cond (.t 73) ((PC.reg [mm 74 13,mm 75 1,nn (.t 76) (.call 35 [.t 74,.t 75]),nn (.t
  77) (.mv false (.t 76)),⟨.t 78,.call 9 [],some (.t 77,true)⟩,nn (.t 79) (.pick (.t 77) (.t 78) (.c (.v (.bool false)))),ma 6 79]).seq PC.ret)
  PC.skip)).seq ((PC.reg [nn (.t 80) (.load 68 true (.v 3)),nn (.t 81) (.call 36 [.t 80]),ma 14 81]).seq ((PC.reg [nn (.t 83) (.buildS (some .u8) 1
  (.int .u8 0) 0 []),mm 84 14,nn (.t 85) (.app (some .u8) 1 1 (.t 83) (.t 84)),mm 86 2,nn (.t 87) (.app (some .u8) 1 1 (.t 85) (.t 86)),nn (.t 88)
  (.call 29 [.t 87]),nn (.t 89) (.call 30 [.t 88]),nn (.t 82) (.mv false (.t 89)),nn (.t 90) (.ext (.t 82) 0),nn (.t 91) (.ext (.t 82) 1),nn (.v
  15) (.alloc (.agg [.int .i64 0,.int .i64 0,.int .i64 0,.arr .u8 32 [0,0,0,0,0,0,0,0,0,0,0,0,0,0,0,0,0,0,0,0,0,0,0,0,0,0,
  0,0,0,0,0,0],.nils,.arr .u8 32 [0,0,0,0,0,0,0,0,0,0,0,0,0,0,0,0,0,0,0,0,0,0,0,0,0,0,0,0,0,0,0,0]])),nn .no
  (.store 68 (.v 15) (.t 90)),ma 16 91]).seq ((PC.reg [mm 92 13,nn (.t 93) (.buildS (some .u8) 1 (.int .u8 0) 0 []),mm 94 1,nn (.t 95) (.app (some
  .u8) 1 1 (.t 93) (.t 94)),mm 96 14,nn (.t 97) (.app (some .u8) 1 1 (.t 95) (.t 96)),nn (.t 98) (.call 35 [.t 92,.t 97]),nn (.t 99) (.mv false
  (.t 98)),gm 100 16 99 true,nn (.t 101) (.pick (.t 99) (.t 100) (.c (.v (.bool false)))),nn (.t 102) (.mv false (.t 101)),⟨.t 103,.load 68 true
  (.v 15),some (.t 102,true)⟩,⟨.t 104,.load 68 true (.v 3),some (.t 102,true)⟩,⟨.t 105,.call 13 [.t 103,.t 104],some (.t 102,true)⟩,nn (.t
  106) (.pick (.t 102) (.t 105) (.c (.v (.bool false)))),nn (.t 107) (.mv false (.t 106)),⟨.t 108,.call 9 [],some (.t 107,true)⟩,nn (.t 109)
  (.pick (.t 107) (.t 108) (.c (.v (.bool false)))),ma 6 109]).seq PC.ret))))))))))) [(.v 6,none)]
attribute [local irreducible] W Wops WopsD WL Wop WopD
variable {E:Env} {C:Abs.Spec} {l:List (Nat×Spec1)} {G:List (Nat×V)} {Q:R→List (Nat×V)→Prop}
set_option maxHeartbeats 1000000
theorem accR_len {b r:List Int} {a:AccS} {w:Bool} (ok:RdAccu b false a r w):(accR a w).fr.length < 1000000:=by
 have:=ok.cnt
 unfold accR
 split
 ·omega
 ·exact (by decide:(0:Nat) < 1000000)
theorem sameA_refl {a:AccS}:sameA a a=true:=by unfold sameA;simp
theorem walk7 {a:AccS} {ahead more:List Int} (hA:Abs.look l 9=some ZAx) (hO:Abs.look l 29=some SRd) (hR:Abs.look l 30=some ZRd) (hR2:Abs.look l 31=some ZRr) (hS:Abs.look l 13=some ZS10)
  (hL:Abs.look l 32=some SLf) (hP:Abs.look l 33=some ZPu) (hM:Abs.look l 34=some ZM10) (hS1:Abs.look l 35=some SSm) (hB:Abs.look l 36=some ZBy)
  (hw:a.wf) (hb:Byt ahead) (hc:Byt more) (h:∀G',Q (.v (.bool true)) G'):Wf E (specOf l) pf7 [a.v,.sli .u8 ahead,.sli .u8 more] G Q:=by
 obtain⟨a1,a2,a3,a4,fr,a6⟩:=a
 by_cases c1:(30:Int) < fr.length
 ·simp (maxSteps:=1000000) (implicitDefEqProofs:=false) only[pf7,AccS.v,c1,hA,ZAx_eq,go_sem,↓reduceIte]
  exact h _
 by_cases c2:(200:Int) < ahead.length
 ·simp (maxSteps:=1000000) (implicitDefEqProofs:=false) only[pf7,AccS.v,c1,c2,hA,ZAx_eq,go_sem,↓reduceIte]
  exact h _
 by_cases c3:(500:Int) < more.length
 ·simp (maxSteps:=1000000) (implicitDefEqProofs:=false) only[pf7,AccS.v,c1,c2,c3,hA,ZAx_eq,go_sem,↓reduceIte]
  exact h _
 rcases e:rdAccu (more,false)with⟨a0,r,w⟩
 have ok:=rdAccu_all e hc
 have hlen:=ok.len
 have hal:=accR_len ok
 have ew:IntKind.i64.wrap ((more.length:Int)-((more.length:Int)-(r.length:Int)))=r.length:=by rw[w64 (by omega) (by omega)];omega
 simp (maxSteps:=1000000) (implicitDefEqProofs:=false) only[pf7,AccS.v,c1,c2,c3,hO,SRd_eq,go_sem,↓reduceIte]
 refine⟨more,⟨rfl,by omega⟩,fun id hid=> ?_⟩
 simp (maxSteps:=1000000) (implicitDefEqProofs:=false) only[hR,ZRd_eq,go_sem,↓reduceIte]
 refine⟨more,a0,r,w,⟨rfl,hc,by omega,e⟩,?_⟩
 rcases ha:accR a0 w with⟨x1,x2,x3,x4,x5,x6⟩
 rw[ha]at hal
 cases hq:(!w&&a0.may)<;>simp (maxSteps:=1000000) (implicitDefEqProofs:=false) only[hR2,ZRr_eq,AccS.v,go_sem,↓reduceIte]<;>(refine⟨a0,r,w,⟨hc,by omega,e⟩,?_⟩)<;>simp (maxSteps:=1000000) (implicitDefEqProofs:=false) only[ha,AccS.v,hq,ew,hS,ZS10_eq,go_sem,↓reduceIte]
 ·refine⟨fun q=>(by rw[q.1,q.2]at hq;cases hq),fun _=>⟨⟨x1,x2,x3,x4,x5,x6⟩,⟨x1,x2,x3,x4,x5,x6⟩,⟨rfl,rfl,hal,hal⟩,fun e=>(by rw[sameA_refl]at e;cases e),fun _=> ?_⟩⟩
  simp (maxSteps:=1000000) (implicitDefEqProofs:=false) only[hP,ZPu_eq,go_sem,↓reduceIte]
  refine⟨ahead,⟨a1,a2,a3,a4,fr,a6⟩,⟨rfl,by omega,rfl,hw,by dsimp only;omega⟩,?_⟩
  simp (maxSteps:=1000000) (implicitDefEqProofs:=false) only[hM,ZM10_eq,go_sem,↓reduceIte]
  refine⟨fr,⟨.inl rfl,hw,by omega⟩,?_⟩
  cases hmay:AccS.may ⟨a1,a2,a3,a4,fr,a6⟩with
  |false=>
   simp (maxSteps:=1000000) (implicitDefEqProofs:=false) only[hS1,SSm_eq,hA,ZAx_eq,go_sem,↓reduceIte]
   exact⟨ahead,ahead,⟨rfl,rfl,by omega,by omega⟩,fun _=>h _,fun e=>absurd rfl e⟩
  |true=>
   have hm:AccS.May ⟨a1,a2,a3,a4,fr,a6⟩:=of_decide_eq_true hmay
   obtain⟨bo,bl⟩:=AccS.bytes_ok hw hm
   have e':=rdAccu_of (r:=more) hw hm
   have ea:accR ⟨a1,a2,a3,a4,fr,a6⟩ false=⟨a1,a2,a3,a4,fr,a6⟩:=by unfold accR;rw[hmay];rfl
   simp (maxSteps:=1000000) (implicitDefEqProofs:=false) only[hB,ZBy_eq,go_sem,↓reduceIte]
   refine⟨⟨a1,a2,a3,a4,fr,a6⟩,⟨rfl,hw,hm⟩,?_⟩
   generalize hbz:AccS.bytes ⟨a1,a2,a3,a4,fr,a6⟩=bz at*
   simp (maxSteps:=1000000) (implicitDefEqProofs:=false) only[hO,SRd_eq,go_sem,↓reduceIte]
   refine⟨by omega,by omega,bz++more,⟨rfl,by rw[List.length_append];omega⟩,fun id2 hid2=> ?_⟩
   simp (maxSteps:=1000000) (implicitDefEqProofs:=false) only[hR,ZRd_eq,go_sem,↓reduceIte]
   refine⟨bz++more,⟨a1,a2,a3,a4,fr,a6⟩,more,false,⟨rfl,byt_app bo hc,by rw[List.length_append];omega,e'⟩,?_⟩
   simp (maxSteps:=1000000) (implicitDefEqProofs:=false) only[ea,AccS.v,hmay,hS1,SSm_eq,hS,ZS10_eq,hA,ZAx_eq,go_sem,↓reduceIte]
   refine⟨by omega,by omega,ahead++bz,ahead++bz,⟨rfl,rfl,by rw[List.length_append];omega,by rw[List.length_append];omega⟩,fun _=>⟨⟨a1,a2,a3,a4,fr,a6⟩,⟨a1,a2,a3,a4,fr,a6⟩,⟨rfl,rfl,by dsimp only;omega,by dsimp only;omega⟩,fun _=>h _,fun e=>(by rw[sameA_refl]at e;cases e)⟩,fun e=>absurd rfl e⟩
 ·refine⟨fun q=>(by rcases q with q|q<;>rw[q]at hq<;>simp at hq),fun _=>⟨⟨x1,x2,x3,x4,x5,x6⟩,⟨x1,x2,x3,x4,x5,x6⟩,⟨rfl,rfl,hal,hal⟩,fun e=>(by rw[sameA_refl]at e;cases e),fun _=> ?_⟩⟩
  simp (maxSteps:=1000000) (implicitDefEqProofs:=false) only[hL,SLf_eq,go_sem,↓reduceIte]
  refine⟨r,w,rfl,?_⟩
  try simp (maxSteps:=1000000) (implicitDefEqProofs:=false) only[go_sem,↓reduceIte]
  simp (maxSteps:=1000000) (implicitDefEqProofs:=false) only[hP,ZPu_eq,go_sem,↓reduceIte]
  refine⟨ahead,⟨a1,a2,a3,a4,fr,a6⟩,⟨rfl,by omega,rfl,hw,by dsimp only;omega⟩,?_⟩
  simp (maxSteps:=1000000) (implicitDefEqProofs:=false) only[hM,ZM10_eq,go_sem,↓reduceIte]
  refine⟨fr,⟨.inl rfl,hw,by omega⟩,?_⟩
  cases hmay:AccS.may ⟨a1,a2,a3,a4,fr,a6⟩with
  |false=>
   simp (maxSteps:=1000000) (implicitDefEqProofs:=false) only[hS1,SSm_eq,hA,ZAx_eq,go_sem,↓reduceIte]
   exact⟨ahead,ahead,⟨rfl,rfl,by omega,by omega⟩,fun _=>h _,fun e=>absurd rfl e⟩
  |true=>
   have hm:AccS.May ⟨a1,a2,a3,a4,fr,a6⟩:=of_decide_eq_true hmay
   obtain⟨bo,bl⟩:=AccS.bytes_ok hw hm
   have e':=rdAccu_of (r:=more) hw hm
   have ea:accR ⟨a1,a2,a3,a4,fr,a6⟩ false=⟨a1,a2,a3,a4,fr,a6⟩:=by unfold accR;rw[hmay];rfl
   simp (maxSteps:=1000000) (implicitDefEqProofs:=false) only[hB,ZBy_eq,go_sem,↓reduceIte]
   refine⟨⟨a1,a2,a3,a4,fr,a6⟩,⟨rfl,hw,hm⟩,?_⟩
   generalize hbz:AccS.bytes ⟨a1,a2,a3,a4,fr,a6⟩=bz at*
   simp (maxSteps:=1000000) (implicitDefEqProofs:=false) only[hO,SRd_eq,go_sem,↓reduceIte]
   refine⟨by omega,by omega,bz++more,⟨rfl,by rw[List.length_append];omega⟩,fun id2 hid2=> ?_⟩
   simp (maxSteps:=1000000) (implicitDefEqProofs:=false) only[hR,ZRd_eq,go_sem,↓reduceIte]
   refine⟨bz++more,⟨a1,a2,a3,a4,fr,a6⟩,more,false,⟨rfl,byt_app bo hc,by rw[List.length_append];omega,e'⟩,?_⟩
   simp (maxSteps:=1000000) (implicitDefEqProofs:=false) only[ea,AccS.v,hmay,hS1,SSm_eq,hS,ZS10_eq,hA,ZAx_eq,go_sem,↓reduceIte]
   refine⟨by omega,by omega,ahead++bz,ahead++bz,⟨rfl,rfl,by rw[List.length_append];omega,by rw[List.length_append];omega⟩,fun _=>⟨⟨a1,a2,a3,a4,fr,a6⟩,⟨a1,a2,a3,a4,fr,a6⟩,⟨rfl,rfl,by dsimp only;omega,by dsimp only;omega⟩,fun _=>h _,fun e=>(by rw[sameA_refl]at e;cases e)⟩,fun e=>absurd rfl e⟩
end Go.Proofs.YtegamlopcdjiaaaDoor.Sha
