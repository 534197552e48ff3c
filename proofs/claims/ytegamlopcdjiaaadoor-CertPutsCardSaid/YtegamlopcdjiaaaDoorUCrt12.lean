/- Certificates: put and read, the law. -/
import Derived.Test.YtegamlopcdjiaaaDoorUCrt11
namespace Go.Proofs.YtegamlopcdjiaaaDoor.Sha
open Go Go.Abs Go.Abs.Sha Go.Abs.Srt
set_option linter.unusedSimpArgs false
set_option linter.unusedVariables false
set_option maxRecDepth 100000
def pf8:PF:=
 PF.mk 3 17 110 ((PC.reg [nn (.v 3) (.box (.v 0)),nn (.v 6) (.mv true (.c (.v (.bool false))))]).seq (((PC.reg [nn (.t 17) (.fadr 1 101 (.v 3)),nn (.t
  18) (.load 1 false (.t 17)),nn (.t 19) (.len (.t 18)),nn (.t 20) (.bin .gtr (.t 19) (.c (.v (.int .i64 30)))),nn (.t 21) (.mv false (.t 20)),gm
  22 1 21 false,⟨.t 23,.len (.t 22),some (.t 21,false)⟩,⟨.t 24,.bin .gtr (.t 23) (.c (.v (.int .i64 200))),some (.t 21,false)⟩,nn (.t 25)
  (.pick (.t 21) (.c (.v (.bool true))) (.t 24)),nn (.t 26) (.mv false (.t 25)),gm 27 2 26 false,⟨.t 28,.len (.t 27),some (.t 26,false)⟩,⟨.t 29,
  .bin .gtr (.t 28) (.c (.v (.int .i64 1500))),some (.t 26,false)⟩,nn (.t 30) (.pick (.t 26) (.c (.v (.bool true))) (.t 29))]).seq (PC.cond (.t 30)
  ((PC.reg [nn (.t 31) (.call 14 []),ma 6 31]).seq PC.ret) PC.skip)).seq ((PC.reg [mm 32 2,nn (.t 33) (.call 29 [.t 32]),ma 7 33]).seq ((PC.reg [mm
  35 7,nn (.t 36) (.call 37 [.t 35]),nn (.t 34) (.mv false (.t 36)),nn (.t 37) (.ext (.t 34) 0),nn (.t 38) (.ext (.t 34) 1),nn (.v 8) (.alloc
  (.agg [.agg [.int .i64 0,.int .i64 0,.int .i64 0,.int .i64 0,.arr .u8 32 [0,0,0,0,0,0,0,0,0,0,0,0,0,0,0,0,0,0,0,0,0,0,0,0,
  0,0,0,0,0,0,0,0],.int .i64 0,.arr .u8 32 [0,0,0,0,0,0,0,0,0,0,0,0,0,0,0,0,0,0,0,0,0,0,0,0,0,0,0,0,0,0,0,0],
  .arr .u8 32 [0,0,0,0,0,0,0,0,0,0,0,0,0,0,0,0,0,0,0,0,0,0,0,0,0,0,0,0,0,0,0,0]],.nils])),nn .no (.store 102 (.v 8)
  (.t 37)),ma 9 38]).seq ((PC.reg [mm 40 2,nn (.t 41) (.build (.agg [.nils,.int .i64 0,.bool false]) [(0,.t 40)]),nn (.t 42) (.call 38 [.t 41]),
  nn (.t 39) (.mv false (.t 42)),nn (.t 43) (.ext (.t 39) 0),nn (.t 44) (.ext (.t 39) 1),nn (.t 45) (.ext (.t 39) 2),nn (.v 10) (.alloc (.agg
  [.nils,.int .i64 0,.bool false])),nn (.v 11) (.alloc (.agg [.agg [.int .i64 0,.int .i64 0,.int .i64 0,.int .i64 0,.arr .u8 32 [0,0,0,0,0,
  0,0,0,0,0,0,0,0,0,0,0,0,0,0,0,0,0,0,0,0,0,0,0,0,0,0,0],.int .i64 0,.arr .u8 32 [0,0,0,0,0,0,0,0,0,0,0,0,0,0,
  0,0,0,0,0,0,0,0,0,0,0,0,0,0,0,0,0,0],.arr .u8 32 [0,0,0,0,0,0,0,0,0,0,0,0,0,0,0,0,0,0,0,0,0,0,0,0,0,0,0,
  0,0,0,0,0]],.nils])),nn .no (.store 3 (.v 10) (.t 43)),nn .no (.store 102 (.v 11) (.t 44)),ma 12 45]).seq (((PC.regD 0 [mm 46 9,mm 47 12,nn
  (.t 48) (.binB .neq (.t 46) (.t 47)),nn (.t 49) (.mv false (.t 48)),⟨.t 50,.load 102 true (.v 8),some (.t 49,false)⟩,⟨.t 51,.load 102 true (.v
  11),some (.t 49,false)⟩,⟨.t 52,.call 18 [.t 50,.t 51],some (.t 49,false)⟩,⟨.t 53,.un .not (.t 52),some (.t 49,false)⟩,nn (.t 54) (.pick
  (.t 49) (.c (.v (.bool true))) (.t 53)),nn (.t 55) (.mv false (.t 54)),gm 56 9 55 false,⟨.t 57,.mv false (.t 56),some (.t 55,false)⟩,gm 58 7
  57 true,⟨.t 59,.call 32 [.t 58],some (.t 57,true)⟩,gm 60 2 57 true,⟨.t 61,.len (.t 60),some (.t 57,true)⟩,⟨.t 62,.fadr 1 1 (.v 10),some
  (.t 57,true)⟩,⟨.t 63,.load 1 false (.t 62),some (.t 57,true)⟩,⟨.t 64,.bin .sub (.t 61) (.t 63),some (.t 57,true)⟩,⟨.t 65,.bin .neq (.t 59)
  (.t 64),some (.t 57,true)⟩,⟨.t 66,.pick (.t 57) (.t 65) (.c (.v (.bool false))),some (.t 55,false)⟩,nn (.t 67) (.pick (.t 55) (.c (.v (.bool
  true))) (.t 66))] []).seq (PC.cond (.t 67) ((PC.reg [nn (.v 6) (.mv true (.c (.v (.bool false))))]).seq PC.ret) PC.skip)).seq ((PC.reg [mm 68 1,nn
  (.t 69) (.load 102 true (.v 3)),nn (.t 70) (.call 39 [.t 68,.t 69]),ma 13 70]).seq (((PC.reg [nn (.t 71) (.load 102 true (.v 3)),nn (.t 72)
  (.call 40 [.t 71]),nn (.t 73) (.un .not (.t 72))]).seq (PC.cond (.t 73) ((PC.reg [mm 74 13,mm 75 1,nn (.t 76) (.call 35 [.t 74,.t 75]),nn (.t
  77) (.mv false (.t 76)),⟨.t 78,.call 14 [],some (.t 77,true)⟩,nn (.t 79) (.pick (.t 77) (.t 78) (.c (.v (.bool false)))),ma 6 79]).seq PC.ret)
  PC.skip)).seq ((PC.reg [nn (.t 80) (.load 102 true (.v 3)),nn (.t 81) (.call 41 [.t 80]),ma 14 81]).seq ((PC.reg [nn (.t 83) (.buildS (some .u8) 1
  (.int .u8 0) 0 []),mm 84 14,nn (.t 85) (.app (some .u8) 1 1 (.t 83) (.t 84)),mm 86 2,nn (.t 87) (.app (some .u8) 1 1 (.t 85) (.t 86)),nn (.t 88)
  (.call 29 [.t 87]),nn (.t 89) (.call 37 [.t 88]),nn (.t 82) (.mv false (.t 89)),nn (.t 90) (.ext (.t 82) 0),nn (.t 91) (.ext (.t 82) 1),nn (.v
  15) (.alloc (.agg [.agg [.int .i64 0,.int .i64 0,.int .i64 0,.int .i64 0,.arr .u8 32 [0,0,0,0,0,0,0,0,0,0,0,0,0,0,0,0,0,0,0,0,
  0,0,0,0,0,0,0,0,0,0,0,0],.int .i64 0,.arr .u8 32 [0,0,0,0,0,0,0,0,0,0,0,0,0,0,0,0,0,0,0,0,0,0,0,0,0,0,0,0,0,
  0,0,0],.arr .u8 32 [0,0,0,0,0,0,0,0,0,0,0,0,0,0,0,0,0,0,0,0,0,0,0,0,0,0,0,0,0,0,0,0]],.nils])),nn .no (.store 102
  (.v 15) (.t 90)),ma 16 91]).seq ((PC.reg [mm 92 13,nn (.t 93) (.buildS (some .u8) 1 (.int .u8 0) 0 []),mm 94 1,nn (.t 95) (.app (some .u8) 1 1
  (.t 93) (.t 94)),mm 96 14,nn (.t 97) (.app (some .u8) 1 1 (.t 95) (.t 96)),nn (.t 98) (.call 35 [.t 92,.t 97]),nn (.t 99) (.mv false (.t 98)),
  gm 100 16 99 true,nn (.t 101) (.pick (.t 99) (.t 100) (.c (.v (.bool false)))),nn (.t 102) (.mv false (.t 101)),⟨.t 103,.load 102 true (.v 15),
  some (.t 102,true)⟩,⟨.t 104,.load 102 true (.v 3),some (.t 102,true)⟩,⟨.t 105,.call 18 [.t 103,.t 104],some (.t 102,true)⟩,nn (.t 106)
  (.pick (.t 102) (.t 105) (.c (.v (.bool false)))),nn (.t 107) (.mv false (.t 106)),⟨.t 108,.call 14 [],some (.t 107,true)⟩,nn (.t 109) (.pick
  (.t 107) (.t 108) (.c (.v (.bool false)))),ma 6 109]).seq PC.ret))))))))))) [(.v 6,none)]
attribute [local irreducible] W Wops WopsD WL Wop WopD
variable {E:Env} {C:Abs.Spec} {l:List (Nat×Spec1)} {G:List (Nat×V)} {Q:R→List (Nat×V)→Prop}
set_option maxHeartbeats 1000000
theorem certR_len {b r:List Int} {c:CertS} {w:Bool} (ok:RdCert b c r):(certR c w).sigs.length < 1000000:=by
 have:=ok.cnt
 unfold certR
 split
 ·omega
 ·exact (by decide:(0:Nat) < 1000000)
theorem walk8 {c:CertS} {ahead more:List Int} (hA:Abs.look l 14=some ZAw) (hO:Abs.look l 29=some SRd) (hR:Abs.look l 37=some ZRc) (hR2:Abs.look l 38=some ZRe) (hS:Abs.look l 18=some ZSn)
  (hL:Abs.look l 32=some SLf) (hP:Abs.look l 39=some ZPc) (hM:Abs.look l 40=some ZMc) (hS1:Abs.look l 35=some SSm) (hB:Abs.look l 41=some ZBc)
  (hw:c.ok) (hb:Byt ahead) (hc:Byt more) (h:∀G',Q (.v (.bool true)) G'):Wf E (specOf l) pf8 [c.v,.sli .u8 ahead,.sli .u8 more] G Q:=by
 obtain⟨⟨a1,a2,a3,a4,a5,a6,a7,a8⟩,sg⟩:=c
 by_cases c1:(30:Int) < sg.length
 ·simp (maxSteps:=1000000) (implicitDefEqProofs:=false) only[pf8,CertS.v,AttS.v,List.length_map,c1,hA,ZAw_eq,go_sem,↓reduceIte]
  exact h _
 by_cases c2:(200:Int) < ahead.length
 ·simp (maxSteps:=1000000) (implicitDefEqProofs:=false) only[pf8,CertS.v,AttS.v,List.length_map,c1,c2,hA,ZAw_eq,go_sem,↓reduceIte]
  exact h _
 by_cases c3:(1500:Int) < more.length
 ·simp (maxSteps:=1000000) (implicitDefEqProofs:=false) only[pf8,CertS.v,AttS.v,List.length_map,c1,c2,c3,hA,ZAw_eq,go_sem,↓reduceIte]
  exact h _
 rcases e:rdCert (more,false)with⟨c0,r,w⟩
 have ok:=rdCert_all e hc
 have hlen:=ok.len
 have hal:=certR_len (w:=w) ok
 have ew:IntKind.i64.wrap ((more.length:Int)-((more.length:Int)-(r.length:Int)))=r.length:=by rw[w64 (by omega) (by omega)];omega
 simp (maxSteps:=1000000) (implicitDefEqProofs:=false) only[pf8,CertS.v,AttS.v,List.length_map,c1,c2,c3,hO,SRd_eq,go_sem,↓reduceIte]
 refine⟨more,⟨rfl,by omega⟩,fun id hid=> ?_⟩
 simp (maxSteps:=1000000) (implicitDefEqProofs:=false) only[hR,ZRc_eq,go_sem,↓reduceIte]
 refine⟨more,c0,r,w,⟨rfl,hc,by omega,e⟩,?_⟩
 rcases ha:certR c0 w with⟨⟨x1,x2,x3,x4,x5,x6,x7,x8⟩,sx⟩
 rw[ha]at hal
 cases hq:(!w&&c0.may)<;>simp (maxSteps:=1000000) (implicitDefEqProofs:=false) only[hR2,ZRe_eq,ha,CertS.v,AttS.v,go_sem,↓reduceIte]<;>(refine⟨c0,r,w,⟨hc,by omega,e⟩,?_⟩)<;>simp (maxSteps:=1000000) (implicitDefEqProofs:=false) only[ha,CertS.v,AttS.v,List.length_map,hq,ew,hS,ZSn_eq,go_sem,↓reduceIte]
 ·refine⟨fun q=>(by rw[q.1,q.2]at hq;cases hq),fun _=>⟨⟨⟨x1,x2,x3,x4,x5,x6,x7,x8⟩,sx⟩,⟨⟨x1,x2,x3,x4,x5,x6,x7,x8⟩,sx⟩,⟨rfl,rfl,hal,hal⟩,fun e=>(by rw[sameC_self]at e;cases e),fun _=> ?_⟩⟩
  simp (maxSteps:=1000000) (implicitDefEqProofs:=false) only[hP,ZPc_eq,go_sem,↓reduceIte]
  refine⟨ahead,⟨⟨a1,a2,a3,a4,a5,a6,a7,a8⟩,sg⟩,⟨rfl,by omega,rfl,hw,by dsimp only;omega⟩,?_⟩
  simp (maxSteps:=1000000) (implicitDefEqProofs:=false) only[hM,ZMc_eq,go_sem,↓reduceIte]
  refine⟨⟨a1,a2,a3,a4,a5,a6,a7,a8⟩,_,sg,⟨rfl,.inl rfl,hw.1,by omega⟩,?_⟩
  cases hmay:CertS.may ⟨⟨a1,a2,a3,a4,a5,a6,a7,a8⟩,sg⟩with
  |false=>
   simp (maxSteps:=1000000) (implicitDefEqProofs:=false) only[hS1,SSm_eq,hA,ZAw_eq,go_sem,↓reduceIte]
   exact⟨ahead,ahead,⟨rfl,rfl,by omega,by omega⟩,fun _=>h _,fun e=>absurd rfl e⟩
  |true=>
   have hm:CertS.May ⟨⟨a1,a2,a3,a4,a5,a6,a7,a8⟩,sg⟩:=of_decide_eq_true hmay
   obtain⟨bo,bl⟩:=CertS.bytes_ok hw hm
   have e':=rdCert_of (r:=more) hw hm
   have ea:certR ⟨⟨a1,a2,a3,a4,a5,a6,a7,a8⟩,sg⟩ false=⟨⟨a1,a2,a3,a4,a5,a6,a7,a8⟩,sg⟩:=by unfold certR;rw[hmay];rfl
   simp (maxSteps:=1000000) (implicitDefEqProofs:=false) only[hB,ZBc_eq,go_sem,↓reduceIte]
   refine⟨⟨⟨a1,a2,a3,a4,a5,a6,a7,a8⟩,sg⟩,⟨rfl,hw,hm⟩,?_⟩
   generalize hbz:CertS.bytes ⟨⟨a1,a2,a3,a4,a5,a6,a7,a8⟩,sg⟩=bz at*
   simp (maxSteps:=1000000) (implicitDefEqProofs:=false) only[hO,SRd_eq,go_sem,↓reduceIte]
   refine⟨by omega,by omega,bz++more,⟨rfl,by rw[List.length_append];omega⟩,fun id2 hid2=> ?_⟩
   simp (maxSteps:=1000000) (implicitDefEqProofs:=false) only[hR,ZRc_eq,go_sem,↓reduceIte]
   refine⟨bz++more,⟨⟨a1,a2,a3,a4,a5,a6,a7,a8⟩,sg⟩,more,false,⟨rfl,byt_app bo hc,by rw[List.length_append];omega,e'⟩,?_⟩
   simp (maxSteps:=1000000) (implicitDefEqProofs:=false) only[ea,CertS.v,AttS.v,List.length_map,hmay,hS1,SSm_eq,hS,ZSn_eq,hA,ZAw_eq,go_sem,↓reduceIte]
   refine⟨by omega,by omega,ahead++bz,ahead++bz,⟨rfl,rfl,by rw[List.length_append];omega,by rw[List.length_append];omega⟩,fun _=>⟨⟨⟨a1,a2,a3,a4,a5,a6,a7,a8⟩,sg⟩,⟨⟨a1,a2,a3,a4,a5,a6,a7,a8⟩,sg⟩,⟨rfl,rfl,by dsimp only;omega,by dsimp only;omega⟩,fun _=>h _,fun e=>(by rw[sameC_self]at e;cases e)⟩,fun e=>absurd rfl e⟩
 ·refine⟨fun q=>(by rcases q with q|q<;>rw[q]at hq<;>simp at hq),fun _=>⟨⟨⟨x1,x2,x3,x4,x5,x6,x7,x8⟩,sx⟩,⟨⟨x1,x2,x3,x4,x5,x6,x7,x8⟩,sx⟩,⟨rfl,rfl,hal,hal⟩,fun e=>(by rw[sameC_self]at e;cases e),fun _=> ?_⟩⟩
  simp (maxSteps:=1000000) (implicitDefEqProofs:=false) only[hL,SLf_eq,go_sem,↓reduceIte]
  refine⟨r,w,rfl,?_⟩
  try simp (maxSteps:=1000000) (implicitDefEqProofs:=false) only[go_sem,↓reduceIte]
  simp (maxSteps:=1000000) (implicitDefEqProofs:=false) only[hP,ZPc_eq,go_sem,↓reduceIte]
  refine⟨ahead,⟨⟨a1,a2,a3,a4,a5,a6,a7,a8⟩,sg⟩,⟨rfl,by omega,rfl,hw,by dsimp only;omega⟩,?_⟩
  simp (maxSteps:=1000000) (implicitDefEqProofs:=false) only[hM,ZMc_eq,go_sem,↓reduceIte]
  refine⟨⟨a1,a2,a3,a4,a5,a6,a7,a8⟩,_,sg,⟨rfl,.inl rfl,hw.1,by omega⟩,?_⟩
  cases hmay:CertS.may ⟨⟨a1,a2,a3,a4,a5,a6,a7,a8⟩,sg⟩with
  |false=>
   simp (maxSteps:=1000000) (implicitDefEqProofs:=false) only[hS1,SSm_eq,hA,ZAw_eq,go_sem,↓reduceIte]
   exact⟨ahead,ahead,⟨rfl,rfl,by omega,by omega⟩,fun _=>h _,fun e=>absurd rfl e⟩
  |true=>
   have hm:CertS.May ⟨⟨a1,a2,a3,a4,a5,a6,a7,a8⟩,sg⟩:=of_decide_eq_true hmay
   obtain⟨bo,bl⟩:=CertS.bytes_ok hw hm
   have e':=rdCert_of (r:=more) hw hm
   have ea:certR ⟨⟨a1,a2,a3,a4,a5,a6,a7,a8⟩,sg⟩ false=⟨⟨a1,a2,a3,a4,a5,a6,a7,a8⟩,sg⟩:=by unfold certR;rw[hmay];rfl
   simp (maxSteps:=1000000) (implicitDefEqProofs:=false) only[hB,ZBc_eq,go_sem,↓reduceIte]
   refine⟨⟨⟨a1,a2,a3,a4,a5,a6,a7,a8⟩,sg⟩,⟨rfl,hw,hm⟩,?_⟩
   generalize hbz:CertS.bytes ⟨⟨a1,a2,a3,a4,a5,a6,a7,a8⟩,sg⟩=bz at*
   simp (maxSteps:=1000000) (implicitDefEqProofs:=false) only[hO,SRd_eq,go_sem,↓reduceIte]
   refine⟨by omega,by omega,bz++more,⟨rfl,by rw[List.length_append];omega⟩,fun id2 hid2=> ?_⟩
   simp (maxSteps:=1000000) (implicitDefEqProofs:=false) only[hR,ZRc_eq,go_sem,↓reduceIte]
   refine⟨bz++more,⟨⟨a1,a2,a3,a4,a5,a6,a7,a8⟩,sg⟩,more,false,⟨rfl,byt_app bo hc,by rw[List.length_append];omega,e'⟩,?_⟩
   simp (maxSteps:=1000000) (implicitDefEqProofs:=false) only[ea,CertS.v,AttS.v,List.length_map,hmay,hS1,SSm_eq,hS,ZSn_eq,hA,ZAw_eq,go_sem,↓reduceIte]
   refine⟨by omega,by omega,ahead++bz,ahead++bz,⟨rfl,rfl,by rw[List.length_append];omega,by rw[List.length_append];omega⟩,fun _=>⟨⟨⟨a1,a2,a3,a4,a5,a6,a7,a8⟩,sg⟩,⟨⟨a1,a2,a3,a4,a5,a6,a7,a8⟩,sg⟩,⟨rfl,rfl,by dsimp only;omega,by dsimp only;omega⟩,fun _=>h _,fun e=>(by rw[sameC_self]at e;cases e)⟩,fun e=>absurd rfl e⟩
end Go.Proofs.YtegamlopcdjiaaaDoor.Sha
