/- Laws over plain values, and what functions of the program hand back; no conditions. -/
import Derived.Test.YtegamlopcdjiaaaG11
namespace Go.Proofs.Ytegamlopcdjiaaa.Sha
open Go Go.Abs Go.Abs.Sha Go.Abs.Srt
set_option linter.unusedSimpArgs false
set_option linter.unusedVariables false
set_option maxRecDepth 100000
def pf32:PF:=
 PF.mk 1 8 69 ((PC.reg [nn (.v 1) (.box (.v 0)),nn (.v 2) (.mv true (.c (.own .nils)))]).seq (((PC.reg [nn (.v 6) (.fadr 0 0 (.v 1)),nn (.v 7) (.load
  1 false (.v 6))]).seq (PC.block 0 (((PC.reg [nn (.t 9) (.bin .eql (.v 7) (.c (.v (.int .i64 1)))),nn (.t 8) (.mv true (.t 9))]).seq (PC.cond (.t 8)
  PC.skip ((PC.reg [nn (.t 10) (.bin .eql (.v 7) (.c (.v (.int .i64 3)))),nn (.t 8) (.mv true (.t 10))]).seq (PC.cond (.t 8) PC.skip (PC.reg [nn (.t
  11) (.bin .eql (.v 7) (.c (.v (.int .i64 5)))),nn (.t 8) (.mv true (.t 11))]))))).seq (PC.cond (.t 8) ((PC.reg [nn (.t 12) (.fadr 3 3 (.v 1)),nn
  (.t 13) (.load 101 true (.t 12)),nn (.t 14) (.call 80 [.c (.own .nils),.t 13]),ma 2 14]).seq PC.ret) (((PC.reg [nn (.t 16) (.bin .eql (.v 7) (.c
  (.v (.int .i64 4)))),nn (.t 15) (.mv true (.t 16))]).seq (PC.cond (.t 15) PC.skip (PC.reg [nn (.t 17) (.bin .eql (.v 7) (.c (.v (.int .i64 6)))),nn
  (.t 15) (.mv true (.t 17))]))).seq (PC.cond (.t 15) ((PC.reg [nn (.t 18) (.fadr 4 104 (.v 1)),nn (.t 19) (.load 102 true (.t 18)),nn (.t 20) (.call
  81 [.c (.own .nils),.t 19]),ma 2 20]).seq PC.ret) ((PC.reg [nn (.t 22) (.bin .eql (.v 7) (.c (.v (.int .i64 7)))),nn (.t 21) (.mv true (.t
  22))]).seq (PC.cond (.t 21) ((PC.reg [nn (.t 23) (.fadr 7 310 (.v 1)),nn (.t 24) (.load 32 true (.t 23)),nn (.t 25) (.call 82 [.c (.own .nils),.t
  24]),ma 2 25]).seq PC.ret) ((PC.reg [nn (.t 27) (.bin .eql (.v 7) (.c (.v (.int .i64 9)))),nn (.t 26) (.mv true (.t 27))]).seq (PC.cond (.t 26)
  ((PC.reg [nn (.t 28) (.fadr 8 342 (.v 1)),nn (.t 29) (.load 7 true (.t 28)),nn (.t 30) (.call 83 [.c (.own .nils),.t 29]),ma 2 30]).seq PC.ret)
  ((PC.reg [nn (.t 32) (.bin .eql (.v 7) (.c (.v (.int .i64 10)))),nn (.t 31) (.mv true (.t 32))]).seq (PC.cond (.t 31) ((PC.reg [nn (.t 33) (.fadr 5
  206 (.v 1)),nn (.t 34) (.load 68 true (.t 33)),nn (.t 35) (.call 84 [.c (.own .nils),.t 34]),ma 2 35]).seq PC.ret) (((PC.reg [nn (.t 37) (.bin
  .eql (.v 7) (.c (.v (.int .i64 2)))),nn (.t 36) (.mv true (.t 37))]).seq (PC.cond (.t 36) PC.skip (PC.reg [nn (.t 38) (.bin .eql (.v 7) (.c (.v
  (.int .i64 8)))),nn (.t 36) (.mv true (.t 38))]))).seq (PC.cond (.t 36) ((PC.reg [nn (.t 40) (.fadr 6 274 (.v 1)),nn (.t 41) (.load 36 true (.t
  40)),nn (.t 42) (.call 85 [.t 41]),nn (.t 39) (.mv false (.t 42)),nn (.t 43) (.ext (.t 39) 0),nn (.t 44) (.ext (.t 39) 1),ma 3 43,ma 4 44]).seq
  ((PC.reg [nn (.t 45) (.fadr 5 206 (.v 1)),nn (.t 46) (.load 68 true (.t 45)),nn (.t 47) (.call 84 [.c (.own .nils),.t 46]),ma 5 47]).seq
  (((PC.reg [mm 48 4,nn (.t 49) (.bin .neq (.t 48) (.c (.v (.int .i64 0)))),nn (.t 50) (.mv false (.t 49)),⟨.t 51,.fadr 6 274 (.v 1),some (.t 50,
  false)⟩,⟨.t 52,.fadr 1 32 (.t 51),some (.t 50,false)⟩,⟨.t 53,.load 1 false (.t 52),some (.t 50,false)⟩,⟨.t 54,.bin .eql (.t 53) (.c (.v
  (.int .i64 0))),some (.t 50,false)⟩,nn (.t 55) (.pick (.t 50) (.c (.v (.bool true))) (.t 54)),nn (.t 56) (.mv false (.t 55)),⟨.t 57,.fadr 0 0
  (.v 1),some (.t 56,false)⟩,⟨.t 58,.load 1 false (.t 57),some (.t 56,false)⟩,⟨.t 59,.bin .eql (.t 58) (.c (.v (.int .i64 2))),some (.t 56,
  false)⟩,gm 60 5 56 false,⟨.t 61,.len (.t 60),some (.t 56,false)⟩,⟨.t 62,.bin .gtr (.t 61) (.c (.v (.int .i64 0))),some (.t 56,false)⟩,⟨.t
  63,.binB .neq (.t 59) (.t 62),some (.t 56,false)⟩,nn (.t 64) (.pick (.t 56) (.c (.v (.bool true))) (.t 63))]).seq (PC.cond (.t 64) ((PC.reg [nn
  (.v 2) (.mv true (.c (.own .nils)))]).seq PC.ret) PC.skip)).seq ((PC.reg [mm 65 3,nn (.t 66) (.call 86 [.c (.own .nils),.t 65]),mm 67 5,nn (.t
  68) (.app (some .u8) 1 1 (.t 66) (.t 67)),ma 2 68]).seq PC.ret)))) PC.skip)))))))))))))).seq ((PC.reg [nn (.v 2) (.mv true (.c (.own .nils)))]).seq
  PC.ret))) [(.v 2,none)]
def pf11:PF:=
 PF.mk 1 3 46 ((PC.reg [nn (.v 1) (.box (.v 0)),nn (.v 2) (.mv true (.c (.v (.int .i64 0))))]).seq (((PC.regD 0 [nn (.t 3) (.fadr 1 1 (.v 1)),nn (.t
  4) (.load 1 false (.t 3)),nn (.t 5) (.call 38 [.t 4]),nn (.t 6) (.un .not (.t 5)),nn (.t 7) (.mv false (.t 6)),⟨.t 8,.fadr 2 2 (.v 1),some (.t
  7,false)⟩,⟨.t 9,.load 1 false (.t 8),some (.t 7,false)⟩,⟨.t 10,.call 38 [.t 9],some (.t 7,false)⟩,⟨.t 11,.un .not (.t 10),some (.t 7,
  false)⟩,nn (.t 12) (.pick (.t 7) (.c (.v (.bool true))) (.t 11)),nn (.t 13) (.mv false (.t 12)),⟨.t 14,.fadr 1 1 (.v 1),some (.t 13,false)⟩,
  ⟨.t 15,.load 1 false (.t 14),some (.t 13,false)⟩,⟨.t 16,.fadr 2 2 (.v 1),some (.t 13,false)⟩,⟨.t 17,.load 1 false (.t 16),some (.t 13,
  false)⟩,⟨.t 18,.bin .eql (.t 15) (.t 17),some (.t 13,false)⟩,nn (.t 19) (.pick (.t 13) (.c (.v (.bool true))) (.t 18)),nn (.t 20) (.mv false
  (.t 19)),⟨.t 21,.load 349 true (.v 1),some (.t 20,false)⟩,⟨.t 22,.load 349 true (.v 1),some (.t 20,false)⟩,⟨.t 23,.call 39 [.t 22],some
  (.t 20,false)⟩,⟨.t 24,.call 12 [.t 21,.t 23],some (.t 20,false)⟩,⟨.t 25,.un .not (.t 24),some (.t 20,false)⟩,nn (.t 26) (.pick (.t 20) (.c
  (.v (.bool true))) (.t 25)),nn (.t 27) (.mv false (.t 26)),⟨.t 28,.load 349 true (.v 1),some (.t 27,false)⟩,⟨.t 29,.call 32 [.t 28],some (.t
  27,false)⟩,⟨.t 30,.len (.t 29),some (.t 27,false)⟩,⟨.t 31,.bin .eql (.t 30) (.c (.v (.int .i64 0))),some (.t 27,false)⟩,nn (.t 32) (.pick
  (.t 27) (.c (.v (.bool true))) (.t 31)),nn (.t 33) (.mv false (.t 32)),⟨.t 34,.fadr 3 3 (.v 1),some (.t 33,false)⟩,⟨.t 35,.fadr 1 1 (.t 34),
  some (.t 33,false)⟩,⟨.t 36,.load 1 false (.t 35),some (.t 33,false)⟩,⟨.t 37,.fadr 4 104 (.v 1),some (.t 33,false)⟩,⟨.t 38,.fadr 0 0 (.t
  37),some (.t 33,false)⟩,⟨.t 39,.fadr 1 1 (.t 38),some (.t 33,false)⟩,⟨.t 40,.load 1 false (.t 39),some (.t 33,false)⟩,⟨.t 41,.bin .add
  (.t 36) (.t 40),some (.t 33,false)⟩,⟨.t 42,.load 349 true (.v 1),some (.t 33,false)⟩,⟨.t 43,.call 40 [.t 42],some (.t 33,false)⟩,⟨.t 44,
  .bin .neq (.t 41) (.t 43),some (.t 33,false)⟩,nn (.t 45) (.pick (.t 33) (.c (.v (.bool true))) (.t 44))] []).seq (PC.cond (.t 45) ((PC.reg [nn (.v
  2) (.mv true (.c (.v (.int .i64 1))))]).seq PC.ret) PC.skip)).seq ((PC.reg [nn (.v 2) (.mv true (.c (.v (.int .i64 0))))]).seq PC.ret))) [(.v 2,
  none)]
def pf9:PF:=
 PF.mk 1 6 27 ((PC.reg [nn (.v 1) (.box (.v 0)),nn (.v 2) (.mv true (.c (.own .nils))),nn (.v 3) (.mv true (.c (.v (.int .i64 0))))]).seq (((PC.reg
  [nn (.t 6) (.load 349 true (.v 1)),nn (.t 7) (.call 11 [.t 6]),ma 4 7]).seq ((PC.reg [mm 8 4,nn (.t 9) (.bin .neq (.t 8) (.c (.v (.int .i64
  0))))]).seq (PC.cond (.t 9) ((PC.reg [mm 10 4,nn (.v 2) (.mv true (.c (.own .nils))),ma 3 10]).seq PC.ret) PC.skip))).seq ((PC.regD 0 [nn (.t 11)
  (.fadr 0 0 (.v 1)),nn (.t 12) (.load 1 false (.t 11)),nn (.t 13) (.conv .u64 (.t 12)),nn (.t 14) (.call 31 [.c (.own .nils),.t 13]),nn (.t 15)
  (.fadr 1 1 (.v 1)),nn (.t 16) (.load 1 false (.t 15)),nn (.t 17) (.conv .u64 (.t 16)),nn (.t 18) (.call 31 [.t 14,.t 17]),nn (.t 19) (.fadr 2 2
  (.v 1)),nn (.t 20) (.load 1 false (.t 19)),nn (.t 21) (.conv .u64 (.t 20)),nn (.t 22) (.call 31 [.t 18,.t 21]),ma 5 22] []).seq ((PC.reg [nn (.t
  23) (.mv true (.v 5)),nn (.t 24) (.load 349 true (.v 1)),nn (.t 25) (.call 32 [.t 24]),nn (.t 26) (.app (some .u8) 1 1 (.t 23) (.t 25)),ma 2 26,
  nn (.v 3) (.mv true (.c (.v (.int .i64 0))))]).seq PC.ret)))) [(.v 2,none),(.v 3,none)]
attribute [local irreducible] W Wops WopsD WL Wop WopD
variable {E:Env} {C:Abs.Spec} {l:List (Nat×Spec1)} {G:List (Nat×V)} {Q:R→List (Nat×V)→Prop}
set_option maxHeartbeats 1000000
theorem low_own {l:List Int} (h:l=[]):Low G (.own .nils) G (.own (.sli .u8 l)) G:=by subst h;exact .wk (by unfold R.Wk;exact .inr (.inr ⟨rfl,_,rfl,wk_nili⟩)) (WkG.refl _) (.refl _ _)
theorem txt_len {b:List Int} (h:b.length < 1000000):(txt b).length≤b.length+10:=by
 have:=(num_ok (n:=b.length) (by omega)).2
 unfold txt;rw[List.length_append];omega
def ZBo:Spec1
 |[x],G,Q=>∃m:MsgS,(V.Wk x m.v∧m.ok)∧Q (.own (.sli .u8 m.body)) G
 |_,_,_=>False
theorem ZBo_eq {x}:ZBo [x] G Q=(∃m:MsgS,(V.Wk x m.v∧m.ok)∧Q (.own (.sli .u8 m.body)) G):=rfl
theorem walk32 {m:MsgS} (hA:Abs.look l 80=some SAp) (hC:Abs.look l 81=some ZPc) (hH:Abs.look l 82=some SHa) (hT:Abs.look l 83=some ZPt) (hX:Abs.look l 84=some ZPu) (hB:Abs.look l 85=some ZBp) (hO:Abs.look l 86=some ZTt)
  (ok:m.ok) (h:Q (.own (.sli .u8 m.body)) G):Wf E (specOf l) pf32 [m.v] G (fun r G'=>∃r2 G2,Low G r G' r2 G2∧Q r2 G2):=by
 have fin:∀l,m.body=l→∃r2 G2,Low G (.own (.sli .u8 l)) G r2 G2∧Q r2 G2:=fun l e=>⟨_,_,.refl _ _,by rw[←e];exact h⟩
 have fin0:m.body=[]→∃r2 G2,Low G (.own .nils) G r2 G2∧Q r2 G2:=fun e=>⟨_,_,low_own e,h⟩
 clear h
 obtain⟨o1,o2,o3,o4,o5,o6,o7,o8,o9⟩:=ok
 obtain⟨k,f,t,a,c,x,b,hh,y⟩:=m
 dsimp only at o1 o2 o3 o4 o5 o6 o7 o8 o9
 obtain⟨z1,z2⟩:=CertS.vs c
 obtain⟨z5,z6⟩:=AccS.vs x
 obtain⟨z9,z10⟩:=BlkS.vs b
 obtain⟨z11,z12⟩:=TxS.vs y
 have lh:hh.length=32:=o7.2
 unfold V.isAgg at z2 z6 z10 z12
 obtain⟨a1,a2,a3,a4,a5,a6,a7,a8⟩:=a
 by_cases k1:k=1
 ·subst k1
  simp -implicitDefEqProofs only[pf32,MsgS.v,AttS.v,z1,z2,z5,z6,z9,z10,z11,z12,hA,SAp_eq,go_sem,↓reduceIte]
  exact⟨[],⟨rfl,by decide,o1⟩,fin _ rfl⟩
 by_cases k3:k=3
 ·subst k3
  simp -implicitDefEqProofs only[pf32,MsgS.v,AttS.v,z1,z2,z5,z6,z9,z10,z11,z12,hA,SAp_eq,go_sem,↓reduceIte]
  exact⟨[],⟨rfl,by decide,o1⟩,fin _ rfl⟩
 by_cases k5:k=5
 ·subst k5
  simp -implicitDefEqProofs only[pf32,MsgS.v,AttS.v,z1,z2,z5,z6,z9,z10,z11,z12,hA,SAp_eq,go_sem,↓reduceIte]
  exact⟨[],⟨rfl,by decide,o1⟩,fin _ rfl⟩
 by_cases k4:k=4
 ·subst k4
  simp -implicitDefEqProofs only[pf32,MsgS.v,AttS.v,z1,z2,z5,z6,z9,z10,z11,z12,hC,ZPc_eq,go_sem,↓reduceIte]
  exact⟨[],c,⟨rfl,by decide,rfl,o2,o3⟩,fin _ rfl⟩
 by_cases k6:k=6
 ·subst k6
  simp -implicitDefEqProofs only[pf32,MsgS.v,AttS.v,z1,z2,z5,z6,z9,z10,z11,z12,hC,ZPc_eq,go_sem,↓reduceIte]
  exact⟨[],c,⟨rfl,by decide,rfl,o2,o3⟩,fin _ rfl⟩
 by_cases k7:k=7
 ·subst k7
  simp -implicitDefEqProofs only[pf32,MsgS.v,AttS.v,z1,z2,z5,z6,z9,z10,z11,z12,lh,hH,SHa_eq,go_sem,↓reduceIte]
  exact⟨[],⟨rfl,by decide⟩,fin _ rfl⟩
 by_cases k9:k=9
 ·subst k9
  simp -implicitDefEqProofs only[pf32,MsgS.v,AttS.v,z1,z2,z5,z6,z9,z10,z11,z12,hT,ZPt_eq,go_sem,↓reduceIte]
  exact⟨[],y,⟨rfl,by decide,rfl,o8,o9⟩,fin _ rfl⟩
 by_cases k10:k=10
 ·subst k10
  simp -implicitDefEqProofs only[pf32,MsgS.v,AttS.v,z1,z2,z5,z6,z9,z10,z11,z12,hX,ZPu_eq,go_sem,↓reduceIte]
  exact⟨[],x,⟨rfl,by decide,rfl,o4,o5⟩,fin _ rfl⟩
 by_cases k2:k=2
 ·subst k2
  obtain⟨b1,b2,b3,b4,b5⟩:=b
  have px:=AccS.bytes_pos x
  cases bm:(⟨b1,b2,b3,b4,b5⟩:BlkS).may with
  |false=>
   simp -implicitDefEqProofs only[pf32,MsgS.v,AttS.v,z1,z2,z5,z6,z9,z10,z11,z12,BlkS.v,hB,ZBp_eq,hX,ZPu_eq,go_sem,↓reduceIte]
   refine⟨⟨b1,b2,b3,b4,b5⟩,_,⟨rfl,.inl rfl,o6.2,o6.1⟩,?_⟩
   simp -implicitDefEqProofs only[bm,hX,ZPu_eq,go_sem,↓reduceIte]
   refine⟨[],x,⟨rfl,by decide,rfl,o4,o5⟩,?_⟩
   exact fin0 (by simp[MsgS.body,bm])
  |true=>
   have bl:=(BlkS_bytes_ok (b:=⟨b1,b2,b3,b4,b5⟩) o6.1 (of_decide_eq_true bm)).2
   have tl:=txt_len (b:=(⟨b1,b2,b3,b4,b5⟩:BlkS).bytes) (by omega)
   cases xm:x.may with
   |false=>
    simp -implicitDefEqProofs only[pf32,MsgS.v,AttS.v,z1,z2,z5,z6,z9,z10,z11,z12,BlkS.v,hB,ZBp_eq,hX,ZPu_eq,go_sem,↓reduceIte]
    refine⟨⟨b1,b2,b3,b4,b5⟩,_,⟨rfl,.inl rfl,o6.2,o6.1⟩,?_⟩
    simp -implicitDefEqProofs only[bm,hX,ZPu_eq,go_sem,↓reduceIte]
    refine⟨[],x,⟨rfl,by decide,rfl,o4,o5⟩,?_⟩
    simp -implicitDefEqProofs only[bm,xm,hO,ZTt_eq,go_sem,↓reduceIte]
    exact⟨fun h0=>fin0 (by simp[MsgS.body,xm]),fun h0=>fin0 (by simp[MsgS.body,xm])⟩
   |true=>
    have xl:=(AccS.bytes_ok o4 (of_decide_eq_true xm)).2
    simp -implicitDefEqProofs only[pf32,MsgS.v,AttS.v,z1,z2,z5,z6,z9,z10,z11,z12,BlkS.v,hB,ZBp_eq,hX,ZPu_eq,go_sem,↓reduceIte]
    refine⟨⟨b1,b2,b3,b4,b5⟩,_,⟨rfl,.inl rfl,o6.2,o6.1⟩,?_⟩
    simp -implicitDefEqProofs only[bm,hX,ZPu_eq,go_sem,↓reduceIte]
    refine⟨[],x,⟨rfl,by decide,rfl,o4,o5⟩,?_⟩
    simp -implicitDefEqProofs only[bm,xm,hO,ZTt_eq,go_sem,↓reduceIte]
    exact⟨fun h0=>fin0 (by simp[MsgS.body,h0]),fun h0=>⟨fun hl=>absurd hl (by omega),fun _=>⟨[],⟨rfl,by decide,by omega⟩,by simp only[List.length_nil];omega,fin _ (by simp[MsgS.body,bm,xm,h0])⟩⟩⟩
 by_cases k8:k=8
 ·subst k8
  obtain⟨b1,b2,b3,b4,b5⟩:=b
  have px:=AccS.bytes_pos x
  cases bm:(⟨b1,b2,b3,b4,b5⟩:BlkS).may with
  |false=>
   simp -implicitDefEqProofs only[pf32,MsgS.v,AttS.v,z1,z2,z5,z6,z9,z10,z11,z12,BlkS.v,hB,ZBp_eq,hX,ZPu_eq,go_sem,↓reduceIte]
   refine⟨⟨b1,b2,b3,b4,b5⟩,_,⟨rfl,.inl rfl,o6.2,o6.1⟩,?_⟩
   simp -implicitDefEqProofs only[bm,hX,ZPu_eq,go_sem,↓reduceIte]
   refine⟨[],x,⟨rfl,by decide,rfl,o4,o5⟩,?_⟩
   exact fin0 (by simp[MsgS.body,bm])
  |true=>
   have bl:=(BlkS_bytes_ok (b:=⟨b1,b2,b3,b4,b5⟩) o6.1 (of_decide_eq_true bm)).2
   have tl:=txt_len (b:=(⟨b1,b2,b3,b4,b5⟩:BlkS).bytes) (by omega)
   cases xm:x.may with
   |false=>
    simp -implicitDefEqProofs only[pf32,MsgS.v,AttS.v,z1,z2,z5,z6,z9,z10,z11,z12,BlkS.v,hB,ZBp_eq,hX,ZPu_eq,go_sem,↓reduceIte]
    refine⟨⟨b1,b2,b3,b4,b5⟩,_,⟨rfl,.inl rfl,o6.2,o6.1⟩,?_⟩
    simp -implicitDefEqProofs only[bm,hX,ZPu_eq,go_sem,↓reduceIte]
    refine⟨[],x,⟨rfl,by decide,rfl,o4,o5⟩,?_⟩
    simp -implicitDefEqProofs only[bm,xm,hO,ZTt_eq,go_sem,↓reduceIte]
    exact⟨fun h0=>fin0 (by simp[MsgS.body,h0]),fun h0=>⟨[],⟨rfl,by decide,by omega⟩,by simp only[List.length_nil];omega,fin _ (by simp[MsgS.body,bm,xm,h0])⟩⟩
   |true=>
    have xl:=(AccS.bytes_ok o4 (of_decide_eq_true xm)).2
    simp -implicitDefEqProofs only[pf32,MsgS.v,AttS.v,z1,z2,z5,z6,z9,z10,z11,z12,BlkS.v,hB,ZBp_eq,hX,ZPu_eq,go_sem,↓reduceIte]
    refine⟨⟨b1,b2,b3,b4,b5⟩,_,⟨rfl,.inl rfl,o6.2,o6.1⟩,?_⟩
    simp -implicitDefEqProofs only[bm,hX,ZPu_eq,go_sem,↓reduceIte]
    refine⟨[],x,⟨rfl,by decide,rfl,o4,o5⟩,?_⟩
    simp -implicitDefEqProofs only[bm,xm,hO,ZTt_eq,go_sem,↓reduceIte]
    exact⟨fun h0=>fin0 (by simp[MsgS.body,h0]),fun h0=>⟨fun _=>fin0 (by simp[MsgS.body,xm]),fun hl=>absurd hl (by omega)⟩⟩
 simp -implicitDefEqProofs only[pf32,MsgS.v,AttS.v,z1,z2,z5,z6,z9,z10,z11,z12,k1,k2,k3,k4,k5,k6,k7,k8,k9,k10,go_sem,↓reduceIte]
 exact fin0 (by simp[MsgS.body,k1,k2,k3,k4,k5,k6,k7,k8,k9,k10])
def ZCh:Spec1
 |[x],G,Q=>∃m:MsgS,(V.Wk x m.v∧m.ok)∧Q (.v (.int .i64 (if m.may=true then 0 else 1))) G
 |_,_,_=>False
theorem ZCh_eq {x}:ZCh [x] G Q=(∃m:MsgS,(V.Wk x m.v∧m.ok)∧Q (.v (.int .i64 (if m.may=true then 0 else 1))) G):=rfl
theorem sum_kind {m:MsgS} (hn:m=m.named):m.at_.ki=0∨m.ce.att.ki=0:=by
 obtain⟨k,f,t,a,c,x,b,hh,y⟩:=m
 unfold MsgS.named MsgS.bare at hn
 dsimp only at hn⊢
 repeat' split at hn
 all_goals (simp only[MsgS.mk.injEq]at hn;obtain⟨_,_,_,e1,e2,_⟩:=hn;first|(rw[e1];exact .inl rfl)|(rw[e2];exact .inr rfl))
theorem wsum {a b:Int} (h:a=0∨b=0) (ha:I64 a) (hb:I64 b):IntKind.i64.wrap (a+b)=a+b:=by
 unfold I64 at ha hb
 rcases h with rfl|rfl
 ·rw[Int.zero_add];exact w64 hb.1 hb.2
 ·rw[Int.add_zero];exact w64 ha.1 ha.2
theorem walk11 {m:MsgS} (hN:Abs.look l 38=some SNo) (hD:Abs.look l 39=some ZNm) (hS:Abs.look l 12=some ZMs) (hB:Abs.look l 32=some ZBo) (hK:Abs.look l 40=some ZKi)
  (ok:m.ok) (h:Q (.v (.int .i64 (if m.may=true then 0 else 1))) G):Wf E (specOf l) pf11 [m.v] G Q:=by
 have yes:m.May→Q (.v (.int .i64 0)) G:=fun e=>by
  have:m.may=true:=decide_eq_true e
  rw[this]at h;exact h
 have no:¬m.May→Q (.v (.int .i64 1)) G:=fun e=>by
  have:m.may=false:=decide_eq_false e
  rw[this]at h;exact h
 clear h
 have hi:=MsgS.may_iff (m:=m) ok.ha.2
 have hsk:=sum_kind (m:=m)
 have hkd:kindM m.ki=(if m.ki=1 then 1 else if m.ki=3∨m.ki=4 then 2 else if m.ki=5∨m.ki=6 then 3 else 0):=rfl
 rw[←hkd]at hi
 have hmm:m.May↔((1≤m.fr∧m.fr≤21)∧(1≤m.to∧m.to≤21)∧m.fr≠m.to)∧m.has=true∧m=m.named:=Iff.rfl
 have shm:=ok.sh
 have shn:MsgS.sh m.named:=by
  unfold MsgS.sh MsgS.named MsgS.bare
  obtain⟨q1,q2,q3⟩:=shm
  repeat' split
  all_goals exact⟨by first|exact q1|exact (show CertS.zero.sigs.length < 1000000 by decide),by first|exact q2|exact (show AccS.zero.fr.length < 1000000 by decide),by first|exact q3|exact (show BlkS.zero.txs.length < 1000000 by decide)⟩
 have hv:m.v= .agg [.int .i64 m.ki,.int .i64 m.fr,.int .i64 m.to,.agg [.int .i64 m.at_.who,.int .i64 m.at_.ki,.int .i64 m.at_.vi,.int .i64 m.at_.ph,.arr .u8 32 m.at_.ha,.int .i64 m.at_.pv,.arr .u8 32 m.at_.pa,.arr .u8 32 m.at_.ta],.agg [.agg [.int .i64 m.ce.att.who,.int .i64 m.ce.att.ki,.int .i64 m.ce.att.vi,.int .i64 m.ce.att.ph,.arr .u8 32 m.ce.att.ha,.int .i64 m.ce.att.pv,.arr .u8 32 m.ce.att.pa,.arr .u8 32 m.ce.att.ta],.sle 33 (m.ce.sigs.map sgV)],m.ac.v,m.bl.v,.arr .u8 32 m.ha,m.tx.v]:=rfl
 have hvw:∀x,x=m.v→V.Wk x m.v:=fun x e=>by rw[e];exact V.Wk.refl _
 have nb:∃q,m.body=q∧q.length=m.body.length:=⟨_,rfl,rfl⟩
 rw[hv]at hvw⊢
 obtain⟨z5,z6⟩:=AccS.vs m.ac
 obtain⟨z9,z10⟩:=BlkS.vs m.bl
 obtain⟨z11,z12⟩:=TxS.vs m.tx
 obtain⟨z13,z14⟩:=MsgS.vs m
 unfold V.isAgg at z6 z10 z12 z14
 simp -implicitDefEqProofs only[pf11,hN,SNo_eq,hD,ZNm_eq,hS,ZMs_eq,hB,ZBo_eq,hK,ZKi_eq,z5,z6,z9,z10,z11,z12,z13,z14,go_sem,↓reduceIte]
 refine⟨fun e1=>no fun e=>e1 e.1.1,fun e1=>⟨fun e2=>no fun e=>e2 e.1.2.1,fun e2=>⟨fun e3=>no fun e=>e.1.2.2 e3,fun e3=>⟨m,hvw _ rfl,m,m.named,⟨hvw _ rfl,V.Wk.refl _,shm,shn⟩,fun e4=>no fun e=>e4 e.2.2,fun e4=>⟨m,⟨hvw _ rfl,ok⟩,fun e5=>no fun e=> ?_,fun e5=>⟨m,hvw _ rfl,fun e6=>no fun e=> ?_,fun e6=>yes ?_⟩⟩⟩⟩⟩⟩
 ·have:=((hi e.2.2).1 e.2.1).1
  omega
 ·have h1:=((hi e.2.2).1 e.2.1).2
  apply e6
  rw[←h1]
  exact wsum (hsk e.2.2) ok.at_.ki ok.ce.1.ki
 ·have hw:IntKind.i64.wrap (m.at_.ki+m.ce.att.ki)=m.at_.ki+m.ce.att.ki:=wsum (hsk e4) ok.at_.ki ok.ce.1.ki
  rw[hw]at e6
  exact⟨⟨e1,e2,e3⟩,(hi e4).2 ⟨by omega,e6⟩,e4⟩
theorem MsgS.body_ok {m:MsgS} (ok:m.ok) (hm:m.has=true):Byt m.body∧m.body.length≤5000:=by
 obtain⟨o1,o2,o3,o4,o5,o6,o7,o8,o9⟩:=ok
 obtain⟨k,f,t,a,c,x,b,hh,y⟩:=m
 dsimp only at o1 o2 o3 o4 o5 o6 o7 o8 o9
 have ha:a.may=true→Byt a.bytes∧a.bytes.length≤5000:=fun h=>by
  obtain⟨s1,s2⟩:=AttS.said_ok o1 (of_decide_eq_true h)
  have hw:=(of_decide_eq_true h:a.May).1
  obtain⟨r1,n1⟩:=num_ok (n:=a.who.toNat) (by omega)
  have:=o1.ta.2
  exact⟨byt_app (byt_app r1 s1) o1.ta.1,by unfold AttS.bytes;simp only[List.length_append];omega⟩
 have hc:c.may=true→Byt c.bytes∧c.bytes.length≤5000:=fun h=>by
  obtain⟨s1,s2⟩:=CertS.bytes_ok o2 (of_decide_eq_true h);exact⟨s1,by omega⟩
 have hx:x.may=true→Byt x.bytes∧x.bytes.length≤400:=fun h=>AccS.bytes_ok o4 (of_decide_eq_true h)
 have hb:b.may=true→Byt b.bytes∧b.bytes.length≤3000:=fun h=>BlkS_bytes_ok o6.1 (of_decide_eq_true h)
 have hy:y.may=true→Byt y.bytes∧y.bytes.length≤5000:=fun h=>by
  obtain⟨s1,s2,_⟩:=TxS.bytes_ok (of_decide_eq_true h);exact⟨s1,by omega⟩
 have n0:Byt ([]:List Int)∧([]:List Int).length≤5000:=⟨byt_nil,by decide⟩
 have htx:b.may=true→Byt (txt b.bytes)∧(txt b.bytes).length≤3010:=fun h=>by
  obtain⟨s1,s2⟩:=hb h
  have:=txt_len (b:=b.bytes) (by omega)
  exact⟨byt_app (num_ok (by omega)).1 s1,by omega⟩
 unfold MsgS.body
 dsimp only
 split
 ·split
  ·rename_i h;exact ha h
  ·exact n0
 split
 ·split
  ·rename_i h;exact hc h
  ·exact n0
 split
 ·exact⟨o7.1,by have:=o7.2;omega⟩
 split
 ·split
  ·rename_i h;exact hy h
  ·exact n0
 split
 ·split
  ·rename_i h;obtain⟨s1,s2⟩:=hx h;exact⟨s1,by omega⟩
  ·exact n0
 split
 ·split
  ·rename_i h
   obtain⟨s1,s2⟩:=htx h.1
   split
   ·rename_i h;obtain⟨s3,s4⟩:=hx h
    exact⟨byt_app s1 s3,by rw[List.length_append];omega⟩
   ·exact⟨by rw[List.append_nil];exact s1,by rw[List.append_nil];omega⟩
  ·exact n0
 exact n0
theorem has_ki {m:MsgS} (h:m.has=true):1≤m.ki∧m.ki≤10:=by
 unfold MsgS.has at h
 repeat' split at h
 all_goals first|omega|cases h
theorem MsgS.bytes_ok {m:MsgS} (ok:m.ok) (hm:m.May):Byt m.bytes∧m.bytes.length≤5100:=by
 obtain⟨s1,s2⟩:=MsgS.body_ok ok hm.2.1
 have hk:=has_ki hm.2.1
 obtain⟨⟨h1,h2,_⟩,_⟩:=hm
 obtain⟨r1,n1⟩:=num_ok (n:=m.ki.toNat) (by omega)
 obtain⟨r2,n2⟩:=num_ok (n:=m.fr.toNat) (by omega)
 obtain⟨r3,n3⟩:=num_ok (n:=m.to.toNat) (by omega)
 exact⟨byt_app (byt_app (byt_app r1 r2) r3) s1,by unfold MsgS.bytes;simp only[List.length_append];omega⟩
def ZPm:Spec1
 |[x],G,Q=>∃m:MsgS,(V.Wk x m.v∧m.ok)∧Q (.tup [if m.may=true then .sli .u8 m.bytes else .nils,.int .i64 (if m.may=true then 0 else 1)]) G
 |_,_,_=>False
theorem ZPm_eq {x}:ZPm [x] G Q=(∃m:MsgS,(V.Wk x m.v∧m.ok)∧Q (.tup [if m.may=true then .sli .u8 m.bytes else .nils,.int .i64 (if m.may=true then 0 else 1)]) G):=rfl
theorem walk9 {m:MsgS} (hC:Abs.look l 11=some ZCh) (hN:Abs.look l 31=some SNu) (hB:Abs.look l 32=some ZBo)
  (ok:m.ok) (h:Q (.tup [if m.may=true then .sli .u8 m.bytes else .nils,.int .i64 (if m.may=true then 0 else 1)]) G):Wf E (specOf l) pf9 [m.v] G Q:=by
 have hv:m.v= .agg [.int .i64 m.ki,.int .i64 m.fr,.int .i64 m.to,m.at_.v,m.ce.v,m.ac.v,m.bl.v,.arr .u8 32 m.ha,m.tx.v]:=rfl
 have hvw:∀x,x=m.v→V.Wk x m.v:=fun x e=>by rw[e];exact V.Wk.refl _
 rw[hv]at hvw⊢
 obtain⟨z1,z2⟩:=AttS.vs m.at_
 obtain⟨z3,z4⟩:=CertS.vs m.ce
 obtain⟨z5,z6⟩:=AccS.vs m.ac
 obtain⟨z9,z10⟩:=BlkS.vs m.bl
 obtain⟨z11,z12⟩:=TxS.vs m.tx
 obtain⟨z13,z14⟩:=MsgS.vs m
 unfold V.isAgg at z2 z4 z6 z10 z12 z14
 cases hm:m.may with
 |false=>
  rw[hm]at h
  simp -implicitDefEqProofs only[pf9,hC,ZCh_eq,z1,z2,z3,z4,z5,z6,z9,z10,z11,z12,z13,z14,go_sem,↓reduceIte]
  refine⟨m,⟨hvw _ rfl,ok⟩,?_⟩
  simp -implicitDefEqProofs only[hm,go_sem,↓reduceIte]
  exact h
 |true=>
  rw[hm]at h
  have hM:m.May:=of_decide_eq_true hm
  obtain⟨s1,s2⟩:=MsgS.bytes_ok ok hM
  have hk:=has_ki hM.2.1
  obtain⟨⟨h1,h2,_⟩,_⟩:=hM
  have n1:=(num_ok (n:=m.ki.toNat) (by omega)).2
  have n2:=(num_ok (n:=m.fr.toNat) (by omega)).2
  have u1:=u64_of (n:=m.ki) (by omega) (by omega)
  have u2:=u64_of (n:=m.fr) (by omega) (by omega)
  have u3:=u64_of (n:=m.to) (by omega) (by omega)
  simp -implicitDefEqProofs only[pf9,hC,ZCh_eq,z1,z2,z3,z4,z5,z6,z9,z10,z11,z12,z13,z14,go_sem,↓reduceIte]
  refine⟨m,⟨hvw _ rfl,ok⟩,?_⟩
  simp -implicitDefEqProofs only[hm,u1,u2,u3,hN,SNu_eq,hB,ZBo_eq,z1,z2,z3,z4,z5,z6,z9,z10,z11,z12,z13,z14,go_sem,↓reduceIte]
  exact⟨[],⟨rfl,by decide,by omega,by omega⟩,_,⟨byV_u8 _,by simp only[List.nil_append];omega,by omega,by omega⟩,_,⟨byV_u8 _,by simp only[List.nil_append,List.length_append];omega,by omega,by omega⟩,m,⟨hvw _ rfl,ok⟩,by unfold MsgS.bytes at s2;simp only[List.nil_append,List.length_append]at s2⊢;omega,by simpa only[MsgS.bytes,List.nil_append,if_true]using h⟩
def pf49:PF:=
 PF.mk 2 8 80 (((PC.reg [nn (.v 4) (.mv false (.v 1)),nn (.v 5) (.nilc (.v 4)),nn (.v 6) (.fadr 0 0 (.v 5)),nn (.v 7) (.load 1 false (.v 6))]).seq
  (PC.block 0 (((PC.reg [nn (.t 9) (.bin .eql (.v 7) (.c (.v (.int .i64 1)))),nn (.t 8) (.mv true (.t 9))]).seq (PC.cond (.t 8) PC.skip ((PC.reg [nn
  (.t 10) (.bin .eql (.v 7) (.c (.v (.int .i64 3)))),nn (.t 8) (.mv true (.t 10))]).seq (PC.cond (.t 8) PC.skip (PC.reg [nn (.t 11) (.bin .eql (.v 7)
  (.c (.v (.int .i64 5)))),nn (.t 8) (.mv true (.t 11))]))))).seq (PC.cond (.t 8) (PC.reg [mm 13 1,mm 14 0,nn (.t 15) (.call 96 [.t 14]),nn (.t 12)
  (.mv false (.t 15)),nn (.t 16) (.ext (.t 12) 0),nn (.t 17) (.ext (.t 12) 1),nn (.t 18) (.nilc (.t 13)),nn (.t 19) (.fadr 3 3 (.t 18)),nn .no
  (.store 101 (.t 19) (.t 16))]) (((PC.reg [nn (.t 21) (.bin .eql (.v 7) (.c (.v (.int .i64 4)))),nn (.t 20) (.mv true (.t 21))]).seq (PC.cond (.t 20)
  PC.skip (PC.reg [nn (.t 22) (.bin .eql (.v 7) (.c (.v (.int .i64 6)))),nn (.t 20) (.mv true (.t 22))]))).seq (PC.cond (.t 20) (PC.reg [mm 24 1,mm
  25 0,nn (.t 26) (.call 97 [.t 25]),nn (.t 23) (.mv false (.t 26)),nn (.t 27) (.ext (.t 23) 0),nn (.t 28) (.ext (.t 23) 1),nn (.t 29) (.nilc (.t
  24)),nn (.t 30) (.fadr 4 104 (.t 29)),nn .no (.store 102 (.t 30) (.t 27))]) ((PC.reg [nn (.t 32) (.bin .eql (.v 7) (.c (.v (.int .i64 7)))),nn (.t
  31) (.mv true (.t 32))]).seq (PC.cond (.t 31) (PC.reg [mm 33 1,mm 34 0,nn (.t 35) (.call 98 [.t 34]),nn (.t 36) (.nilc (.t 33)),nn (.t 37) (.fadr
  7 310 (.t 36)),nn .no (.store 32 (.t 37) (.t 35))]) ((PC.reg [nn (.t 39) (.bin .eql (.v 7) (.c (.v (.int .i64 9)))),nn (.t 38) (.mv true (.t
  39))]).seq (PC.cond (.t 38) (PC.reg [mm 41 1,mm 42 0,nn (.t 43) (.call 99 [.t 42]),nn (.t 40) (.mv false (.t 43)),nn (.t 44) (.ext (.t 40) 0),nn
  (.t 45) (.ext (.t 40) 1),nn (.t 46) (.nilc (.t 41)),nn (.t 47) (.fadr 8 342 (.t 46)),nn .no (.store 7 (.t 47) (.t 44))]) (((PC.reg [nn (.t 49)
  (.bin .eql (.v 7) (.c (.v (.int .i64 2)))),nn (.t 48) (.mv true (.t 49))]).seq (PC.cond (.t 48) PC.skip (PC.reg [nn (.t 50) (.bin .eql (.v 7) (.c
  (.v (.int .i64 8)))),nn (.t 48) (.mv true (.t 50))]))).seq (PC.cond (.t 48) (PC.reg [mm 52 1,mm 53 0,nn (.t 54) (.call 101 [.t 53]),nn (.t 55)
  (.call 100 [.t 54]),nn (.t 51) (.mv false (.t 55)),nn (.t 56) (.ext (.t 51) 0),nn (.t 57) (.ext (.t 51) 1),nn (.t 58) (.nilc (.t 52)),nn (.t 59)
  (.fadr 6 274 (.t 58)),nn .no (.store 36 (.t 59) (.t 56))]) PC.skip)))))))))))).seq ((PC.reg [mm 60 1,nn (.t 61) (.nilc (.t 60)),nn (.t 62) (.fadr
  0 0 (.t 61)),nn (.t 63) (.load 1 false (.t 62)),nn (.t 64) (.bin .eql (.t 63) (.c (.v (.int .i64 2)))),nn (.t 65) (.mv false (.t 64)),gm 66 1 65
  false,⟨.t 67,.nilc (.t 66),some (.t 65,false)⟩,⟨.t 68,.fadr 0 0 (.t 67),some (.t 65,false)⟩,⟨.t 69,.load 1 false (.t 68),some (.t 65,
  false)⟩,⟨.t 70,.bin .eql (.t 69) (.c (.v (.int .i64 10))),some (.t 65,false)⟩,nn (.t 71) (.pick (.t 65) (.c (.v (.bool true))) (.t 70))]).seq
  (PC.cond (.t 71) (PC.reg [mm 73 1,mm 74 0,nn (.t 75) (.call 102 [.t 74]),nn (.t 72) (.mv false (.t 75)),nn (.t 76) (.ext (.t 72) 0),nn (.t 77)
  (.ext (.t 72) 1),nn (.t 78) (.nilc (.t 73)),nn (.t 79) (.fadr 5 206 (.t 78)),nn .no (.store 68 (.t 79) (.t 76))]) PC.skip))) []
theorem upd_comm {α:Type} {i j:Nat} {x y:α} (h:i≠j):∀{G:List (Nat×α)},Abs.upd (Abs.upd G i x) j y=Abs.upd (Abs.upd G j y) i x
 |[]=>rfl
 |(k,d)::e=>by
  by_cases h1:i=k
  ·subst h1
   have h2:(j==i)=false:=by simpa using (fun e=>h e.symm)
   simp only[Abs.upd,beq_self_eq_true,h2,cond_true,cond_false]
  ·have h1':(i==k)=false:=by simpa using h1
   by_cases h2:j=k
   ·subst h2
    simp only[Abs.upd,beq_self_eq_true,h1',cond_true,cond_false]
   ·have h2':(j==k)=false:=by simpa using h2
    simp only[Abs.upd,h1',h2',cond_false,upd_comm h]
theorem upd_self {α:Type} {i:Nat} {x:α}:∀{G:List (Nat×α)},Abs.look G i=some x→Abs.upd G i x=G
 |[],h=>rfl
 |(k,d)::e,h=>by
  by_cases h1:i=k
  ·subst h1
   simp only[Abs.look,beq_self_eq_true,cond_true,Option.some.injEq]at h
   simp only[Abs.upd,beq_self_eq_true,cond_true,h]
  ·have h1':(i==k)=false:=by simpa using h1
   simp only[Abs.look,h1',cond_false]at h
   simp only[Abs.upd,h1',cond_false,upd_self h]
def rdRest (k f t:Int) (s:Rd):MsgS×Rd:=
 if k=1∨k=3∨k=5 then ({ MsgS.bare k f t with at_:=attR (rdAtt s).1 (rdAtt s).2.2 },(rdAtt s).2)
 else if k=4∨k=6 then ({ MsgS.bare k f t with ce:=certR (rdCert s).1 (rdCert s).2.2 },(rdCert s).2)
 else if k=7 then ({ MsgS.bare k f t with ha:=(rdHash s).1 },(rdHash s).2)
 else if k=9 then ({ MsgS.bare k f t with tx:=txR (rdTx s).1 (rdTx s).2.2 },(rdTx s).2)
 else if k=2 then ({ MsgS.bare k f t with bl:=blkO (getBlk (rdText s).1),ac:=accR (rdAccu (rdText s).2).1 (rdAccu (rdText s).2).2.2 },(rdAccu (rdText s).2).2)
 else if k=8 then ({ MsgS.bare k f t with bl:=blkO (getBlk (rdText s).1) },(rdText s).2)
 else if k=10 then ({ MsgS.bare k f t with ac:=accR (rdAccu s).1 (rdAccu s).2.2 },(rdAccu s).2)
 else (MsgS.bare k f t,s)
def _root_.Go.Abs.Sha.MsgS.rv (m:MsgS):V:= .agg [.int .i64 m.ki,.int .i64 m.fr,.int .i64 m.to,m.at_.v,if m.ki=4∨m.ki=6 then m.ce.v else ceN,if m.ki=2∨m.ki=10 then m.ac.v else acN,if m.ki=2∨m.ki=8 then m.bl.v else BlkS.zeroV,.arr .u8 32 m.ha,m.tx.v]
def bareV (k f t:Int):V:= .agg [.int .i64 k,.int .i64 f,.int .i64 t,AttS.zero.v,ceN,acN,BlkS.zeroV,.arr .u8 32 zero32,TxS.zero.v]
theorem attR_wf {a:AttS} {w:Bool} (h:a.wf):(attR a w).wf:=by unfold attR;split;exact h;exact AttS.zero_wf
theorem certR_ok {a:CertS} {w:Bool} (h:a.ok) (h2:a.sigs.length≤21):(certR a w).ok∧(certR a w).sigs.length < 1000000:=by
 unfold certR;split
 ·exact⟨h,by omega⟩
 ·exact⟨CertS.zero_ok,by decide⟩
theorem accR_ok {a:AccS} {w:Bool} (h:a.wf) (h2:a.fr.length≤21):(accR a w).wf∧(accR a w).fr.length < 1000000:=by
 unfold accR;split
 ·exact⟨h,by omega⟩
 ·exact⟨AccS.zero_wf,by decide⟩
theorem txR_sz {t:TxS} {w:Bool} {n:Nat} (h:t.key.size≤n) (h2:t.val.size≤n):(txR t w).key.size≤n∧(txR t w).val.size≤n:=by
 unfold txR;split
 ·exact⟨h,h2⟩
 ·exact⟨Nat.zero_le _,Nat.zero_le _⟩
theorem getBlk_ok {t:List Int} (hb:Byt t):(blkO (getBlk t)).ok:=by
 unfold getBlk
 split
 ·rename_i b r w e
  obtain⟨h1,h2,_⟩:=rdBlk_right e hb
  split
  ·exact⟨h1,h2⟩
  ·exact BlkS.zero_ok
 ·exact BlkS.zero_ok
theorem rdRest_all {k f t:Int} {b r:List Int} {w w2:Bool} {m:MsgS} (e:rdRest k f t (b,w)=(m,r,w2)) (hb:Byt b) (hl:b.length < 100000000):
  m.ok∧Byt r∧r.length≤b.length∧(∃u,b=u++r)∧V.Wk m.rv m.v:=by
 have ob:=MsgS.bare_ok k f t
 rcases q1:rdAtt (b,w)with⟨a,r1,w1⟩
 rcases q2:rdCert (b,w)with⟨c,r2,w2'⟩
 rcases q3:rdHash (b,w)with⟨hh,r3,w3⟩
 rcases q4:rdTx (b,w)with⟨y,r4,w4⟩
 rcases q5:rdText (b,w)with⟨tx,r5,w5⟩
 rcases q6:rdAccu (b,w)with⟨x,r6,w6⟩
 rcases q7:rdAccu (r5,w5)with⟨x7,r7,w7⟩
 have p1:=rdAtt_all q1 hb
 have p2:=rdCert_all q2 hb
 obtain⟨p31,p32,p33,p34,_⟩:=rdHash_all q3 hb
 have p4:=rdTx_all q4 hb
 obtain⟨p51,p52,p53,p54,⟨u5,p55⟩⟩:=rdText_all q5 hb
 have p6:=rdAccu_all q6 hb
 have p7:=rdAccu_all q7 p51
 unfold rdRest at e
 simp only[q1,q2,q3,q4,q5,q6,q7]at e
 split at e
 ·rename_i hk
  cases e
  refine⟨⟨attR_wf p1.wf,ob.ce,ob.cel,ob.ac,ob.acl,ob.bl,ob.ha,ob.txk,ob.txv⟩,p1.byt,p1.len,p1.suf,?_⟩
  unfold MsgS.rv MsgS.bare;dsimp only
  rw[if_neg (by omega),if_neg (by omega),if_neg (by omega)]
  exact wk_msg (m:=⟨k,f,t,attR a w2,.zero,.zero,.zero,zero32,.zero⟩) wk_ce wk_ac wk_bl
 split at e
 ·rename_i hk
  cases e
  obtain⟨c1,c2⟩:=certR_ok (w:=w2) p2.wf p2.cnt
  refine⟨⟨ob.at_,c1,c2,ob.ac,ob.acl,ob.bl,ob.ha,ob.txk,ob.txv⟩,p2.byt,p2.len,p2.suf,?_⟩
  unfold MsgS.rv MsgS.bare;dsimp only
  rw[if_pos hk,if_neg (by omega),if_neg (by omega)]
  exact wk_msg (m:=⟨k,f,t,.zero,certR c w2,.zero,.zero,zero32,.zero⟩) (V.Wk.refl _) wk_ac wk_bl
 split at e
 ·rename_i hk
  cases e
  refine⟨⟨ob.at_,ob.ce,ob.cel,ob.ac,ob.acl,ob.bl,p33,ob.txk,ob.txv⟩,p31,p32,p34,?_⟩
  unfold MsgS.rv MsgS.bare;dsimp only
  rw[if_neg (by omega),if_neg (by omega),if_neg (by omega)]
  exact wk_msg (m:=⟨k,f,t,.zero,.zero,.zero,.zero,hh,.zero⟩) wk_ce wk_ac wk_bl
 split at e
 ·rename_i hk
  cases e
  obtain⟨c1,c2⟩:=txR_sz (w:=w2) p4.key p4.val
  refine⟨⟨ob.at_,ob.ce,ob.cel,ob.ac,ob.acl,ob.bl,ob.ha,Nat.lt_of_le_of_lt c1 (by omega),Nat.lt_of_le_of_lt c2 (by omega)⟩,p4.byt,p4.len,p4.suf,?_⟩
  unfold MsgS.rv MsgS.bare;dsimp only
  rw[if_neg (by omega),if_neg (by omega),if_neg (by omega)]
  exact wk_msg (m:=⟨k,f,t,.zero,.zero,.zero,.zero,zero32,txR y w2⟩) wk_ce wk_ac wk_bl
 split at e
 ·rename_i hk
  cases e
  obtain⟨c1,c2⟩:=accR_ok (w:=w2) p7.wf p7.cnt
  obtain⟨u7,h7⟩:=p7.suf
  refine⟨⟨ob.at_,ob.ce,ob.cel,c1,c2,getBlk_ok p53,ob.ha,ob.txk,ob.txv⟩,p7.byt,by have:=p7.len;omega,⟨u5++u7,by rw[List.append_assoc,←h7];exact p55⟩,?_⟩
  unfold MsgS.rv MsgS.bare;dsimp only
  rw[if_neg (by omega),if_pos (by omega),if_pos (by omega)]
  exact wk_msg (m:=⟨k,f,t,.zero,.zero,accR x7 w2,blkO (getBlk tx),zero32,.zero⟩) wk_ce (V.Wk.refl _) (V.Wk.refl _)
 split at e
 ·rename_i hk
  cases e
  refine⟨⟨ob.at_,ob.ce,ob.cel,ob.ac,ob.acl,getBlk_ok p53,ob.ha,ob.txk,ob.txv⟩,p51,p52,⟨u5,p55⟩,?_⟩
  unfold MsgS.rv MsgS.bare;dsimp only
  rw[if_neg (by omega),if_neg (by omega),if_pos (by omega)]
  exact wk_msg (m:=⟨k,f,t,.zero,.zero,.zero,blkO (getBlk tx),zero32,.zero⟩) wk_ce wk_ac (V.Wk.refl _)
 split at e
 ·rename_i hk
  cases e
  obtain⟨c1,c2⟩:=accR_ok (w:=w2) p6.wf p6.cnt
  refine⟨⟨ob.at_,ob.ce,ob.cel,c1,c2,ob.bl,ob.ha,ob.txk,ob.txv⟩,p6.byt,p6.len,p6.suf,?_⟩
  unfold MsgS.rv MsgS.bare;dsimp only
  rw[if_neg (by omega),if_pos (by omega),if_neg (by omega)]
  exact wk_msg (m:=⟨k,f,t,.zero,.zero,accR x w2,.zero,zero32,.zero⟩) wk_ce (V.Wk.refl _) wk_bl
 ·cases e
  refine⟨ob,hb,Nat.le_refl _,⟨[],rfl⟩,?_⟩
  unfold MsgS.rv MsgS.bare;dsimp only
  rw[if_neg (by omega),if_neg (by omega),if_neg (by omega)]
  exact wk_msg (m:=⟨k,f,t,.zero,.zero,.zero,.zero,zero32,.zero⟩) wk_ce wk_ac wk_bl
def ZMr:Spec1
 |[.ptr id,.ptr p],G,Q=>∃k f t b w m r w2,(Abs.look G id=some (.agg [.sli .u8 b,.bool w])∧Abs.look G p=some (bareV k f t)∧p≠id∧Byt b∧b.length < 100000000∧rdRest k f t (b,w)=(m,r,w2))∧Q (.tup []) (Abs.upd (Abs.upd G id (.agg [.sli .u8 r,.bool w2])) p m.rv)
 |_,_,_=>False
theorem ZMr_eq {id p}:ZMr [.ptr id,.ptr p] G Q=(∃k f t b w m r w2,(Abs.look G id=some (.agg [.sli .u8 b,.bool w])∧Abs.look G p=some (bareV k f t)∧p≠id∧Byt b∧b.length < 100000000∧rdRest k f t (b,w)=(m,r,w2))∧Q (.tup []) (Abs.upd (Abs.upd G id (.agg [.sli .u8 r,.bool w2])) p m.rv)):=rfl
theorem walk49 {id p:Nat} {k f t:Int} {b r:List Int} {w w2:Bool} {m:MsgS} (hA:Abs.look l 96=some SAr) (hC:Abs.look l 97=some ZRc) (hH:Abs.look l 98=some SHs) (hT:Abs.look l 99=some ZQt) (hX:Abs.look l 101=some ZTr) (hB:Abs.look l 100=some ZGb) (hU:Abs.look l 102=some ZRd)
  (hG:Abs.look G id=some (.agg [.sli .u8 b,.bool w])) (hP:Abs.look G p=some (bareV k f t)) (hne:p≠id) (hb:Byt b) (hl:b.length < 100000000) (he:rdRest k f t (b,w)=(m,r,w2))
  (h:Q (.tup []) (Abs.upd (Abs.upd G id (.agg [.sli .u8 r,.bool w2])) p m.rv)):Wf E (specOf l) pf49 [.ptr id,.ptr p] G Q:=by
 rcases q1:rdAtt (b,w)with⟨a,r1,w1⟩
 rcases q2:rdCert (b,w)with⟨c,r2,w2'⟩
 rcases q3:rdHash (b,w)with⟨hh,r3,w3⟩
 rcases q4:rdTx (b,w)with⟨y,r4,w4⟩
 rcases q5:rdText (b,w)with⟨tx,r5,w5⟩
 rcases q6:rdAccu (b,w)with⟨x,r6,w6⟩
 rcases q7:rdAccu (r5,w5)with⟨x7,r7,w7⟩
 obtain⟨p51,p52,p53,p54,_⟩:=rdText_all q5 hb
 unfold rdRest at he
 simp only[q1,q2,q3,q4,q5,q6,q7]at he
 have gp:∀z,Abs.look (Abs.upd G id z) p=some (bareV k f t):=fun z=>by rw[look_upd_ne hne];exact hP
 have gp2:∀z z2,Abs.look (Abs.upd (Abs.upd G id z) p z2) p=some z2:=fun z z2=>look_upd_same (gp z)
 have hP0:=hP
 unfold bareV ceN acN BlkS.zeroV AttS.zero AttS.v TxS.zero TxS.v at hP gp
 dsimp only at hP gp
 have sA:∀a:AttS,V.same a.v (.agg [.int .i64 0,.int .i64 0,.int .i64 0,.int .i64 0,.arr .u8 32 zero32,.int .i64 0,.arr .u8 32 zero32,.arr .u8 32 zero32])=true:=fun a=>rfl
 have sC:∀a:CertS,V.same a.v (.agg [(.agg [.int .i64 0,.int .i64 0,.int .i64 0,.int .i64 0,.arr .u8 32 zero32,.int .i64 0,.arr .u8 32 zero32,.arr .u8 32 zero32]),.nils])=true:=fun a=>rfl
 have sX:∀a:AccS,V.same a.v (.agg [.int .i64 0,.int .i64 0,.int .i64 0,.arr .u8 32 zero32,.nils,.arr .u8 32 zero32])=true:=fun a=>rfl
 have sB:∀a:BlkS,V.same a.v (.agg [.arr .u8 32 zero32,.int .i64 0,.int .i64 0,.int .i64 0,.nils])=true:=fun a=>rfl
 have sT:∀a:TxS,V.same a.v (.agg [.int .i64 0,.int .i64 0,.int .i64 0,.int .i64 0,.int .i64 0,.str nos,.str nos])=true:=fun a=>rfl
 have zA:∀a:AttS,V.size a.v=101:=fun a=>rfl
 have zC:∀a:CertS,V.size a.v=102:=fun a=>rfl
 have zX:∀a:AccS,V.size a.v=68:=fun a=>rfl
 have zB:∀a:BlkS,V.size a.v=36:=fun a=>rfl
 have zT:∀a:TxS,V.size a.v=7:=fun a=>rfl
 by_cases k1:k=1
 ·subst k1
  cases he
  simp -implicitDefEqProofs only[pf49,hP,hA,SAr_eq,sA,sC,sX,sB,sT,zA,zC,zX,zB,zT,gp,gp2,go_sem,↓reduceIte]
  exact⟨b,w,a,r,w2,⟨hG,hb,by omega,q1⟩,h⟩
 by_cases k3:k=3
 ·subst k3
  cases he
  simp -implicitDefEqProofs only[pf49,hP,hA,SAr_eq,sA,sC,sX,sB,sT,zA,zC,zX,zB,zT,gp,gp2,go_sem,↓reduceIte]
  exact⟨b,w,a,r,w2,⟨hG,hb,by omega,q1⟩,h⟩
 by_cases k5:k=5
 ·subst k5
  cases he
  simp -implicitDefEqProofs only[pf49,hP,hA,SAr_eq,sA,sC,sX,sB,sT,zA,zC,zX,zB,zT,gp,gp2,go_sem,↓reduceIte]
  exact⟨b,w,a,r,w2,⟨hG,hb,by omega,q1⟩,h⟩
 by_cases k4:k=4
 ·subst k4
  cases he
  simp -implicitDefEqProofs only[pf49,hP,hC,ZRc_eq,sA,sC,sX,sB,sT,zA,zC,zX,zB,zT,gp,gp2,go_sem,↓reduceIte]
  exact⟨b,w,c,r,w2,⟨hG,hb,by omega,q2⟩,h⟩
 by_cases k6:k=6
 ·subst k6
  cases he
  simp -implicitDefEqProofs only[pf49,hP,hC,ZRc_eq,sA,sC,sX,sB,sT,zA,zC,zX,zB,zT,gp,gp2,go_sem,↓reduceIte]
  exact⟨b,w,c,r,w2,⟨hG,hb,by omega,q2⟩,h⟩
 by_cases k7:k=7
 ·subst k7
  cases he
  simp -implicitDefEqProofs only[pf49,hP,hH,SHs_eq,sA,sC,sX,sB,sT,zA,zC,zX,zB,zT,gp,gp2,go_sem,↓reduceIte]
  exact⟨b,w,hh,r,w2,⟨hG,hb,by omega,q3⟩,h⟩
 by_cases k9:k=9
 ·subst k9
  cases he
  simp -implicitDefEqProofs only[pf49,hP,hT,ZQt_eq,sA,sC,sX,sB,sT,zA,zC,zX,zB,zT,gp,gp2,go_sem,↓reduceIte]
  exact⟨b,w,y,r,w2,⟨hG,hb,by omega,q4⟩,h⟩
 by_cases k10:k=10
 ·subst k10
  cases he
  simp -implicitDefEqProofs only[pf49,hP,hU,ZRd_eq,sA,sC,sX,sB,sT,zA,zC,zX,zB,zT,gp,gp2,go_sem,↓reduceIte]
  exact⟨b,w,x,r,w2,⟨hG,hb,by omega,q6⟩,h⟩
 have tv:byV (txV tx w5)=some tx:=by
  unfold txV;cases w5 with
  |true=>rw[rdText_no q5 rfl];rfl
  |false=>rfl
 by_cases k8:k=8
 ·subst k8
  cases he
  simp -implicitDefEqProofs only[pf49,hP,hX,ZTr_eq,hB,ZGb_eq,sA,sC,sX,sB,sT,zA,zC,zX,zB,zT,gp,gp2,go_sem,↓reduceIte]
  exact⟨b,w,tx,r,w2,⟨hG,hb,by omega,q5⟩,tx,⟨tv,p53,by omega⟩,h⟩
 by_cases k2:k=2
 ·subst k2
  cases he
  simp -implicitDefEqProofs only[pf49,hP,hX,ZTr_eq,hB,ZGb_eq,sA,sC,sX,sB,sT,zA,zC,zX,zB,zT,gp,gp2,go_sem,↓reduceIte]
  refine⟨b,w,tx,r5,w5,⟨hG,hb,by omega,q5⟩,tx,⟨tv,p53,by omega⟩,?_⟩
  have g3:∀x y,Abs.look (Abs.upd (Abs.upd G id x) p y) id=some x:=fun x y=>by rw[look_upd_ne (Ne.symm hne)];exact look_upd_same hG
  have g4:∀x y z,Abs.look (Abs.upd (Abs.upd (Abs.upd G id x) p y) id z) p=some y:=fun x y z=>by rw[look_upd_ne hne];exact gp2 x y
  simp -implicitDefEqProofs only[hU,ZRd_eq,sA,sC,sX,sB,sT,zA,zC,zX,zB,zT,g3,g4,go_sem,↓reduceIte]
  refine⟨r5,w5,x7,r,w2,⟨rfl,p51,by omega,q7⟩,?_⟩
  rw[upd_comm (i:=p) (j:=id) hne,upd_upd,upd_upd]
  exact h
 simp -implicitDefEqProofs only[pf49,hP,k1,k2,k3,k4,k5,k6,k7,k8,k9,k10,go_sem,↓reduceIte]
 rw[if_neg (by omega),if_neg (by omega),if_neg (by omega),if_neg (by omega),if_neg (by omega),if_neg (by omega),if_neg (by omega)]at he
 cases he
 have e1:(MsgS.bare k f t).rv=bareV k f t:=by unfold MsgS.rv MsgS.bare;dsimp only;rw[if_neg (by omega),if_neg (by omega),if_neg (by omega)];rfl
 rw[e1,upd_self hG,upd_self hP0]at h
 exact h
end Go.Proofs.Ytegamlopcdjiaaa.Sha
