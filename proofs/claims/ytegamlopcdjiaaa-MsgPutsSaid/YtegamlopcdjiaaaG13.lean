/- Laws over plain values, and what functions of the program hand back; no conditions. -/
import Derived.Test.YtegamlopcdjiaaaG12
namespace Go.Proofs.Ytegamlopcdjiaaa.Sha
open Go Go.Abs Go.Abs.Sha Go.Abs.Srt
set_option linter.unusedSimpArgs false
set_option linter.unusedVariables false
set_option maxRecDepth 100000
def pf14:PF:=
 PF.mk 1 8 34 ((PC.reg [nn (.v 2) (.alloc (.agg [.int .i64 0,.int .i64 0,.int .i64 0,.agg [.int .i64 0,.int .i64 0,.int .i64 0,.int .i64 0,.arr
  .u8 32 zz2,.int .i64 0,.arr .u8 32 [0,0,0,0,0,0,
  0,0,0,0,0,0,0,0,0,0,0,0,0,0,0,0,0,0,0,0,0,0,0,0,0,0],.arr .u8 32 [0,0,0,0,0,0,0,0,0,0,0,0,0,0,0,0,0,0,0,
  0,0,0,0,0,0,0,0,0,0,0,0,0]],.agg [.agg [.int .i64 0,.int .i64 0,.int .i64 0,.int .i64 0,.arr .u8 32 [0,0,0,0,0,0,0,0,0,0,
  0,0,0,0,0,0,0,0,0,0,0,0,0,0,0,0,0,0,0,0,0,0],.int .i64 0,.arr .u8 32 [0,0,0,0,0,0,0,0,0,0,0,0,0,0,0,0,0,0,0,
  0,0,0,0,0,0,0,0,0,0,0,0,0],.arr .u8 32 [0,0,0,0,0,0,0,0,0,0,0,0,0,0,0,0,0,0,0,0,0,0,0,0,0,0,0,0,0,0,0,
  0]],.nils],.agg [.int .i64 0,.int .i64 0,.int .i64 0,.arr .u8 32 [0,0,0,0,0,0,0,0,0,0,0,0,0,0,0,0,0,0,0,0,0,0,0,0,0,0,
  0,0,0,0,0,0],.nils,.arr .u8 32 zz2],.agg [.arr
  .u8 32 zz2,.int .i64 0,.int .i64 0,.int .i64 0,
  .nils],.arr .u8 32 zz2,.agg [.int .i64 0,.int .i64 0,
  .int .i64 0,.int .i64 0,.int .i64 0,.str ⟨⟨[]⟩⟩,.str ⟨⟨[]⟩⟩]])),nn (.v 3) (.mv true (.c (.v (.int .i64 0))))]).seq ((PC.reg [mm 8 0,nn (.t 9)
  (.call 47 [.t 8]),ma 4 9]).seq ((PC.reg [mm 10 4,nn (.t 11) (.call 48 [.t 10,.c (.v (.int .i64 10))]),mm 12 4,nn (.t 13) (.call 48 [.t 12,.c
  (.v (.int .i64 21))]),mm 14 4,nn (.t 15) (.call 48 [.t 14,.c (.v (.int .i64 21))]),nn (.t 16) (.build (.agg [.int .i64 0,.int .i64 0,.int .i64
  0,.agg [.int .i64 0,.int .i64 0,.int .i64 0,.int .i64 0,.arr .u8 32 [0,0,0,0,0,0,0,0,0,0,0,0,0,0,0,0,0,0,0,0,0,0,0,0,0,
  0,0,0,0,0,0,0],.int .i64 0,.arr .u8 32 zz2,.arr
  .u8 32 zz2],.agg [.agg [.int .i64 0,.int .i64 0,.int
  .i64 0,.int .i64 0,.arr .u8 32 zz2,.int .i64 0,.arr
  .u8 32 zz2,.arr .u8 32 [0,0,0,0,0,0,0,0,0,0,
  0,0,0,0,0,0,0,0,0,0,0,0,0,0,0,0,0,0,0,0,0,0]],.nils],.agg [.int .i64 0,.int .i64 0,.int .i64 0,.arr .u8 32 [0,0,0,0,0,
  0,0,0,0,0,0,0,0,0,0,0,0,0,0,0,0,0,0,0,0,0,0,0,0,0,0,0],.nils,.arr .u8 32 [0,0,0,0,0,0,0,0,0,0,0,0,0,0,0,0,
  0,0,0,0,0,0,0,0,0,0,0,0,0,0,0,0]],.agg [.arr .u8 32 [0,0,0,0,0,0,0,0,0,0,0,0,0,0,0,0,0,0,0,0,0,0,0,0,0,0,0,
  0,0,0,0,0],.int .i64 0,.int .i64 0,.int .i64 0,.nils],.arr .u8 32 [0,0,0,0,0,0,0,0,0,0,0,0,0,0,0,0,0,0,0,0,0,0,0,0,
  0,0,0,0,0,0,0,0],.agg [.int .i64 0,.int .i64 0,.int .i64 0,.int .i64 0,.int .i64 0,.str ⟨⟨[]⟩⟩,.str ⟨⟨[]⟩⟩]]) [(0,.t 11),(1,.t 13),
  (2,.t 15)]),nn (.v 5) (.new (.agg [.int .i64 0,.int .i64 0,.int .i64 0,.agg [.int .i64 0,.int .i64 0,.int .i64 0,.int .i64 0,.arr .u8 32 [0,
  0,0,0,0,0,0,0,0,0,0,0,0,0,0,0,0,0,0,0,0,0,0,0,0,0,0,0,0,0,0,0],.int .i64 0,.arr .u8 32 [0,0,0,0,0,0,0,0,0,0,
  0,0,0,0,0,0,0,0,0,0,0,0,0,0,0,0,0,0,0,0,0,0],.arr .u8 32 [0,0,0,0,0,0,0,0,0,0,0,0,0,0,0,0,0,0,0,0,0,0,0,
  0,0,0,0,0,0,0,0,0]],.agg [.agg [.int .i64 0,.int .i64 0,.int .i64 0,.int .i64 0,.arr .u8 32 [0,0,0,0,0,0,0,0,0,0,0,0,0,0,
  0,0,0,0,0,0,0,0,0,0,0,0,0,0,0,0,0,0],.int .i64 0,.arr .u8 32 [0,0,0,0,0,0,0,0,0,0,0,0,0,0,0,0,0,0,0,0,0,0,0,
  0,0,0,0,0,0,0,0,0],.arr .u8 32 zz2],.nils],
  .agg [.int .i64 0,.int .i64 0,.int .i64 0,.arr .u8 32 [0,0,0,0,0,0,0,0,0,0,0,0,0,0,0,0,0,0,0,0,0,0,0,0,0,0,0,0,0,0,
  0,0],.nils,.arr .u8 32 zz2],.agg [.arr .u8 32 [0,0,
  0,0,0,0,0,0,0,0,0,0,0,0,0,0,0,0,0,0,0,0,0,0,0,0,0,0,0,0,0,0],.int .i64 0,.int .i64 0,.int .i64 0,.nils],.arr .u8 32
  zz2,.agg [.int .i64 0,.int .i64 0,.int .i64 0,.int
  .i64 0,.int .i64 0,.str ⟨⟨[]⟩⟩,.str ⟨⟨[]⟩⟩]])),nn .no (.store 349 (.v 5) (.t 16))]).seq ((PC.reg [mm 17 4,nn (.t 18) (.call 49 [.t 17,.v
  5])]).seq ((PC.reg [nn (.t 20) (.load 349 true (.v 5)),nn (.t 21) (.call 9 [.t 20]),nn (.t 19) (.mv false (.t 21)),nn (.t 22) (.ext (.t 19) 0),nn
  (.t 23) (.ext (.t 19) 1),ma 6 22,ma 7 23]).seq (((PC.reg [mm 24 7,nn (.t 25) (.bin .neq (.t 24) (.c (.v (.int .i64 0)))),nn (.t 26) (.mv false
  (.t 25)),gm 27 6 26 false,gm 28 0 26 false,⟨.t 29,.call 50 [.t 27,.t 28],some (.t 26,false)⟩,⟨.t 30,.un .not (.t 29),some (.t 26,false)⟩,
  nn (.t 31) (.pick (.t 26) (.c (.v (.bool true))) (.t 30))]).seq (PC.cond (.t 31) ((PC.reg [nn (.t 32) (.build (.agg [.int .i64 0,.int .i64 0,.int
  .i64 0,.agg [.int .i64 0,.int .i64 0,.int .i64 0,.int .i64 0,.arr .u8 32 [0,0,0,0,0,0,0,0,0,0,0,0,0,0,0,0,0,0,0,0,0,0,0,
  0,0,0,0,0,0,0,0,0],.int .i64 0,.arr .u8 32 [0,0,0,0,0,0,0,0,0,0,0,0,0,0,0,0,0,0,0,0,0,0,0,0,0,0,0,0,0,0,0,
  0],.arr .u8 32 zz2],.agg [.agg [.int .i64 0,.int .i64
  0,.int .i64 0,.int .i64 0,.arr .u8 32 zz2,.int .i64
  0,.arr .u8 32 zz2,.arr .u8 32 [0,0,0,0,0,0,0,0,
  0,0,0,0,0,0,0,0,0,0,0,0,0,0,0,0,0,0,0,0,0,0,0,0]],.nils],.agg [.int .i64 0,.int .i64 0,.int .i64 0,.arr .u8 32 [0,0,0,
  0,0,0,0,0,0,0,0,0,0,0,0,0,0,0,0,0,0,0,0,0,0,0,0,0,0,0,0,0],.nils,.arr .u8 32 [0,0,0,0,0,0,0,0,0,0,0,0,0,0,
  0,0,0,0,0,0,0,0,0,0,0,0,0,0,0,0,0,0]],.agg [.arr .u8 32 [0,0,0,0,0,0,0,0,0,0,0,0,0,0,0,0,0,0,0,0,0,0,0,0,0,
  0,0,0,0,0,0,0],.int .i64 0,.int .i64 0,.int .i64 0,.nils],.arr .u8 32 [0,0,0,0,0,0,0,0,0,0,0,0,0,0,0,0,0,0,0,0,0,0,
  0,0,0,0,0,0,0,0,0,0],.agg [.int .i64 0,.int .i64 0,.int .i64 0,.int .i64 0,.int .i64 0,.str ⟨⟨[]⟩⟩,.str ⟨⟨[]⟩⟩]]) []),nn .no (.store
  349 (.v 2) (.t 32)),nn (.v 3) (.mv true (.c (.v (.int .i64 2))))]).seq PC.ret) PC.skip)).seq ((PC.reg [nn (.t 33) (.load 349 true (.v 5)),nn .no
  (.store 349 (.v 2) (.t 33)),nn (.v 3) (.mv true (.c (.v (.int .i64 0))))]).seq PC.ret))))))) [(.v 2,some (349,true)),(.v 3,none)]
attribute [local irreducible] W Wops WopsD WL Wop WopD
variable {E:Env} {C:Abs.Spec} {l:List (Nat×Spec1)} {G:List (Nat×V)} {Q:R→List (Nat×V)→Prop}
set_option maxHeartbeats 1000000
def rdMsg (b:List Int):MsgS:=
 let p1:=rdUpto 10 (b,false)
 let p2:=rdUpto 21 p1.2
 let p3:=rdUpto 21 p2.2
 (rdRest p1.1 p2.1 p3.1 p3.2).1
def getMsg (b:List Int):Option MsgS:=if (rdMsg b).may=true∧(rdMsg b).bytes=b then some (rdMsg b)else none
def msgO (o:Option MsgS):MsgS:=o.getD .zero
def ZGm:Spec1
 |[x],G,Q=>∃b:List Int,(byV x=some b∧Byt b∧b.length < 100000000)∧Q (.tup [(msgO (getMsg b)).v,.int .i64 (if (getMsg b).isSome=true then 0 else 2)]) G
 |_,_,_=>False
theorem ZGm_eq {x}:ZGm [x] G Q=(∃b:List Int,(byV x=some b∧Byt b∧b.length < 100000000)∧Q (.tup [(msgO (getMsg b)).v,.int .i64 (if (getMsg b).isSome=true then 0 else 2)]) G):=rfl
theorem low_msg2 {x e:V} {m:MsgS} {G':List (Nat×V)} (hE:Ext G G') (h:V.Wk x m.v):Low G (.tup [x,e]) G' (.tup [m.v,e]) G:=
 Low.trans (Low.dropAll hE) (.wk (by unfold R.Wk;exact⟨_,rfl,wkL_cons h (wkL_cons (V.Wk.refl _) wkL_nil)⟩) (WkG.refl _) (.refl _ _))
theorem rv_same (m:MsgS):V.same m.rv (bareV 0 0 0)=true:=by
 unfold MsgS.rv
 repeat' split
 all_goals rfl
theorem walk14 {x:V} {b:List Int} (hR:Abs.look l 47=some SRd) (hU:Abs.look l 48=some SUp) (hM:Abs.look l 49=some ZMr) (hP:Abs.look l 9=some ZPm) (hE:Abs.look l 50=some ZEb2)
  (hx:byV x=some b) (hb:Byt b) (hl:b.length < 100000000) (h:Q (.tup [(msgO (getMsg b)).v,.int .i64 (if (getMsg b).isSome=true then 0 else 2)]) G):Wf E (specOf l) pf14 [x] G (fun r G'=>∃r2 G2,Low G r G' r2 G2∧Q r2 G2):=by
 rcases e1:rdUpto 10 (b,false)with⟨n1,r1,w1⟩
 rcases e2:rdUpto 21 (r1,w1)with⟨n2,r2,w2⟩
 rcases e3:rdUpto 21 (r2,w2)with⟨n3,r3,w3⟩
 rcases e4:rdRest n1 n2 n3 (r3,w3)with⟨m,r4,w4⟩
 obtain⟨z11,z12,_,_,_,_⟩:=rdUpto_all e1 hb (by omega)
 obtain⟨z21,z22,_,_,_,_⟩:=rdUpto_all e2 z11 (by omega)
 obtain⟨z31,z32,_,_,_,_⟩:=rdUpto_all e3 z21 (by omega)
 obtain⟨ok,z41,z42,_,hwk⟩:=rdRest_all e4 z31 (by omega)
 have eM:rdMsg b=m:=by unfold rdMsg;simp only[e1,e2,e3,e4]
 have no:¬(m.may=true∧m.bytes=b)→∀G',Ext G G'→∃r2 G2,Low G (.tup [bareV 0 0 0,.int .i64 2]) G' r2 G2∧Q r2 G2:=fun hn G' hE=>by
  have:getMsg b=none:=by unfold getMsg;rw[eM,if_neg hn]
  rw[this]at h
  exact⟨_,_,low_msg2 hE (wk_msg (m:=MsgS.zero) wk_ce wk_ac wk_bl),h⟩
 have yes:m.may=true∧m.bytes=b→∀G',Ext G G'→∃r2 G2,Low G (.tup [m.rv,.int .i64 0]) G' r2 G2∧Q r2 G2:=fun hn G' hE=>by
  have:getMsg b=some m:=by unfold getMsg;rw[eM,if_pos hn]
  rw[this]at h
  exact⟨_,_,low_msg2 hE hwk,h⟩
 clear h
 simp -implicitDefEqProofs only[pf14,hR,SRd_eq,go_sem,↓reduceIte]
 refine⟨b,⟨hx,by omega⟩,fun id hid=> ?_⟩
 have hG0:Abs.look ((id,V.agg [.sli .u8 b,.bool false])::G) id=some (V.agg [.sli .u8 b,.bool false]):=by rw[look_cons,if_pos rfl]
 have hE0:Ext G ((id,V.agg [.sli .u8 b,.bool false])::G):=Ext.cons hid
 generalize ((id,V.agg [.sli .u8 b,.bool false])::G)=GR at hG0 hE0⊢
 have g:∀x,Abs.look (Abs.upd GR id x) id=some x:=fun x=>look_upd_same hG0
 simp -implicitDefEqProofs only[hU,SUp_eq,g,go_sem,↓reduceIte]
 refine⟨b,false,n1,r1,w1,⟨hG0,hb,by omega,e1⟩,r1,w1,n2,r2,w2,⟨rfl,z11,by omega,e2⟩,r2,w2,n3,r3,w3,⟨rfl,z21,by omega,e3⟩,?_⟩
 try simp -implicitDefEqProofs only[go_sem,↓reduceIte]
 intro p hp
 have hne:p≠id:=fun e=>by subst e;rw[g]at hp;cases hp
 show runO _ _ ((p,bareV n1 n2 n3)::Abs.upd GR id (.agg [.sli .u8 r3,.bool w3])) _
 have hP1:Abs.look ((p,bareV n1 n2 n3)::Abs.upd GR id (.agg [.sli .u8 r3,.bool w3])) p=some (bareV n1 n2 n3):=by rw[look_cons,if_pos rfl]
 have hI1:Abs.look ((p,bareV n1 n2 n3)::Abs.upd GR id (.agg [.sli .u8 r3,.bool w3])) id=some (.agg [.sli .u8 r3,.bool w3]):=by rw[look_cons,if_neg (Ne.symm hne)];exact g _
 have hpn:Abs.look G p=none:=(hE0.upd hid).none hp
 have hE1:Ext G ((p,bareV n1 n2 n3)::Abs.upd GR id (.agg [.sli .u8 r3,.bool w3])):=(hE0.upd hid).cons' hpn
 generalize ((p,bareV n1 n2 n3)::Abs.upd GR id (.agg [.sli .u8 r3,.bool w3]))=GP at hP1 hI1 hE1⊢
 have hrs:V.size m.rv=349:=by rw[←(V.Wk.shape hwk).2.1];rfl
 have hsm:V.same m.rv (.agg [.int .i64 0,.int .i64 0,.int .i64 0,.agg [.int .i64 0,.int .i64 0,.int .i64 0,.int .i64 0,.arr .u8 32 zz2,.int .i64 0,.arr .u8 32 zz2,.arr .u8 32 zz2],.agg [.agg [.int .i64 0,.int .i64 0,.int .i64 0,.int .i64 0,.arr .u8 32 zz2,.int .i64 0,.arr .u8 32 zz2,.arr .u8 32 zz2],.nils],.agg [.int .i64 0,.int .i64 0,.int .i64 0,.arr .u8 32 zz2,.nils,.arr .u8 32 zz2],.agg [.arr .u8 32 zz2,.int .i64 0,.int .i64 0,.int .i64 0,.nils],.arr .u8 32 zz2,.agg [.int .i64 0,.int .i64 0,.int .i64 0,.int .i64 0,.int .i64 0,.str ⟨⟨[]⟩⟩,.str ⟨⟨[]⟩⟩]])=true:=rv_same m
 have hra:V.isAgg m.rv=true:=rfl
 unfold V.isAgg at hra
 have hP2:∀x,Abs.look (Abs.upd (Abs.upd GP id x) p m.rv) p=some m.rv:=fun x=>look_upd_same (x:=bareV n1 n2 n3) (by rw[look_upd_ne hne];exact hP1)
 have hE2:∀x,Ext G (Abs.upd (Abs.upd GP id x) p m.rv):=fun x=>(hE1.upd hid).upd hpn
 simp -implicitDefEqProofs only[hM,ZMr_eq,go_sem,↓reduceIte]
 refine⟨n1,n2,n3,r3,w3,m,r4,w4,⟨hI1,hP1,hne,z31,by omega,e4⟩,?_⟩
 have hP2:=hP2 (.agg [.sli .u8 r4,.bool w4])
 have hE2:=hE2 (.agg [.sli .u8 r4,.bool w4])
 generalize Abs.upd (Abs.upd GP id (.agg [.sli .u8 r4,.bool w4])) p m.rv=GQ at hP2 hE2⊢
 simp -implicitDefEqProofs only[hP2,hrs,hra,hP,ZPm_eq,go_sem,↓reduceIte]
 refine⟨m,⟨hwk,ok⟩,?_⟩
 cases hm:m.may with
 |false=>
  simp -implicitDefEqProofs only[hm,go_sem,↓reduceIte]
  exact no (by simp[hm]) _ hE2
 |true=>
  simp -implicitDefEqProofs only[hm,hE,ZEb2_eq,hP2,hrs,hra,hsm,go_sem,↓reduceIte]
  exact⟨m.bytes,b,⟨rfl,hx,(MsgS.bytes_ok ok (of_decide_eq_true hm)).1,hb⟩,fun hne=>no (fun e=>hne e.2) _ hE2,fun heq=>yes ⟨hm,heq⟩ _ hE2⟩
def pf10:PF:=
 PF.mk 1 33 133 ((PC.reg [nn (.v 1) (.box (.v 0)),nn (.v 2) (.mv true (.c (.v (.bool false))))]).seq (((PC.reg [nn (.v 5) (.fadr 1 1 (.v 1)),nn (.v 6)
  (.load 1 false (.v 5)),nn (.v 7) (.bin .lss (.v 6) (.c (.v (.int .i64 1)))),nn (.v 8) (.mv false (.v 7)),⟨.v 9,.fadr 1 1 (.v 1),some (.v 8,
  false)⟩,⟨.v 10,.load 1 false (.v 9),some (.v 8,false)⟩,⟨.v 11,.bin .gtr (.v 10) (.c (.v (.int .i64 21))),some (.v 8,false)⟩,nn (.v 12)
  (.pick (.v 8) (.c (.v (.bool true))) (.v 11)),nn (.v 13) (.mv false (.v 12)),⟨.v 14,.fadr 2 2 (.v 1),some (.v 13,false)⟩,⟨.v 15,.load 1 false
  (.v 14),some (.v 13,false)⟩,⟨.v 16,.bin .lss (.v 15) (.c (.v (.int .i64 1))),some (.v 13,false)⟩,nn (.v 17) (.pick (.v 13) (.c (.v (.bool
  true))) (.v 16)),nn (.v 18) (.mv false (.v 17)),⟨.v 19,.fadr 2 2 (.v 1),some (.v 18,false)⟩,⟨.v 20,.load 1 false (.v 19),some (.v 18,
  false)⟩,⟨.v 21,.bin .gtr (.v 20) (.c (.v (.int .i64 21))),some (.v 18,false)⟩,nn (.v 22) (.pick (.v 18) (.c (.v (.bool true))) (.v 21)),nn (.v
  23) (.mv false (.v 22)),⟨.v 24,.fadr 1 1 (.v 1),some (.v 23,false)⟩,⟨.v 25,.load 1 false (.v 24),some (.v 23,false)⟩,⟨.v 26,.fadr 2 2 (.v
  1),some (.v 23,false)⟩,⟨.v 27,.load 1 false (.v 26),some (.v 23,false)⟩,⟨.v 28,.bin .eql (.v 25) (.v 27),some (.v 23,false)⟩,nn (.v 29)
  (.pick (.v 23) (.c (.v (.bool true))) (.v 28))]).seq (PC.cond (.v 29) ((PC.reg [nn (.v 2) (.mv true (.c (.v (.bool false))))]).seq PC.ret)
  PC.skip)).seq ((PC.reg [nn (.v 30) (.load 349 true (.v 1)),nn (.v 3) (.alloc (.agg [.int .i64 0,.int .i64 0,.int .i64 0,.agg [.int .i64 0,.int
  .i64 0,.int .i64 0,.int .i64 0,.arr .u8 32 zz2,.int
  .i64 0,.arr .u8 32 zz2,.arr .u8 32 [0,0,0,0,0,0,
  0,0,0,0,0,0,0,0,0,0,0,0,0,0,0,0,0,0,0,0,0,0,0,0,0,0]],.agg [.agg [.int .i64 0,.int .i64 0,.int .i64 0,.int .i64 0,.arr
  .u8 32 zz2,.int .i64 0,.arr .u8 32 [0,0,0,0,0,0,
  0,0,0,0,0,0,0,0,0,0,0,0,0,0,0,0,0,0,0,0,0,0,0,0,0,0],.arr .u8 32 [0,0,0,0,0,0,0,0,0,0,0,0,0,0,0,0,0,0,0,
  0,0,0,0,0,0,0,0,0,0,0,0,0]],.nils],.agg [.int .i64 0,.int .i64 0,.int .i64 0,.arr .u8 32 [0,0,0,0,0,0,0,0,0,0,0,0,0,0,
  0,0,0,0,0,0,0,0,0,0,0,0,0,0,0,0,0,0],.nils,.arr .u8 32 [0,0,0,0,0,0,0,0,0,0,0,0,0,0,0,0,0,0,0,0,0,0,0,0,0,
  0,0,0,0,0,0,0]],.agg [.arr .u8 32 zz2,.int .i64
  0,.int .i64 0,.int .i64 0,.nils],.arr .u8 32 zz2,
  .agg [.int .i64 0,.int .i64 0,.int .i64 0,.int .i64 0,.int .i64 0,.str ⟨⟨[]⟩⟩,.str ⟨⟨[]⟩⟩]])),nn .no (.store 349 (.v 3) (.v 30))]).seq
  ((PC.reg [nn (.v 4) (.mv true (.c (.v (.bool false))))]).seq (((PC.reg [nn (.v 31) (.fadr 0 0 (.v 1)),nn (.v 32) (.load 1 false (.v 31))]).seq
  (PC.block 0 (((PC.reg [nn (.t 34) (.bin .eql (.v 32) (.c (.v (.int .i64 1)))),nn (.t 33) (.mv true (.t 34))]).seq (PC.cond (.t 33) PC.skip ((PC.reg
  [nn (.t 35) (.bin .eql (.v 32) (.c (.v (.int .i64 3)))),nn (.t 33) (.mv true (.t 35))]).seq (PC.cond (.t 33) PC.skip (PC.reg [nn (.t 36) (.bin .eql
  (.v 32) (.c (.v (.int .i64 5)))),nn (.t 33) (.mv true (.t 36))]))))).seq (PC.cond (.t 33) ((PC.reg [nn (.t 37) (.fadr 3 3 (.v 1)),nn (.t 38) (.load
  101 true (.t 37)),nn (.t 39) (.call 33 [.t 38]),nn (.t 40) (.mv false (.t 39)),⟨.t 41,.fadr 3 3 (.v 1),some (.t 40,true)⟩,⟨.t 42,.fadr 1 1
  (.t 41),some (.t 40,true)⟩,⟨.t 43,.load 1 false (.t 42),some (.t 40,true)⟩,⟨.t 44,.fadr 0 0 (.v 1),some (.t 40,true)⟩,⟨.t 45,.load 1
  false (.t 44),some (.t 40,true)⟩,⟨.t 46,.bin .add (.t 45) (.c (.v (.int .i64 1))),some (.t 40,true)⟩,⟨.t 47,.bin .quo (.t 46) (.c (.v (.int
  .i64 2))),some (.t 40,true)⟩,⟨.t 48,.bin .eql (.t 43) (.t 47),some (.t 40,true)⟩,nn (.t 49) (.pick (.t 40) (.t 48) (.c (.v (.bool false)))),
  ma 4 49]).seq (PC.reg [nn (.t 50) (.build (.agg [.int .i64 0,.int .i64 0,.int .i64 0,.int .i64 0,.arr .u8 32 [0,0,0,0,0,0,0,0,0,0,0,0,
  0,0,0,0,0,0,0,0,0,0,0,0,0,0,0,0,0,0,0,0],.int .i64 0,.arr .u8 32 [0,0,0,0,0,0,0,0,0,0,0,0,0,0,0,0,0,0,0,0,0,
  0,0,0,0,0,0,0,0,0,0,0],.arr .u8 32 zz2]) []),
  nn (.t 51) (.fadr 3 3 (.v 3)),nn .no (.store 101 (.t 51) (.t 50))])) ((PC.reg [nn (.t 53) (.bin .eql (.v 32) (.c (.v (.int .i64 2)))),nn (.t 52)
  (.mv true (.t 53))]).seq (PC.cond (.t 52) ((PC.reg [nn (.t 54) (.fadr 6 274 (.v 1)),nn (.t 55) (.load 36 true (.t 54)),nn (.t 56) (.call 34 [.t
  55]),nn (.t 57) (.mv false (.t 56)),⟨.t 58,.fadr 6 274 (.v 1),some (.t 57,true)⟩,⟨.t 59,.fadr 1 32 (.t 58),some (.t 57,true)⟩,⟨.t 60,.load
  1 false (.t 59),some (.t 57,true)⟩,⟨.t 61,.bin .gtr (.t 60) (.c (.v (.int .i64 0))),some (.t 57,true)⟩,nn (.t 62) (.pick (.t 57) (.t 61) (.c
  (.v (.bool false)))),nn (.t 63) (.mv false (.t 62)),⟨.t 64,.fadr 5 206 (.v 1),some (.t 63,true)⟩,⟨.t 65,.load 68 true (.t 64),some (.t 63,
  true)⟩,⟨.t 66,.call 35 [.t 65],some (.t 63,true)⟩,nn (.t 67) (.pick (.t 63) (.t 66) (.c (.v (.bool false)))),ma 4 67]).seq (PC.reg [nn (.t 68)
  (.build (.agg [.arr .u8 32 zz2,.int .i64 0,.int .i64
  0,.int .i64 0,.nils]) []),nn (.t 69) (.build (.agg [.int .i64 0,.int .i64 0,.int .i64 0,.arr .u8 32 [0,0,0,0,0,0,0,0,0,0,0,0,0,0,
  0,0,0,0,0,0,0,0,0,0,0,0,0,0,0,0,0,0],.nils,.arr .u8 32 [0,0,0,0,0,0,0,0,0,0,0,0,0,0,0,0,0,0,0,0,0,0,0,0,0,
  0,0,0,0,0,0,0]]) []),nn (.t 70) (.fadr 6 274 (.v 3)),nn .no (.store 36 (.t 70) (.t 68)),nn (.t 71) (.fadr 5 206 (.v 3)),nn .no (.store 68
  (.t 71) (.t 69))])) (((PC.reg [nn (.t 73) (.bin .eql (.v 32) (.c (.v (.int .i64 4)))),nn (.t 72) (.mv true (.t 73))]).seq (PC.cond (.t 72) PC.skip
  (PC.reg [nn (.t 74) (.bin .eql (.v 32) (.c (.v (.int .i64 6)))),nn (.t 72) (.mv true (.t 74))]))).seq (PC.cond (.t 72) ((PC.reg [nn (.t 75) (.fadr 4
  104 (.v 1)),nn (.t 76) (.load 102 true (.t 75)),nn (.t 77) (.call 36 [.t 76]),nn (.t 78) (.mv false (.t 77)),⟨.t 79,.fadr 4 104 (.v 1),some (.t
  78,true)⟩,⟨.t 80,.fadr 0 0 (.t 79),some (.t 78,true)⟩,⟨.t 81,.fadr 1 1 (.t 80),some (.t 78,true)⟩,⟨.t 82,.load 1 false (.t 81),some (.t
  78,true)⟩,⟨.t 83,.fadr 0 0 (.v 1),some (.t 78,true)⟩,⟨.t 84,.load 1 false (.t 83),some (.t 78,true)⟩,⟨.t 85,.bin .quo (.t 84) (.c (.v
  (.int .i64 2))),some (.t 78,true)⟩,⟨.t 86,.bin .eql (.t 82) (.t 85),some (.t 78,true)⟩,nn (.t 87) (.pick (.t 78) (.t 86) (.c (.v (.bool
  false)))),ma 4 87]).seq (PC.reg [nn (.t 88) (.build (.agg [.agg [.int .i64 0,.int .i64 0,.int .i64 0,.int .i64 0,.arr .u8 32 [0,0,0,0,0,0,
  0,0,0,0,0,0,0,0,0,0,0,0,0,0,0,0,0,0,0,0,0,0,0,0,0,0],.int .i64 0,.arr .u8 32 [0,0,0,0,0,0,0,0,0,0,0,0,0,0,0,
  0,0,0,0,0,0,0,0,0,0,0,0,0,0,0,0,0],.arr .u8 32 [0,0,0,0,0,0,0,0,0,0,0,0,0,0,0,0,0,0,0,0,0,0,0,0,0,0,0,0,
  0,0,0,0]],.nils]) []),nn (.t 89) (.fadr 4 104 (.v 3)),nn .no (.store 102 (.t 89) (.t 88))])) ((PC.reg [nn (.t 91) (.bin .eql (.v 32) (.c (.v
  (.int .i64 7)))),nn (.t 90) (.mv true (.t 91))]).seq (PC.cond (.t 90) ((PC.reg [nn (.v 4) (.mv true (.c (.v (.bool true))))]).seq (PC.reg [nn (.t
  92) (.build (.arr .u8 32 zz2) []),nn (.t 93) (.fadr 7
  310 (.v 3)),nn .no (.store 32 (.t 93) (.t 92))])) ((PC.reg [nn (.t 95) (.bin .eql (.v 32) (.c (.v (.int .i64 8)))),nn (.t 94) (.mv true (.t
  95))]).seq (PC.cond (.t 94) ((PC.reg [nn (.t 96) (.fadr 6 274 (.v 1)),nn (.t 97) (.load 36 true (.t 96)),nn (.t 98) (.call 34 [.t 97]),nn (.t 99)
  (.mv false (.t 98)),⟨.t 100,.fadr 6 274 (.v 1),some (.t 99,true)⟩,⟨.t 101,.fadr 1 32 (.t 100),some (.t 99,true)⟩,⟨.t 102,.load 1 false (.t
  101),some (.t 99,true)⟩,⟨.t 103,.bin .gtr (.t 102) (.c (.v (.int .i64 0))),some (.t 99,true)⟩,nn (.t 104) (.pick (.t 99) (.t 103) (.c (.v
  (.bool false)))),ma 4 104]).seq (PC.reg [nn (.t 105) (.build (.agg [.arr .u8 32 [0,0,0,0,0,0,0,0,0,0,0,0,0,0,0,0,0,0,0,0,0,0,
  0,0,0,0,0,0,0,0,0,0],.int .i64 0,.int .i64 0,.int .i64 0,.nils]) []),nn (.t 106) (.fadr 6 274 (.v 3)),nn .no (.store 36 (.t 106) (.t
  105))])) ((PC.reg [nn (.t 108) (.bin .eql (.v 32) (.c (.v (.int .i64 9)))),nn (.t 107) (.mv true (.t 108))]).seq (PC.cond (.t 107) ((PC.reg [nn (.t
  109) (.fadr 8 342 (.v 1)),nn (.t 110) (.load 7 true (.t 109)),nn (.t 111) (.call 37 [.t 110]),ma 4 111]).seq (PC.reg [nn (.t 112) (.build (.agg
  [.int .i64 0,.int .i64 0,.int .i64 0,.int .i64 0,.int .i64 0,.str ⟨⟨[]⟩⟩,.str ⟨⟨[]⟩⟩]) []),nn (.t 113) (.fadr 8 342 (.v 3)),nn .no (.store 7
  (.t 113) (.t 112))])) ((PC.reg [nn (.t 115) (.bin .eql (.v 32) (.c (.v (.int .i64 10)))),nn (.t 114) (.mv true (.t 115))]).seq (PC.cond (.t 114)
  ((PC.reg [nn (.t 116) (.fadr 5 206 (.v 1)),nn (.t 117) (.load 68 true (.t 116)),nn (.t 118) (.call 35 [.t 117]),ma 4 118]).seq (PC.reg [nn (.t
  119) (.build (.agg [.int .i64 0,.int .i64 0,.int .i64 0,.arr .u8 32 [0,0,0,0,0,0,0,0,0,0,0,0,0,0,0,0,0,0,0,0,0,0,0,0,0,0,
  0,0,0,0,0,0],.nils,.arr .u8 32 zz2]) []),nn (.t
  120) (.fadr 5 206 (.v 3)),nn .no (.store 68 (.t 120) (.t 119))])) PC.skip)))))))))))))))).seq ((PC.reg [mm 121 4,nn (.t 122) (.mv false (.t 121)),
  ⟨.t 123,.load 349 true (.v 3),some (.t 122,true)⟩,⟨.t 124,.fadr 0 0 (.v 1),some (.t 122,true)⟩,⟨.t 125,.load 1 false (.t 124),some (.t 122,
  true)⟩,⟨.t 126,.fadr 1 1 (.v 1),some (.t 122,true)⟩,⟨.t 127,.load 1 false (.t 126),some (.t 122,true)⟩,⟨.t 128,.fadr 2 2 (.v 1),some (.t
  122,true)⟩,⟨.t 129,.load 1 false (.t 128),some (.t 122,true)⟩,⟨.t 130,.build (.agg [.int .i64 0,.int .i64 0,.int .i64 0,.agg [.int .i64 0,
  .int .i64 0,.int .i64 0,.int .i64 0,.arr .u8 32 zz2,
  .int .i64 0,.arr .u8 32 zz2,.arr .u8 32 [0,0,0,0,
  0,0,0,0,0,0,0,0,0,0,0,0,0,0,0,0,0,0,0,0,0,0,0,0,0,0,0,0]],.agg [.agg [.int .i64 0,.int .i64 0,.int .i64 0,.int .i64 0,
  .arr .u8 32 zz2,.int .i64 0,.arr .u8 32 [0,0,0,0,
  0,0,0,0,0,0,0,0,0,0,0,0,0,0,0,0,0,0,0,0,0,0,0,0,0,0,0,0],.arr .u8 32 [0,0,0,0,0,0,0,0,0,0,0,0,0,0,0,0,0,
  0,0,0,0,0,0,0,0,0,0,0,0,0,0,0]],.nils],.agg [.int .i64 0,.int .i64 0,.int .i64 0,.arr .u8 32 [0,0,0,0,0,0,0,0,0,0,0,0,
  0,0,0,0,0,0,0,0,0,0,0,0,0,0,0,0,0,0,0,0],.nils,.arr .u8 32 [0,0,0,0,0,0,0,0,0,0,0,0,0,0,0,0,0,0,0,0,0,0,0,
  0,0,0,0,0,0,0,0,0]],.agg [.arr .u8 32 zz2,.int
  .i64 0,.int .i64 0,.int .i64 0,.nils],.arr .u8 32 [0,0,0,0,0,0,0,0,0,0,0,0,0,0,0,0,0,0,0,0,0,0,0,0,0,0,0,0,0,0,0,
  0],.agg [.int .i64 0,.int .i64 0,.int .i64 0,.int .i64 0,.int .i64 0,.str ⟨⟨[]⟩⟩,.str ⟨⟨[]⟩⟩]]) [(0,.t 125),(1,.t 127),(2,.t 129)],some
  (.t 122,true)⟩,⟨.t 131,.call 13 [.t 123,.t 130],some (.t 122,true)⟩,nn (.t 132) (.pick (.t 122) (.t 131) (.c (.v (.bool false)))),ma 2
  132]).seq PC.ret)))))) [(.v 2,none)]
def ZYm:Spec1
 |[x],G,Q=>∃m:MsgS,(V.Wk x m.v∧m.ok)∧Q (.v (.bool m.may)) G
 |_,_,_=>False
theorem ZYm_eq {x}:ZYm [x] G Q=(∃m:MsgS,(V.Wk x m.v∧m.ok)∧Q (.v (.bool m.may)) G):=rfl
theorem may_of {m n z:MsgS} (h1:(1≤m.fr∧m.fr≤21)∧(1≤m.to∧m.to≤21)∧m.fr≠m.to) (h2:m.has=true) (h3:m=m.named↔n=z):m.may=decide (n=z):=by
 unfold MsgS.may;rw[decide_eq_decide];exact⟨fun h=>h3.1 h.2.2,fun h=>⟨h1,h2,h3.2 h⟩⟩
theorem walk10 {m:MsgS} (hA:Abs.look l 33=some SMy) (hB:Abs.look l 34=some ZKm) (hX:Abs.look l 35=some ZM10) (hC:Abs.look l 36=some ZMc) (hT:Abs.look l 37=some ZTm) (hS:Abs.look l 13=some ZMs)
  (ok:m.ok) (h:Q (.v (.bool m.may)) G):Wf E (specOf l) pf10 [m.v] G Q:=by
 have no:¬m.May→Q (.v (.bool false)) G:=fun hn=>finB h (by unfold MsgS.may;rw[decide_eq_false_iff_not];exact hn)
 have key:∀c:Bool,m.may=c→Q (.v (.bool c)) G:=fun c e=>by rw[←e];exact h
 clear h
 have shm:=ok.sh
 obtain⟨o1,o2,o3,o4,o5,o6,o7,o8,o9⟩:=ok
 obtain⟨k,f,t,a,c,x,b,hh,y⟩:=m
 obtain⟨a1,a2,a3,a4,a5,a6,a7,a8⟩:=a
 obtain⟨⟨c1,c2,c3,c4,c5,c6,c7,c8⟩,cs⟩:=c
 obtain⟨x1,x2,x3,x4,x5,x6⟩:=x
 obtain⟨b1,b2,b3,b4,b5⟩:=b
 obtain⟨y1,y2,y3,y4,y5,y6,y7⟩:=y
 dsimp only at o1 o2 o3 o4 o5 o6 o7 o8 o9
 have lh:hh.length=32:=o7.2
 show Wf E (specOf l) pf10 [.agg [.int .i64 k,.int .i64 f,.int .i64 t,.agg [.int .i64 a1,.int .i64 a2,.int .i64 a3,.int .i64 a4,.arr .u8 32 a5,.int .i64 a6,.arr .u8 32 a7,.arr .u8 32 a8],.agg [.agg [.int .i64 c1,.int .i64 c2,.int .i64 c3,.int .i64 c4,.arr .u8 32 c5,.int .i64 c6,.arr .u8 32 c7,.arr .u8 32 c8],.sle 33 (cs.map sgV)],.agg [.int .i64 x1,.int .i64 x2,.int .i64 x3,.arr .u8 32 x4,.sli .i64 x5,.arr .u8 32 x6],.agg [.arr .u8 32 b1,.int .i64 b2,.int .i64 b3,.int .i64 b4,.sle 7 (b5.map TxS.v)],.arr .u8 32 hh,.agg [.int .i64 y1,.int .i64 y2,.int .i64 y3,.int .i64 y4,.int .i64 y5,.str y6,.str y7]]] G Q
 by_cases k1:k=1
 ·subst k1
  have w:IntKind.i64.wrap ((IntKind.i64.wrap 2).tdiv 2)=1:=by decide
  simp -implicitDefEqProofs only[pf10,lh,hA,SMy_eq,hS,ZMs_eq,w,go_sem,↓reduceIte]
  have shb:MsgS.sh (MsgS.bare 1 f t):=(MsgS.bare_ok 1 f t).sh
  refine⟨fun e=>no fun h=>by have:=h.1.1.1;dsimp only at this;omega,fun e1=>⟨fun e=>no fun h=>by have:=h.1.1.2;dsimp only at this;omega,fun e2=>⟨fun e=>no fun h=>by have:=h.1.2.1.1;dsimp only at this;omega,fun e3=>⟨fun e=>no fun h=>by have:=h.1.2.1.2;dsimp only at this;omega,fun e4=>⟨fun e=>no fun h=>h.1.2.2 e,fun e5=> ?_⟩⟩⟩⟩⟩
  exact⟨o1,fun e6=>⟨fun e7=>⟨⟨1,f,t,.zero,⟨⟨c1,c2,c3,c4,c5,c6,c7,c8⟩,cs⟩,⟨x1,x2,x3,x4,x5,x6⟩,⟨b1,b2,b3,b4,b5⟩,hh,⟨y1,y2,y3,y4,y5,y6,y7⟩⟩,MsgS.bare 1 f t,⟨wk_msg (m:=⟨1,f,t,.zero,⟨⟨c1,c2,c3,c4,c5,c6,c7,c8⟩,cs⟩,⟨x1,x2,x3,x4,x5,x6⟩,⟨b1,b2,b3,b4,b5⟩,hh,⟨y1,y2,y3,y4,y5,y6,y7⟩⟩) (V.Wk.refl _) (V.Wk.refl _) (V.Wk.refl _),wk_msg (m:=MsgS.bare 1 f t) wk_ce wk_ac wk_bl,⟨shm.1,shm.2.1,shm.2.2⟩,shb⟩,key _ (may_of ⟨⟨e1,e2⟩,⟨e3,e4⟩,e5⟩ (by subst e7;simp[MsgS.has,e6]) (by simp[MsgS.named,MsgS.bare]))⟩,fun e7=>no fun h=>by have:=h.2.1;simp[MsgS.has,e6,e7]at this⟩,fun e6=>no fun h=>by have:=h.2.1;simp[MsgS.has,e6]at this⟩
 by_cases k3:k=3
 ·subst k3
  have w:IntKind.i64.wrap ((IntKind.i64.wrap 4).tdiv 2)=2:=by decide
  simp -implicitDefEqProofs only[pf10,lh,hA,SMy_eq,hS,ZMs_eq,w,go_sem,↓reduceIte]
  have shb:MsgS.sh (MsgS.bare 3 f t):=(MsgS.bare_ok 3 f t).sh
  refine⟨fun e=>no fun h=>by have:=h.1.1.1;dsimp only at this;omega,fun e1=>⟨fun e=>no fun h=>by have:=h.1.1.2;dsimp only at this;omega,fun e2=>⟨fun e=>no fun h=>by have:=h.1.2.1.1;dsimp only at this;omega,fun e3=>⟨fun e=>no fun h=>by have:=h.1.2.1.2;dsimp only at this;omega,fun e4=>⟨fun e=>no fun h=>h.1.2.2 e,fun e5=> ?_⟩⟩⟩⟩⟩
  exact⟨o1,fun e6=>⟨fun e7=>⟨⟨3,f,t,.zero,⟨⟨c1,c2,c3,c4,c5,c6,c7,c8⟩,cs⟩,⟨x1,x2,x3,x4,x5,x6⟩,⟨b1,b2,b3,b4,b5⟩,hh,⟨y1,y2,y3,y4,y5,y6,y7⟩⟩,MsgS.bare 3 f t,⟨wk_msg (m:=⟨3,f,t,.zero,⟨⟨c1,c2,c3,c4,c5,c6,c7,c8⟩,cs⟩,⟨x1,x2,x3,x4,x5,x6⟩,⟨b1,b2,b3,b4,b5⟩,hh,⟨y1,y2,y3,y4,y5,y6,y7⟩⟩) (V.Wk.refl _) (V.Wk.refl _) (V.Wk.refl _),wk_msg (m:=MsgS.bare 3 f t) wk_ce wk_ac wk_bl,⟨shm.1,shm.2.1,shm.2.2⟩,shb⟩,key _ (may_of ⟨⟨e1,e2⟩,⟨e3,e4⟩,e5⟩ (by subst e7;simp[MsgS.has,e6]) (by simp[MsgS.named,MsgS.bare]))⟩,fun e7=>no fun h=>by have:=h.2.1;simp[MsgS.has,e6,e7]at this⟩,fun e6=>no fun h=>by have:=h.2.1;simp[MsgS.has,e6]at this⟩
 by_cases k5:k=5
 ·subst k5
  have w:IntKind.i64.wrap ((IntKind.i64.wrap 6).tdiv 2)=3:=by decide
  simp -implicitDefEqProofs only[pf10,lh,hA,SMy_eq,hS,ZMs_eq,w,go_sem,↓reduceIte]
  have shb:MsgS.sh (MsgS.bare 5 f t):=(MsgS.bare_ok 5 f t).sh
  refine⟨fun e=>no fun h=>by have:=h.1.1.1;dsimp only at this;omega,fun e1=>⟨fun e=>no fun h=>by have:=h.1.1.2;dsimp only at this;omega,fun e2=>⟨fun e=>no fun h=>by have:=h.1.2.1.1;dsimp only at this;omega,fun e3=>⟨fun e=>no fun h=>by have:=h.1.2.1.2;dsimp only at this;omega,fun e4=>⟨fun e=>no fun h=>h.1.2.2 e,fun e5=> ?_⟩⟩⟩⟩⟩
  exact⟨o1,fun e6=>⟨fun e7=>⟨⟨5,f,t,.zero,⟨⟨c1,c2,c3,c4,c5,c6,c7,c8⟩,cs⟩,⟨x1,x2,x3,x4,x5,x6⟩,⟨b1,b2,b3,b4,b5⟩,hh,⟨y1,y2,y3,y4,y5,y6,y7⟩⟩,MsgS.bare 5 f t,⟨wk_msg (m:=⟨5,f,t,.zero,⟨⟨c1,c2,c3,c4,c5,c6,c7,c8⟩,cs⟩,⟨x1,x2,x3,x4,x5,x6⟩,⟨b1,b2,b3,b4,b5⟩,hh,⟨y1,y2,y3,y4,y5,y6,y7⟩⟩) (V.Wk.refl _) (V.Wk.refl _) (V.Wk.refl _),wk_msg (m:=MsgS.bare 5 f t) wk_ce wk_ac wk_bl,⟨shm.1,shm.2.1,shm.2.2⟩,shb⟩,key _ (may_of ⟨⟨e1,e2⟩,⟨e3,e4⟩,e5⟩ (by subst e7;simp[MsgS.has,e6]) (by simp[MsgS.named,MsgS.bare]))⟩,fun e7=>no fun h=>by have:=h.2.1;simp[MsgS.has,e6,e7]at this⟩,fun e6=>no fun h=>by have:=h.2.1;simp[MsgS.has,e6]at this⟩
 by_cases k4:k=4
 ·subst k4
  have w:IntKind.i64.wrap (Int.tdiv 4 2)=2:=by decide
  simp -implicitDefEqProofs only[pf10,lh,hC,ZMc_eq,hS,ZMs_eq,w,go_sem,↓reduceIte]
  have shb:MsgS.sh (MsgS.bare 4 f t):=(MsgS.bare_ok 4 f t).sh
  refine⟨fun e=>no fun h=>by have:=h.1.1.1;dsimp only at this;omega,fun e1=>⟨fun e=>no fun h=>by have:=h.1.1.2;dsimp only at this;omega,fun e2=>⟨fun e=>no fun h=>by have:=h.1.2.1.1;dsimp only at this;omega,fun e3=>⟨fun e=>no fun h=>by have:=h.1.2.1.2;dsimp only at this;omega,fun e4=>⟨fun e=>no fun h=>h.1.2.2 e,fun e5=> ?_⟩⟩⟩⟩⟩
  exact⟨⟨c1,c2,c3,c4,c5,c6,c7,c8⟩,_,cs,⟨rfl,.inl rfl,o2.1,o3⟩,fun e6=>⟨fun e7=>⟨⟨4,f,t,⟨a1,a2,a3,a4,a5,a6,a7,a8⟩,.zero,⟨x1,x2,x3,x4,x5,x6⟩,⟨b1,b2,b3,b4,b5⟩,hh,⟨y1,y2,y3,y4,y5,y6,y7⟩⟩,MsgS.bare 4 f t,⟨wk_msg (m:=⟨4,f,t,⟨a1,a2,a3,a4,a5,a6,a7,a8⟩,.zero,⟨x1,x2,x3,x4,x5,x6⟩,⟨b1,b2,b3,b4,b5⟩,hh,⟨y1,y2,y3,y4,y5,y6,y7⟩⟩) wk_ce (V.Wk.refl _) (V.Wk.refl _),wk_msg (m:=MsgS.bare 4 f t) wk_ce wk_ac wk_bl,⟨(show CertS.zero.sigs.length < 1000000 by decide),shm.2.1,shm.2.2⟩,shb⟩,key _ (may_of ⟨⟨e1,e2⟩,⟨e3,e4⟩,e5⟩ (by subst e7;simp[MsgS.has,e6]) (by simp[MsgS.named,MsgS.bare]))⟩,fun e7=>no fun h=>by have:=h.2.1;simp[MsgS.has,e6,e7]at this⟩,fun e6=>no fun h=>by have:=h.2.1;simp[MsgS.has,e6]at this⟩
 by_cases k6:k=6
 ·subst k6
  have w:IntKind.i64.wrap (Int.tdiv 6 2)=3:=by decide
  simp -implicitDefEqProofs only[pf10,lh,hC,ZMc_eq,hS,ZMs_eq,w,go_sem,↓reduceIte]
  have shb:MsgS.sh (MsgS.bare 6 f t):=(MsgS.bare_ok 6 f t).sh
  refine⟨fun e=>no fun h=>by have:=h.1.1.1;dsimp only at this;omega,fun e1=>⟨fun e=>no fun h=>by have:=h.1.1.2;dsimp only at this;omega,fun e2=>⟨fun e=>no fun h=>by have:=h.1.2.1.1;dsimp only at this;omega,fun e3=>⟨fun e=>no fun h=>by have:=h.1.2.1.2;dsimp only at this;omega,fun e4=>⟨fun e=>no fun h=>h.1.2.2 e,fun e5=> ?_⟩⟩⟩⟩⟩
  exact⟨⟨c1,c2,c3,c4,c5,c6,c7,c8⟩,_,cs,⟨rfl,.inl rfl,o2.1,o3⟩,fun e6=>⟨fun e7=>⟨⟨6,f,t,⟨a1,a2,a3,a4,a5,a6,a7,a8⟩,.zero,⟨x1,x2,x3,x4,x5,x6⟩,⟨b1,b2,b3,b4,b5⟩,hh,⟨y1,y2,y3,y4,y5,y6,y7⟩⟩,MsgS.bare 6 f t,⟨wk_msg (m:=⟨6,f,t,⟨a1,a2,a3,a4,a5,a6,a7,a8⟩,.zero,⟨x1,x2,x3,x4,x5,x6⟩,⟨b1,b2,b3,b4,b5⟩,hh,⟨y1,y2,y3,y4,y5,y6,y7⟩⟩) wk_ce (V.Wk.refl _) (V.Wk.refl _),wk_msg (m:=MsgS.bare 6 f t) wk_ce wk_ac wk_bl,⟨(show CertS.zero.sigs.length < 1000000 by decide),shm.2.1,shm.2.2⟩,shb⟩,key _ (may_of ⟨⟨e1,e2⟩,⟨e3,e4⟩,e5⟩ (by subst e7;simp[MsgS.has,e6]) (by simp[MsgS.named,MsgS.bare]))⟩,fun e7=>no fun h=>by have:=h.2.1;simp[MsgS.has,e6,e7]at this⟩,fun e6=>no fun h=>by have:=h.2.1;simp[MsgS.has,e6]at this⟩
 by_cases k2:k=2
 ·subst k2
  simp -implicitDefEqProofs only[pf10,lh,hB,ZKm_eq,hX,ZM10_eq,hS,ZMs_eq,go_sem,↓reduceIte]
  have shb:MsgS.sh (MsgS.bare 2 f t):=(MsgS.bare_ok 2 f t).sh
  refine⟨fun e=>no fun h=>by have:=h.1.1.1;dsimp only at this;omega,fun e1=>⟨fun e=>no fun h=>by have:=h.1.1.2;dsimp only at this;omega,fun e2=>⟨fun e=>no fun h=>by have:=h.1.2.1.1;dsimp only at this;omega,fun e3=>⟨fun e=>no fun h=>by have:=h.1.2.1.2;dsimp only at this;omega,fun e4=>⟨fun e=>no fun h=>h.1.2.2 e,fun e5=> ?_⟩⟩⟩⟩⟩
  exact⟨⟨b1,b2,b3,b4,b5⟩,_,⟨rfl,.inl (.inl rfl),o6.2⟩,fun e6=>⟨fun e7=>⟨x5,⟨.inl rfl,o4,o5⟩,fun e8=>⟨⟨2,f,t,⟨a1,a2,a3,a4,a5,a6,a7,a8⟩,⟨⟨c1,c2,c3,c4,c5,c6,c7,c8⟩,cs⟩,.zero,.zero,hh,⟨y1,y2,y3,y4,y5,y6,y7⟩⟩,MsgS.bare 2 f t,⟨wk_msg (m:=⟨2,f,t,⟨a1,a2,a3,a4,a5,a6,a7,a8⟩,⟨⟨c1,c2,c3,c4,c5,c6,c7,c8⟩,cs⟩,.zero,.zero,hh,⟨y1,y2,y3,y4,y5,y6,y7⟩⟩) (V.Wk.refl _) wk_ac wk_bl,wk_msg (m:=MsgS.bare 2 f t) wk_ce wk_ac wk_bl,⟨shm.1,(show AccS.zero.fr.length < 1000000 by decide),(show BlkS.zero.txs.length < 1000000 by decide)⟩,shb⟩,key _ (may_of ⟨⟨e1,e2⟩,⟨e3,e4⟩,e5⟩ (by simp[MsgS.has,e6,e7,e8]) (by simp[MsgS.named,MsgS.bare]))⟩,fun e8=>no fun h=>by have:=h.2.1;simp[MsgS.has,e6,e7,e8]at this⟩,fun e7=>no fun h=>by have:=h.2.1;simp[MsgS.has,e6]at this;omega⟩,fun e6=>no fun h=>by have:=h.2.1;simp[MsgS.has,e6]at this⟩
 by_cases k8:k=8
 ·subst k8
  simp -implicitDefEqProofs only[pf10,lh,hB,ZKm_eq,hX,ZM10_eq,hS,ZMs_eq,go_sem,↓reduceIte]
  have shb:MsgS.sh (MsgS.bare 8 f t):=(MsgS.bare_ok 8 f t).sh
  refine⟨fun e=>no fun h=>by have:=h.1.1.1;dsimp only at this;omega,fun e1=>⟨fun e=>no fun h=>by have:=h.1.1.2;dsimp only at this;omega,fun e2=>⟨fun e=>no fun h=>by have:=h.1.2.1.1;dsimp only at this;omega,fun e3=>⟨fun e=>no fun h=>by have:=h.1.2.1.2;dsimp only at this;omega,fun e4=>⟨fun e=>no fun h=>h.1.2.2 e,fun e5=> ?_⟩⟩⟩⟩⟩
  exact⟨⟨b1,b2,b3,b4,b5⟩,_,⟨rfl,.inl (.inl rfl),o6.2⟩,fun e6=>⟨fun e7=>⟨⟨8,f,t,⟨a1,a2,a3,a4,a5,a6,a7,a8⟩,⟨⟨c1,c2,c3,c4,c5,c6,c7,c8⟩,cs⟩,⟨x1,x2,x3,x4,x5,x6⟩,.zero,hh,⟨y1,y2,y3,y4,y5,y6,y7⟩⟩,MsgS.bare 8 f t,⟨wk_msg (m:=⟨8,f,t,⟨a1,a2,a3,a4,a5,a6,a7,a8⟩,⟨⟨c1,c2,c3,c4,c5,c6,c7,c8⟩,cs⟩,⟨x1,x2,x3,x4,x5,x6⟩,.zero,hh,⟨y1,y2,y3,y4,y5,y6,y7⟩⟩) (V.Wk.refl _) (V.Wk.refl _) wk_bl,wk_msg (m:=MsgS.bare 8 f t) wk_ce wk_ac wk_bl,⟨shm.1,shm.2.1,(show BlkS.zero.txs.length < 1000000 by decide)⟩,shb⟩,key _ (may_of ⟨⟨e1,e2⟩,⟨e3,e4⟩,e5⟩ (by simp[MsgS.has,e6,e7]) (by simp[MsgS.named,MsgS.bare]))⟩,fun e7=>no fun h=>by have:=h.2.1;simp[MsgS.has,e6]at this;omega⟩,fun e6=>no fun h=>by have:=h.2.1;simp[MsgS.has,e6]at this⟩
 by_cases k7:k=7
 ·subst k7
  simp -implicitDefEqProofs only[pf10,lh,hS,ZMs_eq,go_sem,↓reduceIte]
  have shb:MsgS.sh (MsgS.bare 7 f t):=(MsgS.bare_ok 7 f t).sh
  refine⟨fun e=>no fun h=>by have:=h.1.1.1;dsimp only at this;omega,fun e1=>⟨fun e=>no fun h=>by have:=h.1.1.2;dsimp only at this;omega,fun e2=>⟨fun e=>no fun h=>by have:=h.1.2.1.1;dsimp only at this;omega,fun e3=>⟨fun e=>no fun h=>by have:=h.1.2.1.2;dsimp only at this;omega,fun e4=>⟨fun e=>no fun h=>h.1.2.2 e,fun e5=> ?_⟩⟩⟩⟩⟩
  exact⟨⟨7,f,t,⟨a1,a2,a3,a4,a5,a6,a7,a8⟩,⟨⟨c1,c2,c3,c4,c5,c6,c7,c8⟩,cs⟩,⟨x1,x2,x3,x4,x5,x6⟩,⟨b1,b2,b3,b4,b5⟩,zero32,⟨y1,y2,y3,y4,y5,y6,y7⟩⟩,MsgS.bare 7 f t,⟨wk_msg (m:=⟨7,f,t,⟨a1,a2,a3,a4,a5,a6,a7,a8⟩,⟨⟨c1,c2,c3,c4,c5,c6,c7,c8⟩,cs⟩,⟨x1,x2,x3,x4,x5,x6⟩,⟨b1,b2,b3,b4,b5⟩,zero32,⟨y1,y2,y3,y4,y5,y6,y7⟩⟩) (V.Wk.refl _) (V.Wk.refl _) (V.Wk.refl _),wk_msg (m:=MsgS.bare 7 f t) wk_ce wk_ac wk_bl,⟨shm.1,shm.2.1,shm.2.2⟩,shb⟩,key _ (may_of ⟨⟨e1,e2⟩,⟨e3,e4⟩,e5⟩ (by simp[MsgS.has,true_or]) (by simp[MsgS.named,MsgS.bare]))⟩
 by_cases k9:k=9
 ·subst k9
  simp -implicitDefEqProofs only[pf10,lh,hT,ZTm_eq,hS,ZMs_eq,go_sem,↓reduceIte]
  have shb:MsgS.sh (MsgS.bare 9 f t):=(MsgS.bare_ok 9 f t).sh
  refine⟨fun e=>no fun h=>by have:=h.1.1.1;dsimp only at this;omega,fun e1=>⟨fun e=>no fun h=>by have:=h.1.1.2;dsimp only at this;omega,fun e2=>⟨fun e=>no fun h=>by have:=h.1.2.1.1;dsimp only at this;omega,fun e3=>⟨fun e=>no fun h=>by have:=h.1.2.1.2;dsimp only at this;omega,fun e4=>⟨fun e=>no fun h=>h.1.2.2 e,fun e5=> ?_⟩⟩⟩⟩⟩
  exact⟨⟨y1,y2,y3,y4,y5,y6,y7⟩,⟨rfl,o8,o9⟩,fun e6=>⟨⟨9,f,t,⟨a1,a2,a3,a4,a5,a6,a7,a8⟩,⟨⟨c1,c2,c3,c4,c5,c6,c7,c8⟩,cs⟩,⟨x1,x2,x3,x4,x5,x6⟩,⟨b1,b2,b3,b4,b5⟩,hh,.zero⟩,MsgS.bare 9 f t,⟨wk_msg (m:=⟨9,f,t,⟨a1,a2,a3,a4,a5,a6,a7,a8⟩,⟨⟨c1,c2,c3,c4,c5,c6,c7,c8⟩,cs⟩,⟨x1,x2,x3,x4,x5,x6⟩,⟨b1,b2,b3,b4,b5⟩,hh,.zero⟩) (V.Wk.refl _) (V.Wk.refl _) (V.Wk.refl _),wk_msg (m:=MsgS.bare 9 f t) wk_ce wk_ac wk_bl,⟨shm.1,shm.2.1,shm.2.2⟩,shb⟩,key _ (may_of ⟨⟨e1,e2⟩,⟨e3,e4⟩,e5⟩ (by simp[MsgS.has,e6]) (by simp[MsgS.named,MsgS.bare]))⟩,fun e6=>no fun h=>by have:=h.2.1;simp[MsgS.has,e6]at this⟩
 by_cases k10:k=10
 ·subst k10
  simp -implicitDefEqProofs only[pf10,lh,hX,ZM10_eq,hS,ZMs_eq,go_sem,↓reduceIte]
  have shb:MsgS.sh (MsgS.bare 10 f t):=(MsgS.bare_ok 10 f t).sh
  refine⟨fun e=>no fun h=>by have:=h.1.1.1;dsimp only at this;omega,fun e1=>⟨fun e=>no fun h=>by have:=h.1.1.2;dsimp only at this;omega,fun e2=>⟨fun e=>no fun h=>by have:=h.1.2.1.1;dsimp only at this;omega,fun e3=>⟨fun e=>no fun h=>by have:=h.1.2.1.2;dsimp only at this;omega,fun e4=>⟨fun e=>no fun h=>h.1.2.2 e,fun e5=> ?_⟩⟩⟩⟩⟩
  exact⟨x5,⟨.inl rfl,o4,o5⟩,fun e6=>⟨⟨10,f,t,⟨a1,a2,a3,a4,a5,a6,a7,a8⟩,⟨⟨c1,c2,c3,c4,c5,c6,c7,c8⟩,cs⟩,.zero,⟨b1,b2,b3,b4,b5⟩,hh,⟨y1,y2,y3,y4,y5,y6,y7⟩⟩,MsgS.bare 10 f t,⟨wk_msg (m:=⟨10,f,t,⟨a1,a2,a3,a4,a5,a6,a7,a8⟩,⟨⟨c1,c2,c3,c4,c5,c6,c7,c8⟩,cs⟩,.zero,⟨b1,b2,b3,b4,b5⟩,hh,⟨y1,y2,y3,y4,y5,y6,y7⟩⟩) (V.Wk.refl _) wk_ac (V.Wk.refl _),wk_msg (m:=MsgS.bare 10 f t) wk_ce wk_ac wk_bl,⟨shm.1,(show AccS.zero.fr.length < 1000000 by decide),shm.2.2⟩,shb⟩,key _ (may_of ⟨⟨e1,e2⟩,⟨e3,e4⟩,e5⟩ (by simp[MsgS.has,e6]) (by simp[MsgS.named,MsgS.bare]))⟩,fun e6=>no fun h=>by have:=h.2.1;simp[MsgS.has,e6]at this⟩
 simp -implicitDefEqProofs only[pf10,lh,k1,k2,k3,k4,k5,k6,k7,k8,k9,k10,go_sem,↓reduceIte]
 refine⟨fun e=>no fun h=>by have:=h.1.1.1;dsimp only at this;omega,fun e1=>⟨fun e=>no fun h=>by have:=h.1.1.2;dsimp only at this;omega,fun e2=>⟨fun e=>no fun h=>by have:=h.1.2.1.1;dsimp only at this;omega,fun e3=>⟨fun e=>no fun h=>by have:=h.1.2.1.2;dsimp only at this;omega,fun e4=>⟨fun e=>no fun h=>h.1.2.2 e,fun e5=> ?_⟩⟩⟩⟩⟩
 exact no fun h=>by have:=h.2.1;simp[MsgS.has,k1,k2,k3,k4,k5,k6,k7,k8,k9,k10]at this
end Go.Proofs.Ytegamlopcdjiaaa.Sha
