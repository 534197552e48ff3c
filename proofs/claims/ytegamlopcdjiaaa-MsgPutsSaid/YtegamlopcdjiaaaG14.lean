/- Laws over plain values, and what functions of the program hand back; no conditions. -/
import Derived.Test.YtegamlopcdjiaaaG13
import Derived.Test.YtegamlopcdjiaaaG4
import Derived.Test.YtegamlopcdjiaaaG6
import Derived.Test.YtegamlopcdjiaaaProg
namespace Go.Proofs.Ytegamlopcdjiaaa.Sha
open Go Go.Abs Go.Abs.Sha Go.Abs.Srt
set_option linter.unusedSimpArgs false
set_option linter.unusedVariables false
set_option maxRecDepth 100000
def pf16:PF:=
 PF.mk 1 16 69 ((PC.reg [nn (.v 1) (.box (.v 0)),nn (.v 2) (.mv true (.c (.own .nils)))]).seq ((PC.reg [nn (.v 4) (.fadr 0 0 (.v 1)),nn (.v 5) (.load
  1 false (.v 4)),nn (.v 6) (.conv .u8 (.v 5)),nn (.v 7) (.fadr 1 1 (.v 1)),nn (.v 8) (.load 1 false (.v 7)),nn (.v 9) (.conv .u8 (.v 8)),nn (.v
  10) (.fadr 2 2 (.v 1)),nn (.v 11) (.load 1 false (.v 10)),nn (.v 12) (.conv .u8 (.v 11)),nn (.v 13) (.buildS (some .u8) 1 (.int .u8 0) 3 [(0,.v
  6),(1,.v 9),(2,.v 12)]),nn (.v 3) (.mv true (.v 13))]).seq (((PC.reg [nn (.v 14) (.fadr 0 0 (.v 1)),nn (.v 15) (.load 1 false (.v 14))]).seq
  (PC.block 0 (((PC.reg [nn (.t 17) (.bin .eql (.v 15) (.c (.v (.int .i64 1)))),nn (.t 16) (.mv true (.t 17))]).seq (PC.cond (.t 16) PC.skip ((PC.reg
  [nn (.t 18) (.bin .eql (.v 15) (.c (.v (.int .i64 3)))),nn (.t 16) (.mv true (.t 18))]).seq (PC.cond (.t 16) PC.skip (PC.reg [nn (.t 19) (.bin .eql
  (.v 15) (.c (.v (.int .i64 5)))),nn (.t 16) (.mv true (.t 19))]))))).seq (PC.cond (.t 16) ((PC.reg [nn (.t 20) (.mv true (.v 3)),nn (.t 21) (.fadr
  3 3 (.v 1)),nn (.t 22) (.load 101 true (.t 21)),nn (.t 23) (.call 51 [.t 22]),nn (.t 24) (.app (some .u8) 1 1 (.t 20) (.t 23)),ma 2 24]).seq
  PC.ret) (((PC.reg [nn (.t 26) (.bin .eql (.v 15) (.c (.v (.int .i64 4)))),nn (.t 25) (.mv true (.t 26))]).seq (PC.cond (.t 25) PC.skip (PC.reg [nn
  (.t 27) (.bin .eql (.v 15) (.c (.v (.int .i64 6)))),nn (.t 25) (.mv true (.t 27))]))).seq (PC.cond (.t 25) ((PC.reg [nn (.t 28) (.mv true (.v 3)),
  nn (.t 29) (.fadr 4 104 (.v 1)),nn (.t 30) (.load 102 true (.t 29)),nn (.t 31) (.call 52 [.t 30]),nn (.t 32) (.app (some .u8) 1 1 (.t 28) (.t
  31)),ma 2 32]).seq PC.ret) ((PC.reg [nn (.t 34) (.bin .eql (.v 15) (.c (.v (.int .i64 7)))),nn (.t 33) (.mv true (.t 34))]).seq (PC.cond (.t 33)
  ((PC.reg [nn (.t 35) (.mv true (.v 3)),nn (.t 36) (.fadr 7 310 (.v 1)),nn (.t 37) (.load 32 true (.t 36)),nn (.t 38) (.call 53 [.t 37]),nn (.t
  39) (.app (some .u8) 1 1 (.t 35) (.t 38)),ma 2 39]).seq PC.ret) ((PC.reg [nn (.t 41) (.bin .eql (.v 15) (.c (.v (.int .i64 9)))),nn (.t 40) (.mv
  true (.t 41))]).seq (PC.cond (.t 40) ((PC.reg [nn (.t 42) (.mv true (.v 3)),nn (.t 43) (.fadr 8 342 (.v 1)),nn (.t 44) (.load 7 true (.t 43)),nn
  (.t 45) (.call 54 [.t 44]),nn (.t 46) (.app (some .u8) 1 1 (.t 42) (.t 45)),ma 2 46]).seq PC.ret) ((PC.reg [nn (.t 48) (.bin .eql (.v 15) (.c (.v
  (.int .i64 10)))),nn (.t 47) (.mv true (.t 48))]).seq (PC.cond (.t 47) ((PC.reg [nn (.t 49) (.mv true (.v 3)),nn (.t 50) (.fadr 5 206 (.v 1)),nn
  (.t 51) (.load 68 true (.t 50)),nn (.t 52) (.call 55 [.t 51]),nn (.t 53) (.app (some .u8) 1 1 (.t 49) (.t 52)),ma 2 53]).seq PC.ret)
  PC.skip)))))))))))).seq ((PC.reg [nn (.t 54) (.mv true (.v 3)),nn (.t 55) (.fadr 6 274 (.v 1)),nn (.t 56) (.load 36 true (.t 55)),nn (.t 57)
  (.call 57 [.t 56]),nn (.t 58) (.call 56 [.t 57]),nn (.t 59) (.app (some .u8) 1 1 (.t 54) (.t 58)),ma 3 59]).seq (((PC.reg [nn (.t 60) (.fadr 0 0
  (.v 1)),nn (.t 61) (.load 1 false (.t 60)),nn (.t 62) (.bin .eql (.t 61) (.c (.v (.int .i64 2))))]).seq (PC.cond (.t 62) (PC.reg [nn (.t 63) (.mv
  true (.v 3)),nn (.t 64) (.fadr 5 206 (.v 1)),nn (.t 65) (.load 68 true (.t 64)),nn (.t 66) (.call 55 [.t 65]),nn (.t 67) (.app (some .u8) 1 1 (.t
  63) (.t 66)),ma 3 67]) PC.skip)).seq ((PC.reg [nn (.t 68) (.mv true (.v 3)),ma 2 68]).seq PC.ret)))))) [(.v 2,none)]
attribute [local irreducible] W Wops WopsD WL Wop WopD
variable {E:Env} {C:Abs.Spec} {l:List (Nat×Spec1)} {G:List (Nat×V)} {Q:R→List (Nat×V)→Prop}
set_option maxHeartbeats 1000000
def ZYb:Spec1
 |[x],G,Q=>∃m:MsgS,(V.Wk x m.v∧m.ok∧m.May)∧Q (.own (.sli .u8 m.bytes)) G
 |_,_,_=>False
theorem ZYb_eq {x}:ZYb [x] G Q=(∃m:MsgS,(V.Wk x m.v∧m.ok∧m.May)∧Q (.own (.sli .u8 m.bytes)) G):=rfl
theorem walk16 {m:MsgS} (hA:Abs.look l 51=some SAb) (hC:Abs.look l 52=some ZBc) (hH:Abs.look l 53=some SBy) (hT:Abs.look l 54=some ZBt) (hX:Abs.look l 55=some ZBy) (hP:Abs.look l 57=some ZBq) (hO:Abs.look l 56=some ZXt)
  (ok:m.ok) (hm:m.May) (h:Q (.own (.sli .u8 m.bytes)) G):Wf E (specOf l) pf16 [m.v] G Q:=by
 have bl:=(MsgS.body_ok ok hm.2.1).2
 obtain⟨o1,o2,o3,o4,o5,o6,o7,o8,o9⟩:=ok
 obtain⟨k,f,t,a,c,x,b,hh,y⟩:=m
 obtain⟨⟨h1,h2,_⟩,_⟩:=id hm
 dsimp only at o1 o2 o3 o4 o5 o6 o7 o8 o9 h1 h2
 have lh:hh.length=32:=o7.2
 have w1:∀{n:Int},0≤n→n≤255→IntKind.u8.wrap n=n:=fun h1 h2=>by simp only[IntKind.wrap,IntKind.bits,IntKind.signed];simp;omega
 have hk:=has_ki hm.2.1
 dsimp only at hk
 have w3:=w1 (n:=t) (by omega) (by omega)
 have w2:=w1 (n:=f) (by omega) (by omega)
 have w1:=w1 (n:=k) (by omega) (by omega)
 have ef:((f.toNat:Nat):Int)=f:=by omega
 have et:((t.toNat:Nat):Int)=t:=by omega
 show Wf E (specOf l) pf16 [.agg [.int .i64 k,.int .i64 f,.int .i64 t,a.v,c.v,x.v,b.v,.arr .u8 32 hh,y.v]] G Q
 obtain⟨z1,z2⟩:=AttS.vs a
 obtain⟨z3,z4⟩:=CertS.vs c
 obtain⟨z5,z6⟩:=AccS.vs x
 obtain⟨z9,z10⟩:=BlkS.vs b
 obtain⟨z11,z12⟩:=TxS.vs y
 unfold V.isAgg at z2 z4 z6 z10 z12
 by_cases k1:k=1
 ·subst k1
  have q:a.may=true:=by have:=hm.2.1;simp[MsgS.has]at this;exact this.1
  have qm:a.May:=of_decide_eq_true q
  have al:a.bytes.length≤5000:=by simpa [MsgS.body,q]using bl
  have hB:MsgS.bytes ⟨1,f,t,a,c,x,b,hh,y⟩=[1,f,t]++a.bytes:=by unfold MsgS.bytes;dsimp only;rw[num_small (n:=Int.toNat 1) (by decide),num_small (n:=f.toNat) (by omega),num_small (n:=t.toNat) (by omega),ef,et];simp[MsgS.body,q]
  rw[hB]at h
  obtain⟨a1,a2,a3,a4,a5,a6,a7,a8⟩:=a
  simp -implicitDefEqProofs only[pf16,AttS.v,z1,z2,z3,z4,z5,z6,z9,z10,z11,z12,w1,w2,w3,hA,SAb_eq,go_sem,↓reduceIte]
  exact⟨⟨o1,qm⟩,by omega,h⟩
 by_cases k3:k=3
 ·subst k3
  have q:a.may=true:=by have:=hm.2.1;simp[MsgS.has]at this;exact this.1
  have qm:a.May:=of_decide_eq_true q
  have al:a.bytes.length≤5000:=by simpa [MsgS.body,q]using bl
  have hB:MsgS.bytes ⟨3,f,t,a,c,x,b,hh,y⟩=[3,f,t]++a.bytes:=by unfold MsgS.bytes;dsimp only;rw[num_small (n:=Int.toNat 3) (by decide),num_small (n:=f.toNat) (by omega),num_small (n:=t.toNat) (by omega),ef,et];simp[MsgS.body,q]
  rw[hB]at h
  obtain⟨a1,a2,a3,a4,a5,a6,a7,a8⟩:=a
  simp -implicitDefEqProofs only[pf16,AttS.v,z1,z2,z3,z4,z5,z6,z9,z10,z11,z12,w1,w2,w3,hA,SAb_eq,go_sem,↓reduceIte]
  exact⟨⟨o1,qm⟩,by omega,h⟩
 by_cases k5:k=5
 ·subst k5
  have q:a.may=true:=by have:=hm.2.1;simp[MsgS.has]at this;exact this.1
  have qm:a.May:=of_decide_eq_true q
  have al:a.bytes.length≤5000:=by simpa [MsgS.body,q]using bl
  have hB:MsgS.bytes ⟨5,f,t,a,c,x,b,hh,y⟩=[5,f,t]++a.bytes:=by unfold MsgS.bytes;dsimp only;rw[num_small (n:=Int.toNat 5) (by decide),num_small (n:=f.toNat) (by omega),num_small (n:=t.toNat) (by omega),ef,et];simp[MsgS.body,q]
  rw[hB]at h
  obtain⟨a1,a2,a3,a4,a5,a6,a7,a8⟩:=a
  simp -implicitDefEqProofs only[pf16,AttS.v,z1,z2,z3,z4,z5,z6,z9,z10,z11,z12,w1,w2,w3,hA,SAb_eq,go_sem,↓reduceIte]
  exact⟨⟨o1,qm⟩,by omega,h⟩
 by_cases k4:k=4
 ·subst k4
  have q:c.may=true:=by have:=hm.2.1;simp[MsgS.has]at this;exact this.1
  have qm:c.May:=of_decide_eq_true q
  have al:c.bytes.length≤5000:=by simpa [MsgS.body,q]using bl
  have hB:MsgS.bytes ⟨4,f,t,a,c,x,b,hh,y⟩=[4,f,t]++c.bytes:=by unfold MsgS.bytes;dsimp only;rw[num_small (n:=Int.toNat 4) (by decide),num_small (n:=f.toNat) (by omega),num_small (n:=t.toNat) (by omega),ef,et];simp[MsgS.body,q]
  rw[hB]at h
  simp -implicitDefEqProofs only[pf16,z1,z2,z3,z4,z5,z6,z9,z10,z11,z12,w1,w2,w3,hC,ZBc_eq,go_sem,↓reduceIte]
  exact⟨c,⟨rfl,o2,qm⟩,by omega,h⟩
 by_cases k6:k=6
 ·subst k6
  have q:c.may=true:=by have:=hm.2.1;simp[MsgS.has]at this;exact this.1
  have qm:c.May:=of_decide_eq_true q
  have al:c.bytes.length≤5000:=by simpa [MsgS.body,q]using bl
  have hB:MsgS.bytes ⟨6,f,t,a,c,x,b,hh,y⟩=[6,f,t]++c.bytes:=by unfold MsgS.bytes;dsimp only;rw[num_small (n:=Int.toNat 6) (by decide),num_small (n:=f.toNat) (by omega),num_small (n:=t.toNat) (by omega),ef,et];simp[MsgS.body,q]
  rw[hB]at h
  simp -implicitDefEqProofs only[pf16,z1,z2,z3,z4,z5,z6,z9,z10,z11,z12,w1,w2,w3,hC,ZBc_eq,go_sem,↓reduceIte]
  exact⟨c,⟨rfl,o2,qm⟩,by omega,h⟩
 by_cases k7:k=7
 ·subst k7
  have hB:MsgS.bytes ⟨7,f,t,a,c,x,b,hh,y⟩=[7,f,t]++hh:=by unfold MsgS.bytes;dsimp only;rw[num_small (n:=Int.toNat 7) (by decide),num_small (n:=f.toNat) (by omega),num_small (n:=t.toNat) (by omega),ef,et];simp[MsgS.body]
  rw[hB]at h
  simp -implicitDefEqProofs only[pf16,z1,z2,z3,z4,z5,z6,z9,z10,z11,z12,w1,w2,w3,lh,hH,SBy_eq,go_sem,↓reduceIte]
  exact h
 by_cases k9:k=9
 ·subst k9
  have q:y.may=true:=by have:=hm.2.1;simpa [MsgS.has]using this
  have qm:y.May:=of_decide_eq_true q
  have al:y.bytes.length≤5000:=by simpa [MsgS.body,q]using bl
  have hB:MsgS.bytes ⟨9,f,t,a,c,x,b,hh,y⟩=[9,f,t]++y.bytes:=by unfold MsgS.bytes;dsimp only;rw[num_small (n:=Int.toNat 9) (by decide),num_small (n:=f.toNat) (by omega),num_small (n:=t.toNat) (by omega),ef,et];simp[MsgS.body,q]
  rw[hB]at h
  simp -implicitDefEqProofs only[pf16,z1,z2,z3,z4,z5,z6,z9,z10,z11,z12,w1,w2,w3,hT,ZBt_eq,go_sem,↓reduceIte]
  exact⟨y,⟨rfl,qm⟩,by omega,h⟩
 by_cases k10:k=10
 ·subst k10
  have q:x.may=true:=by have:=hm.2.1;simpa [MsgS.has]using this
  have qm:x.May:=of_decide_eq_true q
  have al:x.bytes.length≤5000:=by simpa [MsgS.body,q]using bl
  have hB:MsgS.bytes ⟨10,f,t,a,c,x,b,hh,y⟩=[10,f,t]++x.bytes:=by unfold MsgS.bytes;dsimp only;rw[num_small (n:=Int.toNat 10) (by decide),num_small (n:=f.toNat) (by omega),num_small (n:=t.toNat) (by omega),ef,et];simp[MsgS.body,q]
  rw[hB]at h
  simp -implicitDefEqProofs only[pf16,z1,z2,z3,z4,z5,z6,z9,z10,z11,z12,w1,w2,w3,hX,ZBy_eq,go_sem,↓reduceIte]
  exact⟨x,⟨rfl,o4,qm⟩,by omega,h⟩
 by_cases k8:k=8
 ·subst k8
  have q:b.may=true∧0 < b.vi:=by have:=hm.2.1;simpa [MsgS.has]using this
  have q2:x.may=false:=by
   have:=hm.2.2;simp[MsgS.named,MsgS.bare]at this;rw[this.2.2.1];exact AccS.zero_may
  have qm:b.May:=of_decide_eq_true q.1
  have qn:b.vi≠0:=by omega
  have al:(txt b.bytes).length≤5000:=by simpa [MsgS.body,q,q2,qn]using bl
  have bl2:=(BlkS_bytes_ok o6.1 qm).2
  have hB:MsgS.bytes ⟨8,f,t,a,c,x,b,hh,y⟩=[8,f,t]++txt b.bytes:=by unfold MsgS.bytes;dsimp only;rw[num_small (n:=Int.toNat 8) (by decide),num_small (n:=f.toNat) (by omega),num_small (n:=t.toNat) (by omega),ef,et];simp[MsgS.body,q,q2,qn]
  rw[hB]at h
  simp -implicitDefEqProofs only[pf16,z1,z2,z3,z4,z5,z6,z9,z10,z11,z12,w1,w2,w3,hP,ZBq_eq,go_sem,↓reduceIte]
  refine⟨b,_,⟨BV_v b,.inl (.inl rfl),o6.1,qm⟩,?_⟩
  simp -implicitDefEqProofs only[hO,ZXt_eq,go_sem,↓reduceIte]
  exact⟨by omega,by omega,h⟩
 by_cases k2:k=2
 ·subst k2
  have q:(b.may=true∧0 < b.vi)∧x.may=true:=by have:=hm.2.1;simpa [MsgS.has]using this
  obtain⟨q,q2⟩:=q
  have qm:b.May:=of_decide_eq_true q.1
  have qn:b.vi≠0:=by omega
  have al:(txt b.bytes++x.bytes).length≤5000:=by have:=bl;simpa [MsgS.body,q,q2,qn]using this
  have bl2:=(BlkS_bytes_ok o6.1 qm).2
  rw[List.length_append]at al
  have hB:MsgS.bytes ⟨2,f,t,a,c,x,b,hh,y⟩=[2,f,t]++(txt b.bytes++x.bytes):=by unfold MsgS.bytes;dsimp only;rw[num_small (n:=Int.toNat 2) (by decide),num_small (n:=f.toNat) (by omega),num_small (n:=t.toNat) (by omega),ef,et];simp[MsgS.body,q,q2,qn]
  rw[hB]at h
  simp -implicitDefEqProofs only[pf16,z1,z2,z3,z4,z5,z6,z9,z10,z11,z12,w1,w2,w3,hP,ZBq_eq,go_sem,↓reduceIte]
  refine⟨b,_,⟨BV_v b,.inl (.inl rfl),o6.1,qm⟩,?_⟩
  simp -implicitDefEqProofs only[hO,ZXt_eq,z1,z2,z3,z4,z5,z6,z9,z10,z11,z12,hX,ZBy_eq,go_sem,↓reduceIte]
  exact⟨by omega,by omega,x,⟨rfl,o4,of_decide_eq_true q2⟩,by omega,h⟩
 have:=has_ki hm.2.1
 dsimp only at this
 omega
theorem getBlk_of {b:BlkS} (hp:H32 b.pa) (h:b.May):getBlk b.bytes=some b:=by
 obtain⟨q1,q2,q3,q4,q5⟩:=BlkS.rng h
 have hm:b.may=true:=decide_eq_true h
 obtain⟨b1,b2,b3,b4,b5⟩:=b
 dsimp only at q1 q2 q3 q4 q5 hp
 have T:∀{n top:Int} {r:List Int},0≤n→n≤top→n≤1099511627776→rdUpto top (num n.toNat++r,false)=(n,(r,false)):=by
  intro n top r h1 h2 h3
  have:=rdUpto_of (top:=top) (n:=n.toNat) (r:=r) (by omega) (by omega)
  rw[this,show ((n.toNat:Nat):Int)=n by omega]
 have T5:∀{r:List Int},rdUpto 8 (num b5.length++r,false)=((b5.length:Int),(r,false)):=fun {r}=>rdUpto_of (by omega) (by omega)
 have e:rdBlk (BlkS.bytes ⟨b1,b2,b3,b4,b5⟩,false)=some (⟨b1,b2,b3,b4,b5⟩,([],false)):=by
  unfold rdBlk BlkS.bytes
  simp only[List.append_assoc]
  rw[rdHash_of hp.2];simp only
  rw[T (by omega) (by omega) (by omega)];simp only
  rw[T (by omega) (by omega) (by omega)];simp only
  rw[T (by omega) (by omega) (by omega)];simp only
  rw[T5];simp only[Int.toNat_natCast]
  have:=rdTxs_of (l:=b5) (r:=[]) q5
  rw[List.append_nil]at this
  rw[this]
 unfold getBlk;rw[e];simp[hm]
theorem rdMsg_of {m:MsgS} (ok:m.ok) (hm:m.May):rdMsg m.bytes=m:=by
 have hk:=has_ki hm.2.1
 have hnm:=hm.2.2
 have hhas:=hm.2.1
 obtain⟨⟨f1,f2,_⟩,_⟩:=hm
 have T:∀{n top:Int} {r:List Int},0≤n→n≤top→n≤1099511627776→rdUpto top (num n.toNat++r,false)=(n,(r,false)):=by
  intro n top r h1 h2 h3
  have:=rdUpto_of (top:=top) (n:=n.toNat) (r:=r) (by omega) (by omega)
  rw[this,show ((n.toNat:Nat):Int)=n by omega]
 have key:rdMsg m.bytes=(rdRest m.ki m.fr m.to (m.body,false)).1:=by
  unfold rdMsg MsgS.bytes
  simp only[List.append_assoc]
  rw[T (by omega) (by omega) (by omega)];simp only
  rw[T (by omega) (by omega) (by omega)];simp only
  rw[T (by omega) (by omega) (by omega)]
 rw[key]
 clear key T
 obtain⟨o1,o2,o3,o4,o5,o6,o7,o8,o9⟩:=ok
 obtain⟨k,f,t,a,c,x,b,hh,y⟩:=m
 dsimp only at o1 o2 o3 o4 o5 o6 o7 o8 o9 hk
 by_cases k135:k=1∨k=3∨k=5
 ·have q:a.may=true:=by unfold MsgS.has at hhas;dsimp only at hhas;rw[if_pos k135,Bool.and_eq_true]at hhas;exact hhas.1
  have e:=rdAtt_of (a:=a) (r:=[]) o1 (of_decide_eq_true q)
  rw[List.append_nil]at e
  have hb:MsgS.body ⟨k,f,t,a,c,x,b,hh,y⟩=num a.who.toNat++a.said++a.ta:=by unfold MsgS.body;dsimp only;rw[if_pos k135,if_pos q];rfl
  rw[hb]
  refine Eq.trans ?_ hnm.symm
  unfold rdRest MsgS.named;dsimp only
  rw[if_pos k135,if_pos k135,e]
  simp[attR,q]
 by_cases k46:k=4∨k=6
 ·have k2:¬k=2:=by omega
  have q:c.may=true:=by unfold MsgS.has at hhas;dsimp only at hhas;rw[if_neg k135,if_neg k2,if_pos k46,Bool.and_eq_true]at hhas;exact hhas.1
  have e:=rdCert_of (c:=c) (r:=[]) o2 (of_decide_eq_true q)
  rw[List.append_nil]at e
  have hb:MsgS.body ⟨k,f,t,a,c,x,b,hh,y⟩=c.bytes:=by unfold MsgS.body;dsimp only;rw[if_neg k135,if_pos k46,if_pos q]
  rw[hb]
  refine Eq.trans ?_ hnm.symm
  unfold rdRest MsgS.named;dsimp only
  rw[if_neg k135,if_pos k46,if_neg k135,if_neg k2,if_pos k46,e]
  simp[certR,q]
 by_cases k7:k=7
 ·subst k7
  have e:=rdHash_of (h:=hh) (r:=[]) o7.2
  rw[List.append_nil]at e
  have hb:MsgS.body ⟨7,f,t,a,c,x,b,hh,y⟩=hh:=rfl
  rw[hb]
  refine Eq.trans ?_ hnm.symm
  show ({ MsgS.bare 7 f t with ha:=(rdHash (hh,false)).1 }:MsgS)=_
  rw[e];rfl
 by_cases k9:k=9
 ·subst k9
  have q:y.may=true:=hhas
  have e:=rdTx_of (t:=y) (r:=[]) (of_decide_eq_true q)
  rw[List.append_nil]at e
  have hb:MsgS.body ⟨9,f,t,a,c,x,b,hh,y⟩=y.bytes:=by show (if y.may=true then y.bytes else [])=_;rw[if_pos q]
  rw[hb]
  refine Eq.trans ?_ hnm.symm
  show ({ MsgS.bare 9 f t with tx:=txR (rdTx (y.bytes,false)).1 (rdTx (y.bytes,false)).2.2 }:MsgS)=_
  rw[e];simp[txR,q];rfl
 by_cases k10:k=10
 ·subst k10
  have q:x.may=true:=hhas
  have e:=rdAccu_of (a:=x) (r:=[]) o4 (of_decide_eq_true q)
  rw[List.append_nil]at e
  have hb:MsgS.body ⟨10,f,t,a,c,x,b,hh,y⟩=x.bytes:=by show (if x.may=true then x.bytes else [])=_;rw[if_pos q]
  rw[hb]
  refine Eq.trans ?_ hnm.symm
  show ({ MsgS.bare 10 f t with ac:=accR (rdAccu (x.bytes,false)).1 (rdAccu (x.bytes,false)).2.2 }:MsgS)=_
  rw[e];simp[accR,q];rfl
 by_cases k8:k=8
 ·subst k8
  have q:b.may=true∧0 < b.vi:=by have:=hhas;simpa [MsgS.has]using this
  have q2:x= .zero:=by have:=hnm;simp[MsgS.named,MsgS.bare]at this;exact this.2.2.1
  have bl:=(BlkS_bytes_ok o6.1 (of_decide_eq_true q.1)).2
  have e:=rdText_of (t:=b.bytes) (r:=[]) (by omega)
  rw[List.append_nil]at e
  have qn:b.vi≠0:=by omega
  have hb:MsgS.body ⟨8,f,t,a,c,x,b,hh,y⟩=txt b.bytes:=by simp[MsgS.body,q,q2,qn,AccS.zero_may]
  rw[hb]
  refine Eq.trans ?_ hnm.symm
  show ({ MsgS.bare 8 f t with bl:=blkO (getBlk (rdText (txt b.bytes,false)).1) }:MsgS)=_
  rw[e,getBlk_of o6.1 (of_decide_eq_true q.1)];rfl
 have k2:k=2:=by omega
 subst k2
 have q:(b.may=true∧0 < b.vi)∧x.may=true:=by have:=hhas;simpa [MsgS.has]using this
 have bl:=(BlkS_bytes_ok o6.1 (of_decide_eq_true q.1.1)).2
 have e:=rdText_of (t:=b.bytes) (r:=x.bytes) (by omega)
 have e2:=rdAccu_of (a:=x) (r:=[]) o4 (of_decide_eq_true q.2)
 rw[List.append_nil]at e2
 have qn:b.vi≠0:=by omega
 have hb:MsgS.body ⟨2,f,t,a,c,x,b,hh,y⟩=txt b.bytes++x.bytes:=by simp[MsgS.body,q,qn]
 rw[hb]
 refine Eq.trans ?_ hnm.symm
 show ({ MsgS.bare 2 f t with bl:=blkO (getBlk (rdText (txt b.bytes++x.bytes,false)).1),ac:=accR (rdAccu (rdText (txt b.bytes++x.bytes,false)).2).1 (rdAccu (rdText (txt b.bytes++x.bytes,false)).2).2.2 }:MsgS)=_
 rw[e,getBlk_of o6.1 (of_decide_eq_true q.1.1)]
 dsimp only
 rw[e2];simp[accR,q.2];rfl
theorem getMsg_of {m:MsgS} (ok:m.ok) (hm:m.May):getMsg m.bytes=some m:=by
 unfold getMsg;rw[rdMsg_of ok hm,if_pos ⟨decide_eq_true hm,rfl⟩]
def pf7:PF:=
 PF.mk 1 3 25 ((PC.reg [nn (.v 1) (.box (.v 0)),nn (.v 2) (.mv true (.c (.v (.bool false))))]).seq ((PC.reg [nn (.t 3) (.fadr 4 104 (.v 1)),nn (.t 4)
  (.fadr 1 101 (.t 3)),nn (.t 5) (.load 1 false (.t 4)),nn (.t 6) (.len (.t 5)),nn (.t 7) (.bin .leq (.t 6) (.c (.v (.int .i64 30)))),nn (.t 8)
  (.mv false (.t 7)),⟨.t 9,.fadr 5 206 (.v 1),some (.t 8,true)⟩,⟨.t 10,.fadr 4 35 (.t 9),some (.t 8,true)⟩,⟨.t 11,.load 1 false (.t 10),some
  (.t 8,true)⟩,⟨.t 12,.len (.t 11),some (.t 8,true)⟩,⟨.t 13,.bin .leq (.t 12) (.c (.v (.int .i64 30))),some (.t 8,true)⟩,nn (.t 14) (.pick
  (.t 8) (.t 13) (.c (.v (.bool false)))),nn (.t 15) (.mv false (.t 14)),⟨.t 16,.fadr 6 274 (.v 1),some (.t 15,true)⟩,⟨.t 17,.load 36 true (.t
  16),some (.t 15,true)⟩,⟨.t 18,.call 29 [.t 17],some (.t 15,true)⟩,nn (.t 19) (.pick (.t 15) (.t 18) (.c (.v (.bool false)))),nn (.t 20) (.mv
  false (.t 19)),⟨.t 21,.fadr 8 342 (.v 1),some (.t 20,true)⟩,⟨.t 22,.load 7 true (.t 21),some (.t 20,true)⟩,⟨.t 23,.call 30 [.t 22],some
  (.t 20,true)⟩,nn (.t 24) (.pick (.t 20) (.t 23) (.c (.v (.bool false)))),ma 2 24]).seq PC.ret)) [(.v 2,none)]
def lp29_0:PC:=
 ((PC.reg [mm 4 3,nn (.t 5) (.fadr 4 35 (.v 1)),nn (.t 6) (.load 1 false (.t 5)),nn (.t 7) (.len (.t 6)),nn (.t 8) (.bin .lss (.t 4) (.t 7)),nn (.t
  9) (.mv false (.t 8)),gm 10 3 9 true,⟨.t 11,.bin .leq (.t 10) (.c (.v (.int .i64 20))),some (.t 9,true)⟩,nn (.t 12) (.pick (.t 9) (.t 11) (.c
  (.v (.bool false))))]).seq (PC.cond (.t 12) PC.skip (PC.exit 0))).seq ((PC.block 1 ((PC.reg [nn (.t 15) (.fadr 4 35 (.v 1)),nn (.t 16) (.load 1
  false (.t 15)),mm 17 3,nn (.t 18) (.iadrS 7 (.t 16) (.t 17)),nn (.t 19) (.load 7 true (.t 18)),nn (.t 20) (.call 30 [.t 19]),nn (.t 21) (.un
  .not (.t 20))]).seq (PC.cond (.t 21) ((PC.reg [nn (.v 2) (.mv true (.c (.v (.bool false))))]).seq PC.ret) PC.skip))).seq (PC.reg [mm 13 3,nn (.t 14)
  (.bin .add (.t 13) (.c (.v (.int .i64 1)))),ma 3 14]))
def pf29:PF:=
 PF.mk 1 4 26 ((PC.reg [nn (.v 1) (.box (.v 0)),nn (.v 2) (.mv true (.c (.v (.bool false))))]).seq (((PC.reg [nn (.v 3) (.mv true (.c (.v (.int .i64
  0))))]).seq (PC.block 0 (PC.loop [1,3] lp29_0))).seq ((PC.reg [nn (.t 22) (.fadr 4 35 (.v 1)),nn (.t 23) (.load 1 false (.t 22)),nn (.t 24) (.len
  (.t 23)),nn (.t 25) (.bin .leq (.t 24) (.c (.v (.int .i64 20)))),ma 2 25]).seq PC.ret))) [(.v 2,none)]
def pf30:PF:=
 PF.mk 1 3 13 ((PC.reg [nn (.v 1) (.box (.v 0)),nn (.v 2) (.mv true (.c (.v (.bool false))))]).seq ((PC.reg [nn (.t 3) (.fadr 5 5 (.v 1)),nn (.t 4)
  (.load 1 false (.t 3)),nn (.t 5) (.lenT (.t 4)),nn (.t 6) (.bin .leq (.t 5) (.c (.v (.int .i64 100)))),nn (.t 7) (.mv false (.t 6)),⟨.t 8,.fadr
  6 6 (.v 1),some (.t 7,true)⟩,⟨.t 9,.load 1 false (.t 8),some (.t 7,true)⟩,⟨.t 10,.lenT (.t 9),some (.t 7,true)⟩,⟨.t 11,.bin .leq (.t 10)
  (.c (.v (.int .i64 400))),some (.t 7,true)⟩,nn (.t 12) (.pick (.t 7) (.t 11) (.c (.v (.bool false)))),ma 2 12]).seq PC.ret)) [(.v 2,none)]
def pf8:PF:=
 PF.mk 0 5 31 ((PC.reg [nn (.v 0) (.mv true (.c (.v (.bool false))))]).seq ((PC.reg [nn (.t 6) (.build (.agg [.int .i64 0,.int .i64 0,.int .i64 0,
  .agg [.int .i64 0,.int .i64 0,.int .i64 0,.int .i64 0,.arr .u8 32 [0,0,0,0,0,0,0,0,0,0,0,0,0,0,0,0,0,0,0,0,0,0,0,0,0,0,
  0,0,0,0,0,0],.int .i64 0,.arr .u8 32 zz2,.arr
  .u8 32 zz2],.agg [.agg [.int .i64 0,.int .i64 0,.int
  .i64 0,.int .i64 0,.arr .u8 32 zz2,.int .i64 0,.arr
  .u8 32 zz2,.arr .u8 32 [0,0,0,0,0,0,0,0,0,0,
  0,0,0,0,0,0,0,0,0,0,0,0,0,0,0,0,0,0,0,0,0,0]],.nils],.agg [.int .i64 0,.int .i64 0,.int .i64 0,.arr .u8 32 [0,0,0,0,0,
  0,0,0,0,0,0,0,0,0,0,0,0,0,0,0,0,0,0,0,0,0,0,0,0,0,0,0],.nils,.arr .u8 32 [0,0,0,0,0,0,0,0,0,0,0,0,0,0,0,0,
  0,0,0,0,0,0,0,0,0,0,0,0,0,0,0,0]],.agg [.arr .u8 32 [0,0,0,0,0,0,0,0,0,0,0,0,0,0,0,0,0,0,0,0,0,0,0,0,0,0,0,
  0,0,0,0,0],.int .i64 0,.int .i64 0,.int .i64 0,.nils],.arr .u8 32 [0,0,0,0,0,0,0,0,0,0,0,0,0,0,0,0,0,0,0,0,0,0,0,0,
  0,0,0,0,0,0,0,0],.agg [.int .i64 0,.int .i64 0,.int .i64 0,.int .i64 0,.int .i64 0,.str ⟨⟨[]⟩⟩,.str ⟨⟨[]⟩⟩]]) [(0,.c (.v (.int .i64
  7))),(1,.c (.v (.int .i64 1))),(2,.c (.v (.int .i64 2)))]),nn (.t 7) (.call 9 [.t 6]),nn (.t 5) (.mv false (.t 7)),nn (.t 8) (.ext (.t 5) 0),
  nn (.t 9) (.ext (.t 5) 1),ma 1 8,ma 2 9]).seq ((PC.reg [mm 11 1,nn (.t 12) (.call 14 [.t 11]),nn (.t 10) (.mv false (.t 12)),nn (.t 13) (.ext
  (.t 10) 0),nn (.t 14) (.ext (.t 10) 1),nn (.v 3) (.alloc (.agg [.int .i64 0,.int .i64 0,.int .i64 0,.agg [.int .i64 0,.int .i64 0,.int .i64 0,
  .int .i64 0,.arr .u8 32 zz2,.int .i64 0,.arr .u8 32
  zz2,.arr .u8 32 [0,0,0,0,0,0,0,0,0,0,0,0,0,
  0,0,0,0,0,0,0,0,0,0,0,0,0,0,0,0,0,0,0]],.agg [.agg [.int .i64 0,.int .i64 0,.int .i64 0,.int .i64 0,.arr .u8 32 [0,0,0,0,
  0,0,0,0,0,0,0,0,0,0,0,0,0,0,0,0,0,0,0,0,0,0,0,0,0,0,0,0],.int .i64 0,.arr .u8 32 [0,0,0,0,0,0,0,0,0,0,0,0,0,
  0,0,0,0,0,0,0,0,0,0,0,0,0,0,0,0,0,0,0],.arr .u8 32 [0,0,0,0,0,0,0,0,0,0,0,0,0,0,0,0,0,0,0,0,0,0,0,0,0,0,
  0,0,0,0,0,0]],.nils],.agg [.int .i64 0,.int .i64 0,.int .i64 0,.arr .u8 32 [0,0,0,0,0,0,0,0,0,0,0,0,0,0,0,0,0,0,0,0,0,
  0,0,0,0,0,0,0,0,0,0,0],.nils,.arr .u8 32 [0,0,0,0,0,0,0,0,0,0,0,0,0,0,0,0,0,0,0,0,0,0,0,0,0,0,0,0,0,0,0,
  0]],.agg [.arr .u8 32 zz2,.int .i64 0,.int .i64 0,
  .int .i64 0,.nils],.arr .u8 32 zz2,.agg [.int .i64 0,
  .int .i64 0,.int .i64 0,.int .i64 0,.int .i64 0,.str ⟨⟨[]⟩⟩,.str ⟨⟨[]⟩⟩]])),nn .no (.store 349 (.v 3) (.t 13)),ma 4 14]).seq ((PC.reg [mm 15
  2,nn (.t 16) (.bin .eql (.t 15) (.c (.v (.int .i64 0)))),nn (.t 17) (.mv false (.t 16)),gm 18 1 17 true,⟨.t 19,.len (.t 18),some (.t 17,
  true)⟩,⟨.t 20,.bin .eql (.t 19) (.c (.v (.int .i64 35))),some (.t 17,true)⟩,nn (.t 21) (.pick (.t 17) (.t 20) (.c (.v (.bool false)))),nn (.t
  22) (.mv false (.t 21)),gm 23 4 22 true,⟨.t 24,.bin .eql (.t 23) (.c (.v (.int .i64 0))),some (.t 22,true)⟩,nn (.t 25) (.pick (.t 22) (.t 24)
  (.c (.v (.bool false)))),nn (.t 26) (.mv false (.t 25)),⟨.t 27,.fadr 2 2 (.v 3),some (.t 26,true)⟩,⟨.t 28,.load 1 false (.t 27),some (.t 26,
  true)⟩,⟨.t 29,.bin .eql (.t 28) (.c (.v (.int .i64 2))),some (.t 26,true)⟩,nn (.t 30) (.pick (.t 26) (.t 29) (.c (.v (.bool false)))),ma 0
  30]).seq PC.ret)))) [(.v 0,none)]
def lightT (t:TxS):Bool:=decide (t.key.size≤100∧t.val.size≤400)
def lightB (b:BlkS):Bool:=decide (b.txs.length≤20∧∀t∈b.txs,lightT t=true)
def lightM (m:MsgS):Bool:=decide (m.ce.sigs.length≤30∧m.ac.fr.length≤30)&&lightB m.bl&&lightT m.tx
def ZLt:Spec1
 |[y],G,Q=>∃t:TxS,y=t.v∧Q (.v (.bool (lightT t))) G
 |_,_,_=>False
theorem ZLt_eq {y}:ZLt [y] G Q=(∃t:TxS,y=t.v∧Q (.v (.bool (lightT t))) G):=rfl
def ZLb:Spec1
 |[y],G,Q=>∃b:BlkS,y=b.v∧Q (.v (.bool (lightB b))) G
 |_,_,_=>False
theorem ZLb_eq {y}:ZLb [y] G Q=(∃b:BlkS,y=b.v∧Q (.v (.bool (lightB b))) G):=rfl
def ZLm:Spec1
 |[y],G,Q=>∃m:MsgS,V.Wk y m.v∧Q (.v (.bool (lightM m))) G
 |_,_,_=>False
theorem ZLm_eq {y}:ZLm [y] G Q=(∃m:MsgS,V.Wk y m.v∧Q (.v (.bool (lightM m))) G):=rfl
theorem walk30 {t:TxS} (h:Q (.v (.bool (lightT t))) G):Wf E C pf30 [t.v] G Q:=by
 have key:∀c:Bool,lightT t=c→Q (.v (.bool c)) G:=fun c e=>by rw[←e];exact h
 clear h
 obtain⟨y1,y2,y3,y4,y5,y6,y7⟩:=t
 show Wf E C pf30 [.agg [.int .i64 y1,.int .i64 y2,.int .i64 y3,.int .i64 y4,.int .i64 y5,.str y6,.str y7]] G Q
 simp -implicitDefEqProofs only[pf30,go_sem,↓reduceIte]
 refine⟨fun h1=>key _ ?_,fun h1=>key _ ?_⟩
 ·unfold lightT;dsimp only;rw[decide_eq_decide];constructor<;>intro h<;>omega
 ·unfold lightT;dsimp only;rw[decide_eq_false_iff_not];omega
theorem loop29 (hT:Abs.look l 30=some ZLt) {QQ:Ex→St→Prop} {b:BlkS} {L:List Bx} {n:Nat} (hL:L=[⟨false,b.v⟩]) (hn:n=min b.txs.length 21)
  (hx:∀ts,(∀t∈b.txs.take n,lightT t=true)→QQ (.exit 0) ⟨[none,some (.lp 0 []),none,some (.v (.int .i64 (n:Nat)))],ts,L,G⟩) (hr:∀ts (v3:Option D) t,t∈b.txs→lightT t=false→QQ .ret ⟨[none,some (.lp 0 []),some (.v (.bool false)),v3],ts,L,G⟩):
  ∀(e i:Nat),i+e=n→(∀t∈b.txs.take i,lightT t=true)→WL (W E (specOf l) lp29_0) [1,3] QQ (e+1) ⟨[none,some (.lp 0 []),none,some (.v (.int .i64 (i:Nat)))],[],L,G⟩:=by
 subst hL
 intro e
 induction e with
 |zero=>
  intro i hi ht
  obtain rfl:i=n:=by omega
  refine WL_in lp29_0.eq_1 ?_
  by_cases c1:(i:Int) < (b.txs.length:Int)
  ·have c2:¬(i:Int)≤20:=by omega
   simp -implicitDefEqProofs only[BlkS.v,List.length_map,c1,c2,go_sem,↓reduceIte]
   exact hx _ ht
  ·simp -implicitDefEqProofs only[BlkS.v,List.length_map,c1,go_sem,↓reduceIte]
   exact hx _ ht
 |succ e ih=>
  intro i hi ht
  have c1:(i:Int) < (b.txs.length:Int):=by omega
  have c2:(i:Int)≤20:=by omega
  have c3:(0:Int)≤i:=by omega
  have w1:IntKind.i64.wrap ((i:Int)+1)=((i+1:Nat):Int):=wc (by omega) (by omega)
  obtain⟨p,r,hp⟩:∃p r,b.txs.drop i=p::r:=by
   cases hq:b.txs.drop i with
   |nil=>have:=drop_none hq;omega
   |cons p r=>exact⟨p,r,rfl⟩
  have a1:=at_drop2 hp
  have g1:(b.txs.map TxS.v).getD i V.nilp=p.v:=getD_tx hp
  obtain⟨zp,zq⟩:=TxS.vs p
  unfold V.isAgg at zq
  refine WL_in lp29_0.eq_1 ?_
  simp -implicitDefEqProofs only[BlkS.v,c1,c2,c3,w1,g1,zp,zq,Int.toNat_natCast,List.length_map,hT,ZLt_eq,go_sem,↓reduceIte]
  refine⟨p,rfl,fun hf=>hr _ _ p (List.mem_of_getElem? a1) hf,fun hf=>ih (i+1) (by omega) (fun t ht2=> ?_)⟩
  rw[List.take_add_one,a1]at ht2
  rcases List.mem_append.1 ht2 with h|h
  ·exact ht t h
  ·simp at h;rw[h];exact hf
theorem walk29 (hT:Abs.look l 30=some ZLt) {b:BlkS} (h:Q (.v (.bool (lightB b))) G):Wf E (specOf l) pf29 [b.v] G Q:=by
 have key:∀c:Bool,lightB b=c→Q (.v (.bool c)) G:=fun c e=>by rw[←e];exact h
 simp -implicitDefEqProofs only[pf29,go_sem,↓reduceIte]
 refine⟨min b.txs.length 21+1,?_⟩
 simp -implicitDefEqProofs only[go_sem,↓reduceIte]
 refine loop29 (b:=b) (n:=min b.txs.length 21) hT rfl rfl (fun ts ht=> ?_) (fun ts v3 t ht hf=> ?_) _ 0 (by omega) (fun t ht=>by simp at ht)
 ·simp -implicitDefEqProofs only[BlkS.v,List.length_map,go_sem,↓reduceIte]
  refine key _ ?_
  unfold lightB
  rw[decide_eq_decide]
  refine⟨fun h=>by omega,fun h=>⟨by omega,fun t hm=>ht t ?_⟩⟩
  rw[List.take_of_length_le (by omega)];exact hm
 ·simp -implicitDefEqProofs only[go_sem,↓reduceIte]
  refine key _ ?_
  unfold lightB
  rw[decide_eq_false_iff_not]
  intro hh
  rw[hh.2 t ht]at hf;cases hf
theorem walk7 {m:MsgS} (hB:Abs.look l 29=some ZLb) (hT:Abs.look l 30=some ZLt) (h:Q (.v (.bool (lightM m))) G):Wf E (specOf l) pf7 [m.v] G Q:=by
 have key:∀c:Bool,lightM m=c→Q (.v (.bool c)) G:=fun c e=>by rw[←e];exact h
 clear h
 obtain⟨k,f,t,a,c,x,b,hh,y⟩:=m
 obtain⟨c,cs⟩:=c
 obtain⟨x1,x2,x3,x4,x5,x6⟩:=x
 show Wf E (specOf l) pf7 [.agg [.int .i64 k,.int .i64 f,.int .i64 t,a.v,.agg [c.v,.sle 33 (cs.map sgV)],.agg [.int .i64 x1,.int .i64 x2,.int .i64 x3,.arr .u8 32 x4,.sli .i64 x5,.arr .u8 32 x6],b.v,.arr .u8 32 hh,y.v]] G Q
 obtain⟨z1,z2⟩:=AttS.vs a
 obtain⟨z3,z4⟩:=AttS.vs c
 obtain⟨z9,z10⟩:=BlkS.vs b
 obtain⟨z11,z12⟩:=TxS.vs y
 unfold V.isAgg at z2 z4 z10 z12
 simp -implicitDefEqProofs only[pf7,z1,z2,z3,z4,z9,z10,z11,z12,hB,ZLb_eq,hT,ZLt_eq,List.length_map,go_sem,↓reduceIte]
 refine⟨fun h1=>⟨fun h2=>⟨b,rfl,fun h3=>⟨y,rfl,key _ ?_⟩,fun h3=>key _ ?_⟩,fun h2=>key _ ?_⟩,fun h1=>key _ ?_⟩
 ·unfold lightM;dsimp only;rw[h3,decide_eq_true ⟨by omega,by omega⟩];rfl
 ·unfold lightM;dsimp only;rw[h3];simp
 ·unfold lightM;dsimp only;rw[decide_eq_false (fun h=>by omega)];rfl
 ·unfold lightM;dsimp only;rw[decide_eq_false (fun h=>by omega)];rfl
theorem walk8 (hP:Abs.look l 9=some ZPm) (hG:Abs.look l 14=some ZGm) (h:Q (.v (.bool true)) G):Wf E (specOf l) pf8 [] G Q:=by
 have ok:=MsgS.bare_ok 7 1 2
 have hM:(MsgS.bare 7 1 2).May:=⟨by decide,rfl,rfl⟩
 have hmay:(MsgS.bare 7 1 2).may=true:=decide_eq_true hM
 have hl:(MsgS.bare 7 1 2).bytes.length=35:=by
  show (num 7++num 1++num 2++zero32).length=35
  rw[num_small (by decide),num_small (by decide),num_small (by decide)];rfl
 have hv:(msgO (some (MsgS.bare 7 1 2))).v= .agg [.int .i64 7,.int .i64 1,.int .i64 2,.agg [.int .i64 0,.int .i64 0,.int .i64 0,.int .i64 0,.arr .u8 32 zz2,.int .i64 0,.arr .u8 32 zz2,.arr .u8 32 zz2],.agg [.agg [.int .i64 0,.int .i64 0,.int .i64 0,.int .i64 0,.arr .u8 32 zz2,.int .i64 0,.arr .u8 32 zz2,.arr .u8 32 zz2],.sle 33 []],.agg [.int .i64 0,.int .i64 0,.int .i64 0,.arr .u8 32 zz2,.sli .i64 [],.arr .u8 32 zz2],.agg [.arr .u8 32 zz2,.int .i64 0,.int .i64 0,.int .i64 0,.sle 7 []],.arr .u8 32 zz2,.agg [.int .i64 0,.int .i64 0,.int .i64 0,.int .i64 0,.int .i64 0,.str ⟨⟨[]⟩⟩,.str ⟨⟨[]⟩⟩]]:=rfl
 have hb:=(MsgS.bytes_ok ok hM).1
 simp -implicitDefEqProofs only[pf8,hP,ZPm_eq,go_sem,↓reduceIte]
 refine⟨MsgS.bare 7 1 2,⟨wk_msg wk_ce wk_ac wk_bl,ok⟩,?_⟩
 rw[if_pos hmay,if_pos hmay]
 simp -implicitDefEqProofs only[hG,ZGm_eq,go_sem,↓reduceIte]
 refine⟨(MsgS.bare 7 1 2).bytes,⟨rfl,hb,by omega⟩,?_⟩
 rw[getMsg_of ok hM,hv]
 simp -implicitDefEqProofs only[hl,go_sem,↓reduceIte]
 exact h
def pf3:PF:=
 PF.mk 2 10 83 ((PC.reg [nn (.v 2) (.box (.v 0)),nn (.v 3) (.box (.v 1)),nn (.v 4) (.mv true (.c (.v (.bool false))))]).seq (((PC.reg [nn (.t 10)
  (.load 349 true (.v 2)),nn (.t 11) (.call 7 [.t 10]),nn (.t 12) (.un .not (.t 11)),nn (.t 13) (.mv false (.t 12)),⟨.t 14,.load 349 true (.v 3),
  some (.t 13,false)⟩,⟨.t 15,.call 7 [.t 14],some (.t 13,false)⟩,⟨.t 16,.un .not (.t 15),some (.t 13,false)⟩,nn (.t 17) (.pick (.t 13) (.c
  (.v (.bool true))) (.t 16))]).seq (PC.cond (.t 17) ((PC.reg [nn (.t 18) (.call 8 []),ma 4 18]).seq PC.ret) PC.skip)).seq ((PC.reg [nn (.t 20) (.load
  349 true (.v 2)),nn (.t 21) (.call 9 [.t 20]),nn (.t 19) (.mv false (.t 21)),nn (.t 22) (.ext (.t 19) 0),nn (.t 23) (.ext (.t 19) 1),ma 5 22,ma
  6 23]).seq ((PC.reg [nn (.t 24) (.load 349 true (.v 2)),nn (.t 25) (.call 10 [.t 24]),ma 7 25]).seq (((PC.regD 0 [nn (.t 26) (.load 349 true (.v
  2)),nn (.t 27) (.call 11 [.t 26]),nn (.t 28) (.bin .eql (.t 27) (.c (.v (.int .i64 0)))),mm 29 7,nn (.t 30) (.binB .neq (.t 28) (.t 29)),nn (.t
  31) (.mv false (.t 30)),⟨.t 32,.load 349 true (.v 2),some (.t 31,false)⟩,⟨.t 33,.load 349 true (.v 3),some (.t 31,false)⟩,⟨.t 34,.call 12
  [.t 32,.t 33],some (.t 31,false)⟩,⟨.t 35,.load 349 true (.v 2),some (.t 31,false)⟩,⟨.t 36,.load 349 true (.v 3),some (.t 31,false)⟩,⟨.t
  37,.call 13 [.t 35,.t 36],some (.t 31,false)⟩,⟨.t 38,.binB .neq (.t 34) (.t 37),some (.t 31,false)⟩,nn (.t 39) (.pick (.t 31) (.c (.v (.bool
  true))) (.t 38)),nn (.t 40) (.mv false (.t 39)),⟨.t 41,.load 349 true (.v 2),some (.t 40,false)⟩,⟨.t 42,.load 349 true (.v 2),some (.t 40,
  false)⟩,⟨.t 43,.call 12 [.t 41,.t 42],some (.t 40,false)⟩,⟨.t 44,.un .not (.t 43),some (.t 40,false)⟩,nn (.t 45) (.pick (.t 40) (.c (.v
  (.bool true))) (.t 44))] []).seq (PC.cond (.t 45) ((PC.reg [nn (.v 4) (.mv true (.c (.v (.bool false))))]).seq PC.ret) PC.skip)).seq (((PC.reg [mm 46
  7,nn (.t 47) (.un .not (.t 46))]).seq (PC.cond (.t 47) ((PC.reg [mm 48 6,nn (.t 49) (.bin .eql (.t 48) (.c (.v (.int .i64 1)))),nn (.t 50) (.mv
  false (.t 49)),gm 51 5 50 true,⟨.t 52,.len (.t 51),some (.t 50,true)⟩,⟨.t 53,.bin .eql (.t 52) (.c (.v (.int .i64 0))),some (.t 50,true)⟩,
  nn (.t 54) (.pick (.t 50) (.t 53) (.c (.v (.bool false)))),nn (.t 55) (.mv false (.t 54)),⟨.t 56,.call 8 [],some (.t 55,true)⟩,nn (.t 57)
  (.pick (.t 55) (.t 56) (.c (.v (.bool false)))),ma 4 57]).seq PC.ret) PC.skip)).seq ((PC.reg [mm 59 5,nn (.t 60) (.call 14 [.t 59]),nn (.t 58)
  (.mv false (.t 60)),nn (.t 61) (.ext (.t 58) 0),nn (.t 62) (.ext (.t 58) 1),nn (.v 8) (.alloc (.agg [.int .i64 0,.int .i64 0,.int .i64 0,.agg
  [.int .i64 0,.int .i64 0,.int .i64 0,.int .i64 0,.arr .u8 32 [0,0,0,0,0,0,0,0,0,0,0,0,0,0,0,0,0,0,0,0,0,0,0,0,0,0,0,0,
  0,0,0,0],.int .i64 0,.arr .u8 32 zz2,.arr .u8 32
  zz2],.agg [.agg [.int .i64 0,.int .i64 0,.int .i64 0,
  .int .i64 0,.arr .u8 32 zz2,.int .i64 0,.arr .u8 32
  zz2,.arr .u8 32 [0,0,0,0,0,0,0,0,0,0,0,0,0,
  0,0,0,0,0,0,0,0,0,0,0,0,0,0,0,0,0,0,0]],.nils],.agg [.int .i64 0,.int .i64 0,.int .i64 0,.arr .u8 32 [0,0,0,0,0,0,0,0,
  0,0,0,0,0,0,0,0,0,0,0,0,0,0,0,0,0,0,0,0,0,0,0,0],.nils,.arr .u8 32 [0,0,0,0,0,0,0,0,0,0,0,0,0,0,0,0,0,0,0,
  0,0,0,0,0,0,0,0,0,0,0,0,0]],.agg [.arr .u8 32 [0,0,0,0,0,0,0,0,0,0,0,0,0,0,0,0,0,0,0,0,0,0,0,0,0,0,0,0,0,0,
  0,0],.int .i64 0,.int .i64 0,.int .i64 0,.nils],.arr .u8 32 [0,0,0,0,0,0,0,0,0,0,0,0,0,0,0,0,0,0,0,0,0,0,0,0,0,0,0,
  0,0,0,0,0],.agg [.int .i64 0,.int .i64 0,.int .i64 0,.int .i64 0,.int .i64 0,.str ⟨⟨[]⟩⟩,.str ⟨⟨[]⟩⟩]])),nn .no (.store 349 (.v 8) (.t
  61)),ma 9 62]).seq ((PC.reg [mm 63 6,nn (.t 64) (.bin .eql (.t 63) (.c (.v (.int .i64 0)))),nn (.t 65) (.mv false (.t 64)),gm 66 5 65 true,⟨.t
  67,.load 349 true (.v 2),some (.t 65,true)⟩,⟨.t 68,.call 16 [.t 67],some (.t 65,true)⟩,⟨.t 69,.call 15 [.t 66,.t 68],some (.t 65,true)⟩,
  nn (.t 70) (.pick (.t 65) (.t 69) (.c (.v (.bool false)))),nn (.t 71) (.mv false (.t 70)),gm 72 9 71 true,⟨.t 73,.bin .eql (.t 72) (.c (.v (.int
  .i64 0))),some (.t 71,true)⟩,nn (.t 74) (.pick (.t 71) (.t 73) (.c (.v (.bool false)))),nn (.t 75) (.mv false (.t 74)),⟨.t 76,.load 349 true
  (.v 8),some (.t 75,true)⟩,⟨.t 77,.load 349 true (.v 2),some (.t 75,true)⟩,⟨.t 78,.call 13 [.t 76,.t 77],some (.t 75,true)⟩,nn (.t 79)
  (.pick (.t 75) (.t 78) (.c (.v (.bool false)))),nn (.t 80) (.mv false (.t 79)),⟨.t 81,.call 8 [],some (.t 80,true)⟩,nn (.t 82) (.pick (.t 80)
  (.t 81) (.c (.v (.bool false)))),ma 4 82]).seq PC.ret)))))))) [(.v 4,none)]
def ZAwm:Spec1
 |[],G,Q=>Q (.v (.bool true)) G
 |_,_,_=>False
theorem ZAwm_eq:ZAwm [] G Q=Q (.v (.bool true)) G:=rfl
structure _root_.Go.Abs.Sha.MsgS.wf (m:MsgS):Prop where
 at_:m.at_.wf
 ce:m.ce.ok
 ac:m.ac.wf
 pa:H32 m.bl.pa
 ha:H32 m.ha
theorem light_ok {m:MsgS} (h:m.wf) (hl:lightM m=true):m.ok:=by
 unfold lightM lightB lightT at hl
 rw[Bool.and_eq_true,Bool.and_eq_true,decide_eq_true_eq,decide_eq_true_eq,decide_eq_true_eq]at hl
 obtain⟨⟨⟨h1,h2⟩,h3,h4⟩,h5,h6⟩:=hl
 refine⟨h.at_,h.ce,by omega,h.ac,by omega,⟨h.pa,fun t ht=> ?_,by omega⟩,h.ha,by omega,by omega⟩
 have:=h4 t ht
 rw[decide_eq_true_eq]at this
 omega
theorem walk3 {a b:MsgS} (hL:Abs.look l 7=some ZLm) (hA:Abs.look l 8=some ZAwm) (hP:Abs.look l 9=some ZPm) (hM:Abs.look l 10=some ZYm) (hC:Abs.look l 11=some ZCh) (hS:Abs.look l 12=some ZMs) (hR:Abs.look l 13=some ZMs) (hG:Abs.look l 14=some ZGm) (hE:Abs.look l 15=some SSm) (hB:Abs.look l 16=some ZYb)
  (wa:a.wf) (wb:b.wf) (h:Q (.v (.bool true)) G):Wf E (specOf l) pf3 [a.v,b.v] G Q:=by
 obtain⟨z1,z2⟩:=MsgS.vs a
 obtain⟨z3,z4⟩:=MsgS.vs b
 unfold V.isAgg at z2 z4
 have sm:∀a:MsgS,V.same a.v (.agg [.int .i64 0,.int .i64 0,.int .i64 0,.agg [.int .i64 0,.int .i64 0,.int .i64 0,.int .i64 0,.arr .u8 32 zz2,.int .i64 0,.arr .u8 32 zz2,.arr .u8 32 zz2],.agg [.agg [.int .i64 0,.int .i64 0,.int .i64 0,.int .i64 0,.arr .u8 32 zz2,.int .i64 0,.arr .u8 32 zz2,.arr .u8 32 zz2],.nils],.agg [.int .i64 0,.int .i64 0,.int .i64 0,.arr .u8 32 zz2,.nils,.arr .u8 32 zz2],.agg [.arr .u8 32 zz2,.int .i64 0,.int .i64 0,.int .i64 0,.nils],.arr .u8 32 zz2,.agg [.int .i64 0,.int .i64 0,.int .i64 0,.int .i64 0,.int .i64 0,.str ⟨⟨[]⟩⟩,.str ⟨⟨[]⟩⟩]])=true:=fun a=>rfl
 have ra:=V.Wk.refl a.v
 have rb:=V.Wk.refl b.v
 cases la:lightM a with
 |false=>
  simp -implicitDefEqProofs only[pf3,z1,z2,z3,z4,hL,ZLm_eq,hA,ZAwm_eq,go_sem,↓reduceIte]
  refine⟨a,ra,?_⟩
  simp -implicitDefEqProofs only[la,go_sem,↓reduceIte]
  exact h
 |true=>
  cases lb:lightM b with
  |false=>
   simp -implicitDefEqProofs only[pf3,z1,z2,z3,z4,hL,ZLm_eq,hA,ZAwm_eq,go_sem,↓reduceIte]
   refine⟨a,ra,?_⟩
   simp -implicitDefEqProofs only[la,go_sem,↓reduceIte]
   refine⟨b,rb,?_⟩
   simp -implicitDefEqProofs only[lb,go_sem,↓reduceIte]
   exact h
  |true=>
   have oa:=light_ok wa la
   have ob:=light_ok wb lb
   simp -implicitDefEqProofs only[pf3,z1,z2,z3,z4,hL,ZLm_eq,hA,ZAwm_eq,go_sem,↓reduceIte]
   refine⟨a,ra,?_⟩
   simp -implicitDefEqProofs only[la,go_sem,↓reduceIte]
   refine⟨b,rb,?_⟩
   simp -implicitDefEqProofs only[lb,z1,z2,z3,z4,hP,ZPm_eq,hM,ZYm_eq,go_sem,↓reduceIte]
   refine⟨a,⟨ra,oa⟩,a,⟨ra,oa⟩,?_⟩
   cases hm:a.may with
   |false=>
    simp -implicitDefEqProofs only[hm,z1,z2,z3,z4,hC,ZCh_eq,hS,ZMs_eq,hR,hA,ZAwm_eq,go_sem,↓reduceIte]
    refine⟨a,⟨ra,oa⟩,?_⟩
    simp -implicitDefEqProofs only[hm,go_sem,↓reduceIte]
    exact⟨a,b,⟨ra,rb,oa.sh,ob.sh⟩,a,b,⟨ra,rb,oa.sh,ob.sh⟩,fun h=>by simp at h,fun _=>⟨a,a,⟨ra,ra,oa.sh,oa.sh⟩,fun h=>absurd rfl h,fun _=>h⟩⟩
   |true=>
    simp -implicitDefEqProofs only[hm,z1,z2,z3,z4,hC,ZCh_eq,hS,ZMs_eq,hR,hA,ZAwm_eq,hG,ZGm_eq,hE,SSm_eq,hB,ZYb_eq,go_sem,↓reduceIte]
    refine⟨a,⟨ra,oa⟩,?_⟩
    simp -implicitDefEqProofs only[hm,go_sem,↓reduceIte]
    have hMay:a.May:=of_decide_eq_true hm
    obtain⟨by1,by2⟩:=MsgS.bytes_ok oa hMay
    have hgm:=getMsg_of oa hMay
    have hgo:msgO (some a)=a:=rfl
    refine⟨a,b,⟨ra,rb,oa.sh,ob.sh⟩,a,b,⟨ra,rb,oa.sh,ob.sh⟩,fun h=>by simp at h,fun _=>⟨a,a,⟨ra,ra,oa.sh,oa.sh⟩,fun h=>absurd rfl h,fun _=>⟨a.bytes,⟨rfl,by1,by omega⟩,?_⟩⟩⟩
    rw[hgm,hgo]
    simp -implicitDefEqProofs only[sm,z1,z2,hB,ZYb_eq,hE,SSm_eq,hR,ZMs_eq,hA,ZAwm_eq,go_sem,↓reduceIte]
    exact⟨a,⟨ra,oa,hMay⟩,_,_,⟨rfl,rfl,by omega,by omega⟩,fun _=>⟨a,a,⟨ra,ra,oa.sh,oa.sh⟩,fun _=>h,fun hn=>absurd rfl hn⟩,fun hn=>absurd rfl hn⟩
theorem walk51c {a1 a2 a3 a4 a6:Int} {a5 a7 a8:List Int} (h61:Abs.look l 104=some (SRn 10)) (h53:Abs.look l 103=some ZT9) (h48:Abs.look l 53=some SBy) (hw:(⟨a1,a2,a3,a4,a5,a6,a7,a8⟩:AttS).wf) (hm:(⟨a1,a2,a3,a4,a5,a6,a7,a8⟩:AttS).May) (h:Q (.own (.sli .u8 (⟨a1,a2,a3,a4,a5,a6,a7,a8⟩:AttS).bytes)) G):Wf E (specOf l) pf51 [.agg [.int .i64 a1,.int .i64 a2,.int .i64 a3,.int .i64 a4,.arr .u8 32 a5,.int .i64 a6,.arr .u8 32 a7,.arr .u8 32 a8]] G Q:=by
 obtain⟨m1,m2⟩:=hm.1
 dsimp only at m1 m2
 obtain⟨s1,s2⟩:=AttS.said_ok hw hm
 have l8:a8.length=32:=hw.ta.2
 have w1:IntKind.u8.wrap a1=a1:=by simp only[IntKind.wrap,IntKind.bits,IntKind.signed];simp;omega
 have en:num a1.toNat=[a1]:=by rw[num_small (by omega),show ((a1.toNat:Nat):Int)=a1 by omega]
 unfold AttS.bytes at h;dsimp only at h
 rw[en]at h
 simp -implicitDefEqProofs only[pf51,w1,h53,ZT9_eq,h48,SBy_eq,l8,go_sem,↓reduceIte]
 refine⟨⟨a1,a2,a3,a4,a5,a6,a7,a8⟩,⟨rfl,hw,⟨⟨(show (1:Int)≤1 by decide),(show (1:Int)≤21 by decide)⟩,hm.2⟩⟩,?_⟩
 try simp -implicitDefEqProofs only[go_sem,↓reduceIte]
 exact⟨by omega,by omega,h⟩
open Go Go.Abs Go.RowKit Go.Abs.Sha Go.Abs.Srt
theorem ik8:intK Try.prog 5=some .u8:=by kernel_rfl
theorem int_of {n:Nat} {x:V} (h:TyV Try.prog (n+1) 3 x):∃i,x= .int .i64 i∧I64 i:=by
 unfold TyV at h;simp only[Try.underlying3]at h
 obtain⟨i,rfl,h⟩:=h;exact⟨i,rfl,wf64 h⟩
theorem hash_of {n:Nat} {x:V} (h:TyV Try.prog (n+1) 23 x):∃l,x= .arr .u8 32 l∧H32 l:=by
 unfold TyV at h;simp only[Try.underlying23,ik8]at h
 obtain⟨l,rfl,h1,h2⟩:=h;exact⟨l,rfl,fun x hx=>wf8 (h2 x hx),h1⟩
theorem str_of {n:Nat} {x:V} (h:TyV Try.prog (n+1) 9 x):∃s,x= .str s:=by
 unfold TyV at h;simp only[Try.underlying9]at h
 obtain⟨i,rfl,h⟩:=h;exact⟨i,rfl⟩
theorem att_of {n:Nat} {x:V} (h:TyV Try.prog (n+2) 25 x):∃a:AttS,x=a.v∧a.wf:=by
 unfold TyV at h;simp only[Try.underlying25,TyL]at h
 obtain⟨_,rfl,x1,_,rfl,f1,x2,_,rfl,f2,x3,_,rfl,f3,x4,_,rfl,f4,x5,_,rfl,f5,x6,_,rfl,f6,x7,_,rfl,f7,x8,_,rfl,f8,rfl⟩:=h
 obtain⟨a,rfl,ja⟩:=int_of f1
 obtain⟨b,rfl,jb⟩:=int_of f2
 obtain⟨c,rfl,jc⟩:=int_of f3
 obtain⟨d,rfl,jd⟩:=int_of f4
 obtain⟨e,rfl,je⟩:=hash_of f5
 obtain⟨f,rfl,jf⟩:=int_of f6
 obtain⟨g,rfl,jg⟩:=hash_of f7
 obtain⟨k,rfl,jk⟩:=hash_of f8
 exact⟨⟨a,b,c,d,e,f,g,k⟩,rfl,⟨ja,jb,jc,jd,jf,je,jg,jk⟩⟩
theorem sig_of {n:Nat} {x:V} (h:TyV Try.prog (n+2) 134 x):∃p:Int×List Int,x=sgV p∧I64 p.1∧H32 p.2:=by
 unfold TyV at h;simp only[Try.underlying134,TyL]at h
 obtain⟨_,rfl,x1,_,rfl,f1,x2,_,rfl,f2,rfl⟩:=h
 obtain⟨w,rfl,jw⟩:=int_of f1
 obtain⟨t,rfl,jt⟩:=hash_of f2
 exact⟨(w,t),rfl,jw,jt⟩
theorem sigr_of {n:Nat} {x:V} (h:TyV Try.prog (n+3) 26 x):∃sg:List (Int×List Int),x= .sle 33 (sg.map sgV)∧∀p∈sg,I64 p.1∧H32 p.2:=by
 have hk:intK Try.prog 134=none:=by kernel_rfl
 have hc:Try.prog.cellsOf 134=33:=by kernel_rfl
 unfold TyV at h;simp only[Try.underlying26,hk,hc]at h
 obtain⟨xs,rfl,h,hl⟩:=h
 obtain⟨sg,rfl,hw⟩:=sigs_of (xs:=xs) fun e he=>sig_of (h e he)
 exact⟨sg,rfl,hw⟩
theorem cert_of {n:Nat} {x:V} (h:TyV Try.prog (n+4) 28 x):∃c:CertS,x=c.v∧c.ok:=by
 unfold TyV at h;simp only[Try.underlying28,TyL]at h
 obtain⟨_,rfl,x1,_,rfl,f1,x2,_,rfl,f2,rfl⟩:=h
 obtain⟨a,rfl,ia⟩:=att_of f1
 obtain⟨sg,rfl,ig⟩:=sigr_of f2
 exact⟨⟨a,sg⟩,rfl,⟨ia,ig⟩⟩
theorem ints_of {n:Nat} {x:V} (h:TyV Try.prog (n+1) 29 x):∃l,x= .sli .i64 l∧∀i∈l,I64 i:=by
 have hk:intK Try.prog 3=some .i64:=by kernel_rfl
 unfold TyV at h;simp only[Try.underlying29,hk]at h
 obtain⟨l,rfl,h1,h2⟩:=h;exact⟨l,rfl,fun i hi=>wf64 (h1 i hi)⟩
theorem acc_of {n:Nat} {x:V} (h:TyV Try.prog (n+2) 31 x):∃a:AccS,x=a.v∧a.wf:=by
 unfold TyV at h;simp only[Try.underlying31,TyL]at h
 obtain⟨_,rfl,x1,_,rfl,f1,x2,_,rfl,f2,x3,_,rfl,f3,x4,_,rfl,f4,x5,_,rfl,f5,x6,_,rfl,f6,rfl⟩:=h
 obtain⟨a,rfl,ja⟩:=int_of f1
 obtain⟨b,rfl,jb⟩:=int_of f2
 obtain⟨c,rfl,jc⟩:=int_of f3
 obtain⟨d,rfl,jd⟩:=hash_of f4
 obtain⟨fr,rfl,ifr⟩:=ints_of f5
 obtain⟨e,rfl,je⟩:=hash_of f6
 exact⟨⟨a,b,c,d,fr,e⟩,rfl,⟨ja,jb,jc,jd,ifr,je⟩⟩
theorem tx_of {n:Nat} {x:V} (h:TyV Try.prog (n+2) 36 x):∃t:TxS,x=t.v:=by
 unfold TyV at h;simp only[Try.underlying36,TyL]at h
 obtain⟨_,rfl,x1,_,rfl,f1,x2,_,rfl,f2,x3,_,rfl,f3,x4,_,rfl,f4,x5,_,rfl,f5,x6,_,rfl,f6,x7,_,rfl,f7,rfl⟩:=h
 obtain⟨a,rfl,ja⟩:=int_of f1
 obtain⟨b,rfl,jb⟩:=int_of f2
 obtain⟨c,rfl,jc⟩:=int_of f3
 obtain⟨d,rfl,jd⟩:=int_of f4
 obtain⟨e,rfl,je⟩:=int_of f5
 obtain⟨f,rfl⟩:=str_of f6
 obtain⟨g,rfl⟩:=str_of f7
 exact⟨⟨a,b,c,d,e,f,g⟩,rfl⟩
theorem txs_of {n:Nat} {x:V} (h:TyV Try.prog (n+3) 32 x):∃l:List TxS,x= .sle 7 (l.map TxS.v):=by
 have hk:intK Try.prog 36=none:=by kernel_rfl
 have hc:Try.prog.cellsOf 36=7:=by kernel_rfl
 unfold TyV at h;simp only[Try.underlying32,hk,hc]at h
 obtain⟨xs,rfl,h,hl⟩:=h
 obtain⟨l,rfl,_⟩:=list_of (f:=TxS.v) (P:=fun _=>True) (xs:=xs) fun e he=>by
  obtain⟨t,rfl⟩:=tx_of (h e he)
  exact⟨t,rfl,trivial⟩
 exact⟨l,rfl⟩
theorem blk_of {n:Nat} {x:V} (h:TyV Try.prog (n+4) 34 x):∃b:BlkS,x=b.v∧H32 b.pa:=by
 unfold TyV at h;simp only[Try.underlying34,TyL]at h
 obtain⟨_,rfl,x1,_,rfl,f1,x2,_,rfl,f2,x3,_,rfl,f3,x4,_,rfl,f4,x5,_,rfl,f5,rfl⟩:=h
 obtain⟨a,rfl,ja⟩:=hash_of f1
 obtain⟨b,rfl,jb⟩:=int_of f2
 obtain⟨c,rfl,jc⟩:=int_of f3
 obtain⟨d,rfl,jd⟩:=int_of f4
 obtain⟨l,rfl⟩:=txs_of f5
 exact⟨⟨a,b,c,d,l⟩,rfl,ja⟩
theorem msg_of {n:Nat} {x:V} (h:TyV Try.prog (n+5) 38 x):∃m:MsgS,x=m.v∧m.wf:=by
 unfold TyV at h;simp only[Try.underlying38,TyL]at h
 obtain⟨_,rfl,x1,_,rfl,f1,x2,_,rfl,f2,x3,_,rfl,f3,x4,_,rfl,f4,x5,_,rfl,f5,x6,_,rfl,f6,x7,_,rfl,f7,x8,_,rfl,f8,x9,_,rfl,f9,rfl⟩:=h
 obtain⟨k,rfl,jk⟩:=int_of f1
 obtain⟨f,rfl,jf⟩:=int_of f2
 obtain⟨t,rfl,jt⟩:=int_of f3
 obtain⟨a,rfl,ia⟩:=att_of f4
 obtain⟨c,rfl,ic⟩:=cert_of f5
 obtain⟨y,rfl,iy⟩:=acc_of f6
 obtain⟨b,rfl,ib⟩:=blk_of f7
 obtain⟨e,rfl,je⟩:=hash_of f8
 obtain⟨z,rfl⟩:=tx_of f9
 exact⟨⟨k,f,t,a,c,y,b,e,z⟩,rfl,⟨ia,ic,iy,ib,je⟩⟩
end Go.Proofs.Ytegamlopcdjiaaa.Sha
