/- Laws over plain values, and what functions of the program hand back; no conditions. -/
import Derived.Test.YtegamlopcdjiaaaG16
namespace Go.Proofs.Ytegamlopcdjiaaa.Sha
open Go Go.Abs Go.Abs.Sha Go.Abs.Srt
set_option linter.unusedSimpArgs false
set_option linter.unusedVariables false
set_option maxRecDepth 100000
def pf16:PF:=
 PF.mk 1 16 69 ((PC.reg [nn (.v 1) (.box (.v 0)),nn (.v 2) (.mv true (.c (.own .nils)))]).seq ((PC.reg [nn (.v 4) (.fadr 0 0 (.v 1)),nn (.v 5) (.load
  1 false (.v 4)),nn (.v 6) (.conv .u8 (.v 5)),nn (.v 7) (.fadr 1 1 (.v 1)),nn (.v 8) (.load 1 false (.v 7)),nn (.v 9) (.conv .u8 (.v 8)),nn (.v
  10) (.fadr 2 2 (.v 1)),nn (.v 11) (.load 1 false (.v 10)),nn (.v 12) (.conv .u8 (.v 11)),nn (.v 13) (.buildS (some .u8) 1 (.int .u8 0) 3 [(0,.v
  6),(1,.v 9),(2,.v 12)]),nn (.v 3) (.mv true (.v 13))]).seq (((PC.reg [nn (.v 14) (.fadr 0 0 (.v 1)),nn (.v 15) (.load 1 false (.v 14))]).seq
  (PC.block 0 (((PC.reg [nn (.t 17) (.bin .eql (.v 15) (.c (.v (.int .i64 1)))),nn (.t 16) (.mv true (.t 17))]).seq (PC.cond (.t 16) PC.skip ((PC.reg
  [nn (.t 18) (.bin .eql (.v 15) (.c (.v (.int .i64 3)))),nn (.t 16) (.mv true (.t 18))]).seq (PC.cond (.t 16) PC.skip (PC.reg [nn (.t 19) (.bin .eql
  (.v 15) (.c (.v (.int .i64 5)))),nn (.t 16) (.mv true (.t 19))]))))).seq (PC.cond (.t 16) ((PC.reg [nn (.t 20) (.mv true (.v 3)),nn (.t 21) (.fadr
  3 3 (.v 1)),nn (.t 22) (.load 101 true (.t 21)),nn (.t 23) (.call 51 [.t 22]),nn (.t 24) (.app (some .u8) 1 1 (.t 20) (.t 23)),ma 2 24]).seq
  PC.ret) (((PC.reg [nn (.t 26) (.bin .eql (.v 15) (.c (.v (.int .i64 4)))),nn (.t 25) (.mv true (.t 26))]).seq (PC.cond (.t 25) PC.skip (PC.reg [nn
  (.t 27) (.bin .eql (.v 15) (.c (.v (.int .i64 6)))),nn (.t 25) (.mv true (.t 27))]))).seq (PC.cond (.t 25) ((PC.reg [nn (.t 28) (.mv true (.v 3)),
  nn (.t 29) (.fadr 4 104 (.v 1)),nn (.t 30) (.load 102 true (.t 29)),nn (.t 31) (.call 52 [.t 30]),nn (.t 32) (.app (some .u8) 1 1 (.t 28) (.t
  31)),ma 2 32]).seq PC.ret) ((PC.reg [nn (.t 34) (.bin .eql (.v 15) (.c (.v (.int .i64 7)))),nn (.t 33) (.mv true (.t 34))]).seq (PC.cond (.t 33)
  ((PC.reg [nn (.t 35) (.mv true (.v 3)),nn (.t 36) (.fadr 7 310 (.v 1)),nn (.t 37) (.load 32 true (.t 36)),nn (.t 38) (.call 53 [.t 37]),nn (.t
  39) (.app (some .u8) 1 1 (.t 35) (.t 38)),ma 2 39]).seq PC.ret) ((PC.reg [nn (.t 41) (.bin .eql (.v 15) (.c (.v (.int .i64 9)))),nn (.t 40) (.mv
  true (.t 41))]).seq (PC.cond (.t 40) ((PC.reg [nn (.t 42) (.mv true (.v 3)),nn (.t 43) (.fadr 8 342 (.v 1)),nn (.t 44) (.load 7 true (.t 43)),nn
  (.t 45) (.call 54 [.t 44]),nn (.t 46) (.app (some .u8) 1 1 (.t 42) (.t 45)),ma 2 46]).seq PC.ret) ((PC.reg [nn (.t 48) (.bin .eql (.v 15) (.c (.v
  (.int .i64 10)))),nn (.t 47) (.mv true (.t 48))]).seq (PC.cond (.t 47) ((PC.reg [nn (.t 49) (.mv true (.v 3)),nn (.t 50) (.fadr 5 206 (.v 1)),nn
  (.t 51) (.load 68 true (.t 50)),nn (.t 52) (.call 55 [.t 51]),nn (.t 53) (.app (some .u8) 1 1 (.t 49) (.t 52)),ma 2 53]).seq PC.ret)
  PC.skip)))))))))))).seq ((PC.reg [nn (.t 54) (.mv true (.v 3)),nn (.t 55) (.fadr 6 274 (.v 1)),nn (.t 56) (.load 36 true (.t 55)),nn (.t 57)
  (.call 57 [.t 56]),nn (.t 58) (.call 56 [.t 57]),nn (.t 59) (.app (some .u8) 1 1 (.t 54) (.t 58)),ma 3 59]).seq (((PC.reg [nn (.t 60) (.fadr 0 0
  (.v 1)),nn (.t 61) (.load 1 false (.t 60)),nn (.t 62) (.bin .eql (.t 61) (.c (.v (.int .i64 2))))]).seq (PC.cond (.t 62) (PC.reg [nn (.t 63) (.mv
  true (.v 3)),nn (.t 64) (.fadr 5 206 (.v 1)),nn (.t 65) (.load 68 true (.t 64)),nn (.t 66) (.call 55 [.t 65]),nn (.t 67) (.app (some .u8) 1 1 (.t
  63) (.t 66)),ma 3 67]) PC.skip)).seq ((PC.reg [nn (.t 68) (.mv true (.v 3)),ma 2 68]).seq PC.ret)))))) [(.v 2,none)]
attribute [local irreducible] W Wops WopsD WL Wop WopD
variable {E:Env} {C:Abs.Spec} {l:List (Nat×Spec1)} {G:List (Nat×V)} {Q:R→List (Nat×V)→Prop}
set_option maxHeartbeats 1000000
def ZYb:Spec1
 |[x],G,Q=>∃m:MsgS,(V.Wk x m.v∧m.ok∧m.May)∧Q (.own (.sli .u8 m.bytes)) G
 |_,_,_=>False
theorem ZYb_eq {x}:ZYb [x] G Q=(∃m:MsgS,(V.Wk x m.v∧m.ok∧m.May)∧Q (.own (.sli .u8 m.bytes)) G):=rfl
theorem walk16 {m:MsgS} (hA:Abs.look l 51=some SAb) (hC:Abs.look l 52=some ZBc) (hH:Abs.look l 53=some SBy) (hT:Abs.look l 54=some ZBt) (hX:Abs.look l 55=some ZBy) (hP:Abs.look l 57=some ZBq) (hO:Abs.look l 56=some ZXt)
  (ok:m.ok) (hm:m.May) (h:Q (.own (.sli .u8 m.bytes)) G):Wf E (specOf l) pf16 [m.v] G Q:=by
 have bl:=(MsgS.body_ok ok hm.2.1).2
 obtain⟨o1,o2,o3,o4,o5,o6,o7,o8,o9⟩:=ok
 obtain⟨k,f,t,a,c,x,b,hh,y⟩:=m
 obtain⟨⟨h1,h2,_⟩,_⟩:=id hm
 dsimp only at o1 o2 o3 o4 o5 o6 o7 o8 o9 h1 h2
 have lh:hh.length=32:=o7.2
 have w1:∀{n:Int},0≤n→n≤255→IntKind.u8.wrap n=n:=fun h1 h2=>by simp only[IntKind.wrap,IntKind.bits,IntKind.signed];simp;omega
 have hk:=has_ki hm.2.1
 dsimp only at hk
 have w3:=w1 (n:=t) (by omega) (by omega)
 have w2:=w1 (n:=f) (by omega) (by omega)
 have w1:=w1 (n:=k) (by omega) (by omega)
 have ef:((f.toNat:Nat):Int)=f:=by omega
 have et:((t.toNat:Nat):Int)=t:=by omega
 show Wf E (specOf l) pf16 [.agg [.int .i64 k,.int .i64 f,.int .i64 t,a.v,c.v,x.v,b.v,.arr .u8 32 hh,y.v]] G Q
 obtain⟨z1,z2⟩:=AttS.vs a
 obtain⟨z3,z4⟩:=CertS.vs c
 obtain⟨z5,z6⟩:=AccS.vs x
 obtain⟨z9,z10⟩:=BlkS.vs b
 obtain⟨z11,z12⟩:=TxS.vs y
 unfold V.isAgg at z2 z4 z6 z10 z12
 by_cases k1:k=1
 ·subst k1
  have q:a.may=true:=by have:=hm.2.1;simp[MsgS.has]at this;exact this.1
  have qm:a.May:=of_decide_eq_true q
  have al:a.bytes.length≤5000:=by simpa [MsgS.body,q]using bl
  have hB:MsgS.bytes ⟨1,f,t,a,c,x,b,hh,y⟩=[1,f,t]++a.bytes:=by unfold MsgS.bytes;dsimp only;rw[num_small (n:=Int.toNat 1) (by decide),num_small (n:=f.toNat) (by omega),num_small (n:=t.toNat) (by omega),ef,et];simp[MsgS.body,q]
  rw[hB]at h
  obtain⟨a1,a2,a3,a4,a5,a6,a7,a8⟩:=a
  simp -implicitDefEqProofs only[pf16,AttS.v,z1,z2,z3,z4,z5,z6,z9,z10,z11,z12,w1,w2,w3,hA,SAb_eq,go_sem,↓reduceIte]
  exact⟨⟨o1,qm⟩,by omega,h⟩
 by_cases k3:k=3
 ·subst k3
  have q:a.may=true:=by have:=hm.2.1;simp[MsgS.has]at this;exact this.1
  have qm:a.May:=of_decide_eq_true q
  have al:a.bytes.length≤5000:=by simpa [MsgS.body,q]using bl
  have hB:MsgS.bytes ⟨3,f,t,a,c,x,b,hh,y⟩=[3,f,t]++a.bytes:=by unfold MsgS.bytes;dsimp only;rw[num_small (n:=Int.toNat 3) (by decide),num_small (n:=f.toNat) (by omega),num_small (n:=t.toNat) (by omega),ef,et];simp[MsgS.body,q]
  rw[hB]at h
  obtain⟨a1,a2,a3,a4,a5,a6,a7,a8⟩:=a
  simp -implicitDefEqProofs only[pf16,AttS.v,z1,z2,z3,z4,z5,z6,z9,z10,z11,z12,w1,w2,w3,hA,SAb_eq,go_sem,↓reduceIte]
  exact⟨⟨o1,qm⟩,by omega,h⟩
 by_cases k5:k=5
 ·subst k5
  have q:a.may=true:=by have:=hm.2.1;simp[MsgS.has]at this;exact this.1
  have qm:a.May:=of_decide_eq_true q
  have al:a.bytes.length≤5000:=by simpa [MsgS.body,q]using bl
  have hB:MsgS.bytes ⟨5,f,t,a,c,x,b,hh,y⟩=[5,f,t]++a.bytes:=by unfold MsgS.bytes;dsimp only;rw[num_small (n:=Int.toNat 5) (by decide),num_small (n:=f.toNat) (by omega),num_small (n:=t.toNat) (by omega),ef,et];simp[MsgS.body,q]
  rw[hB]at h
  obtain⟨a1,a2,a3,a4,a5,a6,a7,a8⟩:=a
  simp -implicitDefEqProofs only[pf16,AttS.v,z1,z2,z3,z4,z5,z6,z9,z10,z11,z12,w1,w2,w3,hA,SAb_eq,go_sem,↓reduceIte]
  exact⟨⟨o1,qm⟩,by omega,h⟩
 by_cases k4:k=4
 ·subst k4
  have q:c.may=true:=by have:=hm.2.1;simp[MsgS.has]at this;exact this.1
  have qm:c.May:=of_decide_eq_true q
  have al:c.bytes.length≤5000:=by simpa [MsgS.body,q]using bl
  have hB:MsgS.bytes ⟨4,f,t,a,c,x,b,hh,y⟩=[4,f,t]++c.bytes:=by unfold MsgS.bytes;dsimp only;rw[num_small (n:=Int.toNat 4) (by decide),num_small (n:=f.toNat) (by omega),num_small (n:=t.toNat) (by omega),ef,et];simp[MsgS.body,q]
  rw[hB]at h
  simp -implicitDefEqProofs only[pf16,z1,z2,z3,z4,z5,z6,z9,z10,z11,z12,w1,w2,w3,hC,ZBc_eq,go_sem,↓reduceIte]
  exact⟨c,⟨rfl,o2,qm⟩,by omega,h⟩
 by_cases k6:k=6
 ·subst k6
  have q:c.may=true:=by have:=hm.2.1;simp[MsgS.has]at this;exact this.1
  have qm:c.May:=of_decide_eq_true q
  have al:c.bytes.length≤5000:=by simpa [MsgS.body,q]using bl
  have hB:MsgS.bytes ⟨6,f,t,a,c,x,b,hh,y⟩=[6,f,t]++c.bytes:=by unfold MsgS.bytes;dsimp only;rw[num_small (n:=Int.toNat 6) (by decide),num_small (n:=f.toNat) (by omega),num_small (n:=t.toNat) (by omega),ef,et];simp[MsgS.body,q]
  rw[hB]at h
  simp -implicitDefEqProofs only[pf16,z1,z2,z3,z4,z5,z6,z9,z10,z11,z12,w1,w2,w3,hC,ZBc_eq,go_sem,↓reduceIte]
  exact⟨c,⟨rfl,o2,qm⟩,by omega,h⟩
 by_cases k7:k=7
 ·subst k7
  have hB:MsgS.bytes ⟨7,f,t,a,c,x,b,hh,y⟩=[7,f,t]++hh:=by unfold MsgS.bytes;dsimp only;rw[num_small (n:=Int.toNat 7) (by decide),num_small (n:=f.toNat) (by omega),num_small (n:=t.toNat) (by omega),ef,et];simp[MsgS.body]
  rw[hB]at h
  simp -implicitDefEqProofs only[pf16,z1,z2,z3,z4,z5,z6,z9,z10,z11,z12,w1,w2,w3,lh,hH,SBy_eq,go_sem,↓reduceIte]
  exact h
 by_cases k9:k=9
 ·subst k9
  have q:y.may=true:=by have:=hm.2.1;simpa [MsgS.has]using this
  have qm:y.May:=of_decide_eq_true q
  have al:y.bytes.length≤5000:=by simpa [MsgS.body,q]using bl
  have hB:MsgS.bytes ⟨9,f,t,a,c,x,b,hh,y⟩=[9,f,t]++y.bytes:=by unfold MsgS.bytes;dsimp only;rw[num_small (n:=Int.toNat 9) (by decide),num_small (n:=f.toNat) (by omega),num_small (n:=t.toNat) (by omega),ef,et];simp[MsgS.body,q]
  rw[hB]at h
  simp -implicitDefEqProofs only[pf16,z1,z2,z3,z4,z5,z6,z9,z10,z11,z12,w1,w2,w3,hT,ZBt_eq,go_sem,↓reduceIte]
  exact⟨y,⟨rfl,qm⟩,by omega,h⟩
 by_cases k10:k=10
 ·subst k10
  have q:x.may=true:=by have:=hm.2.1;simpa [MsgS.has]using this
  have qm:x.May:=of_decide_eq_true q
  have al:x.bytes.length≤5000:=by simpa [MsgS.body,q]using bl
  have hB:MsgS.bytes ⟨10,f,t,a,c,x,b,hh,y⟩=[10,f,t]++x.bytes:=by unfold MsgS.bytes;dsimp only;rw[num_small (n:=Int.toNat 10) (by decide),num_small (n:=f.toNat) (by omega),num_small (n:=t.toNat) (by omega),ef,et];simp[MsgS.body,q]
  rw[hB]at h
  simp -implicitDefEqProofs only[pf16,z1,z2,z3,z4,z5,z6,z9,z10,z11,z12,w1,w2,w3,hX,ZBy_eq,go_sem,↓reduceIte]
  exact⟨x,⟨rfl,o4,qm⟩,by omega,h⟩
 by_cases k8:k=8
 ·subst k8
  have q:b.may=true∧0 < b.vi:=by have:=hm.2.1;simpa [MsgS.has]using this
  have q2:x.may=false:=by
   have:=hm.2.2;simp[MsgS.named,MsgS.bare]at this;rw[this.2.2.1];exact AccS.zero_may
  have qm:b.May:=of_decide_eq_true q.1
  have qn:b.vi≠0:=by omega
  have al:(txt b.bytes).length≤5000:=by simpa [MsgS.body,q,q2,qn]using bl
  have bl2:=(BlkS_bytes_ok o6.1 qm).2
  have hB:MsgS.bytes ⟨8,f,t,a,c,x,b,hh,y⟩=[8,f,t]++txt b.bytes:=by unfold MsgS.bytes;dsimp only;rw[num_small (n:=Int.toNat 8) (by decide),num_small (n:=f.toNat) (by omega),num_small (n:=t.toNat) (by omega),ef,et];simp[MsgS.body,q,q2,qn]
  rw[hB]at h
  simp -implicitDefEqProofs only[pf16,z1,z2,z3,z4,z5,z6,z9,z10,z11,z12,w1,w2,w3,hP,ZBq_eq,go_sem,↓reduceIte]
  refine⟨b,_,⟨BV_v b,.inl (.inl rfl),o6.1,qm⟩,?_⟩
  simp -implicitDefEqProofs only[hO,ZXt_eq,go_sem,↓reduceIte]
  exact⟨by omega,by omega,h⟩
 by_cases k2:k=2
 ·subst k2
  have q:(b.may=true∧0 < b.vi)∧x.may=true:=by have:=hm.2.1;simpa [MsgS.has]using this
  obtain⟨q,q2⟩:=q
  have qm:b.May:=of_decide_eq_true q.1
  have qn:b.vi≠0:=by omega
  have al:(txt b.bytes++x.bytes).length≤5000:=by have:=bl;simpa [MsgS.body,q,q2,qn]using this
  have bl2:=(BlkS_bytes_ok o6.1 qm).2
  rw[List.length_append]at al
  have hB:MsgS.bytes ⟨2,f,t,a,c,x,b,hh,y⟩=[2,f,t]++(txt b.bytes++x.bytes):=by unfold MsgS.bytes;dsimp only;rw[num_small (n:=Int.toNat 2) (by decide),num_small (n:=f.toNat) (by omega),num_small (n:=t.toNat) (by omega),ef,et];simp[MsgS.body,q,q2,qn]
  rw[hB]at h
  simp -implicitDefEqProofs only[pf16,z1,z2,z3,z4,z5,z6,z9,z10,z11,z12,w1,w2,w3,hP,ZBq_eq,go_sem,↓reduceIte]
  refine⟨b,_,⟨BV_v b,.inl (.inl rfl),o6.1,qm⟩,?_⟩
  simp -implicitDefEqProofs only[hO,ZXt_eq,z1,z2,z3,z4,z5,z6,z9,z10,z11,z12,hX,ZBy_eq,go_sem,↓reduceIte]
  exact⟨by omega,by omega,x,⟨rfl,o4,of_decide_eq_true q2⟩,by omega,h⟩
 have:=has_ki hm.2.1
 dsimp only at this
 omega
def pf17:PF:=
 PF.mk 1 31 114 ((PC.reg [nn (.v 2) (.alloc (.agg [.int .i64 0,.int .i64 0,.int .i64 0,.agg [.int .i64 0,.int .i64 0,.int .i64 0,.int .i64 0,.arr
  .u8 32 zz2,.int .i64 0,.arr .u8 32 [0,0,0,0,0,0,
  0,0,0,0,0,0,0,0,0,0,0,0,0,0,0,0,0,0,0,0,0,0,0,0,0,0],.arr .u8 32 [0,0,0,0,0,0,0,0,0,0,0,0,0,0,0,0,0,0,0,
  0,0,0,0,0,0,0,0,0,0,0,0,0]],.agg [.agg [.int .i64 0,.int .i64 0,.int .i64 0,.int .i64 0,.arr .u8 32 [0,0,0,0,0,0,0,0,0,0,
  0,0,0,0,0,0,0,0,0,0,0,0,0,0,0,0,0,0,0,0,0,0],.int .i64 0,.arr .u8 32 [0,0,0,0,0,0,0,0,0,0,0,0,0,0,0,0,0,0,0,
  0,0,0,0,0,0,0,0,0,0,0,0,0],.arr .u8 32 [0,0,0,0,0,0,0,0,0,0,0,0,0,0,0,0,0,0,0,0,0,0,0,0,0,0,0,0,0,0,0,
  0]],.nils],.agg [.int .i64 0,.int .i64 0,.int .i64 0,.arr .u8 32 [0,0,0,0,0,0,0,0,0,0,0,0,0,0,0,0,0,0,0,0,0,0,0,0,0,0,
  0,0,0,0,0,0],.nils,.arr .u8 32 zz2],.agg [.arr
  .u8 32 zz2,.int .i64 0,.int .i64 0,.int .i64 0,
  .nils],.arr .u8 32 zz2,.agg [.int .i64 0,.int .i64 0,
  .int .i64 0,.int .i64 0,.int .i64 0,.str ⟨⟨[]⟩⟩,.str ⟨⟨[]⟩⟩]])),nn (.v 3) (.mv true (.c (.v (.bool false))))]).seq ((PC.reg [nn (.v 8) (.build
  (.agg [.int .i64 0,.int .i64 0,.int .i64 0,.agg [.int .i64 0,.int .i64 0,.int .i64 0,.int .i64 0,.arr .u8 32 [0,0,0,0,0,0,0,0,0,0,0,
  0,0,0,0,0,0,0,0,0,0,0,0,0,0,0,0,0,0,0,0,0],.int .i64 0,.arr .u8 32 [0,0,0,0,0,0,0,0,0,0,0,0,0,0,0,0,0,0,0,0,
  0,0,0,0,0,0,0,0,0,0,0,0],.arr .u8 32 zz2],
  .agg [.agg [.int .i64 0,.int .i64 0,.int .i64 0,.int .i64 0,.arr .u8 32 [0,0,0,0,0,0,0,0,0,0,0,0,0,0,0,0,0,0,0,0,0,0,0,0,
  0,0,0,0,0,0,0,0],.int .i64 0,.arr .u8 32 zz2,
  .arr .u8 32 zz2],.nils],.agg [.int .i64 0,.int .i64
  0,.int .i64 0,.arr .u8 32 zz2,.nils,.arr .u8 32 [0,
  0,0,0,0,0,0,0,0,0,0,0,0,0,0,0,0,0,0,0,0,0,0,0,0,0,0,0,0,0,0,0]],.agg [.arr .u8 32 [0,0,0,0,0,0,0,0,0,0,0,0,
  0,0,0,0,0,0,0,0,0,0,0,0,0,0,0,0,0,0,0,0],.int .i64 0,.int .i64 0,.int .i64 0,.nils],.arr .u8 32 [0,0,0,0,0,0,0,0,0,
  0,0,0,0,0,0,0,0,0,0,0,0,0,0,0,0,0,0,0,0,0,0,0],.agg [.int .i64 0,.int .i64 0,.int .i64 0,.int .i64 0,.int .i64 0,.str
  ⟨⟨[]⟩⟩,.str ⟨⟨[]⟩⟩]]) []),nn (.v 4) (.alloc (.agg [.int .i64 0,.int .i64 0,.int .i64 0,.agg [.int .i64 0,.int .i64 0,.int .i64 0,.int .i64 0,
  .arr .u8 32 zz2,.int .i64 0,.arr .u8 32 [0,0,0,0,
  0,0,0,0,0,0,0,0,0,0,0,0,0,0,0,0,0,0,0,0,0,0,0,0,0,0,0,0],.arr .u8 32 [0,0,0,0,0,0,0,0,0,0,0,0,0,0,0,0,0,
  0,0,0,0,0,0,0,0,0,0,0,0,0,0,0]],.agg [.agg [.int .i64 0,.int .i64 0,.int .i64 0,.int .i64 0,.arr .u8 32 [0,0,0,0,0,0,0,0,
  0,0,0,0,0,0,0,0,0,0,0,0,0,0,0,0,0,0,0,0,0,0,0,0],.int .i64 0,.arr .u8 32 [0,0,0,0,0,0,0,0,0,0,0,0,0,0,0,0,0,
  0,0,0,0,0,0,0,0,0,0,0,0,0,0,0],.arr .u8 32 [0,0,0,0,0,0,0,0,0,0,0,0,0,0,0,0,0,0,0,0,0,0,0,0,0,0,0,0,0,0,
  0,0]],.nils],.agg [.int .i64 0,.int .i64 0,.int .i64 0,.arr .u8 32 [0,0,0,0,0,0,0,0,0,0,0,0,0,0,0,0,0,0,0,0,0,0,0,0,0,
  0,0,0,0,0,0,0],.nils,.arr .u8 32 zz2],.agg
  [.arr .u8 32 zz2,.int .i64 0,.int .i64 0,.int .i64 0,
  .nils],.arr .u8 32 zz2,.agg [.int .i64 0,.int .i64 0,
  .int .i64 0,.int .i64 0,.int .i64 0,.str ⟨⟨[]⟩⟩,.str ⟨⟨[]⟩⟩]])),nn .no (.store 349 (.v 4) (.v 8))]).seq ((PC.reg [nn (.v 9) (.mv false (.v 0)),
  nn (.v 10) (.build (.agg [.nils,.int .i64 0,.bool false]) [(0,.v 9)]),nn (.v 5) (.alloc (.agg [.nils,.int .i64 0,.bool false])),nn .no (.store
  3 (.v 5) (.v 10))]).seq ((PC.reg [nn (.v 12) (.load 3 true (.v 5)),nn (.v 13) (.call 58 [.v 12,.c (.v (.int .i64 10))]),nn (.v 11) (.mv false (.v
  13)),nn (.v 14) (.ext (.v 11) 0),nn (.v 15) (.ext (.v 11) 1),nn .no (.store 3 (.v 5) (.v 14)),nn (.v 16) (.fadr 0 0 (.v 4)),nn .no (.store 1 (.v
  16) (.v 15))]).seq ((PC.reg [nn (.v 18) (.load 3 true (.v 5)),nn (.v 19) (.call 58 [.v 18,.c (.v (.int .i64 21))]),nn (.v 17) (.mv false (.v 19)),
  nn (.v 20) (.ext (.v 17) 0),nn (.v 21) (.ext (.v 17) 1),nn .no (.store 3 (.v 5) (.v 20)),nn (.v 22) (.fadr 1 1 (.v 4)),nn .no (.store 1 (.v 22)
  (.v 21))]).seq ((PC.reg [nn (.v 24) (.load 3 true (.v 5)),nn (.v 25) (.call 58 [.v 24,.c (.v (.int .i64 21))]),nn (.v 23) (.mv false (.v 25)),nn
  (.v 26) (.ext (.v 23) 0),nn (.v 27) (.ext (.v 23) 1),nn .no (.store 3 (.v 5) (.v 26)),nn (.v 28) (.fadr 2 2 (.v 4)),nn .no (.store 1 (.v 28) (.v
  27))]).seq (((PC.reg [nn (.v 29) (.fadr 0 0 (.v 4)),nn (.v 30) (.load 1 false (.v 29))]).seq (PC.block 0 (((PC.reg [nn (.t 32) (.bin .eql (.v 30)
  (.c (.v (.int .i64 1)))),nn (.t 31) (.mv true (.t 32))]).seq (PC.cond (.t 31) PC.skip ((PC.reg [nn (.t 33) (.bin .eql (.v 30) (.c (.v (.int .i64
  3)))),nn (.t 31) (.mv true (.t 33))]).seq (PC.cond (.t 31) PC.skip (PC.reg [nn (.t 34) (.bin .eql (.v 30) (.c (.v (.int .i64 5)))),nn (.t 31) (.mv
  true (.t 34))]))))).seq (PC.cond (.t 31) (PC.reg [nn (.t 36) (.load 3 true (.v 5)),nn (.t 37) (.call 59 [.t 36]),nn (.t 35) (.mv false (.t 37)),nn
  (.t 38) (.ext (.t 35) 0),nn (.t 39) (.ext (.t 35) 1),nn (.t 40) (.ext (.t 35) 2),nn (.t 41) (.fadr 3 3 (.v 4)),nn .no (.store 101 (.t 41) (.t
  39))]) (((PC.reg [nn (.t 43) (.bin .eql (.v 30) (.c (.v (.int .i64 4)))),nn (.t 42) (.mv true (.t 43))]).seq (PC.cond (.t 42) PC.skip (PC.reg [nn
  (.t 44) (.bin .eql (.v 30) (.c (.v (.int .i64 6)))),nn (.t 42) (.mv true (.t 44))]))).seq (PC.cond (.t 42) (PC.reg [nn (.t 46) (.load 3 true (.v
  5)),nn (.t 47) (.call 60 [.t 46]),nn (.t 45) (.mv false (.t 47)),nn (.t 48) (.ext (.t 45) 0),nn (.t 49) (.ext (.t 45) 1),nn (.t 50) (.ext (.t
  45) 2),nn (.t 51) (.fadr 4 104 (.v 4)),nn .no (.store 102 (.t 51) (.t 49))]) ((PC.reg [nn (.t 53) (.bin .eql (.v 30) (.c (.v (.int .i64 7)))),nn
  (.t 52) (.mv true (.t 53))]).seq (PC.cond (.t 52) (PC.reg [nn (.t 55) (.load 3 true (.v 5)),nn (.t 56) (.call 61 [.t 55]),nn (.t 54) (.mv false (.t
  56)),nn (.t 57) (.ext (.t 54) 0),nn (.t 58) (.ext (.t 54) 1),nn (.t 59) (.fadr 7 310 (.v 4)),nn .no (.store 32 (.t 59) (.t 58))]) ((PC.reg [nn
  (.t 61) (.bin .eql (.v 30) (.c (.v (.int .i64 9)))),nn (.t 60) (.mv true (.t 61))]).seq (PC.cond (.t 60) (PC.reg [nn (.t 63) (.load 3 true (.v 5)),
  nn (.t 64) (.call 62 [.t 63]),nn (.t 62) (.mv false (.t 64)),nn (.t 65) (.ext (.t 62) 0),nn (.t 66) (.ext (.t 62) 1),nn (.t 67) (.ext (.t 62) 2),
  nn (.t 68) (.fadr 8 342 (.v 4)),nn .no (.store 7 (.t 68) (.t 66))]) ((PC.reg [nn (.t 70) (.bin .eql (.v 30) (.c (.v (.int .i64 10)))),nn (.t 69)
  (.mv true (.t 70))]).seq (PC.cond (.t 69) (PC.reg [nn (.t 72) (.load 3 true (.v 5)),nn (.t 73) (.call 63 [.t 72]),nn (.t 71) (.mv false (.t 73)),
  nn (.t 74) (.ext (.t 71) 0),nn (.t 75) (.ext (.t 71) 1),nn (.t 76) (.ext (.t 71) 2),nn (.t 77) (.fadr 5 206 (.v 4)),nn .no (.store 68 (.t 77) (.t
  75))]) (((PC.reg [nn (.t 79) (.bin .eql (.v 30) (.c (.v (.int .i64 2)))),nn (.t 78) (.mv true (.t 79))]).seq (PC.cond (.t 78) PC.skip (PC.reg [nn
  (.t 80) (.bin .eql (.v 30) (.c (.v (.int .i64 8)))),nn (.t 78) (.mv true (.t 80))]))).seq (PC.cond (.t 78) ((PC.reg [nn (.t 82) (.load 3 true (.v
  5)),nn (.t 83) (.call 64 [.t 82]),nn (.t 81) (.mv false (.t 83)),nn (.t 84) (.ext (.t 81) 0),nn (.t 85) (.ext (.t 81) 1),nn (.v 6) (.alloc (.agg
  [.nils,.int .i64 0,.bool false])),nn .no (.store 3 (.v 6) (.t 84)),ma 7 85]).seq ((PC.reg [mm 87 7,nn (.t 88) (.call 65 [.t 87]),nn (.t 86)
  (.mv false (.t 88)),nn (.t 89) (.ext (.t 86) 0),nn (.t 90) (.ext (.t 86) 1),nn (.t 91) (.fadr 6 274 (.v 4)),nn .no (.store 36 (.t 91) (.t
  89))]).seq ((PC.reg [nn (.t 92) (.fadr 0 0 (.v 4)),nn (.t 93) (.load 1 false (.t 92)),nn (.t 94) (.bin .eql (.t 93) (.c (.v (.int .i64 2))))]).seq
  (PC.cond (.t 94) (PC.reg [nn (.t 96) (.load 3 true (.v 6)),nn (.t 97) (.call 63 [.t 96]),nn (.t 95) (.mv false (.t 97)),nn (.t 98) (.ext (.t 95)
  0),nn (.t 99) (.ext (.t 95) 1),nn (.t 100) (.ext (.t 95) 2),nn (.t 101) (.fadr 5 206 (.v 4)),nn .no (.store 68 (.t 101) (.t 99))]) PC.skip))))
  PC.skip)))))))))))))).seq (((PC.reg [nn (.t 102) (.load 349 true (.v 4)),nn (.t 103) (.call 10 [.t 102]),nn (.t 104) (.un .not (.t 103)),nn (.t
  105) (.mv false (.t 104)),⟨.t 106,.load 349 true (.v 4),some (.t 105,false)⟩,⟨.t 107,.call 16 [.t 106],some (.t 105,false)⟩,gm 108 0 105
  false,⟨.t 109,.call 15 [.t 107,.t 108],some (.t 105,false)⟩,⟨.t 110,.un .not (.t 109),some (.t 105,false)⟩,nn (.t 111) (.pick (.t 105) (.c
  (.v (.bool true))) (.t 110))]).seq (PC.cond (.t 111) ((PC.reg [nn (.t 112) (.build (.agg [.int .i64 0,.int .i64 0,.int .i64 0,.agg [.int .i64 0,
  .int .i64 0,.int .i64 0,.int .i64 0,.arr .u8 32 zz2,
  .int .i64 0,.arr .u8 32 zz2,.arr .u8 32 [0,0,0,0,
  0,0,0,0,0,0,0,0,0,0,0,0,0,0,0,0,0,0,0,0,0,0,0,0,0,0,0,0]],.agg [.agg [.int .i64 0,.int .i64 0,.int .i64 0,.int .i64 0,
  .arr .u8 32 zz2,.int .i64 0,.arr .u8 32 [0,0,0,0,
  0,0,0,0,0,0,0,0,0,0,0,0,0,0,0,0,0,0,0,0,0,0,0,0,0,0,0,0],.arr .u8 32 [0,0,0,0,0,0,0,0,0,0,0,0,0,0,0,0,0,
  0,0,0,0,0,0,0,0,0,0,0,0,0,0,0]],.nils],.agg [.int .i64 0,.int .i64 0,.int .i64 0,.arr .u8 32 [0,0,0,0,0,0,0,0,0,0,0,0,
  0,0,0,0,0,0,0,0,0,0,0,0,0,0,0,0,0,0,0,0],.nils,.arr .u8 32 [0,0,0,0,0,0,0,0,0,0,0,0,0,0,0,0,0,0,0,0,0,0,0,
  0,0,0,0,0,0,0,0,0]],.agg [.arr .u8 32 zz2,.int
  .i64 0,.int .i64 0,.int .i64 0,.nils],.arr .u8 32 [0,0,0,0,0,0,0,0,0,0,0,0,0,0,0,0,0,0,0,0,0,0,0,0,0,0,0,0,0,0,0,
  0],.agg [.int .i64 0,.int .i64 0,.int .i64 0,.int .i64 0,.int .i64 0,.str ⟨⟨[]⟩⟩,.str ⟨⟨[]⟩⟩]]) []),nn .no (.store 349 (.v 2) (.t 112)),nn
  (.v 3) (.mv true (.c (.v (.bool false))))]).seq PC.ret) PC.skip)).seq ((PC.reg [nn (.t 113) (.load 349 true (.v 4)),nn .no (.store 349 (.v 2) (.t
  113)),nn (.v 3) (.mv true (.c (.v (.bool true))))]).seq PC.ret))))))))) [(.v 2,some (349,true)),(.v 3,none)]
def ZGs:Spec1
 |[x],G,Q=>∃t:List Int,(byV x=some t∧Byt t∧t.length < 100000000)∧Q (.tup [(blkO (getBlk t)).v,.bool (getBlk t).isSome]) G
 |_,_,_=>False
theorem ZGs_eq {x}:ZGs [x] G Q=(∃t:List Int,(byV x=some t∧Byt t∧t.length < 100000000)∧Q (.tup [(blkO (getBlk t)).v,.bool (getBlk t).isSome]) G):=rfl
def ZGq:Spec1
 |[x],G,Q=>∃b:List Int,(byV x=some b∧Byt b∧b.length < 100000000)∧Q (.tup [(msgO (getMsg b)).v,.bool (getMsg b).isSome]) G
 |_,_,_=>False
theorem ZGq_eq {x}:ZGq [x] G Q=(∃b:List Int,(byV x=some b∧Byt b∧b.length < 100000000)∧Q (.tup [(msgO (getMsg b)).v,.bool (getMsg b).isSome]) G):=rfl
theorem walk17 {b:List Int} (hU:Abs.look l 58=some SRu) (hA:Abs.look l 59=some SAs) (hC:Abs.look l 60=some ZRe) (hH:Abs.look l 61=some SRh) (hT:Abs.look l 62=some ZVt) (hX:Abs.look l 63=some ZRr) (hO:Abs.look l 64=some ZXr) (hB:Abs.look l 65=some ZGs)
  (hM:Abs.look l 10=some ZYm) (hY:Abs.look l 16=some ZYb) (hS:Abs.look l 15=some SSm)
  (hb:Byt b) (hl:b.length < 100000000) (h:Q (.tup [(msgO (getMsg b)).v,.bool (getMsg b).isSome]) G):Wf E (specOf l) pf17 [.sli .u8 b] G (fun r G'=>∃r2 G2,Low G r G' r2 G2∧Q r2 G2):=by
 rcases e1:rdUpto 10 (b,false)with⟨n1,r1,w1⟩
 rcases e2:rdUpto 21 (r1,w1)with⟨n2,r2,w2⟩
 rcases e3:rdUpto 21 (r2,w2)with⟨n3,r3,w3⟩
 rcases e4:rdRest n1 n2 n3 (r3,w3)with⟨m,r4,w4⟩
 obtain⟨z11,z12,_,_,s1,_⟩:=rdUpto_all e1 hb (by omega)
 obtain⟨z21,z22,_,_,s2,_⟩:=rdUpto_all e2 z11 (by omega)
 obtain⟨z31,z32,_,_,s3,_⟩:=rdUpto_all e3 z21 (by omega)
 obtain⟨ok,z41,z42,s4,hwk⟩:=rdRest_all e4 z31 (by omega)
 obtain⟨v1,y1,g1⟩:=sufx ⟨[],(List.nil_append b).symm⟩ s1
 obtain⟨v2,y2,g2⟩:=sufx ⟨v1,y1⟩ s2
 obtain⟨v3,y3,g3⟩:=sufx ⟨v2,y2⟩ s3
 have eM:rdMsg b=m:=by unfold rdMsg;simp only[e1,e2,e3,e4]
 have no:¬(m.may=true∧m.bytes=b)→∃r2 G2,Low G (.tup [bareV 0 0 0,.bool false]) G r2 G2∧Q r2 G2:=fun hn=>by
  have:getMsg b=none:=by unfold getMsg;rw[eM,if_neg hn]
  rw[this]at h
  exact⟨_,_,low_msg2 (Ext.refl _) (wk_msg (m:=MsgS.zero) wk_ce wk_ac wk_bl),h⟩
 have yes:m.may=true∧m.bytes=b→∃r2 G2,Low G (.tup [m.rv,.bool true]) G r2 G2∧Q r2 G2:=fun hn=>by
  have:getMsg b=some m:=by unfold getMsg;rw[eM,if_pos hn]
  rw[this]at h
  exact⟨_,_,low_msg2 (Ext.refl _) hwk,h⟩
 clear h
 rcases q1:rdAtt (r3,w3)with⟨a,ra1,wa1⟩
 rcases q2:rdCert (r3,w3)with⟨c,ra2,wa2⟩
 rcases q3:rdHash (r3,w3)with⟨hh,ra3,wa3⟩
 rcases q4:rdTx (r3,w3)with⟨y,ra4,wa4⟩
 rcases q5:rdText (r3,w3)with⟨tx,ra5,wa5⟩
 rcases q6:rdAccu (r3,w3)with⟨x,ra6,wa6⟩
 rcases q7:rdAccu (ra5,wa5)with⟨x7,ra7,wa7⟩
 obtain⟨p51,p52,p53,p54,s5⟩:=rdText_all q5 z31
 obtain⟨v5,y5,g5⟩:=sufx ⟨v3,y3⟩ s5
 have sA:∀a:AttS,V.same a.v (.agg [.int .i64 0,.int .i64 0,.int .i64 0,.int .i64 0,.arr .u8 32 zz2,.int .i64 0,.arr .u8 32 zz2,.arr .u8 32 zz2])=true:=fun a=>rfl
 have sC:∀a:CertS,V.same a.v (.agg [.agg [.int .i64 0,.int .i64 0,.int .i64 0,.int .i64 0,.arr .u8 32 zz2,.int .i64 0,.arr .u8 32 zz2,.arr .u8 32 zz2],.nils])=true:=fun a=>rfl
 have sX:∀a:AccS,V.same a.v (.agg [.int .i64 0,.int .i64 0,.int .i64 0,.arr .u8 32 zz2,.nils,.arr .u8 32 zz2])=true:=fun a=>rfl
 have sB:∀a:BlkS,V.same a.v (.agg [.arr .u8 32 zz2,.int .i64 0,.int .i64 0,.int .i64 0,.nils])=true:=fun a=>rfl
 have sT:∀a:TxS,V.same a.v (.agg [.int .i64 0,.int .i64 0,.int .i64 0,.int .i64 0,.int .i64 0,.str ⟨⟨[]⟩⟩,.str ⟨⟨[]⟩⟩])=true:=fun a=>rfl
 have zA:∀a:AttS,V.size a.v=101:=fun a=>rfl
 have zC:∀a:CertS,V.size a.v=102:=fun a=>rfl
 have zX:∀a:AccS,V.size a.v=68:=fun a=>rfl
 have zB:∀a:BlkS,V.size a.v=36:=fun a=>rfl
 have zT:∀a:TxS,V.size a.v=7:=fun a=>rfl
 have tv:byV (txV tx wa5)=some tx:=by
  unfold txV;cases wa5 with
  |true=>rw[rdText_no q5 rfl];rfl
  |false=>rfl
 unfold rdRest at e4
 simp only[q1,q2,q3,q4,q5,q6,q7]at e4
 simp -implicitDefEqProofs only[pf17,hU,SRu_eq,go_sem,↓reduceIte]
 refine⟨[],b,n1,r1,w1,⟨rfl,rfl,hb,by omega,e1⟩,v1,r1,n2,r2,w2,⟨y1,g1,hb,by omega,e2⟩,v2,r2,n3,r3,w3,⟨y2,g2,hb,by omega,e3⟩,?_⟩
 by_cases k1:n1=1
 ·subst k1
  cases e4
  simp -implicitDefEqProofs only[hA,SAs_eq,go_sem,↓reduceIte]
  refine⟨v3,r3,a,r4,w4,⟨y3,g3,hb,by omega,q1⟩,?_⟩
  simp -implicitDefEqProofs only[sA,sC,sX,sB,sT,zA,zC,zX,zB,zT,hM,ZYm_eq,hY,ZYb_eq,hS,SSm_eq,go_sem,↓reduceIte]
  exact⟨_,⟨hwk,ok⟩,fun hm=>no (fun e=>by rw[hm]at e;exact absurd e.1 (by decide)),fun hm=>⟨_,⟨hwk,ok,of_decide_eq_true hm⟩,_,b,⟨rfl,rfl,by have:=(MsgS.bytes_ok ok (of_decide_eq_true hm)).2;omega,by omega⟩,fun hne=>no (fun e=>hne e.2),fun heq=>yes ⟨hm,heq⟩⟩⟩
 by_cases k3:n1=3
 ·subst k3
  cases e4
  simp -implicitDefEqProofs only[hA,SAs_eq,go_sem,↓reduceIte]
  refine⟨v3,r3,a,r4,w4,⟨y3,g3,hb,by omega,q1⟩,?_⟩
  simp -implicitDefEqProofs only[sA,sC,sX,sB,sT,zA,zC,zX,zB,zT,hM,ZYm_eq,hY,ZYb_eq,hS,SSm_eq,go_sem,↓reduceIte]
  exact⟨_,⟨hwk,ok⟩,fun hm=>no (fun e=>by rw[hm]at e;exact absurd e.1 (by decide)),fun hm=>⟨_,⟨hwk,ok,of_decide_eq_true hm⟩,_,b,⟨rfl,rfl,by have:=(MsgS.bytes_ok ok (of_decide_eq_true hm)).2;omega,by omega⟩,fun hne=>no (fun e=>hne e.2),fun heq=>yes ⟨hm,heq⟩⟩⟩
 by_cases k5:n1=5
 ·subst k5
  cases e4
  simp -implicitDefEqProofs only[hA,SAs_eq,go_sem,↓reduceIte]
  refine⟨v3,r3,a,r4,w4,⟨y3,g3,hb,by omega,q1⟩,?_⟩
  simp -implicitDefEqProofs only[sA,sC,sX,sB,sT,zA,zC,zX,zB,zT,hM,ZYm_eq,hY,ZYb_eq,hS,SSm_eq,go_sem,↓reduceIte]
  exact⟨_,⟨hwk,ok⟩,fun hm=>no (fun e=>by rw[hm]at e;exact absurd e.1 (by decide)),fun hm=>⟨_,⟨hwk,ok,of_decide_eq_true hm⟩,_,b,⟨rfl,rfl,by have:=(MsgS.bytes_ok ok (of_decide_eq_true hm)).2;omega,by omega⟩,fun hne=>no (fun e=>hne e.2),fun heq=>yes ⟨hm,heq⟩⟩⟩
 by_cases k4:n1=4
 ·subst k4
  cases e4
  simp -implicitDefEqProofs only[hC,ZRe_eq,go_sem,↓reduceIte]
  refine⟨v3,r3,c,r4,w4,⟨y3,g3,hb,by omega,q2⟩,?_⟩
  simp -implicitDefEqProofs only[sA,sC,sX,sB,sT,zA,zC,zX,zB,zT,hM,ZYm_eq,hY,ZYb_eq,hS,SSm_eq,go_sem,↓reduceIte]
  exact⟨_,⟨hwk,ok⟩,fun hm=>no (fun e=>by rw[hm]at e;exact absurd e.1 (by decide)),fun hm=>⟨_,⟨hwk,ok,of_decide_eq_true hm⟩,_,b,⟨rfl,rfl,by have:=(MsgS.bytes_ok ok (of_decide_eq_true hm)).2;omega,by omega⟩,fun hne=>no (fun e=>hne e.2),fun heq=>yes ⟨hm,heq⟩⟩⟩
 by_cases k6:n1=6
 ·subst k6
  cases e4
  simp -implicitDefEqProofs only[hC,ZRe_eq,go_sem,↓reduceIte]
  refine⟨v3,r3,c,r4,w4,⟨y3,g3,hb,by omega,q2⟩,?_⟩
  simp -implicitDefEqProofs only[sA,sC,sX,sB,sT,zA,zC,zX,zB,zT,hM,ZYm_eq,hY,ZYb_eq,hS,SSm_eq,go_sem,↓reduceIte]
  exact⟨_,⟨hwk,ok⟩,fun hm=>no (fun e=>by rw[hm]at e;exact absurd e.1 (by decide)),fun hm=>⟨_,⟨hwk,ok,of_decide_eq_true hm⟩,_,b,⟨rfl,rfl,by have:=(MsgS.bytes_ok ok (of_decide_eq_true hm)).2;omega,by omega⟩,fun hne=>no (fun e=>hne e.2),fun heq=>yes ⟨hm,heq⟩⟩⟩
 by_cases k7:n1=7
 ·subst k7
  cases e4
  have lhh:hh.length=32:=(rdHash_all q3 z31).2.2.1.2
  simp -implicitDefEqProofs only[hH,SRh_eq,go_sem,↓reduceIte]
  refine⟨v3,r3,hh,r4,w4,⟨y3,g3,hb,by omega,q3⟩,?_⟩
  simp -implicitDefEqProofs only[lhh,sA,sC,sX,sB,sT,zA,zC,zX,zB,zT,hM,ZYm_eq,hY,ZYb_eq,hS,SSm_eq,go_sem,↓reduceIte]
  exact⟨_,⟨hwk,ok⟩,fun hm=>no (fun e=>by rw[hm]at e;exact absurd e.1 (by decide)),fun hm=>⟨_,⟨hwk,ok,of_decide_eq_true hm⟩,_,b,⟨rfl,rfl,by have:=(MsgS.bytes_ok ok (of_decide_eq_true hm)).2;omega,by omega⟩,fun hne=>no (fun e=>hne e.2),fun heq=>yes ⟨hm,heq⟩⟩⟩
 by_cases k9:n1=9
 ·subst k9
  cases e4
  simp -implicitDefEqProofs only[hT,ZVt_eq,go_sem,↓reduceIte]
  refine⟨v3,r3,y,r4,w4,⟨y3,g3,hb,by omega,q4⟩,?_⟩
  simp -implicitDefEqProofs only[sA,sC,sX,sB,sT,zA,zC,zX,zB,zT,hM,ZYm_eq,hY,ZYb_eq,hS,SSm_eq,go_sem,↓reduceIte]
  exact⟨_,⟨hwk,ok⟩,fun hm=>no (fun e=>by rw[hm]at e;exact absurd e.1 (by decide)),fun hm=>⟨_,⟨hwk,ok,of_decide_eq_true hm⟩,_,b,⟨rfl,rfl,by have:=(MsgS.bytes_ok ok (of_decide_eq_true hm)).2;omega,by omega⟩,fun hne=>no (fun e=>hne e.2),fun heq=>yes ⟨hm,heq⟩⟩⟩
 by_cases k10:n1=10
 ·subst k10
  cases e4
  simp -implicitDefEqProofs only[hX,ZRr_eq,go_sem,↓reduceIte]
  refine⟨v3,r3,x,r4,w4,⟨y3,g3,hb,by omega,q6⟩,?_⟩
  simp -implicitDefEqProofs only[sA,sC,sX,sB,sT,zA,zC,zX,zB,zT,hM,ZYm_eq,hY,ZYb_eq,hS,SSm_eq,go_sem,↓reduceIte]
  exact⟨_,⟨hwk,ok⟩,fun hm=>no (fun e=>by rw[hm]at e;exact absurd e.1 (by decide)),fun hm=>⟨_,⟨hwk,ok,of_decide_eq_true hm⟩,_,b,⟨rfl,rfl,by have:=(MsgS.bytes_ok ok (of_decide_eq_true hm)).2;omega,by omega⟩,fun hne=>no (fun e=>hne e.2),fun heq=>yes ⟨hm,heq⟩⟩⟩
 by_cases k8:n1=8
 ·subst k8
  cases e4
  simp -implicitDefEqProofs only[hO,ZXr_eq,go_sem,↓reduceIte]
  refine⟨v3,r3,tx,r4,w4,⟨y3,g3,hb,by omega,q5⟩,?_⟩
  simp -implicitDefEqProofs only[hB,ZGs_eq,go_sem,↓reduceIte]
  refine⟨tx,⟨tv,p53,by omega⟩,?_⟩
  simp -implicitDefEqProofs only[sA,sC,sX,sB,sT,zA,zC,zX,zB,zT,hM,ZYm_eq,hY,ZYb_eq,hS,SSm_eq,go_sem,↓reduceIte]
  exact⟨_,⟨hwk,ok⟩,fun hm=>no (fun e=>by rw[hm]at e;exact absurd e.1 (by decide)),fun hm=>⟨_,⟨hwk,ok,of_decide_eq_true hm⟩,_,b,⟨rfl,rfl,by have:=(MsgS.bytes_ok ok (of_decide_eq_true hm)).2;omega,by omega⟩,fun hne=>no (fun e=>hne e.2),fun heq=>yes ⟨hm,heq⟩⟩⟩
 by_cases k2:n1=2
 ·subst k2
  cases e4
  simp -implicitDefEqProofs only[hO,ZXr_eq,go_sem,↓reduceIte]
  refine⟨v3,r3,tx,ra5,wa5,⟨y3,g3,hb,by omega,q5⟩,?_⟩
  simp -implicitDefEqProofs only[hB,ZGs_eq,go_sem,↓reduceIte]
  refine⟨tx,⟨tv,p53,by omega⟩,?_⟩
  simp -implicitDefEqProofs only[sB,zB,hX,ZRr_eq,go_sem,↓reduceIte]
  refine⟨v5,ra5,x7,r4,w4,⟨y5,g5,hb,by omega,q7⟩,?_⟩
  simp -implicitDefEqProofs only[sA,sC,sX,sB,sT,zA,zC,zX,zB,zT,hM,ZYm_eq,hY,ZYb_eq,hS,SSm_eq,go_sem,↓reduceIte]
  exact⟨_,⟨hwk,ok⟩,fun hm=>no (fun e=>by rw[hm]at e;exact absurd e.1 (by decide)),fun hm=>⟨_,⟨hwk,ok,of_decide_eq_true hm⟩,_,b,⟨rfl,rfl,by have:=(MsgS.bytes_ok ok (of_decide_eq_true hm)).2;omega,by omega⟩,fun hne=>no (fun e=>hne e.2),fun heq=>yes ⟨hm,heq⟩⟩⟩
 rw[if_neg (by omega),if_neg (by omega),if_neg (by omega),if_neg (by omega),if_neg (by omega),if_neg (by omega),if_neg (by omega)]at e4
 cases e4
 simp -implicitDefEqProofs only[k1,k2,k3,k4,k5,k6,k7,k8,k9,k10,sA,sC,sX,sB,sT,zA,zC,zX,zB,zT,hM,ZYm_eq,hY,ZYb_eq,hS,SSm_eq,go_sem,↓reduceIte]
 have er:(MsgS.bare n1 n2 n3).rv=bareV n1 n2 n3:=by unfold MsgS.rv MsgS.bare;dsimp only;rw[if_neg (by omega),if_neg (by omega),if_neg (by omega)];rfl
 rw[er]at hwk yes
 exact⟨_,⟨hwk,ok⟩,fun hm=>no (fun e=>by rw[hm]at e;exact absurd e.1 (by decide)),fun hm=>⟨_,⟨hwk,ok,of_decide_eq_true hm⟩,_,b,⟨rfl,rfl,by have:=(MsgS.bytes_ok ok (of_decide_eq_true hm)).2;omega,by omega⟩,fun hne=>no (fun e=>hne e.2),fun heq=>yes ⟨hm,heq⟩⟩⟩
theorem getBlk_of {b:BlkS} (hp:H32 b.pa) (h:b.May):getBlk b.bytes=some b:=by
 obtain⟨q1,q2,q3,q4,q5⟩:=BlkS.rng h
 have hm:b.may=true:=decide_eq_true h
 obtain⟨b1,b2,b3,b4,b5⟩:=b
 dsimp only at q1 q2 q3 q4 q5 hp
 have T:∀{n top:Int} {r:List Int},0≤n→n≤top→n≤1099511627776→rdUpto top (num n.toNat++r,false)=(n,(r,false)):=by
  intro n top r h1 h2 h3
  have:=rdUpto_of (top:=top) (n:=n.toNat) (r:=r) (by omega) (by omega)
  rw[this,show ((n.toNat:Nat):Int)=n by omega]
 have T5:∀{r:List Int},rdUpto 8 (num b5.length++r,false)=((b5.length:Int),(r,false)):=fun {r}=>rdUpto_of (by omega) (by omega)
 have e:rdBlk (BlkS.bytes ⟨b1,b2,b3,b4,b5⟩,false)=some (⟨b1,b2,b3,b4,b5⟩,([],false)):=by
  unfold rdBlk BlkS.bytes
  simp only[List.append_assoc]
  rw[rdHash_of hp.2];simp only
  rw[T (by omega) (by omega) (by omega)];simp only
  rw[T (by omega) (by omega) (by omega)];simp only
  rw[T (by omega) (by omega) (by omega)];simp only
  rw[T5];simp only[Int.toNat_natCast]
  have:=rdTxs_of (l:=b5) (r:=[]) q5
  rw[List.append_nil]at this
  rw[this]
 unfold getBlk;rw[e];simp[hm]
theorem rdMsg_of {m:MsgS} (ok:m.ok) (hm:m.May):rdMsg m.bytes=m:=by
 have hk:=has_ki hm.2.1
 have hnm:=hm.2.2
 have hhas:=hm.2.1
 obtain⟨⟨f1,f2,_⟩,_⟩:=hm
 have T:∀{n top:Int} {r:List Int},0≤n→n≤top→n≤1099511627776→rdUpto top (num n.toNat++r,false)=(n,(r,false)):=by
  intro n top r h1 h2 h3
  have:=rdUpto_of (top:=top) (n:=n.toNat) (r:=r) (by omega) (by omega)
  rw[this,show ((n.toNat:Nat):Int)=n by omega]
 have key:rdMsg m.bytes=(rdRest m.ki m.fr m.to (m.body,false)).1:=by
  unfold rdMsg MsgS.bytes
  simp only[List.append_assoc]
  rw[T (by omega) (by omega) (by omega)];simp only
  rw[T (by omega) (by omega) (by omega)];simp only
  rw[T (by omega) (by omega) (by omega)]
 rw[key]
 clear key T
 obtain⟨o1,o2,o3,o4,o5,o6,o7,o8,o9⟩:=ok
 obtain⟨k,f,t,a,c,x,b,hh,y⟩:=m
 dsimp only at o1 o2 o3 o4 o5 o6 o7 o8 o9 hk
 by_cases k135:k=1∨k=3∨k=5
 ·have q:a.may=true:=by unfold MsgS.has at hhas;dsimp only at hhas;rw[if_pos k135,Bool.and_eq_true]at hhas;exact hhas.1
  have e:=rdAtt_of (a:=a) (r:=[]) o1 (of_decide_eq_true q)
  rw[List.append_nil]at e
  have hb:MsgS.body ⟨k,f,t,a,c,x,b,hh,y⟩=num a.who.toNat++a.said++a.ta:=by unfold MsgS.body;dsimp only;rw[if_pos k135,if_pos q];rfl
  rw[hb]
  refine Eq.trans ?_ hnm.symm
  unfold rdRest MsgS.named;dsimp only
  rw[if_pos k135,if_pos k135,e]
  simp[attR,q]
 by_cases k46:k=4∨k=6
 ·have k2:¬k=2:=by omega
  have q:c.may=true:=by unfold MsgS.has at hhas;dsimp only at hhas;rw[if_neg k135,if_neg k2,if_pos k46,Bool.and_eq_true]at hhas;exact hhas.1
  have e:=rdCert_of (c:=c) (r:=[]) o2 (of_decide_eq_true q)
  rw[List.append_nil]at e
  have hb:MsgS.body ⟨k,f,t,a,c,x,b,hh,y⟩=c.bytes:=by unfold MsgS.body;dsimp only;rw[if_neg k135,if_pos k46,if_pos q]
  rw[hb]
  refine Eq.trans ?_ hnm.symm
  unfold rdRest MsgS.named;dsimp only
  rw[if_neg k135,if_pos k46,if_neg k135,if_neg k2,if_pos k46,e]
  simp[certR,q]
 by_cases k7:k=7
 ·subst k7
  have e:=rdHash_of (h:=hh) (r:=[]) o7.2
  rw[List.append_nil]at e
  have hb:MsgS.body ⟨7,f,t,a,c,x,b,hh,y⟩=hh:=rfl
  rw[hb]
  refine Eq.trans ?_ hnm.symm
  show ({ MsgS.bare 7 f t with ha:=(rdHash (hh,false)).1 }:MsgS)=_
  rw[e];rfl
 by_cases k9:k=9
 ·subst k9
  have q:y.may=true:=hhas
  have e:=rdTx_of (t:=y) (r:=[]) (of_decide_eq_true q)
  rw[List.append_nil]at e
  have hb:MsgS.body ⟨9,f,t,a,c,x,b,hh,y⟩=y.bytes:=by show (if y.may=true then y.bytes else [])=_;rw[if_pos q]
  rw[hb]
  refine Eq.trans ?_ hnm.symm
  show ({ MsgS.bare 9 f t with tx:=txR (rdTx (y.bytes,false)).1 (rdTx (y.bytes,false)).2.2 }:MsgS)=_
  rw[e];simp[txR,q];rfl
 by_cases k10:k=10
 ·subst k10
  have q:x.may=true:=hhas
  have e:=rdAccu_of (a:=x) (r:=[]) o4 (of_decide_eq_true q)
  rw[List.append_nil]at e
  have hb:MsgS.body ⟨10,f,t,a,c,x,b,hh,y⟩=x.bytes:=by show (if x.may=true then x.bytes else [])=_;rw[if_pos q]
  rw[hb]
  refine Eq.trans ?_ hnm.symm
  show ({ MsgS.bare 10 f t with ac:=accR (rdAccu (x.bytes,false)).1 (rdAccu (x.bytes,false)).2.2 }:MsgS)=_
  rw[e];simp[accR,q];rfl
 by_cases k8:k=8
 ·subst k8
  have q:b.may=true∧0 < b.vi:=by have:=hhas;simpa [MsgS.has]using this
  have q2:x= .zero:=by have:=hnm;simp[MsgS.named,MsgS.bare]at this;exact this.2.2.1
  have bl:=(BlkS_bytes_ok o6.1 (of_decide_eq_true q.1)).2
  have e:=rdText_of (t:=b.bytes) (r:=[]) (by omega)
  rw[List.append_nil]at e
  have qn:b.vi≠0:=by omega
  have hb:MsgS.body ⟨8,f,t,a,c,x,b,hh,y⟩=txt b.bytes:=by simp[MsgS.body,q,q2,qn,AccS.zero_may]
  rw[hb]
  refine Eq.trans ?_ hnm.symm
  show ({ MsgS.bare 8 f t with bl:=blkO (getBlk (rdText (txt b.bytes,false)).1) }:MsgS)=_
  rw[e,getBlk_of o6.1 (of_decide_eq_true q.1)];rfl
 have k2:k=2:=by omega
 subst k2
 have q:(b.may=true∧0 < b.vi)∧x.may=true:=by have:=hhas;simpa [MsgS.has]using this
 have bl:=(BlkS_bytes_ok o6.1 (of_decide_eq_true q.1.1)).2
 have e:=rdText_of (t:=b.bytes) (r:=x.bytes) (by omega)
 have e2:=rdAccu_of (a:=x) (r:=[]) o4 (of_decide_eq_true q.2)
 rw[List.append_nil]at e2
 have qn:b.vi≠0:=by omega
 have hb:MsgS.body ⟨2,f,t,a,c,x,b,hh,y⟩=txt b.bytes++x.bytes:=by simp[MsgS.body,q,qn]
 rw[hb]
 refine Eq.trans ?_ hnm.symm
 show ({ MsgS.bare 2 f t with bl:=blkO (getBlk (rdText (txt b.bytes++x.bytes,false)).1),ac:=accR (rdAccu (rdText (txt b.bytes++x.bytes,false)).2).1 (rdAccu (rdText (txt b.bytes++x.bytes,false)).2).2.2 }:MsgS)=_
 rw[e,getBlk_of o6.1 (of_decide_eq_true q.1.1)]
 dsimp only
 rw[e2];simp[accR,q.2];rfl
theorem getMsg_of {m:MsgS} (ok:m.ok) (hm:m.May):getMsg m.bytes=some m:=by
 unfold getMsg;rw[rdMsg_of ok hm,if_pos ⟨decide_eq_true hm,rfl⟩]
theorem getMsg_all {b:List Int} {m:MsgS} (hb:Byt b) (hl:b.length < 100000000) (h:getMsg b=some m):m.ok∧m.May∧m.bytes=b:=by
 unfold getMsg at h
 split at h
 ·rename_i hh
  cases h
  refine⟨?_,of_decide_eq_true hh.1,hh.2⟩
  rcases e1:rdUpto 10 (b,false)with⟨n1,r1,w1⟩
  rcases e2:rdUpto 21 (r1,w1)with⟨n2,r2,w2⟩
  rcases e3:rdUpto 21 (r2,w2)with⟨n3,r3,w3⟩
  rcases e4:rdRest n1 n2 n3 (r3,w3)with⟨m,r4,w4⟩
  obtain⟨z11,z12,_,_,_,_⟩:=rdUpto_all e1 hb (by omega)
  obtain⟨z21,z22,_,_,_,_⟩:=rdUpto_all e2 z11 (by omega)
  obtain⟨z31,z32,_,_,_,_⟩:=rdUpto_all e3 z21 (by omega)
  obtain⟨ok,z41,z42,_,hwk⟩:=rdRest_all e4 z31 (by omega)
  have eM:rdMsg b=m:=by unfold rdMsg;simp only[e1,e2,e3,e4]
  rw[eM];exact ok
 ·cases h
end Go.Proofs.Ytegamlopcdjiaaa.Sha
