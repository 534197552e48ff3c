/- Certificates: whether any is right. -/
import Derived.Test.YtegamlopcdjiaaaDoorG9
namespace Go.Proofs.YtegamlopcdjiaaaDoor.Sha
open Go Go.Abs Go.Abs.Sha Go.Abs.Srt
set_option linter.unusedSimpArgs false
set_option linter.unusedVariables false
set_option maxRecDepth 100000
def lp58_0:PC:=
 ((PC.reg [mm 6 5,mm 7 0,nn (.t 8) (.len (.t 7)),nn (.t 9) (.bin .lss (.t 6) (.t 8))]).seq (PC.cond (.t 9) PC.skip (PC.exit 0))).seq ((PC.block 1
  ((PC.regD 0 [mm 12 0,mm 13 5,nn (.t 14) (.iadrS 33 (.t 12) (.t 13)),nn (.t 15) (.fadr 0 0 (.t 14)),nn (.t 16) (.load 1 false (.t 15)),nn (.t 17)
  (.bin .lss (.t 16) (.c (.v (.int .i64 1)))),nn (.t 18) (.mv false (.t 17)),gm 19 0 18 false,gm 20 5 18 false,⟨.t 21,.iadrS 33 (.t 19) (.t 20),
  some (.t 18,false)⟩,⟨.t 22,.fadr 0 0 (.t 21),some (.t 18,false)⟩,⟨.t 23,.load 1 false (.t 22),some (.t 18,false)⟩,gm 24 1 18 false,⟨.t 25,
  .bin .gtr (.t 23) (.t 24),some (.t 18,false)⟩,nn (.t 26) (.pick (.t 18) (.c (.v (.bool true))) (.t 25)),nn (.t 27) (.mv false (.t 26)),gm 28 5
  27 false,⟨.t 29,.bin .gtr (.t 28) (.c (.v (.int .i64 0))),some (.t 27,false)⟩,⟨.t 30,.mv false (.t 29),some (.t 27,false)⟩,gm 31 0 30 true,
  gm 32 5 30 true,⟨.t 33,.bin .sub (.t 32) (.c (.v (.int .i64 1))),some (.t 30,true)⟩,⟨.t 34,.iadrS 33 (.t 31) (.t 33),some (.t 30,true)⟩,⟨.t
  35,.fadr 0 0 (.t 34),some (.t 30,true)⟩,⟨.t 36,.load 1 false (.t 35),some (.t 30,true)⟩,gm 37 0 30 true,gm 38 5 30 true,⟨.t 39,.iadrS 33
  (.t 37) (.t 38),some (.t 30,true)⟩,⟨.t 40,.fadr 0 0 (.t 39),some (.t 30,true)⟩,⟨.t 41,.load 1 false (.t 40),some (.t 30,true)⟩,⟨.t 42,
  .bin .geq (.t 36) (.t 41),some (.t 30,true)⟩,⟨.t 43,.pick (.t 30) (.t 42) (.c (.v (.bool false))),some (.t 27,false)⟩,nn (.t 44) (.pick (.t
  27) (.c (.v (.bool true))) (.t 43))] []).seq (PC.cond (.t 44) ((PC.reg [nn (.v 4) (.mv true (.c (.v (.bool false))))]).seq PC.ret) PC.skip))).seq
  (PC.reg [mm 10 5,nn (.t 11) (.bin .add (.t 10) (.c (.v (.int .i64 1)))),ma 5 11]))
def pf58:PF:=
 PF.mk 2 6 45 ((PC.reg [nn (.v 4) (.mv true (.c (.v (.bool false))))]).seq (((PC.reg [nn (.v 5) (.mv true (.c (.v (.int .i64 0))))]).seq (PC.block 0
  (PC.loop [0,1,5] lp58_0))).seq ((PC.reg [nn (.v 4) (.mv true (.c (.v (.bool true))))]).seq PC.ret))) [(.v 4,none)]
def pf59:PF:=
 PF.mk 1 3 14 ((PC.reg [nn (.v 1) (.box (.v 0)),nn (.v 2) (.mv true (.c (.v (.bool false))))]).seq ((PC.reg [nn (.t 3) (.fadr 0 0 (.v 1)),nn (.t 4)
  (.fadr 0 0 (.t 3)),nn (.t 5) (.load 1 false (.t 4)),nn (.t 6) (.bin .eql (.t 5) (.c (.v (.int .i64 0)))),nn (.t 7) (.mv false (.t 6)),⟨.t 8,
  .fadr 0 0 (.v 1),some (.t 7,true)⟩,⟨.t 9,.fadr 7 69 (.t 8),some (.t 7,true)⟩,⟨.t 10,.load 32 true (.t 9),some (.t 7,true)⟩,⟨.t 11,.build
  (.arr .u8 32 [0,0,0,0,0,0,0,0,0,0,0,0,0,0,0,0,0,0,0,0,0,0,0,0,0,0,0,0,0,0,0,0]) [],some (.t 7,true)⟩,⟨.t 12,.eqa
  false (.arr 32) (.t 10) (.t 11),some (.t 7,true)⟩,nn (.t 13) (.pick (.t 7) (.t 12) (.c (.v (.bool false)))),ma 2 13]).seq PC.ret)) [(.v 2,none)]
def pf61:PF:=
 PF.mk 2 5 12 ((PC.reg [nn (.v 2) (.box (.v 0)),nn (.v 3) (.box (.v 1)),nn (.v 4) (.alloc (.agg [.int .i64 0,.int .i64 0,.int .i64 0,.int .i64 0,
  .arr .u8 32 [0,0,0,0,0,0,0,0,0,0,0,0,0,0,0,0,0,0,0,0,0,0,0,0,0,0,0,0,0,0,0,0],.int .i64 0,.arr .u8 32 [0,0,0,0,
  0,0,0,0,0,0,0,0,0,0,0,0,0,0,0,0,0,0,0,0,0,0,0,0,0,0,0,0],.arr .u8 32 [0,0,0,0,0,0,0,0,0,0,0,0,0,0,0,0,0,
  0,0,0,0,0,0,0,0,0,0,0,0,0,0,0]]))]).seq ((PC.reg [nn (.t 5) (.fadr 0 0 (.v 3)),nn (.t 6) (.load 1 false (.t 5)),nn (.t 7) (.fadr 0 0
  (.v 2)),nn .no (.store 1 (.t 7) (.t 6))]).seq ((PC.reg [nn (.t 8) (.fadr 1 1 (.v 3)),nn (.t 9) (.load 32 true (.t 8)),nn (.t 10) (.fadr 7 69 (.v
  2)),nn .no (.store 32 (.t 10) (.t 9))]).seq ((PC.reg [nn (.t 11) (.load 101 true (.v 2)),nn .no (.store 101 (.v 4) (.t 11))]).seq PC.ret)))) [(.v
  4,some (101,true))]
attribute [local irreducible] W Wops WopsD WL Wop WopD
variable {E:Env} {C:Abs.Spec} {l:List (Nat×Spec1)} {G:List (Nat×V)} {Q:R→List (Nat×V)→Prop}
set_option maxHeartbeats 1000000
def sameT (a b:AttS):Bool:=decide (a.who=b.who∧a.ki=b.ki∧a.vi=b.vi∧a.ph=b.ph∧a.ha=b.ha∧a.pv=b.pv∧a.pa=b.pa∧a.ta=b.ta)
def sameC (a b:CertS):Bool:=sameT a.att b.att&&decide (a.sigs=b.sigs)
theorem sameT_self (a:AttS):sameT a a=true:=by unfold sameT;simp
theorem sameC_self (a:CertS):sameC a a=true:=by unfold sameC;rw[sameT_self];simp
def ZSn:Spec1
 |[x,y],G,Q=>∃a b:CertS,(x=a.v∧y=b.v∧a.sigs.length < 1000000∧b.sigs.length < 1000000)∧Q (.v (.bool (sameC a b))) G
 |_,_,_=>False
theorem ZSn_eq {x y}:ZSn [x,y] G Q=(∃a b:CertS,(x=a.v∧y=b.v∧a.sigs.length < 1000000∧b.sigs.length < 1000000)∧Q (.v (.bool (sameC a b))) G):=rfl
def ZBa:Spec1
 |[x],G,Q=>∃(a:AttS) (s:V),(x= .agg [a.v,s]∧V.size s=1∧V.isAgg s=false)∧Q (.v (.bool (decide (a.who=0)&&(a.ta==zero32)))) G
 |_,_,_=>False
theorem ZBa_eq {x}:ZBa [x] G Q=(∃(a:AttS) (s:V),(x= .agg [a.v,s]∧V.size s=1∧V.isAgg s=false)∧Q (.v (.bool (decide (a.who=0)&&(a.ta==zero32)))) G):=rfl
def ZWj:Spec1
 |[x,y],G,Q=>∃(a:AttS) (p:Int×List Int),(x=a.v∧y=sgV p)∧Q (.v (withS a p).v) G
 |_,_,_=>False
theorem ZWj_eq {x y}:ZWj [x,y] G Q=(∃(a:AttS) (p:Int×List Int),(x=a.v∧y=sgV p)∧Q (.v (withS a p).v) G):=rfl
theorem at_sg {sg:List (Int×List Int)} {j:Nat} {p:Int×List Int} {r:List (Int×List Int)} (h:sg.drop j=p::r):sg[j]? =some p:=by
 have:(sg.drop j)[0]? =some p:=by rw[h];rfl
 rwa [List.getElem?_drop,Nat.add_zero]at this
theorem getD_sg' {sg:List (Int×List Int)} {j:Nat} {p:Int×List Int} (h:sg[j]? =some p):(sg.map sgV).getD j V.nilp=sgV p:=by
 rw[List.getD_eq_getElem?_getD,List.getElem?_map,h];rfl
theorem loop18g {QQ:Ex→St→Prop} {ca cb:V} {sa sb:List (Int×List Int)} {L:List Bx} (hca:V.size ca=101) (hcb:V.size cb=101) (hL:L=[⟨false,.agg [ca,.sle 33 (sa.map sgV)]⟩,⟨false,.agg [cb,.sle 33 (sb.map sgV)]⟩]) (hll:sa.length=sb.length) (hl:sa.length < 1000000)
  (hx:∀(j:Nat) ts,sa=sb→QQ (.exit 0) ⟨[none,none,some (.lp 0 []),some (.lp 1 []),none,some (.v (.int .i64 (j:Nat)))],ts,L,G⟩) (hr:∀σ:St,σ.G=G→St.ev σ (.v 4)=some (.v (.bool false))→sa≠sb→QQ .ret σ):
  ∀(r r2:List (Int×List Int)) (j:Nat),sa.drop j=r→sb.drop j=r2→j≤sa.length→(sa=sb↔r=r2)→WL (W E C lp18_0) [2,3,5] QQ (r.length+1) ⟨[none,none,some (.lp 0 []),some (.lp 1 []),none,some (.v (.int .i64 (j:Nat)))],[],L,G⟩:=by
 subst hL
 intro r
 induction r with
 |nil=>
  intro r2 j h1 h0 h2 h3
  have:=drop_none h1
  have c1:¬(j:Int) < (sa.length:Int):=by omega
  refine WL_in lp18_0.eq_1 ?_
  simp (maxSteps:=1000000) (implicitDefEqProofs:=false) only[c1,hca,hcb,List.length_map,go_sem,↓reduceIte]
  refine hx _ _ (h3.2 ?_)
  rw[←h0,List.drop_eq_nil_of_le (by omega)]
 |cons p r ih=>
  intro r2 j h1 h0 h2 h3
  obtain⟨hd,hj,hlen⟩:=drop_one h1
  obtain⟨p2,r2,rfl⟩:∃p2 r',r2=p2::r':=by
   cases r2 with
   |nil=>have:=drop_none h0;omega
   |cons p2 r2=>exact⟨_,_,rfl⟩
  obtain⟨hd2,hj2,hlen2⟩:=drop_one h0
  have g:=getD_sg h1
  have g2:=getD_sg h0
  have c1:(j:Int) < (sa.length:Int):=by omega
  have c3:(j:Int) < (sb.length:Int):=by omega
  have c2:(0:Int)≤(j:Int):=by omega
  have w1:IntKind.i64.wrap ((j:Int)+1)=((j+1:Nat):Int):=wc (by omega) (by omega)
  obtain⟨p1,ps⟩:=p
  obtain⟨q1,qs⟩:=p2
  refine WL_in lp18_0.eq_1 ?_
  by_cases e:p1=q1
  ·by_cases e2:ps=qs
   ·have e2t:(ps==qs)=true:=by simpa using e2
    simp (maxSteps:=1000000) (implicitDefEqProofs:=false) only[c1,c2,c3,g,g2,sgV,w1,hca,hcb,Int.toNat_natCast,List.length_map,e,e2t,go_sem,↓reduceIte]
    exact ih r2 (j+1) hd hd2 (by omega) (h3.trans (by rw[e,e2];simp))
   ·have e2f:(ps==qs)=false:=by simpa using e2
    simp (maxSteps:=1000000) (implicitDefEqProofs:=false) only[c1,c2,c3,g,g2,sgV,w1,hca,hcb,Int.toNat_natCast,List.length_map,e,e2f,go_sem,↓reduceIte]
    exact hr _ rfl rfl fun h=>e2 (by have:=h3.1 h;simp at this;exact this.1.2)
  ·simp (maxSteps:=1000000) (implicitDefEqProofs:=false) only[c1,c2,c3,g,g2,sgV,w1,hca,hcb,Int.toNat_natCast,List.length_map,e,go_sem,↓reduceIte]
   exact hr _ rfl rfl fun h=>e (by have:=h3.1 h;simp at this;exact this.1.1)
theorem walk18g {a b:CertS} (hl:a.sigs.length < 1000000) (hl2:b.sigs.length < 1000000) (h:Q (.v (.bool (sameC a b))) G):Wf E C pf18 [a.v,b.v] G Q:=by
 obtain⟨⟨a1,a2,a3,a4,a5,a6,a7,a8⟩,sa⟩:=a
 obtain⟨⟨b1,b2,b3,b4,b5,b6,b7,b8⟩,sb⟩:=b
 have key:∀c:Bool,sameC ⟨⟨a1,a2,a3,a4,a5,a6,a7,a8⟩,sa⟩ ⟨⟨b1,b2,b3,b4,b5,b6,b7,b8⟩,sb⟩=c→Q (.v (.bool c)) G:=fun c e=>by rw[←e];exact h
 have no:¬(a1=b1∧a2=b2∧a3=b3∧a4=b4∧a5=b5∧a6=b6∧a7=b7∧a8=b8∧sa=sb)→Q (.v (.bool false)) G:=fun e=>key _ (by
  unfold sameC sameT
  rw[Bool.and_eq_false_iff,decide_eq_false_iff_not,decide_eq_false_iff_not]
  by_cases hs:sa=sb
  ·exact .inl fun h=>e ⟨h.1,h.2.1,h.2.2.1,h.2.2.2.1,h.2.2.2.2.1,h.2.2.2.2.2.1,h.2.2.2.2.2.2.1,h.2.2.2.2.2.2.2,hs⟩
  ·exact .inr hs)
 simp (maxSteps:=1000000) (implicitDefEqProofs:=false) only[pf18,CertS.v,AttS.v,Nat.add_zero,List.length_map,go_sem,↓reduceIte]
 by_cases q1:a1=b1
 case neg=>
  simp (maxSteps:=1000000) (implicitDefEqProofs:=false) only[q1,go_sem,↓reduceIte]
  exact no fun e=>q1 e.1
 by_cases q2:a2=b2
 case neg=>
  simp (maxSteps:=1000000) (implicitDefEqProofs:=false) only[q1,q2,go_sem,↓reduceIte]
  exact no fun e=>q2 e.2.1
 by_cases q3:a3=b3
 case neg=>
  simp (maxSteps:=1000000) (implicitDefEqProofs:=false) only[q1,q2,q3,go_sem,↓reduceIte]
  exact no fun e=>q3 e.2.2.1
 by_cases q4:a4=b4
 case neg=>
  simp (maxSteps:=1000000) (implicitDefEqProofs:=false) only[q1,q2,q3,q4,go_sem,↓reduceIte]
  exact no fun e=>q4 e.2.2.2.1
 by_cases q5:a5=b5
 case neg=>
  have q5f:(a5==b5)=false:=by simpa using q5
  simp (maxSteps:=1000000) (implicitDefEqProofs:=false) only[q1,q2,q3,q4,q5f,go_sem,↓reduceIte]
  exact no fun e=>q5 e.2.2.2.2.1
 have q5t:(a5==b5)=true:=by simpa using q5
 by_cases q6:a6=b6
 case neg=>
  simp (maxSteps:=1000000) (implicitDefEqProofs:=false) only[q1,q2,q3,q4,q5t,q6,go_sem,↓reduceIte]
  exact no fun e=>q6 e.2.2.2.2.2.1
 by_cases q7:a7=b7
 case neg=>
  have q7f:(a7==b7)=false:=by simpa using q7
  simp (maxSteps:=1000000) (implicitDefEqProofs:=false) only[q1,q2,q3,q4,q5t,q6,q7f,go_sem,↓reduceIte]
  exact no fun e=>q7 e.2.2.2.2.2.2.1
 have q7t:(a7==b7)=true:=by simpa using q7
 by_cases q8:a8=b8
 case neg=>
  have q8f:(a8==b8)=false:=by simpa using q8
  simp (maxSteps:=1000000) (implicitDefEqProofs:=false) only[q1,q2,q3,q4,q5t,q6,q7t,q8f,go_sem,↓reduceIte]
  exact no fun e=>q8 e.2.2.2.2.2.2.2.1
 have q8t:(a8==b8)=true:=by simpa using q8
 by_cases q9:sa.length=sb.length
 case neg=>
  have q9':¬((sa.length:Nat):Int)=(sb.length:Nat):=by omega
  simp (maxSteps:=1000000) (implicitDefEqProofs:=false) only[q1,q2,q3,q4,q5t,q6,q7t,q8t,q9',go_sem,↓reduceIte]
  exact no fun e=>q9 (by rw[e.2.2.2.2.2.2.2.2])
 have q9':((sa.length:Nat):Int)=(sb.length:Nat):=by omega
 simp (maxSteps:=1000000) (implicitDefEqProofs:=false) only[q1,q2,q3,q4,q5t,q6,q7t,q8t,q9',go_sem,↓reduceIte]
 refine⟨sa.length+1,?_⟩
 refine loop18g (ca:=AttS.v ⟨a1,a2,a3,a4,a5,a6,a7,a8⟩) (cb:=AttS.v ⟨b1,b2,b3,b4,b5,b6,b7,b8⟩) (sa:=sa) (sb:=sb) rfl rfl (by simp only[AttS.v,q1,q2,q3,q4,q6]) q9 hl (fun j ts e=> ?_) (fun σ e1 e2 e3=> ?_) sa sb 0 rfl rfl (Nat.zero_le _) Iff.rfl
 ·simp (maxSteps:=1000000) (implicitDefEqProofs:=false) only[go_sem,↓reduceIte]
  refine key _ ?_
  unfold sameC sameT
  dsimp only
  rw[decide_eq_true ⟨q1,q2,q3,q4,q5,q6,q7,q8⟩,Bool.true_and,decide_eq_true e]
 ·show resQ Q σ.G (rD (St.ev σ (.v 4)))
  rw[e1,e2]
  exact no fun e=>e3 e.2.2.2.2.2.2.2.2
theorem walk59 {a:AttS} {s:V} (hs:V.size s=1) (hs2:V.isAgg s=false) (h:Q (.v (.bool (decide (a.who=0)&&(a.ta==zero32)))) G):Wf E C pf59 [.agg [a.v,s]] G Q:=by
 obtain⟨a1,a2,a3,a4,a5,a6,a7,a8⟩:=a
 by_cases q1:a1=0
 ·simp (maxSteps:=1000000) (implicitDefEqProofs:=false) only[pf59,AttS.v,q1,hs,hs2,go_sem,↓reduceIte]
  simp only[q1,decide_true,Bool.true_and]at h
  exact h
 ·simp (maxSteps:=1000000) (implicitDefEqProofs:=false) only[pf59,AttS.v,q1,hs,hs2,go_sem,↓reduceIte]
  simp only[q1,decide_false,Bool.false_and]at h
  exact h
theorem walk61 {a:AttS} {p:Int×List Int} (h:Q (.v (withS a p).v) G):Wf E C pf61 [a.v,sgV p] G Q:=by
 obtain⟨a1,a2,a3,a4,a5,a6,a7,a8⟩:=a
 obtain⟨p1,p2⟩:=p
 simp (maxSteps:=1000000) (implicitDefEqProofs:=false) only[pf61,AttS.v,sgV,go_sem,↓reduceIte]
 exact h
theorem loop58 {QQ:Ex→St→Prop} {n:Int} {sg:List (Int×List Int)} (hl:sg.length < 1000000)
  (hx:∀(j:Nat) ts,risesB n 0 (sg.map (·.1))=true→QQ (.exit 0) ⟨[some (.v (.sle 33 (sg.map sgV))),some (.v (.int .i64 n)),none,none,none,some (.v (.int .i64 (j:Nat)))],ts,[],G⟩)
  (hr:∀σ:St,σ.G=G→St.ev σ (.v 4)=some (.v (.bool false))→risesB n 0 (sg.map (·.1))=false→QQ .ret σ):
  ∀(r:List (Int×List Int)) (j:Nat) (low:Int),sg.drop j=r→j≤sg.length→((j=0∧low=0)∨(1≤j∧1≤low∧∃ls,sg[j-1]? =some (low,ls)))→risesB n 0 (sg.map (·.1))=risesB n low (r.map (·.1))→WL (W E C lp58_0) [0,1,5] QQ (r.length+1) ⟨[some (.v (.sle 33 (sg.map sgV))),some (.v (.int .i64 n)),none,none,none,some (.v (.int .i64 (j:Nat)))],[],[],G⟩:=by
 intro r
 induction r with
 |nil=>
  intro j low h1 h2 hlow h3
  have:=drop_none h1
  have c1:¬(j:Int) < (sg.length:Int):=by omega
  refine WL_in lp58_0.eq_1 ?_
  simp (maxSteps:=1000000) (implicitDefEqProofs:=false) only[c1,List.length_map,go_sem,↓reduceIte]
  exact hx _ _ h3
 |cons p r ih=>
  intro j low h1 h2 hlow h3
  obtain⟨hd,hj,hlen⟩:=drop_one h1
  have hjp:=at_sg h1
  have g:=getD_sg h1
  have c1:(j:Int) < (sg.length:Int):=by omega
  have c2:(0:Int)≤(j:Int):=by omega
  have w1:IntKind.i64.wrap ((j:Int)+1)=((j+1:Nat):Int):=wc (by omega) (by omega)
  obtain⟨p,ps⟩:=p
  rw[List.map_cons]at h3
  have next:=fun (hlo:¬(p≤low∨n < p))=>ih (j+1) p hd (by omega) (.inr ⟨by omega,by omega,ps,by rw[Nat.add_sub_cancel];exact hjp⟩) (by rw[h3];exact if_neg hlo)
  have stop:=fun (hlo:p≤low∨n < p)=>(by rw[h3];exact if_pos hlo:risesB n 0 (sg.map (·.1))=false)
  refine WL_in lp58_0.eq_1 ?_
  by_cases r1:p < 1
  ·have r1p:¬1≤p:=by omega
   simp (maxSteps:=1000000) (implicitDefEqProofs:=false) only[c1,c2,g,sgV,w1,Int.toNat_natCast,List.length_map,r1,r1p,go_sem,↓reduceIte]
   exact hr _ rfl rfl (stop (by omega))
  have r1n:1≤p:=by omega
  by_cases r2:n < p
  ·have r2p:¬p≤n:=by omega
   simp (maxSteps:=1000000) (implicitDefEqProofs:=false) only[c1,c2,g,sgV,w1,Int.toNat_natCast,List.length_map,r1,r1n,r2,r2p,go_sem,↓reduceIte]
   exact hr _ rfl rfl (stop (by omega))
  have r2n:p≤n:=by omega
  rcases hlow with⟨rfl,rfl⟩|⟨hj1,hlo1,ls,hjl⟩
  ·have c1z:(0:Int) < (sg.length:Int):=by omega
   have c1y:¬(sg.length:Int)≤0:=by omega
   have w0:IntKind.i64.wrap ((0:Int)+1)=((0+1:Nat):Int):=by decide
   simp (maxSteps:=1000000) (implicitDefEqProofs:=false) only[c1z,c1y,g,sgV,w0,Int.toNat_natCast,Int.toNat_zero,List.length_map,r1,r1n,r2,r2n,Int.natCast_zero,Int.lt_irrefl,go_sem,↓reduceIte]
   exact next (by omega)
  ·have w2:IntKind.i64.wrap ((j:Int)-1)=((j-1:Nat):Int):=wc (by omega) (by omega)
   have g2:=getD_sg' hjl
   have c0:(0:Int) < (j:Int):=by omega
   have c4:(0:Int)≤((j-1:Nat):Int):=by omega
   have c5:((j-1:Nat):Int) < (sg.length:Int):=by omega
   by_cases r3:p≤low
   ·have r3n:¬low < p:=by omega
    simp (maxSteps:=1000000) (implicitDefEqProofs:=false) only[c0,c1,c2,c4,c5,g,g2,sgV,w1,w2,Int.toNat_natCast,List.length_map,r1,r1n,r2,r2n,r3,r3n,go_sem,↓reduceIte]
    exact hr _ rfl rfl (stop (by omega))
   ·have r3n:low < p:=by omega
    simp (maxSteps:=1000000) (implicitDefEqProofs:=false) only[c0,c1,c2,c4,c5,g,g2,sgV,w1,w2,Int.toNat_natCast,List.length_map,r1,r1n,r2,r2n,r3,r3n,go_sem,↓reduceIte]
    exact next (by omega)
theorem walk58 {n:Int} {sg:List (Int×List Int)} (hl:sg.length < 1000000) (h:Q (.v (.bool (risesB n 0 (sg.map (·.1))))) G):Wf E C pf58 [.sle 33 (sg.map sgV),.int .i64 n] G Q:=by
 simp (maxSteps:=1000000) (implicitDefEqProofs:=false) only[pf58,List.length_map,go_sem,↓reduceIte]
 refine⟨sg.length+1,?_⟩
 refine loop58 hl (fun j ts e=> ?_) (fun σ e1 e2 e3=> ?_) sg 0 0 rfl (Nat.zero_le _) (.inl ⟨rfl,rfl⟩) rfl
 ·simp (maxSteps:=1000000) (implicitDefEqProofs:=false) only[go_sem,↓reduceIte]
  rw[e]at h;exact h
 ·show resQ Q σ.G (rD (St.ev σ (.v 4)))
  rw[e1,e2,←e3];exact h
theorem loop58s {QQ:Ex→St→Prop} {n:Int} {sg:List (Int×List Int)} {id c:Nat} {LL:List V} (hG:Abs.look G id=some (.agg LL)) (hLL:∀(i:Nat) p,sg[i]? =some p→LL[i]? =some (sgV p)) (hfl:sg.length≤LL.length) (hsz:∀y∈LL,V.size y=33) (hl:sg.length < 1000000)
  (hx:∀(j:Nat) ts,risesB n 0 (sg.map (·.1))=true→QQ (.exit 0) ⟨[some (.v (.sob id 33 0 sg.length c)),some (.v (.int .i64 n)),none,none,none,some (.v (.int .i64 (j:Nat)))],ts,[],G⟩)
  (hr:∀σ:St,σ.G=G→St.ev σ (.v 4)=some (.v (.bool false))→risesB n 0 (sg.map (·.1))=false→QQ .ret σ):
  ∀(r:List (Int×List Int)) (j:Nat) (low:Int),sg.drop j=r→j≤sg.length→((j=0∧low=0)∨(1≤j∧1≤low∧∃ls,sg[j-1]? =some (low,ls)))→risesB n 0 (sg.map (·.1))=risesB n low (r.map (·.1))→WL (W E C lp58_0) [0,1,5] QQ (r.length+1) ⟨[some (.v (.sob id 33 0 sg.length c)),some (.v (.int .i64 n)),none,none,none,some (.v (.int .i64 (j:Nat)))],[],[],G⟩:=by
 intro r
 induction r with
 |nil=>
  intro j low h1 h2 hlow h3
  have:=drop_none h1
  have c1:¬(j:Int) < (sg.length:Int):=by omega
  refine WL_in lp58_0.eq_1 ?_
  simp (maxSteps:=1000000) (implicitDefEqProofs:=false) only[c1,List.length_map,go_sem,↓reduceIte]
  exact hx _ _ h3
 |cons p r ih=>
  intro j low h1 h2 hlow h3
  obtain⟨hd,hj,hlen⟩:=drop_one h1
  have hjp:=at_sg h1
  have g:=hLL j (p) hjp
  have c1:(j:Int) < (sg.length:Int):=by omega
  have c2:(0:Int)≤(j:Int):=by omega
  have w1:IntKind.i64.wrap ((j:Int)+1)=((j+1:Nat):Int):=wc (by omega) (by omega)
  obtain⟨p,ps⟩:=p
  rw[List.map_cons]at h3
  have next:=fun (hlo:¬(p≤low∨n < p))=>ih (j+1) p hd (by omega) (.inr ⟨by omega,by omega,ps,by rw[Nat.add_sub_cancel];exact hjp⟩) (by rw[h3];exact if_neg hlo)
  have stop:=fun (hlo:p≤low∨n < p)=>(by rw[h3];exact if_pos hlo:risesB n 0 (sg.map (·.1))=false)
  refine WL_in lp58_0.eq_1 ?_
  by_cases r1:p < 1
  ·have r1p:¬1≤p:=by omega
   simp (maxSteps:=1000000) (implicitDefEqProofs:=false) only[c1,c2,hG,g,sgV,w1,Int.toNat_natCast,List.length_map,r1,r1p,go_sem,↓reduceIte]
   repeat refine And.intro ⟨by omega,hsz⟩ ?_
   exact hr _ rfl rfl (stop (by omega))
  have r1n:1≤p:=by omega
  by_cases r2:n < p
  ·have r2p:¬p≤n:=by omega
   simp (maxSteps:=1000000) (implicitDefEqProofs:=false) only[c1,c2,hG,g,sgV,w1,Int.toNat_natCast,List.length_map,r1,r1n,r2,r2p,go_sem,↓reduceIte]
   repeat refine And.intro ⟨by omega,hsz⟩ ?_
   exact hr _ rfl rfl (stop (by omega))
  have r2n:p≤n:=by omega
  rcases hlow with⟨rfl,rfl⟩|⟨hj1,hlo1,ls,hjl⟩
  ·have c1z:(0:Int) < (sg.length:Int):=by omega
   have c1y:¬(sg.length:Int)≤0:=by omega
   have w0:IntKind.i64.wrap ((0:Int)+1)=((0+1:Nat):Int):=by decide
   simp (maxSteps:=1000000) (implicitDefEqProofs:=false) only[c1z,c1y,hG,g,sgV,w0,Int.toNat_natCast,Int.toNat_zero,List.length_map,r1,r1n,r2,r2n,Int.natCast_zero,Int.lt_irrefl,go_sem,↓reduceIte]
   repeat refine And.intro ⟨by omega,hsz⟩ ?_
   exact next (by omega)
  ·have w2:IntKind.i64.wrap ((j:Int)-1)=((j-1:Nat):Int):=wc (by omega) (by omega)
   have g2:=hLL _ _ hjl
   have c0:(0:Int) < (j:Int):=by omega
   have c4:(0:Int)≤((j-1:Nat):Int):=by omega
   have c5:((j-1:Nat):Int) < (sg.length:Int):=by omega
   by_cases r3:p≤low
   ·have r3n:¬low < p:=by omega
    simp (maxSteps:=1000000) (implicitDefEqProofs:=false) only[c0,c1,c2,c4,c5,hG,g,g2,sgV,w1,w2,Int.toNat_natCast,List.length_map,r1,r1n,r2,r2n,r3,r3n,go_sem,↓reduceIte]
    repeat refine And.intro ⟨by omega,hsz⟩ ?_
    exact hr _ rfl rfl (stop (by omega))
   ·have r3n:low < p:=by omega
    simp (maxSteps:=1000000) (implicitDefEqProofs:=false) only[c0,c1,c2,c4,c5,hG,g,g2,sgV,w1,w2,Int.toNat_natCast,List.length_map,r1,r1n,r2,r2n,r3,r3n,go_sem,↓reduceIte]
    repeat refine And.intro ⟨by omega,hsz⟩ ?_
    exact next (by omega)
theorem walk58s {n:Int} {sg:List (Int×List Int)} {id c:Nat} {LL:List V} (hG:Abs.look G id=some (.agg LL)) (hLL:∀(i:Nat) p,sg[i]? =some p→LL[i]? =some (sgV p)) (hfl:sg.length≤LL.length) (hsz:∀y∈LL,V.size y=33) (hl:sg.length < 1000000) (h:Q (.v (.bool (risesB n 0 (sg.map (·.1))))) G):Wf E C pf58 [.sob id 33 0 sg.length c,.int .i64 n] G Q:=by
 simp (maxSteps:=1000000) (implicitDefEqProofs:=false) only[pf58,List.length_map,go_sem,↓reduceIte]
 refine⟨sg.length+1,?_⟩
 refine loop58s hG hLL hfl hsz hl (fun j ts e=> ?_) (fun σ e1 e2 e3=> ?_) sg 0 0 rfl (Nat.zero_le _) (.inl ⟨rfl,rfl⟩) rfl
 ·simp (maxSteps:=1000000) (implicitDefEqProofs:=false) only[go_sem,↓reduceIte]
  rw[e]at h;exact h
 ·show resQ Q σ.G (rD (St.ev σ (.v 4)))
  rw[e1,e2,←e3];exact h
theorem walk58n {n:Int} (h:Q (.v (.bool true)) G):Wf E C pf58 [.nils,.int .i64 n] G Q:=by
 simp (maxSteps:=1000000) (implicitDefEqProofs:=false) only[pf58,go_sem,↓reduceIte]
 refine⟨1,?_⟩
 refine WL_in lp58_0.eq_1 ?_
 simp (maxSteps:=1000000) (implicitDefEqProofs:=false) only[go_sem,↓reduceIte]
 exact h
end Go.Proofs.YtegamlopcdjiaaaDoor.Sha
