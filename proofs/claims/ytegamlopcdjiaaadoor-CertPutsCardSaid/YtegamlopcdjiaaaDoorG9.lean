/- Laws over plain values, and what functions of the program hand back; no conditions. -/
import Derived.Test.YtegamlopcdjiaaaDoorG8
namespace Go.Proofs.YtegamlopcdjiaaaDoor.Sha
open Go Go.Abs Go.Abs.Sha Go.Abs.Srt
set_option linter.unusedSimpArgs false
set_option linter.unusedVariables false
set_option maxRecDepth 100000
def lp18_0:PC:=
 ((PC.reg [mm 20 5,nn (.t 21) (.fadr 1 101 (.v 2)),nn (.t 22) (.load 1 false (.t 21)),nn (.t 23) (.len (.t 22)),nn (.t 24) (.bin .lss (.t 20) (.t
  23))]).seq (PC.cond (.t 24) PC.skip (PC.exit 0))).seq ((PC.block 1 ((PC.regD 0 [nn (.t 27) (.fadr 1 101 (.v 2)),nn (.t 28) (.load 1 false (.t 27)),
  mm 29 5,nn (.t 30) (.iadrS 33 (.t 28) (.t 29)),nn (.t 31) (.load 33 true (.t 30)),nn (.t 32) (.fadr 1 101 (.v 3)),nn (.t 33) (.load 1 false (.t
  32)),mm 34 5,nn (.t 35) (.iadrS 33 (.t 33) (.t 34)),nn (.t 36) (.load 33 true (.t 35)),nn (.t 37) (.eqa true (.agg (.cons 0 1 false .int (.cons 1
  32 true (.arr 32) .nil))) (.t 31) (.t 36))] []).seq (PC.cond (.t 37) ((PC.reg [nn (.v 4) (.mv true (.c (.v (.bool false))))]).seq PC.ret)
  PC.skip))).seq (PC.reg [mm 25 5,nn (.t 26) (.bin .add (.t 25) (.c (.v (.int .i64 1)))),ma 5 26]))
def pf18:PF:=
 PF.mk 2 6 38 ((PC.reg [nn (.v 2) (.box (.v 0)),nn (.v 3) (.box (.v 1)),nn (.v 4) (.mv true (.c (.v (.bool false))))]).seq (((PC.reg [nn (.t 6) (.fadr
  0 0 (.v 2)),nn (.t 7) (.load 101 true (.t 6)),nn (.t 8) (.fadr 0 0 (.v 3)),nn (.t 9) (.load 101 true (.t 8)),nn (.t 10) (.eqa true (.agg (.cons 0
  1 false .int (.cons 1 1 false .int (.cons 2 1 false .int (.cons 3 1 false .int (.cons 4 32 true (.arr 32) (.cons 36 1 false .int (.cons 37 32 true
  (.arr 32) (.cons 69 32 true (.arr 32) .nil))))))))) (.t 7) (.t 9)),nn (.t 11) (.mv false (.t 10)),⟨.t 12,.fadr 1 101 (.v 2),some (.t 11,false)⟩,
  ⟨.t 13,.load 1 false (.t 12),some (.t 11,false)⟩,⟨.t 14,.len (.t 13),some (.t 11,false)⟩,⟨.t 15,.fadr 1 101 (.v 3),some (.t 11,false)⟩,
  ⟨.t 16,.load 1 false (.t 15),some (.t 11,false)⟩,⟨.t 17,.len (.t 16),some (.t 11,false)⟩,⟨.t 18,.bin .neq (.t 14) (.t 17),some (.t 11,
  false)⟩,nn (.t 19) (.pick (.t 11) (.c (.v (.bool true))) (.t 18))]).seq (PC.cond (.t 19) ((PC.reg [nn (.v 4) (.mv true (.c (.v (.bool
  false))))]).seq PC.ret) PC.skip)).seq (((PC.reg [nn (.v 5) (.mv true (.c (.v (.int .i64 0))))]).seq (PC.block 0 (PC.loop [2,3,5] lp18_0))).seq
  ((PC.reg [nn (.v 4) (.mv true (.c (.v (.bool true))))]).seq PC.ret)))) [(.v 4,none)]
def pf15:PF:=
 PF.mk 2 6 42 ((PC.reg [nn (.v 3) (.newB (.v 1)),nn (.v 4) (.mv true (.c (.v (.bool false))))]).seq ((PC.reg [mm 6 0,nn (.t 7) (.call 44 [.t 6]),ma 5
  7]).seq (((PC.reg [mm 8 5,nn (.t 9) (.bin .eql (.t 8) (.c (.v (.int .i64 0)))),nn (.t 10) (.mv false (.t 9)),⟨.t 11,.fadr 1 101 (.v 3),some (.t
  10,false)⟩,⟨.t 12,.load 1 false (.t 11),some (.t 10,false)⟩,⟨.t 13,.len (.t 12),some (.t 10,false)⟩,gm 14 5 10 false,⟨.t 15,.bin .neq (.t
  13) (.t 14),some (.t 10,false)⟩,nn (.t 16) (.pick (.t 10) (.c (.v (.bool true))) (.t 15)),nn (.t 17) (.mv false (.t 16)),⟨.t 18,.fadr 1 101 (.v
  3),some (.t 17,false)⟩,⟨.t 19,.load 1 false (.t 18),some (.t 17,false)⟩,gm 20 0 17 false,⟨.t 21,.call 53 [.t 19,.t 20],some (.t 17,
  false)⟩,⟨.t 22,.un .not (.t 21),some (.t 17,false)⟩,nn (.t 23) (.pick (.t 17) (.c (.v (.bool true))) (.t 22)),nn (.t 24) (.mv false (.t 23)),
  ⟨.t 25,.fadr 0 0 (.v 3),some (.t 24,false)⟩,⟨.t 26,.fadr 0 0 (.t 25),some (.t 24,false)⟩,⟨.t 27,.load 1 false (.t 26),some (.t 24,false)⟩,
  ⟨.t 28,.bin .neq (.t 27) (.c (.v (.int .i64 0))),some (.t 24,false)⟩,nn (.t 29) (.pick (.t 24) (.c (.v (.bool true))) (.t 28)),nn (.t 30) (.mv
  false (.t 29)),⟨.t 31,.fadr 0 0 (.v 3),some (.t 30,false)⟩,⟨.t 32,.fadr 7 69 (.t 31),some (.t 30,false)⟩,⟨.t 33,.load 32 true (.t 32),some
  (.t 30,false)⟩,⟨.t 34,.build (.arr .u8 32 [0,0,0,0,0,0,0,0,0,0,0,0,0,0,0,0,0,0,0,0,0,0,0,0,0,0,0,0,0,0,0,0]) [],
  some (.t 30,false)⟩,⟨.t 35,.eqa true (.arr 32) (.t 33) (.t 34),some (.t 30,false)⟩,nn (.t 36) (.pick (.t 30) (.c (.v (.bool true))) (.t
  35))]).seq (PC.cond (.t 36) ((PC.reg [nn (.v 4) (.mv true (.c (.v (.bool false))))]).seq PC.ret) PC.skip)).seq ((PC.reg [nn (.t 37) (.fadr 1 101 (.v
  3)),nn (.t 38) (.load 1 false (.t 37)),nn (.t 39) (.mkFn 55 [.v 3]),nn (.t 40) (.call 54 [.t 38,.t 39]),nn (.t 41) (.un .not (.t 40)),ma 4
  41]).seq PC.ret)))) [(.v 4,none)]
def lp52_0:PC:=
 (PC.reg [nn (.t 10) (.bin .lss (.v 9) (.v 8))]).seq ((PC.cond (.t 10) PC.skip (PC.exit 0)).seq ((PC.block 1 ((PC.reg [nn (.t 11) (.iadrS 33 (.v 7) (.v
  9)),nn (.t 12) (.load 33 true (.t 11)),nn (.v 5) (.alloc (.agg [.int .i64 0,.arr .u8 32 [0,0,0,0,0,0,0,0,0,0,0,0,0,0,0,0,0,0,0,
  0,0,0,0,0,0,0,0,0,0,0,0,0]])),nn .no (.store 33 (.v 5) (.t 12))]).seq (PC.reg [nn (.t 13) (.mv true (.v 3)),nn (.t 14) (.fadr 0 0 (.v
  5)),nn (.t 15) (.load 1 false (.t 14)),nn (.t 16) (.buildS (some .i64) 1 (.int .i64 0) 1 [(0,.t 15)]),nn (.t 17) (.app (some .i64) 1 8 (.t 13)
  (.t 16)),ma 3 17]))).seq (PC.reg [nn (.t 18) (.bin .add (.v 9) (.c (.v (.int .i64 1)))),nn (.v 9) (.mv false (.t 18))])))
def pf52:PF:=
 PF.mk 1 10 20 ((PC.reg [nn (.v 1) (.box (.v 0)),nn (.v 2) (.mv true (.c (.own .nils)))]).seq ((PC.reg [nn (.v 3) (.mv true (.c (.own .nils)))]).seq
  (((PC.reg [nn (.v 6) (.fadr 1 101 (.v 1)),nn (.v 7) (.load 1 false (.v 6)),nn (.v 8) (.len (.v 7)),nn (.v 9) (.mv false (.c (.v (.int .i64
  0))))]).seq (PC.block 0 (PC.loop [3,7,8,9] lp52_0))).seq ((PC.reg [nn (.t 19) (.mv true (.v 3)),ma 2 19]).seq PC.ret)))) [(.v 2,none)]
def lp53_0:PC:=
 (PC.reg [nn (.t 11) (.bin .lss (.v 10) (.v 9))]).seq ((PC.cond (.t 11) PC.skip (PC.exit 0)).seq ((PC.block 1 ((PC.reg [nn (.t 12) (.iadrS 33 (.v 8) (.v
  10)),nn (.t 13) (.load 33 true (.t 12)),nn (.v 7) (.alloc (.agg [.int .i64 0,.arr .u8 32 [0,0,0,0,0,0,0,0,0,0,0,0,0,0,0,0,0,0,0,
  0,0,0,0,0,0,0,0,0,0,0,0,0]])),nn .no (.store 33 (.v 7) (.t 13))]).seq (((PC.reg [nn (.t 14) (.fadr 0 0 (.v 7)),nn (.t 15) (.load 1
  false (.t 14)),mm 16 5,nn (.t 17) (.bin .leq (.t 15) (.t 16)),nn (.t 18) (.mv false (.t 17)),⟨.t 19,.fadr 0 0 (.v 7),some (.t 18,false)⟩,⟨.t
  20,.load 1 false (.t 19),some (.t 18,false)⟩,gm 21 1 18 false,⟨.t 22,.bin .gtr (.t 20) (.t 21),some (.t 18,false)⟩,nn (.t 23) (.pick (.t 18)
  (.c (.v (.bool true))) (.t 22))]).seq (PC.cond (.t 23) ((PC.reg [nn (.v 4) (.mv true (.c (.v (.bool false))))]).seq PC.ret) PC.skip)).seq (PC.reg [nn
  (.t 24) (.fadr 0 0 (.v 7)),nn (.t 25) (.load 1 false (.t 24)),ma 5 25])))).seq (PC.reg [nn (.t 26) (.bin .add (.v 10) (.c (.v (.int .i64 1)))),nn
  (.v 10) (.mv false (.t 26))])))
def pf53:PF:=
 PF.mk 2 11 27 ((PC.reg [nn (.v 4) (.mv true (.c (.v (.bool false))))]).seq ((PC.reg [nn (.v 5) (.mv true (.c (.v (.int .i64 0))))]).seq (((PC.reg [nn
  (.v 8) (.mv false (.v 0)),nn (.v 9) (.len (.v 8)),nn (.v 10) (.mv false (.c (.v (.int .i64 0))))]).seq (PC.block 0 (PC.loop [1,5,8,9,10]
  lp53_0))).seq ((PC.reg [nn (.v 4) (.mv true (.c (.v (.bool true))))]).seq PC.ret)))) [(.v 4,none)]
def pf55:PF:=
 PF.mk 2 4 9 ((PC.reg [nn (.v 2) (.box (.v 0)),nn (.v 3) (.mv true (.c (.v (.bool false))))]).seq ((PC.reg [nn (.t 4) (.load 102 true (.v 1)),nn (.t
  5) (.load 33 true (.v 2)),nn (.t 6) (.call 57 [.t 4,.t 5]),nn (.t 7) (.call 56 [.t 6]),nn (.t 8) (.un .not (.t 7)),ma 3 8]).seq PC.ret)) [(.v 3,
  none)]
def pf57:PF:=
 PF.mk 2 6 15 ((PC.reg [nn (.v 2) (.box (.v 0)),nn (.v 3) (.box (.v 1)),nn (.v 4) (.alloc (.agg [.int .i64 0,.int .i64 0,.int .i64 0,.int .i64 0,
  .arr .u8 32 [0,0,0,0,0,0,0,0,0,0,0,0,0,0,0,0,0,0,0,0,0,0,0,0,0,0,0,0,0,0,0,0],.int .i64 0,.arr .u8 32 [0,0,0,0,
  0,0,0,0,0,0,0,0,0,0,0,0,0,0,0,0,0,0,0,0,0,0,0,0,0,0,0,0],.arr .u8 32 [0,0,0,0,0,0,0,0,0,0,0,0,0,0,0,0,0,
  0,0,0,0,0,0,0,0,0,0,0,0,0,0,0]]))]).seq ((PC.reg [nn (.t 6) (.fadr 0 0 (.v 2)),nn (.t 7) (.load 101 true (.t 6)),nn (.v 5) (.alloc
  (.agg [.int .i64 0,.int .i64 0,.int .i64 0,.int .i64 0,.arr .u8 32 [0,0,0,0,0,0,0,0,0,0,0,0,0,0,0,0,0,0,0,0,0,0,0,0,0,0,
  0,0,0,0,0,0],.int .i64 0,.arr .u8 32 [0,0,0,0,0,0,0,0,0,0,0,0,0,0,0,0,0,0,0,0,0,0,0,0,0,0,0,0,0,0,0,0],.arr
  .u8 32 [0,0,0,0,0,0,0,0,0,0,0,0,0,0,0,0,0,0,0,0,0,0,0,0,0,0,0,0,0,0,0,0]])),nn .no (.store 101 (.v 5) (.t 7))]).seq
  ((PC.regD 0 [nn (.t 8) (.fadr 0 0 (.v 3)),nn (.t 9) (.load 1 false (.t 8)),nn (.t 10) (.fadr 1 1 (.v 3)),nn (.t 11) (.load 32 true (.t 10)),nn
  (.t 12) (.fadr 0 0 (.v 5)),nn .no (.store 1 (.t 12) (.t 9)),nn (.t 13) (.fadr 7 69 (.v 5)),nn .no (.store 32 (.t 13) (.t 11))] [(3,5)]).seq
  ((PC.reg [nn (.t 14) (.load 101 true (.v 5)),nn .no (.store 101 (.v 4) (.t 14))]).seq PC.ret)))) [(.v 4,some (101,true))]
def pf54:PF:=
 PF.mk 2 5 9 ((PC.reg [nn (.v 4) (.mv true (.c (.v (.bool false))))]).seq ((PC.reg [mm 5 0,mm 6 1,nn (.t 7) (.call 97 [.t 5,.t 6]),nn (.t 8) (.bin
  .geq (.t 7) (.c (.v (.int .i64 0)))),ma 4 8]).seq PC.ret)) [(.v 4,none)]
def lp97_0:PC:=
 (PC.reg [nn (.t 9) (.bin .lss (.v 8) (.v 7))]).seq ((PC.cond (.t 9) PC.skip (PC.exit 0)).seq ((PC.block 1 ((PC.reg [nn (.t 10) (.mv true (.v 8)),ma 5
  10]).seq ((PC.reg [mm 11 1,mm 12 0,mm 13 5,nn (.t 14) (.iadrS 33 (.t 12) (.t 13)),nn (.t 15) (.load 33 true (.t 14)),nn (.t 16) (.callV (.t 11)
  [.t 15])]).seq (PC.cond (.t 16) ((PC.reg [nn (.t 17) (.mv true (.v 5)),ma 4 17]).seq PC.ret) PC.skip)))).seq (PC.reg [nn (.t 18) (.bin .add (.v 8)
  (.c (.v (.int .i64 1)))),nn (.v 8) (.mv false (.t 18))])))
def pf97:PF:=
 PF.mk 2 9 19 ((PC.reg [nn (.v 4) (.mv true (.c (.v (.int .i64 0))))]).seq (((PC.reg [nn (.v 6) (.mv false (.v 0)),nn (.v 7) (.len (.v 6)),nn (.v 8)
  (.mv false (.c (.v (.int .i64 0))))]).seq (PC.block 0 (PC.loop [0,1,7,8] lp97_0))).seq ((PC.reg [nn (.v 4) (.mv true (.c (.v (.int .i64
  ((-1))))))]).seq PC.ret))) [(.v 4,none)]
attribute [local irreducible] W Wops WopsD WL Wop WopD
variable {E:Env} {C:Abs.Spec} {l:List (Nat×Spec1)} {G:List (Nat×V)} {Q:R→List (Nat×V)→Prop}
set_option maxHeartbeats 1000000
def ZIy (T:List (Nat×Spec1)):Spec1
 |[.sle 33 as,.fn f caps],G,Q=>∃p pr z,((∀y∈as,pr y)∧RowOk 33 z as∧as.length < 1000000000000000∧PredFn T f caps G pr p)∧Q (.v (.int .i64 (idxP p 0 as))) G
 |_,_,_=>False
theorem ZIy_eq {T as f caps}:ZIy T [.sle 33 as,.fn f caps] G Q=(∃p pr z,((∀y∈as,pr y)∧RowOk 33 z as∧as.length < 1000000000000000∧PredFn T f caps G pr p)∧Q (.v (.int .i64 (idxP p 0 as))) G):=rfl
def ZCy (T:List (Nat×Spec1)):Spec1
 |[.sle 33 as,.fn f caps],G,Q=>∃p pr z,((∀y∈as,pr y)∧RowOk 33 z as∧as.length < 1000000000000000∧PredFn T f caps G pr p)∧Q (.v (.bool (as.any p))) G
 |_,_,_=>False
theorem ZCy_eq {T as f caps}:ZCy T [.sle 33 as,.fn f caps] G Q=(∃p pr z,((∀y∈as,pr y)∧RowOk 33 z as∧as.length < 1000000000000000∧PredFn T f caps G pr p)∧Q (.v (.bool (as.any p))) G):=rfl
theorem loop97 {T:List (Nat×Spec1)} (hT:Sub T l) (hok:(T.all fun p=>calleeOk E.P p.1)=true) {f:Nat} {caps:List V} {pr:V→Prop} {p:V→Bool} {z:V} {QQ:Ex→St→Prop} (hf:PredFn T f caps G pr p) {as:List V} {n:Nat} (hn:n=as.length) (hl:n < 1000000000000000) (hP:∀y∈as,pr y) (hR:RowOk 33 z as)
  (hx:∀i ts,idxP p 0 as= -1→QQ (.exit 0) ⟨[some (.v (.sle 33 as)),some (.v (.fn f caps)),none,none,none,none,none,some (.v (.int .i64 (n:Nat))),some (.v (.int .i64 (i:Nat)))],ts,[],G⟩) (hr:∀(σ:St) (i:Nat),σ.G=G→St.ev σ (.v 4)=some (.v (.int .i64 (i:Nat)))→idxP p 0 as=(i:Nat)→QQ .ret σ):
  ∀(r:List V) (i:Nat),as.drop i=r→i≤as.length→idxP p 0 as=idxP p i r→WL (W E (specOf l) lp97_0) [0,1,7,8] QQ (r.length+1) ⟨[some (.v (.sle 33 as)),some (.v (.fn f caps)),none,none,none,none,none,some (.v (.int .i64 (n:Nat))),some (.v (.int .i64 (i:Nat)))],[],[],G⟩:=by
 intro r
 induction r with
 |nil=>
  intro i h1 h2 h3
  have:as.length≤i:=by have:=congrArg List.length h1;rw[List.length_drop,List.length_nil]at this;omega
  have c1:¬(i:Int) < (n:Int):=by omega
  refine WL_in lp97_0.eq_1 ?_
  simp (maxSteps:=1000000) (implicitDefEqProofs:=false) only[c1,go_sem,↓reduceIte]
  exact hx i _ h3
 |cons x r ih=>
  intro i h1 h2 h3
  have hlen:=congrArg List.length h1
  rw[List.length_drop,List.length_cons]at hlen
  have hg:as[i]? =some x:=by
   have:(as.drop i)[0]? =some x:=by rw[h1];rfl
   rwa [List.getElem?_drop,Nat.add_zero]at this
  have hgd:as.getD i .nilp=x:=by rw[List.getD_eq_getElem?_getD,hg];rfl
  have hd:as.drop (i+1)=r:=by rw[←List.drop_drop,h1];rfl
  have c1:(i:Int) < (n:Int):=by omega
  have w1:IntKind.i64.wrap ((i:Int)+1)=((i+1:Nat):Int):=wc (by omega) (by omega)
  have t1:=hR.get hg
  have a1:=t1.2.1
  unfold V.isAgg at a1
  refine WL_in lp97_0.eq_1 ?_
  simp (maxSteps:=1000000) (implicitDefEqProofs:=false) only[c1,hgd,t1.1,a1,Int.toNat_natCast,go_sem,↓reduceIte]
  refine⟨by omega,ok_of hok hf.1,hT.run hf.1 (hf.2 x _ (hP x (List.mem_of_getElem? hg)) ?_)⟩
  simp only[idxP]at h3
  by_cases hp:p x=true
  ·rw[if_pos hp]at h3
   simp (maxSteps:=1000000) (implicitDefEqProofs:=false) only[hp,go_sem,↓reduceIte]
   exact hr _ i rfl rfl h3
  ·have hp:p x=false:=by simpa using hp
   rw[if_neg (by rw[hp];exact Bool.false_ne_true)]at h3
   simp (maxSteps:=1000000) (implicitDefEqProofs:=false) only[hp,w1,go_sem,↓reduceIte]
   exact ih (i+1) hd (by omega) h3
theorem walk97 {T:List (Nat×Spec1)} (hT:Sub T l) (hok:(T.all fun p=>calleeOk E.P p.1)=true) {f:Nat} {caps:List V} {as:List V} (h:ZIy T [.sle 33 as,.fn f caps] G Q):Wf E (specOf l) pf97 [.sle 33 as,.fn f caps] G Q:=by
 obtain⟨p,pr,z,⟨hP,hR,hl,hf⟩,h⟩:=h
 simp (maxSteps:=1000000) (implicitDefEqProofs:=false) only[pf97,go_sem,↓reduceIte]
 refine⟨as.length+1,?_⟩
 simp (maxSteps:=1000000) (implicitDefEqProofs:=false) only[go_sem,↓reduceIte]
 refine loop97 hT hok hf rfl hl hP hR (fun i ts e=> ?_) (fun σ i e1 e2 e3=> ?_) as 0 rfl (Nat.zero_le _) rfl
 ·simp (maxSteps:=1000000) (implicitDefEqProofs:=false) only[go_sem,↓reduceIte]
  rw[e]at h;exact h
 ·show resQ Q σ.G (rD (St.ev σ (.v 4)))
  rw[e1,e2,←e3];exact h
theorem walk54 {T:List (Nat×Spec1)} (hI:Abs.look l 97=some (ZIy T)) {f:Nat} {caps:List V} {as:List V} (h:ZCy T [.sle 33 as,.fn f caps] G Q):Wf E (specOf l) pf54 [.sle 33 as,.fn f caps] G Q:=by
 obtain⟨p,pr,z,⟨hP,hR,hl,hf⟩,h⟩:=h
 simp (maxSteps:=1000000) (implicitDefEqProofs:=false) only[pf54,hI,ZIy_eq,go_sem,↓reduceIte]
 refine⟨p,pr,z,⟨hP,hR,hl,hf⟩,?_⟩
 rw[idxP_any]
 exact h
def risesB (n:Int):Int→List Int→Bool
 |_,[]=>true
 |low,w::ws=>if w≤low∨n < w then false else risesB n w ws
def _root_.Go.Abs.Sha.CertS.wf (c:CertS):Prop:=c.att.wf∧(∀p∈c.sigs,I64 p.1∧H32 p.2)
def withS (a:AttS) (p:Int×List Int):AttS:={ a with who:=p.1,ta:=p.2 }
def _root_.Go.Abs.Sha.CertS.right (kt:List Int) (n:Int) (c:CertS):Bool:=
 if quo n=0∨(c.sigs.length:Int)≠quo n∨risesB n 0 (c.sigs.map (·.1))=false∨c.att.who≠0∨c.att.ta≠zero32 then false else c.sigs.all fun p=>(withS c.att p).right kt
def ZSg:Spec1
 |[x],G,Q=>∃c:CertS,(x=c.v∧c.sigs.length < 1000000)∧Q (.own (if c.sigs=[]then .nils else .sli .i64 (c.sigs.map (·.1)))) G
 |_,_,_=>False
theorem ZSg_eq {x}:ZSg [x] G Q=(∃c:CertS,(x=c.v∧c.sigs.length < 1000000)∧Q (.own (if c.sigs=[]then .nils else .sli .i64 (c.sigs.map (·.1)))) G):=rfl
def SgV (G:List (Nat×V)) (x:V) (sg:List (Int×List Int)):Prop:=
 x= .sle 33 (sg.map sgV)∨(x= .nils∧sg=[])∨∃id c LL,x= .sob id 33 0 sg.length c∧Abs.look G id=some (.agg LL)∧(∀(i:Nat) p,sg[i]? =some p→LL[i]? =some (sgV p))∧sg.length≤LL.length∧∀y∈LL,V.size y=33
theorem sgv_row {G0:List (Nat×V)} {z x:V} {els:List (Int×List Int)} (h:Row G0 G 33 z x (els.map sgV)):SgV G x els:=by
 obtain⟨_,⟨h1,h2⟩|⟨id,c,L,h1,h2,h3,h4,h5,h6,h7⟩⟩:=h
 ·exact .inr (.inl ⟨h1,by simpa using h2⟩)
 ·rw[List.length_map]at h1 h4 h6
  refine .inr (.inr ⟨id,c,L,h1,h3,fun i p hp=> ?_,by omega,fun y hy=>(h7 y hy).1⟩)
  have hi:i < els.length:=(List.getElem?_eq_some_iff.1 hp).1
  have:=congrArg (fun l=>l[i]?) h6
  simp only[List.getElem?_take,List.getElem?_map,hp,if_pos hi]at this
  exact this
theorem SgV.one {x:V} {sg:List (Int×List Int)} (h:SgV G x sg):V.size x=1∧V.isAgg x=false:=by
 rcases h with rfl|⟨rfl,_⟩|⟨id,c,LL,rfl,_⟩<;>exact⟨rfl,rfl⟩
theorem at_drop2 {α:Type} {l:List α} {j:Nat} {p:α} {r:List α} (h:l.drop j=p::r):l[j]? =some p:=by
 have:(l.drop j)[0]? =some p:=by rw[h];rfl
 rwa [List.getElem?_drop,Nat.add_zero]at this
def ZRs:Spec1
 |[.sle 33 ss,.int .i64 n],G,Q=>∃sg:List (Int×List Int),(ss=sg.map sgV∧sg.length < 1000000)∧Q (.v (.bool (risesB n 0 (sg.map (·.1))))) G
 |[.nils,.int .i64 n],G,Q=>Q (.v (.bool true)) G
 |[.sob id 33 0 m c,.int .i64 n],G,Q=>∃(sg:List (Int×List Int)) (LL:List V),(m=sg.length∧sg.length < 1000000∧Abs.look G id=some (.agg LL)∧(∀(i:Nat) p,sg[i]? =some p→LL[i]? =some (sgV p))∧sg.length≤LL.length∧∀y∈LL,V.size y=33)∧Q (.v (.bool (risesB n 0 (sg.map (·.1))))) G
 |_,_,_=>False
theorem ZRs_eq {ss n}:ZRs [.sle 33 ss,.int .i64 n] G Q=(∃sg:List (Int×List Int),(ss=sg.map sgV∧sg.length < 1000000)∧Q (.v (.bool (risesB n 0 (sg.map (·.1))))) G):=rfl
def ZWi:Spec1
 |[x,y],G,Q=>∃(a:AttS) (s:V) (p:Int×List Int),(x= .agg [a.v,s]∧V.size s=1∧V.isAgg s=false∧y=sgV p)∧Q (.v (withS a p).v) G
 |_,_,_=>False
theorem ZWi_eq {x y}:ZWi [x,y] G Q=(∃(a:AttS) (s:V) (p:Int×List Int),(x= .agg [a.v,s]∧V.size s=1∧V.isAgg s=false∧y=sgV p)∧Q (.v (withS a p).v) G):=rfl
def ZCr (kt:List Int):Spec1
 |[y,.ptr id],G,Q=>∃(c:CertS) (p:Int×List Int),(Abs.look G id=some c.v∧y=sgV p∧c.att.wf∧I64 p.1∧H32 p.2)∧Q (.v (.bool (!((withS c.att p).right kt)))) G
 |_,_,_=>False
theorem walk57 {a:AttS} {s:V} {p:Int×List Int} (hs:V.size s=1) (hs2:V.isAgg s=false) (h:Q (.v (withS a p).v) G):Wf E C pf57 [.agg [a.v,s],sgV p] G Q:=by
 obtain⟨a1,a2,a3,a4,a5,a6,a7,a8⟩:=a
 obtain⟨p1,p2⟩:=p
 simp (maxSteps:=1000000) (implicitDefEqProofs:=false) only[pf57,AttS.v,sgV,hs,hs2,go_sem,↓reduceIte]
 exact h
theorem walk55 {kt:List Int} {c:CertS} {p:Int×List Int} {id:Nat} (hW:Abs.look l 57=some ZWi) (hR:Abs.look l 56=some (SRi kt)) (hG:Abs.look G id=some c.v) (hc:c.att.wf) (h1:I64 p.1) (h2:H32 p.2) (h:Q (.v (.bool (!((withS c.att p).right kt)))) G):Wf E (specOf l) pf55 [sgV p,.ptr id] G Q:=by
 obtain⟨⟨a1,a2,a3,a4,a5,a6,a7,a8⟩,sg⟩:=c
 obtain⟨p1,p2⟩:=p
 simp (maxSteps:=1000000) (implicitDefEqProofs:=false) only[pf55,hW,ZWi_eq,hG,CertS.v,AttS.v,sgV,go_sem,↓reduceIte]
 refine⟨⟨a1,a2,a3,a4,a5,a6,a7,a8⟩,_,(p1,p2),⟨rfl,rfl,rfl,rfl⟩,?_⟩
 simp (maxSteps:=1000000) (implicitDefEqProofs:=false) only[withS,hR,SRi_eq,AttS.v,go_sem,↓reduceIte]
 obtain⟨w1,w2,w3,w4,w5,w6,w7,w8⟩:=hc
 exact⟨⟨h1,w2,w3,w4,w5,w6,w7,h2⟩,h⟩
theorem getD_sg {sg:List (Int×List Int)} {j:Nat} {p:Int×List Int} {r:List (Int×List Int)} (h:sg.drop j=p::r):(sg.map sgV).getD j V.nilp=sgV p:=by
 have:(sg.drop j)[0]? =some p:=by rw[h];rfl
 rw[List.getElem?_drop,Nat.add_zero]at this
 rw[List.getD_eq_getElem?_getD,List.getElem?_map,this];rfl
theorem drop_one {α:Type} {l r:List α} {j:Nat} {p:α} (h:l.drop j=p::r):l.drop (j+1)=r∧j < l.length∧l.length=j+1+r.length:=by
 have e:l.drop (j+1)=r:=by rw[←List.drop_drop,h];rfl
 have:=congrArg List.length h
 rw[List.length_drop,List.length_cons]at this
 exact⟨e,by omega,by omega⟩
theorem drop_none {α:Type} {l:List α} {j:Nat} (h:l.drop j=[]):l.length≤j:=by
 have:=congrArg List.length h
 rw[List.length_drop,List.length_nil]at this;omega
theorem loop53 {QQ:Ex→St→Prop} {n:Int} {sg:List (Int×List Int)} (hl:sg.length < 1000000)
  (hx:∀(low:Int) (j:Nat) ts L,risesB n 0 (sg.map (·.1))=true→QQ (.exit 0) ⟨[none,some (.v (.int .i64 n)),none,none,none,some (.v (.int .i64 low)),none,none,some (.v (.sle 33 (sg.map sgV))),some (.v (.int .i64 (sg.length:Nat))),some (.v (.int .i64 (j:Nat)))],ts,L,G⟩)
  (hr:∀σ:St,σ.G=G→St.ev σ (.v 4)=some (.v (.bool false))→risesB n 0 (sg.map (·.1))=false→QQ .ret σ):
  ∀(r:List (Int×List Int)) (j:Nat) (low:Int) L,sg.drop j=r→j≤sg.length→risesB n 0 (sg.map (·.1))=risesB n low (r.map (·.1))→WL (W E C lp53_0) [1,5,8,9,10] QQ (r.length+1) ⟨[none,some (.v (.int .i64 n)),none,none,none,some (.v (.int .i64 low)),none,none,some (.v (.sle 33 (sg.map sgV))),some (.v (.int .i64 (sg.length:Nat))),some (.v (.int .i64 (j:Nat)))],[],L,G⟩:=by
 intro r
 induction r with
 |nil=>
  intro j low L h1 h2 h3
  have:=drop_none h1
  have c1:¬(j:Int) < (sg.length:Int):=by omega
  refine WL_in lp53_0.eq_1 ?_
  simp (maxSteps:=1000000) (implicitDefEqProofs:=false) only[c1,go_sem,↓reduceIte]
  exact hx _ _ _ _ h3
 |cons p r ih=>
  intro j low L h1 h2 h3
  obtain⟨hd,hj,hlen⟩:=drop_one h1
  have g:=getD_sg h1
  have c1:(j:Int) < (sg.length:Int):=by omega
  have c2:(0:Int)≤(j:Int):=by omega
  have w1:IntKind.i64.wrap ((j:Int)+1)=((j+1:Nat):Int):=wc (by omega) (by omega)
  obtain⟨p1,p2⟩:=p
  rw[List.map_cons]at h3
  refine WL_in lp53_0.eq_1 ?_
  by_cases r1:p1≤low
  ·simp (maxSteps:=1000000) (implicitDefEqProofs:=false) only[c1,c2,g,sgV,w1,Int.toNat_natCast,List.length_map,r1,go_sem,↓reduceIte]
   refine hr _ rfl rfl ?_
   rw[h3];exact if_pos (.inl r1)
  ·by_cases r2:n < p1
   ·simp (maxSteps:=1000000) (implicitDefEqProofs:=false) only[c1,c2,g,sgV,w1,Int.toNat_natCast,List.length_map,r1,r2,go_sem,↓reduceIte]
    refine hr _ rfl rfl ?_
    rw[h3];exact if_pos (.inr r2)
   ·simp (maxSteps:=1000000) (implicitDefEqProofs:=false) only[c1,c2,g,sgV,w1,Int.toNat_natCast,List.length_map,r1,r2,go_sem,↓reduceIte]
    refine ih (j+1) p1 _ hd (by omega) ?_
    rw[h3];exact if_neg (by omega)
theorem walk53 {n:Int} {sg:List (Int×List Int)} (hl:sg.length < 1000000) (h:Q (.v (.bool (risesB n 0 (sg.map (·.1))))) G):Wf E C pf53 [.sle 33 (sg.map sgV),.int .i64 n] G Q:=by
 simp (maxSteps:=1000000) (implicitDefEqProofs:=false) only[pf53,List.length_map,go_sem,↓reduceIte]
 refine⟨sg.length+1,?_⟩
 refine loop53 hl (fun low j ts L e=> ?_) (fun σ e1 e2 e3=> ?_) sg 0 0 [] rfl (Nat.zero_le _) rfl
 ·simp (maxSteps:=1000000) (implicitDefEqProofs:=false) only[go_sem,↓reduceIte]
  rw[e]at h;exact h
 ·show resQ Q σ.G (rD (St.ev σ (.v 4)))
  rw[e1,e2,←e3];exact h
theorem loop53s {QQ:Ex→St→Prop} {n:Int} {sg:List (Int×List Int)} {id c:Nat} {LL:List V} (hG:Abs.look G id=some (.agg LL)) (hLL:∀(i:Nat) p,sg[i]? =some p→LL[i]? =some (sgV p)) (hfl:sg.length≤LL.length) (hsz:∀y∈LL,V.size y=33) (hl:sg.length < 1000000)
  (hx:∀(low:Int) (j:Nat) ts L,risesB n 0 (sg.map (·.1))=true→QQ (.exit 0) ⟨[none,some (.v (.int .i64 n)),none,none,none,some (.v (.int .i64 low)),none,none,some (.v (.sob id 33 0 sg.length c)),some (.v (.int .i64 (sg.length:Nat))),some (.v (.int .i64 (j:Nat)))],ts,L,G⟩)
  (hr:∀σ:St,σ.G=G→St.ev σ (.v 4)=some (.v (.bool false))→risesB n 0 (sg.map (·.1))=false→QQ .ret σ):
  ∀(r:List (Int×List Int)) (j:Nat) (low:Int) L,sg.drop j=r→j≤sg.length→risesB n 0 (sg.map (·.1))=risesB n low (r.map (·.1))→WL (W E C lp53_0) [1,5,8,9,10] QQ (r.length+1) ⟨[none,some (.v (.int .i64 n)),none,none,none,some (.v (.int .i64 low)),none,none,some (.v (.sob id 33 0 sg.length c)),some (.v (.int .i64 (sg.length:Nat))),some (.v (.int .i64 (j:Nat)))],[],L,G⟩:=by
 intro r
 induction r with
 |nil=>
  intro j low L h1 h2 h3
  have:=drop_none h1
  have c1:¬(j:Int) < (sg.length:Int):=by omega
  refine WL_in lp53_0.eq_1 ?_
  simp (maxSteps:=1000000) (implicitDefEqProofs:=false) only[c1,go_sem,↓reduceIte]
  exact hx _ _ _ _ h3
 |cons p r ih=>
  intro j low L h1 h2 h3
  obtain⟨hd,hj,hlen⟩:=drop_one h1
  have g:=hLL j p (at_drop2 h1)
  have c1:(j:Int) < (sg.length:Int):=by omega
  have c2:(0:Int)≤(j:Int):=by omega
  have w1:IntKind.i64.wrap ((j:Int)+1)=((j+1:Nat):Int):=wc (by omega) (by omega)
  obtain⟨p1,p2⟩:=p
  rw[List.map_cons]at h3
  refine WL_in lp53_0.eq_1 ?_
  by_cases r1:p1≤low
  ·simp (maxSteps:=1000000) (implicitDefEqProofs:=false) only[c1,c2,hG,g,sgV,w1,Int.toNat_natCast,List.length_map,r1,go_sem,↓reduceIte]
   refine And.intro ⟨by omega,hsz⟩ <| hr _ rfl rfl ?_
   rw[h3];exact if_pos (.inl r1)
  ·by_cases r2:n < p1
   ·simp (maxSteps:=1000000) (implicitDefEqProofs:=false) only[c1,c2,hG,g,sgV,w1,Int.toNat_natCast,List.length_map,r1,r2,go_sem,↓reduceIte]
    refine And.intro ⟨by omega,hsz⟩ <| hr _ rfl rfl ?_
    rw[h3];exact if_pos (.inr r2)
   ·simp (maxSteps:=1000000) (implicitDefEqProofs:=false) only[c1,c2,hG,g,sgV,w1,Int.toNat_natCast,List.length_map,r1,r2,go_sem,↓reduceIte]
    refine And.intro ⟨by omega,hsz⟩ <| ih (j+1) p1 _ hd (by omega) ?_
    rw[h3];exact if_neg (by omega)
theorem walk53s {n:Int} {sg:List (Int×List Int)} {id c:Nat} {LL:List V} (hG:Abs.look G id=some (.agg LL)) (hLL:∀(i:Nat) p,sg[i]? =some p→LL[i]? =some (sgV p)) (hfl:sg.length≤LL.length) (hsz:∀y∈LL,V.size y=33) (hl:sg.length < 1000000) (h:Q (.v (.bool (risesB n 0 (sg.map (·.1))))) G):Wf E C pf53 [.sob id 33 0 sg.length c,.int .i64 n] G Q:=by
 simp (maxSteps:=1000000) (implicitDefEqProofs:=false) only[pf53,List.length_map,go_sem,↓reduceIte]
 refine⟨sg.length+1,?_⟩
 refine loop53s hG hLL hfl hsz hl (fun low j ts L e=> ?_) (fun σ e1 e2 e3=> ?_) sg 0 0 [] rfl (Nat.zero_le _) rfl
 ·simp (maxSteps:=1000000) (implicitDefEqProofs:=false) only[go_sem,↓reduceIte]
  rw[e]at h;exact h
 ·show resQ Q σ.G (rD (St.ev σ (.v 4)))
  rw[e1,e2,←e3];exact h
theorem walk53n {n:Int} (h:Q (.v (.bool true)) G):Wf E C pf53 [.nils,.int .i64 n] G Q:=by
 simp (maxSteps:=1000000) (implicitDefEqProofs:=false) only[pf53,go_sem,↓reduceIte]
 refine⟨1,?_⟩
 refine WL_in lp53_0.eq_1 ?_
 simp (maxSteps:=1000000) (implicitDefEqProofs:=false) only[go_sem,↓reduceIte]
 exact h
def rowI:List Int→V
 |[]=> .nils
 |x::l=> .sli .i64 (x::l)
theorem rowI_if {l:List Int} {sg:List (Int×List Int)} (h:l=sg.map (·.1)):rowI l=if sg=[]then .nils else .sli .i64 (sg.map (·.1)):=by
 subst h;cases sg<;>rfl
theorem loop52 {QQ:Ex→St→Prop} {sg:List (Int×List Int)} (hl:sg.length < 1000000)
  (hx:∀(j:Nat) pre ts L,pre=sg.map (·.1)→QQ (.exit 0) ⟨[none,none,none,some (.own (rowI pre)),none,none,none,some (.v (.sle 33 (sg.map sgV))),some (.v (.int .i64 (sg.length:Nat))),some (.v (.int .i64 (j:Nat)))],ts,L,G⟩):
  ∀(r:List (Int×List Int)) (j:Nat) (pre:List Int) L,sg.drop j=r→j≤sg.length→pre=(sg.take j).map (·.1)→WL (W E C lp52_0) [3,7,8,9] QQ (r.length+1) ⟨[none,none,none,some (.own (rowI pre)),none,none,none,some (.v (.sle 33 (sg.map sgV))),some (.v (.int .i64 (sg.length:Nat))),some (.v (.int .i64 (j:Nat)))],[],L,G⟩:=by
 intro r
 induction r with
 |nil=>
  intro j pre L h1 h2 h3
  have:=drop_none h1
  have c1:¬(j:Int) < (sg.length:Int):=by omega
  refine WL_in lp52_0.eq_1 ?_
  simp (maxSteps:=1000000) (implicitDefEqProofs:=false) only[c1,go_sem,↓reduceIte]
  exact hx _ _ _ _ (by rw[h3,List.take_of_length_le this])
 |cons p r ih=>
  intro j pre L h1 h2 h3
  obtain⟨hd,hj,hlen⟩:=drop_one h1
  have g:=getD_sg h1
  have c1:(j:Int) < (sg.length:Int):=by omega
  have c2:(0:Int)≤(j:Int):=by omega
  have w1:IntKind.i64.wrap ((j:Int)+1)=((j+1:Nat):Int):=wc (by omega) (by omega)
  have hpl:pre.length=j:=by rw[h3,List.length_map,List.length_take];omega
  have h3':pre++[p.1]=(sg.take (j+1)).map (·.1):=by
   have:sg[j]? =some p:=by
    have:(sg.drop j)[0]? =some p:=by rw[h1];rfl
    rwa [List.getElem?_drop,Nat.add_zero]at this
   rw[List.take_add_one,this,h3];simp
  obtain⟨p1,p2⟩:=p
  refine WL_in lp52_0.eq_1 ?_
  cases pre with
  |nil=>
   simp (maxSteps:=1000000) (implicitDefEqProofs:=false) only[c1,c2,g,sgV,w1,Int.toNat_natCast,List.length_map,rowI,go_sem,↓reduceIte]
   exact ih (j+1) [p1] _ hd (by omega) h3'
  |cons x pre=>
   simp (maxSteps:=1000000) (implicitDefEqProofs:=false) only[c1,c2,g,sgV,w1,Int.toNat_natCast,List.length_map,rowI,go_sem,↓reduceIte]
   refine⟨by simp at hpl;omega,ih (j+1) (x::(pre++[p1])) _ hd (by omega) h3'⟩
theorem walk52 {c:CertS} (hl:c.sigs.length < 1000000) (h:Q (.own (if c.sigs=[]then .nils else .sli .i64 (c.sigs.map (·.1)))) G):Wf E C pf52 [c.v] G Q:=by
 obtain⟨⟨a1,a2,a3,a4,a5,a6,a7,a8⟩,sg⟩:=c
 simp (maxSteps:=1000000) (implicitDefEqProofs:=false) only[pf52,List.length_map,CertS.v,AttS.v,go_sem,↓reduceIte]
 refine⟨sg.length+1,?_⟩
 refine loop52 hl (fun j pre ts L e=> ?_) sg 0 [] _ rfl (Nat.zero_le _) rfl
 simp (maxSteps:=1000000) (implicitDefEqProofs:=false) only[go_sem,↓reduceIte]
 rw[rowI_if e];exact h
noncomputable def TT2:List (Nat×Spec1):=[(55,ZCr K256)]
def IsSg (y:V):Prop:=∃p:Int×List Int,y=sgV p∧I64 p.1∧H32 p.2
def ofSg:V→Int×List Int
 | .agg [.int _ a,.arr _ _ b]=>(a,b)
 |_=>(0,[])
theorem pred_sg {id:Nat} {c:CertS} (hG:Abs.look G id=some c.v) (hc:c.att.wf):PredFn TT2 55 [.ptr id] G IsSg (fun y=> !((withS c.att (ofSg y)).right K256)):=by
 refine⟨⟨ZCr K256,rfl⟩,?_⟩
 rintro _ Q ⟨p,rfl,h1,h2⟩ h
 exact⟨c,p,⟨hG,rfl,hc,h1,h2⟩,h⟩
theorem sg_any {a:AttS} {kt:List Int} {sg:List (Int×List Int)}:(!((sg.map sgV).any fun y=> !((withS a (ofSg y)).right kt)))=sg.all fun p=>(withS a p).right kt:=by
 induction sg with
 |nil=>rfl
 |cons p sg ih=>rw[List.map_cons,List.any_cons,List.all_cons,←ih,Bool.not_or,Bool.not_not];rfl
def ZRi (kt:List Int):Spec1
 |[.int .i64 n,x],G,Q=>∃c:CertS,(x=c.v∧c.wf∧c.sigs.length < 1000000∧I64 n)∧Q (.v (.bool (c.right kt n))) G
 |_,_,_=>False
theorem ZRi_eq {kt n x}:ZRi kt [.int .i64 n,x] G Q=(∃c:CertS,(x=c.v∧c.wf∧c.sigs.length < 1000000∧I64 n)∧Q (.v (.bool (c.right kt n))) G):=rfl
theorem walk15 (hQ:Abs.look l 44=some ZQu) (hS:Abs.look l 53=some ZRs) (hC:Abs.look l 54=some (ZCy TT2)) {n:Int} {c:CertS} (hw:c.wf) (hl:c.sigs.length < 1000000) (hI:I64 n) (h:Q (.v (.bool (c.right K256 n))) G):
  Wf E (specOf l) pf15 [.int .i64 n,c.v] G (fun r G'=>∃r2 G2,Low G r G' r2 G2∧Q r2 G2):=by
 obtain⟨⟨a1,a2,a3,a4,a5,a6,a7,a8⟩,sg⟩:=c
 have hw':=hw
 obtain⟨hwa,hws⟩:=hw
 simp (maxSteps:=1000000) (implicitDefEqProofs:=false) only[pf15,CertS.v,AttS.v,go_sem,↓reduceIte]
 refine fun i3 hi3=> ?_
 have g3:Abs.look ((i3,V.agg [.agg [.int .i64 a1,.int .i64 a2,.int .i64 a3,.int .i64 a4,.arr .u8 32 a5,.int .i64 a6,.arr .u8 32 a7,.arr .u8 32 a8],.sle 33 (sg.map sgV)])::G) i3=some (V.agg [.agg [.int .i64 a1,.int .i64 a2,.int .i64 a3,.int .i64 a4,.arr .u8 32 a5,.int .i64 a6,.arr .u8 32 a7,.arr .u8 32 a8],.sle 33 (sg.map sgV)]):=by rw[look_cons,if_pos rfl]
 have he:Ext G ((i3,V.agg [.agg [.int .i64 a1,.int .i64 a2,.int .i64 a3,.int .i64 a4,.arr .u8 32 a5,.int .i64 a6,.arr .u8 32 a7,.arr .u8 32 a8],.sle 33 (sg.map sgV)])::G):=Ext.cons hi3
 generalize ((i3,V.agg [.agg [.int .i64 a1,.int .i64 a2,.int .i64 a3,.int .i64 a4,.arr .u8 32 a5,.int .i64 a6,.arr .u8 32 a7,.arr .u8 32 a8],.sle 33 (sg.map sgV)])::G)=G1 at g3 he⊢
 have fin:∀b,CertS.right K256 n ⟨⟨a1,a2,a3,a4,a5,a6,a7,a8⟩,sg⟩=b→∃r2 G2,Low G (.v (.bool b)) G1 r2 G2∧Q r2 G2:=fun b e=>⟨_,_,Low.dropAll he,by rw[←e];exact h⟩
 have no:(quo n=0∨(sg.length:Int)≠quo n∨risesB n 0 (sg.map (·.1))=false∨a1≠0∨a8≠zero32)→CertS.right K256 n ⟨⟨a1,a2,a3,a4,a5,a6,a7,a8⟩,sg⟩=false:=fun h=>if_pos h
 simp (maxSteps:=1000000) (implicitDefEqProofs:=false) only[hQ,ZQu_eq,g3,go_sem,↓reduceIte]
 refine⟨hI,?_⟩
 by_cases q0:quo n=0
 ·simp (maxSteps:=1000000) (implicitDefEqProofs:=false) only[q0,g3,go_sem,↓reduceIte]
  exact fin _ (no (.inl q0))
 by_cases q1:(sg.length:Int)=quo n
 case neg=>
  simp (maxSteps:=1000000) (implicitDefEqProofs:=false) only[q0,q1,g3,List.length_map,go_sem,↓reduceIte]
  exact fin _ (no (.inr (.inl q1)))
 simp (maxSteps:=1000000) (implicitDefEqProofs:=false) only[q0,q1,g3,List.length_map,hS,ZRs_eq,go_sem,↓reduceIte]
 refine⟨sg,⟨rfl,hl⟩,?_⟩
 by_cases q2:risesB n 0 (sg.map (·.1))=true
 case neg=>
  simp (maxSteps:=1000000) (implicitDefEqProofs:=false) only[q2,g3,go_sem,↓reduceIte]
  exact fin _ (no (.inr (.inr (.inl (by simpa using q2)))))
 by_cases q3:a1=0
 case neg=>
  simp (maxSteps:=1000000) (implicitDefEqProofs:=false) only[q2,q3,g3,go_sem,↓reduceIte]
  exact fin _ (no (.inr (.inr (.inr (.inl q3)))))
 simp (maxSteps:=1000000) (implicitDefEqProofs:=false) only[q2,q3,g3,go_sem,↓reduceIte]
 refine⟨fun q4=>fin _ (no (.inr (.inr (.inr (.inr (fun e=> ?_)))))),fun q4=> ?_⟩
 ·rw[e]at q4;exact absurd q4 (by decide)
 have q4:a8=zero32:=eq_of_beq q4
 simp (maxSteps:=1000000) (implicitDefEqProofs:=false) only[hC,ZCy_eq,go_sem,↓reduceIte]
 refine⟨_,_,.agg [.int .i64 0,.arr .u8 32 zero32],⟨fun y hy=> ?_,⟨fun y hy=> ?_⟩,by rw[List.length_map];exact Nat.lt_trans hl (by decide),pred_sg (c:=⟨⟨a1,a2,a3,a4,a5,a6,a7,a8⟩,sg⟩) g3 hwa⟩,?_⟩
 ·obtain⟨p,hp,rfl⟩:=List.mem_map.1 hy
  exact⟨p,rfl,hws p hp⟩
 ·obtain⟨p,hp,rfl⟩:=List.mem_map.1 hy
  exact⟨rfl,rfl,rfl⟩
 simp (maxSteps:=1000000) (implicitDefEqProofs:=false) only[go_sem,↓reduceIte]
 refine fin _ (Eq.trans (if_neg ?_) sg_any.symm)
 rintro (e|e|e|e|e)
 ·exact q0 e
 ·exact e q1
 ·rw[q2]at e;cases e
 ·exact e q3
 ·exact e q4
end Go.Proofs.YtegamlopcdjiaaaDoor.Sha
namespace Go.Proofs.YtegamlopcdjiaaaDoor.Sha
open Go Go.Abs Go.Abs.Sha Go.Abs.Srt
set_option linter.unusedSimpArgs false
set_option linter.unusedVariables false
set_option maxRecDepth 100000
def pf14:PF:=
 PF.mk 0 6 42 ((PC.reg [nn (.v 0) (.mv true (.c (.v (.bool false))))]).seq ((PC.reg [nn (.t 6) (.build (.agg [.int .i64 0,.int .i64 0,.int .i64 0,
  .int .i64 0,.arr .u8 32 [0,0,0,0,0,0,0,0,0,0,0,0,0,0,0,0,0,0,0,0,0,0,0,0,0,0,0,0,0,0,0,0],.int .i64 0,.arr .u8 32
  [0,0,0,0,0,0,0,0,0,0,0,0,0,0,0,0,0,0,0,0,0,0,0,0,0,0,0,0,0,0,0,0],.arr .u8 32 [0,0,0,0,0,0,0,0,0,0,0,0,0,
  0,0,0,0,0,0,0,0,0,0,0,0,0,0,0,0,0,0,0]]) [(0,.c (.v (.int .i64 2))),(1,.c (.v (.int .i64 2))),(2,.c (.v (.int .i64 3))),(3,
  .c (.v (.int .i64 2)))]),nn (.v 1) (.alloc (.agg [.int .i64 0,.int .i64 0,.int .i64 0,.int .i64 0,.arr .u8 32 [0,0,0,0,0,0,0,0,0,0,0,
  0,0,0,0,0,0,0,0,0,0,0,0,0,0,0,0,0,0,0,0,0],.int .i64 0,.arr .u8 32 [0,0,0,0,0,0,0,0,0,0,0,0,0,0,0,0,0,0,0,0,
  0,0,0,0,0,0,0,0,0,0,0,0],.arr .u8 32 [0,0,0,0,0,0,0,0,0,0,0,0,0,0,0,0,0,0,0,0,0,0,0,0,0,0,0,0,0,0,0,0]])),
  nn .no (.store 101 (.v 1) (.t 6))]).seq ((PC.reg [nn (.t 7) (.load 101 true (.v 1)),nn (.v 2) (.alloc (.agg [.int .i64 0,.int .i64 0,.int .i64 0,
  .int .i64 0,.arr .u8 32 [0,0,0,0,0,0,0,0,0,0,0,0,0,0,0,0,0,0,0,0,0,0,0,0,0,0,0,0,0,0,0,0],.int .i64 0,.arr .u8 32
  [0,0,0,0,0,0,0,0,0,0,0,0,0,0,0,0,0,0,0,0,0,0,0,0,0,0,0,0,0,0,0,0],.arr .u8 32 [0,0,0,0,0,0,0,0,0,0,0,0,0,
  0,0,0,0,0,0,0,0,0,0,0,0,0,0,0,0,0,0,0]])),nn .no (.store 101 (.v 2) (.t 7))]).seq ((PC.reg [nn (.t 8) (.fadr 0 0 (.v 2)),nn .no
  (.store 1 (.t 8) (.c (.v (.int .i64 1))))]).seq ((PC.regD 1 [nn (.t 10) (.load 101 true (.v 1)),nn (.t 11) (.call 43 [.t 10]),nn (.t 12) (.load 101
  true (.v 2)),nn (.t 13) (.call 43 [.t 12]),nn (.t 14) (.buildS none 101 (.agg [.int .i64 0,.int .i64 0,.int .i64 0,.int .i64 0,.arr .u8 32 [0,
  0,0,0,0,0,0,0,0,0,0,0,0,0,0,0,0,0,0,0,0,0,0,0,0,0,0,0,0,0,0,0],.int .i64 0,.arr .u8 32 [0,0,0,0,0,0,0,0,0,0,
  0,0,0,0,0,0,0,0,0,0,0,0,0,0,0,0,0,0,0,0,0,0],.arr .u8 32 [0,0,0,0,0,0,0,0,0,0,0,0,0,0,0,0,0,0,0,0,0,0,0,
  0,0,0,0,0,0,0,0,0]]) 2 [(0,.t 11),(1,.t 13)]),nn (.t 15) (.call 51 [.c (.v (.int .i64 3)),.t 14]),nn (.t 9) (.mv false (.t 15)),nn (.t
  16) (.ext (.t 9) 0),nn (.t 17) (.ext (.t 9) 1),nn (.v 3) (.allocAt 1 (.agg [.agg [.int .i64 0,.int .i64 0,.int .i64 0,.int .i64 0,.arr .u8 32
  [0,0,0,0,0,0,0,0,0,0,0,0,0,0,0,0,0,0,0,0,0,0,0,0,0,0,0,0,0,0,0,0],.int .i64 0,.arr .u8 32 [0,0,0,0,0,0,0,0,
  0,0,0,0,0,0,0,0,0,0,0,0,0,0,0,0,0,0,0,0,0,0,0,0],.arr .u8 32 [0,0,0,0,0,0,0,0,0,0,0,0,0,0,0,0,0,0,0,0,0,
  0,0,0,0,0,0,0,0,0,0,0]],.nils])),nn .no (.store 102 (.v 3) (.t 16)),ma 4 17] [(0,9),(2,9)]).seq ((PC.reg [nn (.t 18) (.load 102 true
  (.v 3)),nn (.t 19) (.call 52 [.t 18]),ma 5 19]).seq ((PC.reg [mm 20 4,nn (.t 21) (.bin .eql (.t 20) (.c (.v (.int .i64 0)))),nn (.t 22) (.mv
  false (.t 21)),⟨.t 23,.load 102 true (.v 3),some (.t 22,true)⟩,⟨.t 24,.call 15 [.c (.v (.int .i64 3)),.t 23],some (.t 22,true)⟩,nn (.t 25)
  (.pick (.t 22) (.t 24) (.c (.v (.bool false)))),nn (.t 26) (.mv false (.t 25)),⟨.t 27,.load 102 true (.v 3),some (.t 26,true)⟩,⟨.t 28,.call 15
  [.c (.v (.int .i64 5)),.t 27],some (.t 26,true)⟩,⟨.t 29,.un .not (.t 28),some (.t 26,true)⟩,nn (.t 30) (.pick (.t 26) (.t 29) (.c (.v (.bool
  false)))),nn (.t 31) (.mv false (.t 30)),gm 32 5 31 true,⟨.t 33,.len (.t 32),some (.t 31,true)⟩,⟨.t 34,.bin .eql (.t 33) (.c (.v (.int .i64
  2))),some (.t 31,true)⟩,nn (.t 35) (.pick (.t 31) (.t 34) (.c (.v (.bool false)))),nn (.t 36) (.mv false (.t 35)),gm 37 5 36 true,⟨.t 38,
  .iadrS 1 (.t 37) (.c (.v (.int .i64 0))),some (.t 36,true)⟩,⟨.t 39,.load 1 false (.t 38),some (.t 36,true)⟩,⟨.t 40,.bin .eql (.t 39) (.c (.v
  (.int .i64 1))),some (.t 36,true)⟩,nn (.t 41) (.pick (.t 36) (.t 40) (.c (.v (.bool false)))),ma 0 41]).seq PC.ret))))))) [(.v 0,none)]
attribute [local irreducible] W Wops WopsD WL Wop WopD
variable {E:Env} {C:Abs.Spec} {l:List (Nat×Spec1)} {G:List (Nat×V)} {Q:R→List (Nat×V)→Prop}
set_option maxHeartbeats 1000000
theorem look_mem {α:Type} {f:Nat} {s:α}:∀{l:List (Nat×α)},Abs.look l f=some s→(f,s)∈l
 |[],h=>by cases h
 |(k,x)::l,h=>by
  rw[look_cons]at h
  by_cases e:f=k
  ·rw[if_pos e]at h;cases h;rw[e];exact List.mem_cons_self ..
  ·rw[if_neg e]at h;exact List.mem_cons_of_mem _ (look_mem h)
theorem sub_of {T l:List (Nat×Spec1)} (h:∀p∈T,Abs.look l p.1=some p.2):Sub T l:=fun f s hf=>h (f,s) (look_mem hf)
def att1 (k:Int):AttS:=⟨k,2,3,2,zero32,0,zero32,zero32⟩
theorem right_signed {kt:List Int} {a:AttS}:(a.signed kt).right kt=a.may:=by
 unfold AttS.right AttS.signed
 have e:({ a with ta:=a.tag kt }:AttS).may=a.may:=rfl
 have t:({ a with ta:=a.tag kt }:AttS).tag kt=a.tag kt:=rfl
 rw[e,t,decide_eq_true rfl,Bool.and_true]
theorem may1:(att1 1).may=true:=by decide
theorem may2:(att1 2).may=true:=by decide
theorem aw_cert {kt:List Int}:mkCert kt 3 [(att1 2).signed kt,(att1 1).signed kt]=(⟨att1 0,[(1,(att1 1).tag kt),(2,(att1 2).tag kt)]⟩,0):=by
 have q:quo 3=2:=by decide
 have q0:¬(2:Int)=0:=by decide
 have c1:([(att1 2).signed kt,(att1 1).signed kt].any fun x=> !(x.right kt)||decide (3 < x.who))=false:=by
  simp only[List.any_cons,List.any_nil,right_signed,may1,may2];rfl
 have c2:([(att1 2).signed kt,(att1 1).signed kt].any fun x=> !(x.alike ((att1 2).signed kt)))=false:=rfl
 have c3:¬((firstsA 3 [(att1 2).signed kt,(att1 1).signed kt]).length:Int) < 2:=by
  show ¬((2:Nat):Int) < 2
  decide
 unfold mkCert
 simp only[q,q0,c1,c2,c3,Bool.false_eq_true,↓reduceIte]
 rfl
theorem aw_3 {kt:List Int}:CertS.right kt 3 ⟨att1 0,[(1,(att1 1).tag kt),(2,(att1 2).tag kt)]⟩=true:=by
 have e1:withS (att1 0) (1,(att1 1).tag kt)=(att1 1).signed kt:=rfl
 have e2:withS (att1 0) (2,(att1 2).tag kt)=(att1 2).signed kt:=rfl
 refine Eq.trans (if_neg ?_) ?_
 ·rintro (h|h|h|h|h)
  ·exact absurd h (by decide)
  ·exact h rfl
  ·exact absurd h (by show ¬risesB 3 0 [1,2]=false;decide)
  ·exact h rfl
  ·exact h rfl
 ·simp only[List.all_cons,List.all_nil,e1,e2,right_signed,may1,may2];rfl
theorem aw_5 {kt:List Int}:CertS.right kt 5 ⟨att1 0,[(1,(att1 1).tag kt),(2,(att1 2).tag kt)]⟩=false:=by
 exact if_pos (.inr (.inl (by show ((2:Nat):Int)≠quo 5;decide)))
def ZAw:Spec1
 |[],G,Q=>Q (.v (.bool true)) G
 |_,_,_=>False
theorem ZAw_eq:ZAw [] G Q=Q (.v (.bool true)) G:=rfl
theorem walk14 (hS:Abs.look l 43=some (SSi K256)) (hM:Abs.look l 51=some (ZMk K256)) (hR:Abs.look l 15=some (ZRi K256)) (hG:Abs.look l 52=some ZSg) (h:Q (.v (.bool true)) G):Wf E (specOf l) pf14 [] G Q:=by
 simp (maxSteps:=1000000) (implicitDefEqProofs:=false) only[pf14,hS,SSi_eq,go_sem,↓reduceIte]
 have s2:(AttS.sign K256 ⟨2,2,3,2,[0,0,0,0,0,0,0,0,0,0,0,0,0,0,0,0,0,0,0,0,0,0,0,0,0,0,0,0,0,0,0,0],0,[0,0,0,0,0,0,0,0,0,0,0,0,0,0,0,0,0,0,0,0,0,0,0,0,0,0,0,0,0,0,0,0],[0,0,0,0,0,0,0,0,0,0,0,0,0,0,0,0,0,0,0,0,0,0,0,0,0,0,0,0,0,0,0,0]⟩).v= .agg [.int .i64 2,.int .i64 2,.int .i64 3,.int .i64 2,.arr .u8 32 [0,0,0,0,0,0,0,0,0,0,0,0,0,0,0,0,0,0,0,0,0,0,0,0,0,0,0,0,0,0,0,0],.int .i64 0,.arr .u8 32 [0,0,0,0,0,0,0,0,0,0,0,0,0,0,0,0,0,0,0,0,0,0,0,0,0,0,0,0,0,0,0,0],.arr .u8 32 ((att1 2).tag K256)]:=by
  show (AttS.sign K256 (att1 2)).v=_
  unfold AttS.sign;rw[if_pos may2];rfl
 have s1:(AttS.sign K256 ⟨1,2,3,2,[0,0,0,0,0,0,0,0,0,0,0,0,0,0,0,0,0,0,0,0,0,0,0,0,0,0,0,0,0,0,0,0],0,[0,0,0,0,0,0,0,0,0,0,0,0,0,0,0,0,0,0,0,0,0,0,0,0,0,0,0,0,0,0,0,0],[0,0,0,0,0,0,0,0,0,0,0,0,0,0,0,0,0,0,0,0,0,0,0,0,0,0,0,0,0,0,0,0]⟩).v= .agg [.int .i64 1,.int .i64 2,.int .i64 3,.int .i64 2,.arr .u8 32 [0,0,0,0,0,0,0,0,0,0,0,0,0,0,0,0,0,0,0,0,0,0,0,0,0,0,0,0,0,0,0,0],.int .i64 0,.arr .u8 32 [0,0,0,0,0,0,0,0,0,0,0,0,0,0,0,0,0,0,0,0,0,0,0,0,0,0,0,0,0,0,0,0],.arr .u8 32 ((att1 1).tag K256)]:=by
  show (AttS.sign K256 (att1 1)).v=_
  unfold AttS.sign;rw[if_pos may1];rfl
 have wz:∀k,I64 k→(att1 k).wf:=fun k hk=>⟨hk,(by decide:I64 2),(by decide:I64 3),(by decide:I64 2),(by decide:I64 0),h32_zero,h32_zero,h32_zero⟩
 refine⟨wz 2 (by decide),wz 1 (by decide),?_⟩
 simp (maxSteps:=1000000) (implicitDefEqProofs:=false) only[s1,s2,hM,ZMk_eq,go_sem,↓reduceIte]
 refine⟨[(att1 2).signed K256,(att1 1).signed K256],⟨rfl,by decide,fun a ha=> ?_,by decide⟩,?_⟩
 ·rcases List.mem_cons.1 ha with rfl|ha
  ·exact AttS.signed_wf (wz 2 (by decide))
  ·rw[List.mem_singleton]at ha;subst ha;exact AttS.signed_wf (wz 1 (by decide))
 rw[aw_cert]
 have cw:CertS.wf ⟨att1 0,[(1,(att1 1).tag K256),(2,(att1 2).tag K256)]⟩:=by
  refine⟨wz 0 (by decide),fun p hp=> ?_⟩
  rcases List.mem_cons.1 hp with rfl|hp
  ·exact⟨(by decide:I64 1),h32_tag K256 (att1 1)⟩
  ·rw[List.mem_singleton]at hp;subst hp;exact⟨(by decide:I64 2),h32_tag K256 (att1 2)⟩
 have q1:(⟨att1 0,[(1,(att1 1).tag K256),(2,(att1 2).tag K256)]⟩:CertS).v.size=102:=rfl
 have q2:(⟨att1 0,[(1,(att1 1).tag K256),(2,(att1 2).tag K256)]⟩:CertS).v.isAgg=true:=rfl
 have q3:(⟨att1 0,[(1,(att1 1).tag K256),(2,(att1 2).tag K256)]⟩:CertS).v.same (.agg [.agg [.int .i64 0,.int .i64 0,.int .i64 0,.int .i64 0,.arr .u8 32 [0,0,0,0,0,0,0,0,0,0,0,0,0,0,0,0,0,0,0,0,0,0,0,0,0,0,0,0,0,0,0,0],.int .i64 0,.arr .u8 32 [0,0,0,0,0,0,0,0,0,0,0,0,0,0,0,0,0,0,0,0,0,0,0,0,0,0,0,0,0,0,0,0],.arr .u8 32 [0,0,0,0,0,0,0,0,0,0,0,0,0,0,0,0,0,0,0,0,0,0,0,0,0,0,0,0,0,0,0,0]],.nils])=true:=rfl
 have r3:CertS.right K256 3 _=true:=aw_3
 have r5:CertS.right K256 5 _=false:=aw_5
 have sg:(if (⟨att1 0,[(1,(att1 1).tag K256),(2,(att1 2).tag K256)]⟩:CertS).sigs=[]then V.nils else V.sli .i64 ((⟨att1 0,[(1,(att1 1).tag K256),(2,(att1 2).tag K256)]⟩:CertS).sigs.map (·.1)))= .sli .i64 [1,2]:=rfl
 have ln:(⟨att1 0,[(1,(att1 1).tag K256),(2,(att1 2).tag K256)]⟩:CertS).sigs.length < 1000000:=by show 2 < 1000000;decide
 generalize (⟨att1 0,[(1,(att1 1).tag K256),(2,(att1 2).tag K256)]⟩:CertS)=c at*
 unfold V.isAgg at q2
 simp (maxSteps:=1000000) (implicitDefEqProofs:=false) only[hG,ZSg_eq,q1,q2,q3,go_sem,↓reduceIte]
 refine⟨c,⟨rfl,ln⟩,?_⟩
 rw[sg]
 simp (maxSteps:=1000000) (implicitDefEqProofs:=false) only[hR,ZRi_eq,q1,q2,q3,go_sem,↓reduceIte]
 refine⟨c,⟨rfl,cw,ln,by decide⟩,?_⟩
 rw[r3]
 simp (maxSteps:=1000000) (implicitDefEqProofs:=false) only[hR,ZRi_eq,q1,q2,q3,go_sem,↓reduceIte]
 refine⟨c,⟨rfl,cw,ln,by decide⟩,?_⟩
 rw[r5]
 simp (maxSteps:=1000000) (implicitDefEqProofs:=false) only[go_sem,↓reduceIte]
 exact h
end Go.Proofs.YtegamlopcdjiaaaDoor.Sha
