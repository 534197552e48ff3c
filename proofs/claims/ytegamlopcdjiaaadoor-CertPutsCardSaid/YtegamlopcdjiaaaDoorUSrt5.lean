/- Rows, certificates, accumulations. -/
import Derived.Test.YtegamlopcdjiaaaDoorUSrt4
namespace Go.Proofs.YtegamlopcdjiaaaDoor.Sha
open Go Go.Abs Go.Abs.Sha Go.Abs.Srt
set_option linter.unusedSimpArgs false
set_option linter.unusedVariables false
set_option maxRecDepth 100000
def lp112_0:PC:=
 ((PC.reg [mm 33 8,mm 34 1,nn (.t 35) (.bin .leq (.t 33) (.t 34))]).seq (PC.cond (.t 35) PC.skip (PC.exit 4))).seq (PC.block 5 ((PC.reg [mm 36 0,mm
  37 7,mm 38 7,mm 39 6,nn (.t 40) (.bin .add (.t 38) (.t 39)),mm 41 8,mm 42 2,nn (.t 43) (.call 122 [.t 36,.t 37,.t 40,.t 41,.t 42])]).seq
  ((PC.reg [nn (.t 44) (.mv true (.v 8)),ma 7 44]).seq (PC.reg [mm 45 8,mm 46 6,nn (.t 47) (.bin .mul (.c (.v (.int .i64 2))) (.t 46)),nn (.t 48)
  (.bin .add (.t 45) (.t 47)),ma 8 48]))))
def lp112_1:PC:=
 ((PC.reg [mm 28 6,mm 29 1,nn (.t 30) (.bin .lss (.t 28) (.t 29))]).seq (PC.cond (.t 30) PC.skip (PC.exit 2))).seq (PC.block 3 ((PC.reg [mm 31 6,nn
  (.t 32) (.bin .mul (.c (.v (.int .i64 2))) (.t 31)),nn (.v 7) (.mv true (.c (.v (.int .i64 0)))),ma 8 32]).seq ((PC.block 4 (PC.loop [0,1,2,6,
  7,8] lp112_0)).seq (((PC.reg [mm 49 7,mm 50 6,nn (.t 51) (.bin .add (.t 49) (.t 50)),ma 9 51]).seq ((PC.reg [mm 52 9,mm 53 1,nn (.t 54) (.bin
  .lss (.t 52) (.t 53))]).seq (PC.cond (.t 54) (PC.reg [mm 55 0,mm 56 7,mm 57 9,mm 58 1,mm 59 2,nn (.t 60) (.call 122 [.t 55,.t 56,.t 57,.t 58,
  .t 59])]) PC.skip))).seq (PC.reg [mm 61 6,nn (.t 62) (.bin .mul (.t 61) (.c (.v (.int .i64 2)))),ma 6 62])))))
def lp112_2:PC:=
 ((PC.reg [mm 11 8,mm 12 1,nn (.t 13) (.bin .leq (.t 11) (.t 12))]).seq (PC.cond (.t 13) PC.skip (PC.exit 0))).seq (PC.block 1 ((PC.reg [mm 14 0,mm
  15 7,mm 16 8,mm 17 2,nn (.t 18) (.call 121 [.t 14,.t 15,.t 16,.t 17])]).seq ((PC.reg [nn (.t 19) (.mv true (.v 8)),ma 7 19]).seq (PC.reg [mm
  20 8,mm 21 6,nn (.t 22) (.bin .add (.t 20) (.t 21)),ma 8 22]))))
def pf112:PF:=
 PF.mk 3 10 63 ((PC.reg [nn (.v 6) (.mv true (.c (.v (.int .i64 20))))]).seq ((PC.reg [mm 10 6,nn (.v 7) (.mv true (.c (.v (.int .i64 0)))),ma 8
  10]).seq ((PC.block 0 (PC.loop [0,1,2,6,7,8] lp112_2)).seq ((PC.reg [mm 23 0,mm 24 7,mm 25 1,mm 26 2,nn (.t 27) (.call 121 [.t 23,.t 24,.t
  25,.t 26])]).seq (PC.block 2 (PC.loop [0,1,2,6] lp112_1)))))) []
def pf92:PF:=
 PF.mk 2 2 9 (PC.reg [mm 4 0,mm 5 0,nn (.t 6) (.len (.t 5)),mm 7 1,nn (.t 8) (.call 112 [.t 4,.t 6,.t 7])]) []
def lp95_0:PC:=
 ((PC.reg [mm 32 7,mm 33 6,nn (.t 34) (.len (.t 33)),nn (.t 35) (.bin .lss (.t 32) (.t 34))]).seq (PC.cond (.t 35) PC.skip (PC.exit 2))).seq
  ((PC.block 3 ((PC.regD 0 [mm 38 1,mm 39 6,mm 40 7,nn (.t 41) (.iadrS 101 (.t 39) (.t 40)),nn (.t 42) (.load 101 true (.t 41)),mm 43 6,mm 44 7,
  nn (.t 45) (.bin .sub (.t 44) (.c (.v (.int .i64 1)))),nn (.t 46) (.iadrS 101 (.t 43) (.t 45)),nn (.t 47) (.load 101 true (.t 46)),nn (.t 48)
  (.callV (.t 38) [.t 42,.t 47]),nn (.t 49) (.un .not (.t 48))] []).seq (PC.cond (.t 49) ((PC.reg [mm 50 0,mm 51 5,mm 52 6,mm 53 7,nn (.t 54)
  (.iadrS 101 (.t 52) (.t 53)),nn (.t 55) (.load 101 true (.t 54)),nn (.t 56) (.iadrS 101 (.t 50) (.t 51)),nn .no (.store 101 (.t 56) (.t 55))]).seq
  (PC.reg [mm 57 5,nn (.t 58) (.bin .add (.t 57) (.c (.v (.int .i64 1)))),ma 5 58])) PC.skip))).seq (PC.reg [mm 36 7,nn (.t 37) (.bin .add (.t 36)
  (.c (.v (.int .i64 1)))),ma 7 37]))
def lp95_1:PC:=
 ((PC.reg [mm 12 5,mm 13 0,nn (.t 14) (.len (.t 13)),nn (.t 15) (.bin .lss (.t 12) (.t 14))]).seq (PC.cond (.t 15) PC.skip (PC.exit 0))).seq
  ((PC.block 1 ((PC.regD 0 [mm 18 1,mm 19 0,mm 20 5,nn (.t 21) (.iadrS 101 (.t 19) (.t 20)),nn (.t 22) (.load 101 true (.t 21)),mm 23 0,mm 24 5,
  nn (.t 25) (.bin .sub (.t 24) (.c (.v (.int .i64 1)))),nn (.t 26) (.iadrS 101 (.t 23) (.t 25)),nn (.t 27) (.load 101 true (.t 26)),nn (.t 28)
  (.callV (.t 18) [.t 22,.t 27])] []).seq (PC.cond (.t 28) ((PC.reg [mm 29 0,mm 30 5,nn (.t 31) (.slcS 101 (.t 29) (some (.t 30)) none none),ma 6
  31]).seq (((PC.reg [nn (.v 7) (.mv true (.c (.v (.int .i64 1))))]).seq (PC.block 2 (PC.loop [0,1,5,6,7] lp95_0))).seq ((PC.reg [mm 59 0,mm 60 5,
  nn (.t 61) (.slcS 101 (.t 59) (some (.t 60)) none none),nn .no (.clr 101 (.agg [.int .i64 0,.int .i64 0,.int .i64 0,.int .i64 0,.arr .u8 32 [0,
  0,0,0,0,0,0,0,0,0,0,0,0,0,0,0,0,0,0,0,0,0,0,0,0,0,0,0,0,0,0,0],.int .i64 0,.arr .u8 32 [0,0,0,0,0,0,0,0,0,0,
  0,0,0,0,0,0,0,0,0,0,0,0,0,0,0,0,0,0,0,0,0,0],.arr .u8 32 [0,0,0,0,0,0,0,0,0,0,0,0,0,0,0,0,0,0,0,0,0,0,0,
  0,0,0,0,0,0,0,0,0]]) (.t 61))]).seq ((PC.reg [mm 62 0,mm 63 5,nn (.t 64) (.slcS 101 (.t 62) none (some (.t 63)) none),ma 4 64]).seq
  PC.ret)))) PC.skip))).seq (PC.reg [mm 16 5,nn (.t 17) (.bin .add (.t 16) (.c (.v (.int .i64 1)))),ma 5 17]))
def pf95:PF:=
 PF.mk 2 8 66 ((PC.reg [nn (.v 4) (.mv true (.c (.own .nils)))]).seq (((PC.reg [mm 8 0,nn (.t 9) (.len (.t 8)),nn (.t 10) (.bin .lss (.t 9) (.c (.v
  (.int .i64 2))))]).seq (PC.cond (.t 10) ((PC.reg [nn (.t 11) (.mv true (.v 0)),ma 4 11]).seq PC.ret) PC.skip)).seq (((PC.reg [nn (.v 5) (.mv true
  (.c (.v (.int .i64 1))))]).seq (PC.block 0 (PC.loop [0,1,5] lp95_1))).seq ((PC.reg [nn (.t 65) (.mv true (.v 0)),ma 4 65]).seq PC.ret)))) [(.v 4,
  none)]
def lp104_0:PC:=
 (PC.reg [nn (.t 9) (.bin .lss (.v 8) (.v 7))]).seq ((PC.cond (.t 9) PC.skip (PC.exit 0)).seq ((PC.block 1 ((PC.reg [nn (.t 10) (.mv true (.v 8)),ma 5
  10]).seq ((PC.reg [mm 11 1,mm 12 0,mm 13 5,nn (.t 14) (.iadrS 101 (.t 12) (.t 13)),nn (.t 15) (.load 101 true (.t 14)),nn (.t 16) (.callV (.t
  11) [.t 15])]).seq (PC.cond (.t 16) ((PC.reg [nn (.t 17) (.mv true (.v 5)),ma 4 17]).seq PC.ret) PC.skip)))).seq (PC.reg [nn (.t 18) (.bin .add (.v
  8) (.c (.v (.int .i64 1)))),nn (.v 8) (.mv false (.t 18))])))
def pf104:PF:=
 PF.mk 2 9 19 ((PC.reg [nn (.v 4) (.mv true (.c (.v (.int .i64 0))))]).seq (((PC.reg [nn (.v 6) (.mv false (.v 0)),nn (.v 7) (.len (.v 6)),nn (.v 8)
  (.mv false (.c (.v (.int .i64 0))))]).seq (PC.block 0 (PC.loop [0,1,7,8] lp104_0))).seq ((PC.reg [nn (.v 4) (.mv true (.c (.v (.int .i64
  ((-1))))))]).seq PC.ret))) [(.v 4,none)]
def pf79:PF:=
 PF.mk 2 5 9 ((PC.reg [nn (.v 4) (.mv true (.c (.v (.bool false))))]).seq ((PC.reg [mm 5 0,mm 6 1,nn (.t 7) (.call 104 [.t 5,.t 6]),nn (.t 8) (.bin
  .geq (.t 7) (.c (.v (.int .i64 0)))),ma 4 8]).seq PC.ret)) [(.v 4,none)]
def pf91:PF:=
 PF.mk 1 3 8 ((PC.reg [nn (.v 2) (.mv true (.c (.own .nils)))]).seq (((PC.reg [mm 3 0,nn (.t 4) (.nileq false (.t 3))]).seq (PC.cond (.t 4) ((PC.reg
  [nn (.v 2) (.mv true (.c (.own .nils)))]).seq PC.ret) PC.skip)).seq ((PC.reg [nn (.t 5) (.slcZ (.c (.own .nils))),mm 6 0,nn (.t 7) (.appR 101 136
  (.agg [.int .i64 0,.int .i64 0,.int .i64 0,.int .i64 0,.arr .u8 32 [0,0,0,0,0,0,0,0,0,0,0,0,0,0,0,0,0,0,0,0,0,0,0,0,0,0,
  0,0,0,0,0,0],.int .i64 0,.arr .u8 32 [0,0,0,0,0,0,0,0,0,0,0,0,0,0,0,0,0,0,0,0,0,0,0,0,0,0,0,0,0,0,0,0],.arr
  .u8 32 [0,0,0,0,0,0,0,0,0,0,0,0,0,0,0,0,0,0,0,0,0,0,0,0,0,0,0,0,0,0,0,0]]) (.t 5) (.t 6)),ma 2 7]).seq PC.ret))) [(.v
  2,none)]
attribute [local irreducible] W Wops WopsD WL Wop WopD
variable {E:Env} {C:Abs.Spec} {l:List (Nat×Spec1)} {G:List (Nat×V)} {Q:R→List (Nat×V)→Prop}
set_option maxHeartbeats 1000000
def ZSb (T:List (Nat×Spec1)):Spec1
 |[.sob id 101 0 n c,.int .i64 m,.fn f caps],G,Q=>∃A S key pr z,(Abs.look G id=some (.agg (A++S))∧(m=(n:Nat)∧A.length=n∧n≤39)∧(∀y∈A++S,pr y)∧RowOk 101 z (A++S)∧KeyFn T f caps pr key)∧Q (.tup []) (Abs.upd G id (.agg (srt key A++S)))
 |[.sle 101 [],.int .i64 m,.fn f caps],G,Q=>m=0∧Q (.tup []) G
 |_,_,_=>False
theorem ZSb_nil {T m f caps}:ZSb T [.sle 101 [],.int .i64 m,.fn f caps] G Q=(m=0∧Q (.tup []) G):=rfl
theorem ZSb_eq {T id n c m f caps}:ZSb T [.sob id 101 0 n c,.int .i64 m,.fn f caps] G Q=(∃A S key pr z,(Abs.look G id=some (.agg (A++S))∧(m=(n:Nat)∧A.length=n∧n≤39)∧(∀y∈A++S,pr y)∧RowOk 101 z (A++S)∧KeyFn T f caps pr key)∧Q (.tup []) (Abs.upd G id (.agg (srt key A++S)))):=rfl
def ZSf (T:List (Nat×Spec1)):Spec1
 |[.sob id 101 0 n c,.fn f caps],G,Q=>∃A S key pr z,(Abs.look G id=some (.agg (A++S))∧(A.length=n∧n≤39)∧(∀y∈A++S,pr y)∧RowOk 101 z (A++S)∧KeyFn T f caps pr key)∧Q (.tup []) (Abs.upd G id (.agg (srt key A++S)))
 |[.sle 101 [],.fn f caps],G,Q=>Q (.tup []) G
 |_,_,_=>False
theorem ZSf_nil {T f caps}:ZSf T [.sle 101 [],.fn f caps] G Q=(Q (.tup []) G):=rfl
theorem ZSf_eq {T id n c f caps}:ZSf T [.sob id 101 0 n c,.fn f caps] G Q=(∃A S key pr z,(Abs.look G id=some (.agg (A++S))∧(A.length=n∧n≤39)∧(∀y∈A++S,pr y)∧RowOk 101 z (A++S)∧KeyFn T f caps pr key)∧Q (.tup []) (Abs.upd G id (.agg (srt key A++S)))):=rfl
def ZCm (T:List (Nat×Spec1)):Spec1
 |[.sob id 101 0 n c,.fn f caps],G,Q=>∃A S key pr,(Abs.look G id=some (.agg (A++S))∧(A.length=n∧n≤c∧n < 1000000000000000)∧(∀y∈A++S,pr y)∧RowOk 101 (.agg [.int .i64 0,.int .i64 0,.int .i64 0,.int .i64 0,.arr .u8 32 [0,0,0,0,0,0,0,0,0,0,0,0,0,0,0,0,0,0,0,0,0,0,0,0,0,0,0,0,0,0,0,0],.int .i64 0,.arr .u8 32 [0,0,0,0,0,0,0,0,0,0,0,0,0,0,0,0,0,0,0,0,0,0,0,0,0,0,0,0,0,0,0,0],.arr .u8 32 [0,0,0,0,0,0,0,0,0,0,0,0,0,0,0,0,0,0,0,0,0,0,0,0,0,0,0,0,0,0,0,0]]) (A++S)∧EqFn T f caps pr key)∧Q (.v (.sob id 101 0 (cpt key A).length c)) (Abs.upd G id (.agg (cpt key A++List.replicate (n-(cpt key A).length) (.agg [.int .i64 0,.int .i64 0,.int .i64 0,.int .i64 0,.arr .u8 32 [0,0,0,0,0,0,0,0,0,0,0,0,0,0,0,0,0,0,0,0,0,0,0,0,0,0,0,0,0,0,0,0],.int .i64 0,.arr .u8 32 [0,0,0,0,0,0,0,0,0,0,0,0,0,0,0,0,0,0,0,0,0,0,0,0,0,0,0,0,0,0,0,0],.arr .u8 32 [0,0,0,0,0,0,0,0,0,0,0,0,0,0,0,0,0,0,0,0,0,0,0,0,0,0,0,0,0,0,0,0]])++S)))
 |[.sle 101 [],.fn f caps],G,Q=>Q (.v (.sle 101 [])) G
 |_,_,_=>False
theorem ZCm_nil {T f caps}:ZCm T [.sle 101 [],.fn f caps] G Q=(Q (.v (.sle 101 [])) G):=rfl
theorem ZCm_eq {T id n c f caps}:ZCm T [.sob id 101 0 n c,.fn f caps] G Q=(∃A S key pr,(Abs.look G id=some (.agg (A++S))∧(A.length=n∧n≤c∧n < 1000000000000000)∧(∀y∈A++S,pr y)∧RowOk 101 (.agg [.int .i64 0,.int .i64 0,.int .i64 0,.int .i64 0,.arr .u8 32 [0,0,0,0,0,0,0,0,0,0,0,0,0,0,0,0,0,0,0,0,0,0,0,0,0,0,0,0,0,0,0,0],.int .i64 0,.arr .u8 32 [0,0,0,0,0,0,0,0,0,0,0,0,0,0,0,0,0,0,0,0,0,0,0,0,0,0,0,0,0,0,0,0],.arr .u8 32 [0,0,0,0,0,0,0,0,0,0,0,0,0,0,0,0,0,0,0,0,0,0,0,0,0,0,0,0,0,0,0,0]]) (A++S)∧EqFn T f caps pr key)∧Q (.v (.sob id 101 0 (cpt key A).length c)) (Abs.upd G id (.agg (cpt key A++List.replicate (n-(cpt key A).length) (.agg [.int .i64 0,.int .i64 0,.int .i64 0,.int .i64 0,.arr .u8 32 [0,0,0,0,0,0,0,0,0,0,0,0,0,0,0,0,0,0,0,0,0,0,0,0,0,0,0,0,0,0,0,0],.int .i64 0,.arr .u8 32 [0,0,0,0,0,0,0,0,0,0,0,0,0,0,0,0,0,0,0,0,0,0,0,0,0,0,0,0,0,0,0,0],.arr .u8 32 [0,0,0,0,0,0,0,0,0,0,0,0,0,0,0,0,0,0,0,0,0,0,0,0,0,0,0,0,0,0,0,0]])++S)))):=rfl
def idxP (p:V→Bool):Nat→List V→Int
 |_,[]=> -1
 |i,x::l=>if p x=true then (i:Int)else idxP p (i+1) l
theorem idxP_any {p:V→Bool}:∀{l:List V} {i:Nat},decide (0≤idxP p i l)=l.any p
 |[],i=>rfl
 |x::l,i=>by
  simp only[idxP,List.any_cons]
  split
  ·rename_i h;rw[h];simp
  ·rename_i h
   have h:p x=false:=by simpa using h
   rw[h,Bool.false_or,idxP_any]
def ZIx (T:List (Nat×Spec1)):Spec1
 |[.sle 101 as,.fn f caps],G,Q=>∃p pr z,((∀y∈as,pr y)∧RowOk 101 z as∧as.length < 1000000000000000∧PredFn T f caps G pr p)∧Q (.v (.int .i64 (idxP p 0 as))) G
 |_,_,_=>False
theorem ZIx_eq {T as f caps}:ZIx T [.sle 101 as,.fn f caps] G Q=(∃p pr z,((∀y∈as,pr y)∧RowOk 101 z as∧as.length < 1000000000000000∧PredFn T f caps G pr p)∧Q (.v (.int .i64 (idxP p 0 as))) G):=rfl
def ZCo (T:List (Nat×Spec1)):Spec1
 |[.sle 101 as,.fn f caps],G,Q=>∃p pr z,((∀y∈as,pr y)∧RowOk 101 z as∧as.length < 1000000000000000∧PredFn T f caps G pr p)∧Q (.v (.bool (as.any p))) G
 |_,_,_=>False
theorem ZCo_eq {T as f caps}:ZCo T [.sle 101 as,.fn f caps] G Q=(∃p pr z,((∀y∈as,pr y)∧RowOk 101 z as∧as.length < 1000000000000000∧PredFn T f caps G pr p)∧Q (.v (.bool (as.any p))) G):=rfl
def ZCn:Spec1
 |[.sle 101 as],G,Q=>((∀x∈as,V.size x=101)∧as.length < 1000000000)∧(Q (.v (.sle 101 as)) G∨(as≠[]∧∀id c,Abs.look G id=none→as.length≤c→Q (.v (.sob id 101 0 as.length c)) ((id,.agg (as++List.replicate (c-as.length) (.agg [.int .i64 0,.int .i64 0,.int .i64 0,.int .i64 0,.arr .u8 32 [0,0,0,0,0,0,0,0,0,0,0,0,0,0,0,0,0,0,0,0,0,0,0,0,0,0,0,0,0,0,0,0],.int .i64 0,.arr .u8 32 [0,0,0,0,0,0,0,0,0,0,0,0,0,0,0,0,0,0,0,0,0,0,0,0,0,0,0,0,0,0,0,0],.arr .u8 32 [0,0,0,0,0,0,0,0,0,0,0,0,0,0,0,0,0,0,0,0,0,0,0,0,0,0,0,0,0,0,0,0]])))::G)))
 |_,_,_=>False
theorem ZCn_eq {as}:ZCn [.sle 101 as] G Q=(((∀x∈as,V.size x=101)∧as.length < 1000000000)∧(Q (.v (.sle 101 as)) G∨(as≠[]∧∀id c,Abs.look G id=none→as.length≤c→Q (.v (.sob id 101 0 as.length c)) ((id,.agg (as++List.replicate (c-as.length) (.agg [.int .i64 0,.int .i64 0,.int .i64 0,.int .i64 0,.arr .u8 32 [0,0,0,0,0,0,0,0,0,0,0,0,0,0,0,0,0,0,0,0,0,0,0,0,0,0,0,0,0,0,0,0],.int .i64 0,.arr .u8 32 [0,0,0,0,0,0,0,0,0,0,0,0,0,0,0,0,0,0,0,0,0,0,0,0,0,0,0,0,0,0,0,0],.arr .u8 32 [0,0,0,0,0,0,0,0,0,0,0,0,0,0,0,0,0,0,0,0,0,0,0,0,0,0,0,0,0,0,0,0]])))::G)))):=rfl
theorem walk112 {T:List (Nat×Spec1)} (hIS:Abs.look l 121=some (ZIs T)) (hSY:Abs.look l 122=some (ZSy T 40)) {id n c f:Nat} {m:Int} {caps:List V} (h:ZSb T [.sob id 101 0 n c,.int .i64 m,.fn f caps] G Q):Wf E (specOf l) pf112 [.sob id 101 0 n c,.int .i64 m,.fn f caps] G Q:=by
 obtain⟨A,S,key,pr,z,⟨hG,⟨rfl,hA,hn⟩,hP,hR,hf⟩,h⟩:=h
 have hcur:∀X,Abs.look (Abs.upd G id (.agg X)) id=some (.agg X):=fun X=>look_upd_same hG
 by_cases h20:n < 20
 ·have c1:¬(20:Int)≤(n:Int):=by omega
  have c2:¬(20:Int) < (n:Int):=by omega
  simp (maxSteps:=1000000) (implicitDefEqProofs:=false) only[pf112,go_sem,↓reduceIte]
  refine⟨0+1,?_⟩
  refine WL_in lp112_2.eq_1 ?_
  simp (maxSteps:=1000000) (implicitDefEqProofs:=false) only[c1,hIS,ZIs_eq,go_sem,↓reduceIte]
  refine⟨[],A,S,key,pr,z,⟨hG,⟨rfl,by first|omega|(simp only[List.nil_append,List.length_append,srt_length,List.length_nil,List.length_cons];omega)⟩,⟨by first|omega|(simp only[List.nil_append,List.length_append,srt_length,List.length_nil,List.length_cons];omega),by first|omega|(simp only[List.nil_append,List.length_append,srt_length,List.length_nil,List.length_cons];omega),by omega⟩,hP,hR,hf⟩,0+1,?_⟩
  refine WL_in lp112_1.eq_1 ?_
  simp (maxSteps:=1000000) (implicitDefEqProofs:=false) only[c2,go_sem,↓reduceIte]
  exact h
 ·obtain⟨A1,A2,rfl,h1⟩:∃A1 A2,A=A1++A2∧A1.length=20:=⟨A.take 20,A.drop 20,(List.take_append_drop _ _).symm,List.length_take_of_le (by omega)⟩
  have h2:A2.length=n-20:=by rw[List.length_append]at hA;omega
  have c1:(20:Int)≤(n:Int):=by omega
  have c2:¬(40:Int)≤(n:Int):=by omega
  have w1:IntKind.i64.wrap 40=40:=by decide
  have w2:IntKind.i64.wrap 20=20:=by decide
  have mem1:∀w∈srt key A1++A2++S,w∈A1++A2++S:=fun w hw=>by
   simp only[List.mem_append,mem_srt]at hw⊢
   exact hw
  have mem2:∀w∈[]++srt key A1++srt key A2++S,w∈A1++A2++S:=fun w hw=>by
   simpa only[List.nil_append,List.mem_append,mem_srt]using hw
  have e0:[]++A1++(A2++S)=A1++A2++S:=by simp
  simp (maxSteps:=1000000) (implicitDefEqProofs:=false) only[pf112,go_sem,↓reduceIte]
  refine⟨1+1,?_⟩
  refine WL_in lp112_2.eq_1 ?_
  simp (maxSteps:=1000000) (implicitDefEqProofs:=false) only[c1,hIS,ZIs_eq,w1,go_sem,↓reduceIte]
  refine⟨[],A1,A2++S,key,pr,z,⟨by rw[e0];exact hG,⟨rfl,by first|omega|(simp only[List.nil_append,List.length_append,srt_length,List.length_nil,List.length_cons];omega)⟩,⟨by first|omega|(simp only[List.nil_append,List.length_append,srt_length,List.length_nil,List.length_cons];omega),by first|omega|(simp only[List.nil_append,List.length_append,srt_length,List.length_nil,List.length_cons];omega),by omega⟩,by rw[e0];exact hP,by rw[e0];exact hR,hf⟩,?_⟩
  refine WL_in lp112_2.eq_1 ?_
  simp (maxSteps:=1000000) (implicitDefEqProofs:=false) only[c2,hIS,ZIs_eq,go_sem,↓reduceIte]
  refine⟨srt key A1,A2,S,key,pr,z,⟨by rw[hcur];simp,⟨by first|omega|(simp only[List.nil_append,List.length_append,srt_length,List.length_nil,List.length_cons];omega),by first|omega|(simp only[List.nil_append,List.length_append,srt_length,List.length_nil,List.length_cons];omega)⟩,⟨by first|omega|(simp only[List.nil_append,List.length_append,srt_length,List.length_nil,List.length_cons];omega),by first|omega|(simp only[List.nil_append,List.length_append,srt_length,List.length_nil,List.length_cons];omega),by omega⟩,fun y hy=>hP y (mem1 y hy),hR.mem mem1,hf⟩,?_⟩
  by_cases hn20:n=20
  ·have c3:¬(20:Int) < (n:Int):=by omega
   have eA2:A2=[]:=List.eq_nil_of_length_eq_zero (by omega)
   subst eA2
   refine⟨0+1,?_⟩
   refine WL_in lp112_1.eq_1 ?_
   simp (maxSteps:=1000000) (implicitDefEqProofs:=false) only[c3,upd_upd,go_sem,↓reduceIte]
   have e5:srt key A1++srt key ([]:List V)++S=srt key (A1++[])++S:=by
    rw[List.append_nil A1];show srt key A1++[]++S=_;simp
   first
   |(rw[e5];exact h)
   |(simp only[List.append_nil]at h;exact h)
  ·have c3:(20:Int) < (n:Int):=by omega
   have c4:¬(40:Int) < (n:Int):=by omega
   refine⟨1+1,?_⟩
   refine WL_in lp112_1.eq_1 ?_
   simp (maxSteps:=1000000) (implicitDefEqProofs:=false) only[c3,w1,w2,go_sem,↓reduceIte]
   refine⟨0+1,?_⟩
   refine WL_in lp112_0.eq_1 ?_
   simp (maxSteps:=1000000) (implicitDefEqProofs:=false) only[c2,c3,w1,w2,hSY,ZSy_eq,go_sem,↓reduceIte]
   refine⟨[],srt key A1,srt key A2,S,key,pr,z,⟨by rw[hcur];simp,⟨rfl,by first|omega|(simp only[List.nil_append,List.length_append,srt_length,List.length_nil,List.length_cons];omega),by first|omega|(simp only[List.nil_append,List.length_append,srt_length,List.length_nil,List.length_cons];omega),by first|omega|(simp only[List.nil_append,List.length_append,srt_length,List.length_nil,List.length_cons];omega),by first|omega|(simp only[List.nil_append,List.length_append,srt_length,List.length_nil,List.length_cons];omega),by first|omega|(simp only[List.nil_append,List.length_append,srt_length,List.length_nil,List.length_cons];omega)⟩,⟨by first|omega|(simp only[List.nil_append,List.length_append,srt_length,List.length_nil,List.length_cons];omega),by first|omega|(simp only[List.nil_append,List.length_append,srt_length,List.length_nil,List.length_cons];omega),by omega⟩,⟨up_srt _,up_srt _,fun y hy=>hP y (mem2 y hy)⟩,hR.mem mem2,hf⟩,?_⟩
   refine WL_in lp112_1.eq_1 ?_
   simp (maxSteps:=1000000) (implicitDefEqProofs:=false) only[c4,upd_upd,go_sem,↓reduceIte]
   rw[srt_srt]
   first|exact h|(simp only[List.nil_append];exact h)
theorem walk92 {T:List (Nat×Spec1)} (hST:Abs.look l 112=some (ZSb T)) {id n c f:Nat} {caps:List V} (h:ZSf T [.sob id 101 0 n c,.fn f caps] G Q):Wf E (specOf l) pf92 [.sob id 101 0 n c,.fn f caps] G Q:=by
 obtain⟨A,S,key,pr,z,⟨hG,⟨hA,hn⟩,hP,hR,hf⟩,h⟩:=h
 simp (maxSteps:=1000000) (implicitDefEqProofs:=false) only[pf92,hST,ZSb_eq,go_sem,↓reduceIte]
 exact⟨A,S,key,pr,z,⟨hG,⟨hA,hn⟩,hP,hR,hf⟩,h⟩
theorem cpt_snoc {key:V→Int} {D:List V} {b y:V}:cpt key (D++[b]++[y])=cpt key (D++[b])++(if key y=key b then []else [y]):=by
 cases D with
 |nil=>
  simp only[List.nil_append,List.cons_append,cpt,cpF]
  try (split<;>rfl)
 |cons x D=>
  simp only[List.cons_append,cpt]
  rw[cpF_append]
  have:((D++[b]).getLast?.map key).getD (key x)=key b:=by simp
  rw[this];simp only[cpF]
  try (split<;>rfl)
theorem in95 {T:List (Nat×Spec1)} (hT:Sub T l) (hok:(T.all fun p=>calleeOk E.P p.1)=true) {id n c k0 f:Nat} {caps:List V} {pr:V→Prop} {key:V→Int} {QQ:Ex→St→Prop} (hf:EqFn T f caps pr key) {L0 S:List V} (hG:Abs.look G id=some (.agg L0)) (hn:n < 1000000000000000) (hnL:n≤L0.length) (hk0:k0 < n)
  {A:List V} (hx:∀(k j:Nat) ts X M,k=X.length→X=cpt key A→X.length+M.length=n→RowOk 101 (.agg [.int .i64 0,.int .i64 0,.int .i64 0,.int .i64 0,.arr .u8 32 [0,0,0,0,0,0,0,0,0,0,0,0,0,0,0,0,0,0,0,0,0,0,0,0,0,0,0,0,0,0,0,0],.int .i64 0,.arr .u8 32 [0,0,0,0,0,0,0,0,0,0,0,0,0,0,0,0,0,0,0,0,0,0,0,0,0,0,0,0,0,0,0,0],.arr .u8 32 [0,0,0,0,0,0,0,0,0,0,0,0,0,0,0,0,0,0,0,0,0,0,0,0,0,0,0,0,0,0,0,0]]) (X++M++S)→(X++M++S).length=L0.length→QQ (.exit 2) ⟨[some (.v (.sob id 101 0 n c)),some (.v (.fn f caps)),none,none,none,some (.v (.int .i64 (k:Nat))),some (.v (.sob id 101 k0 (n-k0) (c-k0))),some (.v (.int .i64 (j:Nat)))],ts,[],Abs.upd G id (.agg (X++M++S))⟩):
  ∀(r:Nat) (D B X M:List V) (b:V) (k j:Nat) (G2:List (Nat×V)),B.length=r→D++[b]++B=A→A.length=n→X=cpt key (D++[b])→k=X.length→j+k0=D.length+1→1≤j→X.length+M.length+1=D.length+1→G2=Abs.upd G id (.agg (X++M++b::(B++S)))→(∀y∈A,pr y)→RowOk 101 (.agg [.int .i64 0,.int .i64 0,.int .i64 0,.int .i64 0,.arr .u8 32 [0,0,0,0,0,0,0,0,0,0,0,0,0,0,0,0,0,0,0,0,0,0,0,0,0,0,0,0,0,0,0,0],.int .i64 0,.arr .u8 32 [0,0,0,0,0,0,0,0,0,0,0,0,0,0,0,0,0,0,0,0,0,0,0,0,0,0,0,0,0,0,0,0],.arr .u8 32 [0,0,0,0,0,0,0,0,0,0,0,0,0,0,0,0,0,0,0,0,0,0,0,0,0,0,0,0,0,0,0,0]]) (X++M++b::(B++S))→(X++M++b::(B++S)).length=L0.length→
   WL (W E (specOf l) lp95_0) [0,1,5,6,7] QQ (r+1) ⟨[some (.v (.sob id 101 0 n c)),some (.v (.fn f caps)),none,none,none,some (.v (.int .i64 (k:Nat))),some (.v (.sob id 101 k0 (n-k0) (c-k0))),some (.v (.int .i64 (j:Nat)))],[],[],G2⟩:=by
 intro r
 induction r with
 |zero=>
  rintro D B X M b k j G2 h0 hA hAn hW hk hj hj1 hl rfl hP hR hL
  have:B=[]:=List.eq_nil_of_length_eq_zero h0
  subst this
  have hAl:=congrArg List.length hA
  simp only[List.length_append,List.length_cons,List.length_nil]at hAl
  have c1:¬(j:Int) < ((n-k0:Nat):Int):=by omega
  refine WL_in lp95_0.eq_1 ?_
  simp (maxSteps:=1000000) (implicitDefEqProofs:=false) only[c1,go_sem,↓reduceIte]
  have e:X++M++b::S=X++(M++[b])++S:=by simp
  rw[List.nil_append]at hR hL
  rw[e]at hR hL⊢
  rw[List.append_nil]at hA
  exact hx k j _ X (M++[b]) hk (by rw[hW,hA]) (by rw[List.length_append];simp only[List.length_cons,List.length_nil];omega) hR hL
 |succ r ih=>
  rintro D B X M b k j G2 h0 hA hAn hW hk hj hj1 hl rfl hP hR hL
  obtain⟨y,B,rfl⟩:∃y U,B=y::U:=by
   cases B with
   |nil=>simp at h0
   |cons y U=>exact⟨y,U,rfl⟩
  have h0':B.length=r:=by simpa using h0
  have hAl:=congrArg List.length hA
  simp only[List.length_append,List.length_cons,List.length_nil]at hAl
  have hPb:pr b:=hP b (by rw[←hA];simp)
  have hPy:pr y:=hP y (by rw[←hA];simp)
  have lWM:(X++M).length=k0+j-1:=by rw[List.length_append];omega
  have g0:(X++M++b::(y::B++S))[k0+(j-1)]? =some b:=get_mid (by omega)
  have g1:(X++M++b::(y::B++S))[k0+j]? =some y:=by rw[List.cons_append];exact get_mid2 (by omega)
  have c1:(j:Int) < ((n-k0:Nat):Int):=by omega
  have w1:IntKind.i64.wrap ((j:Int)-1)=((j-1:Nat):Int):=wc (by omega) (by omega)
  have w2:IntKind.i64.wrap ((j:Int)+1)=((j+1:Nat):Int):=wc (by omega) (by omega)
  have w3:IntKind.i64.wrap ((k:Int)+1)=((k+1:Nat):Int):=wc (by omega) (by omega)
  have snoc:=cpt_snoc (key:=key) (D:=D) (b:=b) (y:=y)
  have hA2:D++[b]++[y]++B=A:=by rw[←hA];simp
  have nextE:=fun (hk2:key y=key b)=>ih (D++[b]) B X (M++[b]) y k (j+1) _ h0' hA2 hAn (by rw[snoc,if_pos hk2,List.append_nil];exact hW) hk (by simp only[List.length_append,List.length_cons,List.length_nil];omega) (by omega) (by simp only[List.length_append,List.length_cons,List.length_nil];omega) rfl hP
  obtain⟨x0,M'',hM⟩:∃x0 M'',M++[b]=x0::M'':=by
   cases M with
   |nil=>exact⟨b,[],rfl⟩
   |cons x M=>exact⟨x,M++[b],rfl⟩
  have lM'':M''.length=M.length:=by have:=congrArg List.length hM;simp at this;omega
  have nextN:=fun (hk2:¬key y=key b)=>ih (D++[b]) B (X++[y]) M'' y (k+1) (j+1) _ h0' hA2 hAn (by rw[snoc,if_neg hk2,←hW]) (by simp only[List.length_append,List.length_cons,List.length_nil];omega) (by simp only[List.length_append,List.length_cons,List.length_nil];omega) (by omega) (by simp only[List.length_append,List.length_cons,List.length_nil];omega) rfl hP
  have f1:X++M++b::(y::B++S)=X++(M++[b])++y::(B++S):=by simp
  have f2:X++M++b::(y::B++S)=X++x0::(M''++y::(B++S)):=by rw[f1,hM];simp
  have st1:(X++M++b::(y::B++S)).set k y=X++[y]++M''++y::(B++S):=by rw[f2,set_mid hk];simp
  have gk:(X++M++b::(y::B++S))[k]? =some x0:=by rw[f2];exact get_mid hk
  rw[←f1]at nextE
  rw[←st1]at nextN
  have hkL:k < (X++M++b::(y::B++S)).length:=by simp only[List.length_append,List.length_cons];omega
  generalize X++M++b::(y::B++S)=L at*
  have hcur:Abs.look (Abs.upd G id (.agg L)) id=some (.agg L):=look_upd_same hG
  have t1:=hR.get g1
  have t0:=hR.get g0
  have m1:=hR.same g1 gk
  have a1:=t1.2.1
  have a0:=t0.2.1
  unfold V.isAgg at a1 a0
  have hsz:=hR.sizes
  have z0:(k0:Nat)+((j:Nat):Int).toNat=k0+j:=by simp
  have z1:(k0:Nat)+((j-1:Nat):Int).toNat=k0+(j-1):=by simp
  refine WL_in lp95_0.eq_1 ?_
  simp (maxSteps:=1000000) (implicitDefEqProofs:=false) only[c1,w1,hcur,g1,g0,t1.1,t0.1,a1,a0,Int.toNat_natCast,go_sem,↓reduceIte]
  refine⟨⟨by omega,by omega,hsz⟩,⟨⟨by omega,by omega⟩,by omega,hsz⟩,ok_of hok hf.1,hT.run hf.1 (hf.2 y b _ _ hPy hPb ⟨rfl,?_⟩)⟩
  by_cases hk2:key y=key b
  ·simp (maxSteps:=1000000) (implicitDefEqProofs:=false) only[hk2,w2,go_sem,↓reduceIte]
   exact nextE hk2 hR hL
  ·simp (maxSteps:=1000000) (implicitDefEqProofs:=false) only[hk2,w2,w3,hcur,g1,gk,t1.1,a1,m1,Int.toNat_natCast,upd_upd,go_sem,↓reduceIte]
   exact⟨⟨⟨by omega,by omega⟩,by omega,hsz⟩,⟨⟨by omega,by omega⟩,by omega,hsz⟩,nextN hk2 (hR.set g1) (by rw[List.length_set];exact hL)⟩
theorem out95 {T:List (Nat×Spec1)} (hT:Sub T l) (hok:(T.all fun p=>calleeOk E.P p.1)=true) {id n c f:Nat} {caps:List V} {pr:V→Prop} {key:V→Int} {QQ:Ex→St→Prop} (hf:EqFn T f caps pr key) {A S:List V} (hG:Abs.look G id=some (.agg (A++S))) (hn:n < 1000000000000000) (hAn:A.length=n) (hnc:n≤c) (hP:∀y∈A,pr y) (hR:RowOk 101 (.agg [.int .i64 0,.int .i64 0,.int .i64 0,.int .i64 0,.arr .u8 32 [0,0,0,0,0,0,0,0,0,0,0,0,0,0,0,0,0,0,0,0,0,0,0,0,0,0,0,0,0,0,0,0],.int .i64 0,.arr .u8 32 [0,0,0,0,0,0,0,0,0,0,0,0,0,0,0,0,0,0,0,0,0,0,0,0,0,0,0,0,0,0,0,0],.arr .u8 32 [0,0,0,0,0,0,0,0,0,0,0,0,0,0,0,0,0,0,0,0,0,0,0,0,0,0,0,0,0,0,0,0]]) (A++S))
  (hx:∀k ts,cpt key A=A→QQ (.exit 0) ⟨[some (.v (.sob id 101 0 n c)),some (.v (.fn f caps)),none,none,none,some (.v (.int .i64 (k:Nat))),none,none],ts,[],G⟩)
  (hr:∀(σ:St),σ.G=Abs.upd G id (.agg (cpt key A++List.replicate (n-(cpt key A).length) (.agg [.int .i64 0,.int .i64 0,.int .i64 0,.int .i64 0,.arr .u8 32 [0,0,0,0,0,0,0,0,0,0,0,0,0,0,0,0,0,0,0,0,0,0,0,0,0,0,0,0,0,0,0,0],.int .i64 0,.arr .u8 32 [0,0,0,0,0,0,0,0,0,0,0,0,0,0,0,0,0,0,0,0,0,0,0,0,0,0,0,0,0,0,0,0],.arr .u8 32 [0,0,0,0,0,0,0,0,0,0,0,0,0,0,0,0,0,0,0,0,0,0,0,0,0,0,0,0,0,0,0,0]])++S))→St.ev σ (.v 4)=some (.v (.sob id 101 0 (cpt key A).length c))→QQ .ret σ):
  ∀(r:Nat) (D B:List V) (x:V) (k:Nat),B.length=r→D++[x]++B=A→cpt key (D++[x])=D++[x]→k=D.length+1→WL (W E (specOf l) lp95_1) [0,1,5] QQ (r+1) ⟨[some (.v (.sob id 101 0 n c)),some (.v (.fn f caps)),none,none,none,some (.v (.int .i64 (k:Nat))),none,none],[],[],G⟩:=by
 intro r
 induction r with
 |zero=>
  rintro D B x k h0 hA hc rfl
  have:B=[]:=List.eq_nil_of_length_eq_zero h0
  subst this
  rw[List.append_nil]at hA
  have hAl:=congrArg List.length hA
  simp only[List.length_append,List.length_cons,List.length_nil]at hAl
  have c1:¬((D.length+1:Nat):Int) < (n:Int):=by omega
  refine WL_in lp95_1.eq_1 ?_
  simp (maxSteps:=1000000) (implicitDefEqProofs:=false) only[c1,go_sem,↓reduceIte]
  exact hx _ _ (by rw[←hA];exact hc)
 |succ r ih=>
  rintro D B x k h0 hA hc rfl
  obtain⟨y,B,rfl⟩:∃y U,B=y::U:=by
   cases B with
   |nil=>simp at h0
   |cons y U=>exact⟨y,U,rfl⟩
  have h0':B.length=r:=by simpa using h0
  have hAl:=congrArg List.length hA
  simp only[List.length_append,List.length_cons,List.length_nil]at hAl
  have hPx:pr x:=hP x (by rw[←hA];simp)
  have hPy:pr y:=hP y (by rw[←hA];simp)
  have eL:A++S=D++x::y::(B++S):=by rw[←hA];simp
  have g0:(A++S)[D.length]? =some x:=by rw[eL];exact get_mid rfl
  have g1:(A++S)[D.length+1]? =some y:=by rw[eL];exact get_mid2 rfl
  have c1:((D.length+1:Nat):Int) < (n:Int):=by omega
  have w1:IntKind.i64.wrap (((D.length+1:Nat):Int)-1)=((D.length:Nat):Int):=wc (by omega) (by omega)
  have w2:IntKind.i64.wrap (((D.length+1:Nat):Int)+1)=((D.length+1+1:Nat):Int):=wc (by omega) (by omega)
  have snoc:=cpt_snoc (key:=key) (D:=D) (b:=x) (y:=y)
  have hA2:D++[x]++[y]++B=A:=by rw[←hA];simp
  have hLl:D.length+1 < A.length+S.length:=by omega
  have t1:=hR.get g1
  have t0:=hR.get g0
  have a1:=t1.2.1
  have a0:=t0.2.1
  unfold V.isAgg at a1 a0
  have hsz:=hR.sizes
  refine WL_in lp95_1.eq_1 ?_
  simp (maxSteps:=1000000) (implicitDefEqProofs:=false) only[c1,w1,hG,g1,g0,t1.1,t0.1,a1,a0,Int.toNat_natCast,go_sem,↓reduceIte]
  refine⟨⟨by omega,by omega,hsz⟩,⟨⟨by omega,by omega⟩,by omega,hsz⟩,ok_of hok hf.1,hT.run hf.1 (hf.2 y x _ _ hPy hPx ⟨rfl,?_⟩)⟩
  by_cases hk2:key y=key x
  ·have q1:((n:Int)-((D.length+1:Nat):Int)).toNat=n-(D.length+1):=by omega
   simp (maxSteps:=1000000) (implicitDefEqProofs:=false) only[hk2,q1,Int.toNat_natCast,go_sem,↓reduceIte]
   refine⟨⟨by omega,by omega,by omega⟩,B.length+1,?_⟩
   simp (maxSteps:=1000000) (implicitDefEqProofs:=false) only[go_sem,↓reduceIte]
   refine in95 (E:=E) (l:=l) (G:=G) (c:=c) (k0:=D.length+1) (S:=S) (A:=A) hT hok hf hG hn (by rw[List.length_append];omega) (by omega) (fun k j ts X M e1 e2 e3 e4 e5=> ?_) B.length (D++[x]) B (D++[x]) [] y (D.length+1) 1 G rfl hA2 hAn (by rw[snoc,if_pos hk2,List.append_nil];exact hc.symm) (by simp) (by simp only[List.length_append,List.length_cons,List.length_nil]<;>omega) (by omega) (by simp only[List.length_append,List.length_cons,List.length_nil]<;>omega) ?_ hP ?_ ?_
   ·have hcur:Abs.look (Abs.upd G id (.agg (X++M++S))) id=some (.agg (X++M++S)):=look_upd_same hG
    have hWl:X.length≤n:=by omega
    have q2:((n:Int)-(k:Int)).toNat=M.length:=by omega
    have hput:putL (X++M++S) k (List.replicate M.length (.agg [.int .i64 0,.int .i64 0,.int .i64 0,.int .i64 0,.arr .u8 32 [0,0,0,0,0,0,0,0,0,0,0,0,0,0,0,0,0,0,0,0,0,0,0,0,0,0,0,0,0,0,0,0],.int .i64 0,.arr .u8 32 [0,0,0,0,0,0,0,0,0,0,0,0,0,0,0,0,0,0,0,0,0,0,0,0,0,0,0,0,0,0,0,0],.arr .u8 32 [0,0,0,0,0,0,0,0,0,0,0,0,0,0,0,0,0,0,0,0,0,0,0,0,0,0,0,0,0,0,0,0]]))=X++List.replicate M.length (.agg [.int .i64 0,.int .i64 0,.int .i64 0,.int .i64 0,.arr .u8 32 [0,0,0,0,0,0,0,0,0,0,0,0,0,0,0,0,0,0,0,0,0,0,0,0,0,0,0,0,0,0,0,0],.int .i64 0,.arr .u8 32 [0,0,0,0,0,0,0,0,0,0,0,0,0,0,0,0,0,0,0,0,0,0,0,0,0,0,0,0,0,0,0,0],.arr .u8 32 [0,0,0,0,0,0,0,0,0,0,0,0,0,0,0,0,0,0,0,0,0,0,0,0,0,0,0,0,0,0,0,0]])++S:=by
     unfold putL
     rw[List.length_replicate,List.append_assoc,e1,List.take_left,List.append_assoc]
     congr 1;congr 1
     rw[←List.drop_drop,List.drop_left,List.drop_left]
    have hsame:V.sameL (X++List.replicate M.length (.agg [.int .i64 0,.int .i64 0,.int .i64 0,.int .i64 0,.arr .u8 32 [0,0,0,0,0,0,0,0,0,0,0,0,0,0,0,0,0,0,0,0,0,0,0,0,0,0,0,0,0,0,0,0],.int .i64 0,.arr .u8 32 [0,0,0,0,0,0,0,0,0,0,0,0,0,0,0,0,0,0,0,0,0,0,0,0,0,0,0,0,0,0,0,0],.arr .u8 32 [0,0,0,0,0,0,0,0,0,0,0,0,0,0,0,0,0,0,0,0,0,0,0,0,0,0,0,0,0,0,0,0]])++S) (X++M++S)=true:=by
     refine RowOk.sameL (sz:=101) (z:= .agg [.int .i64 0,.int .i64 0,.int .i64 0,.int .i64 0,.arr .u8 32 [0,0,0,0,0,0,0,0,0,0,0,0,0,0,0,0,0,0,0,0,0,0,0,0,0,0,0,0,0,0,0,0],.int .i64 0,.arr .u8 32 [0,0,0,0,0,0,0,0,0,0,0,0,0,0,0,0,0,0,0,0,0,0,0,0,0,0,0,0,0,0,0,0],.arr .u8 32 [0,0,0,0,0,0,0,0,0,0,0,0,0,0,0,0,0,0,0,0,0,0,0,0,0,0,0,0,0,0,0,0]]) ⟨fun w hw=> ?_⟩ e4 (by simp only[List.length_append,List.length_replicate])
     simp only[List.mem_append,List.mem_replicate]at hw
     rcases hw with (hw|⟨_,rfl⟩)|hw
     ·exact e4.all w (by simp[hw])
     ·exact⟨rfl,rfl,V.same_refl _⟩
     ·exact e4.all w (by simp[hw])
    have hput':=hput
    unfold putL at hput'
    rw[List.length_replicate]at hput'
    have hsz2:=e4.sizes
    have hz:M.length=n-(cpt key A).length:=by rw[←e2];omega
    simp (maxSteps:=1000000) (implicitDefEqProofs:=false) only[hcur,q2,Int.toNat_natCast,List.length_replicate,hput',hput,hsame,upd_upd,go_sem,↓reduceIte]
    have hrr:=fun σ=>hr σ
    rw[←hz,←e2,←e1]at hrr
    repeat' first|(refine And.intro ?_ ?_)|omega|exact hsz2|rfl
    all_goals first|(simp only[List.length_append];omega)|(refine hrr _ rfl ?_;first|rfl|(simp;omega))
   ·rw[List.append_nil,show D++[x]++y::(B++S)=A++S by rw[←hA];simp,upd_self hG]
   ·rw[List.append_nil,show D++[x]++y::(B++S)=A++S by rw[←hA];simp];exact hR
   ·rw[List.append_nil,show D++[x]++y::(B++S)=A++S by rw[←hA];simp]
  ·simp (maxSteps:=1000000) (implicitDefEqProofs:=false) only[hk2,w2,go_sem,↓reduceIte]
   exact ih (D++[x]) B y _ h0' hA2 (by rw[snoc,if_neg hk2,hc]) (by simp only[List.length_append,List.length_cons,List.length_nil])
theorem walk95 {T:List (Nat×Spec1)} (hT:Sub T l) (hok:(T.all fun p=>calleeOk E.P p.1)=true) {id n c f:Nat} {caps:List V} (h:ZCm T [.sob id 101 0 n c,.fn f caps] G Q):Wf E (specOf l) pf95 [.sob id 101 0 n c,.fn f caps] G Q:=by
 obtain⟨A,S,key,pr,⟨hG,⟨hA,hnc,hn⟩,hP,hR,hf⟩,h⟩:=h
 have same:cpt key A=A→Q (.v (.sob id 101 0 n c)) G:=by
  intro e
  rw[e,hA,Nat.sub_self]at h
  simp only[List.replicate_zero,List.append_nil,upd_self hG]at h
  exact h
 match A,hA with
 |[],hA=>
  have c1:(n:Int) < 2:=by simp at hA;omega
  simp (maxSteps:=1000000) (implicitDefEqProofs:=false) only[pf95,c1,go_sem,↓reduceIte]
  exact same rfl
 |[x],hA=>
  have c1:(n:Int) < 2:=by simp at hA;omega
  simp (maxSteps:=1000000) (implicitDefEqProofs:=false) only[pf95,c1,go_sem,↓reduceIte]
  exact same rfl
 |x::y::B,hA=>
  have c1:¬(n:Int) < 2:=by simp at hA;omega
  simp (maxSteps:=1000000) (implicitDefEqProofs:=false) only[pf95,c1,go_sem,↓reduceIte]
  refine⟨(y::B).length+1,?_⟩
  simp (maxSteps:=1000000) (implicitDefEqProofs:=false) only[go_sem,↓reduceIte]
  refine out95 (A:=x::y::B) (S:=S) hT hok hf hG hn hA hnc (fun w hw=>hP w (List.mem_append_left _ hw)) hR (fun k ts e=> ?_) (fun σ e1 e2=> ?_) (y::B).length [] (y::B) x 1 rfl rfl rfl rfl
  ·simp (maxSteps:=1000000) (implicitDefEqProofs:=false) only[go_sem,↓reduceIte]
   exact same e
  ·show resQ Q σ.G (rD (St.ev σ (.v 4)))
   rw[e1,e2]
   exact h
theorem loop104 {T:List (Nat×Spec1)} (hT:Sub T l) (hok:(T.all fun p=>calleeOk E.P p.1)=true) {f:Nat} {caps:List V} {pr:V→Prop} {p:V→Bool} {z:V} {QQ:Ex→St→Prop} (hf:PredFn T f caps G pr p) {as:List V} {n:Nat} (hn:n=as.length) (hl:n < 1000000000000000) (hP:∀y∈as,pr y) (hR:RowOk 101 z as)
  (hx:∀i ts,idxP p 0 as= -1→QQ (.exit 0) ⟨[some (.v (.sle 101 as)),some (.v (.fn f caps)),none,none,none,none,none,some (.v (.int .i64 (n:Nat))),some (.v (.int .i64 (i:Nat)))],ts,[],G⟩) (hr:∀(σ:St) (i:Nat),σ.G=G→St.ev σ (.v 4)=some (.v (.int .i64 (i:Nat)))→idxP p 0 as=(i:Nat)→QQ .ret σ):
  ∀(r:List V) (i:Nat),as.drop i=r→i≤as.length→idxP p 0 as=idxP p i r→WL (W E (specOf l) lp104_0) [0,1,7,8] QQ (r.length+1) ⟨[some (.v (.sle 101 as)),some (.v (.fn f caps)),none,none,none,none,none,some (.v (.int .i64 (n:Nat))),some (.v (.int .i64 (i:Nat)))],[],[],G⟩:=by
 intro r
 induction r with
 |nil=>
  intro i h1 h2 h3
  have:as.length≤i:=by have:=congrArg List.length h1;rw[List.length_drop,List.length_nil]at this;omega
  have c1:¬(i:Int) < (n:Int):=by omega
  refine WL_in lp104_0.eq_1 ?_
  simp (maxSteps:=1000000) (implicitDefEqProofs:=false) only[c1,go_sem,↓reduceIte]
  exact hx i _ h3
 |cons x r ih=>
  intro i h1 h2 h3
  have hlen:=congrArg List.length h1
  rw[List.length_drop,List.length_cons]at hlen
  have hg:as[i]? =some x:=by
   have:(as.drop i)[0]? =some x:=by rw[h1];rfl
   rwa [List.getElem?_drop,Nat.add_zero]at this
  have hgd:as.getD i .nilp=x:=by rw[List.getD_eq_getElem?_getD,hg];rfl
  have hd:as.drop (i+1)=r:=by rw[←List.drop_drop,h1];rfl
  have c1:(i:Int) < (n:Int):=by omega
  have w1:IntKind.i64.wrap ((i:Int)+1)=((i+1:Nat):Int):=wc (by omega) (by omega)
  have t1:=hR.get hg
  have a1:=t1.2.1
  unfold V.isAgg at a1
  refine WL_in lp104_0.eq_1 ?_
  simp (maxSteps:=1000000) (implicitDefEqProofs:=false) only[c1,hgd,t1.1,a1,Int.toNat_natCast,go_sem,↓reduceIte]
  refine⟨by omega,ok_of hok hf.1,hT.run hf.1 (hf.2 x _ (hP x (List.mem_of_getElem? hg)) ?_)⟩
  simp only[idxP]at h3
  by_cases hp:p x=true
  ·rw[if_pos hp]at h3
   simp (maxSteps:=1000000) (implicitDefEqProofs:=false) only[hp,go_sem,↓reduceIte]
   exact hr _ i rfl rfl h3
  ·have hp:p x=false:=by simpa using hp
   rw[if_neg (by rw[hp];exact Bool.false_ne_true)]at h3
   simp (maxSteps:=1000000) (implicitDefEqProofs:=false) only[hp,w1,go_sem,↓reduceIte]
   exact ih (i+1) hd (by omega) h3
theorem walk104 {T:List (Nat×Spec1)} (hT:Sub T l) (hok:(T.all fun p=>calleeOk E.P p.1)=true) {f:Nat} {caps:List V} {as:List V} (h:ZIx T [.sle 101 as,.fn f caps] G Q):Wf E (specOf l) pf104 [.sle 101 as,.fn f caps] G Q:=by
 obtain⟨p,pr,z,⟨hP,hR,hl,hf⟩,h⟩:=h
 simp (maxSteps:=1000000) (implicitDefEqProofs:=false) only[pf104,go_sem,↓reduceIte]
 refine⟨as.length+1,?_⟩
 simp (maxSteps:=1000000) (implicitDefEqProofs:=false) only[go_sem,↓reduceIte]
 refine loop104 hT hok hf rfl hl hP hR (fun i ts e=> ?_) (fun σ i e1 e2 e3=> ?_) as 0 rfl (Nat.zero_le _) rfl
 ·simp (maxSteps:=1000000) (implicitDefEqProofs:=false) only[go_sem,↓reduceIte]
  rw[e]at h;exact h
 ·show resQ Q σ.G (rD (St.ev σ (.v 4)))
  rw[e1,e2,←e3];exact h
theorem walk79 {T:List (Nat×Spec1)} (hI:Abs.look l 104=some (ZIx T)) {f:Nat} {caps:List V} {as:List V} (h:ZCo T [.sle 101 as,.fn f caps] G Q):Wf E (specOf l) pf79 [.sle 101 as,.fn f caps] G Q:=by
 obtain⟨p,pr,z,⟨hP,hR,hl,hf⟩,h⟩:=h
 simp (maxSteps:=1000000) (implicitDefEqProofs:=false) only[pf79,hI,ZIx_eq,go_sem,↓reduceIte]
 refine⟨p,pr,z,⟨hP,hR,hl,hf⟩,?_⟩
 rw[idxP_any]
 exact h
theorem walk91 {as:List V} (hs:∀x∈as,V.size x=101) (hl:as.length < 1000000000) (hne:as≠[]) (h:∀id c,Abs.look G id=none→as.length≤c→Q (.v (.sob id 101 0 as.length c)) ((id,.agg (as++List.replicate (c-as.length) (.agg [.int .i64 0,.int .i64 0,.int .i64 0,.int .i64 0,.arr .u8 32 [0,0,0,0,0,0,0,0,0,0,0,0,0,0,0,0,0,0,0,0,0,0,0,0,0,0,0,0,0,0,0,0],.int .i64 0,.arr .u8 32 [0,0,0,0,0,0,0,0,0,0,0,0,0,0,0,0,0,0,0,0,0,0,0,0,0,0,0,0,0,0,0,0],.arr .u8 32 [0,0,0,0,0,0,0,0,0,0,0,0,0,0,0,0,0,0,0,0,0,0,0,0,0,0,0,0,0,0,0,0]])))::G)):Wf E C pf91 [.sle 101 as] G Q:=by
 have hp:0 < as.length:=List.length_pos_iff.2 hne
 simp (maxSteps:=1000000) (implicitDefEqProofs:=false) only[pf91,go_sem,↓reduceIte]
 intro q hq
 cases q with
 |true=>have:=hq rfl;omega
 |false=>
  simp (maxSteps:=1000000) (implicitDefEqProofs:=false) only[go_sem,↓reduceIte]
  refine⟨⟨by omega,hs⟩,fun e=>absurd e hne,fun _ id c hid hc=> ?_⟩
  try simp (maxSteps:=1000000) (implicitDefEqProofs:=false) only[go_sem,↓reduceIte]
  exact h id c hid hc
theorem walk091 (h0:Q (.own .nils) G) (h1:Q (.v (.sle 101 [])) G):Wf E C pf91 [.sle 101 []] G Q:=by
 simp (maxSteps:=1000000) (implicitDefEqProofs:=false) only[pf91,go_sem,↓reduceIte]
 intro q
 exact⟨fun _=>h0,fun _=>⟨fun x hx=>by simp at hx,h1⟩⟩
theorem ret91 {as:List V} (hr:∀Q':R→List (Nat×V)→Prop,Wf E C pf91 [.sle 101 as] G Q'→Ret E 91 [.sle 101 as] G Q') (h:ZCn [.sle 101 as] G Q):Ret E 91 [.sle 101 as] G Q:=by
 obtain⟨⟨hs,hl⟩,h⟩:=h
 by_cases hne:as=[]
 ·subst hne
  rcases h with h|⟨h,_⟩
  ·refine Ret.wkOut (hr _ (walk091 ⟨.v (.sle 101 []),G,?_,WkG.refl G,h⟩ ⟨.v (.sle 101 []),G,?_,WkG.refl G,h⟩))
   ·simp only[R.Wk];exact .inl ⟨_,rfl,by unfold V.Wk;exact .inr (.inr ⟨_,rfl⟩)⟩
   ·simp only[R.Wk];exact⟨_,rfl,V.Wk.refl _⟩
  ·exact absurd rfl h
 ·rcases h with h|⟨_,h⟩
  ·refine Ret.fz (hr _ (walk91 hs hl hne fun id c hid hc=>⟨id,_,none,.v (.sle 101 as),G,hid,by rw[look_cons,if_pos rfl],?_,fun j x hj=> ?_,fun j r hj=>⟨r,hj,V.same_refl r⟩,h⟩))
   ·simp only[R.Fz]
    refine⟨_,rfl,?_⟩
    unfold V.Fz
    refine .inr ⟨rfl,hc,by simp,fun x hx=> ?_,?_,fun k e=>by cases e⟩
    ·rcases List.mem_append.1 hx with hx|hx
     ·exact hs x hx
     ·rw[List.eq_of_mem_replicate hx];rfl
    ·unfold elemsV;simp
   ·have hne2:j≠id:=by rintro rfl;rw[hid]at hj;cases hj
    exact⟨hne2,x,by rw[look_cons,if_neg hne2];exact hj,V.Fz.refl x⟩
  ·exact hr _ (walk91 hs hl hne h)
end Go.Proofs.YtegamlopcdjiaaaDoor.Sha
