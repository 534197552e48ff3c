/- Laws over plain values, and what functions of the program hand back; no conditions. -/
import Derived.Test.YtegamlopcdjiaaaDoorG4
import Derived.Test.YtegamlopcdjiaaaDoorG10
import Derived.Test.YtegamlopcdjiaaaDoorUOct1
import Derived.Test.YtegamlopcdjiaaaDoorG1
namespace Go.Proofs.YtegamlopcdjiaaaDoor.Sha
open Go Go.Abs Go.Abs.Sha
set_option linter.unusedSimpArgs false
set_option linter.unusedVariables false
set_option maxRecDepth 100000
def lp35_0:PC:=
 ((PC.reg [mm 11 5,mm 12 0,nn (.t 13) (.len (.t 12)),nn (.t 14) (.bin .lss (.t 11) (.t 13))]).seq (PC.cond (.t 14) PC.skip (PC.exit 0))).seq
  ((PC.block 1 ((PC.regD 0 [mm 17 0,mm 18 5,nn (.t 19) (.iadrS 1 (.t 17) (.t 18)),nn (.t 20) (.load 1 false (.t 19)),mm 21 1,mm 22 5,nn (.t 23)
  (.iadrS 1 (.t 21) (.t 22)),nn (.t 24) (.load 1 false (.t 23)),nn (.t 25) (.bin .neq (.t 20) (.t 24))] []).seq (PC.cond (.t 25) ((PC.reg [nn (.v 4)
  (.mv true (.c (.v (.bool false))))]).seq PC.ret) PC.skip))).seq (PC.reg [mm 15 5,nn (.t 16) (.bin .add (.t 15) (.c (.v (.int .i64 1)))),ma 5 16]))
def pf35:PF:=
 PF.mk 2 6 26 ((PC.reg [nn (.v 4) (.mv true (.c (.v (.bool false))))]).seq (((PC.reg [mm 6 0,nn (.t 7) (.len (.t 6)),mm 8 1,nn (.t 9) (.len (.t 8)),
  nn (.t 10) (.bin .neq (.t 7) (.t 9))]).seq (PC.cond (.t 10) ((PC.reg [nn (.v 4) (.mv true (.c (.v (.bool false))))]).seq PC.ret) PC.skip)).seq
  (((PC.reg [nn (.v 5) (.mv true (.c (.v (.int .i64 0))))]).seq (PC.block 0 (PC.loop [0,1,5] lp35_0))).seq ((PC.reg [nn (.v 4) (.mv true (.c (.v
  (.bool true))))]).seq PC.ret)))) [(.v 4,none)]
def lp102_0:PC:=
 ((PC.reg [mm 10 6,nn (.t 11) (.bin .lss (.t 10) (.c (.v (.int .i64 10)))),nn (.t 12) (.mv false (.t 11)),⟨.t 13,.fadr 1 1 (.v 1),some (.t 12,
  true)⟩,⟨.t 14,.load 1 false (.t 13),some (.t 12,true)⟩,gm 15 6 12 true,⟨.t 16,.bin .add (.t 14) (.t 15),some (.t 12,true)⟩,⟨.t 17,.fadr 0
  0 (.v 1),some (.t 12,true)⟩,⟨.t 18,.load 1 false (.t 17),some (.t 12,true)⟩,⟨.t 19,.len (.t 18),some (.t 12,true)⟩,⟨.t 20,.bin .lss (.t
  16) (.t 19),some (.t 12,true)⟩,nn (.t 21) (.pick (.t 12) (.t 20) (.c (.v (.bool false))))]).seq (PC.cond (.t 21) PC.skip (PC.exit 0))).seq
  ((PC.block 1 ((PC.reg [mm 24 4,nn (.t 25) (.fadr 0 0 (.v 1)),nn (.t 26) (.load 1 false (.t 25)),nn (.t 27) (.fadr 1 1 (.v 1)),nn (.t 28) (.load 1
  false (.t 27)),mm 29 6,nn (.t 30) (.bin .add (.t 28) (.t 29)),nn (.t 31) (.iadrS 1 (.t 26) (.t 30)),nn (.t 32) (.load 1 false (.t 31)),nn (.t
  33) (.bin .rem (.t 32) (.c (.v (.int .u8 128)))),nn (.t 34) (.conv .u64 (.t 33)),mm 35 5,nn (.t 36) (.bin .mul (.t 34) (.t 35)),nn (.t 37) (.bin
  .add (.t 24) (.t 36)),ma 4 37]).seq ((PC.reg [mm 38 5,nn (.t 39) (.bin .mul (.t 38) (.c (.v (.int .u64 128)))),ma 5 39]).seq ((PC.reg [nn (.t 40)
  (.fadr 0 0 (.v 1)),nn (.t 41) (.load 1 false (.t 40)),nn (.t 42) (.fadr 1 1 (.v 1)),nn (.t 43) (.load 1 false (.t 42)),mm 44 6,nn (.t 45) (.bin
  .add (.t 43) (.t 44)),nn (.t 46) (.iadrS 1 (.t 41) (.t 45)),nn (.t 47) (.load 1 false (.t 46)),nn (.t 48) (.bin .lss (.t 47) (.c (.v (.int .u8
  128))))]).seq (PC.cond (.t 48) (((PC.regD 0 [mm 49 4,nn (.t 50) (.call 103 [.t 49]),nn (.t 51) (.fadr 0 0 (.v 1)),nn (.t 52) (.load 1 false (.t
  51)),nn (.t 53) (.fadr 1 1 (.v 1)),nn (.t 54) (.load 1 false (.t 53)),nn (.t 55) (.fadr 1 1 (.v 1)),nn (.t 56) (.load 1 false (.t 55)),mm 57 6,
  nn (.t 58) (.bin .add (.t 56) (.t 57)),nn (.t 59) (.bin .add (.t 58) (.c (.v (.int .i64 1)))),nn (.t 60) (.slcS 1 (.t 52) (some (.t 54)) (some (.t
  59)) none),nn (.t 61) (.call 35 [.t 50,.t 60]),nn (.t 62) (.un .not (.t 61))] []).seq (PC.cond (.t 62) (PC.exit 0) PC.skip)).seq ((PC.reg [nn (.t
  63) (.fadr 1 1 (.v 1)),nn (.t 64) (.load 1 false (.t 63)),mm 65 6,nn (.t 66) (.bin .add (.t 64) (.t 65)),nn (.t 67) (.bin .add (.t 66) (.c (.v
  (.int .i64 1)))),nn (.t 68) (.fadr 1 1 (.v 1)),nn .no (.store 1 (.t 68) (.t 67))]).seq ((PC.reg [nn (.t 69) (.load 3 true (.v 1)),mm 70 4,nn .no
  (.store 3 (.v 2) (.t 69)),ma 3 70]).seq PC.ret))) PC.skip))))).seq (PC.reg [mm 22 6,nn (.t 23) (.bin .add (.t 22) (.c (.v (.int .i64 1)))),ma 6
  23]))
def pf102:PF:=
 PF.mk 1 7 73 ((PC.reg [nn (.v 1) (.box (.v 0)),nn (.v 2) (.alloc (.agg [.nils,.int .i64 0,.bool false])),nn (.v 3) (.mv true (.c (.v (.int .u64
  0))))]).seq (((PC.reg [nn (.t 7) (.fadr 2 2 (.v 1)),nn (.t 8) (.load 1 false (.t 7))]).seq (PC.cond (.t 8) ((PC.reg [nn (.t 9) (.load 3 true (.v
  1)),nn .no (.store 3 (.v 2) (.t 9)),nn (.v 3) (.mv true (.c (.v (.int .u64 0))))]).seq PC.ret) PC.skip)).seq ((PC.reg [nn (.v 4) (.mv true (.c (.v
  (.int .u64 0))))]).seq ((PC.reg [nn (.v 5) (.mv true (.c (.v (.int .u64 1))))]).seq (((PC.reg [nn (.v 6) (.mv true (.c (.v (.int .i64 0))))]).seq
  (PC.block 0 (PC.loop [1,2,4,5,6] lp102_0))).seq ((PC.reg [nn (.t 71) (.fadr 2 2 (.v 1)),nn .no (.store 1 (.t 71) (.c (.v (.bool true))))]).seq
  ((PC.reg [nn (.t 72) (.load 3 true (.v 1)),nn .no (.store 3 (.v 2) (.t 72)),nn (.v 3) (.mv true (.c (.v (.int .u64 0))))]).seq PC.ret))))))) [(.v
  2,some (3,true)),(.v 3,none)]
def pf69:PF:=
 PF.mk 2 8 30 ((PC.reg [nn (.v 2) (.box (.v 0)),nn (.v 4) (.alloc (.agg [.nils,.int .i64 0,.bool false])),nn (.v 5) (.mv true (.c (.v (.int .i64
  0))))]).seq ((PC.reg [nn (.t 9) (.load 3 true (.v 2)),nn (.t 10) (.call 102 [.t 9]),nn (.t 8) (.mv false (.t 10)),nn (.t 11) (.ext (.t 8) 0),nn
  (.t 12) (.ext (.t 8) 1),nn (.v 6) (.alloc (.agg [.nils,.int .i64 0,.bool false])),nn .no (.store 3 (.v 6) (.t 11)),ma 7 12]).seq (((PC.reg [nn
  (.t 13) (.fadr 2 2 (.v 6)),nn (.t 14) (.load 1 false (.t 13)),nn (.t 15) (.mv false (.t 14)),gm 16 1 15 false,⟨.t 17,.bin .lss (.t 16) (.c (.v
  (.int .i64 0))),some (.t 15,false)⟩,nn (.t 18) (.pick (.t 15) (.c (.v (.bool true))) (.t 17)),nn (.t 19) (.mv false (.t 18)),gm 20 7 19 false,
  gm 21 1 19 false,⟨.t 22,.conv .u64 (.t 21),some (.t 19,false)⟩,⟨.t 23,.bin .gtr (.t 20) (.t 22),some (.t 19,false)⟩,nn (.t 24) (.pick (.t
  19) (.c (.v (.bool true))) (.t 23))]).seq (PC.cond (.t 24) ((PC.reg [nn (.t 25) (.fadr 2 2 (.v 2)),nn .no (.store 1 (.t 25) (.c (.v (.bool
  true))))]).seq ((PC.reg [nn (.t 26) (.load 3 true (.v 2)),nn .no (.store 3 (.v 4) (.t 26)),nn (.v 5) (.mv true (.c (.v (.int .i64 0))))]).seq
  PC.ret)) PC.skip)).seq ((PC.reg [nn (.t 27) (.load 3 true (.v 6)),mm 28 7,nn (.t 29) (.conv .i64 (.t 28)),nn .no (.store 3 (.v 4) (.t 27)),ma 5
  29]).seq PC.ret)))) [(.v 4,some (3,true)),(.v 5,none)]
def lp70_0:PC:=
 ((PC.reg [mm 21 5,nn (.t 22) (.bin .lss (.t 21) (.c (.v (.int .i64 32))))]).seq (PC.cond (.t 22) PC.skip (PC.exit 0))).seq ((PC.block 1 (PC.reg [mm 25
  5,nn (.t 26) (.fadr 0 0 (.v 1)),nn (.t 27) (.load 1 false (.t 26)),nn (.t 28) (.fadr 1 1 (.v 1)),nn (.t 29) (.load 1 false (.t 28)),mm 30 5,nn
  (.t 31) (.bin .add (.t 29) (.t 30)),nn (.t 32) (.iadrS 1 (.t 27) (.t 31)),nn (.t 33) (.load 1 false (.t 32)),nn (.t 34) (.iadrA 32 (.v 4) (.t
  25)),nn .no (.store 1 (.t 34) (.t 33))])).seq (PC.reg [mm 23 5,nn (.t 24) (.bin .add (.t 23) (.c (.v (.int .i64 1)))),ma 5 24]))
def pf70:PF:=
 PF.mk 1 6 41 ((PC.reg [nn (.v 1) (.box (.v 0)),nn (.v 2) (.alloc (.agg [.nils,.int .i64 0,.bool false])),nn (.v 3) (.alloc (.arr .u8 32 [0,0,0,
  0,0,0,0,0,0,0,0,0,0,0,0,0,0,0,0,0,0,0,0,0,0,0,0,0,0,0,0,0]))]).seq ((PC.reg [nn (.t 6) (.build (.arr .u8 32 [0,0,0,0,
  0,0,0,0,0,0,0,0,0,0,0,0,0,0,0,0,0,0,0,0,0,0,0,0,0,0,0,0]) []),nn (.v 4) (.alloc (.arr .u8 32 [0,0,0,0,0,0,0,0,0,
  0,0,0,0,0,0,0,0,0,0,0,0,0,0,0,0,0,0,0,0,0,0,0])),nn .no (.store 32 (.v 4) (.t 6))]).seq (((PC.reg [nn (.t 7) (.fadr 2 2 (.v
  1)),nn (.t 8) (.load 1 false (.t 7)),nn (.t 9) (.mv false (.t 8)),⟨.t 10,.fadr 0 0 (.v 1),some (.t 9,false)⟩,⟨.t 11,.load 1 false (.t 10),
  some (.t 9,false)⟩,⟨.t 12,.len (.t 11),some (.t 9,false)⟩,⟨.t 13,.fadr 1 1 (.v 1),some (.t 9,false)⟩,⟨.t 14,.load 1 false (.t 13),some
  (.t 9,false)⟩,⟨.t 15,.bin .sub (.t 12) (.t 14),some (.t 9,false)⟩,⟨.t 16,.bin .lss (.t 15) (.c (.v (.int .i64 32))),some (.t 9,false)⟩,nn
  (.t 17) (.pick (.t 9) (.c (.v (.bool true))) (.t 16))]).seq (PC.cond (.t 17) ((PC.reg [nn (.t 18) (.fadr 2 2 (.v 1)),nn .no (.store 1 (.t 18) (.c
  (.v (.bool true))))]).seq ((PC.regD 0 [nn (.t 19) (.load 3 true (.v 1)),nn (.t 20) (.load 32 true (.v 4)),nn .no (.store 3 (.v 2) (.t 19)),nn .no
  (.store 32 (.v 3) (.t 20))] [(1,2)]).seq PC.ret)) PC.skip)).seq (((PC.reg [nn (.v 5) (.mv true (.c (.v (.int .i64 0))))]).seq (PC.block 0 (PC.loop
  [1,2,3,4,5] lp70_0))).seq ((PC.reg [nn (.t 35) (.fadr 1 1 (.v 1)),nn (.t 36) (.load 1 false (.t 35)),nn (.t 37) (.bin .add (.t 36) (.c (.v
  (.int .i64 32)))),nn (.t 38) (.fadr 1 1 (.v 1)),nn .no (.store 1 (.t 38) (.t 37))]).seq ((PC.regD 0 [nn (.t 39) (.load 3 true (.v 1)),nn (.t 40)
  (.load 32 true (.v 4)),nn .no (.store 3 (.v 2) (.t 39)),nn .no (.store 32 (.v 3) (.t 40))] [(1,2)]).seq PC.ret)))))) [(.v 2,some (3,true)),(.v
  3,some (32,true))]
attribute [local irreducible] W Wops WopsD WL Wop WopD
variable {E:Env} {C:Abs.Spec} {l:List (Nat×Spec1)} {G:List (Nat×V)} {Q:R→List (Nat×V)→Prop}
set_option maxHeartbeats 1000000
def SSm:Spec1
 |[x,y],G,Q=>∃a b,(byV x=some a∧byV y=some b∧a.length < 1000000000000∧b.length < 1000000000000)∧Q (.v (.bool (decide (a=b)))) G
 |_,_,_=>False
theorem SSm_eq {x y}:SSm [x,y] G Q=(∃a b,(byV x=some a∧byV y=some b∧a.length < 1000000000000∧b.length < 1000000000000)∧Q (.v (.bool (decide (a=b)))) G):=rfl
def SRm:Spec1
 |[.agg [.sli .u8 B,.int .i64 at_,.bool w]],G,Q=>∃t r,(B=t++r∧at_=t.length∧Byt B∧B.length < 1000000000000)∧Q (.tup [rrV B (rdNum (r,w)).2,.int .u64 (rdNum (r,w)).1]) G
 |_,_,_=>False
theorem SRm_eq {B at_ w}:SRm [.agg [.sli .u8 B,.int .i64 at_,.bool w]] G Q=(∃t r,(B=t++r∧at_=t.length∧Byt B∧B.length < 1000000000000)∧Q (.tup [rrV B (rdNum (r,w)).2,.int .u64 (rdNum (r,w)).1]) G):=rfl
def SRu:Spec1
 |[.agg [.sli .u8 B,.int .i64 at_,.bool w],.int .i64 top],G,Q=>∃t r n r2 w2,(B=t++r∧at_=t.length∧Byt B∧B.length < 1000000000000∧(0≤top∧top < 9000000000000000000)∧rdUpto top (r,w)=(n,r2,w2))∧Q (.tup [.agg [.sli .u8 B,.int .i64 ((B.length:Int)-r2.length),.bool w2],.int .i64 n]) G
 |_,_,_=>False
theorem SRu_eq {B at_ w top}:SRu [.agg [.sli .u8 B,.int .i64 at_,.bool w],.int .i64 top] G Q=(∃t r n r2 w2,(B=t++r∧at_=t.length∧Byt B∧B.length < 1000000000000∧(0≤top∧top < 9000000000000000000)∧rdUpto top (r,w)=(n,r2,w2))∧Q (.tup [.agg [.sli .u8 B,.int .i64 ((B.length:Int)-r2.length),.bool w2],.int .i64 n]) G):=rfl
def SRh:Spec1
 |[.agg [.sli .u8 B,.int .i64 at_,.bool w]],G,Q=>∃t r hh r2 w2,(B=t++r∧at_=t.length∧Byt B∧B.length < 1000000000000∧rdHash (r,w)=(hh,r2,w2))∧Q (.tup [.agg [.sli .u8 B,.int .i64 ((B.length:Int)-r2.length),.bool w2],.arr .u8 32 hh]) G
 |_,_,_=>False
theorem SRh_eq {B at_ w}:SRh [.agg [.sli .u8 B,.int .i64 at_,.bool w]] G Q=(∃t r hh r2 w2,(B=t++r∧at_=t.length∧Byt B∧B.length < 1000000000000∧rdHash (r,w)=(hh,r2,w2))∧Q (.tup [.agg [.sli .u8 B,.int .i64 ((B.length:Int)-r2.length),.bool w2],.arr .u8 32 hh]) G):=rfl
theorem loop35 {a b:List Int} {QQ:Ex→St→Prop} (hl:a.length=b.length) (hal:a.length < 1000000000000)
  (hx:∀(i:Nat) ts,a=b→QQ (.exit 0) ⟨[some (.v (.sli .u8 a)),some (.v (.sli .u8 b)),none,none,none,some (.v (.int .i64 i))],ts,[],G⟩)
  (hr:∀(i:Nat) ts,a≠b→QQ .ret ⟨[some (.v (.sli .u8 a)),some (.v (.sli .u8 b)),none,none,some (.v (.bool false)),some (.v (.int .i64 i))],ts,[],G⟩):
  ∀(m i:Nat),i+m=a.length→a.take i=b.take i→WL (W E C lp35_0) [0,1,5] QQ (m+1) ⟨[some (.v (.sli .u8 a)),some (.v (.sli .u8 b)),none,none,none,some (.v (.int .i64 i))],[],[],G⟩:=by
 intro m
 induction m with
 |zero=>
  intro i hi he
  have h1:¬(i:Int) < (a.length:Int):=by omega
  have e:a=b:=by
   rw[List.take_of_length_le (by omega),List.take_of_length_le (by omega)]at he;exact he
  refine WL_in lp35_0.eq_1 ?_
  simp (maxSteps:=1000000) (implicitDefEqProofs:=false) only[h1,go_sem,↓reduceIte]
  exact hx i _ e
 |succ m ih=>
  intro i hi he
  have h1:(i:Int) < (a.length:Int):=by omega
  have h2:(i:Int) < (b.length:Int):=by omega
  have h0:(0:Int)≤i:=by omega
  have ew:IntKind.i64.wrap ((i:Int)+1)=((i+1:Nat):Int):=by rw[w64 (by omega) (by omega)];simp
  refine WL_in lp35_0.eq_1 ?_
  have ta:=snoc_step' (b:=a) (i:=i) (by omega)
  have tb:=snoc_step' (b:=b) (i:=i) (by omega)
  by_cases hc:a.getD i 0=b.getD i 0
  ·have ihh:=ih (i+1) (by omega) (by rw[←ta,←tb,he,hc])
   simp (maxSteps:=1000000) (implicitDefEqProofs:=false) only[h0,h1,h2,Int.toNat_natCast,hc,ew,go_sem,↓reduceIte]
   exact ihh
  ·have hne:a≠b:=by rintro rfl;exact hc rfl
   have hc':(a.getD i 0=b.getD i 0)=False:=eq_false hc
   simp (maxSteps:=1000000) (implicitDefEqProofs:=false) only[h0,h1,h2,Int.toNat_natCast,hc',ew,go_sem,↓reduceIte]
   exact hr i _ hne
theorem walk35 {a b:List Int} (hal:a.length < 1000000000000) (hbl:b.length < 1000000000000) (h:Q (.v (.bool (decide (a=b)))) G):Wf E C pf35 [.sli .u8 a,.sli .u8 b] G Q:=by
 by_cases hl:a.length=b.length
 ·have hl':(a.length:Int)=b.length:=by omega
  simp (maxSteps:=1000000) (implicitDefEqProofs:=false) only[pf35,hl',go_sem,↓reduceIte]
  refine⟨a.length+1,?_⟩
  simp (maxSteps:=1000000) (implicitDefEqProofs:=false) only[go_sem,↓reduceIte]
  refine loop35 hl hal (fun i ts e=> ?_) (fun i ts e=> ?_) a.length 0 (by omega) rfl
  ·simp (maxSteps:=1000000) (implicitDefEqProofs:=false) only[go_sem,↓reduceIte]
   exact finB h (by simp[e])
  ·simp (maxSteps:=1000000) (implicitDefEqProofs:=false) only[go_sem,↓reduceIte]
   exact finB h (by simp[e])
 ·have hl':((a.length:Int)=b.length)=False:=by simp;omega
  simp (maxSteps:=1000000) (implicitDefEqProofs:=false) only[pf35,hl',go_sem,↓reduceIte]
  refine finB h ?_
  have:a≠b:=by rintro rfl;exact hl rfl
  simp[this]
theorem loop102 {t r:List Int} {QQ:Ex→St→Prop} (h61:Abs.look l 103=some (SRn 10)) (h26:Abs.look l 35=some SSm) (hb:Byt (t++r)) (hl:(t++r).length < 1000000000000)
  (hx:∀(acc un:Int) (i:Int) ts,decN r=none→QQ (.exit 0) ⟨[none,some (.lp 0 []),some (.lp 1 []),none,some (.v (.int .u64 acc)),some (.v (.int .u64 un)),some (.v (.int .i64 i))],ts,[⟨false,.agg [.sli .u8 (t++r),.int .i64 t.length,.bool false]⟩,⟨false,.agg [.nils,.int .i64 0,.bool false]⟩],G⟩)
  (hr:∀(n acc un i:Int) ts (n2 k:Nat),decN r=some (n2,k)→n=n2→QQ .ret ⟨[none,some (.lp 0 []),some (.lp 1 []),some (.v (.int .u64 n)),some (.v (.int .u64 acc)),some (.v (.int .u64 un)),some (.v (.int .i64 i))],ts,[⟨false,.agg [.sli .u8 (t++r),.int .i64 ((t.length:Int)+k),.bool false]⟩,⟨false,.agg [.sli .u8 (t++r),.int .i64 ((t.length:Int)+k),.bool false]⟩],G⟩):
  ∀(m i acc un:Nat),i+m=10→(i≤9→acc < 128 ^ i)→decN r=decI i acc (r.drop i)→i≤r.length→(i≤9→un=128 ^ i)→(i≤9→∀k,0 < k→num (acc+k*128 ^ i)=r.take i++num k)→(i=0→acc=0)→
   WL (W E (specOf l) lp102_0) [1,2,4,5,6] QQ (m+1) ⟨[none,some (.lp 0 []),some (.lp 1 []),none,some (.v (.int .u64 acc)),some (.v (.int .u64 un)),some (.v (.int .i64 i))],[],[⟨false,.agg [.sli .u8 (t++r),.int .i64 t.length,.bool false]⟩,⟨false,.agg [.nils,.int .i64 0,.bool false]⟩],G⟩:=by
 intro m
 induction m with
 |zero=>
  intro i acc un hi ha hd hil hun hnum h00
  obtain rfl:i=10:=by omega
  have hN:decN r=none:=by
   rw[hd];cases hq:r.drop 10 with
   |nil=>rfl
   |cons c r=>simp[decI]
  refine WL_in lp102_0.eq_1 ?_
  simp (maxSteps:=1000000) (implicitDefEqProofs:=false) only[go_sem,↓reduceIte]
  exact hx _ _ _ _ hN
 |succ m ih=>
  intro i acc un hi ha hd hil hun hnum h00
  replace ha:=ha (by omega)
  replace hnum:=hnum (by omega)
  have hrl:t.length+r.length < 1000000000000:=by rw[List.length_append]at hl;exact hl
  have hbr:Byt r:=fun x hx=>hb x (List.mem_append_right _ hx)
  have h2:(i:Int) < 10:=by omega
  have ew:IntKind.i64.wrap ((i:Int)+1)=((i+1:Nat):Int):=by rw[w64 (by omega) (by omega)];simp
  have ea:IntKind.i64.wrap ((t.length:Int)+i)=((t.length+i:Nat):Int):=by rw[w64 (by omega) (by omega)];simp
  have ea1:IntKind.i64.wrap (((t.length+i:Nat):Int)+1)=((t.length+i+1:Nat):Int):=by rw[w64 (by omega) (by omega)];simp
  refine WL_in lp102_0.eq_1 ?_
  by_cases hlt:i < r.length
  ·have h1:((t.length+i:Nat):Int) < ((t.length+r.length:Nat):Int):=by omega
   have h0:(0:Int)≤((t.length+i:Nat):Int):=by omega
   have hg:(t++r).getD (t.length+i) 0=r.getD i 0:=by rw[List.getD_eq_getElem?_getD,List.getElem?_append_right (by omega),Nat.add_sub_cancel_left,←List.getD_eq_getElem?_getD]
   have hc:0≤r.getD i 0∧r.getD i 0≤255:=by
    have e:r.getD i 0=r[i]:=by simp[hlt]
    rw[e];exact hbr _ (List.getElem_mem hlt)
   have hdr:=drop_cons hlt
   have htk:=snoc_step' hlt
   have hsl:((t++r).take (t.length+i+1)).drop t.length=r.take (i+1):=by
    rw[show t.length+i+1=t.length+(i+1)by omega,List.take_length_add_append,List.drop_left]
   have hih:=ih (i+1)
   generalize hcd:r.getD i 0=c at*
   obtain⟨C,rfl⟩:∃C:Nat,c=C:=⟨c.toNat,by omega⟩
   have hC:C≤255:=by omega
   rw[hdr]at hd
   simp only[decI,Int.toNat_natCast]at hd
   rw[if_neg (by omega)]at hd
   have hP:=pow_le9 (show i≤9 by omega)
   have hun':=hun (by omega)
   have er:(C:Int).tmod 128=((C % 128:Nat):Int):=by rw[Int.tmod_eq_emod_of_nonneg (by omega)];simp
   have wn:∀n:Nat,IntKind.u64.wrap (n:Int)=((n % 18446744073709551616:Nat):Int):=fun n=>by simp only[IntKind.wrap,IntKind.bits,IntKind.signed];simp
   have e1:∀D:Nat,D < 256→IntKind.u64.wrap ((D:Nat):Int)=((D:Nat):Int):=fun D hD=>w64u (by omega)
   have e2:∀D:Nat,IntKind.u64.wrap ((D:Int)*(un:Int))=((D*un % 18446744073709551616:Nat):Int):=fun D=>by rw[←wn];simp
   have e3:∀D:Nat,IntKind.u64.wrap ((acc:Int)+((D*un % 18446744073709551616:Nat):Int))=(((acc+D*un) % 18446744073709551616:Nat):Int):=fun D=>by
    have:=wn (acc+D*un % 18446744073709551616)
    rw[Int.natCast_add]at this
    rw[this,Nat.add_mod_mod]
   have e4:IntKind.u64.wrap ((un:Int)*128)=((un*128 % 18446744073709551616:Nat):Int):=by rw[←wn];simp
   by_cases hlt8:C < 128
   ·have hlt8':(C:Int) < 128:=by omega
    have hm:C % 128=C:=by omega
    have hv:∀N:Nat,N=(acc+C*128 ^ i) % 18446744073709551616→(num N=r.take (i+1)↔¬((i=9∧1 < (C:Int))∨(0 < i∧(C:Int)=0))):=by
     intro N hN
     rw[←htk]
     have hcn:0 < C→num (acc+C*128 ^ i)=r.take i++[(C:Int)]:=fun h=>by rw[hnum C h,num_small hlt8]
     constructor
     ·intro e
      rintro (⟨h9,hc1⟩|⟨h0,hc0⟩)
      ·rw[←hcn (by omega)]at e
       have hinj:=num_inj e
       subst h9
       have h128:(128:Nat) ^ 9=9223372036854775808:=by decide
       have h5:2*9223372036854775808≤C*9223372036854775808:=Nat.mul_le_mul_right _ (by omega)
       have h6:=Nat.mod_lt (acc+C*128 ^ 9) (show 0 < 18446744073709551616 by decide)
       rw[←hN,hinj,h128]at h6
       omega
      ·rw[hc0]at e
       have:=num_last e
       have hl2:=congrArg List.length this
       rw[List.length_take]at hl2
       simp only[List.length_nil]at hl2;omega
     ·intro hnb
      have hlt64:acc+C*128 ^ i < 18446744073709551616:=by
       by_cases h9:i=9
       ·subst h9
        have h128:(128:Nat) ^ 9=9223372036854775808:=by decide
        have hC1:C≤1:=by omega
        have:C*128 ^ 9≤1*128 ^ 9:=Nat.mul_le_mul_right _ hC1
        omega
       ·have h3:C*128 ^ i≤127*128 ^ i:=Nat.mul_le_mul_right _ (by omega)
        have h4:128*128 ^ i≤9223372036854775808:=by
         rcases p9 (show i≤9 by omega)with rfl|rfl|rfl|rfl|rfl|rfl|rfl|rfl|rfl|rfl<;>first|exact absurd rfl h9|decide
        omega
      rw[hN,Nat.mod_eq_of_lt hlt64]
      by_cases hC0:C=0
      ·have hi0:i=0:=by omega
       subst hi0;subst hC0
       rw[h00 rfl];simp[num_small]
      ·exact hcn (by omega)
    have hNlt:(acc+C*un) % 18446744073709551616 < 18446744073709551616:=Nat.mod_lt _ (by decide)
    have hp10:(acc+C*un) % 18446744073709551616 < 128 ^ 10:=Nat.lt_of_lt_of_le hNlt (by decide)
    rw[hm]at er
    have e1:=e1 C (by omega);have e2:=e2 C;have e3:=e3 C
    have hv':=hv ((acc+C*un) % 18446744073709551616) (by rw[hun'])
    obtain⟨hby,hnl⟩:=num_ok hNlt
    by_cases hbad:(i=9∧1 < (C:Int))∨(0 < i∧(C:Int)=0)
    ·rw[if_pos hbad]at hd
     have hne:¬num ((acc+C*un) % 18446744073709551616)=r.take (i+1):=fun e=>(hv'.1 e) hbad
     simp (maxSteps:=1000000) (implicitDefEqProofs:=false) only[h0,h1,h2,Int.toNat_natCast,hg,hcd,ew,ea,ea1,er,e1,e2,e3,e4,hlt8',h61,SRn_eq,h26,SSm_eq,hsl,go_sem,↓reduceIte]
     refine⟨⟨by omega,hp10,by omega⟩,⟨by omega,by omega,by omega⟩,_,_,⟨byV_u8 _,byV_u8 _,by omega,by rw[List.length_take];omega⟩,fun e=> ?_,fun e=> ?_⟩
     ·exact hx _ _ _ _ hd
     ·exact absurd e hne
    ·rw[if_neg hbad,if_pos hlt8']at hd
     have heq:num ((acc+C*un) % 18446744073709551616)=r.take (i+1):=hv'.2 hbad
     have hval:(acc+C*un) % 18446744073709551616=acc+C*128 ^ i:=by
      obtain⟨h5,h6,h7,h8⟩:=decN_spec hbr hd
      rw[hun'];exact Nat.mod_eq_of_lt h5
     simp (maxSteps:=1000000) (implicitDefEqProofs:=false) only[h0,h1,h2,Int.toNat_natCast,hg,hcd,ew,ea,ea1,er,e1,e2,e3,e4,hlt8',h61,SRn_eq,h26,SSm_eq,hsl,go_sem,↓reduceIte]
     refine⟨⟨by omega,hp10,by omega⟩,⟨by omega,by omega,by omega⟩,_,_,⟨byV_u8 _,byV_u8 _,by omega,by rw[List.length_take];omega⟩,fun e=> ?_,fun e=> ?_⟩
     ·exact absurd heq e
     ·have hq:=hr ((acc+C*un) % 18446744073709551616:Nat) ((acc+C*un) % 18446744073709551616:Nat) (un*128 % 18446744073709551616:Nat) i
      have e9:((t.length:Int)+((i+1:Nat):Int))=((t.length+i+1:Nat):Int):=by omega
      have hq2:=fun ts=>hq ts _ _ hd (by rw[hval])
      rw[e9]at hq2
      exact hq2 _
   ·have hlt8':¬(C:Int) < 128:=by omega
    by_cases h9:i=9
    ·rw[if_pos (.inl ⟨h9,by omega⟩)]at hd
     have ihh:=hih ((acc+C % 128*un) % 18446744073709551616) (un*128 % 18446744073709551616) (by omega) (fun h=>by omega)
      (by rw[hd];cases hq:r.drop (i+1)with
        |nil=>rfl
        |cons c r=>simp only[decI];rw[if_pos (by omega)]) (by omega) (fun h=>by omega) (fun h=>by omega) (fun h=>by omega)
     have e1:=e1 (C % 128) (by omega);have e2:=e2 (C % 128);have e3:=e3 (C % 128)
     simp (maxSteps:=1000000) (implicitDefEqProofs:=false) only[h0,h1,h2,Int.toNat_natCast,hg,hcd,ew,ea,ea1,er,e1,e2,e3,e4,hlt8',go_sem,↓reduceIte]
     repeat' (first|assumption|omega|rfl|refine⟨?_,?_⟩)
    ·rw[if_neg (by omega),if_neg hlt8']at hd
     have hm:C % 128=C-128:=by omega
     have hPs:128 ^ (i+1)=128 ^ i*128:=Nat.pow_succ ..
     have h4:128*128 ^ i≤9223372036854775808:=by
      rcases p9 (show i≤9 by omega)with rfl|rfl|rfl|rfl|rfl|rfl|rfl|rfl|rfl|rfl<;>first|exact absurd rfl h9|decide
     have ha2:acc+(C-128)*128 ^ i < 128 ^ (i+1):=by
      have:(C-128)*128 ^ i≤127*128 ^ i:=Nat.mul_le_mul_right _ (by omega)
      omega
     have hacc:(acc+(C-128)*un) % 18446744073709551616=acc+(C-128)*128 ^ i:=by
      rw[hun',Nat.mod_eq_of_lt (by omega)]
     have hunn:un*128 % 18446744073709551616=128 ^ (i+1):=by
      rw[hun',hPs,Nat.mod_eq_of_lt (by omega)]
     have ihh:=hih (acc+(C-128)*128 ^ i) (128 ^ (i+1)) (by omega) (fun _=>ha2) hd (by omega) (fun _=>rfl)
      (fun _ k hk=>by
       have e5:acc+(C-128)*128 ^ i+k*128 ^ (i+1)=acc+(C-128+128*k)*128 ^ i:=by
        rw[hPs,Nat.add_mul,Nat.mul_comm 128 k,Nat.mul_assoc k,Nat.mul_comm 128 (128 ^ i),Nat.add_assoc]
       rw[e5,hnum _ (by omega),←htk,num_big (by omega),show (C-128+128*k) / 128=k by omega,show (C-128+128*k) % 128+128=C by omega]
       simp) (fun h=>by omega)
     rw[hm]at er
     have e1:=e1 (C-128) (by omega);have e2:=e2 (C-128);have e3:=e3 (C-128)
     simp (maxSteps:=1000000) (implicitDefEqProofs:=false) only[h0,h1,h2,Int.toNat_natCast,hg,hcd,ew,ea,ea1,er,e1,e2,e3,e4,hlt8',hacc,hunn,go_sem,↓reduceIte]
     repeat' (first|assumption|omega|rfl|refine⟨?_,?_⟩)
  ·have h1:¬((t.length+i:Nat):Int) < ((t.length+r.length:Nat):Int):=by omega
   have hN:decN r=none:=by
    rw[hd,List.drop_eq_nil_of_le (by omega)];simp[decI]
   simp (maxSteps:=1000000) (implicitDefEqProofs:=false) only[h2,ea,h1,go_sem,↓reduceIte]
   exact hx _ _ _ _ hN
theorem walk102 {t r:List Int} {w:Bool} (h61:Abs.look l 103=some (SRn 10)) (h26:Abs.look l 35=some SSm) (hb:Byt (t++r)) (hl:(t++r).length < 1000000000000)
  (h:Q (.tup [rrV (t++r) (rdNum (r,w)).2,.int .u64 (rdNum (r,w)).1]) G):Wf E (specOf l) pf102 [.agg [.sli .u8 (t++r),.int .i64 t.length,.bool w]] G Q:=by
 have hbr:Byt r:=fun x hx=>hb x (List.mem_append_right _ hx)
 have hrl:t.length+r.length < 1000000000000:=by rw[List.length_append]at hl;exact hl
 have elen:((t++r).length:Int)-(r.length:Int)=t.length:=by rw[List.length_append];omega
 simp (maxSteps:=1000000) (implicitDefEqProofs:=false) only[pf102,go_sem,↓reduceIte]
 cases w with
 |true=>
  have e:rdNum (r,true)=(0,(r,true)):=rfl
  rw[e]at h;unfold rrV at h;rw[elen]at h
  simp (maxSteps:=1000000) (implicitDefEqProofs:=false) only[go_sem,↓reduceIte]
  exact h
 |false=>
  simp (maxSteps:=1000000) (implicitDefEqProofs:=false) only[go_sem,↓reduceIte]
  refine⟨11,?_⟩
  simp (maxSteps:=1000000) (implicitDefEqProofs:=false) only[go_sem,↓reduceIte]
  refine loop102 h61 h26 hb (by rw[List.length_append];exact hrl) (fun acc un i ts hd=> ?_) (fun n acc un i ts n2 k hd hn=> ?_) 10 0 0 1 rfl (fun _=>by decide) rfl (by omega) (fun _=>rfl) (fun _ k _=>by simp) (fun _=>rfl)
  ·have e:rdNum (r,false)=(0,(r,true)):=by unfold rdNum;simp only[hd];rfl
   rw[e]at h;unfold rrV at h;rw[elen]at h
   simp (maxSteps:=1000000) (implicitDefEqProofs:=false) only[go_sem,↓reduceIte]
   exact h
  ·obtain⟨g1,g2,g3,g4⟩:=decN_spec hbr hd
   have e:rdNum (r,false)=(n2,(r.drop k,false)):=by unfold rdNum;simp only[hd];rfl
   have e5:((t++r).length:Int)-((r.drop k).length:Int)=(t.length:Int)+k:=by rw[List.length_append,List.length_drop];omega
   rw[e]at h;unfold rrV at h;rw[e5]at h
   subst hn
   simp (maxSteps:=1000000) (implicitDefEqProofs:=false) only[go_sem,↓reduceIte]
   exact h
theorem walk69 {t r:List Int} {w:Bool} {top:Int} (h60:Abs.look l 102=some SRm) (hb:Byt (t++r)) (hl:(t++r).length < 1000000000000) (ht:0≤top∧top < 9000000000000000000)
  (h:Q (.tup [rrV (t++r) (rdUpto top (r,w)).2,.int .i64 (rdUpto top (r,w)).1]) G):Wf E (specOf l) pf69 [.agg [.sli .u8 (t++r),.int .i64 t.length,.bool w],.int .i64 top] G Q:=by
 have hbr:Byt r:=fun x hx=>hb x (List.mem_append_right _ hx)
 have hrl:t.length+r.length < 1000000000000:=by rw[List.length_append]at hl;exact hl
 have elen:((t++r).length:Int)-(r.length:Int)=t.length:=by rw[List.length_append];omega
 have hnt:¬top < 0:=by omega
 have et:IntKind.u64.wrap top=top:=by simp only[IntKind.wrap,IntKind.bits,IntKind.signed];simp;omega
 simp (maxSteps:=1000000) (implicitDefEqProofs:=false) only[pf69,h60,SRm_eq,go_sem,↓reduceIte]
 refine⟨t,r,⟨rfl,rfl,hb,by first|exact hl|exact hrl⟩,?_⟩
 cases w with
 |true=>
  have e:rdUpto top (r,true)=(0,(r,true)):=rfl
  have eN:rdNum (r,true)=(0,(r,true)):=rfl
  rw[e]at h;unfold rrV at h;rw[elen]at h
  rw[eN];unfold rrV;rw[elen]
  simp (maxSteps:=1000000) (implicitDefEqProofs:=false) only[go_sem,↓reduceIte]
  exact h
 |false=>
  cases hd:decN r with
  |none=>
   have e:rdUpto top (r,false)=(0,(r,true)):=by unfold rdUpto;simp only[hd];rfl
   have eN:rdNum (r,false)=(0,(r,true)):=by unfold rdNum;simp only[hd];rfl
   rw[e]at h;unfold rrV at h;rw[elen]at h
   rw[eN];unfold rrV;rw[elen]
   simp (maxSteps:=1000000) (implicitDefEqProofs:=false) only[go_sem,↓reduceIte]
   exact h
  |some p=>
   obtain⟨n,k⟩:=p
   obtain⟨g1,g2,g3,g4⟩:=decN_spec hbr hd
   have eN:rdNum (r,false)=(n,(r.drop k,false)):=by unfold rdNum;simp only[hd];rfl
   rw[eN]
   by_cases hn:top < (n:Int)
   ·have e:rdUpto top (r,false)=(0,(r,true)):=by unfold rdUpto;rw[if_neg (fun e=>by cases e)];simp only[hd];rw[if_pos (.inr hn)]
    rw[e]at h;unfold rrV at h;rw[elen]at h
    unfold rrV
    simp (maxSteps:=1000000) (implicitDefEqProofs:=false) only[hnt,et,hn,go_sem,↓reduceIte]
    exact h
   ·have e:rdUpto top (r,false)=((n:Int),(r.drop k,false)):=by unfold rdUpto;rw[if_neg (fun e=>by cases e)];simp only[hd];rw[if_neg (by omega)]
    have en:IntKind.i64.wrap (n:Int)=n:=w64 (by omega) (by omega)
    rw[e]at h;unfold rrV at h
    unfold rrV
    simp (maxSteps:=1000000) (implicitDefEqProofs:=false) only[hnt,et,hn,en,go_sem,↓reduceIte]
    simp only[List.length_append]at h
    exact h
theorem loop70 {t r:List Int} {z1 z2:Bx} {QQ:Ex→St→Prop} (hrl:32≤r.length) (hl:t.length+r.length < 1000000000000)
  (hx:∀(i:Int) ts,QQ (.exit 0) ⟨[none,some (.lp 0 []),some (.lp 1 []),some (.lp 2 []),some (.lp 3 []),some (.v (.int .i64 i))],ts,[⟨false,.agg [.sli .u8 (t++r),.int .i64 t.length,.bool false]⟩,z1,z2,⟨false,.arr .u8 32 (r.take 32)⟩],G⟩):
  ∀(m i:Nat),i+m=32→WL (W E C lp70_0) [1,2,3,4,5] QQ (m+1) ⟨[none,some (.lp 0 []),some (.lp 1 []),some (.lp 2 []),some (.lp 3 []),some (.v (.int .i64 i))],[],[⟨false,.agg [.sli .u8 (t++r),.int .i64 t.length,.bool false]⟩,z1,z2,⟨false,.arr .u8 32 (r.take i++zero32.drop i)⟩],G⟩:=by
 intro m
 induction m with
 |zero=>
  intro i hi
  obtain rfl:i=32:=by omega
  have e:r.take 32++zero32.drop 32=r.take 32:=by simp[zero32]
  rw[e]
  refine WL_in lp70_0.eq_1 ?_
  simp (maxSteps:=1000000) (implicitDefEqProofs:=false) only[go_sem,↓reduceIte]
  exact hx _ _
 |succ m ih=>
  intro i hi
  have h32:(i:Int) < 32:=by omega
  have h32n:i < 32:=by omega
  have h0:(0:Int)≤i:=by omega
  have h00:(0:Int)≤((t.length+i:Nat):Int):=by omega
  have h1:((t.length+i:Nat):Int) < ((t.length+r.length:Nat):Int):=by omega
  have ew:IntKind.i64.wrap ((i:Int)+1)=((i+1:Nat):Int):=by rw[w64 (by omega) (by omega)];simp
  have ea:IntKind.i64.wrap ((t.length:Int)+i)=((t.length+i:Nat):Int):=by rw[w64 (by omega) (by omega)];simp
  have hg:(t++r).getD (t.length+i) 0=r.getD i 0:=by rw[List.getD_eq_getElem?_getD,List.getElem?_append_right (by omega),Nat.add_sub_cancel_left,←List.getD_eq_getElem?_getD]
  have ihh:=ih (i+1) (by omega)
  rw[←set_step (show i < zero32.length by rw[show zero32.length=32 from rfl];omega) (by omega)]at ihh
  generalize r.take i++zero32.drop i=hs at*
  refine WL_in lp70_0.eq_1 ?_
  simp (maxSteps:=1000000) (implicitDefEqProofs:=false) only[h32,h32n,h0,h00,h1,ew,ea,hg,Int.toNat_natCast,go_sem,↓reduceIte]
  repeat' (first|assumption|omega|rfl|refine⟨?_,?_⟩)
theorem walk70 {t r:List Int} {w:Bool} (hb:Byt (t++r)) (hl:(t++r).length < 1000000000000)
  (h:Q (.tup [rrV (t++r) (rdHash (r,w)).2,.arr .u8 32 (rdHash (r,w)).1]) G):Wf E C pf70 [.agg [.sli .u8 (t++r),.int .i64 t.length,.bool w]] G Q:=by
 have hrl:t.length+r.length < 1000000000000:=by rw[List.length_append]at hl;exact hl
 have elen:((t++r).length:Int)-(r.length:Int)=t.length:=by rw[List.length_append];omega
 have ed:((t.length+r.length:Nat):Int)-(t.length:Int)=r.length:=by omega
 have ew:IntKind.i64.wrap (r.length:Int)=r.length:=w64 (by omega) (by omega)
 cases w with
 |true=>
  have e:rdHash (r,true)=(zero32,(r,true)):=rfl
  rw[e]at h;unfold rrV at h;rw[elen]at h
  simp (maxSteps:=1000000) (implicitDefEqProofs:=false) only[pf70,go_sem,↓reduceIte]
  exact h
 |false=>
  by_cases h32:r.length < 32
  ·have e:rdHash (r,false)=(zero32,(r,true)):=by unfold rdHash;simp only[h32];rfl
   have h32':(r.length:Int) < 32:=by omega
   rw[e]at h;unfold rrV at h;rw[elen]at h
   simp (maxSteps:=1000000) (implicitDefEqProofs:=false) only[pf70,ed,ew,h32',go_sem,↓reduceIte]
   exact h
  ·have e:rdHash (r,false)=(r.take 32,(r.drop 32,false)):=by unfold rdHash;simp only[h32];rfl
   have h32':¬(r.length:Int) < 32:=by omega
   have e5:((t++r).length:Int)-((r.drop 32).length:Int)=(t.length:Int)+32:=by rw[List.length_append,List.length_drop];omega
   have ew2:IntKind.i64.wrap ((t.length:Int)+32)=(t.length:Int)+32:=w64 (by omega) (by omega)
   rw[e]at h;unfold rrV at h;rw[e5]at h
   simp (maxSteps:=1000000) (implicitDefEqProofs:=false) only[pf70,ed,ew,h32',go_sem,↓reduceIte]
   refine⟨33,?_⟩
   simp (maxSteps:=1000000) (implicitDefEqProofs:=false) only[go_sem,↓reduceIte]
   refine loop70 (by omega) hrl (fun i ts=> ?_) 32 0 rfl
   simp (maxSteps:=1000000) (implicitDefEqProofs:=false) only[ew2,go_sem,↓reduceIte]
   exact h
end Go.Proofs.YtegamlopcdjiaaaDoor.Sha
namespace Go.Proofs.YtegamlopcdjiaaaDoor.Sha
open Go Go.Abs Go.Abs.Sha
set_option linter.unusedSimpArgs false
set_option linter.unusedVariables false
set_option maxRecDepth 100000
attribute [local irreducible] W Wops WopsD WL Wop WopD
variable {E:Env} {C:Abs.Spec} {l:List (Nat×Spec1)} {G:List (Nat×V)} {Q:R→List (Nat×V)→Prop}
set_option maxHeartbeats 1000000
end Go.Proofs.YtegamlopcdjiaaaDoor.Sha
namespace Go.Abs
open Go Go.RowKit
set_option linter.unusedVariables false
set_option linter.unusedSimpArgs false
theorem Low.rebase {G Gr:List (Nat×V)} (hd:∀j,look Gr j=none→look G j=none) (hs:∀j r,look G j=some r→∃r',look Gr j=some r'∧r.same r'=true) {r:R} {G':List (Nat×V)} {r2:R} {G2:List (Nat×V)} (h:Low Gr r G' r2 G2):Low G r G' r2 G2:=by
 induction h with
 |refl r G'=>exact .refl r G'
 |fz id L k h0 h1 h2 h3 h4 h ih=>
  refine .fz id L k (hd id h0) h1 h2 h3 (fun j r hj=> ?_) ih
  obtain⟨r',e1,e2⟩:=hs j r hj
  obtain⟨r2,e3,e4⟩:=h4 j r' e1
  exact⟨r2,e3,V.same_trans' e2 e4⟩
 |wk h1 h2 h ih=>exact .wk h1 h2 ih
 |drop h1 h2 h ih=>
  refine .drop h1 (fun j r hj=> ?_) ih
  obtain⟨r',e1,e2⟩:=hs j r hj
  obtain⟨r2,e3,e4⟩:=h2 j r' e1
  exact⟨r2,e3,V.same_trans' e2 e4⟩
theorem look_upd_none {G:List (Nat×V)} {id j:Nat} {y:V}:look (upd G id y) j=none→look G j=none:=by
 intro h
 by_cases e:j=id
 ·subst e
  cases hx:look G j with
  |none=>rfl
  |some x=>rw[look_upd_same hx]at h;cases h
 ·rwa [look_upd_ne e]at h
theorem Low.upd {G:List (Nat×V)} {id:Nat} {x y:V} (hx:look G id=some x) (hxy:x.same y=true) {r:R} {G':List (Nat×V)} {r2:R} {G2:List (Nat×V)} (h:Low (upd G id y) r G' r2 G2):Low G r G' r2 G2:=by
 refine h.rebase (fun j=>look_upd_none) (fun j r hj=> ?_)
 by_cases e:j=id
 ·subst e
  rw[hx]at hj;cases hj
  exact⟨y,look_upd_same hx,hxy⟩
 ·exact⟨r,by rw[look_upd_ne e];exact hj,V.same_refl r⟩
theorem Row.upd {G0 G:List (Nat×V)} {sz:Nat} {z x:V} {els:List V} (h:Row G0 G sz z x els) {id:Nat} {u y:V} (hid:look G0 id=some u):Row (upd G0 id y) (upd G id y) sz z x els:=by
 obtain⟨he,h⟩:=h
 have hG:=he id u hid
 refine⟨fun j w hj=> ?_,?_⟩
 ·by_cases e:j=id
  ·subst e;rw[look_upd_same hid]at hj;rw[look_upd_same hG];exact hj
  ·rw[look_upd_ne e]at hj⊢;exact he j w hj
 ·rcases h with h|⟨i,c,L,h1,h2,h3,h4⟩
  ·exact .inl h
  ·have ne:i≠id:=by rintro rfl;rw[hid]at h2;cases h2
   exact .inr ⟨i,c,L,h1,by rw[look_upd_ne ne];exact h2,by rw[look_upd_ne ne];exact h3,h4⟩
namespace Sha
def rdMany:Nat→Rd→List Int×Rd
 |0,s=>([],s)
 |k+1,s=>((rdUpto 21 s).1::(rdMany k (rdUpto 21 s).2).1,(rdMany k (rdUpto 21 s).2).2)
structure RdMany (b:List Int) (w:Bool) (k:Nat) (l r:List Int) (w':Bool):Prop where
 num:∀x∈l,0≤x∧x≤21
 cnt:l.length=k
 byt:Byt r
 len:r.length≤b.length
 suf:∃u,b=u++r
 right:w'=false→w=false∧b=nums l++r
theorem rdMany_all:∀{k:Nat} {b r l:List Int} {w w':Bool},rdMany k (b,w)=(l,r,w')→Byt b→RdMany b w k l r w'
 |0,b,r,l,w,w',e,hb=>by
  simp only[rdMany,Prod.mk.injEq]at e
  obtain⟨rfl,rfl,rfl⟩:=e
  exact⟨(fun x hx=>by cases hx),rfl,hb,Nat.le_refl _,⟨[],rfl⟩,fun h=>⟨h,rfl⟩⟩
 |k+1,b,r,l,w,w',e,hb=>by
  rcases e1:rdUpto 21 (b,w)with⟨n1,r1,w1⟩
  rcases e2:rdMany k (r1,w1)with⟨l2,r2,w2⟩
  simp only[rdMany,e1,e2,Prod.mk.injEq]at e
  obtain⟨rfl,rfl,rfl⟩:=e
  obtain⟨a1,a2,a3,a4,⟨u1,a5⟩,a6⟩:=rdUpto_all e1 hb (by omega)
  have ih:=rdMany_all e2 a1
  obtain⟨u2,hu⟩:=ih.suf
  refine⟨fun x hx=> ?_,by rw[List.length_cons,ih.cnt],ih.byt,by have:=ih.len;omega,⟨u1++u2,by rw[List.append_assoc,←hu,←a5]⟩,fun h=> ?_⟩
  ·rcases List.mem_cons.1 hx with rfl|hx
   ·exact⟨a3,a4⟩
   ·exact ih.num x hx
  ·obtain⟨h1,h2⟩:=ih.right h
   obtain⟨h3,h4⟩:=a6 h1
   exact⟨h3,by simp only[nums,List.append_assoc];rw[←h2,←h4]⟩
theorem rdMany_of:∀{l r:List Int},(∀x∈l,0≤x∧x≤21)→rdMany l.length (nums l++r,false)=(l,(r,false))
 |[],r,_=>rfl
 |x::l,r,h=>by
  have hx:=h x (List.mem_cons_self ..)
  have e1:=rdUpto_of (top:=21) (n:=x.toNat) (r:=nums l++r) (by omega) (by omega)
  rw[show ((x.toNat:Nat):Int)=x by omega]at e1
  have e2:=rdMany_of (l:=l) (r:=r) fun y hy=>h y (List.mem_cons_of_mem _ hy)
  simp only[List.length_cons,nums,List.append_assoc,rdMany,e1,e2]
theorem rdMany_snoc:∀{k:Nat} {s:Rd},rdMany (k+1) s=((rdMany k s).1++[(rdUpto 21 (rdMany k s).2).1],(rdUpto 21 (rdMany k s).2).2)
 |0,s=>rfl
 |k+1,s=>by
  rw[rdMany,rdMany_snoc]
  simp only[rdMany,List.cons_append]
def rdAccu (s:Rd):AccS×Rd:=
 let p1:=rdUpto 21 s
 let p2:=rdUpto 1099511627776 p1.2
 let p3:=rdUpto 1099511627776 p2.2
 let p4:=rdHash p3.2
 let p5:=rdUpto 21 p4.2
 let p6:=rdMany p5.1.toNat p5.2
 let p7:=rdHash p6.2
 (⟨p1.1,p2.1,p3.1,p4.1,p6.1,p7.1⟩,p7.2)
def AccS.bytes (a:AccS):List Int:=num a.who.toNat++a.said++a.ta
structure RdAccu (b:List Int) (w:Bool) (a:AccS) (r:List Int) (w':Bool):Prop where
 wf:a.wf
 cnt:a.fr.length≤21
 byt:Byt r
 len:r.length≤b.length
 suf:∃u,b=u++r
theorem rdAccu_all {b r:List Int} {w w':Bool} {a:AccS} (e:rdAccu (b,w)=(a,r,w')) (hb:Byt b):RdAccu b w a r w':=by
 unfold rdAccu at e
 rcases e1:rdUpto 21 (b,w)with⟨n1,r1,w1⟩
 rcases e2:rdUpto 1099511627776 (r1,w1)with⟨n2,r2,w2⟩
 rcases e3:rdUpto 1099511627776 (r2,w2)with⟨n3,r3,w3⟩
 rcases e4:rdHash (r3,w3)with⟨n4,r4,w4⟩
 rcases e5:rdUpto 21 (r4,w4)with⟨n5,r5,w5⟩
 rcases e6:rdMany n5.toNat (r5,w5)with⟨n6,r6,w6⟩
 rcases e7:rdHash (r6,w6)with⟨n7,r7,w7⟩
 simp only[e1,e2,e3,e4,e5,e6,e7,Prod.mk.injEq]at e
 obtain⟨rfl,rfl,rfl⟩:=e
 obtain⟨a1,a2,a3,a4,⟨u1,a5⟩,_⟩:=rdUpto_all e1 hb (by omega)
 obtain⟨b1,b2,b3,b4,⟨u2,b5⟩,_⟩:=rdUpto_all e2 a1 (by omega)
 obtain⟨c1,c2,c3,c4,⟨u3,c5⟩,_⟩:=rdUpto_all e3 b1 (by omega)
 obtain⟨d1,d2,d3,⟨u4,d5⟩,_⟩:=rdHash_all e4 c1
 obtain⟨f1,f2,f3,f4,⟨u5,f5⟩,_⟩:=rdUpto_all e5 d1 (by omega)
 have g:=rdMany_all e6 f1
 obtain⟨u6,g5⟩:=g.suf
 obtain⟨l1,l2,l3,⟨u7,l5⟩,_⟩:=rdHash_all e7 g.byt
 have gl:=g.len
 have q1:I64 n1:=i64_of a3 (by omega)
 have q2:I64 n2:=i64_of b3 (by omega)
 have q3:I64 n3:=i64_of c3 (by omega)
 refine⟨⟨q1,q2,q3,d3,fun x hx=>i64_of (g.num x hx).1 (by have:=(g.num x hx).2;omega),l3⟩,by show n6.length≤21;rw[g.cnt];omega,l1,by omega,?_⟩
 exact⟨u1++u2++u3++u4++u5++u6++u7,by simp only[List.append_assoc];rw[←l5,←g5,←f5,←d5,←c5,←b5,←a5]⟩
theorem rdAccu_of {a:AccS} {r:List Int} (hw:a.wf) (hm:a.May):rdAccu (a.bytes++r,false)=(a,(r,false)):=by
 obtain⟨l1,l2,l3⟩:=AccS.may_len hm
 obtain⟨m1,m2,m3,m4,m5⟩:=hm
 unfold rdAccu AccS.bytes
 simp only[AccS.said,List.append_assoc]
 have T:∀{n top:Int} {r:List Int},0≤n→n≤top→n≤1099511627776→rdUpto top (num n.toNat++r,false)=(n,(r,false)):=by
  intro n top r h1 h2 h3
  have:=rdUpto_of (top:=top) (n:=n.toNat) (r:=r) (by omega) (by omega)
  rw[this,show ((n.toNat:Nat):Int)=n by omega]
 have T5:∀{r:List Int},rdUpto 21 (num a.fr.length++r,false)=((a.fr.length:Int),(r,false)):=fun {r}=>rdUpto_of (by omega) (by omega)
 rw[T (by omega) (by omega) (by omega)];simp only
 rw[T (by omega) (by omega) (by omega)];simp only
 rw[T (by omega) (by omega) (by omega)];simp only
 rw[rdHash_of hw.ph.2];simp only
 rw[T5];simp only[Int.toNat_natCast]
 rw[rdMany_of fun x hx=>by have:=l3 x hx;omega];simp only
 rw[rdHash_of hw.ta.2]
theorem AccS.bytes_ok {a:AccS} (hw:a.wf) (hm:a.May):Byt a.bytes∧a.bytes.length≤400:=by
 obtain⟨s1,s2⟩:=AccS.said_ok hw hm
 obtain⟨r1,n1⟩:=num_ok (n:=a.who.toNat) (by have:=hm.1;omega)
 refine⟨byt_app (byt_app r1 s1) hw.ta.1,?_⟩
 have:=hw.ta.2
 simp only[AccS.bytes,List.length_append];omega
def accR (a:AccS) (w:Bool):AccS:=if (!w&&a.may)=true then a else .zero
end Sha
end Go.Abs
namespace Go.Abs.Sha
open Go Go.Abs Go.Abs.Srt
theorem cut3' {key:V→Int} (A S B:List V):(A++S++B).take A.length++srt key (((A++S++B).take (A++S).length).drop A.length)++(A++S++B).drop (A++S).length=A++srt key S++B:=by
 rw[List.take_left,List.drop_left,List.drop_left,List.append_assoc A S B,List.take_left]
theorem sigs_of:∀{xs:List V},(∀e∈xs,∃p:Int×List Int,e=sgV p∧I64 p.1∧H32 p.2)→∃sg:List (Int×List Int),xs=sg.map sgV∧∀p∈sg,I64 p.1∧H32 p.2
 |[],_=>⟨[],rfl,fun a ha=>by cases ha⟩
 |x::xs,h=>by
  obtain⟨a,rfl,hw⟩:=h x (List.mem_cons_self ..)
  obtain⟨sg,rfl,hws⟩:=sigs_of (xs:=xs) fun e he=>h e (List.mem_cons_of_mem _ he)
  exact⟨a::sg,rfl,fun b hb=>by rcases List.mem_cons.1 hb with rfl|hb<;>first|exact hw|exact hws _ hb⟩
end Go.Abs.Sha
namespace Go.Proofs.YtegamlopcdjiaaaDoor.Sha
open Go Go.Abs Go.Abs.Sha
set_option linter.unusedSimpArgs false
set_option linter.unusedVariables false
set_option maxRecDepth 100000
def pf131:PF:=
 PF.mk 2 5 9 ((PC.reg [nn (.v 4) (.mv true (.c (.v (.int .u32 0))))]).seq ((PC.reg [mm 5 0,mm 6 1,nn (.t 7) (.un .neg (.t 6)),nn (.t 8) (.call 135
  [.t 5,.t 7]),ma 4 8]).seq PC.ret)) [(.v 4,none)]
def pf135:PF:=
 PF.mk 2 6 17 ((PC.reg [nn (.v 4) (.mv true (.c (.v (.int .u32 0))))]).seq ((PC.reg [mm 6 1,nn (.t 7) (.conv .u64 (.t 6)),nn (.t 8) (.bin .and (.t 7)
  (.c (.v (.int .u64 31)))),ma 5 8]).seq ((PC.reg [mm 9 0,mm 10 5,nn (.t 11) (.bin .shl (.t 9) (.t 10)),mm 12 0,mm 13 5,nn (.t 14) (.bin .sub (.c
  (.v (.int .u64 32))) (.t 13)),nn (.t 15) (.bin .shr (.t 12) (.t 14)),nn (.t 16) (.bin .or (.t 11) (.t 15)),ma 4 16]).seq PC.ret))) [(.v 4,none)]
attribute [local irreducible] W Wops WopsD WL Wop WopD
variable {E:Env} {C:Abs.Spec} {l:List (Nat×Spec1)} {G:List (Nat×V)} {Q:R→List (Nat×V)→Prop}
set_option maxHeartbeats 1000000
def SRl:Spec1
 |[.int .u32 x,.int .i64 n],G,Q=>(Wd x∧-31≤n∧n≤-1)∧Q (.v (.int .u32 (rot x (0-n).toNat))) G
 |_,_,_=>False
theorem SRl_eq {x n}:SRl [.int .u32 x,.int .i64 n] G Q=((Wd x∧-31≤n∧n≤-1)∧Q (.v (.int .u32 (rot x (0-n).toNat))) G):=rfl
def SRo:Spec1
 |[.int .u32 x,.int .i64 n],G,Q=>(Wd x∧1≤n∧n≤31)∧Q (.v (.int .u32 (rot x n.toNat))) G
 |_,_,_=>False
theorem SRo_eq {x n}:SRo [.int .u32 x,.int .i64 n] G Q=((Wd x∧1≤n∧n≤31)∧Q (.v (.int .u32 (rot x n.toNat))) G):=rfl
theorem walk135 {x n:Int} (hx:Wd x) (hn: -31≤n∧n≤-1) (h:Q (.v (.int .u32 (rot x (0-n).toNat))) G):Wf E C pf135 [.int .u32 x,.int .i64 n] G Q:=by
 simp (maxSteps:=1000000) (implicitDefEqProofs:=false) only[pf135,go_sem,↓reduceIte]
 have hd:∀k:Fin 31,bAnd .u64 (IntKind.u64.wrap (-1-(k.val:Int))) 31=31-(k.val:Int):=by decide
 have e:bAnd .u64 (IntKind.u64.wrap n) 31=31-(((-1-n).toNat:Nat):Int):=by
  have:=hd ⟨(-1-n).toNat,by omega⟩
  rw[show -1-(((⟨(-1-n).toNat,by omega⟩:Fin 31).val:Nat):Int)=n from by show -1-(((-1-n).toNat:Nat):Int)=n;omega]at this
  exact this
 rw[e]
 have e2:IntKind.u64.wrap (32-(31-(((-1-n).toNat:Nat):Int)))=0-n:=by
  rw[show 32-(31-(((-1-n).toNat:Nat):Int))=0-n by omega]
  simp only[IntKind.wrap,IntKind.bits,IntKind.signed];simp;omega
 rw[e2,show min (31-(((-1-n).toNat:Nat):Int)).toNat 32=32-(0-n).toNat by omega,show min (0-n).toNat 32=(0-n).toNat by omega,or_rot hx (by omega) (by omega)]
 exact⟨by omega,h⟩
theorem walk131 {x n:Int} (h81:Abs.look l 135=some SRl) (hx:Wd x) (hn:1≤n∧n≤31) (h:Q (.v (.int .u32 (rot x n.toNat))) G):Wf E (specOf l) pf131 [.int .u32 x,.int .i64 n] G Q:=by
 simp (maxSteps:=1000000) (implicitDefEqProofs:=false) only[pf131,h81,SRl_eq,go_sem,↓reduceIte]
 rw[w64 (by omega) (by omega)]
 refine⟨⟨hx,by omega,by omega⟩,?_⟩
 rw[show (0:Int)-(0-n)=n by omega];exact h
end Go.Proofs.YtegamlopcdjiaaaDoor.Sha
