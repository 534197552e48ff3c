/- Laws over plain values, and what functions of the program hand back; no conditions. -/
import Derived.Test.YtegamlopcdjiaaaG1
import Derived.Test.YtegamlopcdjiaaaG3
namespace Go.Proofs.Ytegamlopcdjiaaa.Sha
open Go Go.Abs Go.Abs.Sha
set_option linter.unusedSimpArgs false
set_option linter.unusedVariables false
set_option maxRecDepth 100000
def lp15_0:PC:=
 ((PC.reg [mm 11 5,mm 12 0,nn (.t 13) (.len (.t 12)),nn (.t 14) (.bin .lss (.t 11) (.t 13))]).seq (PC.cond (.t 14) PC.skip (PC.exit 0))).seq
  ((PC.block 1 ((PC.regD 0 [mm 17 0,mm 18 5,nn (.t 19) (.iadrS 1 (.t 17) (.t 18)),nn (.t 20) (.load 1 false (.t 19)),mm 21 1,mm 22 5,nn (.t 23)
  (.iadrS 1 (.t 21) (.t 22)),nn (.t 24) (.load 1 false (.t 23)),nn (.t 25) (.bin .neq (.t 20) (.t 24))] []).seq (PC.cond (.t 25) ((PC.reg [nn (.v 4)
  (.mv true (.c (.v (.bool false))))]).seq PC.ret) PC.skip))).seq (PC.reg [mm 15 5,nn (.t 16) (.bin .add (.t 15) (.c (.v (.int .i64 1)))),ma 5 16]))
def pf15:PF:=
 PF.mk 2 6 26 ((PC.reg [nn (.v 4) (.mv true (.c (.v (.bool false))))]).seq (((PC.reg [mm 6 0,nn (.t 7) (.len (.t 6)),mm 8 1,nn (.t 9) (.len (.t 8)),
  nn (.t 10) (.bin .neq (.t 7) (.t 9))]).seq (PC.cond (.t 10) ((PC.reg [nn (.v 4) (.mv true (.c (.v (.bool false))))]).seq PC.ret) PC.skip)).seq
  (((PC.reg [nn (.v 5) (.mv true (.c (.v (.int .i64 0))))]).seq (PC.block 0 (PC.loop [0,1,5] lp15_0))).seq ((PC.reg [nn (.v 4) (.mv true (.c (.v
  (.bool true))))]).seq PC.ret)))) [(.v 4,none)]
def lp106_0:PC:=
 ((PC.reg [mm 10 6,nn (.t 11) (.bin .lss (.t 10) (.c (.v (.int .i64 10)))),nn (.t 12) (.mv false (.t 11)),⟨.t 13,.fadr 1 1 (.v 1),some (.t 12,
  true)⟩,⟨.t 14,.load 1 false (.t 13),some (.t 12,true)⟩,gm 15 6 12 true,⟨.t 16,.bin .add (.t 14) (.t 15),some (.t 12,true)⟩,⟨.t 17,.fadr 0
  0 (.v 1),some (.t 12,true)⟩,⟨.t 18,.load 1 false (.t 17),some (.t 12,true)⟩,⟨.t 19,.len (.t 18),some (.t 12,true)⟩,⟨.t 20,.bin .lss (.t
  16) (.t 19),some (.t 12,true)⟩,nn (.t 21) (.pick (.t 12) (.t 20) (.c (.v (.bool false))))]).seq (PC.cond (.t 21) PC.skip (PC.exit 0))).seq
  ((PC.block 1 ((PC.reg [mm 24 4,nn (.t 25) (.fadr 0 0 (.v 1)),nn (.t 26) (.load 1 false (.t 25)),nn (.t 27) (.fadr 1 1 (.v 1)),nn (.t 28) (.load 1
  false (.t 27)),mm 29 6,nn (.t 30) (.bin .add (.t 28) (.t 29)),nn (.t 31) (.iadrS 1 (.t 26) (.t 30)),nn (.t 32) (.load 1 false (.t 31)),nn (.t
  33) (.bin .rem (.t 32) (.c (.v (.int .u8 128)))),nn (.t 34) (.conv .u64 (.t 33)),mm 35 5,nn (.t 36) (.bin .mul (.t 34) (.t 35)),nn (.t 37) (.bin
  .add (.t 24) (.t 36)),ma 4 37]).seq ((PC.reg [mm 38 5,nn (.t 39) (.bin .mul (.t 38) (.c (.v (.int .u64 128)))),ma 5 39]).seq ((PC.reg [nn (.t 40)
  (.fadr 0 0 (.v 1)),nn (.t 41) (.load 1 false (.t 40)),nn (.t 42) (.fadr 1 1 (.v 1)),nn (.t 43) (.load 1 false (.t 42)),mm 44 6,nn (.t 45) (.bin
  .add (.t 43) (.t 44)),nn (.t 46) (.iadrS 1 (.t 41) (.t 45)),nn (.t 47) (.load 1 false (.t 46)),nn (.t 48) (.bin .lss (.t 47) (.c (.v (.int .u8
  128))))]).seq (PC.cond (.t 48) (((PC.regD 0 [mm 49 4,nn (.t 50) (.call 104 [.t 49]),nn (.t 51) (.fadr 0 0 (.v 1)),nn (.t 52) (.load 1 false (.t
  51)),nn (.t 53) (.fadr 1 1 (.v 1)),nn (.t 54) (.load 1 false (.t 53)),nn (.t 55) (.fadr 1 1 (.v 1)),nn (.t 56) (.load 1 false (.t 55)),mm 57 6,
  nn (.t 58) (.bin .add (.t 56) (.t 57)),nn (.t 59) (.bin .add (.t 58) (.c (.v (.int .i64 1)))),nn (.t 60) (.slcS 1 (.t 52) (some (.t 54)) (some (.t
  59)) none),nn (.t 61) (.call 15 [.t 50,.t 60]),nn (.t 62) (.un .not (.t 61))] []).seq (PC.cond (.t 62) (PC.exit 0) PC.skip)).seq ((PC.reg [nn (.t
  63) (.fadr 1 1 (.v 1)),nn (.t 64) (.load 1 false (.t 63)),mm 65 6,nn (.t 66) (.bin .add (.t 64) (.t 65)),nn (.t 67) (.bin .add (.t 66) (.c (.v
  (.int .i64 1)))),nn (.t 68) (.fadr 1 1 (.v 1)),nn .no (.store 1 (.t 68) (.t 67))]).seq ((PC.reg [nn (.t 69) (.load 3 true (.v 1)),mm 70 4,nn .no
  (.store 3 (.v 2) (.t 69)),ma 3 70]).seq PC.ret))) PC.skip))))).seq (PC.reg [mm 22 6,nn (.t 23) (.bin .add (.t 22) (.c (.v (.int .i64 1)))),ma 6
  23]))
def pf106:PF:=
 PF.mk 1 7 73 ((PC.reg [nn (.v 1) (.box (.v 0)),nn (.v 2) (.alloc (.agg [.nils,.int .i64 0,.bool false])),nn (.v 3) (.mv true (.c (.v (.int .u64
  0))))]).seq (((PC.reg [nn (.t 7) (.fadr 2 2 (.v 1)),nn (.t 8) (.load 1 false (.t 7))]).seq (PC.cond (.t 8) ((PC.reg [nn (.t 9) (.load 3 true (.v
  1)),nn .no (.store 3 (.v 2) (.t 9)),nn (.v 3) (.mv true (.c (.v (.int .u64 0))))]).seq PC.ret) PC.skip)).seq ((PC.reg [nn (.v 4) (.mv true (.c (.v
  (.int .u64 0))))]).seq ((PC.reg [nn (.v 5) (.mv true (.c (.v (.int .u64 1))))]).seq (((PC.reg [nn (.v 6) (.mv true (.c (.v (.int .i64 0))))]).seq
  (PC.block 0 (PC.loop [1,2,4,5,6] lp106_0))).seq ((PC.reg [nn (.t 71) (.fadr 2 2 (.v 1)),nn .no (.store 1 (.t 71) (.c (.v (.bool true))))]).seq
  ((PC.reg [nn (.t 72) (.load 3 true (.v 1)),nn .no (.store 3 (.v 2) (.t 72)),nn (.v 3) (.mv true (.c (.v (.int .u64 0))))]).seq PC.ret))))))) [(.v
  2,some (3,true)),(.v 3,none)]
def pf58:PF:=
 PF.mk 2 8 30 ((PC.reg [nn (.v 2) (.box (.v 0)),nn (.v 4) (.alloc (.agg [.nils,.int .i64 0,.bool false])),nn (.v 5) (.mv true (.c (.v (.int .i64
  0))))]).seq ((PC.reg [nn (.t 9) (.load 3 true (.v 2)),nn (.t 10) (.call 106 [.t 9]),nn (.t 8) (.mv false (.t 10)),nn (.t 11) (.ext (.t 8) 0),nn
  (.t 12) (.ext (.t 8) 1),nn (.v 6) (.alloc (.agg [.nils,.int .i64 0,.bool false])),nn .no (.store 3 (.v 6) (.t 11)),ma 7 12]).seq (((PC.reg [nn
  (.t 13) (.fadr 2 2 (.v 6)),nn (.t 14) (.load 1 false (.t 13)),nn (.t 15) (.mv false (.t 14)),gm 16 1 15 false,⟨.t 17,.bin .lss (.t 16) (.c (.v
  (.int .i64 0))),some (.t 15,false)⟩,nn (.t 18) (.pick (.t 15) (.c (.v (.bool true))) (.t 17)),nn (.t 19) (.mv false (.t 18)),gm 20 7 19 false,
  gm 21 1 19 false,⟨.t 22,.conv .u64 (.t 21),some (.t 19,false)⟩,⟨.t 23,.bin .gtr (.t 20) (.t 22),some (.t 19,false)⟩,nn (.t 24) (.pick (.t
  19) (.c (.v (.bool true))) (.t 23))]).seq (PC.cond (.t 24) ((PC.reg [nn (.t 25) (.fadr 2 2 (.v 2)),nn .no (.store 1 (.t 25) (.c (.v (.bool
  true))))]).seq ((PC.reg [nn (.t 26) (.load 3 true (.v 2)),nn .no (.store 3 (.v 4) (.t 26)),nn (.v 5) (.mv true (.c (.v (.int .i64 0))))]).seq
  PC.ret)) PC.skip)).seq ((PC.reg [nn (.t 27) (.load 3 true (.v 6)),mm 28 7,nn (.t 29) (.conv .i64 (.t 28)),nn .no (.store 3 (.v 4) (.t 27)),ma 5
  29]).seq PC.ret)))) [(.v 4,some (3,true)),(.v 5,none)]
def lp61_0:PC:=
 ((PC.reg [mm 21 5,nn (.t 22) (.bin .lss (.t 21) (.c (.v (.int .i64 32))))]).seq (PC.cond (.t 22) PC.skip (PC.exit 0))).seq ((PC.block 1 (PC.reg [mm 25
  5,nn (.t 26) (.fadr 0 0 (.v 1)),nn (.t 27) (.load 1 false (.t 26)),nn (.t 28) (.fadr 1 1 (.v 1)),nn (.t 29) (.load 1 false (.t 28)),mm 30 5,nn
  (.t 31) (.bin .add (.t 29) (.t 30)),nn (.t 32) (.iadrS 1 (.t 27) (.t 31)),nn (.t 33) (.load 1 false (.t 32)),nn (.t 34) (.iadrA 32 (.v 4) (.t
  25)),nn .no (.store 1 (.t 34) (.t 33))])).seq (PC.reg [mm 23 5,nn (.t 24) (.bin .add (.t 23) (.c (.v (.int .i64 1)))),ma 5 24]))
def pf61:PF:=
 PF.mk 1 6 41 ((PC.reg [nn (.v 1) (.box (.v 0)),nn (.v 2) (.alloc (.agg [.nils,.int .i64 0,.bool false])),nn (.v 3) (.alloc (.arr .u8 32 [0,0,0,
  0,0,0,0,0,0,0,0,0,0,0,0,0,0,0,0,0,0,0,0,0,0,0,0,0,0,0,0,0]))]).seq ((PC.reg [nn (.t 6) (.build (.arr .u8 32 [0,0,0,0,
  0,0,0,0,0,0,0,0,0,0,0,0,0,0,0,0,0,0,0,0,0,0,0,0,0,0,0,0]) []),nn (.v 4) (.alloc (.arr .u8 32 [0,0,0,0,0,0,0,0,0,
  0,0,0,0,0,0,0,0,0,0,0,0,0,0,0,0,0,0,0,0,0,0,0])),nn .no (.store 32 (.v 4) (.t 6))]).seq (((PC.reg [nn (.t 7) (.fadr 2 2 (.v
  1)),nn (.t 8) (.load 1 false (.t 7)),nn (.t 9) (.mv false (.t 8)),⟨.t 10,.fadr 0 0 (.v 1),some (.t 9,false)⟩,⟨.t 11,.load 1 false (.t 10),
  some (.t 9,false)⟩,⟨.t 12,.len (.t 11),some (.t 9,false)⟩,⟨.t 13,.fadr 1 1 (.v 1),some (.t 9,false)⟩,⟨.t 14,.load 1 false (.t 13),some
  (.t 9,false)⟩,⟨.t 15,.bin .sub (.t 12) (.t 14),some (.t 9,false)⟩,⟨.t 16,.bin .lss (.t 15) (.c (.v (.int .i64 32))),some (.t 9,false)⟩,nn
  (.t 17) (.pick (.t 9) (.c (.v (.bool true))) (.t 16))]).seq (PC.cond (.t 17) ((PC.reg [nn (.t 18) (.fadr 2 2 (.v 1)),nn .no (.store 1 (.t 18) (.c
  (.v (.bool true))))]).seq ((PC.regD 0 [nn (.t 19) (.load 3 true (.v 1)),nn (.t 20) (.load 32 true (.v 4)),nn .no (.store 3 (.v 2) (.t 19)),nn .no
  (.store 32 (.v 3) (.t 20))] [(1,2)]).seq PC.ret)) PC.skip)).seq (((PC.reg [nn (.v 5) (.mv true (.c (.v (.int .i64 0))))]).seq (PC.block 0 (PC.loop
  [1,2,3,4,5] lp61_0))).seq ((PC.reg [nn (.t 35) (.fadr 1 1 (.v 1)),nn (.t 36) (.load 1 false (.t 35)),nn (.t 37) (.bin .add (.t 36) (.c (.v
  (.int .i64 32)))),nn (.t 38) (.fadr 1 1 (.v 1)),nn .no (.store 1 (.t 38) (.t 37))]).seq ((PC.regD 0 [nn (.t 39) (.load 3 true (.v 1)),nn (.t 40)
  (.load 32 true (.v 4)),nn .no (.store 3 (.v 2) (.t 39)),nn .no (.store 32 (.v 3) (.t 40))] [(1,2)]).seq PC.ret)))))) [(.v 2,some (3,true)),(.v
  3,some (32,true))]
attribute [local irreducible] W Wops WopsD WL Wop WopD
variable {E:Env} {C:Abs.Spec} {l:List (Nat×Spec1)} {G:List (Nat×V)} {Q:R→List (Nat×V)→Prop}
set_option maxHeartbeats 1000000
def SSm:Spec1
 |[x,y],G,Q=>∃a b,(byV x=some a∧byV y=some b∧a.length < 1000000000000∧b.length < 1000000000000)∧Q (.v (.bool (decide (a=b)))) G
 |_,_,_=>False
theorem SSm_eq {x y}:SSm [x,y] G Q=(∃a b,(byV x=some a∧byV y=some b∧a.length < 1000000000000∧b.length < 1000000000000)∧Q (.v (.bool (decide (a=b)))) G):=rfl
def SRm:Spec1
 |[.agg [.sli .u8 B,.int .i64 at_,.bool w]],G,Q=>∃t r,(B=t++r∧at_=t.length∧Byt B∧B.length < 1000000000000)∧Q (.tup [rrV B (rdNum (r,w)).2,.int .u64 (rdNum (r,w)).1]) G
 |_,_,_=>False
theorem SRm_eq {B at_ w}:SRm [.agg [.sli .u8 B,.int .i64 at_,.bool w]] G Q=(∃t r,(B=t++r∧at_=t.length∧Byt B∧B.length < 1000000000000)∧Q (.tup [rrV B (rdNum (r,w)).2,.int .u64 (rdNum (r,w)).1]) G):=rfl
def SRu:Spec1
 |[.agg [.sli .u8 B,.int .i64 at_,.bool w],.int .i64 top],G,Q=>∃t r n r2 w2,(B=t++r∧at_=t.length∧Byt B∧B.length < 1000000000000∧(0≤top∧top < 9000000000000000000)∧rdUpto top (r,w)=(n,r2,w2))∧Q (.tup [.agg [.sli .u8 B,.int .i64 ((B.length:Int)-r2.length),.bool w2],.int .i64 n]) G
 |_,_,_=>False
theorem SRu_eq {B at_ w top}:SRu [.agg [.sli .u8 B,.int .i64 at_,.bool w],.int .i64 top] G Q=(∃t r n r2 w2,(B=t++r∧at_=t.length∧Byt B∧B.length < 1000000000000∧(0≤top∧top < 9000000000000000000)∧rdUpto top (r,w)=(n,r2,w2))∧Q (.tup [.agg [.sli .u8 B,.int .i64 ((B.length:Int)-r2.length),.bool w2],.int .i64 n]) G):=rfl
def SRh:Spec1
 |[.agg [.sli .u8 B,.int .i64 at_,.bool w]],G,Q=>∃t r hh r2 w2,(B=t++r∧at_=t.length∧Byt B∧B.length < 1000000000000∧rdHash (r,w)=(hh,r2,w2))∧Q (.tup [.agg [.sli .u8 B,.int .i64 ((B.length:Int)-r2.length),.bool w2],.arr .u8 32 hh]) G
 |_,_,_=>False
theorem SRh_eq {B at_ w}:SRh [.agg [.sli .u8 B,.int .i64 at_,.bool w]] G Q=(∃t r hh r2 w2,(B=t++r∧at_=t.length∧Byt B∧B.length < 1000000000000∧rdHash (r,w)=(hh,r2,w2))∧Q (.tup [.agg [.sli .u8 B,.int .i64 ((B.length:Int)-r2.length),.bool w2],.arr .u8 32 hh]) G):=rfl
theorem loop15 {a b:List Int} {QQ:Ex→St→Prop} (hl:a.length=b.length) (hal:a.length < 1000000000000)
  (hx:∀(i:Nat) ts,a=b→QQ (.exit 0) ⟨[some (.v (.sli .u8 a)),some (.v (.sli .u8 b)),none,none,none,some (.v (.int .i64 i))],ts,[],G⟩)
  (hr:∀(i:Nat) ts,a≠b→QQ .ret ⟨[some (.v (.sli .u8 a)),some (.v (.sli .u8 b)),none,none,some (.v (.bool false)),some (.v (.int .i64 i))],ts,[],G⟩):
  ∀(m i:Nat),i+m=a.length→a.take i=b.take i→WL (W E C lp15_0) [0,1,5] QQ (m+1) ⟨[some (.v (.sli .u8 a)),some (.v (.sli .u8 b)),none,none,none,some (.v (.int .i64 i))],[],[],G⟩:=by
 intro m
 induction m with
 |zero=>
  intro i hi he
  have h1:¬(i:Int) < (a.length:Int):=by omega
  have e:a=b:=by
   rw[List.take_of_length_le (by omega),List.take_of_length_le (by omega)]at he;exact he
  refine WL_in lp15_0.eq_1 ?_
  simp -implicitDefEqProofs only[h1,go_sem,↓reduceIte]
  exact hx i _ e
 |succ m ih=>
  intro i hi he
  have h1:(i:Int) < (a.length:Int):=by omega
  have h2:(i:Int) < (b.length:Int):=by omega
  have h0:(0:Int)≤i:=by omega
  have ew:IntKind.i64.wrap ((i:Int)+1)=((i+1:Nat):Int):=by rw[w64 (by omega) (by omega)];simp
  refine WL_in lp15_0.eq_1 ?_
  have ta:=snoc_step' (b:=a) (i:=i) (by omega)
  have tb:=snoc_step' (b:=b) (i:=i) (by omega)
  by_cases hc:a.getD i 0=b.getD i 0
  ·have ihh:=ih (i+1) (by omega) (by rw[←ta,←tb,he,hc])
   simp -implicitDefEqProofs only[h0,h1,h2,Int.toNat_natCast,hc,ew,go_sem,↓reduceIte]
   exact ihh
  ·have hne:a≠b:=by rintro rfl;exact hc rfl
   have hc':(a.getD i 0=b.getD i 0)=False:=eq_false hc
   simp -implicitDefEqProofs only[h0,h1,h2,Int.toNat_natCast,hc',ew,go_sem,↓reduceIte]
   exact hr i _ hne
theorem walk15 {a b:List Int} (hal:a.length < 1000000000000) (hbl:b.length < 1000000000000) (h:Q (.v (.bool (decide (a=b)))) G):Wf E C pf15 [.sli .u8 a,.sli .u8 b] G Q:=by
 by_cases hl:a.length=b.length
 ·have hl':(a.length:Int)=b.length:=by omega
  simp -implicitDefEqProofs only[pf15,hl',go_sem,↓reduceIte]
  refine⟨a.length+1,?_⟩
  simp -implicitDefEqProofs only[go_sem,↓reduceIte]
  refine loop15 hl hal (fun i ts e=> ?_) (fun i ts e=> ?_) a.length 0 (by omega) rfl
  ·simp -implicitDefEqProofs only[go_sem,↓reduceIte]
   exact finB h (by simp[e])
  ·simp -implicitDefEqProofs only[go_sem,↓reduceIte]
   exact finB h (by simp[e])
 ·have hl':((a.length:Int)=b.length)=False:=by simp;omega
  simp -implicitDefEqProofs only[pf15,hl',go_sem,↓reduceIte]
  refine finB h ?_
  have:a≠b:=by rintro rfl;exact hl rfl
  simp[this]
theorem loop106 {t r:List Int} {QQ:Ex→St→Prop} (h61:Abs.look l 104=some (SRn 10)) (h26:Abs.look l 15=some SSm) (hb:Byt (t++r)) (hl:(t++r).length < 1000000000000)
  (hx:∀(acc un:Int) (i:Int) ts,decN r=none→QQ (.exit 0) ⟨[none,some (.lp 0 []),some (.lp 1 []),none,some (.v (.int .u64 acc)),some (.v (.int .u64 un)),some (.v (.int .i64 i))],ts,[⟨false,.agg [.sli .u8 (t++r),.int .i64 t.length,.bool false]⟩,⟨false,.agg [.nils,.int .i64 0,.bool false]⟩],G⟩)
  (hr:∀(n acc un i:Int) ts (n2 k:Nat),decN r=some (n2,k)→n=n2→QQ .ret ⟨[none,some (.lp 0 []),some (.lp 1 []),some (.v (.int .u64 n)),some (.v (.int .u64 acc)),some (.v (.int .u64 un)),some (.v (.int .i64 i))],ts,[⟨false,.agg [.sli .u8 (t++r),.int .i64 ((t.length:Int)+k),.bool false]⟩,⟨false,.agg [.sli .u8 (t++r),.int .i64 ((t.length:Int)+k),.bool false]⟩],G⟩):
  ∀(m i acc un:Nat),i+m=10→(i≤9→acc < 128 ^ i)→decN r=decI i acc (r.drop i)→i≤r.length→(i≤9→un=128 ^ i)→(i≤9→∀k,0 < k→num (acc+k*128 ^ i)=r.take i++num k)→(i=0→acc=0)→
   WL (W E (specOf l) lp106_0) [1,2,4,5,6] QQ (m+1) ⟨[none,some (.lp 0 []),some (.lp 1 []),none,some (.v (.int .u64 acc)),some (.v (.int .u64 un)),some (.v (.int .i64 i))],[],[⟨false,.agg [.sli .u8 (t++r),.int .i64 t.length,.bool false]⟩,⟨false,.agg [.nils,.int .i64 0,.bool false]⟩],G⟩:=by
 intro m
 induction m with
 |zero=>
  intro i acc un hi ha hd hil hun hnum h00
  obtain rfl:i=10:=by omega
  have hN:decN r=none:=by
   rw[hd];cases hq:r.drop 10 with
   |nil=>rfl
   |cons c r=>simp[decI]
  refine WL_in lp106_0.eq_1 ?_
  simp -implicitDefEqProofs only[go_sem,↓reduceIte]
  exact hx _ _ _ _ hN
 |succ m ih=>
  intro i acc un hi ha hd hil hun hnum h00
  replace ha:=ha (by omega)
  replace hnum:=hnum (by omega)
  have hrl:t.length+r.length < 1000000000000:=by rw[List.length_append]at hl;exact hl
  have hbr:Byt r:=fun x hx=>hb x (List.mem_append_right _ hx)
  have h2:(i:Int) < 10:=by omega
  have ew:IntKind.i64.wrap ((i:Int)+1)=((i+1:Nat):Int):=by rw[w64 (by omega) (by omega)];simp
  have ea:IntKind.i64.wrap ((t.length:Int)+i)=((t.length+i:Nat):Int):=by rw[w64 (by omega) (by omega)];simp
  have ea1:IntKind.i64.wrap (((t.length+i:Nat):Int)+1)=((t.length+i+1:Nat):Int):=by rw[w64 (by omega) (by omega)];simp
  refine WL_in lp106_0.eq_1 ?_
  by_cases hlt:i < r.length
  ·have h1:((t.length+i:Nat):Int) < ((t.length+r.length:Nat):Int):=by omega
   have h0:(0:Int)≤((t.length+i:Nat):Int):=by omega
   have hg:(t++r).getD (t.length+i) 0=r.getD i 0:=by rw[List.getD_eq_getElem?_getD,List.getElem?_append_right (by omega),Nat.add_sub_cancel_left,←List.getD_eq_getElem?_getD]
   have hc:0≤r.getD i 0∧r.getD i 0≤255:=by
    have e:r.getD i 0=r[i]:=by simp[hlt]
    rw[e];exact hbr _ (List.getElem_mem hlt)
   have hdr:=drop_cons hlt
   have htk:=snoc_step' hlt
   have hsl:((t++r).take (t.length+i+1)).drop t.length=r.take (i+1):=by
    rw[show t.length+i+1=t.length+(i+1)by omega,List.take_length_add_append,List.drop_left]
   have hih:=ih (i+1)
   generalize hcd:r.getD i 0=c at*
   obtain⟨C,rfl⟩:∃C:Nat,c=C:=⟨c.toNat,by omega⟩
   have hC:C≤255:=by omega
   rw[hdr]at hd
   simp only[decI,Int.toNat_natCast]at hd
   rw[if_neg (by omega)]at hd
   have hP:=pow_le9 (show i≤9 by omega)
   have hun':=hun (by omega)
   have er:(C:Int).tmod 128=((C % 128:Nat):Int):=by rw[Int.tmod_eq_emod_of_nonneg (by omega)];simp
   have wn:∀n:Nat,IntKind.u64.wrap (n:Int)=((n % 18446744073709551616:Nat):Int):=fun n=>by simp only[IntKind.wrap,IntKind.bits,IntKind.signed];simp
   have e1:∀D:Nat,D < 256→IntKind.u64.wrap ((D:Nat):Int)=((D:Nat):Int):=fun D hD=>w64u (by omega)
   have e2:∀D:Nat,IntKind.u64.wrap ((D:Int)*(un:Int))=((D*un % 18446744073709551616:Nat):Int):=fun D=>by rw[←wn];simp
   have e3:∀D:Nat,IntKind.u64.wrap ((acc:Int)+((D*un % 18446744073709551616:Nat):Int))=(((acc+D*un) % 18446744073709551616:Nat):Int):=fun D=>by
    have:=wn (acc+D*un % 18446744073709551616)
    rw[Int.natCast_add]at this
    rw[this,Nat.add_mod_mod]
   have e4:IntKind.u64.wrap ((un:Int)*128)=((un*128 % 18446744073709551616:Nat):Int):=by rw[←wn];simp
   by_cases hlt8:C < 128
   ·have hlt8':(C:Int) < 128:=by omega
    have hm:C % 128=C:=by omega
    have hv:∀N:Nat,N=(acc+C*128 ^ i) % 18446744073709551616→(num N=r.take (i+1)↔¬((i=9∧1 < (C:Int))∨(0 < i∧(C:Int)=0))):=by
     intro N hN
     rw[←htk]
     have hcn:0 < C→num (acc+C*128 ^ i)=r.take i++[(C:Int)]:=fun h=>by rw[hnum C h,num_small hlt8]
     constructor
     ·intro e
      rintro (⟨h9,hc1⟩|⟨h0,hc0⟩)
      ·rw[←hcn (by omega)]at e
       have hinj:=num_inj e
       subst h9
       have h128:(128:Nat) ^ 9=9223372036854775808:=by decide
       have h5:2*9223372036854775808≤C*9223372036854775808:=Nat.mul_le_mul_right _ (by omega)
       have h6:=Nat.mod_lt (acc+C*128 ^ 9) (show 0 < 18446744073709551616 by decide)
       rw[←hN,hinj,h128]at h6
       omega
      ·rw[hc0]at e
       have:=num_last e
       have hl2:=congrArg List.length this
       rw[List.length_take]at hl2
       simp only[List.length_nil]at hl2;omega
     ·intro hnb
      have hlt64:acc+C*128 ^ i < 18446744073709551616:=by
       by_cases h9:i=9
       ·subst h9
        have h128:(128:Nat) ^ 9=9223372036854775808:=by decide
        have hC1:C≤1:=by omega
        have:C*128 ^ 9≤1*128 ^ 9:=Nat.mul_le_mul_right _ hC1
        omega
       ·have h3:C*128 ^ i≤127*128 ^ i:=Nat.mul_le_mul_right _ (by omega)
        have h4:128*128 ^ i≤9223372036854775808:=by
         rcases p9 (show i≤9 by omega)with rfl|rfl|rfl|rfl|rfl|rfl|rfl|rfl|rfl|rfl<;>first|exact absurd rfl h9|decide
        omega
      rw[hN,Nat.mod_eq_of_lt hlt64]
      by_cases hC0:C=0
      ·have hi0:i=0:=by omega
       subst hi0;subst hC0
       rw[h00 rfl];simp[num_small]
      ·exact hcn (by omega)
    have hNlt:(acc+C*un) % 18446744073709551616 < 18446744073709551616:=Nat.mod_lt _ (by decide)
    have hp10:(acc+C*un) % 18446744073709551616 < 128 ^ 10:=Nat.lt_of_lt_of_le hNlt (by decide)
    rw[hm]at er
    have e1:=e1 C (by omega);have e2:=e2 C;have e3:=e3 C
    have hv':=hv ((acc+C*un) % 18446744073709551616) (by rw[hun'])
    obtain⟨hby,hnl⟩:=num_ok hNlt
    by_cases hbad:(i=9∧1 < (C:Int))∨(0 < i∧(C:Int)=0)
    ·rw[if_pos hbad]at hd
     have hne:¬num ((acc+C*un) % 18446744073709551616)=r.take (i+1):=fun e=>(hv'.1 e) hbad
     simp -implicitDefEqProofs only[h0,h1,h2,Int.toNat_natCast,hg,hcd,ew,ea,ea1,er,e1,e2,e3,e4,hlt8',h61,SRn_eq,h26,SSm_eq,hsl,go_sem,↓reduceIte]
     refine⟨⟨by omega,hp10,by omega⟩,⟨by omega,by omega,by omega⟩,_,_,⟨byV_u8 _,byV_u8 _,by omega,by rw[List.length_take];omega⟩,fun e=> ?_,fun e=> ?_⟩
     ·exact hx _ _ _ _ hd
     ·exact absurd e hne
    ·rw[if_neg hbad,if_pos hlt8']at hd
     have heq:num ((acc+C*un) % 18446744073709551616)=r.take (i+1):=hv'.2 hbad
     have hval:(acc+C*un) % 18446744073709551616=acc+C*128 ^ i:=by
      obtain⟨h5,h6,h7,h8⟩:=decN_spec hbr hd
      rw[hun'];exact Nat.mod_eq_of_lt h5
     simp -implicitDefEqProofs only[h0,h1,h2,Int.toNat_natCast,hg,hcd,ew,ea,ea1,er,e1,e2,e3,e4,hlt8',h61,SRn_eq,h26,SSm_eq,hsl,go_sem,↓reduceIte]
     refine⟨⟨by omega,hp10,by omega⟩,⟨by omega,by omega,by omega⟩,_,_,⟨byV_u8 _,byV_u8 _,by omega,by rw[List.length_take];omega⟩,fun e=> ?_,fun e=> ?_⟩
     ·exact absurd heq e
     ·have hq:=hr ((acc+C*un) % 18446744073709551616:Nat) ((acc+C*un) % 18446744073709551616:Nat) (un*128 % 18446744073709551616:Nat) i
      have e9:((t.length:Int)+((i+1:Nat):Int))=((t.length+i+1:Nat):Int):=by omega
      have hq2:=fun ts=>hq ts _ _ hd (by rw[hval])
      rw[e9]at hq2
      exact hq2 _
   ·have hlt8':¬(C:Int) < 128:=by omega
    by_cases h9:i=9
    ·rw[if_pos (.inl ⟨h9,by omega⟩)]at hd
     have ihh:=hih ((acc+C % 128*un) % 18446744073709551616) (un*128 % 18446744073709551616) (by omega) (fun h=>by omega)
      (by rw[hd];cases hq:r.drop (i+1)with
        |nil=>rfl
        |cons c r=>simp only[decI];rw[if_pos (by omega)]) (by omega) (fun h=>by omega) (fun h=>by omega) (fun h=>by omega)
     have e1:=e1 (C % 128) (by omega);have e2:=e2 (C % 128);have e3:=e3 (C % 128)
     simp -implicitDefEqProofs only[h0,h1,h2,Int.toNat_natCast,hg,hcd,ew,ea,ea1,er,e1,e2,e3,e4,hlt8',go_sem,↓reduceIte]
     repeat' (first|assumption|omega|rfl|refine⟨?_,?_⟩)
    ·rw[if_neg (by omega),if_neg hlt8']at hd
     have hm:C % 128=C-128:=by omega
     have hPs:128 ^ (i+1)=128 ^ i*128:=Nat.pow_succ ..
     have h4:128*128 ^ i≤9223372036854775808:=by
      rcases p9 (show i≤9 by omega)with rfl|rfl|rfl|rfl|rfl|rfl|rfl|rfl|rfl|rfl<;>first|exact absurd rfl h9|decide
     have ha2:acc+(C-128)*128 ^ i < 128 ^ (i+1):=by
      have:(C-128)*128 ^ i≤127*128 ^ i:=Nat.mul_le_mul_right _ (by omega)
      omega
     have hacc:(acc+(C-128)*un) % 18446744073709551616=acc+(C-128)*128 ^ i:=by
      rw[hun',Nat.mod_eq_of_lt (by omega)]
     have hunn:un*128 % 18446744073709551616=128 ^ (i+1):=by
      rw[hun',hPs,Nat.mod_eq_of_lt (by omega)]
     have ihh:=hih (acc+(C-128)*128 ^ i) (128 ^ (i+1)) (by omega) (fun _=>ha2) hd (by omega) (fun _=>rfl)
      (fun _ k hk=>by
       have e5:acc+(C-128)*128 ^ i+k*128 ^ (i+1)=acc+(C-128+128*k)*128 ^ i:=by
        rw[hPs,Nat.add_mul,Nat.mul_comm 128 k,Nat.mul_assoc k,Nat.mul_comm 128 (128 ^ i),Nat.add_assoc]
       rw[e5,hnum _ (by omega),←htk,num_big (by omega),show (C-128+128*k) / 128=k by omega,show (C-128+128*k) % 128+128=C by omega]
       simp) (fun h=>by omega)
     rw[hm]at er
     have e1:=e1 (C-128) (by omega);have e2:=e2 (C-128);have e3:=e3 (C-128)
     simp -implicitDefEqProofs only[h0,h1,h2,Int.toNat_natCast,hg,hcd,ew,ea,ea1,er,e1,e2,e3,e4,hlt8',hacc,hunn,go_sem,↓reduceIte]
     repeat' (first|assumption|omega|rfl|refine⟨?_,?_⟩)
  ·have h1:¬((t.length+i:Nat):Int) < ((t.length+r.length:Nat):Int):=by omega
   have hN:decN r=none:=by
    rw[hd,List.drop_eq_nil_of_le (by omega)];simp[decI]
   simp -implicitDefEqProofs only[h2,ea,h1,go_sem,↓reduceIte]
   exact hx _ _ _ _ hN
theorem walk106 {t r:List Int} {w:Bool} (h61:Abs.look l 104=some (SRn 10)) (h26:Abs.look l 15=some SSm) (hb:Byt (t++r)) (hl:(t++r).length < 1000000000000)
  (h:Q (.tup [rrV (t++r) (rdNum (r,w)).2,.int .u64 (rdNum (r,w)).1]) G):Wf E (specOf l) pf106 [.agg [.sli .u8 (t++r),.int .i64 t.length,.bool w]] G Q:=by
 have hbr:Byt r:=fun x hx=>hb x (List.mem_append_right _ hx)
 have hrl:t.length+r.length < 1000000000000:=by rw[List.length_append]at hl;exact hl
 have elen:((t++r).length:Int)-(r.length:Int)=t.length:=by rw[List.length_append];omega
 simp -implicitDefEqProofs only[pf106,go_sem,↓reduceIte]
 cases w with
 |true=>
  have e:rdNum (r,true)=(0,(r,true)):=rfl
  rw[e]at h;unfold rrV at h;rw[elen]at h
  simp -implicitDefEqProofs only[go_sem,↓reduceIte]
  exact h
 |false=>
  simp -implicitDefEqProofs only[go_sem,↓reduceIte]
  refine⟨11,?_⟩
  simp -implicitDefEqProofs only[go_sem,↓reduceIte]
  refine loop106 h61 h26 hb (by rw[List.length_append];exact hrl) (fun acc un i ts hd=> ?_) (fun n acc un i ts n2 k hd hn=> ?_) 10 0 0 1 rfl (fun _=>by decide) rfl (by omega) (fun _=>rfl) (fun _ k _=>by simp) (fun _=>rfl)
  ·have e:rdNum (r,false)=(0,(r,true)):=by unfold rdNum;simp only[hd];rfl
   rw[e]at h;unfold rrV at h;rw[elen]at h
   simp -implicitDefEqProofs only[go_sem,↓reduceIte]
   exact h
  ·obtain⟨g1,g2,g3,g4⟩:=decN_spec hbr hd
   have e:rdNum (r,false)=(n2,(r.drop k,false)):=by unfold rdNum;simp only[hd];rfl
   have e5:((t++r).length:Int)-((r.drop k).length:Int)=(t.length:Int)+k:=by rw[List.length_append,List.length_drop];omega
   rw[e]at h;unfold rrV at h;rw[e5]at h
   subst hn
   simp -implicitDefEqProofs only[go_sem,↓reduceIte]
   exact h
theorem walk58 {t r:List Int} {w:Bool} {top:Int} (h60:Abs.look l 106=some SRm) (hb:Byt (t++r)) (hl:(t++r).length < 1000000000000) (ht:0≤top∧top < 9000000000000000000)
  (h:Q (.tup [rrV (t++r) (rdUpto top (r,w)).2,.int .i64 (rdUpto top (r,w)).1]) G):Wf E (specOf l) pf58 [.agg [.sli .u8 (t++r),.int .i64 t.length,.bool w],.int .i64 top] G Q:=by
 have hbr:Byt r:=fun x hx=>hb x (List.mem_append_right _ hx)
 have hrl:t.length+r.length < 1000000000000:=by rw[List.length_append]at hl;exact hl
 have elen:((t++r).length:Int)-(r.length:Int)=t.length:=by rw[List.length_append];omega
 have hnt:¬top < 0:=by omega
 have et:IntKind.u64.wrap top=top:=by simp only[IntKind.wrap,IntKind.bits,IntKind.signed];simp;omega
 simp -implicitDefEqProofs only[pf58,h60,SRm_eq,go_sem,↓reduceIte]
 refine⟨t,r,⟨rfl,rfl,hb,by first|exact hl|exact hrl⟩,?_⟩
 cases w with
 |true=>
  have e:rdUpto top (r,true)=(0,(r,true)):=rfl
  have eN:rdNum (r,true)=(0,(r,true)):=rfl
  rw[e]at h;unfold rrV at h;rw[elen]at h
  rw[eN];unfold rrV;rw[elen]
  simp -implicitDefEqProofs only[go_sem,↓reduceIte]
  exact h
 |false=>
  cases hd:decN r with
  |none=>
   have e:rdUpto top (r,false)=(0,(r,true)):=by unfold rdUpto;simp only[hd];rfl
   have eN:rdNum (r,false)=(0,(r,true)):=by unfold rdNum;simp only[hd];rfl
   rw[e]at h;unfold rrV at h;rw[elen]at h
   rw[eN];unfold rrV;rw[elen]
   simp -implicitDefEqProofs only[go_sem,↓reduceIte]
   exact h
  |some p=>
   obtain⟨n,k⟩:=p
   obtain⟨g1,g2,g3,g4⟩:=decN_spec hbr hd
   have eN:rdNum (r,false)=(n,(r.drop k,false)):=by unfold rdNum;simp only[hd];rfl
   rw[eN]
   by_cases hn:top < (n:Int)
   ·have e:rdUpto top (r,false)=(0,(r,true)):=by unfold rdUpto;rw[if_neg (fun e=>by cases e)];simp only[hd];rw[if_pos (.inr hn)]
    rw[e]at h;unfold rrV at h;rw[elen]at h
    unfold rrV
    simp -implicitDefEqProofs only[hnt,et,hn,go_sem,↓reduceIte]
    exact h
   ·have e:rdUpto top (r,false)=((n:Int),(r.drop k,false)):=by unfold rdUpto;rw[if_neg (fun e=>by cases e)];simp only[hd];rw[if_neg (by omega)]
    have en:IntKind.i64.wrap (n:Int)=n:=w64 (by omega) (by omega)
    rw[e]at h;unfold rrV at h
    unfold rrV
    simp -implicitDefEqProofs only[hnt,et,hn,en,go_sem,↓reduceIte]
    simp only[List.length_append]at h
    exact h
theorem loop61 {t r:List Int} {z1 z2:Bx} {QQ:Ex→St→Prop} (hrl:32≤r.length) (hl:t.length+r.length < 1000000000000)
  (hx:∀(i:Int) ts,QQ (.exit 0) ⟨[none,some (.lp 0 []),some (.lp 1 []),some (.lp 2 []),some (.lp 3 []),some (.v (.int .i64 i))],ts,[⟨false,.agg [.sli .u8 (t++r),.int .i64 t.length,.bool false]⟩,z1,z2,⟨false,.arr .u8 32 (r.take 32)⟩],G⟩):
  ∀(m i:Nat),i+m=32→WL (W E C lp61_0) [1,2,3,4,5] QQ (m+1) ⟨[none,some (.lp 0 []),some (.lp 1 []),some (.lp 2 []),some (.lp 3 []),some (.v (.int .i64 i))],[],[⟨false,.agg [.sli .u8 (t++r),.int .i64 t.length,.bool false]⟩,z1,z2,⟨false,.arr .u8 32 (r.take i++zero32.drop i)⟩],G⟩:=by
 intro m
 induction m with
 |zero=>
  intro i hi
  obtain rfl:i=32:=by omega
  have e:r.take 32++zero32.drop 32=r.take 32:=by simp[zero32]
  rw[e]
  refine WL_in lp61_0.eq_1 ?_
  simp -implicitDefEqProofs only[go_sem,↓reduceIte]
  exact hx _ _
 |succ m ih=>
  intro i hi
  have h32:(i:Int) < 32:=by omega
  have h32n:i < 32:=by omega
  have h0:(0:Int)≤i:=by omega
  have h00:(0:Int)≤((t.length+i:Nat):Int):=by omega
  have h1:((t.length+i:Nat):Int) < ((t.length+r.length:Nat):Int):=by omega
  have ew:IntKind.i64.wrap ((i:Int)+1)=((i+1:Nat):Int):=by rw[w64 (by omega) (by omega)];simp
  have ea:IntKind.i64.wrap ((t.length:Int)+i)=((t.length+i:Nat):Int):=by rw[w64 (by omega) (by omega)];simp
  have hg:(t++r).getD (t.length+i) 0=r.getD i 0:=by rw[List.getD_eq_getElem?_getD,List.getElem?_append_right (by omega),Nat.add_sub_cancel_left,←List.getD_eq_getElem?_getD]
  have ihh:=ih (i+1) (by omega)
  rw[←set_step (show i < zero32.length by rw[show zero32.length=32 from rfl];omega) (by omega)]at ihh
  generalize r.take i++zero32.drop i=hs at*
  refine WL_in lp61_0.eq_1 ?_
  simp -implicitDefEqProofs only[h32,h32n,h0,h00,h1,ew,ea,hg,Int.toNat_natCast,go_sem,↓reduceIte]
  repeat' (first|assumption|omega|rfl|refine⟨?_,?_⟩)
theorem walk61 {t r:List Int} {w:Bool} (hb:Byt (t++r)) (hl:(t++r).length < 1000000000000)
  (h:Q (.tup [rrV (t++r) (rdHash (r,w)).2,.arr .u8 32 (rdHash (r,w)).1]) G):Wf E C pf61 [.agg [.sli .u8 (t++r),.int .i64 t.length,.bool w]] G Q:=by
 have hrl:t.length+r.length < 1000000000000:=by rw[List.length_append]at hl;exact hl
 have elen:((t++r).length:Int)-(r.length:Int)=t.length:=by rw[List.length_append];omega
 have ed:((t.length+r.length:Nat):Int)-(t.length:Int)=r.length:=by omega
 have ew:IntKind.i64.wrap (r.length:Int)=r.length:=w64 (by omega) (by omega)
 cases w with
 |true=>
  have e:rdHash (r,true)=(zero32,(r,true)):=rfl
  rw[e]at h;unfold rrV at h;rw[elen]at h
  simp -implicitDefEqProofs only[pf61,go_sem,↓reduceIte]
  exact h
 |false=>
  by_cases h32:r.length < 32
  ·have e:rdHash (r,false)=(zero32,(r,true)):=by unfold rdHash;simp only[h32];rfl
   have h32':(r.length:Int) < 32:=by omega
   rw[e]at h;unfold rrV at h;rw[elen]at h
   simp -implicitDefEqProofs only[pf61,ed,ew,h32',go_sem,↓reduceIte]
   exact h
  ·have e:rdHash (r,false)=(r.take 32,(r.drop 32,false)):=by unfold rdHash;simp only[h32];rfl
   have h32':¬(r.length:Int) < 32:=by omega
   have e5:((t++r).length:Int)-((r.drop 32).length:Int)=(t.length:Int)+32:=by rw[List.length_append,List.length_drop];omega
   have ew2:IntKind.i64.wrap ((t.length:Int)+32)=(t.length:Int)+32:=w64 (by omega) (by omega)
   rw[e]at h;unfold rrV at h;rw[e5]at h
   simp -implicitDefEqProofs only[pf61,ed,ew,h32',go_sem,↓reduceIte]
   refine⟨33,?_⟩
   simp -implicitDefEqProofs only[go_sem,↓reduceIte]
   refine loop61 (by omega) hrl (fun i ts=> ?_) 32 0 rfl
   simp -implicitDefEqProofs only[ew2,go_sem,↓reduceIte]
   exact h
end Go.Proofs.Ytegamlopcdjiaaa.Sha
