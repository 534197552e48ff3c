/- Laws over plain values, and what functions of the program hand back; no conditions. -/
import Derived.Test.YtjbglbhcbenhpaaG5
namespace Go.Proofs.Ytjbglbhcbenhpaa.Sha
open Go Go.Abs Go.Abs.Sha Go.Abs.Srt
set_option linter.unusedSimpArgs false
set_option linter.unusedVariables false
set_option maxRecDepth 100000
def pf59:PF:=
 PF.mk 1 23 81 ((PC.reg [nn (.v 1) (.box (.v 0)),nn (.v 2) (.mv true (.c (.v (.int .i64 0))))]).seq ((PC.reg [nn (.v 5) (.fadr 0 0 (.v 1)),nn (.v 6)
  (.load 1 false (.v 5)),nn (.v 7) (.call 82 [.v 6,.c (.v (.int .i64 1)),.c (.v (.int .i64 40))]),nn (.v 8) (.mv false (.v 7)),⟨.v 9,.fadr 1 1
  (.v 1),some (.v 8,true)⟩,⟨.v 10,.load 1 false (.v 9),some (.v 8,true)⟩,⟨.v 11,.call 82 [.v 10,.c (.v (.int .i64 1)),.c (.v (.int .i64
  1099511627776))],some (.v 8,true)⟩,nn (.v 12) (.pick (.v 8) (.v 11) (.c (.v (.bool false)))),nn (.v 3) (.mv true (.v 12))]).seq ((PC.reg [nn (.v
  13) (.fadr 3 3 (.v 1)),nn (.v 14) (.load 1 false (.v 13)),nn (.v 15) (.bin .eql (.v 14) (.c (.v (.int .i64 0)))),nn (.v 16) (.mv false (.v 15)),
  ⟨.v 17,.fadr 4 4 (.v 1),some (.v 16,true)⟩,⟨.v 18,.load 1 false (.v 17),some (.v 16,true)⟩,⟨.v 19,.bin .eql (.v 18) (.c (.v (.int .i64 0))),
  some (.v 16,true)⟩,nn (.v 20) (.pick (.v 16) (.v 19) (.c (.v (.bool false)))),nn (.v 4) (.mv true (.v 20))]).seq (((PC.reg [nn (.v 21) (.fadr 2 2
  (.v 1)),nn (.v 22) (.load 1 false (.v 21))]).seq (PC.block 0 ((PC.reg [nn (.t 24) (.bin .eql (.v 22) (.c (.v (.int .i64 1)))),nn (.t 23) (.mv true
  (.t 24))]).seq (PC.cond (.t 23) (PC.reg [mm 25 3,nn (.t 26) (.mv false (.t 25)),⟨.t 27,.fadr 3 3 (.v 1),some (.t 26,true)⟩,⟨.t 28,.load 1
  false (.t 27),some (.t 26,true)⟩,⟨.t 29,.call 82 [.t 28,.c (.v (.int .i64 1)),.c (.v (.int .i64 40))],some (.t 26,true)⟩,nn (.t 30) (.pick
  (.t 26) (.t 29) (.c (.v (.bool false)))),nn (.t 31) (.mv false (.t 30)),⟨.t 32,.fadr 4 4 (.v 1),some (.t 31,true)⟩,⟨.t 33,.load 1 false (.t
  32),some (.t 31,true)⟩,⟨.t 34,.call 82 [.t 33,.c (.v (.int .i64 0)),.c (.v (.int .i64 1099511627776))],some (.t 31,true)⟩,nn (.t 35) (.pick
  (.t 31) (.t 34) (.c (.v (.bool false)))),nn (.t 36) (.mv false (.t 35)),⟨.t 37,.fadr 5 5 (.v 1),some (.t 36,true)⟩,⟨.t 38,.load 1 false (.t
  37),some (.t 36,true)⟩,⟨.t 39,.bin .eql (.t 38) (.c (.v (.str ⟨⟨[]⟩⟩))),some (.t 36,true)⟩,nn (.t 40) (.pick (.t 36) (.t 39) (.c (.v (.bool
  false)))),nn (.t 41) (.mv false (.t 40)),⟨.t 42,.fadr 6 6 (.v 1),some (.t 41,true)⟩,⟨.t 43,.load 1 false (.t 42),some (.t 41,true)⟩,⟨.t 44,
  .bin .eql (.t 43) (.c (.v (.str ⟨⟨[]⟩⟩))),some (.t 41,true)⟩,nn (.t 45) (.pick (.t 41) (.t 44) (.c (.v (.bool false)))),ma 3 45]) ((PC.reg [nn
  (.t 47) (.bin .eql (.v 22) (.c (.v (.int .i64 2)))),nn (.t 46) (.mv true (.t 47))]).seq (PC.cond (.t 46) (PC.reg [mm 48 3,nn (.t 49) (.mv false (.t
  48)),gm 50 4 49 true,nn (.t 51) (.pick (.t 49) (.t 50) (.c (.v (.bool false)))),nn (.t 52) (.mv false (.t 51)),⟨.t 53,.fadr 5 5 (.v 1),some (.t
  52,true)⟩,⟨.t 54,.load 1 false (.t 53),some (.t 52,true)⟩,⟨.t 55,.call 83 [.t 54],some (.t 52,true)⟩,nn (.t 56) (.pick (.t 52) (.t 55) (.c
  (.v (.bool false)))),nn (.t 57) (.mv false (.t 56)),⟨.t 58,.fadr 6 6 (.v 1),some (.t 57,true)⟩,⟨.t 59,.load 1 false (.t 58),some (.t 57,
  true)⟩,⟨.t 60,.lenT (.t 59),some (.t 57,true)⟩,⟨.t 61,.bin .leq (.t 60) (.c (.v (.int .i64 200))),some (.t 57,true)⟩,nn (.t 62) (.pick (.t
  57) (.t 61) (.c (.v (.bool false)))),ma 3 62]) ((PC.reg [nn (.t 64) (.bin .eql (.v 22) (.c (.v (.int .i64 3)))),nn (.t 63) (.mv true (.t 64))]).seq
  (PC.cond (.t 63) (PC.reg [mm 65 3,nn (.t 66) (.mv false (.t 65)),gm 67 4 66 true,nn (.t 68) (.pick (.t 66) (.t 67) (.c (.v (.bool false)))),nn
  (.t 69) (.mv false (.t 68)),⟨.t 70,.fadr 5 5 (.v 1),some (.t 69,true)⟩,⟨.t 71,.load 1 false (.t 70),some (.t 69,true)⟩,⟨.t 72,.call 83 [.t
  71],some (.t 69,true)⟩,nn (.t 73) (.pick (.t 69) (.t 72) (.c (.v (.bool false)))),nn (.t 74) (.mv false (.t 73)),⟨.t 75,.fadr 6 6 (.v 1),some
  (.t 74,true)⟩,⟨.t 76,.load 1 false (.t 75),some (.t 74,true)⟩,⟨.t 77,.bin .eql (.t 76) (.c (.v (.str ⟨⟨[]⟩⟩))),some (.t 74,true)⟩,nn (.t
  78) (.pick (.t 74) (.t 77) (.c (.v (.bool false)))),ma 3 78]) (PC.reg [nn (.v 3) (.mv true (.c (.v (.bool false))))]))))))))).seq (((PC.reg [mm 79
  3,nn (.t 80) (.un .not (.t 79))]).seq (PC.cond (.t 80) ((PC.reg [nn (.v 2) (.mv true (.c (.v (.int .i64 1))))]).seq PC.ret) PC.skip)).seq ((PC.reg
  [nn (.v 2) (.mv true (.c (.v (.int .i64 0))))]).seq PC.ret)))))) [(.v 2,none)]
def pf55:PF:=
 PF.mk 1 23 94 ((PC.reg [nn (.v 1) (.box (.v 0)),nn (.v 2) (.mv true (.c (.v (.bool false))))]).seq (((PC.reg [nn (.v 3) (.fadr 0 0 (.v 1)),nn (.v 4)
  (.load 1 false (.v 3)),nn (.v 5) (.bin .lss (.v 4) (.c (.v (.int .i64 1)))),nn (.v 6) (.mv false (.v 5)),⟨.v 7,.fadr 0 0 (.v 1),some (.v 6,
  false)⟩,⟨.v 8,.load 1 false (.v 7),some (.v 6,false)⟩,⟨.v 9,.bin .gtr (.v 8) (.c (.v (.int .i64 40))),some (.v 6,false)⟩,nn (.v 10) (.pick
  (.v 6) (.c (.v (.bool true))) (.v 9)),nn (.v 11) (.mv false (.v 10)),⟨.v 12,.fadr 1 1 (.v 1),some (.v 11,false)⟩,⟨.v 13,.load 1 false (.v 12),
  some (.v 11,false)⟩,⟨.v 14,.bin .lss (.v 13) (.c (.v (.int .i64 1))),some (.v 11,false)⟩,nn (.v 15) (.pick (.v 11) (.c (.v (.bool true))) (.v
  14)),nn (.v 16) (.mv false (.v 15)),⟨.v 17,.fadr 1 1 (.v 1),some (.v 16,false)⟩,⟨.v 18,.load 1 false (.v 17),some (.v 16,false)⟩,⟨.v 19,
  .bin .gtr (.v 18) (.c (.v (.int .i64 1099511627776))),some (.v 16,false)⟩,nn (.v 20) (.pick (.v 16) (.c (.v (.bool true))) (.v 19))]).seq (PC.cond
  (.v 20) ((PC.reg [nn (.v 2) (.mv true (.c (.v (.bool false))))]).seq PC.ret) PC.skip)).seq (((PC.reg [nn (.v 21) (.fadr 2 2 (.v 1)),nn (.v 22)
  (.load 1 false (.v 21))]).seq (PC.block 0 ((PC.reg [nn (.t 24) (.bin .eql (.v 22) (.c (.v (.int .i64 1)))),nn (.t 23) (.mv true (.t 24))]).seq
  (PC.cond (.t 23) ((PC.reg [nn (.t 25) (.fadr 3 3 (.v 1)),nn (.t 26) (.load 1 false (.t 25)),nn (.t 27) (.bin .geq (.t 26) (.c (.v (.int .i64 1)))),
  nn (.t 28) (.mv false (.t 27)),⟨.t 29,.fadr 3 3 (.v 1),some (.t 28,true)⟩,⟨.t 30,.load 1 false (.t 29),some (.t 28,true)⟩,⟨.t 31,.bin .leq
  (.t 30) (.c (.v (.int .i64 40))),some (.t 28,true)⟩,nn (.t 32) (.pick (.t 28) (.t 31) (.c (.v (.bool false)))),nn (.t 33) (.mv false (.t 32)),
  ⟨.t 34,.fadr 4 4 (.v 1),some (.t 33,true)⟩,⟨.t 35,.load 1 false (.t 34),some (.t 33,true)⟩,⟨.t 36,.bin .geq (.t 35) (.c (.v (.int .i64 0))),
  some (.t 33,true)⟩,nn (.t 37) (.pick (.t 33) (.t 36) (.c (.v (.bool false)))),nn (.t 38) (.mv false (.t 37)),⟨.t 39,.fadr 4 4 (.v 1),some (.t
  38,true)⟩,⟨.t 40,.load 1 false (.t 39),some (.t 38,true)⟩,⟨.t 41,.bin .leq (.t 40) (.c (.v (.int .i64 1099511627776))),some (.t 38,true)⟩,
  nn (.t 42) (.pick (.t 38) (.t 41) (.c (.v (.bool false)))),nn (.t 43) (.mv false (.t 42)),⟨.t 44,.fadr 5 5 (.v 1),some (.t 43,true)⟩,⟨.t 45,
  .load 1 false (.t 44),some (.t 43,true)⟩,⟨.t 46,.bin .eql (.t 45) (.c (.v (.str ⟨⟨[]⟩⟩))),some (.t 43,true)⟩,nn (.t 47) (.pick (.t 43) (.t 46)
  (.c (.v (.bool false)))),nn (.t 48) (.mv false (.t 47)),⟨.t 49,.fadr 6 6 (.v 1),some (.t 48,true)⟩,⟨.t 50,.load 1 false (.t 49),some (.t 48,
  true)⟩,⟨.t 51,.bin .eql (.t 50) (.c (.v (.str ⟨⟨[]⟩⟩))),some (.t 48,true)⟩,nn (.t 52) (.pick (.t 48) (.t 51) (.c (.v (.bool false)))),ma 2
  52]).seq PC.ret) ((PC.reg [nn (.t 54) (.bin .eql (.v 22) (.c (.v (.int .i64 2)))),nn (.t 53) (.mv true (.t 54))]).seq (PC.cond (.t 53) ((PC.reg [nn
  (.t 55) (.fadr 3 3 (.v 1)),nn (.t 56) (.load 1 false (.t 55)),nn (.t 57) (.bin .eql (.t 56) (.c (.v (.int .i64 0)))),nn (.t 58) (.mv false (.t
  57)),⟨.t 59,.fadr 4 4 (.v 1),some (.t 58,true)⟩,⟨.t 60,.load 1 false (.t 59),some (.t 58,true)⟩,⟨.t 61,.bin .eql (.t 60) (.c (.v (.int .i64
  0))),some (.t 58,true)⟩,nn (.t 62) (.pick (.t 58) (.t 61) (.c (.v (.bool false)))),nn (.t 63) (.mv false (.t 62)),⟨.t 64,.fadr 5 5 (.v 1),some
  (.t 63,true)⟩,⟨.t 65,.load 1 false (.t 64),some (.t 63,true)⟩,⟨.t 66,.call 77 [.t 65],some (.t 63,true)⟩,nn (.t 67) (.pick (.t 63) (.t 66)
  (.c (.v (.bool false)))),nn (.t 68) (.mv false (.t 67)),⟨.t 69,.fadr 6 6 (.v 1),some (.t 68,true)⟩,⟨.t 70,.load 1 false (.t 69),some (.t 68,
  true)⟩,⟨.t 71,.lenT (.t 70),some (.t 68,true)⟩,⟨.t 72,.bin .leq (.t 71) (.c (.v (.int .i64 200))),some (.t 68,true)⟩,nn (.t 73) (.pick (.t
  68) (.t 72) (.c (.v (.bool false)))),ma 2 73]).seq PC.ret) ((PC.reg [nn (.t 75) (.bin .eql (.v 22) (.c (.v (.int .i64 3)))),nn (.t 74) (.mv true
  (.t 75))]).seq (PC.cond (.t 74) ((PC.reg [nn (.t 76) (.fadr 3 3 (.v 1)),nn (.t 77) (.load 1 false (.t 76)),nn (.t 78) (.bin .eql (.t 77) (.c (.v
  (.int .i64 0)))),nn (.t 79) (.mv false (.t 78)),⟨.t 80,.fadr 4 4 (.v 1),some (.t 79,true)⟩,⟨.t 81,.load 1 false (.t 80),some (.t 79,true)⟩,
  ⟨.t 82,.bin .eql (.t 81) (.c (.v (.int .i64 0))),some (.t 79,true)⟩,nn (.t 83) (.pick (.t 79) (.t 82) (.c (.v (.bool false)))),nn (.t 84) (.mv
  false (.t 83)),⟨.t 85,.fadr 5 5 (.v 1),some (.t 84,true)⟩,⟨.t 86,.load 1 false (.t 85),some (.t 84,true)⟩,⟨.t 87,.call 77 [.t 86],some (.t
  84,true)⟩,nn (.t 88) (.pick (.t 84) (.t 87) (.c (.v (.bool false)))),nn (.t 89) (.mv false (.t 88)),⟨.t 90,.fadr 6 6 (.v 1),some (.t 89,
  true)⟩,⟨.t 91,.load 1 false (.t 90),some (.t 89,true)⟩,⟨.t 92,.bin .eql (.t 91) (.c (.v (.str ⟨⟨[]⟩⟩))),some (.t 89,true)⟩,nn (.t 93) (.pick
  (.t 89) (.t 92) (.c (.v (.bool false)))),ma 2 93]).seq PC.ret) PC.skip)))))))).seq ((PC.reg [nn (.v 2) (.mv true (.c (.v (.bool false))))]).seq
  PC.ret)))) [(.v 2,none)]
attribute [local irreducible] W Wops WopsD WL Wop WopD
variable {E:Env} {C:Abs.Spec} {l:List (Nat×Spec1)} {G:List (Nat×V)} {Q:R→List (Nat×V)→Prop}
set_option maxHeartbeats 1000000
def ZTc:Spec1
 |[y],G,Q=>∃t:TxS,(y=t.v∧t.key.size < 1000000000∧t.val.size < 1000000000)∧Q (.v (.int .i64 (if t.may=true then 0 else 1))) G
 |_,_,_=>False
theorem ZTc_eq {y}:ZTc [y] G Q=(∃t:TxS,(y=t.v∧t.key.size < 1000000000∧t.val.size < 1000000000)∧Q (.v (.int .i64 (if t.may=true then 0 else 1))) G):=rfl
def ZTm:Spec1
 |[y],G,Q=>∃t:TxS,(y=t.v∧t.key.size < 1000000000∧t.val.size < 1000000000)∧Q (.v (.bool t.may)) G
 |_,_,_=>False
theorem ZTm_eq {y}:ZTm [y] G Q=(∃t:TxS,(y=t.v∧t.key.size < 1000000000∧t.val.size < 1000000000)∧Q (.v (.bool t.may)) G):=rfl
theorem walk55 {t:TxS} (hK:Abs.look l 77=some ZKy) (hk:t.key.size < 1000000000) (hv:t.val.size < 1000000000) (h:Q (.v (.bool t.may)) G):Wf E (specOf l) pf55 [t.v] G Q:=by
 obtain⟨fr,no,ki,to,am,key,val⟩:=t
 dsimp only at hk hv
 simp -implicitDefEqProofs only[pf55,TxS.v,hK,ZKy_eq,bs_eq,go_sem,↓reduceIte]
 repeat' first|exact hk|(intro _)|apply And.intro
 all_goals first
  |exact hk
  |(refine finB h ?_
    unfold TxS.may TxS.May
    dsimp only
    grind)
theorem walk59 {t:TxS} (hK:Abs.look l 83=some ZKy) (hW:Abs.look l 82=some ZWt) (hk:t.key.size < 1000000000) (hv:t.val.size < 1000000000) (h:Q (.v (.int .i64 (if t.may=true then 0 else 1))) G):Wf E (specOf l) pf59 [t.v] G Q:=by
 obtain⟨fr,no,ki,to,am,key,val⟩:=t
 dsimp only at hk hv
 have fin0:TxS.May ⟨fr,no,ki,to,am,key,val⟩→Q (.v (.int .i64 0)) G:=fun hm=>by rw[if_pos (by unfold TxS.may;rw[decide_eq_true_iff];exact hm)]at h;exact h
 have fin1:¬TxS.May ⟨fr,no,ki,to,am,key,val⟩→Q (.v (.int .i64 1)) G:=fun hm=>by rw[if_neg (by unfold TxS.may;rw[decide_eq_true_iff];exact hm)]at h;exact h
 unfold TxS.May at fin0 fin1
 dsimp only at fin0 fin1
 simp -implicitDefEqProofs only[pf59,TxS.v,hK,ZKy_eq,hW,ZWt_eq,bs_eq,go_sem,↓reduceIte]
 repeat' first|exact hk|(intro _)|apply And.intro
 all_goals first
  |(refine fin1 ?_;grind)
  |(refine fin0 ?_;grind)
def lp98_0:PC:=
 (PC.reg [nn (.v 21) (.bin .lss (.v 20) (.v 19))]).seq ((PC.cond (.v 21) PC.skip (PC.exit 0)).seq ((PC.block 1 ((PC.reg [nn (.v 22) (.iadrS 1 (.v 18)
  (.v 20)),nn (.v 23) (.load 1 false (.v 22)),nn (.v 6) (.mv true (.v 23))]).seq (PC.reg [nn (.v 24) (.mv false (.v 0)),nn (.v 25) (.mv false (.v
  6)),nn (.v 26) (.conv .u64 (.v 25)),nn (.v 27) (.call 120 [.v 24,.v 26]),nn (.v 0) (.mv true (.v 27))]))).seq (PC.reg [nn (.v 28) (.bin .add (.v
  20) (.c (.v (.int .i64 1)))),nn (.v 20) (.mv false (.v 28))])))
def pf98:PF:=
 PF.mk 2 31 58 ((PC.reg [nn (.v 3) (.box (.v 1)),nn (.v 4) (.mv true (.c (.own .nils)))]).seq (((PC.reg [nn (.v 7) (.load 7 true (.v 3)),nn (.v 8)
  (.call 59 [.v 7]),nn (.v 9) (.bin .neq (.v 8) (.c (.v (.int .i64 0))))]).seq (PC.cond (.v 9) ((PC.reg [nn (.v 10) (.mv false (.v 0)),nn (.v 11)
  (.call 118 [.v 10]),nn (.v 4) (.mv true (.v 11))]).seq PC.ret) PC.skip)).seq (((PC.reg [nn (.v 12) (.fadr 0 0 (.v 3)),nn (.v 13) (.load 1 false (.v
  12)),nn (.v 14) (.fadr 1 1 (.v 3)),nn (.v 15) (.load 1 false (.v 14)),nn (.v 16) (.fadr 2 2 (.v 3)),nn (.v 17) (.load 1 false (.v 16)),nn (.v
  18) (.buildS (some .i64) 1 (.int .i64 0) 3 [(0,.v 13),(1,.v 15),(2,.v 17)]),nn (.v 19) (.len (.v 18)),nn (.v 20) (.mv false (.c (.v (.int .i64
  0))))]).seq (PC.block 0 (PC.loop [0,3,18,19,20] lp98_0))).seq (((PC.reg [nn (.v 29) (.fadr 2 2 (.v 3)),nn (.v 30) (.load 1 false (.v 29))]).seq
  (PC.block 2 ((PC.reg [nn (.t 32) (.bin .eql (.v 30) (.c (.v (.int .i64 1)))),nn (.t 31) (.mv true (.t 32))]).seq (PC.cond (.t 31) ((PC.regD 0 [mm 33
  0,nn (.t 34) (.fadr 3 3 (.v 3)),nn (.t 35) (.load 1 false (.t 34)),nn (.t 36) (.conv .u64 (.t 35)),nn (.t 37) (.call 120 [.t 33,.t 36]),nn (.t
  38) (.fadr 4 4 (.v 3)),nn (.t 39) (.load 1 false (.t 38)),nn (.t 40) (.conv .u64 (.t 39)),nn (.t 41) (.call 120 [.t 37,.t 40]),ma 4 41] []).seq
  PC.ret) ((PC.reg [nn (.t 43) (.bin .eql (.v 30) (.c (.v (.int .i64 2)))),nn (.t 42) (.mv true (.t 43))]).seq (PC.cond (.t 42) ((PC.regD 0 [mm 44 0,
  nn (.t 45) (.fadr 5 5 (.v 3)),nn (.t 46) (.load 1 false (.t 45)),nn (.t 47) (.s2b false (.t 46)),nn (.t 48) (.call 101 [.t 44,.t 47]),nn (.t 49)
  (.fadr 6 6 (.v 3)),nn (.t 50) (.load 1 false (.t 49)),nn (.t 51) (.s2b false (.t 50)),nn (.t 52) (.call 101 [.t 48,.t 51]),ma 4 52] []).seq
  PC.ret) PC.skip)))))).seq ((PC.reg [mm 53 0,nn (.t 54) (.fadr 5 5 (.v 3)),nn (.t 55) (.load 1 false (.t 54)),nn (.t 56) (.s2b false (.t 55)),nn
  (.t 57) (.call 101 [.t 53,.t 56]),ma 4 57]).seq PC.ret))))) [(.v 4,none)]
def ZPt:Spec1
 |[x,y],G,Q=>∃(b:List Int) (t:TxS),(byV x=some b∧b.length < 100000000∧y=t.v∧t.key.size < 1000000000∧t.val.size < 1000000000)∧Q (.own (.sli .u8 (if t.may=true then b++t.bytes else b))) G
 |_,_,_=>False
theorem ZPt_eq {x y}:ZPt [x,y] G Q=(∃(b:List Int) (t:TxS),(byV x=some b∧b.length < 100000000∧y=t.v∧t.key.size < 1000000000∧t.val.size < 1000000000)∧Q (.own (.sli .u8 (if t.may=true then b++t.bytes else b))) G):=rfl
theorem loop98 {QQ:Ex→St→Prop} {x:V} {b:List Int} {fr no ki:Int} {tv:Bx} (hN:Abs.look l 120=some SNu) (hx:byV x=some b) (hb:b.length < 100000000) (h1:0≤fr∧fr≤1099511627776) (h2:0≤no∧no≤1099511627776) (h3:0≤ki∧ki≤1099511627776)
  (h:∀ts v21,QQ (.exit 0) ⟨[some (.own (.sli .u8 (b++num fr.toNat++num no.toNat++num ki.toNat))),none,none,some (.lp 0 []),none,none,none,none,none,none,none,none,none,none,none,none,none,none,some (.own (.sli .i64 [fr,no,ki])),some (.v (.int .i64 3)),some (.v (.int .i64 3)),v21,none,none,none,none,none,none,none,none,none],ts,[tv],G⟩):WL (W E (specOf l) lp98_0) [0,3,18,19,20] QQ 4 ⟨[some (.v x),none,none,some (.lp 0 []),none,none,none,none,none,none,none,none,none,none,none,none,none,none,some (.own (.sli .i64 [fr,no,ki])),some (.v (.int .i64 3)),some (.v (.int .i64 0)),none,none,none,none,none,none,none,none,none,none],[],[tv],G⟩:=by
 have u1:IntKind.u64.wrap fr=fr:=u64_of (by omega) (by omega)
 have u2:IntKind.u64.wrap no=no:=u64_of (by omega) (by omega)
 have u3:IntKind.u64.wrap ki=ki:=u64_of (by omega) (by omega)
 obtain⟨_,l1⟩:=num_ok (n:=fr.toNat) (by omega)
 obtain⟨_,l2⟩:=num_ok (n:=no.toNat) (by omega)
 obtain⟨_,l3⟩:=num_ok (n:=ki.toNat) (by omega)
 have i1:IntKind.i64.wrap 1=1:=by decide
 have i2:IntKind.i64.wrap 2=2:=by decide
 have i3:IntKind.i64.wrap 3=3:=by decide
 refine WL_in lp98_0.eq_1 ?_
 simp -implicitDefEqProofs only[hN,SNu_eq,u1,i1,go_sem,↓reduceIte]
 refine⟨b,⟨hx,by omega,by omega,by omega⟩,?_⟩
 refine WL_in lp98_0.eq_1 ?_
 simp -implicitDefEqProofs only[hN,SNu_eq,u2,i2,go_sem,↓reduceIte]
 refine⟨b++num fr.toNat,⟨rfl,by rw[List.length_append];omega,by omega,by omega⟩,?_⟩
 refine WL_in lp98_0.eq_1 ?_
 simp -implicitDefEqProofs only[hN,SNu_eq,u3,i3,go_sem,↓reduceIte]
 refine⟨b++num fr.toNat++num no.toNat,⟨rfl,by rw[List.length_append,List.length_append];omega,by omega,by omega⟩,?_⟩
 refine WL_in lp98_0.eq_1 ?_
 simp -implicitDefEqProofs only[go_sem,↓reduceIte]
 exact h _ _
theorem walk98 {x:V} {b:List Int} {t:TxS} (hC:Abs.look l 59=some ZTc) (hN:Abs.look l 120=some SNu) (hT:Abs.look l 101=some ZTt) (hK:Abs.look l 118=some SCl)
  (hx:byV x=some b) (hb:b.length < 100000000) (hk:t.key.size < 1000000000) (hv:t.val.size < 1000000000) (h:Q (.own (.sli .u8 (if t.may=true then b++t.bytes else b))) G):Wf E (specOf l) pf98 [x,t.v] G Q:=by
 obtain⟨fr,no,ki,to,am,key,val⟩:=t
 dsimp only at hk hv
 by_cases hm:TxS.may ⟨fr,no,ki,to,am,key,val⟩=true
 ·rw[if_pos hm]at h
  have hM:TxS.May ⟨fr,no,ki,to,am,key,val⟩:=of_decide_eq_true hm
  obtain⟨⟨a1,a2⟩,⟨b1,b2⟩,hM⟩:=hM
  dsimp only at a1 a2 b1 b2 hM
  unfold TxS.bytes at h
  dsimp only at h
  simp -implicitDefEqProofs only[pf98,TxS.v,hC,ZTc_eq,go_sem,↓reduceIte]
  refine⟨⟨fr,no,ki,to,am,key,val⟩,⟨rfl,hk,hv⟩,?_⟩
  rw[if_pos hm]
  simp -implicitDefEqProofs only[go_sem,↓reduceIte]
  refine⟨4,?_⟩
  simp -implicitDefEqProofs only[go_sem,↓reduceIte]
  have kk:0≤ki∧ki≤3:=by omega
  obtain⟨_,l1⟩:=num_ok (n:=fr.toNat) (by omega)
  obtain⟨_,l2⟩:=num_ok (n:=no.toNat) (by omega)
  obtain⟨_,l3⟩:=num_ok (n:=ki.toNat) (by omega)
  have L3:(b++num fr.toNat++num no.toNat++num ki.toNat).length < 900000000:=by simp only[List.length_append];omega
  have eB:∀y,b++num fr.toNat++num no.toNat++num ki.toNat++y=b++(num fr.toNat++num no.toNat++num ki.toNat++y):=fun y=>by simp only[List.append_assoc]
  refine loop98 hN hx hb (by omega) (by omega) (by omega) (fun ts v21=> ?_)
  rw[←eB]at h
  generalize b++num fr.toNat++num no.toNat++num ki.toNat=bb at*
  rcases hM with⟨rfl,c,d,rfl,rfl⟩|⟨rfl,rfl,rfl,⟨_,k3,k4⟩,v⟩|⟨rfl,rfl,rfl,⟨_,k3,k4⟩,rfl⟩
  ·have u4:IntKind.u64.wrap to=to:=u64_of (by omega) (by omega)
   have u5:IntKind.u64.wrap am=am:=u64_of (by omega) (by omega)
   obtain⟨_,l4⟩:=num_ok (n:=to.toNat) (by omega)
   simp -implicitDefEqProofs only[hN,SNu_eq,u4,u5,go_sem,↓reduceIte]
   rw[if_pos rfl,←List.append_assoc]at h
   exact⟨bb,⟨rfl,by omega,by omega,by omega⟩,bb++num to.toNat,⟨rfl,by rw[List.length_append];omega,by omega,by omega⟩,h⟩
  ·simp -implicitDefEqProofs only[hT,ZTt_eq,go_sem,↓reduceIte]
   rw[if_neg (by decide),if_pos rfl,←List.append_assoc]at h
   have z:=txt_ok (b:=byS key) byS_byt (by omega)
   exact⟨bb,⟨rfl,by omega,by omega⟩,bb++txt (byS key),⟨rfl,by rw[List.length_append];omega,by rw[byS_len];omega⟩,h⟩
  ·simp -implicitDefEqProofs only[hT,ZTt_eq,go_sem,↓reduceIte]
   rw[if_neg (by decide),if_neg (by decide),List.append_nil]at h
   exact⟨bb,⟨rfl,by omega,by omega⟩,h⟩
 ·rw[if_neg hm]at h
  simp -implicitDefEqProofs only[pf98,TxS.v,hC,ZTc_eq,go_sem,↓reduceIte]
  refine⟨⟨fr,no,ki,to,am,key,val⟩,⟨rfl,hk,hv⟩,?_⟩
  rw[if_neg hm]
  simp -implicitDefEqProofs only[hK,SCl_eq,go_sem,↓reduceIte]
  exact⟨b,⟨hx,by omega⟩,h⟩
end Go.Proofs.Ytjbglbhcbenhpaa.Sha
namespace Go.Abs
open Go Go.RowKit
set_option linter.unusedVariables false
set_option linter.unusedSimpArgs false
namespace Sha
structure BlkS where
 pa:List Int
 vi:Int
 he:Int
 who:Int
 txs:List TxS
deriving DecidableEq
def BlkS.v (b:BlkS):V:= .agg [.arr .u8 32 b.pa,.int .i64 b.vi,.int .i64 b.he,.int .i64 b.who,.sle 7 (b.txs.map TxS.v)]
def BlkS.zero:BlkS:=⟨zero32,0,0,0,[]⟩
def BlkS.zeroV:V:= .agg [.arr .u8 32 zero32,.int .i64 0,.int .i64 0,.int .i64 0,.nils]
def BlkS.Full (b:BlkS):Prop:=(∀t∈b.txs,t.May)∧(1≤b.vi∧b.vi≤1099511627776)∧(1≤b.he∧b.he≤1099511627776)∧(1≤b.who∧b.who≤21)∧b.txs.length≤8
instance (b:BlkS):Decidable b.Full:=by unfold BlkS.Full;infer_instance
def BlkS.May (b:BlkS):Prop:=b= .zero∨b.Full
instance (b:BlkS):Decidable b.May:=by unfold BlkS.May;infer_instance
def BlkS.may (b:BlkS):Bool:=decide b.May
def BlkS.ok (b:BlkS):Prop:=H32 b.pa∧(∀t∈b.txs,t.key.size < 1000000000∧t.val.size < 1000000000)∧b.txs.length < 1000000
def txsB:List TxS→List Int
 |[]=>[]
 |t::l=>t.bytes++txsB l
theorem txsB_snoc {t:TxS}:∀{l:List TxS},txsB (l++[t])=txsB l++t.bytes
 |[]=>by simp[txsB]
 |q::l=>by simp only[List.cons_append,txsB,txsB_snoc,List.append_assoc]
theorem txsB_ok:∀{l:List TxS},(∀t∈l,t.May)→Byt (txsB l)∧(txsB l).length≤300*l.length
 |[],_=>⟨byt_nil,by simp[txsB]⟩
 |t::l,h=>by
  obtain⟨h1,h2,_⟩:=TxS.bytes_ok (h t (List.mem_cons_self ..))
  obtain⟨i1,i2⟩:=txsB_ok (l:=l) fun q hq=>h q (List.mem_cons_of_mem _ hq)
  refine⟨byt_app h1 i1,?_⟩
  simp only[txsB,List.length_append,List.length_cons];omega
def BlkS.bytes (b:BlkS):List Int:=b.pa++num b.vi.toNat++num b.he.toNat++num b.who.toNat++num b.txs.length++txsB b.txs
end Sha
end Go.Abs
namespace Go.Proofs.Ytjbglbhcbenhpaa.Sha
open Go Go.Abs Go.Abs.Sha Go.Abs.Srt
set_option linter.unusedSimpArgs false
set_option linter.unusedVariables false
set_option maxRecDepth 100000
def lp116_0:PC:=
 (PC.reg [nn (.t 14) (.bin .lss (.v 13) (.v 12))]).seq ((PC.cond (.t 14) PC.skip (PC.exit 0)).seq ((PC.block 1 ((PC.reg [nn (.t 15) (.mv true (.v 13)),
  ma 5 15]).seq ((PC.regD 0 [mm 16 0,mm 17 5,nn (.t 18) (.iadrS 7 (.t 16) (.t 17)),nn (.t 19) (.load 7 true (.t 18)),mm 20 1,mm 21 5,nn (.t 22)
  (.iadrS 7 (.t 20) (.t 21)),nn (.t 23) (.load 7 true (.t 22)),nn (.t 24) (.eqa true (.agg (.cons 0 1 false .int (.cons 1 1 false .int (.cons 2 1
  false .int (.cons 3 1 false .int (.cons 4 1 false .int (.cons 5 1 false .str (.cons 6 1 false .str .nil)))))))) (.t 19) (.t 23))] []).seq (PC.cond
  (.t 24) ((PC.reg [nn (.v 4) (.mv true (.c (.v (.bool false))))]).seq PC.ret) PC.skip)))).seq (PC.reg [nn (.t 25) (.bin .add (.v 13) (.c (.v (.int
  .i64 1)))),nn (.v 13) (.mv false (.t 25))])))
def pf116:PF:=
 PF.mk 2 14 26 ((PC.reg [nn (.v 4) (.mv true (.c (.v (.bool false))))]).seq (((PC.reg [nn (.v 6) (.mv false (.v 0)),nn (.v 7) (.len (.v 6)),nn (.v 8)
  (.mv false (.v 1)),nn (.v 9) (.len (.v 8)),nn (.v 10) (.bin .neq (.v 7) (.v 9))]).seq (PC.cond (.v 10) ((PC.reg [nn (.v 4) (.mv true (.c (.v (.bool
  false))))]).seq PC.ret) PC.skip)).seq (((PC.reg [nn (.v 11) (.mv false (.v 0)),nn (.v 12) (.len (.v 11)),nn (.v 13) (.mv false (.c (.v (.int .i64
  0))))]).seq (PC.block 0 (PC.loop [0,1,12,13] lp116_0))).seq ((PC.reg [nn (.v 4) (.mv true (.c (.v (.bool true))))]).seq PC.ret)))) [(.v 4,none)]
def pf94:PF:=
 PF.mk 2 5 38 ((PC.reg [nn (.v 2) (.box (.v 0)),nn (.v 3) (.box (.v 1)),nn (.v 4) (.mv true (.c (.v (.bool false))))]).seq ((PC.reg [nn (.t 5) (.fadr
  0 0 (.v 2)),nn (.t 6) (.load 32 true (.t 5)),nn (.t 7) (.fadr 0 0 (.v 3)),nn (.t 8) (.load 32 true (.t 7)),nn (.t 9) (.eqa false (.arr 32) (.t 6)
  (.t 8)),nn (.t 10) (.mv false (.t 9)),⟨.t 11,.fadr 1 32 (.v 2),some (.t 10,true)⟩,⟨.t 12,.load 1 false (.t 11),some (.t 10,true)⟩,⟨.t 13,
  .fadr 1 32 (.v 3),some (.t 10,true)⟩,⟨.t 14,.load 1 false (.t 13),some (.t 10,true)⟩,⟨.t 15,.bin .eql (.t 12) (.t 14),some (.t 10,true)⟩,
  nn (.t 16) (.pick (.t 10) (.t 15) (.c (.v (.bool false)))),nn (.t 17) (.mv false (.t 16)),⟨.t 18,.fadr 2 33 (.v 2),some (.t 17,true)⟩,⟨.t 19,
  .load 1 false (.t 18),some (.t 17,true)⟩,⟨.t 20,.fadr 2 33 (.v 3),some (.t 17,true)⟩,⟨.t 21,.load 1 false (.t 20),some (.t 17,true)⟩,⟨.t
  22,.bin .eql (.t 19) (.t 21),some (.t 17,true)⟩,nn (.t 23) (.pick (.t 17) (.t 22) (.c (.v (.bool false)))),nn (.t 24) (.mv false (.t 23)),⟨.t
  25,.fadr 3 34 (.v 2),some (.t 24,true)⟩,⟨.t 26,.load 1 false (.t 25),some (.t 24,true)⟩,⟨.t 27,.fadr 3 34 (.v 3),some (.t 24,true)⟩,⟨.t
  28,.load 1 false (.t 27),some (.t 24,true)⟩,⟨.t 29,.bin .eql (.t 26) (.t 28),some (.t 24,true)⟩,nn (.t 30) (.pick (.t 24) (.t 29) (.c (.v
  (.bool false)))),nn (.t 31) (.mv false (.t 30)),⟨.t 32,.fadr 4 35 (.v 2),some (.t 31,true)⟩,⟨.t 33,.load 1 false (.t 32),some (.t 31,true)⟩,
  ⟨.t 34,.fadr 4 35 (.v 3),some (.t 31,true)⟩,⟨.t 35,.load 1 false (.t 34),some (.t 31,true)⟩,⟨.t 36,.call 116 [.t 33,.t 35],some (.t 31,
  true)⟩,nn (.t 37) (.pick (.t 31) (.t 36) (.c (.v (.bool false)))),ma 4 37]).seq PC.ret)) [(.v 4,none)]
def lp48_0:PC:=
 ((PC.reg [mm 41 5,nn (.t 42) (.fadr 4 35 (.v 2)),nn (.t 43) (.load 1 false (.t 42)),nn (.t 44) (.len (.t 43)),nn (.t 45) (.bin .lss (.t 41) (.t
  44))]).seq (PC.cond (.t 45) PC.skip (PC.exit 0))).seq ((PC.block 1 ((PC.regD 0 [nn (.t 48) (.fadr 4 35 (.v 2)),nn (.t 49) (.load 1 false (.t 48)),
  mm 50 5,nn (.t 51) (.iadrS 7 (.t 49) (.t 50)),nn (.t 52) (.load 7 true (.t 51)),nn (.t 53) (.fadr 4 35 (.v 3)),nn (.t 54) (.load 1 false (.t
  53)),mm 55 5,nn (.t 56) (.iadrS 7 (.t 54) (.t 55)),nn (.t 57) (.load 7 true (.t 56)),nn (.t 58) (.eqa true (.agg (.cons 0 1 false .int (.cons 1 1
  false .int (.cons 2 1 false .int (.cons 3 1 false .int (.cons 4 1 false .int (.cons 5 1 false .str (.cons 6 1 false .str .nil)))))))) (.t 52) (.t
  57))] []).seq (PC.cond (.t 58) ((PC.reg [nn (.v 4) (.mv true (.c (.v (.bool false))))]).seq PC.ret) PC.skip))).seq (PC.reg [mm 46 5,nn (.t 47) (.bin
  .add (.t 46) (.c (.v (.int .i64 1)))),ma 5 47]))
def pf48:PF:=
 PF.mk 2 6 59 ((PC.reg [nn (.v 2) (.box (.v 0)),nn (.v 3) (.box (.v 1)),nn (.v 4) (.mv true (.c (.v (.bool false))))]).seq (((PC.reg [nn (.t 6) (.fadr
  0 0 (.v 2)),nn (.t 7) (.load 32 true (.t 6)),nn (.t 8) (.fadr 0 0 (.v 3)),nn (.t 9) (.load 32 true (.t 8)),nn (.t 10) (.eqa true (.arr 32) (.t 7)
  (.t 9)),nn (.t 11) (.mv false (.t 10)),⟨.t 12,.fadr 1 32 (.v 2),some (.t 11,false)⟩,⟨.t 13,.load 1 false (.t 12),some (.t 11,false)⟩,⟨.t
  14,.fadr 1 32 (.v 3),some (.t 11,false)⟩,⟨.t 15,.load 1 false (.t 14),some (.t 11,false)⟩,⟨.t 16,.bin .neq (.t 13) (.t 15),some (.t 11,
  false)⟩,nn (.t 17) (.pick (.t 11) (.c (.v (.bool true))) (.t 16)),nn (.t 18) (.mv false (.t 17)),⟨.t 19,.fadr 2 33 (.v 2),some (.t 18,false)⟩,
  ⟨.t 20,.load 1 false (.t 19),some (.t 18,false)⟩,⟨.t 21,.fadr 2 33 (.v 3),some (.t 18,false)⟩,⟨.t 22,.load 1 false (.t 21),some (.t 18,
  false)⟩,⟨.t 23,.bin .neq (.t 20) (.t 22),some (.t 18,false)⟩,nn (.t 24) (.pick (.t 18) (.c (.v (.bool true))) (.t 23)),nn (.t 25) (.mv false
  (.t 24)),⟨.t 26,.fadr 3 34 (.v 2),some (.t 25,false)⟩,⟨.t 27,.load 1 false (.t 26),some (.t 25,false)⟩,⟨.t 28,.fadr 3 34 (.v 3),some (.t
  25,false)⟩,⟨.t 29,.load 1 false (.t 28),some (.t 25,false)⟩,⟨.t 30,.bin .neq (.t 27) (.t 29),some (.t 25,false)⟩,nn (.t 31) (.pick (.t 25)
  (.c (.v (.bool true))) (.t 30)),nn (.t 32) (.mv false (.t 31)),⟨.t 33,.fadr 4 35 (.v 2),some (.t 32,false)⟩,⟨.t 34,.load 1 false (.t 33),some
  (.t 32,false)⟩,⟨.t 35,.len (.t 34),some (.t 32,false)⟩,⟨.t 36,.fadr 4 35 (.v 3),some (.t 32,false)⟩,⟨.t 37,.load 1 false (.t 36),some (.t
  32,false)⟩,⟨.t 38,.len (.t 37),some (.t 32,false)⟩,⟨.t 39,.bin .neq (.t 35) (.t 38),some (.t 32,false)⟩,nn (.t 40) (.pick (.t 32) (.c (.v
  (.bool true))) (.t 39))]).seq (PC.cond (.t 40) ((PC.reg [nn (.v 4) (.mv true (.c (.v (.bool false))))]).seq PC.ret) PC.skip)).seq (((PC.reg [nn (.v
  5) (.mv true (.c (.v (.int .i64 0))))]).seq (PC.block 0 (PC.loop [2,3,5] lp48_0))).seq ((PC.reg [nn (.v 4) (.mv true (.c (.v (.bool true))))]).seq
  PC.ret)))) [(.v 4,none)]
attribute [local irreducible] W Wops WopsD WL Wop WopD
variable {E:Env} {C:Abs.Spec} {l:List (Nat×Spec1)} {G:List (Nat×V)} {Q:R→List (Nat×V)→Prop}
set_option maxHeartbeats 1000000
def PlV (x:V) (l:List TxS):Prop:=x= .sle 7 (l.map TxS.v)∨(x= .nils∧l=[])
def TxsV (G:List (Nat×V)) (x:V) (l:List TxS):Prop:=
 PlV x l∨∃id c LL,x= .sob id 7 0 l.length c∧Abs.look G id=some (.agg LL)∧(∀(i:Nat) t,l[i]? =some t→LL[i]? =some t.v)∧l.length≤LL.length∧∀y∈LL,V.size y=7
theorem getD_tx {l:List TxS} {j:Nat} {p:TxS} {r:List TxS} (h:l.drop j=p::r):(l.map TxS.v).getD j V.nilp=p.v:=by
 have:(l.drop j)[0]? =some p:=by rw[h];rfl
 rw[List.getElem?_drop,Nat.add_zero]at this
 simp[List.getD,this]
def ZEx:Spec1
 |[x,y],G,Q=>∃l1 l2:List TxS,((PlV x l1∧PlV y l2)∨(∃id c,x= .sob id 7 0 l1.length c∧y= .nils∧l2=[]))∧l1.length < 1000000∧l2.length < 1000000∧Q (.v (.bool (decide (l1=l2)))) G
 |_,_,_=>False
theorem ZEx_eq {x y}:ZEx [x,y] G Q=(∃l1 l2:List TxS,((PlV x l1∧PlV y l2)∨(∃id c,x= .sob id 7 0 l1.length c∧y= .nils∧l2=[]))∧l1.length < 1000000∧l2.length < 1000000∧Q (.v (.bool (decide (l1=l2)))) G):=rfl
theorem loop116 {QQ:Ex→St→Prop} {l1 l2:List TxS} (hl:l1.length < 1000000) (h2:l1.length=l2.length)
  (hx:∀ts,l1=l2→QQ (.exit 0) ⟨[some (.v (.sle 7 (l1.map TxS.v))),some (.v (.sle 7 (l2.map TxS.v))),none,none,none,none,none,none,none,none,none,none,some (.v (.int .i64 (l1.length:Nat))),some (.v (.int .i64 (l1.length:Nat)))],ts,[],G⟩) (hr:∀ts v5 (v:Option D),l1≠l2→QQ .ret ⟨[some (.v (.sle 7 (l1.map TxS.v))),some (.v (.sle 7 (l2.map TxS.v))),none,none,some (.v (.bool false)),v5,none,none,none,none,none,none,some (.v (.int .i64 (l1.length:Nat))),v],ts,[],G⟩):
  ∀(e i:Nat),i+e=l1.length→l1.take i=l2.take i→WL (W E C lp116_0) [0,1,12,13] QQ (e+1) ⟨[some (.v (.sle 7 (l1.map TxS.v))),some (.v (.sle 7 (l2.map TxS.v))),none,none,none,none,none,none,none,none,none,none,some (.v (.int .i64 (l1.length:Nat))),some (.v (.int .i64 (i:Nat)))],[],[],G⟩:=by
 intro e
 induction e with
 |zero=>
  intro i hi ht
  obtain rfl:i=l1.length:=by omega
  rw[List.take_of_length_le (Nat.le_refl _),List.take_of_length_le (by omega)]at ht
  refine WL_in lp116_0.eq_1 ?_
  simp -implicitDefEqProofs only[Int.lt_irrefl,go_sem,↓reduceIte]
  exact hx _ ht
 |succ e ih=>
  intro i hi ht
  have c1:(i:Int) < (l1.length:Int):=by omega
  have c2:(i:Int) < (l2.length:Int):=by omega
  have c3:(0:Int)≤i:=by omega
  have w1:IntKind.i64.wrap ((i:Int)+1)=((i+1:Nat):Int):=wc (by omega) (by omega)
  obtain⟨p,r,hp⟩:∃p r,l1.drop i=p::r:=by
   cases hq:l1.drop i with
   |nil=>have:=drop_none hq;omega
   |cons p r=>exact⟨p,r,rfl⟩
  obtain⟨p2,r2,hp2⟩:∃p r,l2.drop i=p::r:=by
   cases hq:l2.drop i with
   |nil=>have:=drop_none hq;omega
   |cons p r=>exact⟨p,r,rfl⟩
  have a1:=at_drop2 hp
  have a2:=at_drop2 hp2
  have ihh:p=p2→_:=fun h=>ih (i+1) (by omega) (by rw[List.take_add_one,List.take_add_one,a1,a2,ht,h])
  have hno:p≠p2→l1≠l2:=fun h h3=>h (by rw[h3,a2]at a1;exact (Option.some.inj a1).symm)
  obtain⟨x1,x2,x3,x4,x5,x6,x7⟩:=p
  obtain⟨y1,y2,y3,y4,y5,y6,y7⟩:=p2
  have g1:(l1.map TxS.v).getD i V.nilp= .agg [.int .i64 x1,.int .i64 x2,.int .i64 x3,.int .i64 x4,.int .i64 x5,.str x6,.str x7]:=getD_tx hp
  have g2:(l2.map TxS.v).getD i V.nilp= .agg [.int .i64 y1,.int .i64 y2,.int .i64 y3,.int .i64 y4,.int .i64 y5,.str y6,.str y7]:=getD_tx hp2
  refine WL_in lp116_0.eq_1 ?_
  simp -implicitDefEqProofs only[c1,c2,c3,w1,g1,g2,Int.toNat_natCast,List.length_map,bs_eq,go_sem,↓reduceIte]
  refine⟨fun h=>hr _ _ _ (hno (fun h2=> ?_)),fun h=>ihh ?_⟩
  ·cases h2;simp at h
  ·obtain⟨rfl,rfl,rfl,rfl,rfl,rfl,rfl⟩:=h;rfl
theorem walk116 {x y:V} {l1 l2:List TxS} (hxy:(PlV x l1∧PlV y l2)∨(∃id c,x= .sob id 7 0 l1.length c∧y= .nils∧l2=[])) (hl:l1.length < 1000000) (hl2:l2.length < 1000000) (h:Q (.v (.bool (decide (l1=l2)))) G):Wf E C pf116 [x,y] G Q:=by
 have hno:¬(l1.length:Int)=(l2.length:Int)→Q (.v (.bool false)) G:=fun hn=>finB h (by rw[decide_eq_false_iff_not];rintro rfl;exact hn rfl)
 have hyes:l1=l2→Q (.v (.bool true)) G:=fun hn=>finB h (by rw[decide_eq_true_iff];exact hn)
 have hnn:l1≠l2→Q (.v (.bool false)) G:=fun hn=>finB h (by rw[decide_eq_false_iff_not];exact hn)
 rcases hxy with⟨rfl|⟨rfl,rfl⟩,rfl|⟨rfl,rfl⟩⟩|⟨id,c,rfl,rfl,rfl⟩
 ·simp -implicitDefEqProofs only[pf116,List.length_map,go_sem,↓reduceIte]
  refine⟨fun hn=>hno hn,fun he=>⟨l1.length+1,?_⟩⟩
  simp -implicitDefEqProofs only[go_sem,↓reduceIte]
  refine loop116 hl (by omega) (fun ts he=> ?_) (fun ts v5 v hn=> ?_) _ 0 (by omega) rfl
  ·simp -implicitDefEqProofs only[go_sem,↓reduceIte]
   exact hyes he
  ·simp -implicitDefEqProofs only[go_sem,↓reduceIte]
   exact hnn hn
 ·simp -implicitDefEqProofs only[pf116,List.length_map,go_sem,↓reduceIte]
  refine⟨fun hn=>hno (by simpa using hn),fun hz=>⟨1,?_⟩⟩
  simp -implicitDefEqProofs only[hz,go_sem,↓reduceIte]
  refine WL_in lp116_0.eq_1 ?_
  simp -implicitDefEqProofs only[hz,Int.lt_irrefl,go_sem,↓reduceIte]
  exact hyes (List.eq_nil_of_length_eq_zero (by omega))
 ·simp -implicitDefEqProofs only[pf116,List.length_map,go_sem,↓reduceIte]
  refine⟨fun hn=>hno (by simpa using hn),fun hz=>⟨1,?_⟩⟩
  simp -implicitDefEqProofs only[hz,go_sem,↓reduceIte]
  refine WL_in lp116_0.eq_1 ?_
  simp -implicitDefEqProofs only[hz,Int.lt_irrefl,go_sem,↓reduceIte]
  exact hyes (List.eq_nil_of_length_eq_zero (by omega)).symm
 ·simp -implicitDefEqProofs only[pf116,List.length_map,go_sem,↓reduceIte]
  refine⟨1,?_⟩
  simp -implicitDefEqProofs only[go_sem,↓reduceIte]
  refine WL_in lp116_0.eq_1 ?_
  simp -implicitDefEqProofs only[Int.lt_irrefl,go_sem,↓reduceIte]
  exact hyes rfl
 ·simp -implicitDefEqProofs only[pf116,List.length_map,go_sem,↓reduceIte]
  refine⟨fun hn=>hno (by simpa using hn),fun hz=>⟨1,?_⟩⟩
  simp -implicitDefEqProofs only[hz,go_sem,↓reduceIte]
  refine WL_in lp116_0.eq_1 ?_
  simp -implicitDefEqProofs only[hz,Int.lt_irrefl,go_sem,↓reduceIte]
  exact hyes (List.eq_nil_of_length_eq_zero (by omega))
def BV (b:BlkS) (x:V):V:= .agg [.arr .u8 32 b.pa,.int .i64 b.vi,.int .i64 b.he,.int .i64 b.who,x]
def Rws (x:V) (l1:List TxS) (y:V) (l2:List TxS):Prop:=(PlV x l1∧PlV y l2)∨(∃id c,x= .sob id 7 0 l1.length c∧y= .nils∧l2=[])
theorem PlV.one {x:V} {l:List TxS} (h:PlV x l):V.size x=1∧V.isAgg x=false:=by
 rcases h with rfl|⟨rfl,_⟩<;>exact⟨rfl,rfl⟩
theorem Rws.one {x y:V} {l1 l2:List TxS} (h:Rws x l1 y l2):(V.size x=1∧V.isAgg x=false)∧(V.size y=1∧V.isAgg y=false):=by
 rcases h with⟨h1,h2⟩|⟨id,c,rfl,rfl,rfl⟩
 ·exact⟨h1.one,h2.one⟩
 ·exact⟨⟨rfl,rfl⟩,rfl,rfl⟩
def ZBs:Spec1
 |[u,v],G,Q=>∃(a b:BlkS) (x y:V),(u=BV a x∧v=BV b y∧Rws x a.txs y b.txs∧a.txs.length < 1000000∧b.txs.length < 1000000)∧Q (.v (.bool (decide (a=b)))) G
 |_,_,_=>False
theorem ZBs_eq {u v}:ZBs [u,v] G Q=(∃(a b:BlkS) (x y:V),(u=BV a x∧v=BV b y∧Rws x a.txs y b.txs∧a.txs.length < 1000000∧b.txs.length < 1000000)∧Q (.v (.bool (decide (a=b)))) G):=rfl
theorem walk94 {a b:BlkS} {x y:V} (hE:Abs.look l 116=some ZEx) (hr:Rws x a.txs y b.txs) (hl:a.txs.length < 1000000) (hl2:b.txs.length < 1000000) (h:Q (.v (.bool (decide (a=b)))) G):Wf E (specOf l) pf94 [BV a x,BV b y] G Q:=by
 obtain⟨⟨x1,x2⟩,y1,y2⟩:=hr.one
 unfold V.isAgg at x2 y2
 obtain⟨a1,a2,a3,a4,a5⟩:=a
 obtain⟨b1,b2,b3,b4,b5⟩:=b
 simp -implicitDefEqProofs only[pf94,BV,x1,x2,y1,y2,hE,ZEx_eq,go_sem,↓reduceIte]
 have no:¬((⟨a1,a2,a3,a4,a5⟩:BlkS)=⟨b1,b2,b3,b4,b5⟩)→Q (.v (.bool false)) G:=fun hn=>finB h (by rw[decide_eq_false_iff_not];exact hn)
 refine⟨fun h1=>⟨fun h2=>⟨fun h3=>⟨fun h4=>⟨a5,b5,hr,hl,hl2,?_⟩,fun h4=>no (fun e=>h4 (by cases e;rfl))⟩,fun h3=>no (fun e=>h3 (by cases e;rfl))⟩,fun h2=>no (fun e=>h2 (by cases e;rfl))⟩,fun h1=>no (fun e=>by cases e;simp at h1)⟩
 have h1:=eq_of_beq h1
 subst h1;subst h2;subst h3;subst h4
 refine finB h ?_
 rw[decide_eq_decide];exact⟨fun e=>by cases e;rfl,fun e=>by rw[e]⟩
theorem loop48 {QQ:Ex→St→Prop} {a b:BlkS} {z:List Bx} (hl:a.txs.length < 1000000) (h2:a.txs.length=b.txs.length) (hz:z=[⟨false,a.v⟩,⟨false,b.v⟩])
  (hx:∀ts,a.txs=b.txs→QQ (.exit 0) ⟨[none,none,some (.lp 0 []),some (.lp 1 []),none,some (.v (.int .i64 (a.txs.length:Nat)))],ts,z,G⟩) (hr:∀ts (v5:Option D),a.txs≠b.txs→QQ .ret ⟨[none,none,some (.lp 0 []),some (.lp 1 []),some (.v (.bool false)),v5],ts,z,G⟩):
  ∀(e i:Nat),i+e=a.txs.length→a.txs.take i=b.txs.take i→WL (W E C lp48_0) [2,3,5] QQ (e+1) ⟨[none,none,some (.lp 0 []),some (.lp 1 []),none,some (.v (.int .i64 (i:Nat)))],[],z,G⟩:=by
 intro e
 induction e with
 |zero=>
  intro i hi ht
  obtain rfl:i=a.txs.length:=by omega
  rw[List.take_of_length_le (Nat.le_refl _),List.take_of_length_le (by omega)]at ht
  subst hz
  refine WL_in lp48_0.eq_1 ?_
  simp -implicitDefEqProofs only[BlkS.v,List.length_map,Int.lt_irrefl,go_sem,↓reduceIte]
  exact hx _ ht
 |succ e ih=>
  intro i hi ht
  have c1:(i:Int) < (a.txs.length:Int):=by omega
  have c2:(i:Int) < (b.txs.length:Int):=by omega
  have c3:(0:Int)≤i:=by omega
  have w1:IntKind.i64.wrap ((i:Int)+1)=((i+1:Nat):Int):=wc (by omega) (by omega)
  obtain⟨p,r,hp⟩:∃p r,a.txs.drop i=p::r:=by
   cases hq:a.txs.drop i with
   |nil=>have:=drop_none hq;omega
   |cons p r=>exact⟨p,r,rfl⟩
  obtain⟨p2,r2,hp2⟩:∃p r,b.txs.drop i=p::r:=by
   cases hq:b.txs.drop i with
   |nil=>have:=drop_none hq;omega
   |cons p r=>exact⟨p,r,rfl⟩
  have a1:=at_drop2 hp
  have a2:=at_drop2 hp2
  have ihh:p=p2→_:=fun h=>ih (i+1) (by omega) (by rw[List.take_add_one,List.take_add_one,a1,a2,ht,h])
  have hno:p≠p2→a.txs≠b.txs:=fun h h3=>h (by rw[h3,a2]at a1;exact (Option.some.inj a1).symm)
  obtain⟨x1,x2,x3,x4,x5,x6,x7⟩:=p
  obtain⟨y1,y2,y3,y4,y5,y6,y7⟩:=p2
  have g1:(a.txs.map TxS.v).getD i V.nilp= .agg [.int .i64 x1,.int .i64 x2,.int .i64 x3,.int .i64 x4,.int .i64 x5,.str x6,.str x7]:=getD_tx hp
  have g2:(b.txs.map TxS.v).getD i V.nilp= .agg [.int .i64 y1,.int .i64 y2,.int .i64 y3,.int .i64 y4,.int .i64 y5,.str y6,.str y7]:=getD_tx hp2
  subst hz
  refine WL_in lp48_0.eq_1 ?_
  simp -implicitDefEqProofs only[BlkS.v,c1,c2,c3,w1,g1,g2,Int.toNat_natCast,List.length_map,bs_eq,go_sem,↓reduceIte]
  refine⟨fun h=>hr _ _ (hno (fun h2=> ?_)),fun h=>ihh ?_⟩
  ·cases h2;simp at h
  ·obtain⟨rfl,rfl,rfl,rfl,rfl,rfl,rfl⟩:=h;rfl
theorem walk48 {a b:BlkS} {x y:V} (hr:Rws x a.txs y b.txs) (hl:a.txs.length < 1000000) (hl2:b.txs.length < 1000000) (h:Q (.v (.bool (decide (a=b)))) G):Wf E C pf48 [BV a x,BV b y] G Q:=by
 obtain⟨⟨x1,x2⟩,y1,y2⟩:=hr.one
 unfold V.isAgg at x2 y2
 have no:a≠b→Q (.v (.bool false)) G:=fun hn=>finB h (by rw[decide_eq_false_iff_not];exact hn)
 have yes:a=b→Q (.v (.bool true)) G:=fun hn=>finB h (by rw[decide_eq_true_iff];exact hn)
 have all:a.pa=b.pa→a.vi=b.vi→a.he=b.he→a.who=b.who→a.txs=b.txs→a=b:=fun h1 h2 h3 h4 h5=>by
  cases a;cases b;dsimp only at h1 h2 h3 h4 h5;subst h1;subst h2;subst h3;subst h4;subst h5;rfl
 have hno:¬(a.txs.length:Int)=(b.txs.length:Int)→a≠b:=fun hn e=>hn (by rw[e])
 rcases hr with⟨rfl|⟨rfl,ea⟩,rfl|⟨rfl,eb⟩⟩|⟨id,c,rfl,rfl,eb⟩
 ·simp -implicitDefEqProofs only[pf48,BV,List.length_map,go_sem,↓reduceIte]
  refine⟨fun h1=>no (fun e=>by rw[e]at h1;simp at h1),fun h1=>⟨fun h2=>no (fun e=>h2 (by rw[e])),fun h2=>⟨fun h3=>no (fun e=>h3 (by rw[e])),fun h3=>⟨fun h4=>no (fun e=>h4 (by rw[e])),fun h4=>⟨fun h5=>no (fun e=>h5 (by rw[e])),fun h5=> ?_⟩⟩⟩⟩⟩
  refine⟨a.txs.length+1,?_⟩
  simp -implicitDefEqProofs only[go_sem,↓reduceIte]
  refine loop48 hl (by omega) rfl (fun ts he=> ?_) (fun ts v5 hn=> ?_) _ 0 (by omega) rfl
  ·simp -implicitDefEqProofs only[go_sem,↓reduceIte]
   exact yes (all (eq_of_beq h1) h2 h3 h4 he)
  ·simp -implicitDefEqProofs only[go_sem,↓reduceIte]
   exact no (fun e=>hn (by rw[e]))
 ·simp -implicitDefEqProofs only[pf48,BV,List.length_map,go_sem,↓reduceIte]
  refine⟨fun h1=>no (fun e=>by rw[e]at h1;simp at h1),fun h1=>⟨fun h2=>no (fun e=>h2 (by rw[e])),fun h2=>⟨fun h3=>no (fun e=>h3 (by rw[e])),fun h3=>⟨fun h4=>no (fun e=>h4 (by rw[e])),fun h4=>⟨fun h5=>no (fun e=>h5 (by rw[e,eb];rfl)),fun h5=> ?_⟩⟩⟩⟩⟩
  refine⟨1,?_⟩
  simp -implicitDefEqProofs only[List.length_map,h5,go_sem,↓reduceIte]
  refine WL_in lp48_0.eq_1 ?_
  simp -implicitDefEqProofs only[List.length_map,h5,Int.lt_irrefl,go_sem,↓reduceIte]
  exact yes (all (eq_of_beq h1) h2 h3 h4 (by rw[eb];exact List.eq_nil_of_length_eq_zero (by omega)))
 ·simp -implicitDefEqProofs only[pf48,BV,List.length_map,go_sem,↓reduceIte]
  refine⟨fun h1=>no (fun e=>by rw[e]at h1;simp at h1),fun h1=>⟨fun h2=>no (fun e=>h2 (by rw[e])),fun h2=>⟨fun h3=>no (fun e=>h3 (by rw[e])),fun h3=>⟨fun h4=>no (fun e=>h4 (by rw[e])),fun h4=>⟨fun h5=>no (fun e=>h5 (by rw[←e,ea];rfl)),fun h5=> ?_⟩⟩⟩⟩⟩
  refine⟨1,?_⟩
  simp -implicitDefEqProofs only[List.length_map,h5,go_sem,↓reduceIte]
  refine WL_in lp48_0.eq_1 ?_
  simp -implicitDefEqProofs only[←h5,Int.lt_irrefl,go_sem,↓reduceIte]
  exact yes (all (eq_of_beq h1) h2 h3 h4 (by rw[ea];exact (List.eq_nil_of_length_eq_zero (by omega)).symm))
 ·simp -implicitDefEqProofs only[pf48,BV,List.length_map,go_sem,↓reduceIte]
  refine⟨fun h1=>no (fun e=>by rw[e]at h1;simp at h1),fun h1=>⟨fun h2=>no (fun e=>h2 (by rw[e])),fun h2=>⟨fun h3=>no (fun e=>h3 (by rw[e])),fun h3=>⟨fun h4=>no (fun e=>h4 (by rw[e])),fun h4=> ?_⟩⟩⟩⟩
  refine⟨1,?_⟩
  simp -implicitDefEqProofs only[go_sem,↓reduceIte]
  refine WL_in lp48_0.eq_1 ?_
  simp -implicitDefEqProofs only[Int.lt_irrefl,go_sem,↓reduceIte]
  exact yes (all (eq_of_beq h1) h2 h3 h4 (by rw[ea,eb]))
 ·simp -implicitDefEqProofs only[pf48,BV,List.length_map,go_sem,↓reduceIte]
  refine⟨fun h1=>no (fun e=>by rw[e]at h1;simp at h1),fun h1=>⟨fun h2=>no (fun e=>h2 (by rw[e])),fun h2=>⟨fun h3=>no (fun e=>h3 (by rw[e])),fun h3=>⟨fun h4=>no (fun e=>h4 (by rw[e])),fun h4=>⟨fun h5=>no (fun e=>h5 (by rw[e,eb];rfl)),fun h5=> ?_⟩⟩⟩⟩⟩
  refine⟨1,?_⟩
  simp -implicitDefEqProofs only[List.length_map,h5,go_sem,↓reduceIte]
  refine WL_in lp48_0.eq_1 ?_
  simp -implicitDefEqProofs only[List.length_map,h5,Int.lt_irrefl,go_sem,↓reduceIte]
  exact yes (all (eq_of_beq h1) h2 h3 h4 (by rw[eb];exact List.eq_nil_of_length_eq_zero (by omega)))
end Go.Proofs.Ytjbglbhcbenhpaa.Sha
