/- Certificates: read. -/
import Derived.Test.YtegamlopcdjiaaaDoorUCrt9
namespace Go.Proofs.YtegamlopcdjiaaaDoor.Sha
open Go Go.Abs Go.Abs.Sha Go.Abs.Srt
set_option linter.unusedSimpArgs false
set_option linter.unusedVariables false
set_option maxRecDepth 100000
def lp37_0:PC:=
 (PC.reg [nn (.t 22) (.bin .lss (.v 21) (.v 20))]).seq ((PC.cond (.t 22) PC.skip (PC.exit 0)).seq ((PC.block 1 (PC.regW 0 [(0,nn (.t 23) (.fadr 1 101
  (.v 4))),(1,nn (.t 24) (.load 1 false (.t 23))),(2,mm 25 0),(4,mm 27 0),(3,nn (.t 26) (.callW 66 [.t 25,.c (.v (.int .i64 21))])),(5,nn
  (.t 28) (.callW 67 [.t 27])),(6,nn (.t 29) (.build (.agg [.int .i64 0,.arr .u8 32 [0,0,0,0,0,0,0,0,0,0,0,0,0,0,0,0,0,0,0,0,0,
  0,0,0,0,0,0,0,0,0,0,0]]) [(0,.t 26),(1,.t 28)])),(7,nn (.t 30) (.buildS none 33 (.agg [.int .i64 0,.arr .u8 32 [0,0,0,0,0,0,0,
  0,0,0,0,0,0,0,0,0,0,0,0,0,0,0,0,0,0,0,0,0,0,0,0,0]]) 1 [(0,.t 29)])),(8,nn (.t 31) (.appR 33 40 (.agg [.int .i64 0,.arr
  .u8 32 [0,0,0,0,0,0,0,0,0,0,0,0,0,0,0,0,0,0,0,0,0,0,0,0,0,0,0,0,0,0,0,0]]) (.t 24) (.t 30))),(9,nn (.t 32) (.fadr 1
  101 (.v 4))),(10,nn .no (.store 1 (.t 32) (.t 31)))] [(1,3),(1,5)])).seq (PC.reg [nn (.t 33) (.bin .add (.v 21) (.c (.v (.int .i64 1)))),nn (.v
  21) (.mv false (.t 33))])))
def pf37:PF:=
 PF.mk 1 22 43 ((PC.reg [nn (.v 2) (.alloc (.agg [.agg [.int .i64 0,.int .i64 0,.int .i64 0,.int .i64 0,.arr .u8 32 [0,0,0,0,0,0,0,0,0,0,
  0,0,0,0,0,0,0,0,0,0,0,0,0,0,0,0,0,0,0,0,0,0],.int .i64 0,.arr .u8 32 [0,0,0,0,0,0,0,0,0,0,0,0,0,0,0,0,0,0,0,
  0,0,0,0,0,0,0,0,0,0,0,0,0],.arr .u8 32 [0,0,0,0,0,0,0,0,0,0,0,0,0,0,0,0,0,0,0,0,0,0,0,0,0,0,0,0,0,0,0,
  0]],.nils])),nn (.v 3) (.mv true (.c (.v (.bool false))))]).seq ((PC.reg [nn (.v 4) (.alloc (.agg [.agg [.int .i64 0,.int .i64 0,.int .i64 0,
  .int .i64 0,.arr .u8 32 [0,0,0,0,0,0,0,0,0,0,0,0,0,0,0,0,0,0,0,0,0,0,0,0,0,0,0,0,0,0,0,0],.int .i64 0,.arr .u8 32
  [0,0,0,0,0,0,0,0,0,0,0,0,0,0,0,0,0,0,0,0,0,0,0,0,0,0,0,0,0,0,0,0],.arr .u8 32 [0,0,0,0,0,0,0,0,0,0,0,0,0,
  0,0,0,0,0,0,0,0,0,0,0,0,0,0,0,0,0,0,0]],.nils]))]).seq ((PC.reg [nn (.v 5) (.mv false (.v 0)),nn (.v 6) (.call 66 [.v 5,.c (.v
  (.int .i64 3))]),nn (.v 7) (.mv false (.v 0)),nn (.v 8) (.call 66 [.v 7,.c (.v (.int .i64 1099511627776))]),nn (.v 9) (.mv false (.v 0)),nn (.v
  10) (.call 66 [.v 9,.c (.v (.int .i64 3))]),nn (.v 11) (.mv false (.v 0)),nn (.v 12) (.call 67 [.v 11]),nn (.v 13) (.mv false (.v 0)),nn (.v 14)
  (.call 66 [.v 13,.c (.v (.int .i64 1099511627776))]),nn (.v 15) (.mv false (.v 0)),nn (.v 16) (.call 67 [.v 15]),nn (.v 17) (.build (.agg [.int
  .i64 0,.int .i64 0,.int .i64 0,.int .i64 0,.arr .u8 32 [0,0,0,0,0,0,0,0,0,0,0,0,0,0,0,0,0,0,0,0,0,0,0,0,0,0,0,0,0,0,
  0,0],.int .i64 0,.arr .u8 32 [0,0,0,0,0,0,0,0,0,0,0,0,0,0,0,0,0,0,0,0,0,0,0,0,0,0,0,0,0,0,0,0],.arr .u8 32 [0,0,
  0,0,0,0,0,0,0,0,0,0,0,0,0,0,0,0,0,0,0,0,0,0,0,0,0,0,0,0,0,0]]) [(1,.v 6),(2,.v 8),(3,.v 10),(4,.v 12),(5,.v
  14),(6,.v 16)]),nn (.v 18) (.fadr 0 0 (.v 4)),nn .no (.store 101 (.v 18) (.v 17))]).seq (((PC.reg [nn (.v 19) (.mv false (.v 0)),nn (.v 20)
  (.call 66 [.v 19,.c (.v (.int .i64 21))]),nn (.v 21) (.mv false (.c (.v (.int .i64 0))))]).seq (PC.block 0 (PC.loop [0,2,4,20,21] lp37_0))).seq
  (((PC.reg [mm 34 0,nn (.t 35) (.call 68 [.t 34]),nn (.t 36) (.mv false (.t 35)),⟨.t 37,.load 102 true (.v 4),some (.t 36,false)⟩,⟨.t 38,.call
  75 [.t 37],some (.t 36,false)⟩,⟨.t 39,.un .not (.t 38),some (.t 36,false)⟩,nn (.t 40) (.pick (.t 36) (.c (.v (.bool true))) (.t 39))]).seq
  (PC.cond (.t 40) ((PC.reg [nn (.t 41) (.build (.agg [.agg [.int .i64 0,.int .i64 0,.int .i64 0,.int .i64 0,.arr .u8 32 [0,0,0,0,0,0,0,0,
  0,0,0,0,0,0,0,0,0,0,0,0,0,0,0,0,0,0,0,0,0,0,0,0],.int .i64 0,.arr .u8 32 [0,0,0,0,0,0,0,0,0,0,0,0,0,0,0,0,0,
  0,0,0,0,0,0,0,0,0,0,0,0,0,0,0],.arr .u8 32 [0,0,0,0,0,0,0,0,0,0,0,0,0,0,0,0,0,0,0,0,0,0,0,0,0,0,0,0,0,0,
  0,0]],.nils]) []),nn .no (.store 102 (.v 2) (.t 41)),nn (.v 3) (.mv true (.c (.v (.bool false))))]).seq PC.ret) PC.skip)).seq ((PC.reg [nn (.t
  42) (.load 102 true (.v 4)),nn .no (.store 102 (.v 2) (.t 42)),nn (.v 3) (.mv true (.c (.v (.bool true))))]).seq PC.ret)))))) [(.v 2,some (102,
  true)),(.v 3,none)]
def lp38_0:PC:=
 ((PC.reg [mm 57 7,mm 58 6,nn (.t 59) (.bin .lss (.t 57) (.t 58))]).seq (PC.cond (.t 59) PC.skip (PC.exit 0))).seq ((PC.block 1 ((PC.reg [nn (.t 62)
  (.build (.agg [.int .i64 0,.arr .u8 32 [0,0,0,0,0,0,0,0,0,0,0,0,0,0,0,0,0,0,0,0,0,0,0,0,0,0,0,0,0,0,0,0]]) []),nn
  (.v 8) (.alloc (.agg [.int .i64 0,.arr .u8 32 [0,0,0,0,0,0,0,0,0,0,0,0,0,0,0,0,0,0,0,0,0,0,0,0,0,0,0,0,0,0,0,0]])),
  nn .no (.store 33 (.v 8) (.t 62))]).seq ((PC.reg [nn (.t 64) (.load 3 true (.v 1)),nn (.t 65) (.call 69 [.t 64,.c (.v (.int .i64 21))]),nn (.t 63)
  (.mv false (.t 65)),nn (.t 66) (.ext (.t 63) 0),nn (.t 67) (.ext (.t 63) 1),nn .no (.store 3 (.v 1) (.t 66)),nn (.t 68) (.fadr 0 0 (.v 8)),nn
  .no (.store 1 (.t 68) (.t 67))]).seq ((PC.reg [nn (.t 70) (.load 3 true (.v 1)),nn (.t 71) (.call 70 [.t 70]),nn (.t 69) (.mv false (.t 71)),nn
  (.t 72) (.ext (.t 69) 0),nn (.t 73) (.ext (.t 69) 1),nn .no (.store 3 (.v 1) (.t 72)),nn (.t 74) (.fadr 1 1 (.v 8)),nn .no (.store 32 (.t 74) (.t
  73))]).seq (PC.reg [nn (.t 75) (.fadr 1 101 (.v 5)),nn (.t 76) (.load 1 false (.t 75)),nn (.t 77) (.load 33 true (.v 8)),nn (.t 78) (.buildS none
  33 (.agg [.int .i64 0,.arr .u8 32 [0,0,0,0,0,0,0,0,0,0,0,0,0,0,0,0,0,0,0,0,0,0,0,0,0,0,0,0,0,0,0,0]]) 1 [(0,.t
  77)]),nn (.t 79) (.appR 33 40 (.agg [.int .i64 0,.arr .u8 32 [0,0,0,0,0,0,0,0,0,0,0,0,0,0,0,0,0,0,0,0,0,0,0,0,0,0,0,0,
  0,0,0,0]]) (.t 76) (.t 78)),nn (.t 80) (.fadr 1 101 (.v 5)),nn .no (.store 1 (.t 80) (.t 79))]))))).seq (PC.reg [mm 60 7,nn (.t 61) (.bin .add
  (.t 60) (.c (.v (.int .i64 1)))),ma 7 61]))
def pf38:PF:=
 PF.mk 1 9 92 ((PC.reg [nn (.v 1) (.box (.v 0)),nn (.v 2) (.alloc (.agg [.nils,.int .i64 0,.bool false])),nn (.v 3) (.alloc (.agg [.agg [.int .i64
  0,.int .i64 0,.int .i64 0,.int .i64 0,.arr .u8 32 [0,0,0,0,0,0,0,0,0,0,0,0,0,0,0,0,0,0,0,0,0,0,0,0,0,0,0,0,0,0,0,
  0],.int .i64 0,.arr .u8 32 [0,0,0,0,0,0,0,0,0,0,0,0,0,0,0,0,0,0,0,0,0,0,0,0,0,0,0,0,0,0,0,0],.arr .u8 32 [0,0,0,
  0,0,0,0,0,0,0,0,0,0,0,0,0,0,0,0,0,0,0,0,0,0,0,0,0,0,0,0,0]],.nils])),nn (.v 4) (.mv true (.c (.v (.bool false))))]).seq
  ((PC.reg [nn (.t 9) (.build (.agg [.agg [.int .i64 0,.int .i64 0,.int .i64 0,.int .i64 0,.arr .u8 32 [0,0,0,0,0,0,0,0,0,0,0,0,0,0,
  0,0,0,0,0,0,0,0,0,0,0,0,0,0,0,0,0,0],.int .i64 0,.arr .u8 32 [0,0,0,0,0,0,0,0,0,0,0,0,0,0,0,0,0,0,0,0,0,0,0,
  0,0,0,0,0,0,0,0,0],.arr .u8 32 [0,0,0,0,0,0,0,0,0,0,0,0,0,0,0,0,0,0,0,0,0,0,0,0,0,0,0,0,0,0,0,0]],.nils])
  []),nn (.v 5) (.alloc (.agg [.agg [.int .i64 0,.int .i64 0,.int .i64 0,.int .i64 0,.arr .u8 32 [0,0,0,0,0,0,0,0,0,0,0,0,0,0,0,0,
  0,0,0,0,0,0,0,0,0,0,0,0,0,0,0,0],.int .i64 0,.arr .u8 32 [0,0,0,0,0,0,0,0,0,0,0,0,0,0,0,0,0,0,0,0,0,0,0,0,0,
  0,0,0,0,0,0,0],.arr .u8 32 [0,0,0,0,0,0,0,0,0,0,0,0,0,0,0,0,0,0,0,0,0,0,0,0,0,0,0,0,0,0,0,0]],.nils])),nn .no
  (.store 102 (.v 5) (.t 9))]).seq ((PC.reg [nn (.v 6) (.mv true (.c (.v (.int .i64 0))))]).seq ((PC.reg [nn (.t 11) (.load 3 true (.v 1)),nn (.t 12)
  (.call 69 [.t 11,.c (.v (.int .i64 3))]),nn (.t 10) (.mv false (.t 12)),nn (.t 13) (.ext (.t 10) 0),nn (.t 14) (.ext (.t 10) 1),nn .no (.store 3
  (.v 1) (.t 13)),nn (.t 15) (.fadr 0 0 (.v 5)),nn (.t 16) (.fadr 1 1 (.t 15)),nn .no (.store 1 (.t 16) (.t 14))]).seq ((PC.reg [nn (.t 18) (.load 3
  true (.v 1)),nn (.t 19) (.call 69 [.t 18,.c (.v (.int .i64 1099511627776))]),nn (.t 17) (.mv false (.t 19)),nn (.t 20) (.ext (.t 17) 0),nn (.t
  21) (.ext (.t 17) 1),nn .no (.store 3 (.v 1) (.t 20)),nn (.t 22) (.fadr 0 0 (.v 5)),nn (.t 23) (.fadr 2 2 (.t 22)),nn .no (.store 1 (.t 23) (.t
  21))]).seq ((PC.reg [nn (.t 25) (.load 3 true (.v 1)),nn (.t 26) (.call 69 [.t 25,.c (.v (.int .i64 3))]),nn (.t 24) (.mv false (.t 26)),nn (.t
  27) (.ext (.t 24) 0),nn (.t 28) (.ext (.t 24) 1),nn .no (.store 3 (.v 1) (.t 27)),nn (.t 29) (.fadr 0 0 (.v 5)),nn (.t 30) (.fadr 3 3 (.t 29)),
  nn .no (.store 1 (.t 30) (.t 28))]).seq ((PC.reg [nn (.t 32) (.load 3 true (.v 1)),nn (.t 33) (.call 70 [.t 32]),nn (.t 31) (.mv false (.t 33)),nn
  (.t 34) (.ext (.t 31) 0),nn (.t 35) (.ext (.t 31) 1),nn .no (.store 3 (.v 1) (.t 34)),nn (.t 36) (.fadr 0 0 (.v 5)),nn (.t 37) (.fadr 4 4 (.t
  36)),nn .no (.store 32 (.t 37) (.t 35))]).seq ((PC.reg [nn (.t 39) (.load 3 true (.v 1)),nn (.t 40) (.call 69 [.t 39,.c (.v (.int .i64
  1099511627776))]),nn (.t 38) (.mv false (.t 40)),nn (.t 41) (.ext (.t 38) 0),nn (.t 42) (.ext (.t 38) 1),nn .no (.store 3 (.v 1) (.t 41)),nn (.t
  43) (.fadr 0 0 (.v 5)),nn (.t 44) (.fadr 5 36 (.t 43)),nn .no (.store 1 (.t 44) (.t 42))]).seq ((PC.reg [nn (.t 46) (.load 3 true (.v 1)),nn (.t
  47) (.call 70 [.t 46]),nn (.t 45) (.mv false (.t 47)),nn (.t 48) (.ext (.t 45) 0),nn (.t 49) (.ext (.t 45) 1),nn .no (.store 3 (.v 1) (.t 48)),
  nn (.t 50) (.fadr 0 0 (.v 5)),nn (.t 51) (.fadr 6 37 (.t 50)),nn .no (.store 32 (.t 51) (.t 49))]).seq ((PC.reg [nn (.t 53) (.load 3 true (.v 1)),
  nn (.t 54) (.call 69 [.t 53,.c (.v (.int .i64 21))]),nn (.t 52) (.mv false (.t 54)),nn (.t 55) (.ext (.t 52) 0),nn (.t 56) (.ext (.t 52) 1),nn
  .no (.store 3 (.v 1) (.t 55)),ma 6 56]).seq (((PC.reg [nn (.v 7) (.mv true (.c (.v (.int .i64 0))))]).seq (PC.block 0 (PC.loop [1,2,3,5,6,7]
  lp38_0))).seq (((PC.reg [nn (.t 81) (.fadr 2 2 (.v 1)),nn (.t 82) (.load 1 false (.t 81)),nn (.t 83) (.mv false (.t 82)),⟨.t 84,.load 102 true
  (.v 5),some (.t 83,false)⟩,⟨.t 85,.call 40 [.t 84],some (.t 83,false)⟩,⟨.t 86,.un .not (.t 85),some (.t 83,false)⟩,nn (.t 87) (.pick (.t
  83) (.c (.v (.bool true))) (.t 86))]).seq (PC.cond (.t 87) ((PC.reg [nn (.t 88) (.load 3 true (.v 1)),nn (.t 89) (.build (.agg [.agg [.int .i64 0,
  .int .i64 0,.int .i64 0,.int .i64 0,.arr .u8 32 [0,0,0,0,0,0,0,0,0,0,0,0,0,0,0,0,0,0,0,0,0,0,0,0,0,0,0,0,0,0,0,0],
  .int .i64 0,.arr .u8 32 [0,0,0,0,0,0,0,0,0,0,0,0,0,0,0,0,0,0,0,0,0,0,0,0,0,0,0,0,0,0,0,0],.arr .u8 32 [0,0,0,0,
  0,0,0,0,0,0,0,0,0,0,0,0,0,0,0,0,0,0,0,0,0,0,0,0,0,0,0,0]],.nils]) []),nn .no (.store 3 (.v 2) (.t 88)),nn .no (.store
  102 (.v 3) (.t 89)),nn (.v 4) (.mv true (.c (.v (.bool false))))]).seq PC.ret) PC.skip)).seq ((PC.regD 0 [nn (.t 90) (.load 3 true (.v 1)),nn (.t
  91) (.load 102 true (.v 5)),nn .no (.store 3 (.v 2) (.t 90)),nn .no (.store 102 (.v 3) (.t 91)),nn (.v 4) (.mv true (.c (.v (.bool true))))] [(1,
  2)]).seq PC.ret))))))))))))) [(.v 2,some (3,true)),(.v 3,some (102,true)),(.v 4,none)]
attribute [local irreducible] W Wops WopsD WL Wop WopD
variable {E:Env} {C:Abs.Spec} {l:List (Nat×Spec1)} {G:List (Nat×V)} {Q:R→List (Nat×V)→Prop}
set_option maxHeartbeats 1000000
def ZRc:Spec1
 |[.ptr id],G,Q=>∃b c r w,(Abs.look G id=some (.agg [.sli .u8 b,.bool false])∧Byt b∧b.length < 100000000000∧rdCert (b,false)=(c,r,w))∧Q (.tup [(certR c w).v,.bool (!w&&c.may)]) (Abs.upd G id (.agg [.sli .u8 r,.bool w]))
 |_,_,_=>False
theorem ZRc_eq {id}:ZRc [.ptr id] G Q=(∃b c r w,(Abs.look G id=some (.agg [.sli .u8 b,.bool false])∧Byt b∧b.length < 100000000000∧rdCert (b,false)=(c,r,w))∧Q (.tup [(certR c w).v,.bool (!w&&c.may)]) (Abs.upd G id (.agg [.sli .u8 r,.bool w]))):=rfl
def ZRe:Spec1
 |[.agg [.sli .u8 B,.int .i64 0,.bool false]],G,Q=>∃c r w,(Byt B∧B.length < 100000000000∧rdCert (B,false)=(c,r,w))∧Q (.tup [.agg [.sli .u8 B,.int .i64 ((B.length:Int)-r.length),.bool w],(certR c w).v,.bool (!w&&c.may)]) G
 |_,_,_=>False
theorem ZRe_eq {B}:ZRe [.agg [.sli .u8 B,.int .i64 0,.bool false]] G Q=(∃c r w,(Byt B∧B.length < 100000000000∧rdCert (B,false)=(c,r,w))∧Q (.tup [.agg [.sli .u8 B,.int .i64 ((B.length:Int)-r.length),.bool w],(certR c w).v,.bool (!w&&c.may)]) G):=rfl
theorem loop37 (hU:Abs.look l 66=some SUp) (hH:Abs.look l 67=some SHs) {QQ:Ex→St→Prop} {id k:Nat} {u0:V} {n1 n2 n3 n5:Int} {n4 n6 r7:List Int} {w7:Bool} {x0:Bx} (hid:Abs.look G id=some u0) (hb:Byt r7) (hl:r7.length < 100000000000) (hk:k≤21)
  (hx:∀ts G' x l2 r w,rdSigs k (r7,w7)=(l2,r,w)→Row (Abs.upd G id (.agg [.sli .u8 r,.bool w])) G' 33 (.agg [.int .i64 0,.arr .u8 32 [0,0,0,0,0,0,0,0,0,0,0,0,0,0,0,0,0,0,0,0,0,0,0,0,0,0,0,0,0,0,0,0]]) x (l2.map sgV)→QQ (.exit 0) ⟨[some (.v (.ptr id)),none,some (.lp 0 []),none,some (.lp 1 []),none,none,none,none,none,none,none,none,none,none,none,none,none,none,none,some (.v (.int .i64 (k:Nat))),some (.v (.int .i64 (k:Nat)))],ts,[x0,⟨false,.agg [.agg [.int .i64 0,.int .i64 n1,.int .i64 n2,.int .i64 n3,.arr .u8 32 n4,.int .i64 n5,.arr .u8 32 n6,.arr .u8 32 [0,0,0,0,0,0,0,0,0,0,0,0,0,0,0,0,0,0,0,0,0,0,0,0,0,0,0,0,0,0,0,0]],x]⟩],G'⟩):
  ∀(e j:Nat) (G':List (Nat×V)) (x:V) (l2:List (Int×List Int)) (r:List Int) (w:Bool),j+e=k→rdSigs j (r7,w7)=(l2,r,w)→Row (Abs.upd G id (.agg [.sli .u8 r,.bool w])) G' 33 (.agg [.int .i64 0,.arr .u8 32 [0,0,0,0,0,0,0,0,0,0,0,0,0,0,0,0,0,0,0,0,0,0,0,0,0,0,0,0,0,0,0,0]]) x (l2.map sgV)→
   WL (W E (specOf l) lp37_0) [0,2,4,20,21] QQ (e+1) ⟨[some (.v (.ptr id)),none,some (.lp 0 []),none,some (.lp 1 []),none,none,none,none,none,none,none,none,none,none,none,none,none,none,none,some (.v (.int .i64 (k:Nat))),some (.v (.int .i64 (j:Nat)))],[],[x0,⟨false,.agg [.agg [.int .i64 0,.int .i64 n1,.int .i64 n2,.int .i64 n3,.arr .u8 32 n4,.int .i64 n5,.arr .u8 32 n6,.arr .u8 32 [0,0,0,0,0,0,0,0,0,0,0,0,0,0,0,0,0,0,0,0,0,0,0,0,0,0,0,0,0,0,0,0]],x]⟩],G'⟩:=by
 intro e
 induction e with
 |zero=>
  intro j G' x l2 r w hj he hrow
  obtain rfl:j=k:=by omega
  refine WL_in lp37_0.eq_1 ?_
  simp (maxSteps:=1000000) (implicitDefEqProofs:=false) only[Int.lt_irrefl,go_sem,↓reduceIte]
  exact hx _ _ _ _ _ _ he hrow
 |succ e ih=>
  intro j G' x l2 r w hj he hrow
  have c1:(j:Int) < (k:Int):=by omega
  have w1:IntKind.i64.wrap ((j:Int)+1)=((j+1:Nat):Int):=wc (by omega) (by omega)
  have many:=rdSigs_all he hb
  have ml:=many.len
  rcases e1:rdUpto 21 (r,w)with⟨n,ra,wa⟩
  obtain⟨y11,y12,_,_,_,_⟩:=rdUpto_all e1 many.byt (by omega)
  rcases e2:rdHash (ra,wa)with⟨hh,r2,w2⟩
  obtain⟨_,_,y23,_,_⟩:=rdHash_all e2 y11
  have he2:rdSigs (j+1) (r7,w7)=(l2++[(n,hh)],r2,w2):=by rw[rdSigs_snoc,he];simp only[e1,e2]
  have hl1:=look_upd_same (z:=V.agg [.sli .u8 r,.bool w]) hid
  have hG':=hrow.1 id _ hl1
  have hrow2:=hrow.upd (y:= .agg [.sli .u8 r2,.bool w2]) hl1
  rw[upd_upd]at hrow2
  have hGa:∀z,Abs.look (Abs.upd G' id z) id=some z:=fun z=>look_upd_same hG'
  obtain⟨x1,x2⟩:=hrow.one
  unfold V.isAgg at x2
  refine WL_in lp37_0.eq_1 ?_
  simp (maxSteps:=1000000) (implicitDefEqProofs:=false) only[c1,x1,x2,hU,SUp_eq,hH,SHs_eq,go_sem,↓reduceIte]
  refine⟨r,w,n,ra,wa,⟨hG',many.byt,by omega,e1⟩,?_⟩
  try simp (maxSteps:=1000000) (implicitDefEqProofs:=false) only[go_sem,↓reduceIte]
  refine⟨ra,wa,hh,r2,w2,⟨hGa _,y11,by omega,e2⟩,?_⟩
  try rw[upd_upd]
  refine Row.app (G0:=Abs.upd G id (.agg [.sli .u8 r2,.bool w2])) (sz:=33) (z:= .agg [.int .i64 0,.arr .u8 32 [0,0,0,0,0,0,0,0,0,0,0,0,0,0,0,0,0,0,0,0,0,0,0,0,0,0,0,0,0,0,0,0]]) (y:=sgV (n,hh)) (els:=l2.map sgV) hrow2 (by rw[List.length_map,many.cnt];omega) ⟨rfl,rfl⟩ rfl (fun u hu=> ?_) (fun x' G2 hr2=> ?_)
  ·obtain⟨q,_,rfl⟩:=List.mem_map.1 hu;exact⟨rfl,rfl⟩
  ·obtain⟨y1,y2⟩:=hr2.one
   unfold V.isAgg at y2
   have yl:=hrow.like hr2
   simp (maxSteps:=1000000) (implicitDefEqProofs:=false) only[w1,x1,x2,y1,y2,yl,go_sem,↓reduceIte]
   refine ih (j+1) G2 x' (l2++[(n,hh)]) r2 w2 (by omega) he2 ?_
   rw[List.map_append];exact hr2
theorem low_cert2 {G0 G:List (Nat×V)} {z x:V} {els:List V} {a:V} {e:V} (h:Row G0 G 33 z x els):Low G0 (.tup [.agg [a,x],e]) G (.tup [.agg [a,.sle 33 els],e]) G0:=by
 refine h.fz (fun y=> .tup [.agg [a,y],e]) (fun id L k y hy=> ?_) (fun y hy=> ?_)
 ·simp only[R.Fz]
  refine⟨_,rfl,?_⟩
  unfold V.FzL;refine⟨_,_,rfl,?_,V.FzL.refl _⟩
  unfold V.Fz;refine⟨_,rfl,?_⟩
  unfold V.FzL;refine⟨_,_,rfl,V.Fz.refl _,?_⟩
  unfold V.FzL;refine⟨_,_,rfl,hy,V.FzL.refl _⟩
 ·simp only[R.Wk]
  refine⟨_,rfl,?_⟩
  unfold V.WkL;refine⟨_,_,rfl,?_,V.WkL.refl _⟩
  unfold V.Wk;refine⟨_,rfl,?_⟩
  unfold V.WkL;refine⟨_,_,rfl,V.Wk.refl _,?_⟩
  unfold V.WkL;refine⟨_,_,rfl,hy,V.WkL.refl _⟩
theorem walk37 {id:Nat} {b r:List Int} {a:CertS} {w:Bool} (hU:Abs.look l 66=some SUp) (hH:Abs.look l 67=some SHs) (hO:Abs.look l 68=some SOff) (hM:Abs.look l 75=some ZMc)
  (hG:Abs.look G id=some (.agg [.sli .u8 b,.bool false])) (hb:Byt b) (hl:b.length < 100000000000) (he:rdCert (b,false)=(a,r,w))
  (h:Q (.tup [(certR a w).v,.bool (!w&&a.may)]) (Abs.upd G id (.agg [.sli .u8 r,.bool w]))):Wf E (specOf l) pf37 [.ptr id] G (fun r G'=>∃r2 G2,Low G r G' r2 G2∧Q r2 G2):=by
 rcases e1:rdUpto 3 (b,false)with⟨n1,r1,w1⟩
 rcases e2:rdUpto 1099511627776 (r1,w1)with⟨n2,r2,w2⟩
 rcases e3:rdUpto 3 (r2,w2)with⟨n3,r3,w3⟩
 rcases e4:rdHash (r3,w3)with⟨n4,r4,w4⟩
 rcases e5:rdUpto 1099511627776 (r4,w4)with⟨n5,r5,w5⟩
 rcases e6:rdHash (r5,w5)with⟨n6,r6,w6⟩
 rcases e7:rdUpto 21 (r6,w6)with⟨n7,r7,w7⟩
 rcases e8:rdSigs n7.toNat (r7,w7)with⟨n8,r8,w8⟩
 obtain⟨z11,z12,_,_,⟨u1,z15⟩,_⟩:=rdUpto_all e1 hb (by omega)
 obtain⟨z21,z22,_,_,⟨u2,z25⟩,_⟩:=rdUpto_all e2 z11 (by omega)
 obtain⟨z31,z32,_,_,⟨u3,z35⟩,_⟩:=rdUpto_all e3 z21 (by omega)
 obtain⟨z41,z42,_,⟨u4,z45⟩,_⟩:=rdHash_all e4 z31
 obtain⟨z51,z52,_,_,⟨u5,z55⟩,_⟩:=rdUpto_all e5 z41 (by omega)
 obtain⟨z61,z62,_,⟨u6,z65⟩,_⟩:=rdHash_all e6 z51
 obtain⟨z71,z72,z73,z74,⟨u7,z75⟩,_⟩:=rdUpto_all e7 z61 (by omega)
 have many:=rdSigs_all e8 z71
 have mlen:=many.len
 have eA:rdCert (b,false)=(⟨⟨0,n1,n2,n3,n4,n5,n6,zero32⟩,n8⟩,r8,w8):=by simp only[rdCert,e1,e2,e3,e4,e5,e6,e7,e8]
 have ok:=rdCert_all eA hb
 rw[eA]at he
 simp only[Prod.mk.injEq]at he
 obtain⟨rfl,rfl,rfl⟩:=he
 obtain⟨k,hk⟩:∃k:Nat,n7=(k:Int):=⟨n7.toNat,by omega⟩
 rw[hk,Int.toNat_natCast]at e8
 have hk21:k≤21:=by omega
 have g:∀x,Abs.look (Abs.upd G id x) id=some x:=fun x=>look_upd_same hG
 simp (maxSteps:=1000000) (implicitDefEqProofs:=false) only[pf37,hU,SUp_eq,hH,SHs_eq,g,go_sem,↓reduceIte]
 refine⟨b,false,n1,r1,w1,⟨hG,hb,by omega,e1⟩,r1,w1,n2,r2,w2,⟨rfl,z11,by omega,e2⟩,r2,w2,n3,r3,w3,⟨rfl,z21,by omega,e3⟩,r3,w3,n4,r4,w4,⟨rfl,z31,by omega,e4⟩,r4,w4,n5,r5,w5,⟨rfl,z41,by omega,e5⟩,r5,w5,n6,r6,w6,⟨rfl,z51,by omega,e6⟩,?_⟩
 try simp (maxSteps:=1000000) (implicitDefEqProofs:=false) only[go_sem,↓reduceIte]
 refine⟨r6,w6,n7,r7,w7,⟨rfl,z61,by omega,e7⟩,k+1,?_⟩
 rw[hk]
 try simp (maxSteps:=1000000) (implicitDefEqProofs:=false) only[go_sem,↓reduceIte]
 refine loop37 (k:=k) (r7:=r7) (w7:=w7) hU hH hG z71 (by omega) hk21 (fun ts G' x l2 r w hm hrow=> ?_) k 0 _ .nils [] r7 w7 (by omega) rfl (Row.nil (Ext.refl _))
 rw[e8]at hm
 simp only[Prod.mk.injEq]at hm
 obtain⟨rfl,rfl,rfl⟩:=hm
 have hl1:=g (V.agg [.sli .u8 r8,.bool w8])
 have hG':=hrow.1 id _ hl1
 obtain⟨x1,x2⟩:=hrow.one
 unfold V.isAgg at x2
 have xn:x.same .nils=true:=(Row.nil (z:=(.agg [.int .i64 0,.arr .u8 32 [0,0,0,0,0,0,0,0,0,0,0,0,0,0,0,0,0,0,0,0,0,0,0,0,0,0,0,0,0,0,0,0]]:V)) (sz:=33) (Ext.refl G)).like hrow
 simp (maxSteps:=1000000) (implicitDefEqProofs:=false) only[x1,x2,xn,hO,SOff_eq,go_sem,↓reduceIte]
 refine⟨r8,w8,hG',?_⟩
 cases w8 with
 |true=>
  simp (maxSteps:=1000000) (implicitDefEqProofs:=false) only[go_sem,↓reduceIte]
  exact⟨_,_,(low_cert2 (els:=[]) (z:= .agg [.int .i64 0,.arr .u8 32 [0,0,0,0,0,0,0,0,0,0,0,0,0,0,0,0,0,0,0,0,0,0,0,0,0,0,0,0,0,0,0,0]]) (Row.nil hrow.1)).upd hG rfl,h⟩
 |false=>
  have nl:n8.length < 1000000:=by have:=ok.cnt;dsimp only at this;omega
  simp (maxSteps:=1000000) (implicitDefEqProofs:=false) only[hM,ZMc_eq,x1,x2,go_sem,↓reduceIte]
  refine⟨⟨0,n1,n2,n3,n4,n5,n6,zero32⟩,x,n8,⟨rfl,sgv_row hrow,ok.wf.1,nl⟩,?_⟩
  cases hq:CertS.may ⟨⟨0,n1,n2,n3,n4,n5,n6,zero32⟩,n8⟩with
  |false=>
   simp (maxSteps:=1000000) (implicitDefEqProofs:=false) only[go_sem,↓reduceIte]
   rw[certR,hq]at h
   exact⟨_,_,(low_cert2 (els:=[]) (z:= .agg [.int .i64 0,.arr .u8 32 [0,0,0,0,0,0,0,0,0,0,0,0,0,0,0,0,0,0,0,0,0,0,0,0,0,0,0,0,0,0,0,0]]) (Row.nil hrow.1)).upd hG rfl,h⟩
  |true=>
   simp (maxSteps:=1000000) (implicitDefEqProofs:=false) only[x1,x2,xn,go_sem,↓reduceIte]
   rw[certR,hq]at h
   exact⟨_,_,(low_cert2 hrow).upd hG rfl,h⟩
end Go.Proofs.YtegamlopcdjiaaaDoor.Sha
