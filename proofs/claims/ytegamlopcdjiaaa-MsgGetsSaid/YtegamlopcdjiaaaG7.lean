/- Laws over plain values, and what functions of the program hand back; no conditions. -/
import Derived.Test.YtegamlopcdjiaaaG6
import Derived.Test.YtegamlopcdjiaaaG5
import Derived.Test.YtegamlopcdjiaaaG2
namespace Go.Proofs.Ytegamlopcdjiaaa.Sha
open Go Go.Abs Go.Abs.Sha Go.Abs.Srt
set_option linter.unusedSimpArgs false
set_option linter.unusedVariables false
set_option maxRecDepth 100000
def lp97_0:PC:=
 (PC.reg [nn (.t 22) (.bin .lss (.v 21) (.v 20))]).seq ((PC.cond (.t 22) PC.skip (PC.exit 0)).seq ((PC.block 1 (PC.regW 0 [(0,nn (.t 23) (.fadr 1 101
  (.v 4))),(1,nn (.t 24) (.load 1 false (.t 23))),(2,mm 25 0),(4,mm 27 0),(3,nn (.t 26) (.callW 48 [.t 25,.c (.v (.int .i64 21))])),(5,nn
  (.t 28) (.callW 98 [.t 27])),(6,nn (.t 29) (.build (.agg [.int .i64 0,.arr .u8 32 [0,0,0,0,0,0,0,0,0,0,0,0,0,0,0,0,0,0,0,0,0,
  0,0,0,0,0,0,0,0,0,0,0]]) [(0,.t 26),(1,.t 28)])),(7,nn (.t 30) (.buildS none 33 (.agg [.int .i64 0,.arr .u8 32 [0,0,0,0,0,0,0,
  0,0,0,0,0,0,0,0,0,0,0,0,0,0,0,0,0,0,0,0,0,0,0,0,0]]) 1 [(0,.t 29)])),(8,nn (.t 31) (.appR 33 40 (.agg [.int .i64 0,.arr
  .u8 32 zz2]) (.t 24) (.t 30))),(9,nn (.t 32) (.fadr 1
  101 (.v 4))),(10,nn .no (.store 1 (.t 32) (.t 31)))] [(1,3),(1,5)])).seq (PC.reg [nn (.t 33) (.bin .add (.v 21) (.c (.v (.int .i64 1)))),nn (.v
  21) (.mv false (.t 33))])))
def pf97:PF:=
 PF.mk 1 22 43 ((PC.reg [nn (.v 2) (.alloc (.agg [.agg [.int .i64 0,.int .i64 0,.int .i64 0,.int .i64 0,.arr .u8 32 [0,0,0,0,0,0,0,0,0,0,
  0,0,0,0,0,0,0,0,0,0,0,0,0,0,0,0,0,0,0,0,0,0],.int .i64 0,.arr .u8 32 [0,0,0,0,0,0,0,0,0,0,0,0,0,0,0,0,0,0,0,
  0,0,0,0,0,0,0,0,0,0,0,0,0],.arr .u8 32 [0,0,0,0,0,0,0,0,0,0,0,0,0,0,0,0,0,0,0,0,0,0,0,0,0,0,0,0,0,0,0,
  0]],.nils])),nn (.v 3) (.mv true (.c (.v (.bool false))))]).seq ((PC.reg [nn (.v 4) (.alloc (.agg [.agg [.int .i64 0,.int .i64 0,.int .i64 0,
  .int .i64 0,.arr .u8 32 zz2,.int .i64 0,.arr .u8 32
  zz2,.arr .u8 32 [0,0,0,0,0,0,0,0,0,0,0,0,0,
  0,0,0,0,0,0,0,0,0,0,0,0,0,0,0,0,0,0,0]],.nils]))]).seq ((PC.reg [nn (.v 5) (.mv false (.v 0)),nn (.v 6) (.call 48 [.v 5,.c (.v
  (.int .i64 3))]),nn (.v 7) (.mv false (.v 0)),nn (.v 8) (.call 48 [.v 7,.c (.v (.int .i64 1099511627776))]),nn (.v 9) (.mv false (.v 0)),nn (.v
  10) (.call 48 [.v 9,.c (.v (.int .i64 3))]),nn (.v 11) (.mv false (.v 0)),nn (.v 12) (.call 98 [.v 11]),nn (.v 13) (.mv false (.v 0)),nn (.v 14)
  (.call 48 [.v 13,.c (.v (.int .i64 1099511627776))]),nn (.v 15) (.mv false (.v 0)),nn (.v 16) (.call 98 [.v 15]),nn (.v 17) (.build (.agg [.int
  .i64 0,.int .i64 0,.int .i64 0,.int .i64 0,.arr .u8 32 [0,0,0,0,0,0,0,0,0,0,0,0,0,0,0,0,0,0,0,0,0,0,0,0,0,0,0,0,0,0,
  0,0],.int .i64 0,.arr .u8 32 zz2,.arr .u8 32 [0,0,
  0,0,0,0,0,0,0,0,0,0,0,0,0,0,0,0,0,0,0,0,0,0,0,0,0,0,0,0,0,0]]) [(1,.v 6),(2,.v 8),(3,.v 10),(4,.v 12),(5,.v
  14),(6,.v 16)]),nn (.v 18) (.fadr 0 0 (.v 4)),nn .no (.store 101 (.v 18) (.v 17))]).seq (((PC.reg [nn (.v 19) (.mv false (.v 0)),nn (.v 20)
  (.call 48 [.v 19,.c (.v (.int .i64 21))]),nn (.v 21) (.mv false (.c (.v (.int .i64 0))))]).seq (PC.block 0 (PC.loop [0,2,4,20,21] lp97_0))).seq
  (((PC.reg [mm 34 0,nn (.t 35) (.call 121 [.t 34]),nn (.t 36) (.mv false (.t 35)),⟨.t 37,.load 102 true (.v 4),some (.t 36,false)⟩,⟨.t 38,
  .call 115 [.t 37],some (.t 36,false)⟩,⟨.t 39,.un .not (.t 38),some (.t 36,false)⟩,nn (.t 40) (.pick (.t 36) (.c (.v (.bool true))) (.t
  39))]).seq (PC.cond (.t 40) ((PC.reg [nn (.t 41) (.build (.agg [.agg [.int .i64 0,.int .i64 0,.int .i64 0,.int .i64 0,.arr .u8 32 [0,0,0,0,0,
  0,0,0,0,0,0,0,0,0,0,0,0,0,0,0,0,0,0,0,0,0,0,0,0,0,0,0],.int .i64 0,.arr .u8 32 [0,0,0,0,0,0,0,0,0,0,0,0,0,0,
  0,0,0,0,0,0,0,0,0,0,0,0,0,0,0,0,0,0],.arr .u8 32 [0,0,0,0,0,0,0,0,0,0,0,0,0,0,0,0,0,0,0,0,0,0,0,0,0,0,0,
  0,0,0,0,0]],.nils]) []),nn .no (.store 102 (.v 2) (.t 41)),nn (.v 3) (.mv true (.c (.v (.bool false))))]).seq PC.ret) PC.skip)).seq ((PC.reg
  [nn (.t 42) (.load 102 true (.v 4)),nn .no (.store 102 (.v 2) (.t 42)),nn (.v 3) (.mv true (.c (.v (.bool true))))]).seq PC.ret)))))) [(.v 2,some
  (102,true)),(.v 3,none)]
def lp60_0:PC:=
 ((PC.reg [mm 57 7,mm 58 6,nn (.t 59) (.bin .lss (.t 57) (.t 58))]).seq (PC.cond (.t 59) PC.skip (PC.exit 0))).seq ((PC.block 1 ((PC.reg [nn (.t 62)
  (.build (.agg [.int .i64 0,.arr .u8 32 zz2]) []),nn
  (.v 8) (.alloc (.agg [.int .i64 0,.arr .u8 32 zz2])),
  nn .no (.store 33 (.v 8) (.t 62))]).seq ((PC.reg [nn (.t 64) (.load 3 true (.v 1)),nn (.t 65) (.call 58 [.t 64,.c (.v (.int .i64 21))]),nn (.t 63)
  (.mv false (.t 65)),nn (.t 66) (.ext (.t 63) 0),nn (.t 67) (.ext (.t 63) 1),nn .no (.store 3 (.v 1) (.t 66)),nn (.t 68) (.fadr 0 0 (.v 8)),nn
  .no (.store 1 (.t 68) (.t 67))]).seq ((PC.reg [nn (.t 70) (.load 3 true (.v 1)),nn (.t 71) (.call 61 [.t 70]),nn (.t 69) (.mv false (.t 71)),nn
  (.t 72) (.ext (.t 69) 0),nn (.t 73) (.ext (.t 69) 1),nn .no (.store 3 (.v 1) (.t 72)),nn (.t 74) (.fadr 1 1 (.v 8)),nn .no (.store 32 (.t 74) (.t
  73))]).seq (PC.reg [nn (.t 75) (.fadr 1 101 (.v 5)),nn (.t 76) (.load 1 false (.t 75)),nn (.t 77) (.load 33 true (.v 8)),nn (.t 78) (.buildS none
  33 (.agg [.int .i64 0,.arr .u8 32 zz2]) 1 [(0,.t
  77)]),nn (.t 79) (.appR 33 40 (.agg [.int .i64 0,.arr .u8 32 [0,0,0,0,0,0,0,0,0,0,0,0,0,0,0,0,0,0,0,0,0,0,0,0,0,0,0,0,
  0,0,0,0]]) (.t 76) (.t 78)),nn (.t 80) (.fadr 1 101 (.v 5)),nn .no (.store 1 (.t 80) (.t 79))]))))).seq (PC.reg [mm 60 7,nn (.t 61) (.bin .add
  (.t 60) (.c (.v (.int .i64 1)))),ma 7 61]))
def pf60:PF:=
 PF.mk 1 9 92 ((PC.reg [nn (.v 1) (.box (.v 0)),nn (.v 2) (.alloc (.agg [.nils,.int .i64 0,.bool false])),nn (.v 3) (.alloc (.agg [.agg [.int .i64
  0,.int .i64 0,.int .i64 0,.int .i64 0,.arr .u8 32 [0,0,0,0,0,0,0,0,0,0,0,0,0,0,0,0,0,0,0,0,0,0,0,0,0,0,0,0,0,0,0,
  0],.int .i64 0,.arr .u8 32 zz2,.arr .u8 32 [0,0,0,
  0,0,0,0,0,0,0,0,0,0,0,0,0,0,0,0,0,0,0,0,0,0,0,0,0,0,0,0,0]],.nils])),nn (.v 4) (.mv true (.c (.v (.bool false))))]).seq
  ((PC.reg [nn (.t 9) (.build (.agg [.agg [.int .i64 0,.int .i64 0,.int .i64 0,.int .i64 0,.arr .u8 32 [0,0,0,0,0,0,0,0,0,0,0,0,0,0,
  0,0,0,0,0,0,0,0,0,0,0,0,0,0,0,0,0,0],.int .i64 0,.arr .u8 32 [0,0,0,0,0,0,0,0,0,0,0,0,0,0,0,0,0,0,0,0,0,0,0,
  0,0,0,0,0,0,0,0,0],.arr .u8 32 zz2],.nils])
  []),nn (.v 5) (.alloc (.agg [.agg [.int .i64 0,.int .i64 0,.int .i64 0,.int .i64 0,.arr .u8 32 [0,0,0,0,0,0,0,0,0,0,0,0,0,0,0,0,
  0,0,0,0,0,0,0,0,0,0,0,0,0,0,0,0],.int .i64 0,.arr .u8 32 [0,0,0,0,0,0,0,0,0,0,0,0,0,0,0,0,0,0,0,0,0,0,0,0,0,
  0,0,0,0,0,0,0],.arr .u8 32 zz2],.nils])),nn .no
  (.store 102 (.v 5) (.t 9))]).seq ((PC.reg [nn (.v 6) (.mv true (.c (.v (.int .i64 0))))]).seq ((PC.reg [nn (.t 11) (.load 3 true (.v 1)),nn (.t 12)
  (.call 58 [.t 11,.c (.v (.int .i64 3))]),nn (.t 10) (.mv false (.t 12)),nn (.t 13) (.ext (.t 10) 0),nn (.t 14) (.ext (.t 10) 1),nn .no (.store 3
  (.v 1) (.t 13)),nn (.t 15) (.fadr 0 0 (.v 5)),nn (.t 16) (.fadr 1 1 (.t 15)),nn .no (.store 1 (.t 16) (.t 14))]).seq ((PC.reg [nn (.t 18) (.load 3
  true (.v 1)),nn (.t 19) (.call 58 [.t 18,.c (.v (.int .i64 1099511627776))]),nn (.t 17) (.mv false (.t 19)),nn (.t 20) (.ext (.t 17) 0),nn (.t
  21) (.ext (.t 17) 1),nn .no (.store 3 (.v 1) (.t 20)),nn (.t 22) (.fadr 0 0 (.v 5)),nn (.t 23) (.fadr 2 2 (.t 22)),nn .no (.store 1 (.t 23) (.t
  21))]).seq ((PC.reg [nn (.t 25) (.load 3 true (.v 1)),nn (.t 26) (.call 58 [.t 25,.c (.v (.int .i64 3))]),nn (.t 24) (.mv false (.t 26)),nn (.t
  27) (.ext (.t 24) 0),nn (.t 28) (.ext (.t 24) 1),nn .no (.store 3 (.v 1) (.t 27)),nn (.t 29) (.fadr 0 0 (.v 5)),nn (.t 30) (.fadr 3 3 (.t 29)),
  nn .no (.store 1 (.t 30) (.t 28))]).seq ((PC.reg [nn (.t 32) (.load 3 true (.v 1)),nn (.t 33) (.call 61 [.t 32]),nn (.t 31) (.mv false (.t 33)),nn
  (.t 34) (.ext (.t 31) 0),nn (.t 35) (.ext (.t 31) 1),nn .no (.store 3 (.v 1) (.t 34)),nn (.t 36) (.fadr 0 0 (.v 5)),nn (.t 37) (.fadr 4 4 (.t
  36)),nn .no (.store 32 (.t 37) (.t 35))]).seq ((PC.reg [nn (.t 39) (.load 3 true (.v 1)),nn (.t 40) (.call 58 [.t 39,.c (.v (.int .i64
  1099511627776))]),nn (.t 38) (.mv false (.t 40)),nn (.t 41) (.ext (.t 38) 0),nn (.t 42) (.ext (.t 38) 1),nn .no (.store 3 (.v 1) (.t 41)),nn (.t
  43) (.fadr 0 0 (.v 5)),nn (.t 44) (.fadr 5 36 (.t 43)),nn .no (.store 1 (.t 44) (.t 42))]).seq ((PC.reg [nn (.t 46) (.load 3 true (.v 1)),nn (.t
  47) (.call 61 [.t 46]),nn (.t 45) (.mv false (.t 47)),nn (.t 48) (.ext (.t 45) 0),nn (.t 49) (.ext (.t 45) 1),nn .no (.store 3 (.v 1) (.t 48)),
  nn (.t 50) (.fadr 0 0 (.v 5)),nn (.t 51) (.fadr 6 37 (.t 50)),nn .no (.store 32 (.t 51) (.t 49))]).seq ((PC.reg [nn (.t 53) (.load 3 true (.v 1)),
  nn (.t 54) (.call 58 [.t 53,.c (.v (.int .i64 21))]),nn (.t 52) (.mv false (.t 54)),nn (.t 55) (.ext (.t 52) 0),nn (.t 56) (.ext (.t 52) 1),nn
  .no (.store 3 (.v 1) (.t 55)),ma 6 56]).seq (((PC.reg [nn (.v 7) (.mv true (.c (.v (.int .i64 0))))]).seq (PC.block 0 (PC.loop [1,2,3,5,6,7]
  lp60_0))).seq (((PC.reg [nn (.t 81) (.fadr 2 2 (.v 1)),nn (.t 82) (.load 1 false (.t 81)),nn (.t 83) (.mv false (.t 82)),⟨.t 84,.load 102 true
  (.v 5),some (.t 83,false)⟩,⟨.t 85,.call 36 [.t 84],some (.t 83,false)⟩,⟨.t 86,.un .not (.t 85),some (.t 83,false)⟩,nn (.t 87) (.pick (.t
  83) (.c (.v (.bool true))) (.t 86))]).seq (PC.cond (.t 87) ((PC.reg [nn (.t 88) (.load 3 true (.v 1)),nn (.t 89) (.build (.agg [.agg [.int .i64 0,
  .int .i64 0,.int .i64 0,.int .i64 0,.arr .u8 32 zz2,
  .int .i64 0,.arr .u8 32 zz2,.arr .u8 32 [0,0,0,0,
  0,0,0,0,0,0,0,0,0,0,0,0,0,0,0,0,0,0,0,0,0,0,0,0,0,0,0,0]],.nils]) []),nn .no (.store 3 (.v 2) (.t 88)),nn .no (.store
  102 (.v 3) (.t 89)),nn (.v 4) (.mv true (.c (.v (.bool false))))]).seq PC.ret) PC.skip)).seq ((PC.regD 0 [nn (.t 90) (.load 3 true (.v 1)),nn (.t
  91) (.load 102 true (.v 5)),nn .no (.store 3 (.v 2) (.t 90)),nn .no (.store 102 (.v 3) (.t 91)),nn (.v 4) (.mv true (.c (.v (.bool true))))] [(1,
  2)]).seq PC.ret))))))))))))) [(.v 2,some (3,true)),(.v 3,some (102,true)),(.v 4,none)]
attribute [local irreducible] W Wops WopsD WL Wop WopD
variable {E:Env} {C:Abs.Spec} {l:List (Nat×Spec1)} {G:List (Nat×V)} {Q:R→List (Nat×V)→Prop}
set_option maxHeartbeats 1000000
def ZRc:Spec1
 |[.ptr id],G,Q=>∃b w0 c r w,(Abs.look G id=some (.agg [.sli .u8 b,.bool w0])∧Byt b∧b.length < 100000000000∧rdCert (b,w0)=(c,r,w))∧Q (.tup [(certR c w).v,.bool (!w&&c.may)]) (Abs.upd G id (.agg [.sli .u8 r,.bool w]))
 |_,_,_=>False
theorem ZRc_eq {id}:ZRc [.ptr id] G Q=(∃b w0 c r w,(Abs.look G id=some (.agg [.sli .u8 b,.bool w0])∧Byt b∧b.length < 100000000000∧rdCert (b,w0)=(c,r,w))∧Q (.tup [(certR c w).v,.bool (!w&&c.may)]) (Abs.upd G id (.agg [.sli .u8 r,.bool w]))):=rfl
def ZRe:Spec1
 |[.agg [.sli .u8 B,.int .i64 at_,.bool w0]],G,Q=>∃u b c r w,(B=u++b∧at_=u.length∧Byt B∧B.length < 100000000000∧rdCert (b,w0)=(c,r,w))∧Q (.tup [.agg [.sli .u8 B,.int .i64 ((B.length:Int)-r.length),.bool w],(certR c w).v,.bool (!w&&c.may)]) G
 |_,_,_=>False
theorem ZRe_eq {B at_ w0}:ZRe [.agg [.sli .u8 B,.int .i64 at_,.bool w0]] G Q=(∃u b c r w,(B=u++b∧at_=u.length∧Byt B∧B.length < 100000000000∧rdCert (b,w0)=(c,r,w))∧Q (.tup [.agg [.sli .u8 B,.int .i64 ((B.length:Int)-r.length),.bool w],(certR c w).v,.bool (!w&&c.may)]) G):=rfl
theorem loop97 (hU:Abs.look l 48=some SUp) (hH:Abs.look l 98=some SHs) {QQ:Ex→St→Prop} {id k:Nat} {u0:V} {n1 n2 n3 n5:Int} {n4 n6 r7:List Int} {w7:Bool} {x0:Bx} (hid:Abs.look G id=some u0) (hb:Byt r7) (hl:r7.length < 100000000000) (hk:k≤21)
  (hx:∀ts G' x l2 r w,rdSigs k (r7,w7)=(l2,r,w)→Row (Abs.upd G id (.agg [.sli .u8 r,.bool w])) G' 33 (.agg [.int .i64 0,.arr .u8 32 zz2]) x (l2.map sgV)→QQ (.exit 0) ⟨[some (.v (.ptr id)),none,some (.lp 0 []),none,some (.lp 1 []),none,none,none,none,none,none,none,none,none,none,none,none,none,none,none,some (.v (.int .i64 (k:Nat))),some (.v (.int .i64 (k:Nat)))],ts,[x0,⟨false,.agg [.agg [.int .i64 0,.int .i64 n1,.int .i64 n2,.int .i64 n3,.arr .u8 32 n4,.int .i64 n5,.arr .u8 32 n6,.arr .u8 32 zz2],x]⟩],G'⟩):
  ∀(e j:Nat) (G':List (Nat×V)) (x:V) (l2:List (Int×List Int)) (r:List Int) (w:Bool),j+e=k→rdSigs j (r7,w7)=(l2,r,w)→Row (Abs.upd G id (.agg [.sli .u8 r,.bool w])) G' 33 (.agg [.int .i64 0,.arr .u8 32 zz2]) x (l2.map sgV)→
   WL (W E (specOf l) lp97_0) [0,2,4,20,21] QQ (e+1) ⟨[some (.v (.ptr id)),none,some (.lp 0 []),none,some (.lp 1 []),none,none,none,none,none,none,none,none,none,none,none,none,none,none,none,some (.v (.int .i64 (k:Nat))),some (.v (.int .i64 (j:Nat)))],[],[x0,⟨false,.agg [.agg [.int .i64 0,.int .i64 n1,.int .i64 n2,.int .i64 n3,.arr .u8 32 n4,.int .i64 n5,.arr .u8 32 n6,.arr .u8 32 zz2],x]⟩],G'⟩:=by
 intro e
 induction e with
 |zero=>
  intro j G' x l2 r w hj he hrow
  obtain rfl:j=k:=by omega
  refine WL_in lp97_0.eq_1 ?_
  simp -implicitDefEqProofs only[Int.lt_irrefl,go_sem,↓reduceIte]
  exact hx _ _ _ _ _ _ he hrow
 |succ e ih=>
  intro j G' x l2 r w hj he hrow
  have c1:(j:Int) < (k:Int):=by omega
  have w1:IntKind.i64.wrap ((j:Int)+1)=((j+1:Nat):Int):=wc (by omega) (by omega)
  have many:=rdSigs_all he hb
  have ml:=many.len
  rcases e1:rdUpto 21 (r,w)with⟨n,ra,wa⟩
  obtain⟨y11,y12,_,_,_,_⟩:=rdUpto_all e1 many.byt (by omega)
  rcases e2:rdHash (ra,wa)with⟨hh,r2,w2⟩
  obtain⟨_,_,y23,_,_⟩:=rdHash_all e2 y11
  have he2:rdSigs (j+1) (r7,w7)=(l2++[(n,hh)],r2,w2):=by rw[rdSigs_snoc,he];simp only[e1,e2]
  have hl1:=look_upd_same (z:=V.agg [.sli .u8 r,.bool w]) hid
  have hG':=hrow.1 id _ hl1
  have hrow2:=hrow.upd (y:= .agg [.sli .u8 r2,.bool w2]) hl1
  rw[upd_upd]at hrow2
  have hGa:∀z,Abs.look (Abs.upd G' id z) id=some z:=fun z=>look_upd_same hG'
  obtain⟨x1,x2⟩:=hrow.one
  unfold V.isAgg at x2
  refine WL_in lp97_0.eq_1 ?_
  simp -implicitDefEqProofs only[c1,x1,x2,hU,SUp_eq,hH,SHs_eq,go_sem,↓reduceIte]
  refine⟨r,w,n,ra,wa,⟨hG',many.byt,by omega,e1⟩,?_⟩
  try simp -implicitDefEqProofs only[go_sem,↓reduceIte]
  refine⟨ra,wa,hh,r2,w2,⟨hGa _,y11,by omega,e2⟩,?_⟩
  try rw[upd_upd]
  refine Row.app (G0:=Abs.upd G id (.agg [.sli .u8 r2,.bool w2])) (sz:=33) (z:= .agg [.int .i64 0,.arr .u8 32 zz2]) (y:=sgV (n,hh)) (els:=l2.map sgV) hrow2 (by rw[List.length_map,many.cnt];omega) ⟨rfl,rfl⟩ rfl (fun u hu=> ?_) (fun x' G2 hr2=> ?_)
  ·obtain⟨q,_,rfl⟩:=List.mem_map.1 hu;exact⟨rfl,rfl⟩
  ·obtain⟨y1,y2⟩:=hr2.one
   unfold V.isAgg at y2
   have yl:=hrow.like hr2
   simp -implicitDefEqProofs only[w1,x1,x2,y1,y2,yl,go_sem,↓reduceIte]
   refine ih (j+1) G2 x' (l2++[(n,hh)]) r2 w2 (by omega) he2 ?_
   rw[List.map_append];exact hr2
theorem low_cert2 {G0 G:List (Nat×V)} {z x:V} {els:List V} {a:V} {e:V} (h:Row G0 G 33 z x els):Low G0 (.tup [.agg [a,x],e]) G (.tup [.agg [a,.sle 33 els],e]) G0:=by
 refine h.fz (fun y=> .tup [.agg [a,y],e]) (fun id L k y hy=> ?_) (fun y hy=> ?_)
 ·simp only[R.Fz]
  refine⟨_,rfl,?_⟩
  unfold V.FzL;refine⟨_,_,rfl,?_,V.FzL.refl _⟩
  unfold V.Fz;refine⟨_,rfl,?_⟩
  unfold V.FzL;refine⟨_,_,rfl,V.Fz.refl _,?_⟩
  unfold V.FzL;refine⟨_,_,rfl,hy,V.FzL.refl _⟩
 ·simp only[R.Wk]
  refine⟨_,rfl,?_⟩
  unfold V.WkL;refine⟨_,_,rfl,?_,V.WkL.refl _⟩
  unfold V.Wk;refine⟨_,rfl,?_⟩
  unfold V.WkL;refine⟨_,_,rfl,V.Wk.refl _,?_⟩
  unfold V.WkL;refine⟨_,_,rfl,hy,V.WkL.refl _⟩
theorem walk97 {id:Nat} {w0:Bool} {b r:List Int} {a:CertS} {w:Bool} (hU:Abs.look l 48=some SUp) (hH:Abs.look l 98=some SHs) (hO:Abs.look l 121=some SOff) (hM:Abs.look l 115=some ZMc)
  (hG:Abs.look G id=some (.agg [.sli .u8 b,.bool w0])) (hb:Byt b) (hl:b.length < 100000000000) (he:rdCert (b,w0)=(a,r,w))
  (h:Q (.tup [(certR a w).v,.bool (!w&&a.may)]) (Abs.upd G id (.agg [.sli .u8 r,.bool w]))):Wf E (specOf l) pf97 [.ptr id] G (fun r G'=>∃r2 G2,Low G r G' r2 G2∧Q r2 G2):=by
 rcases e1:rdUpto 3 (b,w0)with⟨n1,r1,w1⟩
 rcases e2:rdUpto 1099511627776 (r1,w1)with⟨n2,r2,w2⟩
 rcases e3:rdUpto 3 (r2,w2)with⟨n3,r3,w3⟩
 rcases e4:rdHash (r3,w3)with⟨n4,r4,w4⟩
 rcases e5:rdUpto 1099511627776 (r4,w4)with⟨n5,r5,w5⟩
 rcases e6:rdHash (r5,w5)with⟨n6,r6,w6⟩
 rcases e7:rdUpto 21 (r6,w6)with⟨n7,r7,w7⟩
 rcases e8:rdSigs n7.toNat (r7,w7)with⟨n8,r8,w8⟩
 obtain⟨z11,z12,_,_,⟨u1,z15⟩,_⟩:=rdUpto_all e1 hb (by omega)
 obtain⟨z21,z22,_,_,⟨u2,z25⟩,_⟩:=rdUpto_all e2 z11 (by omega)
 obtain⟨z31,z32,_,_,⟨u3,z35⟩,_⟩:=rdUpto_all e3 z21 (by omega)
 obtain⟨z41,z42,_,⟨u4,z45⟩,_⟩:=rdHash_all e4 z31
 obtain⟨z51,z52,_,_,⟨u5,z55⟩,_⟩:=rdUpto_all e5 z41 (by omega)
 obtain⟨z61,z62,_,⟨u6,z65⟩,_⟩:=rdHash_all e6 z51
 obtain⟨z71,z72,z73,z74,⟨u7,z75⟩,_⟩:=rdUpto_all e7 z61 (by omega)
 have many:=rdSigs_all e8 z71
 have mlen:=many.len
 have eA:rdCert (b,w0)=(⟨⟨0,n1,n2,n3,n4,n5,n6,zero32⟩,n8⟩,r8,w8):=by simp only[rdCert,e1,e2,e3,e4,e5,e6,e7,e8]
 have ok:=rdCert_all eA hb
 rw[eA]at he
 simp only[Prod.mk.injEq]at he
 obtain⟨rfl,rfl,rfl⟩:=he
 obtain⟨k,hk⟩:∃k:Nat,n7=(k:Int):=⟨n7.toNat,by omega⟩
 rw[hk,Int.toNat_natCast]at e8
 have hk21:k≤21:=by omega
 have g:∀x,Abs.look (Abs.upd G id x) id=some x:=fun x=>look_upd_same hG
 simp -implicitDefEqProofs only[pf97,hU,SUp_eq,hH,SHs_eq,g,go_sem,↓reduceIte]
 refine⟨b,w0,n1,r1,w1,⟨hG,hb,by omega,e1⟩,r1,w1,n2,r2,w2,⟨rfl,z11,by omega,e2⟩,r2,w2,n3,r3,w3,⟨rfl,z21,by omega,e3⟩,r3,w3,n4,r4,w4,⟨rfl,z31,by omega,e4⟩,r4,w4,n5,r5,w5,⟨rfl,z41,by omega,e5⟩,r5,w5,n6,r6,w6,⟨rfl,z51,by omega,e6⟩,?_⟩
 try simp -implicitDefEqProofs only[go_sem,↓reduceIte]
 refine⟨r6,w6,n7,r7,w7,⟨rfl,z61,by omega,e7⟩,k+1,?_⟩
 rw[hk]
 try simp -implicitDefEqProofs only[go_sem,↓reduceIte]
 refine loop97 (k:=k) (r7:=r7) (w7:=w7) hU hH hG z71 (by omega) hk21 (fun ts G' x l2 r w hm hrow=> ?_) k 0 _ .nils [] r7 w7 (by omega) rfl (Row.nil (Ext.refl _))
 rw[e8]at hm
 simp only[Prod.mk.injEq]at hm
 obtain⟨rfl,rfl,rfl⟩:=hm
 have hl1:=g (V.agg [.sli .u8 r8,.bool w8])
 have hG':=hrow.1 id _ hl1
 obtain⟨x1,x2⟩:=hrow.one
 unfold V.isAgg at x2
 have xn:x.same .nils=true:=(Row.nil (z:=(.agg [.int .i64 0,.arr .u8 32 zz2]:V)) (sz:=33) (Ext.refl G)).like hrow
 simp -implicitDefEqProofs only[x1,x2,xn,hO,SOff_eq,go_sem,↓reduceIte]
 refine⟨r8,w8,hG',?_⟩
 cases w8 with
 |true=>
  simp -implicitDefEqProofs only[go_sem,↓reduceIte]
  exact⟨_,_,(low_cert2 (els:=[]) (z:= .agg [.int .i64 0,.arr .u8 32 zz2]) (Row.nil hrow.1)).upd hG rfl,h⟩
 |false=>
  have nl:n8.length < 1000000:=by have:=ok.cnt;dsimp only at this;omega
  simp -implicitDefEqProofs only[hM,ZMc_eq,x1,x2,go_sem,↓reduceIte]
  refine⟨⟨0,n1,n2,n3,n4,n5,n6,zero32⟩,x,n8,⟨rfl,sgv_row hrow,ok.wf.1,nl⟩,?_⟩
  cases hq:CertS.may ⟨⟨0,n1,n2,n3,n4,n5,n6,zero32⟩,n8⟩with
  |false=>
   simp -implicitDefEqProofs only[go_sem,↓reduceIte]
   rw[certR,hq]at h
   exact⟨_,_,(low_cert2 (els:=[]) (z:= .agg [.int .i64 0,.arr .u8 32 zz2]) (Row.nil hrow.1)).upd hG rfl,h⟩
  |true=>
   simp -implicitDefEqProofs only[x1,x2,xn,go_sem,↓reduceIte]
   rw[certR,hq]at h
   exact⟨_,_,(low_cert2 hrow).upd hG rfl,h⟩
theorem low_cert3 {G0 G:List (Nat×V)} {z x:V} {els:List V} {s a:V} {e:V} (h:Row G0 G 33 z x els):Low G0 (.tup [s,.agg [a,x],e]) G (.tup [s,.agg [a,.sle 33 els],e]) G0:=by
 refine h.fz (fun y=> .tup [s,.agg [a,y],e]) (fun id L k y hy=> ?_) (fun y hy=> ?_)
 ·simp only[R.Fz]
  refine⟨_,rfl,?_⟩
  unfold V.FzL;refine⟨_,_,rfl,V.Fz.refl _,?_⟩
  unfold V.FzL;refine⟨_,_,rfl,?_,V.FzL.refl _⟩
  unfold V.Fz;refine⟨_,rfl,?_⟩
  unfold V.FzL;refine⟨_,_,rfl,V.Fz.refl _,?_⟩
  unfold V.FzL;refine⟨_,_,rfl,hy,V.FzL.refl _⟩
 ·simp only[R.Wk]
  refine⟨_,rfl,?_⟩
  unfold V.WkL;refine⟨_,_,rfl,V.Wk.refl _,?_⟩
  unfold V.WkL;refine⟨_,_,rfl,?_,V.WkL.refl _⟩
  unfold V.Wk;refine⟨_,rfl,?_⟩
  unfold V.WkL;refine⟨_,_,rfl,V.Wk.refl _,?_⟩
  unfold V.WkL;refine⟨_,_,rfl,hy,V.WkL.refl _⟩
theorem loop60 (hU:Abs.look l 58=some SRu) (hH:Abs.look l 61=some SRh) {QQ:Ex→St→Prop} {k:Nat} {n1 n2 n3 n5:Int} {n4 n6 b t7 r7:List Int} {w7:Bool} {p1 p2:Bx} (h7:b=t7++r7) (hb:Byt b) (hl:b.length < 100000000000) (hk:k≤21)
  (hx:∀ts G' x l2 r w Lt,rdSigs k (r7,w7)=(l2,r,w)→Row G G' 33 (.agg [.int .i64 0,.arr .u8 32 zz2]) x (l2.map sgV)→QQ (.exit 0) ⟨[none,some (.lp 0 []),some (.lp 1 []),some (.lp 2 []),none,some (.lp 3 []),some (.v (.int .i64 (k:Nat))),some (.v (.int .i64 (k:Nat))),none],ts,⟨false,.agg [.sli .u8 b,.int .i64 ((b.length:Int)-(r.length:Int)),.bool w]⟩::p1::p2::⟨false,.agg [.agg [.int .i64 0,.int .i64 n1,.int .i64 n2,.int .i64 n3,.arr .u8 32 n4,.int .i64 n5,.arr .u8 32 n6,.arr .u8 32 zz2],x]⟩::Lt,G'⟩):
  ∀(e j:Nat) (G':List (Nat×V)) (x:V) (l2:List (Int×List Int)) (r:List Int) (w:Bool) (Lt:List Bx),j+e=k→rdSigs j (r7,w7)=(l2,r,w)→Row G G' 33 (.agg [.int .i64 0,.arr .u8 32 zz2]) x (l2.map sgV)→
   WL (W E (specOf l) lp60_0) [1,2,3,5,6,7] QQ (e+1) ⟨[none,some (.lp 0 []),some (.lp 1 []),some (.lp 2 []),none,some (.lp 3 []),some (.v (.int .i64 (k:Nat))),some (.v (.int .i64 (j:Nat))),none],[],⟨false,.agg [.sli .u8 b,.int .i64 ((b.length:Int)-(r.length:Int)),.bool w]⟩::p1::p2::⟨false,.agg [.agg [.int .i64 0,.int .i64 n1,.int .i64 n2,.int .i64 n3,.arr .u8 32 n4,.int .i64 n5,.arr .u8 32 n6,.arr .u8 32 zz2],x]⟩::Lt,G'⟩:=by
 have hb7:Byt r7:=fun x hx=>hb x (by rw[h7];exact List.mem_append_right _ hx)
 have hl7:r7.length≤b.length:=by rw[h7,List.length_append];omega
 intro e
 induction e with
 |zero=>
  intro j G' x l2 r w Lt hj he hrow
  obtain rfl:j=k:=by omega
  refine WL_in lp60_0.eq_1 ?_
  simp -implicitDefEqProofs only[Int.lt_irrefl,go_sem,↓reduceIte]
  exact hx _ _ _ _ _ _ _ he hrow
 |succ e ih=>
  intro j G' x l2 r w Lt hj he hrow
  have c1:(j:Int) < (k:Int):=by omega
  have w1:IntKind.i64.wrap ((j:Int)+1)=((j+1:Nat):Int):=wc (by omega) (by omega)
  have many:=rdSigs_all he hb7
  have ml:=many.len
  obtain⟨um,hum⟩:=many.suf
  have hbr:b=(t7++um)++r:=by rw[List.append_assoc,←hum];exact h7
  have hlr:((b.length:Int)-(r.length:Int))=((t7++um).length:Int):=by rw[hbr];simp only[List.length_append];omega
  rcases e1:rdUpto 21 (r,w)with⟨n,ra,wa⟩
  obtain⟨y11,y12,_,_,⟨ua,y15⟩,_⟩:=rdUpto_all e1 many.byt (by omega)
  have hbra:b=(t7++um++ua)++ra:=by rw[List.append_assoc,←y15];exact hbr
  have hlra:((b.length:Int)-(ra.length:Int))=((t7++um++ua).length:Int):=by rw[hbra];simp only[List.length_append];omega
  rcases e2:rdHash (ra,wa)with⟨hh,r2,w2⟩
  have he2:rdSigs (j+1) (r7,w7)=(l2++[(n,hh)],r2,w2):=by rw[rdSigs_snoc,he];simp only[e1,e2]
  obtain⟨x1,x2⟩:=hrow.one
  unfold V.isAgg at x2
  refine WL_in lp60_0.eq_1 ?_
  simp -implicitDefEqProofs only[c1,x1,x2,hU,SRu_eq,hH,SRh_eq,go_sem,↓reduceIte]
  refine⟨t7++um,r,n,ra,wa,⟨hbr,hlr,hb,by omega,e1⟩,?_⟩
  try simp -implicitDefEqProofs only[go_sem,↓reduceIte]
  refine⟨t7++um++ua,ra,hh,r2,w2,⟨hbra,hlra,hb,by omega,e2⟩,?_⟩
  try simp -implicitDefEqProofs only[go_sem,↓reduceIte]
  refine Row.app (G0:=G) (sz:=33) (z:= .agg [.int .i64 0,.arr .u8 32 zz2]) (y:=sgV (n,hh)) (els:=l2.map sgV) hrow (by rw[List.length_map,many.cnt];omega) ⟨rfl,rfl⟩ rfl (fun u hu=> ?_) (fun x' G2 hr2=> ?_)
  ·obtain⟨q,_,rfl⟩:=List.mem_map.1 hu;exact⟨rfl,rfl⟩
  ·obtain⟨y1,y2⟩:=hr2.one
   unfold V.isAgg at y2
   have yl:=hrow.like hr2
   simp -implicitDefEqProofs only[w1,x1,x2,y1,y2,yl,go_sem,↓reduceIte]
   refine ih (j+1) G2 x' (l2++[(n,hh)]) r2 w2 _ (by omega) he2 ?_
   rw[List.map_append];exact hr2
theorem walk60 {B u0 b r:List Int} {w0:Bool} {a:CertS} {w:Bool} (hU:Abs.look l 58=some SRu) (hH:Abs.look l 61=some SRh) (hM:Abs.look l 36=some ZMc)
  (hB:B=u0++b) (hbB:Byt B) (hl:B.length < 100000000000) (he:rdCert (b,w0)=(a,r,w))
  (h:Q (.tup [.agg [.sli .u8 B,.int .i64 ((B.length:Int)-r.length),.bool w],(certR a w).v,.bool (!w&&a.may)]) G):Wf E (specOf l) pf60 [.agg [.sli .u8 B,.int .i64 (u0.length:Nat),.bool w0]] G (fun r G'=>∃r2 G2,Low G r G' r2 G2∧Q r2 G2):=by
 have hb:Byt b:=fun x hx=>hbB x (by rw[hB];exact List.mem_append_right _ hx)
 have hbl:b.length≤B.length:=by rw[hB,List.length_append];omega
 rcases e1:rdUpto 3 (b,w0)with⟨n1,r1,w1⟩
 rcases e2:rdUpto 1099511627776 (r1,w1)with⟨n2,r2,w2⟩
 rcases e3:rdUpto 3 (r2,w2)with⟨n3,r3,w3⟩
 rcases e4:rdHash (r3,w3)with⟨n4,r4,w4⟩
 rcases e5:rdUpto 1099511627776 (r4,w4)with⟨n5,r5,w5⟩
 rcases e6:rdHash (r5,w5)with⟨n6,r6,w6⟩
 rcases e7:rdUpto 21 (r6,w6)with⟨n7,r7,w7⟩
 rcases e8:rdSigs n7.toNat (r7,w7)with⟨n8,r8,w8⟩
 obtain⟨z11,z12,_,_,⟨u1,z15⟩,_⟩:=rdUpto_all e1 hb (by omega)
 obtain⟨z21,z22,_,_,⟨u2,z25⟩,_⟩:=rdUpto_all e2 z11 (by omega)
 obtain⟨z31,z32,_,_,⟨u3,z35⟩,_⟩:=rdUpto_all e3 z21 (by omega)
 obtain⟨z41,z42,_,⟨u4,z45⟩,_⟩:=rdHash_all e4 z31
 obtain⟨z51,z52,_,_,⟨u5,z55⟩,_⟩:=rdUpto_all e5 z41 (by omega)
 obtain⟨z61,z62,_,⟨u6,z65⟩,_⟩:=rdHash_all e6 z51
 obtain⟨z71,z72,z73,z74,⟨u7,z75⟩,_⟩:=rdUpto_all e7 z61 (by omega)
 have many:=rdSigs_all e8 z71
 have mlen:=many.len
 have eA:rdCert (b,w0)=(⟨⟨0,n1,n2,n3,n4,n5,n6,zero32⟩,n8⟩,r8,w8):=by simp only[rdCert,e1,e2,e3,e4,e5,e6,e7,e8]
 have ok:=rdCert_all eA hb
 rw[eA]at he
 simp only[Prod.mk.injEq]at he
 obtain⟨rfl,rfl,rfl⟩:=he
 obtain⟨k,hk⟩:∃k:Nat,n7=(k:Int):=⟨n7.toNat,by omega⟩
 rw[hk,Int.toNat_natCast]at e8
 have hk21:k≤21:=by omega
 have l1:((B.length:Int)-(r1.length:Int))=((u0++u1).length:Int):=by rw[hB,z15];simp only[List.length_append];omega
 have l2:((B.length:Int)-(r2.length:Int))=((u0++u1++u2).length:Int):=by rw[hB,z15,z25];simp only[List.length_append];omega
 have l3:((B.length:Int)-(r3.length:Int))=((u0++u1++u2++u3).length:Int):=by rw[hB,z15,z25,z35];simp only[List.length_append];omega
 have l4:((B.length:Int)-(r4.length:Int))=((u0++u1++u2++u3++u4).length:Int):=by rw[hB,z15,z25,z35,z45];simp only[List.length_append];omega
 have l5:((B.length:Int)-(r5.length:Int))=((u0++u1++u2++u3++u4++u5).length:Int):=by rw[hB,z15,z25,z35,z45,z55];simp only[List.length_append];omega
 have l6:((B.length:Int)-(r6.length:Int))=((u0++u1++u2++u3++u4++u5++u6).length:Int):=by rw[hB,z15,z25,z35,z45,z55,z65];simp only[List.length_append];omega
 have l7:((B.length:Int)-(r7.length:Int))=((u0++u1++u2++u3++u4++u5++u6++u7).length:Int):=by rw[hB,z15,z25,z35,z45,z55,z65,z75];simp only[List.length_append];omega
 have b1:B=u0++u1++r1:=by rw[List.append_assoc,←z15];exact hB
 have b2:B=u0++u1++u2++r2:=by rw[List.append_assoc,←z25];exact b1
 have b3:B=u0++u1++u2++u3++r3:=by rw[List.append_assoc,←z35];exact b2
 have b4:B=u0++u1++u2++u3++u4++r4:=by rw[List.append_assoc,←z45];exact b3
 have b5:B=u0++u1++u2++u3++u4++u5++r5:=by rw[List.append_assoc,←z55];exact b4
 have b6:B=u0++u1++u2++u3++u4++u5++u6++r6:=by rw[List.append_assoc,←z65];exact b5
 have b7:B=u0++u1++u2++u3++u4++u5++u6++u7++r7:=by rw[List.append_assoc,←z75];exact b6
 simp -implicitDefEqProofs only[pf60,hU,SRu_eq,hH,SRh_eq,go_sem,↓reduceIte]
 refine⟨u0,b,n1,r1,w1,⟨hB,rfl,hbB,by omega,e1⟩,?_⟩
 refine⟨u0++u1,r1,n2,r2,w2,⟨b1,by first|exact l1|simpa using l1,hbB,by omega,e2⟩,?_⟩
 refine⟨u0++u1++u2,r2,n3,r3,w3,⟨b2,by first|exact l2|simpa using l2,hbB,by omega,e3⟩,?_⟩
 refine⟨u0++u1++u2++u3,r3,n4,r4,w4,⟨b3,by first|exact l3|simpa using l3,hbB,by omega,e4⟩,?_⟩
 refine⟨u0++u1++u2++u3++u4,r4,n5,r5,w5,⟨b4,by first|exact l4|simpa using l4,hbB,by omega,e5⟩,?_⟩
 refine⟨u0++u1++u2++u3++u4++u5,r5,n6,r6,w6,⟨b5,by first|exact l5|simpa using l5,hbB,by omega,e6⟩,?_⟩
 refine⟨u0++u1++u2++u3++u4++u5++u6,r6,n7,r7,w7,⟨b6,by first|exact l6|simpa using l6,hbB,by omega,e7⟩,?_⟩
 refine⟨k+1,?_⟩
 rw[hk]
 try simp -implicitDefEqProofs only[go_sem,↓reduceIte]
 refine loop60 (k:=k) (t7:=u0++u1++u2++u3++u4++u5++u6++u7) (r7:=r7) (w7:=w7) hU hH b7 hbB hl hk21 (fun ts G' x l2 r w Lt hm hrow=> ?_) k 0 _ .nils [] r7 w7 [] (by omega) rfl (Row.nil (Ext.refl _))
 rw[e8]at hm
 simp only[Prod.mk.injEq]at hm
 obtain⟨rfl,rfl,rfl⟩:=hm
 obtain⟨x1,x2⟩:=hrow.one
 unfold V.isAgg at x2
 have xn:x.same .nils=true:=(Row.nil (z:=(.agg [.int .i64 0,.arr .u8 32 zz2]:V)) (sz:=33) (Ext.refl G)).like hrow
 simp -implicitDefEqProofs only[x1,x2,xn,go_sem,↓reduceIte]
 cases w8 with
 |true=>
  try simp -implicitDefEqProofs only[go_sem,↓reduceIte]
  exact⟨_,_,low_cert3 (els:=[]) (z:= .agg [.int .i64 0,.arr .u8 32 zz2]) (Row.nil hrow.1),h⟩
 |false=>
  have nl:n8.length < 1000000:=by have:=ok.cnt;dsimp only at this;omega
  simp -implicitDefEqProofs only[hM,ZMc_eq,x1,x2,go_sem,↓reduceIte]
  refine⟨⟨0,n1,n2,n3,n4,n5,n6,zero32⟩,x,n8,⟨rfl,sgv_row hrow,ok.wf.1,nl⟩,?_⟩
  cases hq:CertS.may ⟨⟨0,n1,n2,n3,n4,n5,n6,zero32⟩,n8⟩with
  |false=>
   simp -implicitDefEqProofs only[go_sem,↓reduceIte]
   rw[certR,hq]at h
   exact⟨_,_,low_cert3 (els:=[]) (z:= .agg [.int .i64 0,.arr .u8 32 zz2]) (Row.nil hrow.1),h⟩
  |true=>
   simp -implicitDefEqProofs only[x1,x2,xn,go_sem,↓reduceIte]
   rw[certR,hq]at h
   exact⟨_,_,low_cert3 hrow,h⟩
end Go.Proofs.Ytegamlopcdjiaaa.Sha
namespace Go.Abs.Sha
open Go Go.Abs Go.Abs.Srt
set_option linter.unusedVariables false
set_option linter.unusedSimpArgs false
theorem riseI_from {n low k:Int} {l:List Int} {x:Int} (h:riseI n low (x::l)=true) (hk:k < x):riseI n k (x::l)=true:=by
 unfold riseI at h⊢
 split at h
 ·cases h
 ·rename_i hw
  rw[if_neg (by omega)];exact h
theorem riseI_tail {n low:Int} {l:List Int} {x:Int} (h:riseI n low (x::l)=true):low < x∧x≤n∧riseI n x l=true:=by
 unfold riseI at h
 split at h
 ·cases h
 ·rename_i hw
  exact⟨by omega,by omega,h⟩
theorem meet {n:Int}:∀(k:Nat) {l m:List Int} {low:Int},l.length+m.length=k→riseI n low l=true→riseI n low m=true→low≤n→(∀x∈l,x∉m)→(l.length:Int)+m.length≤n-low:=by
 intro k
 induction k with
 |zero=>intro l m low hk h1 h2 hl hd;omega
 |succ k ih=>
  intro l m low hk h1 h2 hl hd
  cases l with
  |nil=>
   rcases riseI_len h2 with rfl|h2
   ·simp at hk
   ·simp only[List.length_nil];omega
  |cons x l=>
   cases m with
   |nil=>
    rcases riseI_len h1 with h1|h1
    ·cases h1
    ·simp only[List.length_nil];omega
   |cons y m=>
    obtain⟨a1,a2,a3⟩:=riseI_tail h1
    obtain⟨b1,b2,b3⟩:=riseI_tail h2
    have hne:x≠y:=by rintro rfl;exact hd x (List.mem_cons_self ..) (List.mem_cons_self ..)
    simp only[List.length_cons]at hk
    by_cases hxy:x < y
    ·have:=ih (l:=l) (m:=y::m) (low:=x) (by simp only[List.length_cons];omega) a3 (riseI_from h2 hxy) a2 fun z hz=>hd z (List.mem_cons_of_mem _ hz)
     simp only[List.length_cons]at this⊢;omega
    ·have:=ih (l:=x::l) (m:=m) (low:=y) (by simp only[List.length_cons];omega) (riseI_from h1 (by omega)) b3 b2 fun z hz hz2=>hd z hz (List.mem_cons_of_mem _ hz2)
     simp only[List.length_cons]at this⊢;omega
end Go.Abs.Sha
namespace Go.Proofs.Ytegamlopcdjiaaa.Sha
open Go Go.Abs Go.Abs.Sha Go.Abs.Srt
set_option linter.unusedSimpArgs false
set_option linter.unusedVariables false
set_option maxRecDepth 100000
attribute [local irreducible] W Wops WopsD WL Wop WopD
variable {E:Env} {C:Abs.Spec} {l:List (Nat×Spec1)} {G:List (Nat×V)} {Q:R→List (Nat×V)→Prop}
set_option maxHeartbeats 1000000
theorem getD_at {l:List Int} {j:Nat} {p:Int} {r:List Int} (h:l.drop j=p::r):l.getD j 0=p:=by
 have:(l.drop j)[0]? =some p:=by rw[h];rfl
 rw[List.getElem?_drop,Nat.add_zero]at this
 rw[List.getD_eq_getElem?_getD,this];rfl
end Go.Proofs.Ytegamlopcdjiaaa.Sha
