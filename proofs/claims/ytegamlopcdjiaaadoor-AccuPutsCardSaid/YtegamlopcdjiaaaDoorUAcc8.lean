/- Accumulations: put and read. -/
import Derived.Test.YtegamlopcdjiaaaDoorUAcc7
import Derived.Test.YtegamlopcdjiaaaDoorG12
namespace Go.Proofs.YtegamlopcdjiaaaDoor.Sha
open Go Go.Abs Go.Abs.Sha Go.Abs.Srt
set_option linter.unusedSimpArgs false
set_option linter.unusedVariables false
set_option maxRecDepth 100000
def pf33:PF:=
 PF.mk 2 5 20 ((PC.reg [nn (.v 3) (.box (.v 1)),nn (.v 4) (.mv true (.c (.own .nils)))]).seq (((PC.reg [nn (.t 5) (.load 68 true (.v 3)),nn (.t 6)
  (.call 45 [.t 5]),nn (.t 7) (.un .not (.t 6))]).seq (PC.cond (.t 7) ((PC.reg [mm 8 0,nn (.t 9) (.call 65 [.t 8]),ma 4 9]).seq PC.ret)
  PC.skip)).seq ((PC.regD 0 [mm 10 0,nn (.t 11) (.fadr 0 0 (.v 3)),nn (.t 12) (.load 1 false (.t 11)),nn (.t 13) (.conv .u64 (.t 12)),nn (.t 14)
  (.call 72 [.t 10,.t 13]),nn (.t 15) (.load 68 true (.v 3)),nn (.t 16) (.call 47 [.t 14,.t 15]),nn (.t 17) (.fadr 5 36 (.v 3)),nn (.t 18) (.load
  32 true (.t 17)),nn (.t 19) (.call 71 [.t 16,.t 18]),ma 4 19] []).seq PC.ret))) [(.v 4,none)]
def pf36:PF:=
 PF.mk 1 3 14 ((PC.reg [nn (.v 1) (.box (.v 0)),nn (.v 2) (.mv true (.c (.own .nils)))]).seq ((PC.regD 0 [nn (.t 3) (.fadr 0 0 (.v 1)),nn (.t 4)
  (.load 1 false (.t 3)),nn (.t 5) (.conv .u8 (.t 4)),nn (.t 6) (.buildS (some .u8) 1 (.int .u8 0) 1 [(0,.t 5)]),nn (.t 7) (.load 68 true (.v 1)),
  nn (.t 8) (.call 73 [.t 7]),nn (.t 9) (.app (some .u8) 1 1 (.t 6) (.t 8)),nn (.t 10) (.fadr 5 36 (.v 1)),nn (.t 11) (.load 32 true (.t 10)),nn
  (.t 12) (.call 74 [.t 11]),nn (.t 13) (.app (some .u8) 1 1 (.t 9) (.t 12)),ma 2 13] []).seq PC.ret)) [(.v 2,none)]
def lp30_0:PC:=
 (PC.reg [nn (.t 17) (.bin .lss (.v 16) (.v 15))]).seq ((PC.cond (.t 17) PC.skip (PC.exit 0)).seq ((PC.block 1 (PC.regW 0 [(0,nn (.t 18) (.fadr 4 35
  (.v 4))),(1,nn (.t 19) (.load 1 false (.t 18))),(2,mm 20 0),(3,nn (.t 21) (.callW 66 [.t 20,.c (.v (.int .i64 21))])),(4,nn (.t 22) (.buildS
  (some .i64) 1 (.int .i64 0) 1 [(0,.t 21)])),(5,nn (.t 23) (.appR 1 8 (.int .i64 0) (.t 19) (.t 22))),(6,nn (.t 24) (.fadr 4 35 (.v 4))),(7,nn
  .no (.store 1 (.t 24) (.t 23)))] [(1,3)])).seq (PC.reg [nn (.t 25) (.bin .add (.v 16) (.c (.v (.int .i64 1)))),nn (.v 16) (.mv false (.t 25))])))
def pf30:PF:=
 PF.mk 1 17 38 ((PC.reg [nn (.v 2) (.alloc (.agg [.int .i64 0,.int .i64 0,.int .i64 0,.arr .u8 32 [0,0,0,0,0,0,0,0,0,0,0,0,0,0,0,0,0,
  0,0,0,0,0,0,0,0,0,0,0,0,0,0,0],.nils,.arr .u8 32 [0,0,0,0,0,0,0,0,0,0,0,0,0,0,0,0,0,0,0,0,0,0,0,0,0,0,0,0,
  0,0,0,0]])),nn (.v 3) (.mv true (.c (.v (.bool false))))]).seq ((PC.reg [nn (.v 5) (.mv false (.v 0)),nn (.v 6) (.call 66 [.v 5,.c (.v (.int
  .i64 21))]),nn (.v 7) (.mv false (.v 0)),nn (.v 8) (.call 66 [.v 7,.c (.v (.int .i64 1099511627776))]),nn (.v 9) (.mv false (.v 0)),nn (.v 10)
  (.call 66 [.v 9,.c (.v (.int .i64 1099511627776))]),nn (.v 11) (.mv false (.v 0)),nn (.v 12) (.call 67 [.v 11]),nn (.v 13) (.build (.agg [.int
  .i64 0,.int .i64 0,.int .i64 0,.arr .u8 32 [0,0,0,0,0,0,0,0,0,0,0,0,0,0,0,0,0,0,0,0,0,0,0,0,0,0,0,0,0,0,0,0],
  .nils,.arr .u8 32 [0,0,0,0,0,0,0,0,0,0,0,0,0,0,0,0,0,0,0,0,0,0,0,0,0,0,0,0,0,0,0,0]]) [(0,.v 6),(1,.v 8),(2,.v
  10),(3,.v 12)]),nn (.v 4) (.alloc (.agg [.int .i64 0,.int .i64 0,.int .i64 0,.arr .u8 32 [0,0,0,0,0,0,0,0,0,0,0,0,0,0,0,0,0,0,
  0,0,0,0,0,0,0,0,0,0,0,0,0,0],.nils,.arr .u8 32 [0,0,0,0,0,0,0,0,0,0,0,0,0,0,0,0,0,0,0,0,0,0,0,0,0,0,0,0,0,
  0,0,0]])),nn .no (.store 68 (.v 4) (.v 13))]).seq (((PC.reg [nn (.v 14) (.mv false (.v 0)),nn (.v 15) (.call 66 [.v 14,.c (.v (.int .i64 21))]),
  nn (.v 16) (.mv false (.c (.v (.int .i64 0))))]).seq (PC.block 0 (PC.loop [0,2,4,15,16] lp30_0))).seq ((PC.reg [mm 26 0,nn (.t 27) (.call 67 [.t
  26]),nn (.t 28) (.fadr 5 36 (.v 4)),nn .no (.store 32 (.t 28) (.t 27))]).seq (((PC.reg [mm 29 0,nn (.t 30) (.call 68 [.t 29]),nn (.t 31) (.mv
  false (.t 30)),⟨.t 32,.load 68 true (.v 4),some (.t 31,false)⟩,⟨.t 33,.call 45 [.t 32],some (.t 31,false)⟩,⟨.t 34,.un .not (.t 33),some
  (.t 31,false)⟩,nn (.t 35) (.pick (.t 31) (.c (.v (.bool true))) (.t 34))]).seq (PC.cond (.t 35) ((PC.reg [nn (.t 36) (.build (.agg [.int .i64 0,
  .int .i64 0,.int .i64 0,.arr .u8 32 [0,0,0,0,0,0,0,0,0,0,0,0,0,0,0,0,0,0,0,0,0,0,0,0,0,0,0,0,0,0,0,0],.nils,.arr
  .u8 32 [0,0,0,0,0,0,0,0,0,0,0,0,0,0,0,0,0,0,0,0,0,0,0,0,0,0,0,0,0,0,0,0]]) []),nn .no (.store 68 (.v 2) (.t 36)),nn
  (.v 3) (.mv true (.c (.v (.bool false))))]).seq PC.ret) PC.skip)).seq ((PC.reg [nn (.t 37) (.load 68 true (.v 4)),nn .no (.store 68 (.v 2) (.t 37)),
  nn (.v 3) (.mv true (.c (.v (.bool true))))]).seq PC.ret)))))) [(.v 2,some (68,true)),(.v 3,none)]
def lp31_0:PC:=
 ((PC.reg [mm 40 7,mm 41 6,nn (.t 42) (.bin .lss (.t 40) (.t 41))]).seq (PC.cond (.t 42) PC.skip (PC.exit 0))).seq ((PC.block 1 ((PC.reg [nn (.t 46)
  (.load 3 true (.v 1)),nn (.t 47) (.call 69 [.t 46,.c (.v (.int .i64 21))]),nn (.t 45) (.mv false (.t 47)),nn (.t 48) (.ext (.t 45) 0),nn (.t 49)
  (.ext (.t 45) 1),nn (.v 8) (.alloc (.agg [.nils,.int .i64 0,.bool false])),nn .no (.store 3 (.v 8) (.t 48)),ma 9 49]).seq ((PC.reg [nn (.t 50)
  (.load 3 true (.v 8)),nn .no (.store 3 (.v 1) (.t 50))]).seq (PC.reg [nn (.t 51) (.fadr 4 35 (.v 5)),nn (.t 52) (.load 1 false (.t 51)),mm 53 9,
  nn (.t 54) (.buildS (some .i64) 1 (.int .i64 0) 1 [(0,.t 53)]),nn (.t 55) (.appR 1 8 (.int .i64 0) (.t 52) (.t 54)),nn (.t 56) (.fadr 4 35 (.v
  5)),nn .no (.store 1 (.t 56) (.t 55))])))).seq (PC.reg [mm 43 7,nn (.t 44) (.bin .add (.t 43) (.c (.v (.int .i64 1)))),ma 7 44]))
def pf31:PF:=
 PF.mk 1 10 74 ((PC.reg [nn (.v 1) (.box (.v 0)),nn (.v 2) (.alloc (.agg [.nils,.int .i64 0,.bool false])),nn (.v 3) (.alloc (.agg [.int .i64 0,
  .int .i64 0,.int .i64 0,.arr .u8 32 [0,0,0,0,0,0,0,0,0,0,0,0,0,0,0,0,0,0,0,0,0,0,0,0,0,0,0,0,0,0,0,0],.nils,.arr
  .u8 32 [0,0,0,0,0,0,0,0,0,0,0,0,0,0,0,0,0,0,0,0,0,0,0,0,0,0,0,0,0,0,0,0]])),nn (.v 4) (.mv true (.c (.v (.bool
  false))))]).seq ((PC.reg [nn (.t 10) (.build (.agg [.int .i64 0,.int .i64 0,.int .i64 0,.arr .u8 32 [0,0,0,0,0,0,0,0,0,0,0,0,0,0,0,
  0,0,0,0,0,0,0,0,0,0,0,0,0,0,0,0,0],.nils,.arr .u8 32 [0,0,0,0,0,0,0,0,0,0,0,0,0,0,0,0,0,0,0,0,0,0,0,0,0,0,
  0,0,0,0,0,0]]) []),nn (.v 5) (.alloc (.agg [.int .i64 0,.int .i64 0,.int .i64 0,.arr .u8 32 [0,0,0,0,0,0,0,0,0,0,0,0,0,0,0,0,
  0,0,0,0,0,0,0,0,0,0,0,0,0,0,0,0],.nils,.arr .u8 32 [0,0,0,0,0,0,0,0,0,0,0,0,0,0,0,0,0,0,0,0,0,0,0,0,0,0,0,
  0,0,0,0,0]])),nn .no (.store 68 (.v 5) (.t 10))]).seq ((PC.reg [nn (.v 6) (.mv true (.c (.v (.int .i64 0))))]).seq ((PC.reg [nn (.t 12) (.load 3
  true (.v 1)),nn (.t 13) (.call 69 [.t 12,.c (.v (.int .i64 21))]),nn (.t 11) (.mv false (.t 13)),nn (.t 14) (.ext (.t 11) 0),nn (.t 15) (.ext
  (.t 11) 1),nn .no (.store 3 (.v 1) (.t 14)),nn (.t 16) (.fadr 0 0 (.v 5)),nn .no (.store 1 (.t 16) (.t 15))]).seq ((PC.reg [nn (.t 18) (.load 3
  true (.v 1)),nn (.t 19) (.call 69 [.t 18,.c (.v (.int .i64 1099511627776))]),nn (.t 17) (.mv false (.t 19)),nn (.t 20) (.ext (.t 17) 0),nn (.t
  21) (.ext (.t 17) 1),nn .no (.store 3 (.v 1) (.t 20)),nn (.t 22) (.fadr 1 1 (.v 5)),nn .no (.store 1 (.t 22) (.t 21))]).seq ((PC.reg [nn (.t 24)
  (.load 3 true (.v 1)),nn (.t 25) (.call 69 [.t 24,.c (.v (.int .i64 1099511627776))]),nn (.t 23) (.mv false (.t 25)),nn (.t 26) (.ext (.t 23) 0),
  nn (.t 27) (.ext (.t 23) 1),nn .no (.store 3 (.v 1) (.t 26)),nn (.t 28) (.fadr 2 2 (.v 5)),nn .no (.store 1 (.t 28) (.t 27))]).seq ((PC.reg [nn
  (.t 30) (.load 3 true (.v 1)),nn (.t 31) (.call 70 [.t 30]),nn (.t 29) (.mv false (.t 31)),nn (.t 32) (.ext (.t 29) 0),nn (.t 33) (.ext (.t 29)
  1),nn .no (.store 3 (.v 1) (.t 32)),nn (.t 34) (.fadr 3 3 (.v 5)),nn .no (.store 32 (.t 34) (.t 33))]).seq ((PC.reg [nn (.t 36) (.load 3 true (.v
  1)),nn (.t 37) (.call 69 [.t 36,.c (.v (.int .i64 21))]),nn (.t 35) (.mv false (.t 37)),nn (.t 38) (.ext (.t 35) 0),nn (.t 39) (.ext (.t 35) 1),
  nn .no (.store 3 (.v 1) (.t 38)),ma 6 39]).seq (((PC.reg [nn (.v 7) (.mv true (.c (.v (.int .i64 0))))]).seq (PC.block 0 (PC.loop [1,2,3,5,6,7]
  lp31_0))).seq ((PC.reg [nn (.t 58) (.load 3 true (.v 1)),nn (.t 59) (.call 70 [.t 58]),nn (.t 57) (.mv false (.t 59)),nn (.t 60) (.ext (.t 57) 0),
  nn (.t 61) (.ext (.t 57) 1),nn .no (.store 3 (.v 1) (.t 60)),nn (.t 62) (.fadr 5 36 (.v 5)),nn .no (.store 32 (.t 62) (.t 61))]).seq (((PC.reg [nn
  (.t 63) (.fadr 2 2 (.v 1)),nn (.t 64) (.load 1 false (.t 63)),nn (.t 65) (.mv false (.t 64)),⟨.t 66,.load 68 true (.v 5),some (.t 65,false)⟩,
  ⟨.t 67,.call 34 [.t 66],some (.t 65,false)⟩,⟨.t 68,.un .not (.t 67),some (.t 65,false)⟩,nn (.t 69) (.pick (.t 65) (.c (.v (.bool true))) (.t
  68))]).seq (PC.cond (.t 69) ((PC.reg [nn (.t 70) (.load 3 true (.v 1)),nn (.t 71) (.build (.agg [.int .i64 0,.int .i64 0,.int .i64 0,.arr .u8 32
  [0,0,0,0,0,0,0,0,0,0,0,0,0,0,0,0,0,0,0,0,0,0,0,0,0,0,0,0,0,0,0,0],.nils,.arr .u8 32 [0,0,0,0,0,0,0,0,0,0,
  0,0,0,0,0,0,0,0,0,0,0,0,0,0,0,0,0,0,0,0,0,0]]) []),nn .no (.store 3 (.v 2) (.t 70)),nn .no (.store 68 (.v 3) (.t 71)),nn (.v
  4) (.mv true (.c (.v (.bool false))))]).seq PC.ret) PC.skip)).seq ((PC.regD 0 [nn (.t 72) (.load 3 true (.v 1)),nn (.t 73) (.load 68 true (.v 5)),
  nn .no (.store 3 (.v 2) (.t 72)),nn .no (.store 68 (.v 3) (.t 73)),nn (.v 4) (.mv true (.c (.v (.bool true))))] [(1,2)]).seq PC.ret))))))))))))
  [(.v 2,some (3,true)),(.v 3,some (68,true)),(.v 4,none)]
attribute [local irreducible] W Wops WopsD WL Wop WopD
variable {E:Env} {C:Abs.Spec} {l:List (Nat×Spec1)} {G:List (Nat×V)} {Q:R→List (Nat×V)→Prop}
set_option maxHeartbeats 1000000
def rdV (r:List Int) (w:Bool):V:= .agg [.sli .u8 r,.bool w]
def ZPu:Spec1
 |[x,y],G,Q=>∃(b:List Int) (a:AccS),(byV x=some b∧b.length < 100000000∧y=a.v∧a.wf∧a.fr.length < 1000000)∧Q (.own (.sli .u8 (if a.may=true then b++a.bytes else b))) G
 |_,_,_=>False
theorem ZPu_eq {x y}:ZPu [x,y] G Q=(∃(b:List Int) (a:AccS),(byV x=some b∧b.length < 100000000∧y=a.v∧a.wf∧a.fr.length < 1000000)∧Q (.own (.sli .u8 (if a.may=true then b++a.bytes else b))) G):=rfl
def ZBy:Spec1
 |[y],G,Q=>∃(a:AccS),(y=a.v∧a.wf∧a.May)∧Q (.own (.sli .u8 a.bytes)) G
 |_,_,_=>False
theorem ZBy_eq {y}:ZBy [y] G Q=(∃(a:AccS),(y=a.v∧a.wf∧a.May)∧Q (.own (.sli .u8 a.bytes)) G):=rfl
def ZRd:Spec1
 |[.ptr id],G,Q=>∃b a r w,(Abs.look G id=some (.agg [.sli .u8 b,.bool false])∧Byt b∧b.length < 100000000000∧rdAccu (b,false)=(a,r,w))∧Q (.tup [(accR a w).v,.bool (!w&&a.may)]) (Abs.upd G id (.agg [.sli .u8 r,.bool w]))
 |_,_,_=>False
theorem ZRd_eq {id}:ZRd [.ptr id] G Q=(∃b a r w,(Abs.look G id=some (.agg [.sli .u8 b,.bool false])∧Byt b∧b.length < 100000000000∧rdAccu (b,false)=(a,r,w))∧Q (.tup [(accR a w).v,.bool (!w&&a.may)]) (Abs.upd G id (.agg [.sli .u8 r,.bool w]))):=rfl
def ZRr:Spec1
 |[.agg [.sli .u8 B,.int .i64 0,.bool false]],G,Q=>∃a r w,(Byt B∧B.length < 100000000000∧rdAccu (B,false)=(a,r,w))∧Q (.tup [.agg [.sli .u8 B,.int .i64 ((B.length:Int)-r.length),.bool w],(accR a w).v,.bool (!w&&a.may)]) G
 |_,_,_=>False
theorem ZRr_eq {B}:ZRr [.agg [.sli .u8 B,.int .i64 0,.bool false]] G Q=(∃a r w,(Byt B∧B.length < 100000000000∧rdAccu (B,false)=(a,r,w))∧Q (.tup [.agg [.sli .u8 B,.int .i64 ((B.length:Int)-r.length),.bool w],(accR a w).v,.bool (!w&&a.may)]) G):=rfl
theorem walk33 {b:List Int} {a:AccS} (hM:Abs.look l 45=some ZMa) (hC:Abs.look l 65=some SCl) (hN:Abs.look l 72=some SNu) (hT:Abs.look l 47=some ZTg) (hH:Abs.look l 71=some SHa)
  (hb:b.length < 100000000) (hw:a.wf) (hl:a.fr.length < 1000000) (h:Q (.own (.sli .u8 (if a.may=true then b++a.bytes else b))) G):Wf E (specOf l) pf33 [.sli .u8 b,a.v] G Q:=by
 obtain⟨a1,a2,a3,a4,fr,a6⟩:=a
 by_cases hm:AccS.May ⟨a1,a2,a3,a4,fr,a6⟩
 ·have hmay:AccS.may ⟨a1,a2,a3,a4,fr,a6⟩=true:=decide_eq_true hm
  obtain⟨m1,m2⟩:=hm.1
  dsimp only at m1 m2
  obtain⟨s1,s2⟩:=AccS.said_ok hw hm
  obtain⟨r1,n1⟩:=num_ok (n:=a1.toNat) (by omega)
  have w1:=u64_of (n:=a1) (by omega) (by omega)
  rw[if_pos hmay]at h
  unfold AccS.bytes at h
  simp (maxSteps:=1000000) (implicitDefEqProofs:=false) only[pf33,AccS.v,hM,ZMa_eq,go_sem,↓reduceIte]
  refine⟨fr,⟨.inl rfl,hw,hl⟩,?_⟩
  simp (maxSteps:=1000000) (implicitDefEqProofs:=false) only[hmay,hN,SNu_eq,w1,hT,ZTg_eq,hH,SHa_eq,go_sem,↓reduceIte]
  refine⟨b,⟨rfl,by omega,by omega,by omega⟩,_,fr,⟨byV_u8 _,by rw[List.length_append];omega,.inl rfl,hw,hm⟩,_,⟨byV_u8 _,by simp only[List.length_append];omega,hw.ta.2⟩,?_⟩
  simpa only[List.append_assoc]using h
 ·have hmay:AccS.may ⟨a1,a2,a3,a4,fr,a6⟩=false:=decide_eq_false hm
  rw[if_neg (by rw[hmay];exact Bool.false_ne_true)]at h
  simp (maxSteps:=1000000) (implicitDefEqProofs:=false) only[pf33,AccS.v,hM,ZMa_eq,go_sem,↓reduceIte]
  refine⟨fr,⟨.inl rfl,hw,hl⟩,?_⟩
  simp (maxSteps:=1000000) (implicitDefEqProofs:=false) only[hmay,hC,SCl_eq,go_sem,↓reduceIte]
  exact⟨b,⟨rfl,by omega⟩,h⟩
theorem walk36 {a:AccS} (hT:Abs.look l 73=some ZT1) (hB:Abs.look l 74=some SBy) (hw:a.wf) (hm:a.May) (h:Q (.own (.sli .u8 a.bytes)) G):Wf E (specOf l) pf36 [a.v] G Q:=by
 obtain⟨a1,a2,a3,a4,fr,a6⟩:=a
 obtain⟨m1,m2⟩:=hm.1
 dsimp only at m1 m2
 obtain⟨s1,s2⟩:=AccS.said_ok hw hm
 have l8:a6.length=32:=hw.ta.2
 have w1:IntKind.u8.wrap a1=a1:=by simp only[IntKind.wrap,IntKind.bits,IntKind.signed];simp;omega
 have en:num a1.toNat=[a1]:=by rw[num_small (by omega),show ((a1.toNat:Nat):Int)=a1 by omega]
 unfold AccS.bytes at h;dsimp only at h
 rw[en]at h
 simp (maxSteps:=1000000) (implicitDefEqProofs:=false) only[pf36,AccS.v,w1,hT,ZT1_eq,hB,SBy_eq,l8,go_sem,↓reduceIte]
 refine⟨fr,⟨.inl rfl,hw,hm⟩,?_⟩
 try simp (maxSteps:=1000000) (implicitDefEqProofs:=false) only[go_sem,↓reduceIte]
 exact⟨by omega,by omega,h⟩
theorem loop30 (hU:Abs.look l 66=some SUp) {QQ:Ex→St→Prop} {id k:Nat} {u0:V} {n1 n2 n3:Int} {n4 r5:List Int} {w5:Bool} {x0:Bx} (hid:Abs.look G id=some u0) (hb:Byt r5) (hl:r5.length < 100000000000) (hk:k≤21)
  (hx:∀ts G' x l2 r w,rdMany k (r5,w5)=(l2,r,w)→Row (Abs.upd G id (.agg [.sli .u8 r,.bool w])) G' 1 (.int .i64 0) x (l2.map (V.int .i64))→QQ (.exit 0) ⟨[some (.v (.ptr id)),none,some (.lp 0 []),none,some (.lp 1 []),none,none,none,none,none,none,none,none,none,none,some (.v (.int .i64 (k:Nat))),some (.v (.int .i64 (k:Nat)))],ts,[x0,⟨false,.agg [.int .i64 n1,.int .i64 n2,.int .i64 n3,.arr .u8 32 n4,x,.arr .u8 32 [0,0,0,0,0,0,0,0,0,0,0,0,0,0,0,0,0,0,0,0,0,0,0,0,0,0,0,0,0,0,0,0]]⟩],G'⟩):
  ∀(e j:Nat) (G':List (Nat×V)) (x:V) (l2 r:List Int) (w:Bool),j+e=k→rdMany j (r5,w5)=(l2,r,w)→Row (Abs.upd G id (.agg [.sli .u8 r,.bool w])) G' 1 (.int .i64 0) x (l2.map (V.int .i64))→
   WL (W E (specOf l) lp30_0) [0,2,4,15,16] QQ (e+1) ⟨[some (.v (.ptr id)),none,some (.lp 0 []),none,some (.lp 1 []),none,none,none,none,none,none,none,none,none,none,some (.v (.int .i64 (k:Nat))),some (.v (.int .i64 (j:Nat)))],[],[x0,⟨false,.agg [.int .i64 n1,.int .i64 n2,.int .i64 n3,.arr .u8 32 n4,x,.arr .u8 32 [0,0,0,0,0,0,0,0,0,0,0,0,0,0,0,0,0,0,0,0,0,0,0,0,0,0,0,0,0,0,0,0]]⟩],G'⟩:=by
 intro e
 induction e with
 |zero=>
  intro j G' x l2 r w hj he hrow
  obtain rfl:j=k:=by omega
  refine WL_in lp30_0.eq_1 ?_
  simp (maxSteps:=1000000) (implicitDefEqProofs:=false) only[Int.lt_irrefl,go_sem,↓reduceIte]
  exact hx _ _ _ _ _ _ he hrow
 |succ e ih=>
  intro j G' x l2 r w hj he hrow
  have c1:(j:Int) < (k:Int):=by omega
  have w1:IntKind.i64.wrap ((j:Int)+1)=((j+1:Nat):Int):=wc (by omega) (by omega)
  have many:=rdMany_all he hb
  have ml:=many.len
  rcases e1:rdUpto 21 (r,w)with⟨n,r2,w2⟩
  have he2:rdMany (j+1) (r5,w5)=(l2++[n],r2,w2):=by rw[rdMany_snoc,he];simp only[e1]
  have hl1:=look_upd_same (z:=V.agg [.sli .u8 r,.bool w]) hid
  have hG':=hrow.1 id _ hl1
  have hrow2:=hrow.upd (y:= .agg [.sli .u8 r2,.bool w2]) hl1
  rw[upd_upd]at hrow2
  obtain⟨x1,x2⟩:=hrow.one
  unfold V.isAgg at x2
  refine WL_in lp30_0.eq_1 ?_
  simp (maxSteps:=1000000) (implicitDefEqProofs:=false) only[c1,x1,x2,hU,SUp_eq,go_sem,↓reduceIte]
  refine⟨r,w,n,r2,w2,⟨hG',many.byt,by omega,e1⟩,?_⟩
  refine Row.app (G0:=Abs.upd G id (.agg [.sli .u8 r2,.bool w2])) (sz:=1) (z:= .int .i64 0) (y:= .int .i64 n) (els:=l2.map (V.int .i64)) hrow2 (by rw[List.length_map,many.cnt];omega) ⟨rfl,rfl⟩ rfl (fun u hu=> ?_) (fun x' G2 hr2=> ?_)
  ·obtain⟨q,_,rfl⟩:=List.mem_map.1 hu;exact⟨rfl,rfl⟩
  ·obtain⟨y1,y2⟩:=hr2.one
   unfold V.isAgg at y2
   have yl:=hrow.like hr2
   simp (maxSteps:=1000000) (implicitDefEqProofs:=false) only[w1,x1,x2,y1,y2,yl,go_sem,↓reduceIte]
   refine ih (j+1) G2 x' (l2++[n]) r2 w2 (by omega) he2 ?_
   rw[List.map_append];exact hr2
theorem walk30 {id:Nat} {b r:List Int} {a:AccS} {w:Bool} (hU:Abs.look l 66=some SUp) (hH:Abs.look l 67=some SHs) (hO:Abs.look l 68=some SOff) (hM:Abs.look l 45=some ZMa)
  (hG:Abs.look G id=some (.agg [.sli .u8 b,.bool false])) (hb:Byt b) (hl:b.length < 100000000000) (he:rdAccu (b,false)=(a,r,w))
  (h:Q (.tup [(accR a w).v,.bool (!w&&a.may)]) (Abs.upd G id (.agg [.sli .u8 r,.bool w]))):Wf E (specOf l) pf30 [.ptr id] G (fun r G'=>∃r2 G2,Low G r G' r2 G2∧Q r2 G2):=by
 rcases e1:rdUpto 21 (b,false)with⟨n1,r1,w1⟩
 rcases e2:rdUpto 1099511627776 (r1,w1)with⟨n2,r2,w2⟩
 rcases e3:rdUpto 1099511627776 (r2,w2)with⟨n3,r3,w3⟩
 rcases e4:rdHash (r3,w3)with⟨n4,r4,w4⟩
 rcases e5:rdUpto 21 (r4,w4)with⟨n5,r5,w5⟩
 rcases e6:rdMany n5.toNat (r5,w5)with⟨n6,r6,w6⟩
 rcases e7:rdHash (r6,w6)with⟨n7,r7,w7⟩
 obtain⟨z11,z12,_,_,⟨u1,z15⟩,_⟩:=rdUpto_all e1 hb (by omega)
 obtain⟨z21,z22,_,_,⟨u2,z25⟩,_⟩:=rdUpto_all e2 z11 (by omega)
 obtain⟨z31,z32,_,_,⟨u3,z35⟩,_⟩:=rdUpto_all e3 z21 (by omega)
 obtain⟨z41,z42,_,⟨u4,z45⟩,_⟩:=rdHash_all e4 z31
 obtain⟨z51,z52,z53,z54,⟨u5,z55⟩,_⟩:=rdUpto_all e5 z41 (by omega)
 have many:=rdMany_all e6 z51
 have mlen:=many.len
 obtain⟨z71,z72,_,⟨u7,z75⟩,_⟩:=rdHash_all e7 many.byt
 have eA:rdAccu (b,false)=(⟨n1,n2,n3,n4,n6,n7⟩,r7,w7):=by simp only[rdAccu,e1,e2,e3,e4,e5,e6,e7]
 have ok:=rdAccu_all eA hb
 rw[eA]at he
 simp only[Prod.mk.injEq]at he
 obtain⟨rfl,rfl,rfl⟩:=he
 obtain⟨k,hk⟩:∃k:Nat,n5=(k:Int):=⟨n5.toNat,by omega⟩
 rw[hk,Int.toNat_natCast]at e6
 have hk21:k≤21:=by omega
 have g:∀x,Abs.look (Abs.upd G id x) id=some x:=fun x=>look_upd_same hG
 simp (maxSteps:=1000000) (implicitDefEqProofs:=false) only[pf30,hU,SUp_eq,hH,SHs_eq,g,go_sem,↓reduceIte]
 refine⟨b,false,n1,r1,w1,⟨hG,hb,by omega,e1⟩,r1,w1,n2,r2,w2,⟨rfl,z11,by omega,e2⟩,r2,w2,n3,r3,w3,⟨rfl,z21,by omega,e3⟩,r3,w3,n4,r4,w4,⟨rfl,z31,by omega,e4⟩,?_⟩
 refine⟨r4,w4,n5,r5,w5,⟨rfl,z41,by omega,e5⟩,k+1,?_⟩
 rw[hk]
 try simp (maxSteps:=1000000) (implicitDefEqProofs:=false) only[go_sem,↓reduceIte]
 refine loop30 (k:=k) (r5:=r5) (w5:=w5) hU hG z51 (by omega) hk21 (fun ts G' x l2 r w hm hrow=> ?_) k 0 _ .nils [] r5 w5 (by omega) rfl (Row.nil (Ext.refl _))
 rw[e6]at hm
 simp only[Prod.mk.injEq]at hm
 obtain⟨rfl,rfl,rfl⟩:=hm
 have hl1:=g (V.agg [.sli .u8 r6,.bool w6])
 have hG':=hrow.1 id _ hl1
 have hrow2:=hrow.upd (y:= .agg [.sli .u8 r7,.bool w7]) hl1
 rw[upd_upd]at hrow2
 obtain⟨x1,x2⟩:=hrow.one
 unfold V.isAgg at x2
 have xn:x.same .nils=true:=(Row.nil (z:=(.int .i64 0:V)) (sz:=1) (Ext.refl G)).like hrow
 have hG2:=hrow2.1 id _ (g (V.agg [.sli .u8 r7,.bool w7]))
 simp (maxSteps:=1000000) (implicitDefEqProofs:=false) only[x1,x2,xn,hH,SHs_eq,go_sem,↓reduceIte]
 refine⟨r6,w6,n7,r7,w7,⟨hG',many.byt,by omega,e7⟩,?_⟩
 generalize Abs.upd G' id (.agg [.sli .u8 r7,.bool w7])=GG at hrow2 hG2⊢
 simp (maxSteps:=1000000) (implicitDefEqProofs:=false) only[x1,x2,xn,hO,SOff_eq,go_sem,↓reduceIte]
 refine⟨r7,w7,hG2,?_⟩
 cases w7 with
 |true=>
  simp (maxSteps:=1000000) (implicitDefEqProofs:=false) only[go_sem,↓reduceIte]
  exact⟨_,_,(low_accu (els:=[]) (z:= .int .i64 0) (Row.nil hrow2.1)).upd hG rfl,h⟩
 |false=>
  have nl:n6.length < 1000000:=by have:=ok.cnt;dsimp only at this;omega
  simp (maxSteps:=1000000) (implicitDefEqProofs:=false) only[hM,ZMa_eq,go_sem,↓reduceIte]
  refine⟨n6,⟨frv_row hrow2,ok.wf,nl⟩,?_⟩
  cases hq:AccS.may ⟨n1,n2,n3,n4,n6,n7⟩with
  |false=>
   simp (maxSteps:=1000000) (implicitDefEqProofs:=false) only[go_sem,↓reduceIte]
   rw[accR,hq]at h
   exact⟨_,_,(low_accu (els:=[]) (z:= .int .i64 0) (Row.nil hrow2.1)).upd hG rfl,h⟩
  |true=>
   simp (maxSteps:=1000000) (implicitDefEqProofs:=false) only[x1,x2,xn,go_sem,↓reduceIte]
   rw[accR,hq]at h
   exact⟨_,_,(low_accu hrow2).upd hG rfl,h⟩
end Go.Proofs.YtegamlopcdjiaaaDoor.Sha
