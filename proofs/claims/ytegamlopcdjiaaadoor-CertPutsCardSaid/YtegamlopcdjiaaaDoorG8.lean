/- Laws over plain values, and what functions of the program hand back; no conditions. -/
import Derived.Test.YtegamlopcdjiaaaDoorG5
import Derived.Test.YtegamlopcdjiaaaDoorUSrt5
import Derived.Test.YtegamlopcdjiaaaDoorG4
namespace Go.Proofs.YtegamlopcdjiaaaDoor.Sha
open Go Go.Abs Go.Abs.Sha Go.Abs.Srt
set_option linter.unusedSimpArgs false
set_option linter.unusedVariables false
set_option maxRecDepth 100000
def lp51_0:PC:=
 (PC.reg [nn (.t 55) (.bin .lss (.v 54) (.v 53))]).seq ((PC.cond (.t 55) PC.skip (PC.exit 1)).seq ((PC.block 2 ((PC.reg [nn (.t 56) (.iadrS 101 (.v 52)
  (.v 54)),nn (.t 57) (.load 101 true (.t 56)),nn (.v 10) (.alloc (.agg [.int .i64 0,.int .i64 0,.int .i64 0,.int .i64 0,.arr .u8 32 [0,0,0,0,
  0,0,0,0,0,0,0,0,0,0,0,0,0,0,0,0,0,0,0,0,0,0,0,0,0,0,0,0],.int .i64 0,.arr .u8 32 [0,0,0,0,0,0,0,0,0,0,0,0,0,
  0,0,0,0,0,0,0,0,0,0,0,0,0,0,0,0,0,0,0],.arr .u8 32 [0,0,0,0,0,0,0,0,0,0,0,0,0,0,0,0,0,0,0,0,0,0,0,0,0,0,
  0,0,0,0,0,0]])),nn .no (.store 101 (.v 10) (.t 57))]).seq (PC.reg [nn (.t 58) (.fadr 1 101 (.v 8)),nn (.t 59) (.load 1 false (.t 58)),nn (.t
  60) (.fadr 0 0 (.v 10)),nn (.t 61) (.load 1 false (.t 60)),nn (.t 62) (.fadr 7 69 (.v 10)),nn (.t 63) (.load 32 true (.t 62)),nn (.t 64) (.build
  (.agg [.int .i64 0,.arr .u8 32 [0,0,0,0,0,0,0,0,0,0,0,0,0,0,0,0,0,0,0,0,0,0,0,0,0,0,0,0,0,0,0,0]]) [(0,.t 61),(1,
  .t 63)]),nn (.t 65) (.buildS none 33 (.agg [.int .i64 0,.arr .u8 32 [0,0,0,0,0,0,0,0,0,0,0,0,0,0,0,0,0,0,0,0,0,0,0,0,0,0,
  0,0,0,0,0,0]]) 1 [(0,.t 64)]),nn (.t 66) (.appR 33 40 (.agg [.int .i64 0,.arr .u8 32 [0,0,0,0,0,0,0,0,0,0,0,0,0,0,0,0,0,0,
  0,0,0,0,0,0,0,0,0,0,0,0,0,0]]) (.t 59) (.t 65)),nn (.t 67) (.fadr 1 101 (.v 8)),nn .no (.store 1 (.t 67) (.t 66))]))).seq (PC.reg [nn
  (.t 68) (.bin .add (.v 54) (.c (.v (.int .i64 1)))),nn (.v 54) (.mv false (.t 68))])))
def pf51:PF:=
 PF.mk 2 55 70 ((PC.reg [nn (.v 2) (.newB (.v 0)),nn (.v 3) (.newB (.v 1)),nn (.v 4) (.alloc (.agg [.agg [.int .i64 0,.int .i64 0,.int .i64 0,.int
  .i64 0,.arr .u8 32 [0,0,0,0,0,0,0,0,0,0,0,0,0,0,0,0,0,0,0,0,0,0,0,0,0,0,0,0,0,0,0,0],.int .i64 0,.arr .u8 32 [0,0,
  0,0,0,0,0,0,0,0,0,0,0,0,0,0,0,0,0,0,0,0,0,0,0,0,0,0,0,0,0,0],.arr .u8 32 [0,0,0,0,0,0,0,0,0,0,0,0,0,0,0,
  0,0,0,0,0,0,0,0,0,0,0,0,0,0,0,0,0]],.nils])),nn (.v 5) (.mv true (.c (.v (.int .i64 0))))]).seq ((PC.reg [nn (.v 11) (.load 1 false
  (.v 2)),nn (.v 12) (.call 44 [.v 11]),nn (.v 6) (.mv true (.v 12))]).seq ((PC.block 0 (((PC.reg [nn (.v 14) (.mv false (.v 6)),nn (.v 15) (.bin
  .eql (.v 14) (.c (.v (.int .i64 0)))),nn (.v 13) (.mv true (.v 15))]).seq (PC.cond (.v 13) PC.skip (PC.reg [nn (.v 16) (.load 1 false (.v 3)),nn
  (.v 17) (.len (.v 16)),nn (.v 18) (.bin .eql (.v 17) (.c (.v (.int .i64 0)))),nn (.v 13) (.mv true (.v 18))]))).seq (PC.cond (.v 13) ((PC.reg [nn
  (.v 19) (.build (.agg [.agg [.int .i64 0,.int .i64 0,.int .i64 0,.int .i64 0,.arr .u8 32 [0,0,0,0,0,0,0,0,0,0,0,0,0,0,0,0,0,0,
  0,0,0,0,0,0,0,0,0,0,0,0,0,0],.int .i64 0,.arr .u8 32 [0,0,0,0,0,0,0,0,0,0,0,0,0,0,0,0,0,0,0,0,0,0,0,0,0,0,0,
  0,0,0,0,0],.arr .u8 32 [0,0,0,0,0,0,0,0,0,0,0,0,0,0,0,0,0,0,0,0,0,0,0,0,0,0,0,0,0,0,0,0]],.nils]) []),nn .no
  (.store 102 (.v 4) (.v 19)),nn (.v 5) (.mv true (.c (.v (.int .i64 1))))]).seq PC.ret) ((PC.reg [nn (.v 21) (.load 1 false (.v 3)),nn (.v 22)
  (.mkFn 88 [.v 2]),nn (.v 23) (.call 79 [.v 21,.v 22]),nn (.v 20) (.mv true (.v 23))]).seq (PC.cond (.v 20) ((PC.reg [nn (.v 24) (.build (.agg
  [.agg [.int .i64 0,.int .i64 0,.int .i64 0,.int .i64 0,.arr .u8 32 [0,0,0,0,0,0,0,0,0,0,0,0,0,0,0,0,0,0,0,0,0,0,0,0,0,0,
  0,0,0,0,0,0],.int .i64 0,.arr .u8 32 [0,0,0,0,0,0,0,0,0,0,0,0,0,0,0,0,0,0,0,0,0,0,0,0,0,0,0,0,0,0,0,0],.arr
  .u8 32 [0,0,0,0,0,0,0,0,0,0,0,0,0,0,0,0,0,0,0,0,0,0,0,0,0,0,0,0,0,0,0,0]],.nils]) []),nn .no (.store 102 (.v 4) (.v
  24)),nn (.v 5) (.mv true (.c (.v (.int .i64 7))))]).seq PC.ret) ((PC.reg [nn (.v 26) (.load 1 false (.v 3)),nn (.v 27) (.mkFn 89 [.v 3]),nn (.v
  28) (.call 79 [.v 26,.v 27]),nn (.v 25) (.mv true (.v 28))]).seq (PC.cond (.v 25) ((PC.reg [nn (.v 29) (.build (.agg [.agg [.int .i64 0,.int .i64
  0,.int .i64 0,.int .i64 0,.arr .u8 32 [0,0,0,0,0,0,0,0,0,0,0,0,0,0,0,0,0,0,0,0,0,0,0,0,0,0,0,0,0,0,0,0],.int .i64
  0,.arr .u8 32 [0,0,0,0,0,0,0,0,0,0,0,0,0,0,0,0,0,0,0,0,0,0,0,0,0,0,0,0,0,0,0,0],.arr .u8 32 [0,0,0,0,0,0,0,0,
  0,0,0,0,0,0,0,0,0,0,0,0,0,0,0,0,0,0,0,0,0,0,0,0]],.nils]) []),nn .no (.store 102 (.v 4) (.v 29)),nn (.v 5) (.mv true (.c
  (.v (.int .i64 1))))]).seq PC.ret) PC.skip))))))).seq ((PC.reg [nn (.v 30) (.load 1 false (.v 3)),nn (.v 31) (.call 91 [.v 30]),nn (.v 7) (.mv true
  (.v 31))]).seq ((PC.reg [nn (.v 32) (.mv false (.v 7)),nn (.v 33) (.call 92 [.v 32,.c (.fn 93)])]).seq ((PC.reg [nn (.v 34) (.mv false (.v 7)),nn
  (.v 35) (.call 95 [.v 34,.c (.fn 96)]),nn (.v 7) (.mv true (.v 35))]).seq (((PC.reg [nn (.v 36) (.mv false (.v 7)),nn (.v 37) (.len (.v 36)),nn
  (.v 38) (.mv false (.v 6)),nn (.v 39) (.bin .lss (.v 37) (.v 38))]).seq (PC.cond (.v 39) ((PC.reg [nn (.v 40) (.build (.agg [.agg [.int .i64 0,.int
  .i64 0,.int .i64 0,.int .i64 0,.arr .u8 32 [0,0,0,0,0,0,0,0,0,0,0,0,0,0,0,0,0,0,0,0,0,0,0,0,0,0,0,0,0,0,0,0],.int
  .i64 0,.arr .u8 32 [0,0,0,0,0,0,0,0,0,0,0,0,0,0,0,0,0,0,0,0,0,0,0,0,0,0,0,0,0,0,0,0],.arr .u8 32 [0,0,0,0,0,0,
  0,0,0,0,0,0,0,0,0,0,0,0,0,0,0,0,0,0,0,0,0,0,0,0,0,0]],.nils]) []),nn .no (.store 102 (.v 4) (.v 40)),nn (.v 5) (.mv true
  (.c (.v (.int .i64 3))))]).seq PC.ret) PC.skip)).seq ((PC.reg [nn (.v 41) (.load 1 false (.v 3)),nn (.v 42) (.iadrS 101 (.v 41) (.c (.v (.int .i64
  0)))),nn (.v 43) (.load 101 true (.v 42)),nn (.v 44) (.build (.agg [.agg [.int .i64 0,.int .i64 0,.int .i64 0,.int .i64 0,.arr .u8 32 [0,0,0,
  0,0,0,0,0,0,0,0,0,0,0,0,0,0,0,0,0,0,0,0,0,0,0,0,0,0,0,0,0],.int .i64 0,.arr .u8 32 [0,0,0,0,0,0,0,0,0,0,0,0,
  0,0,0,0,0,0,0,0,0,0,0,0,0,0,0,0,0,0,0,0],.arr .u8 32 [0,0,0,0,0,0,0,0,0,0,0,0,0,0,0,0,0,0,0,0,0,0,0,0,0,
  0,0,0,0,0,0,0]],.nils]) [(0,.v 43)]),nn (.v 8) (.alloc (.agg [.agg [.int .i64 0,.int .i64 0,.int .i64 0,.int .i64 0,.arr .u8 32 [0,0,
  0,0,0,0,0,0,0,0,0,0,0,0,0,0,0,0,0,0,0,0,0,0,0,0,0,0,0,0,0,0],.int .i64 0,.arr .u8 32 [0,0,0,0,0,0,0,0,0,0,0,
  0,0,0,0,0,0,0,0,0,0,0,0,0,0,0,0,0,0,0,0,0],.arr .u8 32 [0,0,0,0,0,0,0,0,0,0,0,0,0,0,0,0,0,0,0,0,0,0,0,0,
  0,0,0,0,0,0,0,0]],.nils])),nn .no (.store 102 (.v 8) (.v 44))]).seq ((PC.reg [nn (.v 45) (.build (.arr .u8 32 [0,0,0,0,0,0,0,0,0,0,
  0,0,0,0,0,0,0,0,0,0,0,0,0,0,0,0,0,0,0,0,0,0]) []),nn (.v 46) (.fadr 0 0 (.v 8)),nn (.v 47) (.fadr 0 0 (.v 46)),nn .no (.store
  1 (.v 47) (.c (.v (.int .i64 0)))),nn (.v 48) (.fadr 0 0 (.v 8)),nn (.v 49) (.fadr 7 69 (.v 48)),nn .no (.store 32 (.v 49) (.v 45))]).seq
  (((PC.reg [nn (.v 50) (.mv false (.v 7)),nn (.v 51) (.mv false (.v 6)),nn (.v 52) (.slcS 101 (.v 50) none (some (.v 51)) none),nn (.v 53) (.len
  (.v 52)),nn (.v 54) (.mv false (.c (.v (.int .i64 0))))]).seq (PC.block 1 (PC.loop [4,8,52,53,54] lp51_0))).seq ((PC.reg [nn (.t 69) (.load 102
  true (.v 8)),nn .no (.store 102 (.v 4) (.t 69)),nn (.v 5) (.mv true (.c (.v (.int .i64 0))))]).seq PC.ret))))))))))) [(.v 4,some (102,true)),(.v
  5,none)]
attribute [local irreducible] W Wops WopsD WL Wop WopD
variable {E:Env} {C:Abs.Spec} {l:List (Nat×Spec1)} {G:List (Nat×V)} {Q:R→List (Nat×V)→Prop}
set_option maxHeartbeats 1000000
def ZMk (kt:List Int):Spec1
 |[.int .i64 n,.sle 101 l],G,Q=>∃as:List AttS,(l=as.map AttS.v∧I64 n∧(∀a∈as,a.wf)∧as.length≤39)∧Q (.tup [(mkCert kt n as).1.v,.int .i64 (mkCert kt n as).2]) G
 |_,_,_=>False
theorem ZMk_eq {kt n l}:ZMk kt [.int .i64 n,.sle 101 l] G Q=(∃as:List AttS,(l=as.map AttS.v∧I64 n∧(∀a∈as,a.wf)∧as.length≤39)∧Q (.tup [(mkCert kt n as).1.v,.int .i64 (mkCert kt n as).2]) G):=rfl
theorem right_may {kt:List Int} {a:AttS} (h:a.right kt=true):a.May:=by
 unfold AttS.right at h;rw[Bool.and_eq_true]at h
 exact of_decide_eq_true h.1
theorem loop51 {QQ:Ex→St→Prop} {id q c:Nat} {LL:List V} {fs:List AttS} {a:V} {r0:Bx} (hid:Abs.look G id=some (.agg LL)) (hq:q < 1000) (hLq:q≤LL.length) (hLL:∀(i:Nat) x,fs[i]? =some x→LL[i]? =some x.v) (hql:q≤fs.length) (hsz:∀x∈LL,V.size x=101) (ha:V.size a=101)
  (hx:∀ts L G' x,Row G G' 33 (.agg [.int .i64 0,.arr .u8 32 [0,0,0,0,0,0,0,0,0,0,0,0,0,0,0,0,0,0,0,0,0,0,0,0,0,0,0,0,0,0,0,0]]) x ((fs.take q).map fun x=>sgV (x.who,x.ta))→L[0]? =some r0→L[1]? =some ⟨false,.agg [a,x]⟩→QQ (.exit 1) ⟨[none,none,none,none,some (.lp 0 []),none,none,none,some (.lp 1 []),none,none,none,none,none,none,none,none,none,none,none,none,none,none,none,none,none,none,none,none,none,none,none,none,none,none,none,none,none,none,none,none,none,none,none,none,none,none,none,none,none,none,none,some (.v (.sob id 101 0 q c)),some (.v (.int .i64 (q:Nat))),some (.v (.int .i64 (q:Nat)))],ts,L,G'⟩):
  ∀(k j:Nat) (L:List Bx) (G':List (Nat×V)) (x:V),j+k=q→Row G G' 33 (.agg [.int .i64 0,.arr .u8 32 [0,0,0,0,0,0,0,0,0,0,0,0,0,0,0,0,0,0,0,0,0,0,0,0,0,0,0,0,0,0,0,0]]) x ((fs.take j).map fun x=>sgV (x.who,x.ta))→L[0]? =some r0→L[1]? =some ⟨false,.agg [a,x]⟩→WL (W E C lp51_0) [4,8,52,53,54] QQ (k+1) ⟨[none,none,none,none,some (.lp 0 []),none,none,none,some (.lp 1 []),none,none,none,none,none,none,none,none,none,none,none,none,none,none,none,none,none,none,none,none,none,none,none,none,none,none,none,none,none,none,none,none,none,none,none,none,none,none,none,none,none,none,none,some (.v (.sob id 101 0 q c)),some (.v (.int .i64 (q:Nat))),some (.v (.int .i64 (j:Nat)))],[],L,G'⟩:=by
 intro k
 induction k with
 |zero=>
  intro j L G' x hj hrow h0 h1
  obtain rfl:j=q:=by omega
  refine WL_in lp51_0.eq_1 ?_
  simp (maxSteps:=1000000) (implicitDefEqProofs:=false) only[Int.lt_irrefl,go_sem,↓reduceIte]
  exact hx _ _ _ _ hrow h0 h1
 |succ k ih=>
  intro j L G' x hj hrow h0 h1
  have c1:(j:Int) < (q:Int):=by omega
  obtain⟨b,hb⟩:∃b,fs[j]? =some b:=⟨fs[j]'(by omega),List.getElem?_eq_getElem (by omega)⟩
  have g:=hLL j b hb
  have hid':=hrow.1 id _ hid
  have w1:IntKind.i64.wrap ((j:Int)+1)=((j+1:Nat):Int):=wc (by omega) (by omega)
  have et:(fs.take (j+1)).map (fun x=>sgV (x.who,x.ta))=(fs.take j).map (fun x=>sgV (x.who,x.ta))++[sgV (b.who,b.ta)]:=by
   rw[List.take_add_one,hb];simp
  have next:=fun L' G2 x'=>ih (j+1) L' G2 x' (by omega)
  rw[et]at next
  have l0:L.length≠0:=by intro e;have:=(List.getElem?_eq_some_iff.1 h0).1;omega
  have l1:L.length≠1:=by intro e;have:=(List.getElem?_eq_some_iff.1 h1).1;omega
  obtain⟨b1,b2,b3,b4,b5,b6,b7,b8⟩:=b
  unfold AttS.v at g
  have hA1:∀y,(L++[y])[1]? =some ⟨false,.agg [a,x]⟩:=fun y=>get_app h1
  obtain⟨x1,x2⟩:=hrow.one
  unfold V.isAgg at x2
  refine WL_in lp51_0.eq_1 ?_
  simp (maxSteps:=1000000) (implicitDefEqProofs:=false) only[c1,hid',g,Int.toNat_natCast,hA1,ha,x1,x2,go_sem,↓reduceIte]
  refine⟨⟨by omega,by omega,hsz⟩,?_⟩
  refine Row.app (G0:=G) (sz:=33) (z:=(.agg [.int .i64 0,.arr .u8 32 [0,0,0,0,0,0,0,0,0,0,0,0,0,0,0,0,0,0,0,0,0,0,0,0,0,0,0,0,0,0,0,0]])) (y:=sgV (b1,b8)) (els:=(fs.take j).map fun x=>sgV (x.who,x.ta)) ?_ ?_ ⟨rfl,rfl⟩ rfl (fun u hu=> ?_) (fun x' G2 hr2=> ?_)
  ·exact hrow
  ·rw[List.length_map];have:=List.length_take_le j fs;omega
  ·obtain⟨w,_,rfl⟩:=List.mem_map.1 hu;exact⟨rfl,rfl⟩
  ·obtain⟨y1,y2⟩:=hr2.one
   unfold V.isAgg at y2
   have yl:=hrow.like hr2
   simp (maxSteps:=1000000) (implicitDefEqProofs:=false) only[hA1,w1,ha,x1,x2,y1,y2,yl,go_sem,↓reduceIte]
   refine next _ _ _ hr2 ?_ ?_
   ·rw[List.getElem?_set_ne (by decide)];exact get_app h0
   ·exact get_set (hA1 _)
theorem walk51 (hQ:Abs.look l 44=some ZQu) (hC:Abs.look l 79=some (ZCo TT)) (hL:Abs.look l 91=some ZCn) (hS:Abs.look l 92=some (ZSf TT)) (hM:Abs.look l 95=some (ZCm TT)) {n:Int} {as:List AttS} (hI:I64 n) (hw:∀a∈as,a.wf) (hl:as.length≤39) (h:Q (.tup [(mkCert K256 n as).1.v,.int .i64 (mkCert K256 n as).2]) G):
  Wf E (specOf l) pf51 [.int .i64 n,.sle 101 (as.map AttS.v)] G (fun r G'=>∃r2 G2,Low G r G' r2 G2∧Q r2 G2):=by
 have bad:∀G' (e:Int),Ext G G'→mkCert K256 n as=(.zero,e)→∃r2 G2,Low G (.tup [.agg [AttS.zero.v,.nils],.int .i64 e]) G' r2 G2∧Q r2 G2:=fun G' e he hm=>by
  rw[hm]at h
  exact⟨_,_,low_cert (z:=(.agg [.int .i64 0,.arr .u8 32 [0,0,0,0,0,0,0,0,0,0,0,0,0,0,0,0,0,0,0,0,0,0,0,0,0,0,0,0,0,0,0,0]])) (Row.nil he),h⟩
 simp (maxSteps:=1000000) (implicitDefEqProofs:=false) (disch:=omega) only[pf51,hQ,ZQu_eq,go_sem,↓reduceIte,w64]
 refine fun i1 hi1 i2 hi2=> ?_
 have ne:i1≠i2:=by rintro rfl;rw[if_pos rfl]at hi2;cases hi2
 replace hi2:Abs.look ((i1,V.int .i64 n)::G) i2=none:=by rw[look_cons];exact hi2
 have g2:Abs.look ((i2,V.sle 101 (as.map AttS.v))::(i1,V.int .i64 n)::G) i2=some (.sle 101 (as.map AttS.v)):=by rw[look_cons,if_pos rfl]
 have g1:Abs.look ((i2,V.sle 101 (as.map AttS.v))::(i1,V.int .i64 n)::G) i1=some (.int .i64 n):=by rw[look_cons,if_neg ne,look_cons,if_pos rfl]
 have he:Ext G ((i2,V.sle 101 (as.map AttS.v))::(i1,V.int .i64 n)::G):=Ext.cons' (Ext.cons hi1) ((Ext.cons hi1).none hi2)
 generalize ((i2,V.sle 101 (as.map AttS.v))::(i1,V.int .i64 n)::G)=G1 at g1 g2 he⊢
 rw[if_neg ne]
 simp (maxSteps:=1000000) (implicitDefEqProofs:=false) only[g1,g2,List.length_map,hQ,ZQu_eq,go_sem,↓reduceIte]
 refine⟨hI,?_⟩
 by_cases hq:quo n=0
 ·simp (maxSteps:=1000000) (implicitDefEqProofs:=false) only[hq,g1,g2,List.length_map,go_sem,↓reduceIte]
  refine bad _ _ he ?_
  unfold mkCert;split
  ·rfl
  ·rw[if_pos hq]
 simp (maxSteps:=1000000) (implicitDefEqProofs:=false) only[hq,g1,g2,List.length_map,go_sem,↓reduceIte]
 cases as with
 |nil=>
  simp (maxSteps:=1000000) (implicitDefEqProofs:=false) only[g1,g2,List.length_map,List.length_nil,Int.natCast_zero,go_sem,↓reduceIte]
  exact bad _ _ he rfl
 |cons a as=>
  have hr:¬((as.length+1:Nat):Int)=0:=by omega
  have hlen:as.length+1≤39:=hl
  simp (maxSteps:=1000000) (implicitDefEqProofs:=false) only[g1,g2,List.length_map,hr,hC,ZCo_eq,not_false_eq_true,forall_const,go_sem,↓reduceIte]
  have an:∀p:V→Bool,(a.v::as.map AttS.v).any p=(a::as).any (fun x=>p x.v):=fun p=>by rw[←List.map_cons,List.any_map];rfl
  refine⟨_,_,_,⟨isAtt_map (as:=a::as) hw,rowOk_atts (as:=a::as),by omega,pred_1 g1⟩,?_⟩
  rw[an]
  refine⟨fun hA=> ?_,fun hA=> ?_⟩
  ·refine bad _ _ he ?_
   show (if _ then _ else _)=_
   rw[if_neg hq]
   exact if_pos hA
  have hA':((a::as).any fun x=> !AttS.right K256 x ||decide (n < x.who))=false:=hA
  refine⟨_,_,_,⟨isAtt_map (as:=a::as) hw,rowOk_atts (as:=a::as),by omega,pred_2 (b:=a) g2⟩,?_⟩
  rw[an]
  refine⟨fun hB=> ?_,fun hB=> ?_⟩
  ·refine bad _ _ he ?_
   show (if _ then _ else _)=_
   rw[if_neg hq,if_neg (show ¬((a::as).any fun x=> !AttS.right K256 x ||decide (n < x.who))=true by rw[hA'];decide)]
   exact if_pos hB
  have hB':((a::as).any fun x=> !(x.alike a))=false:=hB
  have hwho:∀x∈a::as,1≤x.who∧x.who≤n:=fun x hx=>by
   have:=List.any_eq_false.1 hA' x hx
   simp only[Bool.or_eq_true,Bool.not_eq_true',decide_eq_true_eq,not_or,Bool.not_eq_false,Int.not_lt]at this
   exact⟨(right_may this.1).1.1,this.2⟩
  simp (maxSteps:=1000000) (implicitDefEqProofs:=false) only[hL,ZCn_eq,go_sem,↓reduceIte]
  refine⟨⟨fun x hx=>((rowOk_atts (as:=a::as)).all x hx).1,by rw[List.length_map];omega⟩,.inr fun i3 c hi3 hc=> ?_⟩
  rw[List.length_map]at hc
  rw[List.length_map,show ∀k,a.v::(as.map AttS.v++List.replicate k (.agg [.int .i64 0,.int .i64 0,.int .i64 0,.int .i64 0,.arr .u8 32 [0,0,0,0,0,0,0,0,0,0,0,0,0,0,0,0,0,0,0,0,0,0,0,0,0,0,0,0,0,0,0,0],.int .i64 0,.arr .u8 32 [0,0,0,0,0,0,0,0,0,0,0,0,0,0,0,0,0,0,0,0,0,0,0,0,0,0,0,0,0,0,0,0],.arr .u8 32 [0,0,0,0,0,0,0,0,0,0,0,0,0,0,0,0,0,0,0,0,0,0,0,0,0,0,0,0,0,0,0,0]]))=(a::as).map AttS.v++(List.replicate k AttS.zero).map AttS.v from fun k=>by rw[List.map_replicate];rfl]
  generalize hZ:List.replicate (c-(as.length+1)) AttS.zero=Z
  have hZl:(a::as).length+Z.length=c:=by rw[←hZ];simp;omega
  have hZw:∀x∈a::as++Z,x.wf:=fun x hx=>by
   rcases List.mem_append.1 hx with hx|hx
   ·exact hw x hx
   ·rw[←hZ]at hx;rw[List.eq_of_mem_replicate hx];exact AttS.zero_wf
  have g3:Abs.look ((i3,V.agg ((a::as).map AttS.v++Z.map AttS.v))::G1) i3=some (.agg ((a::as).map AttS.v++Z.map AttS.v)):=by rw[look_cons,if_pos rfl]
  have he2:Ext G1 ((i3,V.agg ((a::as).map AttS.v++Z.map AttS.v))::G1):=Ext.cons hi3
  generalize ((i3,V.agg ((a::as).map AttS.v++Z.map AttS.v))::G1)=G2 at g3 he2⊢
  simp (maxSteps:=1000000) (implicitDefEqProofs:=false) only[hS,ZSf_eq,go_sem,↓reduceIte]
  refine⟨(a::as).map AttS.v,Z.map AttS.v,keyBy,IsAtt,AttS.zero.v,⟨g3,⟨by simp,by omega⟩,?_,?_,key_cert⟩,?_⟩
  ·rw[←List.map_append];exact isAtt_map hZw
  ·rw[←List.map_append];exact rowOk_atts
  have g4:=look_upd_same (z:=V.agg (srt keyBy ((a::as).map AttS.v)++Z.map AttS.v)) g3
  have hm:∀x∈srt keyBy ((a::as).map AttS.v)++Z.map AttS.v,x∈(a::as++Z).map AttS.v:=fun x hx=>by
   rw[List.map_append]
   rcases List.mem_append.1 hx with hx|hx
   ·exact List.mem_append.2 (.inl (mem_srt.1 hx))
   ·exact List.mem_append.2 (.inr hx)
  simp (maxSteps:=1000000) (implicitDefEqProofs:=false) only[hM,ZCm_eq,go_sem,↓reduceIte]
  refine⟨srt keyBy ((a::as).map AttS.v),Z.map AttS.v,keyBy,IsAtt,⟨g4,⟨by rw[srt_length];simp,by simp at hZl;omega,by omega⟩,fun y hy=>isAtt_map hZw y (hm y hy),rowOk_atts.mem hm,eq_cert⟩,?_⟩
  rw[cpt_atts hwho]
  have hfm:∀x∈firstsA n (a::as),x∈a::as:=fun x hx=>firstsA_mem hx
  have hmk:mkCert K256 n (a::as)=if ((firstsA n (a::as)).length:Int) < quo n then (.zero,3)else (⟨bareA a,((firstsA n (a::as)).take (quo n).toNat).map fun x=>(x.who,x.ta)⟩,0):=by
   show (if _ then _ else _)=_
   rw[if_neg hq,if_neg (show ¬((a::as).any fun x=> !AttS.right K256 x ||decide (n < x.who))=true by rw[hA'];decide),if_neg (show ¬((a::as).any fun x=> !(x.alike a))=true by rw[hB'];decide)]
  have hfl:(firstsA n (a::as)).length≤as.length+1:=by
   have:=cpt_length (key:=keyBy) (l:=srt keyBy ((a::as).map AttS.v))
   rw[cpt_atts hwho,srt_length]at this;simpa using this
  generalize firstsA n (a::as)=fs at hfm hmk hfl⊢
  rw[List.length_map]
  generalize hSS:List.replicate (as.length+1-fs.length) (.agg [.int .i64 0,.int .i64 0,.int .i64 0,.int .i64 0,.arr .u8 32 [0,0,0,0,0,0,0,0,0,0,0,0,0,0,0,0,0,0,0,0,0,0,0,0,0,0,0,0,0,0,0,0],.int .i64 0,.arr .u8 32 [0,0,0,0,0,0,0,0,0,0,0,0,0,0,0,0,0,0,0,0,0,0,0,0,0,0,0,0,0,0,0,0],.arr .u8 32 [0,0,0,0,0,0,0,0,0,0,0,0,0,0,0,0,0,0,0,0,0,0,0,0,0,0,0,0,0,0,0,0]]:V)=S1
  rw[List.append_assoc]
  have hS1:∀x∈S1++Z.map AttS.v,V.size x=101:=fun x hx=>by
   rcases List.mem_append.1 hx with hx|hx
   ·rw[←hSS]at hx;rw[List.eq_of_mem_replicate hx];rfl
   ·exact (rowOk_atts.all x hx).1
  have hS2:as.length+1≤fs.length+S1.length:=by rw[←hSS,List.length_replicate];omega
  have hS3:fs.length+(S1++Z.map AttS.v).length≥c:=by rw[List.length_append,List.length_map];simp at hZl;omega
  generalize S1++Z.map AttS.v=SS at hS1 hS3⊢
  have g5:=look_upd_same (z:=V.agg (fs.map AttS.v++SS)) g3
  have g52:Abs.look (Abs.upd G2 i3 (.agg (fs.map AttS.v++SS))) i2=some (.sle 101 ((a::as).map AttS.v)):=by
   rw[look_upd_ne (by rintro rfl;rw[g2]at hi3;cases hi3)];exact he2 _ _ g2
  have he5:Ext G (Abs.upd G2 i3 (.agg (fs.map AttS.v++SS))):=Ext.upd (he.trans he2) (he.none hi3)
  generalize Abs.upd G2 i3 (.agg (fs.map AttS.v++SS))=G5 at g5 g52 he5⊢
  refine⟨fun hlt=>bad _ _ he5 (by rw[hmk,if_pos hlt]),fun hlt=> ?_⟩
  rw[hmk,if_neg (by omega)]at h
  have hqn:=quo_nn n
  obtain⟨q,hqq⟩:∃q:Nat,quo n=(q:Int):=⟨(quo n).toNat,by omega⟩
  rw[hqq]at hlt h hqn hq⊢
  rw[Int.toNat_natCast]at h
  obtain⟨a1,a2,a3,a4,a5,a6,a7,a8⟩:=a
  simp (maxSteps:=1000000) (implicitDefEqProofs:=false) only[g52,g5,AttS.v,go_sem,↓reduceIte]
  refine⟨by omega,⟨by omega,by omega⟩,q+1,?_⟩
  refine loop51 (G:=G5) (fs:=fs) (LL:=fs.map AttS.v++SS) (a:=(bareA ⟨a1,a2,a3,a4,a5,a6,a7,a8⟩).v) g5 (by omega) (by rw[List.length_append,List.length_map];omega) (fun k x hx=> ?_) (by omega) ?_ rfl (fun ts L G' x hr h0 h1=> ?_) q 0 _ _ _ (by omega) (Row.nil (Ext.refl G5)) rfl rfl
  ·rw[List.getElem?_append_left (by rw[List.length_map];exact (List.getElem?_eq_some_iff.1 hx).1),List.getElem?_map,hx];rfl
  ·intro x hx
   rcases List.mem_append.1 hx with hx|hx
   ·exact (rowOk_atts.all x hx).1
   ·exact hS1 x hx
  ·have hr2:=hr.base he5
   have l0:L[0]? =some ⟨false,.agg [AttS.zero.v,.nils]⟩:=h0
   obtain⟨x1,x2⟩:=hr.one
   unfold V.isAgg at x2
   have xn:x.same .nils=true:=(Row.nil (z:=(.agg [.int .i64 0,.arr .u8 32 [0,0,0,0,0,0,0,0,0,0,0,0,0,0,0,0,0,0,0,0,0,0,0,0,0,0,0,0,0,0,0,0]])) (sz:=33) (Ext.refl G5)).like hr
   simp (maxSteps:=1000000) (implicitDefEqProofs:=false) only[h1,l0,get_set l0,bareA,AttS.v,AttS.zero,x1,x2,xn,zero32,go_sem,↓reduceIte]
   rw[show ((q:Int)-0).toNat=q by omega]at hr2
   refine⟨_,_,low_cert hr2,?_⟩
   have h':=h
   unfold CertS.v at h'
   simp only[List.map_map]at h'
   exact h'
end Go.Proofs.YtegamlopcdjiaaaDoor.Sha
namespace Go.Proofs.YtegamlopcdjiaaaDoor.Sha
open Go Go.Abs Go.Abs.Sha Go.Abs.Srt
set_option linter.unusedSimpArgs false
set_option linter.unusedVariables false
set_option maxRecDepth 100000
attribute [local irreducible] W Wops WopsD WL Wop WopD
variable {E:Env} {C:Abs.Spec} {l:List (Nat×Spec1)} {G:List (Nat×V)} {Q:R→List (Nat×V)→Prop}
set_option maxHeartbeats 1000000
end Go.Proofs.YtegamlopcdjiaaaDoor.Sha
