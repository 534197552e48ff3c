/- Laws over plain values, and what functions of the program hand back; no conditions. -/
import Derived.Test.YtegamlopcdjiaaaG11
namespace Go.Proofs.Ytegamlopcdjiaaa.Sha
open Go Go.Abs Go.Abs.Sha Go.Abs.Srt
set_option linter.unusedSimpArgs false
set_option linter.unusedVariables false
set_option maxRecDepth 100000
def lp93_0:PC:=
 (PC.reg [nn (.t 14) (.bin .lss (.v 13) (.v 12))]).seq ((PC.cond (.t 14) PC.skip (PC.exit 0)).seq ((PC.block 1 ((PC.reg [nn (.t 15) (.mv true (.v 13)),
  ma 5 15]).seq ((PC.regD 0 [mm 16 0,mm 17 5,nn (.t 18) (.iadrS 7 (.t 16) (.t 17)),nn (.t 19) (.load 7 true (.t 18)),mm 20 1,mm 21 5,nn (.t 22)
  (.iadrS 7 (.t 20) (.t 21)),nn (.t 23) (.load 7 true (.t 22)),nn (.t 24) (.eqa true (.agg (.cons 0 1 false .int (.cons 1 1 false .int (.cons 2 1
  false .int (.cons 3 1 false .int (.cons 4 1 false .int (.cons 5 1 false .str (.cons 6 1 false .str .nil)))))))) (.t 19) (.t 23))] []).seq (PC.cond
  (.t 24) ((PC.reg [nn (.v 4) (.mv true (.c (.v (.bool false))))]).seq PC.ret) PC.skip)))).seq (PC.reg [nn (.t 25) (.bin .add (.v 13) (.c (.v (.int
  .i64 1)))),nn (.v 13) (.mv false (.t 25))])))
def pf93:PF:=
 PF.mk 2 14 26 ((PC.reg [nn (.v 4) (.mv true (.c (.v (.bool false))))]).seq (((PC.reg [nn (.v 6) (.mv false (.v 0)),nn (.v 7) (.len (.v 6)),nn (.v 8)
  (.mv false (.v 1)),nn (.v 9) (.len (.v 8)),nn (.v 10) (.bin .neq (.v 7) (.v 9))]).seq (PC.cond (.v 10) ((PC.reg [nn (.v 4) (.mv true (.c (.v (.bool
  false))))]).seq PC.ret) PC.skip)).seq (((PC.reg [nn (.v 11) (.mv false (.v 0)),nn (.v 12) (.len (.v 11)),nn (.v 13) (.mv false (.c (.v (.int .i64
  0))))]).seq (PC.block 0 (PC.loop [0,1,12,13] lp93_0))).seq ((PC.reg [nn (.v 4) (.mv true (.c (.v (.bool true))))]).seq PC.ret)))) [(.v 4,none)]
def pf43:PF:=
 PF.mk 2 5 38 ((PC.reg [nn (.v 2) (.box (.v 0)),nn (.v 3) (.box (.v 1)),nn (.v 4) (.mv true (.c (.v (.bool false))))]).seq ((PC.reg [nn (.t 5) (.fadr
  0 0 (.v 2)),nn (.t 6) (.load 32 true (.t 5)),nn (.t 7) (.fadr 0 0 (.v 3)),nn (.t 8) (.load 32 true (.t 7)),nn (.t 9) (.eqa false (.arr 32) (.t 6)
  (.t 8)),nn (.t 10) (.mv false (.t 9)),⟨.t 11,.fadr 1 32 (.v 2),some (.t 10,true)⟩,⟨.t 12,.load 1 false (.t 11),some (.t 10,true)⟩,⟨.t 13,
  .fadr 1 32 (.v 3),some (.t 10,true)⟩,⟨.t 14,.load 1 false (.t 13),some (.t 10,true)⟩,⟨.t 15,.bin .eql (.t 12) (.t 14),some (.t 10,true)⟩,
  nn (.t 16) (.pick (.t 10) (.t 15) (.c (.v (.bool false)))),nn (.t 17) (.mv false (.t 16)),⟨.t 18,.fadr 2 33 (.v 2),some (.t 17,true)⟩,⟨.t 19,
  .load 1 false (.t 18),some (.t 17,true)⟩,⟨.t 20,.fadr 2 33 (.v 3),some (.t 17,true)⟩,⟨.t 21,.load 1 false (.t 20),some (.t 17,true)⟩,⟨.t
  22,.bin .eql (.t 19) (.t 21),some (.t 17,true)⟩,nn (.t 23) (.pick (.t 17) (.t 22) (.c (.v (.bool false)))),nn (.t 24) (.mv false (.t 23)),⟨.t
  25,.fadr 3 34 (.v 2),some (.t 24,true)⟩,⟨.t 26,.load 1 false (.t 25),some (.t 24,true)⟩,⟨.t 27,.fadr 3 34 (.v 3),some (.t 24,true)⟩,⟨.t
  28,.load 1 false (.t 27),some (.t 24,true)⟩,⟨.t 29,.bin .eql (.t 26) (.t 28),some (.t 24,true)⟩,nn (.t 30) (.pick (.t 24) (.t 29) (.c (.v
  (.bool false)))),nn (.t 31) (.mv false (.t 30)),⟨.t 32,.fadr 4 35 (.v 2),some (.t 31,true)⟩,⟨.t 33,.load 1 false (.t 32),some (.t 31,true)⟩,
  ⟨.t 34,.fadr 4 35 (.v 3),some (.t 31,true)⟩,⟨.t 35,.load 1 false (.t 34),some (.t 31,true)⟩,⟨.t 36,.call 93 [.t 33,.t 35],some (.t 31,
  true)⟩,nn (.t 37) (.pick (.t 31) (.t 36) (.c (.v (.bool false)))),ma 4 37]).seq PC.ret)) [(.v 4,none)]
def lp46_0:PC:=
 ((PC.reg [mm 41 5,nn (.t 42) (.fadr 4 35 (.v 2)),nn (.t 43) (.load 1 false (.t 42)),nn (.t 44) (.len (.t 43)),nn (.t 45) (.bin .lss (.t 41) (.t
  44))]).seq (PC.cond (.t 45) PC.skip (PC.exit 0))).seq ((PC.block 1 ((PC.regD 0 [nn (.t 48) (.fadr 4 35 (.v 2)),nn (.t 49) (.load 1 false (.t 48)),
  mm 50 5,nn (.t 51) (.iadrS 7 (.t 49) (.t 50)),nn (.t 52) (.load 7 true (.t 51)),nn (.t 53) (.fadr 4 35 (.v 3)),nn (.t 54) (.load 1 false (.t
  53)),mm 55 5,nn (.t 56) (.iadrS 7 (.t 54) (.t 55)),nn (.t 57) (.load 7 true (.t 56)),nn (.t 58) (.eqa true (.agg (.cons 0 1 false .int (.cons 1 1
  false .int (.cons 2 1 false .int (.cons 3 1 false .int (.cons 4 1 false .int (.cons 5 1 false .str (.cons 6 1 false .str .nil)))))))) (.t 52) (.t
  57))] []).seq (PC.cond (.t 58) ((PC.reg [nn (.v 4) (.mv true (.c (.v (.bool false))))]).seq PC.ret) PC.skip))).seq (PC.reg [mm 46 5,nn (.t 47) (.bin
  .add (.t 46) (.c (.v (.int .i64 1)))),ma 5 47]))
def pf46:PF:=
 PF.mk 2 6 59 ((PC.reg [nn (.v 2) (.box (.v 0)),nn (.v 3) (.box (.v 1)),nn (.v 4) (.mv true (.c (.v (.bool false))))]).seq (((PC.reg [nn (.t 6) (.fadr
  0 0 (.v 2)),nn (.t 7) (.load 32 true (.t 6)),nn (.t 8) (.fadr 0 0 (.v 3)),nn (.t 9) (.load 32 true (.t 8)),nn (.t 10) (.eqa true (.arr 32) (.t 7)
  (.t 9)),nn (.t 11) (.mv false (.t 10)),⟨.t 12,.fadr 1 32 (.v 2),some (.t 11,false)⟩,⟨.t 13,.load 1 false (.t 12),some (.t 11,false)⟩,⟨.t
  14,.fadr 1 32 (.v 3),some (.t 11,false)⟩,⟨.t 15,.load 1 false (.t 14),some (.t 11,false)⟩,⟨.t 16,.bin .neq (.t 13) (.t 15),some (.t 11,
  false)⟩,nn (.t 17) (.pick (.t 11) (.c (.v (.bool true))) (.t 16)),nn (.t 18) (.mv false (.t 17)),⟨.t 19,.fadr 2 33 (.v 2),some (.t 18,false)⟩,
  ⟨.t 20,.load 1 false (.t 19),some (.t 18,false)⟩,⟨.t 21,.fadr 2 33 (.v 3),some (.t 18,false)⟩,⟨.t 22,.load 1 false (.t 21),some (.t 18,
  false)⟩,⟨.t 23,.bin .neq (.t 20) (.t 22),some (.t 18,false)⟩,nn (.t 24) (.pick (.t 18) (.c (.v (.bool true))) (.t 23)),nn (.t 25) (.mv false
  (.t 24)),⟨.t 26,.fadr 3 34 (.v 2),some (.t 25,false)⟩,⟨.t 27,.load 1 false (.t 26),some (.t 25,false)⟩,⟨.t 28,.fadr 3 34 (.v 3),some (.t
  25,false)⟩,⟨.t 29,.load 1 false (.t 28),some (.t 25,false)⟩,⟨.t 30,.bin .neq (.t 27) (.t 29),some (.t 25,false)⟩,nn (.t 31) (.pick (.t 25)
  (.c (.v (.bool true))) (.t 30)),nn (.t 32) (.mv false (.t 31)),⟨.t 33,.fadr 4 35 (.v 2),some (.t 32,false)⟩,⟨.t 34,.load 1 false (.t 33),some
  (.t 32,false)⟩,⟨.t 35,.len (.t 34),some (.t 32,false)⟩,⟨.t 36,.fadr 4 35 (.v 3),some (.t 32,false)⟩,⟨.t 37,.load 1 false (.t 36),some (.t
  32,false)⟩,⟨.t 38,.len (.t 37),some (.t 32,false)⟩,⟨.t 39,.bin .neq (.t 35) (.t 38),some (.t 32,false)⟩,nn (.t 40) (.pick (.t 32) (.c (.v
  (.bool true))) (.t 39))]).seq (PC.cond (.t 40) ((PC.reg [nn (.v 4) (.mv true (.c (.v (.bool false))))]).seq PC.ret) PC.skip)).seq (((PC.reg [nn (.v
  5) (.mv true (.c (.v (.int .i64 0))))]).seq (PC.block 0 (PC.loop [2,3,5] lp46_0))).seq ((PC.reg [nn (.v 4) (.mv true (.c (.v (.bool true))))]).seq
  PC.ret)))) [(.v 4,none)]
attribute [local irreducible] W Wops WopsD WL Wop WopD
variable {E:Env} {C:Abs.Spec} {l:List (Nat×Spec1)} {G:List (Nat×V)} {Q:R→List (Nat×V)→Prop}
set_option maxHeartbeats 1000000
def PlV (x:V) (l:List TxS):Prop:=x= .sle 7 (l.map TxS.v)∨(x= .nils∧l=[])
def TxsV (G:List (Nat×V)) (x:V) (l:List TxS):Prop:=
 PlV x l∨∃id c LL,x= .sob id 7 0 l.length c∧Abs.look G id=some (.agg LL)∧(∀(i:Nat) t,l[i]? =some t→LL[i]? =some t.v)∧l.length≤LL.length∧∀y∈LL,V.size y=7
theorem getD_tx {l:List TxS} {j:Nat} {p:TxS} {r:List TxS} (h:l.drop j=p::r):(l.map TxS.v).getD j V.nilp=p.v:=by
 have:(l.drop j)[0]? =some p:=by rw[h];rfl
 rw[List.getElem?_drop,Nat.add_zero]at this
 simp[List.getD,this]
def ZEx:Spec1
 |[x,y],G,Q=>∃l1 l2:List TxS,((PlV x l1∧PlV y l2)∨(∃id c,x= .sob id 7 0 l1.length c∧y= .nils∧l2=[]))∧l1.length < 1000000∧l2.length < 1000000∧Q (.v (.bool (decide (l1=l2)))) G
 |_,_,_=>False
theorem ZEx_eq {x y}:ZEx [x,y] G Q=(∃l1 l2:List TxS,((PlV x l1∧PlV y l2)∨(∃id c,x= .sob id 7 0 l1.length c∧y= .nils∧l2=[]))∧l1.length < 1000000∧l2.length < 1000000∧Q (.v (.bool (decide (l1=l2)))) G):=rfl
theorem loop93 {QQ:Ex→St→Prop} {l1 l2:List TxS} (hl:l1.length < 1000000) (h2:l1.length=l2.length)
  (hx:∀ts,l1=l2→QQ (.exit 0) ⟨[some (.v (.sle 7 (l1.map TxS.v))),some (.v (.sle 7 (l2.map TxS.v))),none,none,none,none,none,none,none,none,none,none,some (.v (.int .i64 (l1.length:Nat))),some (.v (.int .i64 (l1.length:Nat)))],ts,[],G⟩) (hr:∀ts v5 (v:Option D),l1≠l2→QQ .ret ⟨[some (.v (.sle 7 (l1.map TxS.v))),some (.v (.sle 7 (l2.map TxS.v))),none,none,some (.v (.bool false)),v5,none,none,none,none,none,none,some (.v (.int .i64 (l1.length:Nat))),v],ts,[],G⟩):
  ∀(e i:Nat),i+e=l1.length→l1.take i=l2.take i→WL (W E C lp93_0) [0,1,12,13] QQ (e+1) ⟨[some (.v (.sle 7 (l1.map TxS.v))),some (.v (.sle 7 (l2.map TxS.v))),none,none,none,none,none,none,none,none,none,none,some (.v (.int .i64 (l1.length:Nat))),some (.v (.int .i64 (i:Nat)))],[],[],G⟩:=by
 intro e
 induction e with
 |zero=>
  intro i hi ht
  obtain rfl:i=l1.length:=by omega
  rw[List.take_of_length_le (Nat.le_refl _),List.take_of_length_le (by omega)]at ht
  refine WL_in lp93_0.eq_1 ?_
  simp -implicitDefEqProofs only[Int.lt_irrefl,go_sem,↓reduceIte]
  exact hx _ ht
 |succ e ih=>
  intro i hi ht
  have c1:(i:Int) < (l1.length:Int):=by omega
  have c2:(i:Int) < (l2.length:Int):=by omega
  have c3:(0:Int)≤i:=by omega
  have w1:IntKind.i64.wrap ((i:Int)+1)=((i+1:Nat):Int):=wc (by omega) (by omega)
  obtain⟨p,r,hp⟩:∃p r,l1.drop i=p::r:=by
   cases hq:l1.drop i with
   |nil=>have:=drop_none hq;omega
   |cons p r=>exact⟨p,r,rfl⟩
  obtain⟨p2,r2,hp2⟩:∃p r,l2.drop i=p::r:=by
   cases hq:l2.drop i with
   |nil=>have:=drop_none hq;omega
   |cons p r=>exact⟨p,r,rfl⟩
  have a1:=at_drop2 hp
  have a2:=at_drop2 hp2
  have ihh:p=p2→_:=fun h=>ih (i+1) (by omega) (by rw[List.take_add_one,List.take_add_one,a1,a2,ht,h])
  have hno:p≠p2→l1≠l2:=fun h h3=>h (by rw[h3,a2]at a1;exact (Option.some.inj a1).symm)
  obtain⟨x1,x2,x3,x4,x5,x6,x7⟩:=p
  obtain⟨y1,y2,y3,y4,y5,y6,y7⟩:=p2
  have g1:(l1.map TxS.v).getD i V.nilp= .agg [.int .i64 x1,.int .i64 x2,.int .i64 x3,.int .i64 x4,.int .i64 x5,.str x6,.str x7]:=getD_tx hp
  have g2:(l2.map TxS.v).getD i V.nilp= .agg [.int .i64 y1,.int .i64 y2,.int .i64 y3,.int .i64 y4,.int .i64 y5,.str y6,.str y7]:=getD_tx hp2
  refine WL_in lp93_0.eq_1 ?_
  simp -implicitDefEqProofs only[c1,c2,c3,w1,g1,g2,Int.toNat_natCast,List.length_map,bs_eq,go_sem,↓reduceIte]
  refine⟨fun h=>hr _ _ _ (hno (fun h2=> ?_)),fun h=>ihh ?_⟩
  ·cases h2;simp at h
  ·obtain⟨rfl,rfl,rfl,rfl,rfl,rfl,rfl⟩:=h;rfl
theorem walk93 {x y:V} {l1 l2:List TxS} (hxy:(PlV x l1∧PlV y l2)∨(∃id c,x= .sob id 7 0 l1.length c∧y= .nils∧l2=[])) (hl:l1.length < 1000000) (hl2:l2.length < 1000000) (h:Q (.v (.bool (decide (l1=l2)))) G):Wf E C pf93 [x,y] G Q:=by
 have hno:¬(l1.length:Int)=(l2.length:Int)→Q (.v (.bool false)) G:=fun hn=>finB h (by rw[decide_eq_false_iff_not];rintro rfl;exact hn rfl)
 have hyes:l1=l2→Q (.v (.bool true)) G:=fun hn=>finB h (by rw[decide_eq_true_iff];exact hn)
 have hnn:l1≠l2→Q (.v (.bool false)) G:=fun hn=>finB h (by rw[decide_eq_false_iff_not];exact hn)
 rcases hxy with⟨rfl|⟨rfl,rfl⟩,rfl|⟨rfl,rfl⟩⟩|⟨id,c,rfl,rfl,rfl⟩
 ·simp -implicitDefEqProofs only[pf93,List.length_map,go_sem,↓reduceIte]
  refine⟨fun hn=>hno hn,fun he=>⟨l1.length+1,?_⟩⟩
  simp -implicitDefEqProofs only[go_sem,↓reduceIte]
  refine loop93 hl (by omega) (fun ts he=> ?_) (fun ts v5 v hn=> ?_) _ 0 (by omega) rfl
  ·simp -implicitDefEqProofs only[go_sem,↓reduceIte]
   exact hyes he
  ·simp -implicitDefEqProofs only[go_sem,↓reduceIte]
   exact hnn hn
 ·simp -implicitDefEqProofs only[pf93,List.length_map,go_sem,↓reduceIte]
  refine⟨fun hn=>hno (by simpa using hn),fun hz=>⟨1,?_⟩⟩
  simp -implicitDefEqProofs only[hz,go_sem,↓reduceIte]
  refine WL_in lp93_0.eq_1 ?_
  simp -implicitDefEqProofs only[hz,Int.lt_irrefl,go_sem,↓reduceIte]
  exact hyes (List.eq_nil_of_length_eq_zero (by omega))
 ·simp -implicitDefEqProofs only[pf93,List.length_map,go_sem,↓reduceIte]
  refine⟨fun hn=>hno (by simpa using hn),fun hz=>⟨1,?_⟩⟩
  simp -implicitDefEqProofs only[hz,go_sem,↓reduceIte]
  refine WL_in lp93_0.eq_1 ?_
  simp -implicitDefEqProofs only[hz,Int.lt_irrefl,go_sem,↓reduceIte]
  exact hyes (List.eq_nil_of_length_eq_zero (by omega)).symm
 ·simp -implicitDefEqProofs only[pf93,List.length_map,go_sem,↓reduceIte]
  refine⟨1,?_⟩
  simp -implicitDefEqProofs only[go_sem,↓reduceIte]
  refine WL_in lp93_0.eq_1 ?_
  simp -implicitDefEqProofs only[Int.lt_irrefl,go_sem,↓reduceIte]
  exact hyes rfl
 ·simp -implicitDefEqProofs only[pf93,List.length_map,go_sem,↓reduceIte]
  refine⟨fun hn=>hno (by simpa using hn),fun hz=>⟨1,?_⟩⟩
  simp -implicitDefEqProofs only[hz,go_sem,↓reduceIte]
  refine WL_in lp93_0.eq_1 ?_
  simp -implicitDefEqProofs only[hz,Int.lt_irrefl,go_sem,↓reduceIte]
  exact hyes (List.eq_nil_of_length_eq_zero (by omega))
def BV (b:BlkS) (x:V):V:= .agg [.arr .u8 32 b.pa,.int .i64 b.vi,.int .i64 b.he,.int .i64 b.who,x]
def Rws (x:V) (l1:List TxS) (y:V) (l2:List TxS):Prop:=(PlV x l1∧PlV y l2)∨(∃id c,x= .sob id 7 0 l1.length c∧y= .nils∧l2=[])
theorem PlV.one {x:V} {l:List TxS} (h:PlV x l):V.size x=1∧V.isAgg x=false:=by
 rcases h with rfl|⟨rfl,_⟩<;>exact⟨rfl,rfl⟩
theorem Rws.one {x y:V} {l1 l2:List TxS} (h:Rws x l1 y l2):(V.size x=1∧V.isAgg x=false)∧(V.size y=1∧V.isAgg y=false):=by
 rcases h with⟨h1,h2⟩|⟨id,c,rfl,rfl,rfl⟩
 ·exact⟨h1.one,h2.one⟩
 ·exact⟨⟨rfl,rfl⟩,rfl,rfl⟩
def ZBs:Spec1
 |[u,v],G,Q=>∃(a b:BlkS) (x y:V),(u=BV a x∧v=BV b y∧Rws x a.txs y b.txs∧a.txs.length < 1000000∧b.txs.length < 1000000)∧Q (.v (.bool (decide (a=b)))) G
 |_,_,_=>False
theorem ZBs_eq {u v}:ZBs [u,v] G Q=(∃(a b:BlkS) (x y:V),(u=BV a x∧v=BV b y∧Rws x a.txs y b.txs∧a.txs.length < 1000000∧b.txs.length < 1000000)∧Q (.v (.bool (decide (a=b)))) G):=rfl
theorem walk43 {a b:BlkS} {x y:V} (hE:Abs.look l 93=some ZEx) (hr:Rws x a.txs y b.txs) (hl:a.txs.length < 1000000) (hl2:b.txs.length < 1000000) (h:Q (.v (.bool (decide (a=b)))) G):Wf E (specOf l) pf43 [BV a x,BV b y] G Q:=by
 obtain⟨⟨x1,x2⟩,y1,y2⟩:=hr.one
 unfold V.isAgg at x2 y2
 obtain⟨a1,a2,a3,a4,a5⟩:=a
 obtain⟨b1,b2,b3,b4,b5⟩:=b
 simp -implicitDefEqProofs only[pf43,BV,x1,x2,y1,y2,hE,ZEx_eq,go_sem,↓reduceIte]
 have no:¬((⟨a1,a2,a3,a4,a5⟩:BlkS)=⟨b1,b2,b3,b4,b5⟩)→Q (.v (.bool false)) G:=fun hn=>finB h (by rw[decide_eq_false_iff_not];exact hn)
 refine⟨fun h1=>⟨fun h2=>⟨fun h3=>⟨fun h4=>⟨a5,b5,hr,hl,hl2,?_⟩,fun h4=>no (fun e=>h4 (by cases e;rfl))⟩,fun h3=>no (fun e=>h3 (by cases e;rfl))⟩,fun h2=>no (fun e=>h2 (by cases e;rfl))⟩,fun h1=>no (fun e=>by cases e;simp at h1)⟩
 have h1:=eq_of_beq h1
 subst h1;subst h2;subst h3;subst h4
 refine finB h ?_
 rw[decide_eq_decide];exact⟨fun e=>by cases e;rfl,fun e=>by rw[e]⟩
theorem loop46 {QQ:Ex→St→Prop} {a b:BlkS} {z:List Bx} (hl:a.txs.length < 1000000) (h2:a.txs.length=b.txs.length) (hz:z=[⟨false,a.v⟩,⟨false,b.v⟩])
  (hx:∀ts,a.txs=b.txs→QQ (.exit 0) ⟨[none,none,some (.lp 0 []),some (.lp 1 []),none,some (.v (.int .i64 (a.txs.length:Nat)))],ts,z,G⟩) (hr:∀ts (v5:Option D),a.txs≠b.txs→QQ .ret ⟨[none,none,some (.lp 0 []),some (.lp 1 []),some (.v (.bool false)),v5],ts,z,G⟩):
  ∀(e i:Nat),i+e=a.txs.length→a.txs.take i=b.txs.take i→WL (W E C lp46_0) [2,3,5] QQ (e+1) ⟨[none,none,some (.lp 0 []),some (.lp 1 []),none,some (.v (.int .i64 (i:Nat)))],[],z,G⟩:=by
 intro e
 induction e with
 |zero=>
  intro i hi ht
  obtain rfl:i=a.txs.length:=by omega
  rw[List.take_of_length_le (Nat.le_refl _),List.take_of_length_le (by omega)]at ht
  subst hz
  refine WL_in lp46_0.eq_1 ?_
  simp -implicitDefEqProofs only[BlkS.v,List.length_map,Int.lt_irrefl,go_sem,↓reduceIte]
  exact hx _ ht
 |succ e ih=>
  intro i hi ht
  have c1:(i:Int) < (a.txs.length:Int):=by omega
  have c2:(i:Int) < (b.txs.length:Int):=by omega
  have c3:(0:Int)≤i:=by omega
  have w1:IntKind.i64.wrap ((i:Int)+1)=((i+1:Nat):Int):=wc (by omega) (by omega)
  obtain⟨p,r,hp⟩:∃p r,a.txs.drop i=p::r:=by
   cases hq:a.txs.drop i with
   |nil=>have:=drop_none hq;omega
   |cons p r=>exact⟨p,r,rfl⟩
  obtain⟨p2,r2,hp2⟩:∃p r,b.txs.drop i=p::r:=by
   cases hq:b.txs.drop i with
   |nil=>have:=drop_none hq;omega
   |cons p r=>exact⟨p,r,rfl⟩
  have a1:=at_drop2 hp
  have a2:=at_drop2 hp2
  have ihh:p=p2→_:=fun h=>ih (i+1) (by omega) (by rw[List.take_add_one,List.take_add_one,a1,a2,ht,h])
  have hno:p≠p2→a.txs≠b.txs:=fun h h3=>h (by rw[h3,a2]at a1;exact (Option.some.inj a1).symm)
  obtain⟨x1,x2,x3,x4,x5,x6,x7⟩:=p
  obtain⟨y1,y2,y3,y4,y5,y6,y7⟩:=p2
  have g1:(a.txs.map TxS.v).getD i V.nilp= .agg [.int .i64 x1,.int .i64 x2,.int .i64 x3,.int .i64 x4,.int .i64 x5,.str x6,.str x7]:=getD_tx hp
  have g2:(b.txs.map TxS.v).getD i V.nilp= .agg [.int .i64 y1,.int .i64 y2,.int .i64 y3,.int .i64 y4,.int .i64 y5,.str y6,.str y7]:=getD_tx hp2
  subst hz
  refine WL_in lp46_0.eq_1 ?_
  simp -implicitDefEqProofs only[BlkS.v,c1,c2,c3,w1,g1,g2,Int.toNat_natCast,List.length_map,bs_eq,go_sem,↓reduceIte]
  refine⟨fun h=>hr _ _ (hno (fun h2=> ?_)),fun h=>ihh ?_⟩
  ·cases h2;simp at h
  ·obtain⟨rfl,rfl,rfl,rfl,rfl,rfl,rfl⟩:=h;rfl
theorem walk46 {a b:BlkS} {x y:V} (hr:Rws x a.txs y b.txs) (hl:a.txs.length < 1000000) (hl2:b.txs.length < 1000000) (h:Q (.v (.bool (decide (a=b)))) G):Wf E C pf46 [BV a x,BV b y] G Q:=by
 obtain⟨⟨x1,x2⟩,y1,y2⟩:=hr.one
 unfold V.isAgg at x2 y2
 have no:a≠b→Q (.v (.bool false)) G:=fun hn=>finB h (by rw[decide_eq_false_iff_not];exact hn)
 have yes:a=b→Q (.v (.bool true)) G:=fun hn=>finB h (by rw[decide_eq_true_iff];exact hn)
 have all:a.pa=b.pa→a.vi=b.vi→a.he=b.he→a.who=b.who→a.txs=b.txs→a=b:=fun h1 h2 h3 h4 h5=>by
  cases a;cases b;dsimp only at h1 h2 h3 h4 h5;subst h1;subst h2;subst h3;subst h4;subst h5;rfl
 have hno:¬(a.txs.length:Int)=(b.txs.length:Int)→a≠b:=fun hn e=>hn (by rw[e])
 rcases hr with⟨rfl|⟨rfl,ea⟩,rfl|⟨rfl,eb⟩⟩|⟨id,c,rfl,rfl,eb⟩
 ·simp -implicitDefEqProofs only[pf46,BV,List.length_map,go_sem,↓reduceIte]
  refine⟨fun h1=>no (fun e=>by rw[e]at h1;simp at h1),fun h1=>⟨fun h2=>no (fun e=>h2 (by rw[e])),fun h2=>⟨fun h3=>no (fun e=>h3 (by rw[e])),fun h3=>⟨fun h4=>no (fun e=>h4 (by rw[e])),fun h4=>⟨fun h5=>no (fun e=>h5 (by rw[e])),fun h5=> ?_⟩⟩⟩⟩⟩
  refine⟨a.txs.length+1,?_⟩
  simp -implicitDefEqProofs only[go_sem,↓reduceIte]
  refine loop46 hl (by omega) rfl (fun ts he=> ?_) (fun ts v5 hn=> ?_) _ 0 (by omega) rfl
  ·simp -implicitDefEqProofs only[go_sem,↓reduceIte]
   exact yes (all (eq_of_beq h1) h2 h3 h4 he)
  ·simp -implicitDefEqProofs only[go_sem,↓reduceIte]
   exact no (fun e=>hn (by rw[e]))
 ·simp -implicitDefEqProofs only[pf46,BV,List.length_map,go_sem,↓reduceIte]
  refine⟨fun h1=>no (fun e=>by rw[e]at h1;simp at h1),fun h1=>⟨fun h2=>no (fun e=>h2 (by rw[e])),fun h2=>⟨fun h3=>no (fun e=>h3 (by rw[e])),fun h3=>⟨fun h4=>no (fun e=>h4 (by rw[e])),fun h4=>⟨fun h5=>no (fun e=>h5 (by rw[e,eb];rfl)),fun h5=> ?_⟩⟩⟩⟩⟩
  refine⟨1,?_⟩
  simp -implicitDefEqProofs only[List.length_map,h5,go_sem,↓reduceIte]
  refine WL_in lp46_0.eq_1 ?_
  simp -implicitDefEqProofs only[List.length_map,h5,Int.lt_irrefl,go_sem,↓reduceIte]
  exact yes (all (eq_of_beq h1) h2 h3 h4 (by rw[eb];exact List.eq_nil_of_length_eq_zero (by omega)))
 ·simp -implicitDefEqProofs only[pf46,BV,List.length_map,go_sem,↓reduceIte]
  refine⟨fun h1=>no (fun e=>by rw[e]at h1;simp at h1),fun h1=>⟨fun h2=>no (fun e=>h2 (by rw[e])),fun h2=>⟨fun h3=>no (fun e=>h3 (by rw[e])),fun h3=>⟨fun h4=>no (fun e=>h4 (by rw[e])),fun h4=>⟨fun h5=>no (fun e=>h5 (by rw[←e,ea];rfl)),fun h5=> ?_⟩⟩⟩⟩⟩
  refine⟨1,?_⟩
  simp -implicitDefEqProofs only[List.length_map,h5,go_sem,↓reduceIte]
  refine WL_in lp46_0.eq_1 ?_
  simp -implicitDefEqProofs only[←h5,Int.lt_irrefl,go_sem,↓reduceIte]
  exact yes (all (eq_of_beq h1) h2 h3 h4 (by rw[ea];exact (List.eq_nil_of_length_eq_zero (by omega)).symm))
 ·simp -implicitDefEqProofs only[pf46,BV,List.length_map,go_sem,↓reduceIte]
  refine⟨fun h1=>no (fun e=>by rw[e]at h1;simp at h1),fun h1=>⟨fun h2=>no (fun e=>h2 (by rw[e])),fun h2=>⟨fun h3=>no (fun e=>h3 (by rw[e])),fun h3=>⟨fun h4=>no (fun e=>h4 (by rw[e])),fun h4=> ?_⟩⟩⟩⟩
  refine⟨1,?_⟩
  simp -implicitDefEqProofs only[go_sem,↓reduceIte]
  refine WL_in lp46_0.eq_1 ?_
  simp -implicitDefEqProofs only[Int.lt_irrefl,go_sem,↓reduceIte]
  exact yes (all (eq_of_beq h1) h2 h3 h4 (by rw[ea,eb]))
 ·simp -implicitDefEqProofs only[pf46,BV,List.length_map,go_sem,↓reduceIte]
  refine⟨fun h1=>no (fun e=>by rw[e]at h1;simp at h1),fun h1=>⟨fun h2=>no (fun e=>h2 (by rw[e])),fun h2=>⟨fun h3=>no (fun e=>h3 (by rw[e])),fun h3=>⟨fun h4=>no (fun e=>h4 (by rw[e])),fun h4=>⟨fun h5=>no (fun e=>h5 (by rw[e,eb];rfl)),fun h5=> ?_⟩⟩⟩⟩⟩
  refine⟨1,?_⟩
  simp -implicitDefEqProofs only[List.length_map,h5,go_sem,↓reduceIte]
  refine WL_in lp46_0.eq_1 ?_
  simp -implicitDefEqProofs only[List.length_map,h5,Int.lt_irrefl,go_sem,↓reduceIte]
  exact yes (all (eq_of_beq h1) h2 h3 h4 (by rw[eb];exact List.eq_nil_of_length_eq_zero (by omega)))
def lp149_0:PC:=
 (PC.reg [nn (.t 9) (.bin .lss (.v 8) (.v 7))]).seq ((PC.cond (.t 9) PC.skip (PC.exit 0)).seq ((PC.block 1 ((PC.reg [nn (.t 10) (.mv true (.v 8)),ma 5
  10]).seq ((PC.reg [mm 11 1,mm 12 0,mm 13 5,nn (.t 14) (.iadrS 7 (.t 12) (.t 13)),nn (.t 15) (.load 7 true (.t 14)),nn (.t 16) (.callV (.t 11)
  [.t 15])]).seq (PC.cond (.t 16) ((PC.reg [nn (.t 17) (.mv true (.v 5)),ma 4 17]).seq PC.ret) PC.skip)))).seq (PC.reg [nn (.t 18) (.bin .add (.v 8)
  (.c (.v (.int .i64 1)))),nn (.v 8) (.mv false (.t 18))])))
def pf149:PF:=
 PF.mk 2 9 19 ((PC.reg [nn (.v 4) (.mv true (.c (.v (.int .i64 0))))]).seq (((PC.reg [nn (.v 6) (.mv false (.v 0)),nn (.v 7) (.len (.v 6)),nn (.v 8)
  (.mv false (.c (.v (.int .i64 0))))]).seq (PC.block 0 (PC.loop [0,1,7,8] lp149_0))).seq ((PC.reg [nn (.v 4) (.mv true (.c (.v (.int .i64
  ((-1))))))]).seq PC.ret))) [(.v 4,none)]
def pf141:PF:=
 PF.mk 2 5 9 ((PC.reg [nn (.v 4) (.mv true (.c (.v (.bool false))))]).seq ((PC.reg [mm 5 0,mm 6 1,nn (.t 7) (.call 149 [.t 5,.t 6]),nn (.t 8) (.bin
  .geq (.t 7) (.c (.v (.int .i64 0)))),ma 4 8]).seq PC.ret)) [(.v 4,none)]
def pf142:PF:=
 PF.mk 1 3 6 ((PC.reg [nn (.v 1) (.box (.v 0)),nn (.v 2) (.mv true (.c (.v (.bool false))))]).seq ((PC.reg [nn (.t 3) (.load 7 true (.v 1)),nn (.t 4)
  (.call 116 [.t 3]),nn (.t 5) (.bin .neq (.t 4) (.c (.v (.int .i64 0)))),ma 2 5]).seq PC.ret)) [(.v 2,none)]
def pf139:PF:=
 PF.mk 0 1 2 ((PC.reg [nn (.v 0) (.alloc (.agg [.arr .u8 32 [0,0,0,0,0,0,0,0,0,0,0,0,0,0,0,0,0,0,0,0,0,0,0,0,0,0,0,0,0,0,
  0,0],.int .i64 0,.int .i64 0,.int .i64 0,.nils]))]).seq ((PC.reg [nn (.t 1) (.build (.agg [.arr .u8 32 [0,0,0,0,0,0,0,0,0,0,0,0,0,
  0,0,0,0,0,0,0,0,0,0,0,0,0,0,0,0,0,0,0],.int .i64 0,.int .i64 0,.int .i64 0,.nils]) []),nn .no (.store 36 (.v 0) (.t 1))]).seq
  PC.ret)) [(.v 0,some (36,true))]
def pf140:PF:=
 PF.mk 3 7 15 ((PC.reg [nn (.v 6) (.mv true (.c (.v (.bool false))))]).seq ((PC.reg [mm 7 0,mm 8 1,nn (.t 9) (.bin .geq (.t 7) (.t 8)),nn (.t 10)
  (.mv false (.t 9)),gm 11 0 10 true,gm 12 2 10 true,⟨.t 13,.bin .leq (.t 11) (.t 12),some (.t 10,true)⟩,nn (.t 14) (.pick (.t 10) (.t 13) (.c
  (.v (.bool false)))),ma 6 14]).seq PC.ret)) [(.v 6,none)]
def idxT:Nat→List TxS→Int
 |_,[]=> -1
 |i,t::l=>if t.may=true then idxT (i+1) l else (i:Int)
theorem idxT_any:∀{l:List TxS} {i:Nat},decide (0≤idxT i l)= !(l.all TxS.may)
 |[],i=>rfl
 |t::l,i=>by
  simp only[idxT,List.all_cons]
  split
  ·rename_i h;rw[h,Bool.true_and,idxT_any]
  ·rename_i h;have h:t.may=false:=by simpa using h
   rw[h];simp
def ShT (ts:List TxS):Prop:=(∀t∈ts,t.key.size < 1000000000∧t.val.size < 1000000000)∧ts.length < 1000000
def ZFb0:Spec1
 |[],G,Q=>Q (.v BlkS.zeroV) G
 |_,_,_=>False
def ZCf:Spec1
 |[y],G,Q=>∃t:TxS,(y=t.v∧t.key.size < 1000000000∧t.val.size < 1000000000)∧Q (.v (.bool (!t.may))) G
 |_,_,_=>False
theorem ZCf_eq {y}:ZCf [y] G Q=(∃t:TxS,(y=t.v∧t.key.size < 1000000000∧t.val.size < 1000000000)∧Q (.v (.bool (!t.may))) G):=rfl
def ZIt:Spec1
 |[x,.fn 142 []],G,Q=>∃ts:List TxS,(TxsV G x ts∧ShT ts)∧Q (.v (.int .i64 (idxT 0 ts))) G
 |_,_,_=>False
theorem ZIt_eq {x}:ZIt [x,.fn 142 []] G Q=(∃ts:List TxS,(TxsV G x ts∧ShT ts)∧Q (.v (.int .i64 (idxT 0 ts))) G):=rfl
def ZOt:Spec1
 |[x,.fn 142 []],G,Q=>∃ts:List TxS,(TxsV G x ts∧ShT ts)∧Q (.v (.bool (!(ts.all TxS.may)))) G
 |_,_,_=>False
theorem ZOt_eq {x}:ZOt [x,.fn 142 []] G Q=(∃ts:List TxS,(TxsV G x ts∧ShT ts)∧Q (.v (.bool (!(ts.all TxS.may)))) G):=rfl
theorem walk142 {t:TxS} (hC:Abs.look l 116=some ZTc) (hk:t.key.size < 1000000000) (hv:t.val.size < 1000000000) (h:Q (.v (.bool (!t.may))) G):Wf E (specOf l) pf142 [t.v] G Q:=by
 obtain⟨a1,a2,a3,a4,a5,a6,a7⟩:=t
 dsimp only at hk hv
 simp -implicitDefEqProofs only[pf142,TxS.v,hC,ZTc_eq,go_sem,↓reduceIte]
 refine⟨⟨a1,a2,a3,a4,a5,a6,a7⟩,⟨rfl,hk,hv⟩,?_⟩
 cases hm:TxS.may ⟨a1,a2,a3,a4,a5,a6,a7⟩with
 |true=>rw[hm]at h;exact h
 |false=>rw[hm]at h;exact h
theorem walk141 {x:V} {ts:List TxS} (hI:Abs.look l 149=some ZIt) (hx:TxsV G x ts) (hs:ShT ts) (h:Q (.v (.bool (!(ts.all TxS.may)))) G):Wf E (specOf l) pf141 [x,.fn 142 []] G Q:=by
 simp -implicitDefEqProofs only[pf141,hI,ZIt_eq,go_sem,↓reduceIte]
 refine⟨ts,⟨hx,hs⟩,?_⟩
 rw[idxT_any];exact h
theorem walk140 {n lo hi:Int} (h:Q (.v (.bool (decide (lo≤n∧n≤hi)))) G):Wf E C pf140 [.int .i64 n,.int .i64 lo,.int .i64 hi] G Q:=by
 simp -implicitDefEqProofs only[pf140,go_sem,↓reduceIte]
 refine⟨fun h1=> ?_,fun h1=> ?_⟩
 ·rw[show decide (lo≤n∧n≤hi)=decide (n≤hi)by rw[decide_eq_decide];exact⟨fun h=>h.2,fun h=>⟨h1,h⟩⟩]at h;exact h
 ·rw[show decide (lo≤n∧n≤hi)=false by rw[decide_eq_false_iff_not];omega]at h;exact h
theorem walk139 (h:Q (.v BlkS.zeroV) G):Wf E C pf139 [] G Q:=by
 simp -implicitDefEqProofs only[pf139,go_sem,↓reduceIte]
 exact h
theorem loop149i {QQ:Ex→St→Prop} {ts:List TxS} (hC:Abs.look l 142=some ZCf) (hok:calleeOk E.P 142=true) (hs:ShT ts)
  (hx:∀i t8,idxT 0 ts= -1→QQ (.exit 0) ⟨[some (.v (.sle 7 (ts.map TxS.v))),some (.v (.fn 142 [])),none,none,none,none,none,some (.v (.int .i64 (ts.length:Nat))),some (.v (.int .i64 (i:Nat)))],t8,[],G⟩) (hr:∀(σ:St) (i:Nat),σ.G=G→St.ev σ (.v 4)=some (.v (.int .i64 (i:Nat)))→idxT 0 ts=(i:Nat)→QQ .ret σ):
  ∀(r:List TxS) (i:Nat),ts.drop i=r→i≤ts.length→idxT 0 ts=idxT i r→WL (W E (specOf l) lp149_0) [0,1,7,8] QQ (r.length+1) ⟨[some (.v (.sle 7 (ts.map TxS.v))),some (.v (.fn 142 [])),none,none,none,none,none,some (.v (.int .i64 (ts.length:Nat))),some (.v (.int .i64 (i:Nat)))],[],[],G⟩:=by
 intro r
 have hl:=hs.2
 induction r with
 |nil=>
  intro i h1 h2 h3
  have:=drop_none h1
  have c1:¬(i:Int) < (ts.length:Int):=by omega
  refine WL_in lp149_0.eq_1 ?_
  simp -implicitDefEqProofs only[c1,go_sem,↓reduceIte]
  exact hx _ _ h3
 |cons p r ih=>
  intro i h1 h2 h3
  obtain⟨hd,hj,hlen⟩:=drop_one h1
  have a1:=at_drop2 h1
  have hsp:=hs.1 p (List.mem_of_getElem? a1)
  have c1:(i:Int) < (ts.length:Int):=by omega
  have c3:(0:Int)≤i:=by omega
  have w1:IntKind.i64.wrap ((i:Int)+1)=((i+1:Nat):Int):=wc (by omega) (by omega)
  obtain⟨x1,x2,x3,x4,x5,x6,x7⟩:=p
  have g:(ts.map TxS.v).getD i V.nilp= .agg [.int .i64 x1,.int .i64 x2,.int .i64 x3,.int .i64 x4,.int .i64 x5,.str x6,.str x7]:=getD_tx h1
  refine WL_in lp149_0.eq_1 ?_
  simp -implicitDefEqProofs only[c1,c3,g,w1,hC,ZCf_eq,hok,Int.toNat_natCast,List.length_map,go_sem,↓reduceIte]
  refine⟨⟨x1,x2,x3,x4,x5,x6,x7⟩,⟨rfl,hsp.1,hsp.2⟩,fun hm=> ?_,fun hm=> ?_⟩
  ·refine hr _ i rfl rfl ?_
   rw[h3];simp only[idxT];rw[if_neg (by rw[hm];exact Bool.false_ne_true)]
  ·refine ih (i+1) hd (by omega) ?_
   rw[h3];simp only[idxT];rw[if_pos hm]
theorem walk149i {ts:List TxS} (hC:Abs.look l 142=some ZCf) (hok:calleeOk E.P 142=true) (hs:ShT ts) (h:Q (.v (.int .i64 (idxT 0 ts))) G):Wf E (specOf l) pf149 [.sle 7 (ts.map TxS.v),.fn 142 []] G Q:=by
 simp -implicitDefEqProofs only[pf149,List.length_map,go_sem,↓reduceIte]
 refine⟨ts.length+1,?_⟩
 simp -implicitDefEqProofs only[go_sem,↓reduceIte]
 refine loop149i hC hok hs (fun i t8 hi=> ?_) (fun σ i hG2 hv hi=> ?_) ts 0 rfl (by omega) rfl
 ·rw[hi]at h
  simp -implicitDefEqProofs only[go_sem,↓reduceIte]
  exact h
 ·rw[hi]at h
  obtain⟨vs,ts2,L2,G2⟩:=σ
  dsimp only at hG2;subst hG2
  simp -implicitDefEqProofs only[hv,go_sem,↓reduceIte]
  exact h
theorem loop149s {QQ:Ex→St→Prop} {ts:List TxS} {id c:Nat} {LL:List V} (hG:Abs.look G id=some (.agg LL)) (hLL:∀(i:Nat) t,ts[i]? =some t→LL[i]? =some t.v) (hfl:ts.length≤LL.length) (hsz:∀y∈LL,V.size y=7) (hC:Abs.look l 142=some ZCf) (hok:calleeOk E.P 142=true) (hs:ShT ts)
  (hx:∀i t8,idxT 0 ts= -1→QQ (.exit 0) ⟨[some (.v (.sob id 7 0 ts.length c)),some (.v (.fn 142 [])),none,none,none,none,none,some (.v (.int .i64 (ts.length:Nat))),some (.v (.int .i64 (i:Nat)))],t8,[],G⟩) (hr:∀(σ:St) (i:Nat),σ.G=G→St.ev σ (.v 4)=some (.v (.int .i64 (i:Nat)))→idxT 0 ts=(i:Nat)→QQ .ret σ):
  ∀(r:List TxS) (i:Nat),ts.drop i=r→i≤ts.length→idxT 0 ts=idxT i r→WL (W E (specOf l) lp149_0) [0,1,7,8] QQ (r.length+1) ⟨[some (.v (.sob id 7 0 ts.length c)),some (.v (.fn 142 [])),none,none,none,none,none,some (.v (.int .i64 (ts.length:Nat))),some (.v (.int .i64 (i:Nat)))],[],[],G⟩:=by
 intro r
 have hl:=hs.2
 induction r with
 |nil=>
  intro i h1 h2 h3
  have:=drop_none h1
  have c1:¬(i:Int) < (ts.length:Int):=by omega
  refine WL_in lp149_0.eq_1 ?_
  simp -implicitDefEqProofs only[c1,go_sem,↓reduceIte]
  exact hx _ _ h3
 |cons p r ih=>
  intro i h1 h2 h3
  obtain⟨hd,hj,hlen⟩:=drop_one h1
  have a1:=at_drop2 h1
  have hsp:=hs.1 p (List.mem_of_getElem? a1)
  have c1:(i:Int) < (ts.length:Int):=by omega
  have c3:(0:Int)≤i:=by omega
  have w1:IntKind.i64.wrap ((i:Int)+1)=((i+1:Nat):Int):=wc (by omega) (by omega)
  obtain⟨x1,x2,x3,x4,x5,x6,x7⟩:=p
  have g:LL[i]? =some (V.agg [.int .i64 x1,.int .i64 x2,.int .i64 x3,.int .i64 x4,.int .i64 x5,.str x6,.str x7]):=hLL i _ a1
  refine WL_in lp149_0.eq_1 ?_
  simp -implicitDefEqProofs only[c1,c3,hG,g,w1,hC,ZCf_eq,hok,Int.toNat_natCast,List.length_map,go_sem,↓reduceIte]
  refine And.intro ⟨by omega,hsz⟩ ⟨⟨x1,x2,x3,x4,x5,x6,x7⟩,⟨rfl,hsp.1,hsp.2⟩,fun hm=> ?_,fun hm=> ?_⟩
  ·refine hr _ i rfl rfl ?_
   rw[h3];simp only[idxT];rw[if_neg (by rw[hm];exact Bool.false_ne_true)]
  ·refine ih (i+1) hd (by omega) ?_
   rw[h3];simp only[idxT];rw[if_pos hm]
theorem walk149s {ts:List TxS} {id c:Nat} {LL:List V} (hG:Abs.look G id=some (.agg LL)) (hLL:∀(i:Nat) t,ts[i]? =some t→LL[i]? =some t.v) (hfl:ts.length≤LL.length) (hsz:∀y∈LL,V.size y=7) (hC:Abs.look l 142=some ZCf) (hok:calleeOk E.P 142=true) (hs:ShT ts) (h:Q (.v (.int .i64 (idxT 0 ts))) G):Wf E (specOf l) pf149 [.sob id 7 0 ts.length c,.fn 142 []] G Q:=by
 simp -implicitDefEqProofs only[pf149,List.length_map,go_sem,↓reduceIte]
 refine⟨ts.length+1,?_⟩
 simp -implicitDefEqProofs only[go_sem,↓reduceIte]
 refine loop149s hG hLL hfl hsz hC hok hs (fun i t8 hi=> ?_) (fun σ i hG2 hv hi=> ?_) ts 0 rfl (by omega) rfl
 ·rw[hi]at h
  simp -implicitDefEqProofs only[go_sem,↓reduceIte]
  exact h
 ·rw[hi]at h
  obtain⟨vs,ts2,L2,G2⟩:=σ
  dsimp only at hG2;subst hG2
  simp -implicitDefEqProofs only[hv,go_sem,↓reduceIte]
  exact h
theorem walk149n (h:Q (.v (.int .i64 (-1))) G):Wf E C pf149 [.nils,.fn 142 []] G Q:=by
 simp -implicitDefEqProofs only[pf149,go_sem,↓reduceIte]
 refine⟨1,?_⟩
 simp -implicitDefEqProofs only[go_sem,↓reduceIte]
 refine WL_in lp149_0.eq_1 ?_
 simp -implicitDefEqProofs only[Int.lt_irrefl,go_sem,↓reduceIte]
 exact h
theorem walk149 {x:V} {ts:List TxS} (hC:Abs.look l 142=some ZCf) (hok:calleeOk E.P 142=true) (hx:TxsV G x ts) (hs:ShT ts) (h:Q (.v (.int .i64 (idxT 0 ts))) G):Wf E (specOf l) pf149 [x,.fn 142 []] G Q:=by
 rcases hx with (rfl|⟨rfl,rfl⟩)|⟨id,c,LL,rfl,hG,hLL,hfl,hsz⟩
 ·exact walk149i hC hok hs h
 ·exact walk149n h
 ·exact walk149s hG hLL hfl hsz hC hok hs h
def pf119:PF:=
 PF.mk 1 3 31 ((PC.reg [nn (.v 1) (.box (.v 0)),nn (.v 2) (.mv true (.c (.v (.int .i64 0))))]).seq (((PC.regD 0 [nn (.t 3) (.load 36 true (.v 1)),nn
  (.t 4) (.call 139 []),nn (.t 5) (.call 43 [.t 3,.t 4])] []).seq (PC.cond (.t 5) ((PC.reg [nn (.v 2) (.mv true (.c (.v (.int .i64 0))))]).seq
  PC.ret) PC.skip)).seq (((PC.reg [nn (.t 6) (.fadr 1 32 (.v 1)),nn (.t 7) (.load 1 false (.t 6)),nn (.t 8) (.call 140 [.t 7,.c (.v (.int .i64 1)),
  .c (.v (.int .i64 1099511627776))]),nn (.t 9) (.un .not (.t 8)),nn (.t 10) (.mv false (.t 9)),⟨.t 11,.fadr 2 33 (.v 1),some (.t 10,false)⟩,⟨.t
  12,.load 1 false (.t 11),some (.t 10,false)⟩,⟨.t 13,.call 140 [.t 12,.c (.v (.int .i64 1)),.c (.v (.int .i64 1099511627776))],some (.t 10,
  false)⟩,⟨.t 14,.un .not (.t 13),some (.t 10,false)⟩,nn (.t 15) (.pick (.t 10) (.c (.v (.bool true))) (.t 14)),nn (.t 16) (.mv false (.t 15)),
  ⟨.t 17,.fadr 3 34 (.v 1),some (.t 16,false)⟩,⟨.t 18,.load 1 false (.t 17),some (.t 16,false)⟩,⟨.t 19,.call 140 [.t 18,.c (.v (.int .i64
  1)),.c (.v (.int .i64 21))],some (.t 16,false)⟩,⟨.t 20,.un .not (.t 19),some (.t 16,false)⟩,nn (.t 21) (.pick (.t 16) (.c (.v (.bool true)))
  (.t 20)),nn (.t 22) (.mv false (.t 21)),⟨.t 23,.fadr 4 35 (.v 1),some (.t 22,false)⟩,⟨.t 24,.load 1 false (.t 23),some (.t 22,false)⟩,⟨.t
  25,.len (.t 24),some (.t 22,false)⟩,⟨.t 26,.bin .gtr (.t 25) (.c (.v (.int .i64 8))),some (.t 22,false)⟩,nn (.t 27) (.pick (.t 22) (.c (.v
  (.bool true))) (.t 26))]).seq (PC.cond (.t 27) ((PC.reg [nn (.v 2) (.mv true (.c (.v (.int .i64 1))))]).seq PC.ret) PC.skip)).seq (((PC.reg [nn (.t
  28) (.fadr 4 35 (.v 1)),nn (.t 29) (.load 1 false (.t 28)),nn (.t 30) (.call 141 [.t 29,.c (.fn 142)])]).seq (PC.cond (.t 30) ((PC.reg [nn (.v 2)
  (.mv true (.c (.v (.int .i64 1))))]).seq PC.ret) PC.skip)).seq ((PC.reg [nn (.v 2) (.mv true (.c (.v (.int .i64 0))))]).seq PC.ret))))) [(.v 2,
  none)]
def lp34_0:PC:=
 ((PC.reg [mm 7 3,nn (.t 8) (.fadr 4 35 (.v 1)),nn (.t 9) (.load 1 false (.t 8)),nn (.t 10) (.len (.t 9)),nn (.t 11) (.bin .lss (.t 7) (.t
  10))]).seq (PC.cond (.t 11) PC.skip (PC.exit 0))).seq ((PC.block 1 ((PC.reg [nn (.t 14) (.fadr 4 35 (.v 1)),nn (.t 15) (.load 1 false (.t 14)),mm
  16 3,nn (.t 17) (.iadrS 7 (.t 15) (.t 16)),nn (.t 18) (.load 7 true (.t 17)),nn (.t 19) (.call 37 [.t 18]),nn (.t 20) (.un .not (.t 19))]).seq
  (PC.cond (.t 20) ((PC.reg [nn (.v 2) (.mv true (.c (.v (.bool false))))]).seq PC.ret) PC.skip))).seq (PC.reg [mm 12 3,nn (.t 13) (.bin .add (.t 12)
  (.c (.v (.int .i64 1)))),ma 3 13]))
def pf34:PF:=
 PF.mk 1 4 55 ((PC.reg [nn (.v 1) (.box (.v 0)),nn (.v 2) (.mv true (.c (.v (.bool false))))]).seq (((PC.reg [nn (.t 4) (.load 36 true (.v 1)),nn (.t
  5) (.build (.agg [.arr .u8 32 zz2,.int .i64 0,.int
  .i64 0,.int .i64 0,.nils]) []),nn (.t 6) (.call 46 [.t 4,.t 5])]).seq (PC.cond (.t 6) ((PC.reg [nn (.v 2) (.mv true (.c (.v (.bool true))))]).seq
  PC.ret) PC.skip)).seq (((PC.reg [nn (.v 3) (.mv true (.c (.v (.int .i64 0))))]).seq (PC.block 0 (PC.loop [1,3] lp34_0))).seq ((PC.reg [nn (.t 21)
  (.fadr 1 32 (.v 1)),nn (.t 22) (.load 1 false (.t 21)),nn (.t 23) (.bin .geq (.t 22) (.c (.v (.int .i64 1)))),nn (.t 24) (.mv false (.t 23)),⟨.t
  25,.fadr 1 32 (.v 1),some (.t 24,true)⟩,⟨.t 26,.load 1 false (.t 25),some (.t 24,true)⟩,⟨.t 27,.bin .leq (.t 26) (.c (.v (.int .i64
  1099511627776))),some (.t 24,true)⟩,nn (.t 28) (.pick (.t 24) (.t 27) (.c (.v (.bool false)))),nn (.t 29) (.mv false (.t 28)),⟨.t 30,.fadr 2 33
  (.v 1),some (.t 29,true)⟩,⟨.t 31,.load 1 false (.t 30),some (.t 29,true)⟩,⟨.t 32,.bin .geq (.t 31) (.c (.v (.int .i64 1))),some (.t 29,
  true)⟩,nn (.t 33) (.pick (.t 29) (.t 32) (.c (.v (.bool false)))),nn (.t 34) (.mv false (.t 33)),⟨.t 35,.fadr 2 33 (.v 1),some (.t 34,true)⟩,
  ⟨.t 36,.load 1 false (.t 35),some (.t 34,true)⟩,⟨.t 37,.bin .leq (.t 36) (.c (.v (.int .i64 1099511627776))),some (.t 34,true)⟩,nn (.t 38)
  (.pick (.t 34) (.t 37) (.c (.v (.bool false)))),nn (.t 39) (.mv false (.t 38)),⟨.t 40,.fadr 3 34 (.v 1),some (.t 39,true)⟩,⟨.t 41,.load 1
  false (.t 40),some (.t 39,true)⟩,⟨.t 42,.bin .geq (.t 41) (.c (.v (.int .i64 1))),some (.t 39,true)⟩,nn (.t 43) (.pick (.t 39) (.t 42) (.c (.v
  (.bool false)))),nn (.t 44) (.mv false (.t 43)),⟨.t 45,.fadr 3 34 (.v 1),some (.t 44,true)⟩,⟨.t 46,.load 1 false (.t 45),some (.t 44,true)⟩,
  ⟨.t 47,.bin .leq (.t 46) (.c (.v (.int .i64 21))),some (.t 44,true)⟩,nn (.t 48) (.pick (.t 44) (.t 47) (.c (.v (.bool false)))),nn (.t 49) (.mv
  false (.t 48)),⟨.t 50,.fadr 4 35 (.v 1),some (.t 49,true)⟩,⟨.t 51,.load 1 false (.t 50),some (.t 49,true)⟩,⟨.t 52,.len (.t 51),some (.t
  49,true)⟩,⟨.t 53,.bin .leq (.t 52) (.c (.v (.int .i64 8))),some (.t 49,true)⟩,nn (.t 54) (.pick (.t 49) (.t 53) (.c (.v (.bool false)))),ma 2
  54]).seq PC.ret)))) [(.v 2,none)]
theorem TxsV.rws {G:List (Nat×V)} {x:V} {l:List TxS} (h:TxsV G x l):Rws x l .nils []:=by
 rcases h with h|⟨id,c,LL,rfl,_⟩
 ·exact .inl ⟨h,.inr ⟨rfl,rfl⟩⟩
 ·exact .inr ⟨id,c,rfl,rfl,rfl⟩
def ZKc:Spec1
 |[u],G,Q=>∃(b:BlkS) (x:V),(u=BV b x∧TxsV G x b.txs∧ShT b.txs)∧Q (.v (.int .i64 (if b.may=true then 0 else 1))) G
 |_,_,_=>False
theorem ZKc_eq {u}:ZKc [u] G Q=(∃(b:BlkS) (x:V),(u=BV b x∧TxsV G x b.txs∧ShT b.txs)∧Q (.v (.int .i64 (if b.may=true then 0 else 1))) G):=rfl
def ZKm:Spec1
 |[u],G,Q=>∃(b:BlkS) (x:V),(u=BV b x∧TxsV G x b.txs∧ShT b.txs)∧Q (.v (.bool b.may)) G
 |_,_,_=>False
theorem ZKm_eq {u}:ZKm [u] G Q=(∃(b:BlkS) (x:V),(u=BV b x∧TxsV G x b.txs∧ShT b.txs)∧Q (.v (.bool b.may)) G):=rfl
theorem all_may {l:List TxS}:l.all TxS.may=true↔∀t∈l,t.May:=by
 rw[List.all_eq_true];exact⟨fun h t ht=>of_decide_eq_true (h t ht),fun h t ht=>decide_eq_true (h t ht)⟩
theorem walk119 {b:BlkS} {x:V} (hF:Abs.look l 139=some ZFb0) (hS:Abs.look l 43=some ZBs) (hW:Abs.look l 140=some ZWt) (hO:Abs.look l 141=some ZOt)
  (hx:TxsV G x b.txs) (hs:ShT b.txs) (h:Q (.v (.int .i64 (if b.may=true then 0 else 1))) G):Wf E (specOf l) pf119 [BV b x] G Q:=by
 have y:b.May→Q (.v (.int .i64 0)) G:=fun hm=>by rw[if_pos (show b.may=true from decide_eq_true hm)]at h;exact h
 have n:¬b.May→Q (.v (.int .i64 1)) G:=fun hm=>by rw[if_neg (by rw[show b.may=false from decide_eq_false hm];exact Bool.false_ne_true)]at h;exact h
 unfold BlkS.May BlkS.Full at y n
 have hw:=hx.rws
 have hx0:=hx
 have hF0:∀{G:List (Nat×V)} {Q:R→List (Nat×V)→Prop},ZFb0 [] G Q=Q (.v BlkS.zeroV) G:=rfl
 rcases hx with (rfl|⟨rfl,e0⟩)|⟨id,c,LL,rfl,hG,hLL,hfl,hsz⟩
 ·simp -implicitDefEqProofs only[pf119,BV,hF,hF0,hS,ZBs_eq,hW,ZWt_eq,hO,ZOt_eq,List.length_map,go_sem,↓reduceIte]
  refine⟨b,BlkS.zero,_,.nils,⟨rfl,rfl,hw,hs.2,by decide⟩,fun hz=>y (.inl hz),fun hz=>⟨fun h1=>n (fun hh=>hh.elim hz (fun hf=>h1 hf.2.1)),fun h1=>⟨fun h2=>n (fun hh=>hh.elim hz (fun hf=>h2 hf.2.2.1)),fun h2=>⟨fun h3=>n (fun hh=>hh.elim hz (fun hf=>h3 hf.2.2.2.1)),fun h3=> ?_⟩⟩⟩⟩
  refine⟨fun h4=>n (fun hh=>hh.elim hz (fun hf=>by have:=hf.2.2.2.2;omega)),fun h4=> ?_⟩
  refine⟨b.txs,⟨hx0,hs⟩,fun h5=>n (fun hh=>hh.elim hz (fun hf=>by rw[all_may.2 hf.1]at h5;cases h5)),fun h5=>y (.inr ⟨all_may.1 h5,h1,h2,h3,by omega⟩)⟩
 ·simp -implicitDefEqProofs only[pf119,BV,hF,hF0,hS,ZBs_eq,hW,ZWt_eq,hO,ZOt_eq,List.length_map,go_sem,↓reduceIte]
  refine⟨b,BlkS.zero,_,.nils,⟨rfl,rfl,hw,hs.2,by decide⟩,fun hz=>y (.inl hz),fun hz=>⟨fun h1=>n (fun hh=>hh.elim hz (fun hf=>h1 hf.2.1)),fun h1=>⟨fun h2=>n (fun hh=>hh.elim hz (fun hf=>h2 hf.2.2.1)),fun h2=>⟨fun h3=>n (fun hh=>hh.elim hz (fun hf=>h3 hf.2.2.2.1)),fun h3=> ?_⟩⟩⟩⟩
  refine⟨b.txs,⟨hx0,hs⟩,fun h5=>n (fun hh=>hh.elim hz (fun hf=>by rw[all_may.2 hf.1]at h5;cases h5)),fun h5=>y (.inr ⟨all_may.1 h5,h1,h2,h3,by rw[e0];decide⟩)⟩
 ·simp -implicitDefEqProofs only[pf119,BV,hF,hF0,hS,ZBs_eq,hW,ZWt_eq,hO,ZOt_eq,List.length_map,go_sem,↓reduceIte]
  refine⟨b,BlkS.zero,_,.nils,⟨rfl,rfl,hw,hs.2,by decide⟩,fun hz=>y (.inl hz),fun hz=>⟨fun h1=>n (fun hh=>hh.elim hz (fun hf=>h1 hf.2.1)),fun h1=>⟨fun h2=>n (fun hh=>hh.elim hz (fun hf=>h2 hf.2.2.1)),fun h2=>⟨fun h3=>n (fun hh=>hh.elim hz (fun hf=>h3 hf.2.2.2.1)),fun h3=> ?_⟩⟩⟩⟩
  refine⟨fun h4=>n (fun hh=>hh.elim hz (fun hf=>by have:=hf.2.2.2.2;omega)),fun h4=> ?_⟩
  refine⟨b.txs,⟨hx0,hs⟩,fun h5=>n (fun hh=>hh.elim hz (fun hf=>by rw[all_may.2 hf.1]at h5;cases h5)),fun h5=>y (.inr ⟨all_may.1 h5,h1,h2,h3,by omega⟩)⟩
theorem loop34i {QQ:Ex→St→Prop} {b:BlkS} {z:List Bx} (hM:Abs.look l 37=some ZTm) (hs:ShT b.txs) (hz:z=[⟨false,BV b (.sle 7 (b.txs.map TxS.v))⟩])
  (hx:∀i ts,(∀t∈b.txs,t.May)→QQ (.exit 0) ⟨[none,some (.lp 0 []),none,some (.v (.int .i64 (i:Nat)))],ts,z,G⟩) (hr:∀ts (v:Option D),¬(∀t∈b.txs,t.May)→QQ .ret ⟨[none,some (.lp 0 []),some (.v (.bool false)),v],ts,z,G⟩):
  ∀(r:List TxS) (i:Nat),b.txs.drop i=r→i≤b.txs.length→(∀t∈b.txs.take i,t.May)→WL (W E (specOf l) lp34_0) [1,3] QQ (r.length+1) ⟨[none,some (.lp 0 []),none,some (.v (.int .i64 (i:Nat)))],[],z,G⟩:=by
 intro r
 have hl:=hs.2
 induction r with
 |nil=>
  intro i h1 h2 h3
  have:=drop_none h1
  have c1:¬(i:Int) < (b.txs.length:Int):=by omega
  rw[List.take_of_length_le (by omega)]at h3
  subst hz
  refine WL_in lp34_0.eq_1 ?_
  simp -implicitDefEqProofs only[BV,c1,List.length_map,go_sem,↓reduceIte]
  exact hx _ _ h3
 |cons p r ih=>
  intro i h1 h2 h3
  obtain⟨hd,hj,hlen⟩:=drop_one h1
  have a1:=at_drop2 h1
  have hsp:=hs.1 p (List.mem_of_getElem? a1)
  have hmem:=List.mem_of_getElem? a1
  have c1:(i:Int) < (b.txs.length:Int):=by omega
  have c3:(0:Int)≤i:=by omega
  have w1:IntKind.i64.wrap ((i:Int)+1)=((i+1:Nat):Int):=wc (by omega) (by omega)
  have ih1:p.May→_:=fun hm=>ih (i+1) hd (by omega) (fun t ht=>by
   rw[List.take_add_one,List.mem_append,a1]at ht
   rcases ht with ht|ht
   ·exact h3 t ht
   ·simp at ht;rw[ht];exact hm)
  obtain⟨x1,x2,x3,x4,x5,x6,x7⟩:=p
  have g:(b.txs.map TxS.v).getD i V.nilp= .agg [.int .i64 x1,.int .i64 x2,.int .i64 x3,.int .i64 x4,.int .i64 x5,.str x6,.str x7]:=getD_tx h1
  subst hz
  refine WL_in lp34_0.eq_1 ?_
  simp -implicitDefEqProofs only[BV,c1,c3,g,w1,hM,ZTm_eq,Int.toNat_natCast,List.length_map,go_sem,↓reduceIte]
  refine⟨⟨x1,x2,x3,x4,x5,x6,x7⟩,⟨rfl,hsp.1,hsp.2⟩,fun hm=> ?_,fun hm=> ?_⟩
  ·exact hr _ _ (fun hall=>by rw[show TxS.may _=true from decide_eq_true (hall _ hmem)]at hm;cases hm)
  ·exact ih1 (of_decide_eq_true hm)
theorem loop34s {QQ:Ex→St→Prop} {b:BlkS} {z:List Bx} {id c:Nat} {LL:List V} (hG:Abs.look G id=some (.agg LL)) (hLL:∀(i:Nat) t,b.txs[i]? =some t→LL[i]? =some t.v) (hfl:b.txs.length≤LL.length) (hsz:∀y∈LL,V.size y=7) (hM:Abs.look l 37=some ZTm) (hs:ShT b.txs) (hz:z=[⟨false,BV b (.sob id 7 0 b.txs.length c)⟩])
  (hx:∀i ts,(∀t∈b.txs,t.May)→QQ (.exit 0) ⟨[none,some (.lp 0 []),none,some (.v (.int .i64 (i:Nat)))],ts,z,G⟩) (hr:∀ts (v:Option D),¬(∀t∈b.txs,t.May)→QQ .ret ⟨[none,some (.lp 0 []),some (.v (.bool false)),v],ts,z,G⟩):
  ∀(r:List TxS) (i:Nat),b.txs.drop i=r→i≤b.txs.length→(∀t∈b.txs.take i,t.May)→WL (W E (specOf l) lp34_0) [1,3] QQ (r.length+1) ⟨[none,some (.lp 0 []),none,some (.v (.int .i64 (i:Nat)))],[],z,G⟩:=by
 intro r
 have hl:=hs.2
 induction r with
 |nil=>
  intro i h1 h2 h3
  have:=drop_none h1
  have c1:¬(i:Int) < (b.txs.length:Int):=by omega
  rw[List.take_of_length_le (by omega)]at h3
  subst hz
  refine WL_in lp34_0.eq_1 ?_
  simp -implicitDefEqProofs only[BV,c1,List.length_map,go_sem,↓reduceIte]
  exact hx _ _ h3
 |cons p r ih=>
  intro i h1 h2 h3
  obtain⟨hd,hj,hlen⟩:=drop_one h1
  have a1:=at_drop2 h1
  have hsp:=hs.1 p (List.mem_of_getElem? a1)
  have hmem:=List.mem_of_getElem? a1
  have c1:(i:Int) < (b.txs.length:Int):=by omega
  have c3:(0:Int)≤i:=by omega
  have w1:IntKind.i64.wrap ((i:Int)+1)=((i+1:Nat):Int):=wc (by omega) (by omega)
  have ih1:p.May→_:=fun hm=>ih (i+1) hd (by omega) (fun t ht=>by
   rw[List.take_add_one,List.mem_append,a1]at ht
   rcases ht with ht|ht
   ·exact h3 t ht
   ·simp at ht;rw[ht];exact hm)
  obtain⟨x1,x2,x3,x4,x5,x6,x7⟩:=p
  have g:LL[i]? =some (V.agg [.int .i64 x1,.int .i64 x2,.int .i64 x3,.int .i64 x4,.int .i64 x5,.str x6,.str x7]):=hLL i _ a1
  subst hz
  refine WL_in lp34_0.eq_1 ?_
  simp -implicitDefEqProofs only[BV,c1,c3,hG,g,w1,hM,ZTm_eq,Int.toNat_natCast,List.length_map,go_sem,↓reduceIte]
  refine And.intro ⟨by omega,hsz⟩ ⟨⟨x1,x2,x3,x4,x5,x6,x7⟩,⟨rfl,hsp.1,hsp.2⟩,fun hm=> ?_,fun hm=> ?_⟩
  ·exact hr _ _ (fun hall=>by rw[show TxS.may _=true from decide_eq_true (hall _ hmem)]at hm;cases hm)
  ·exact ih1 (of_decide_eq_true hm)
theorem walk34 {b:BlkS} {x:V} (hS:Abs.look l 46=some ZBs) (hM:Abs.look l 37=some ZTm)
  (hx:TxsV G x b.txs) (hs:ShT b.txs) (h:Q (.v (.bool b.may)) G):Wf E (specOf l) pf34 [BV b x] G Q:=by
 have y:b.May→Q (.v (.bool true)) G:=fun hm=>finB h (decide_eq_true hm)
 have n:¬b.May→Q (.v (.bool false)) G:=fun hm=>finB h (decide_eq_false hm)
 unfold BlkS.May BlkS.Full at y n
 have hw:=hx.rws
 rcases hx with (rfl|⟨rfl,e0⟩)|⟨id,c,LL,rfl,hG,hLL,hfl,hsz⟩
 ·simp -implicitDefEqProofs only[pf34,BV,hS,ZBs_eq,List.length_map,go_sem,↓reduceIte]
  refine⟨b,BlkS.zero,_,.nils,⟨rfl,rfl,hw,hs.2,by decide⟩,fun hz=>y (.inl hz),fun hz=>⟨b.txs.length+1,?_⟩⟩
  simp -implicitDefEqProofs only[go_sem,↓reduceIte]
  refine loop34i hM hs rfl (fun i ts hm=> ?_) (fun ts v hm=> ?_) b.txs 0 rfl (by omega) (fun t ht=>by simp at ht)
  ·simp -implicitDefEqProofs only[BV,List.length_map,go_sem,↓reduceIte]
   repeat' first|(intro _)|apply And.intro
   all_goals first
    |exact n (fun hh=>hh.elim hz (fun hf=>by obtain⟨_,q1,q2,q3,q4⟩:=hf;omega))
    |exact y (.inr ⟨hm,by omega,by omega,by omega,by rw[e0];decide⟩)
    |(refine finB h ?_
      by_cases h8:(b.txs.length:Int)≤8
      ·rw[decide_eq_true h8];exact decide_eq_true (.inr ⟨hm,by omega,by omega,by omega,by omega⟩)
      ·rw[decide_eq_false h8];exact decide_eq_false (fun hh=>hh.elim hz (fun hf=>h8 (by have:=hf.2.2.2.2;omega))))
  ·simp -implicitDefEqProofs only[go_sem,↓reduceIte]
   exact n (fun hh=>hh.elim hz (fun hf=>hm hf.1))
 ·simp -implicitDefEqProofs only[pf34,BV,hS,ZBs_eq,List.length_map,go_sem,↓reduceIte]
  refine⟨b,BlkS.zero,_,.nils,⟨rfl,rfl,hw,hs.2,by decide⟩,fun hz=>y (.inl hz),fun hz=>⟨1,?_⟩⟩
  simp -implicitDefEqProofs only[go_sem,↓reduceIte]
  refine WL_in lp34_0.eq_1 ?_
  simp -implicitDefEqProofs only[Int.lt_irrefl,go_sem,↓reduceIte]
  have hm:∀t∈b.txs,t.May:=fun t ht=>by rw[e0]at ht;cases ht
  repeat' first|(intro _)|apply And.intro
  all_goals first
   |exact n (fun hh=>hh.elim hz (fun hf=>by obtain⟨_,q1,q2,q3,q4⟩:=hf;omega))
   |exact y (.inr ⟨hm,by omega,by omega,by omega,by rw[e0];decide⟩)
   |(refine finB h ?_
     by_cases h8:(b.txs.length:Int)≤8
     ·rw[decide_eq_true h8];exact decide_eq_true (.inr ⟨hm,by omega,by omega,by omega,by omega⟩)
     ·rw[decide_eq_false h8];exact decide_eq_false (fun hh=>hh.elim hz (fun hf=>h8 (by have:=hf.2.2.2.2;omega))))
 ·simp -implicitDefEqProofs only[pf34,BV,hS,ZBs_eq,List.length_map,go_sem,↓reduceIte]
  refine⟨b,BlkS.zero,_,.nils,⟨rfl,rfl,hw,hs.2,by decide⟩,fun hz=>y (.inl hz),fun hz=>⟨b.txs.length+1,?_⟩⟩
  simp -implicitDefEqProofs only[go_sem,↓reduceIte]
  refine loop34s hG hLL hfl hsz hM hs rfl (fun i ts hm=> ?_) (fun ts v hm=> ?_) b.txs 0 rfl (by omega) (fun t ht=>by simp at ht)
  ·simp -implicitDefEqProofs only[BV,List.length_map,go_sem,↓reduceIte]
   repeat' first|(intro _)|apply And.intro
   all_goals first
    |exact n (fun hh=>hh.elim hz (fun hf=>by obtain⟨_,q1,q2,q3,q4⟩:=hf;omega))
    |exact y (.inr ⟨hm,by omega,by omega,by omega,by rw[e0];decide⟩)
    |(refine finB h ?_
      by_cases h8:(b.txs.length:Int)≤8
      ·rw[decide_eq_true h8];exact decide_eq_true (.inr ⟨hm,by omega,by omega,by omega,by omega⟩)
      ·rw[decide_eq_false h8];exact decide_eq_false (fun hh=>hh.elim hz (fun hf=>h8 (by have:=hf.2.2.2.2;omega))))
  ·simp -implicitDefEqProofs only[go_sem,↓reduceIte]
   exact n (fun hh=>hh.elim hz (fun hf=>hm hf.1))
end Go.Proofs.Ytegamlopcdjiaaa.Sha
