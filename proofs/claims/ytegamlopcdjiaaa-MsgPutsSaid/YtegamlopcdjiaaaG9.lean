/- Laws over plain values, and what functions of the program hand back; no conditions. -/
import Derived.Test.YtegamlopcdjiaaaG7
import Derived.Test.YtegamlopcdjiaaaG8
namespace Go.Abs
open Go Go.RowKit
set_option linter.unusedVariables false
set_option linter.unusedSimpArgs false
namespace Sha
theorem rdText_right {t b r:List Int} {w:Bool} (e:rdText (b,w)=(t,r,false)) (hb:Byt b):w=false∧b=txt t++r:=by
 rcases e1:rdUpto 65536 (b,w)with⟨n1,r1,w1⟩
 obtain⟨a1,a2,a3,a4,⟨u1,a5⟩,a6⟩:=rdUpto_all e1 hb (by omega)
 unfold rdText at e
 simp only[e1]at e
 split at e
 ·rename_i hw;cases e;exact absurd hw (by simp)
 ·split at e
  ·cases e
  ·rename_i hn
   have hw1:w1=false:=by cases w1 with
    |false=>rfl
    |true=>exact absurd (.inl rfl) hn
   have hlen:n1≤(r1.length:Int):=by
    have:¬((r1.length:Int) < n1):=fun h=>hn (.inr h)
    omega
   cases e
   obtain⟨h1,h2⟩:=a6 hw1
   refine⟨h1,?_⟩
   unfold txt
   rw[List.length_take,Nat.min_eq_left (by omega),List.append_assoc,List.take_append_drop];exact h2
theorem rdTx_right {b r:List Int} {t:TxS} {w:Bool} (e:rdTx (b,w)=(t,r,false)) (hb:Byt b) (hm:t.May):w=false∧b=t.bytes++r:=by
 have hki:t.ki=1∨t.ki=2∨t.ki=3:=by
  rcases hm.2.2 with h|h|h
  ·exact .inl h.1
  ·exact .inr (.inl h.1)
  ·exact .inr (.inr h.1)
 clear hm
 unfold rdTx at e
 rcases e1:rdUpto 40 (b,w)with⟨n1,r1,w1⟩
 rcases e2:rdUpto 1099511627776 (r1,w1)with⟨n2,r2,w2⟩
 rcases e3:rdUpto 3 (r2,w2)with⟨n3,r3,w3⟩
 simp only[e1,e2,e3]at e
 obtain⟨a1,_,_,_,_,a6⟩:=rdUpto_all e1 hb (by omega)
 obtain⟨b1,_,_,_,_,b6⟩:=rdUpto_all e2 a1 (by omega)
 obtain⟨c1,_,_,_,_,c6⟩:=rdUpto_all e3 b1 (by omega)
 split at e
 ·rename_i k1
  rcases e4:rdUpto 40 (r3,w3)with⟨n4,r4,w4⟩
  rcases e5:rdUpto 1099511627776 (r4,w4)with⟨n5,r5,w5⟩
  obtain⟨d1,_,_,_,_,d6⟩:=rdUpto_all e4 c1 (by omega)
  obtain⟨f1,_,_,_,_,f6⟩:=rdUpto_all e5 d1 (by omega)
  simp only[e4,e5]at e;cases e
  obtain⟨x4,y5⟩:=f6 rfl;obtain⟨x3,y4⟩:=d6 x4;obtain⟨x2,y3⟩:=c6 x3;obtain⟨x1,y2⟩:=b6 x2;obtain⟨x0,y1⟩:=a6 x1
  refine⟨x0,?_⟩
  unfold TxS.bytes;dsimp only
  rw[if_pos k1];simp only[List.append_assoc]
  rw[←y5,←y4,←y3,←y2,←y1]
 ·rename_i k1
  split at e
  ·rename_i k2
   rcases e4:rdText (r3,w3)with⟨n4,r4,w4⟩
   rcases e5:rdText (r4,w4)with⟨n5,r5,w5⟩
   obtain⟨d1,_,d3,_⟩:=rdText_all e4 c1
   obtain⟨f1,_,f3,_⟩:=rdText_all e5 d1
   simp only[e4,e5]at e;cases e
   obtain⟨x4,y5⟩:=rdText_right e5 d1;subst x4;obtain⟨x3,y4⟩:=rdText_right e4 c1;obtain⟨x2,y3⟩:=c6 x3;obtain⟨x1,y2⟩:=b6 x2;obtain⟨x0,y1⟩:=a6 x1
   refine⟨x0,?_⟩
   unfold TxS.bytes;dsimp only
   rw[if_neg k1,if_pos k2,byS_stS d3,byS_stS f3];simp only[List.append_assoc]
   rw[←y5,←y4,←y3,←y2,←y1]
  ·rename_i k2
   split at e
   ·rename_i k3
    rcases e4:rdText (r3,w3)with⟨n4,r4,w4⟩
    obtain⟨d1,_,d3,_⟩:=rdText_all e4 c1
    simp only[e4]at e;cases e
    obtain⟨x3,y4⟩:=rdText_right e4 c1;obtain⟨x2,y3⟩:=c6 x3;obtain⟨x1,y2⟩:=b6 x2;obtain⟨x0,y1⟩:=a6 x1
    refine⟨x0,?_⟩
    unfold TxS.bytes;dsimp only
    rw[if_neg k1,if_neg k2,List.append_nil,byS_stS d3];simp only[List.append_assoc]
    rw[←y4,←y3,←y2,←y1]
   ·rename_i k3
    cases e;dsimp only at hki;omega
structure BlkS where
 pa:List Int
 vi:Int
 he:Int
 who:Int
 txs:List TxS
deriving DecidableEq
def BlkS.v (b:BlkS):V:= .agg [.arr .u8 32 b.pa,.int .i64 b.vi,.int .i64 b.he,.int .i64 b.who,.sle 7 (b.txs.map TxS.v)]
def BlkS.zero:BlkS:=⟨zero32,0,0,0,[]⟩
def BlkS.zeroV:V:= .agg [.arr .u8 32 zero32,.int .i64 0,.int .i64 0,.int .i64 0,.nils]
def BlkS.Full (b:BlkS):Prop:=(∀t∈b.txs,t.May)∧(1≤b.vi∧b.vi≤1099511627776)∧(1≤b.he∧b.he≤1099511627776)∧(1≤b.who∧b.who≤21)∧b.txs.length≤8
instance (b:BlkS):Decidable b.Full:=by unfold BlkS.Full;infer_instance
def BlkS.May (b:BlkS):Prop:=b= .zero∨b.Full
instance (b:BlkS):Decidable b.May:=by unfold BlkS.May;infer_instance
def BlkS.may (b:BlkS):Bool:=decide b.May
def BlkS.ok (b:BlkS):Prop:=H32 b.pa∧(∀t∈b.txs,t.key.size < 1000000000∧t.val.size < 1000000000)∧b.txs.length < 1000000
def txsB:List TxS→List Int
 |[]=>[]
 |t::l=>t.bytes++txsB l
theorem txsB_snoc {t:TxS}:∀{l:List TxS},txsB (l++[t])=txsB l++t.bytes
 |[]=>by simp[txsB]
 |q::l=>by simp only[List.cons_append,txsB,txsB_snoc,List.append_assoc]
theorem txsB_ok:∀{l:List TxS},(∀t∈l,t.May)→Byt (txsB l)∧(txsB l).length≤300*l.length
 |[],_=>⟨byt_nil,by simp[txsB]⟩
 |t::l,h=>by
  obtain⟨h1,h2,_⟩:=TxS.bytes_ok (h t (List.mem_cons_self ..))
  obtain⟨i1,i2⟩:=txsB_ok (l:=l) fun q hq=>h q (List.mem_cons_of_mem _ hq)
  refine⟨byt_app h1 i1,?_⟩
  simp only[txsB,List.length_append,List.length_cons];omega
def BlkS.bytes (b:BlkS):List Int:=b.pa++num b.vi.toNat++num b.he.toNat++num b.who.toNat++num b.txs.length++txsB b.txs
def rdTxs:Nat→Rd→Option (List TxS×Rd)
 |0,s=>some ([],s)
 |k+1,s=>if (!(rdTx s).2.2&&(rdTx s).1.may)=true then (match rdTxs k (rdTx s).2 with
   |some (l,r)=>some ((rdTx s).1::l,r)
   |none=>none)else none
theorem rdTxs_all:∀{k:Nat} {b r:List Int} {l:List TxS} {w w':Bool},rdTxs k (b,w)=some (l,r,w')→Byt b→Byt r∧r.length≤b.length∧(∃u,b=u++r)∧l.length=k∧(∀t∈l,t.May)∧(w'=false→w=false∧b=txsB l++r)
 |0,b,r,l,w,w',e,hb=>by
  simp only[rdTxs,Option.some.injEq,Prod.mk.injEq]at e
  obtain⟨rfl,rfl,rfl⟩:=e
  exact⟨hb,Nat.le_refl _,⟨[],rfl⟩,rfl,(fun x hx=>by cases hx),fun h=>⟨h,rfl⟩⟩
 |k+1,b,r,l,w,w',e,hb=>by
  rcases e1:rdTx (b,w)with⟨t,r1,w1⟩
  simp only[rdTxs,e1]at e
  split at e
  ·rename_i hm
   have hw1:w1=false:=by cases w1 with
    |false=>rfl
    |true=>simp at hm
   subst hw1
   have htm:t.May:=of_decide_eq_true (show t.may=true by simpa using hm)
   have ok:=rdTx_all e1 hb
   obtain⟨u1,hu1⟩:=ok.suf
   obtain⟨x1,y1⟩:=rdTx_right e1 hb htm
   cases e2:rdTxs k (r1,false)with
   |none=>rw[e2]at e;cases e
   |some q=>
    obtain⟨l2,r2,w2⟩:=q
    rw[e2]at e;cases e
    obtain⟨i1,i2,⟨u2,i3⟩,i4,i5,i6⟩:=rdTxs_all e2 ok.byt
    refine⟨i1,by have:=ok.len;omega,⟨u1++u2,by rw[List.append_assoc,←i3,←hu1]⟩,by rw[List.length_cons,i4],fun y hy=> ?_,fun hw=>⟨x1,?_⟩⟩
    ·rcases List.mem_cons.1 hy with rfl|hy
     ·exact htm
     ·exact i5 y hy
    ·rw[txsB,List.append_assoc,←(i6 hw).2];exact y1
  ·cases e
theorem rdTxs_of:∀{l:List TxS} {r:List Int},(∀t∈l,t.May)→rdTxs l.length (txsB l++r,false)=some (l,(r,false))
 |[],r,_=>rfl
 |t::l,r,h=>by
  have h1:=h t (List.mem_cons_self ..)
  have e1:=rdTx_of (r:=txsB l++r) h1
  have e2:=rdTxs_of (l:=l) (r:=r) fun y hy=>h y (List.mem_cons_of_mem _ hy)
  have hm:t.may=true:=decide_eq_true h1
  simp only[List.length_cons,txsB,List.append_assoc,rdTxs,e1,hm,e2]
  rfl
theorem rdTxs_snoc:∀{k:Nat} {s:Rd},rdTxs (k+1) s=(match rdTxs k s with
   |some (l,q)=>if (!(rdTx q).2.2&&(rdTx q).1.may)=true then some (l++[(rdTx q).1],(rdTx q).2)else none
   |none=>none)
 |0,s=>by simp only[rdTxs];split<;>rfl
 |k+1,s=>by
  rw[rdTxs,rdTxs_snoc]
  conv=>rhs;rw[rdTxs]
  split
  ·cases rdTxs k (rdTx s).2 with
   |none=>rfl
   |some q=>
    obtain⟨l,q⟩:=q
    simp only[]
    by_cases hc:(!(rdTx q).2.2&&(rdTx q).1.may)=true
    ·rw[if_pos hc,if_pos hc];rfl
    ·rw[if_neg hc,if_neg hc]
  ·rfl
def rdBlk (s:Rd):Option (BlkS×Rd):=
 let p1:=rdHash s
 let p2:=rdUpto 1099511627776 p1.2
 let p3:=rdUpto 1099511627776 p2.2
 let p4:=rdUpto 21 p3.2
 let p5:=rdUpto 8 p4.2
 match rdTxs p5.1.toNat p5.2 with
 |some (l,r)=>some (⟨p1.1,p2.1,p3.1,p4.1,l⟩,r)
 |none=>none
def getBlk (t:List Int):Option BlkS:=match rdBlk (t,false)with
 |some (b,r,w)=>if (!w&&decide (r.length=0)&&b.may)=true then some b else none
 |none=>none
end Sha
end Go.Abs
namespace Go.Proofs.Ytegamlopcdjiaaa.Sha
open Go Go.Abs Go.Abs.Sha Go.Abs.Srt
set_option linter.unusedSimpArgs false
set_option linter.unusedVariables false
set_option maxRecDepth 100000
def lp93_0:PC:=
 (PC.reg [nn (.t 14) (.bin .lss (.v 13) (.v 12))]).seq ((PC.cond (.t 14) PC.skip (PC.exit 0)).seq ((PC.block 1 ((PC.reg [nn (.t 15) (.mv true (.v 13)),
  ma 5 15]).seq ((PC.regD 0 [mm 16 0,mm 17 5,nn (.t 18) (.iadrS 7 (.t 16) (.t 17)),nn (.t 19) (.load 7 true (.t 18)),mm 20 1,mm 21 5,nn (.t 22)
  (.iadrS 7 (.t 20) (.t 21)),nn (.t 23) (.load 7 true (.t 22)),nn (.t 24) (.eqa true (.agg (.cons 0 1 false .int (.cons 1 1 false .int (.cons 2 1
  false .int (.cons 3 1 false .int (.cons 4 1 false .int (.cons 5 1 false .str (.cons 6 1 false .str .nil)))))))) (.t 19) (.t 23))] []).seq (PC.cond
  (.t 24) ((PC.reg [nn (.v 4) (.mv true (.c (.v (.bool false))))]).seq PC.ret) PC.skip)))).seq (PC.reg [nn (.t 25) (.bin .add (.v 13) (.c (.v (.int
  .i64 1)))),nn (.v 13) (.mv false (.t 25))])))
def pf93:PF:=
 PF.mk 2 14 26 ((PC.reg [nn (.v 4) (.mv true (.c (.v (.bool false))))]).seq (((PC.reg [nn (.v 6) (.mv false (.v 0)),nn (.v 7) (.len (.v 6)),nn (.v 8)
  (.mv false (.v 1)),nn (.v 9) (.len (.v 8)),nn (.v 10) (.bin .neq (.v 7) (.v 9))]).seq (PC.cond (.v 10) ((PC.reg [nn (.v 4) (.mv true (.c (.v (.bool
  false))))]).seq PC.ret) PC.skip)).seq (((PC.reg [nn (.v 11) (.mv false (.v 0)),nn (.v 12) (.len (.v 11)),nn (.v 13) (.mv false (.c (.v (.int .i64
  0))))]).seq (PC.block 0 (PC.loop [0,1,12,13] lp93_0))).seq ((PC.reg [nn (.v 4) (.mv true (.c (.v (.bool true))))]).seq PC.ret)))) [(.v 4,none)]
def pf43:PF:=
 PF.mk 2 5 38 ((PC.reg [nn (.v 2) (.box (.v 0)),nn (.v 3) (.box (.v 1)),nn (.v 4) (.mv true (.c (.v (.bool false))))]).seq ((PC.reg [nn (.t 5) (.fadr
  0 0 (.v 2)),nn (.t 6) (.load 32 true (.t 5)),nn (.t 7) (.fadr 0 0 (.v 3)),nn (.t 8) (.load 32 true (.t 7)),nn (.t 9) (.eqa false (.arr 32) (.t 6)
  (.t 8)),nn (.t 10) (.mv false (.t 9)),⟨.t 11,.fadr 1 32 (.v 2),some (.t 10,true)⟩,⟨.t 12,.load 1 false (.t 11),some (.t 10,true)⟩,⟨.t 13,
  .fadr 1 32 (.v 3),some (.t 10,true)⟩,⟨.t 14,.load 1 false (.t 13),some (.t 10,true)⟩,⟨.t 15,.bin .eql (.t 12) (.t 14),some (.t 10,true)⟩,
  nn (.t 16) (.pick (.t 10) (.t 15) (.c (.v (.bool false)))),nn (.t 17) (.mv false (.t 16)),⟨.t 18,.fadr 2 33 (.v 2),some (.t 17,true)⟩,⟨.t 19,
  .load 1 false (.t 18),some (.t 17,true)⟩,⟨.t 20,.fadr 2 33 (.v 3),some (.t 17,true)⟩,⟨.t 21,.load 1 false (.t 20),some (.t 17,true)⟩,⟨.t
  22,.bin .eql (.t 19) (.t 21),some (.t 17,true)⟩,nn (.t 23) (.pick (.t 17) (.t 22) (.c (.v (.bool false)))),nn (.t 24) (.mv false (.t 23)),⟨.t
  25,.fadr 3 34 (.v 2),some (.t 24,true)⟩,⟨.t 26,.load 1 false (.t 25),some (.t 24,true)⟩,⟨.t 27,.fadr 3 34 (.v 3),some (.t 24,true)⟩,⟨.t
  28,.load 1 false (.t 27),some (.t 24,true)⟩,⟨.t 29,.bin .eql (.t 26) (.t 28),some (.t 24,true)⟩,nn (.t 30) (.pick (.t 24) (.t 29) (.c (.v
  (.bool false)))),nn (.t 31) (.mv false (.t 30)),⟨.t 32,.fadr 4 35 (.v 2),some (.t 31,true)⟩,⟨.t 33,.load 1 false (.t 32),some (.t 31,true)⟩,
  ⟨.t 34,.fadr 4 35 (.v 3),some (.t 31,true)⟩,⟨.t 35,.load 1 false (.t 34),some (.t 31,true)⟩,⟨.t 36,.call 93 [.t 33,.t 35],some (.t 31,
  true)⟩,nn (.t 37) (.pick (.t 31) (.t 36) (.c (.v (.bool false)))),ma 4 37]).seq PC.ret)) [(.v 4,none)]
def lp46_0:PC:=
 ((PC.reg [mm 41 5,nn (.t 42) (.fadr 4 35 (.v 2)),nn (.t 43) (.load 1 false (.t 42)),nn (.t 44) (.len (.t 43)),nn (.t 45) (.bin .lss (.t 41) (.t
  44))]).seq (PC.cond (.t 45) PC.skip (PC.exit 0))).seq ((PC.block 1 ((PC.regD 0 [nn (.t 48) (.fadr 4 35 (.v 2)),nn (.t 49) (.load 1 false (.t 48)),
  mm 50 5,nn (.t 51) (.iadrS 7 (.t 49) (.t 50)),nn (.t 52) (.load 7 true (.t 51)),nn (.t 53) (.fadr 4 35 (.v 3)),nn (.t 54) (.load 1 false (.t
  53)),mm 55 5,nn (.t 56) (.iadrS 7 (.t 54) (.t 55)),nn (.t 57) (.load 7 true (.t 56)),nn (.t 58) (.eqa true (.agg (.cons 0 1 false .int (.cons 1 1
  false .int (.cons 2 1 false .int (.cons 3 1 false .int (.cons 4 1 false .int (.cons 5 1 false .str (.cons 6 1 false .str .nil)))))))) (.t 52) (.t
  57))] []).seq (PC.cond (.t 58) ((PC.reg [nn (.v 4) (.mv true (.c (.v (.bool false))))]).seq PC.ret) PC.skip))).seq (PC.reg [mm 46 5,nn (.t 47) (.bin
  .add (.t 46) (.c (.v (.int .i64 1)))),ma 5 47]))
def pf46:PF:=
 PF.mk 2 6 59 ((PC.reg [nn (.v 2) (.box (.v 0)),nn (.v 3) (.box (.v 1)),nn (.v 4) (.mv true (.c (.v (.bool false))))]).seq (((PC.reg [nn (.t 6) (.fadr
  0 0 (.v 2)),nn (.t 7) (.load 32 true (.t 6)),nn (.t 8) (.fadr 0 0 (.v 3)),nn (.t 9) (.load 32 true (.t 8)),nn (.t 10) (.eqa true (.arr 32) (.t 7)
  (.t 9)),nn (.t 11) (.mv false (.t 10)),⟨.t 12,.fadr 1 32 (.v 2),some (.t 11,false)⟩,⟨.t 13,.load 1 false (.t 12),some (.t 11,false)⟩,⟨.t
  14,.fadr 1 32 (.v 3),some (.t 11,false)⟩,⟨.t 15,.load 1 false (.t 14),some (.t 11,false)⟩,⟨.t 16,.bin .neq (.t 13) (.t 15),some (.t 11,
  false)⟩,nn (.t 17) (.pick (.t 11) (.c (.v (.bool true))) (.t 16)),nn (.t 18) (.mv false (.t 17)),⟨.t 19,.fadr 2 33 (.v 2),some (.t 18,false)⟩,
  ⟨.t 20,.load 1 false (.t 19),some (.t 18,false)⟩,⟨.t 21,.fadr 2 33 (.v 3),some (.t 18,false)⟩,⟨.t 22,.load 1 false (.t 21),some (.t 18,
  false)⟩,⟨.t 23,.bin .neq (.t 20) (.t 22),some (.t 18,false)⟩,nn (.t 24) (.pick (.t 18) (.c (.v (.bool true))) (.t 23)),nn (.t 25) (.mv false
  (.t 24)),⟨.t 26,.fadr 3 34 (.v 2),some (.t 25,false)⟩,⟨.t 27,.load 1 false (.t 26),some (.t 25,false)⟩,⟨.t 28,.fadr 3 34 (.v 3),some (.t
  25,false)⟩,⟨.t 29,.load 1 false (.t 28),some (.t 25,false)⟩,⟨.t 30,.bin .neq (.t 27) (.t 29),some (.t 25,false)⟩,nn (.t 31) (.pick (.t 25)
  (.c (.v (.bool true))) (.t 30)),nn (.t 32) (.mv false (.t 31)),⟨.t 33,.fadr 4 35 (.v 2),some (.t 32,false)⟩,⟨.t 34,.load 1 false (.t 33),some
  (.t 32,false)⟩,⟨.t 35,.len (.t 34),some (.t 32,false)⟩,⟨.t 36,.fadr 4 35 (.v 3),some (.t 32,false)⟩,⟨.t 37,.load 1 false (.t 36),some (.t
  32,false)⟩,⟨.t 38,.len (.t 37),some (.t 32,false)⟩,⟨.t 39,.bin .neq (.t 35) (.t 38),some (.t 32,false)⟩,nn (.t 40) (.pick (.t 32) (.c (.v
  (.bool true))) (.t 39))]).seq (PC.cond (.t 40) ((PC.reg [nn (.v 4) (.mv true (.c (.v (.bool false))))]).seq PC.ret) PC.skip)).seq (((PC.reg [nn (.v
  5) (.mv true (.c (.v (.int .i64 0))))]).seq (PC.block 0 (PC.loop [2,3,5] lp46_0))).seq ((PC.reg [nn (.v 4) (.mv true (.c (.v (.bool true))))]).seq
  PC.ret)))) [(.v 4,none)]
attribute [local irreducible] W Wops WopsD WL Wop WopD
variable {E:Env} {C:Abs.Spec} {l:List (Nat×Spec1)} {G:List (Nat×V)} {Q:R→List (Nat×V)→Prop}
set_option maxHeartbeats 1000000
def PlV (x:V) (l:List TxS):Prop:=x= .sle 7 (l.map TxS.v)∨(x= .nils∧l=[])
def TxsV (G:List (Nat×V)) (x:V) (l:List TxS):Prop:=
 PlV x l∨∃id c LL,x= .sob id 7 0 l.length c∧Abs.look G id=some (.agg LL)∧(∀(i:Nat) t,l[i]? =some t→LL[i]? =some t.v)∧l.length≤LL.length∧∀y∈LL,V.size y=7
theorem getD_tx {l:List TxS} {j:Nat} {p:TxS} {r:List TxS} (h:l.drop j=p::r):(l.map TxS.v).getD j V.nilp=p.v:=by
 have:(l.drop j)[0]? =some p:=by rw[h];rfl
 rw[List.getElem?_drop,Nat.add_zero]at this
 simp[List.getD,this]
def ZEx:Spec1
 |[x,y],G,Q=>∃l1 l2:List TxS,((PlV x l1∧PlV y l2)∨(∃id c,x= .sob id 7 0 l1.length c∧y= .nils∧l2=[]))∧l1.length < 1000000∧l2.length < 1000000∧Q (.v (.bool (decide (l1=l2)))) G
 |_,_,_=>False
theorem ZEx_eq {x y}:ZEx [x,y] G Q=(∃l1 l2:List TxS,((PlV x l1∧PlV y l2)∨(∃id c,x= .sob id 7 0 l1.length c∧y= .nils∧l2=[]))∧l1.length < 1000000∧l2.length < 1000000∧Q (.v (.bool (decide (l1=l2)))) G):=rfl
theorem loop93 {QQ:Ex→St→Prop} {l1 l2:List TxS} (hl:l1.length < 1000000) (h2:l1.length=l2.length)
  (hx:∀ts,l1=l2→QQ (.exit 0) ⟨[some (.v (.sle 7 (l1.map TxS.v))),some (.v (.sle 7 (l2.map TxS.v))),none,none,none,none,none,none,none,none,none,none,some (.v (.int .i64 (l1.length:Nat))),some (.v (.int .i64 (l1.length:Nat)))],ts,[],G⟩) (hr:∀ts v5 (v:Option D),l1≠l2→QQ .ret ⟨[some (.v (.sle 7 (l1.map TxS.v))),some (.v (.sle 7 (l2.map TxS.v))),none,none,some (.v (.bool false)),v5,none,none,none,none,none,none,some (.v (.int .i64 (l1.length:Nat))),v],ts,[],G⟩):
  ∀(e i:Nat),i+e=l1.length→l1.take i=l2.take i→WL (W E C lp93_0) [0,1,12,13] QQ (e+1) ⟨[some (.v (.sle 7 (l1.map TxS.v))),some (.v (.sle 7 (l2.map TxS.v))),none,none,none,none,none,none,none,none,none,none,some (.v (.int .i64 (l1.length:Nat))),some (.v (.int .i64 (i:Nat)))],[],[],G⟩:=by
 intro e
 induction e with
 |zero=>
  intro i hi ht
  obtain rfl:i=l1.length:=by omega
  rw[List.take_of_length_le (Nat.le_refl _),List.take_of_length_le (by omega)]at ht
  refine WL_in lp93_0.eq_1 ?_
  simp -implicitDefEqProofs only[Int.lt_irrefl,go_sem,↓reduceIte]
  exact hx _ ht
 |succ e ih=>
  intro i hi ht
  have c1:(i:Int) < (l1.length:Int):=by omega
  have c2:(i:Int) < (l2.length:Int):=by omega
  have c3:(0:Int)≤i:=by omega
  have w1:IntKind.i64.wrap ((i:Int)+1)=((i+1:Nat):Int):=wc (by omega) (by omega)
  obtain⟨p,r,hp⟩:∃p r,l1.drop i=p::r:=by
   cases hq:l1.drop i with
   |nil=>have:=drop_none hq;omega
   |cons p r=>exact⟨p,r,rfl⟩
  obtain⟨p2,r2,hp2⟩:∃p r,l2.drop i=p::r:=by
   cases hq:l2.drop i with
   |nil=>have:=drop_none hq;omega
   |cons p r=>exact⟨p,r,rfl⟩
  have a1:=at_drop2 hp
  have a2:=at_drop2 hp2
  have ihh:p=p2→_:=fun h=>ih (i+1) (by omega) (by rw[List.take_add_one,List.take_add_one,a1,a2,ht,h])
  have hno:p≠p2→l1≠l2:=fun h h3=>h (by rw[h3,a2]at a1;exact (Option.some.inj a1).symm)
  obtain⟨x1,x2,x3,x4,x5,x6,x7⟩:=p
  obtain⟨y1,y2,y3,y4,y5,y6,y7⟩:=p2
  have g1:(l1.map TxS.v).getD i V.nilp= .agg [.int .i64 x1,.int .i64 x2,.int .i64 x3,.int .i64 x4,.int .i64 x5,.str x6,.str x7]:=getD_tx hp
  have g2:(l2.map TxS.v).getD i V.nilp= .agg [.int .i64 y1,.int .i64 y2,.int .i64 y3,.int .i64 y4,.int .i64 y5,.str y6,.str y7]:=getD_tx hp2
  refine WL_in lp93_0.eq_1 ?_
  simp -implicitDefEqProofs only[c1,c2,c3,w1,g1,g2,Int.toNat_natCast,List.length_map,bs_eq,go_sem,↓reduceIte]
  refine⟨fun h=>hr _ _ _ (hno (fun h2=> ?_)),fun h=>ihh ?_⟩
  ·cases h2;simp at h
  ·obtain⟨rfl,rfl,rfl,rfl,rfl,rfl,rfl⟩:=h;rfl
theorem walk93 {x y:V} {l1 l2:List TxS} (hxy:(PlV x l1∧PlV y l2)∨(∃id c,x= .sob id 7 0 l1.length c∧y= .nils∧l2=[])) (hl:l1.length < 1000000) (hl2:l2.length < 1000000) (h:Q (.v (.bool (decide (l1=l2)))) G):Wf E C pf93 [x,y] G Q:=by
 have hno:¬(l1.length:Int)=(l2.length:Int)→Q (.v (.bool false)) G:=fun hn=>finB h (by rw[decide_eq_false_iff_not];rintro rfl;exact hn rfl)
 have hyes:l1=l2→Q (.v (.bool true)) G:=fun hn=>finB h (by rw[decide_eq_true_iff];exact hn)
 have hnn:l1≠l2→Q (.v (.bool false)) G:=fun hn=>finB h (by rw[decide_eq_false_iff_not];exact hn)
 rcases hxy with⟨rfl|⟨rfl,rfl⟩,rfl|⟨rfl,rfl⟩⟩|⟨id,c,rfl,rfl,rfl⟩
 ·simp -implicitDefEqProofs only[pf93,List.length_map,go_sem,↓reduceIte]
  refine⟨fun hn=>hno hn,fun he=>⟨l1.length+1,?_⟩⟩
  simp -implicitDefEqProofs only[go_sem,↓reduceIte]
  refine loop93 hl (by omega) (fun ts he=> ?_) (fun ts v5 v hn=> ?_) _ 0 (by omega) rfl
  ·simp -implicitDefEqProofs only[go_sem,↓reduceIte]
   exact hyes he
  ·simp -implicitDefEqProofs only[go_sem,↓reduceIte]
   exact hnn hn
 ·simp -implicitDefEqProofs only[pf93,List.length_map,go_sem,↓reduceIte]
  refine⟨fun hn=>hno (by simpa using hn),fun hz=>⟨1,?_⟩⟩
  simp -implicitDefEqProofs only[hz,go_sem,↓reduceIte]
  refine WL_in lp93_0.eq_1 ?_
  simp -implicitDefEqProofs only[hz,Int.lt_irrefl,go_sem,↓reduceIte]
  exact hyes (List.eq_nil_of_length_eq_zero (by omega))
 ·simp -implicitDefEqProofs only[pf93,List.length_map,go_sem,↓reduceIte]
  refine⟨fun hn=>hno (by simpa using hn),fun hz=>⟨1,?_⟩⟩
  simp -implicitDefEqProofs only[hz,go_sem,↓reduceIte]
  refine WL_in lp93_0.eq_1 ?_
  simp -implicitDefEqProofs only[hz,Int.lt_irrefl,go_sem,↓reduceIte]
  exact hyes (List.eq_nil_of_length_eq_zero (by omega)).symm
 ·simp -implicitDefEqProofs only[pf93,List.length_map,go_sem,↓reduceIte]
  refine⟨1,?_⟩
  simp -implicitDefEqProofs only[go_sem,↓reduceIte]
  refine WL_in lp93_0.eq_1 ?_
  simp -implicitDefEqProofs only[Int.lt_irrefl,go_sem,↓reduceIte]
  exact hyes rfl
 ·simp -implicitDefEqProofs only[pf93,List.length_map,go_sem,↓reduceIte]
  refine⟨fun hn=>hno (by simpa using hn),fun hz=>⟨1,?_⟩⟩
  simp -implicitDefEqProofs only[hz,go_sem,↓reduceIte]
  refine WL_in lp93_0.eq_1 ?_
  simp -implicitDefEqProofs only[hz,Int.lt_irrefl,go_sem,↓reduceIte]
  exact hyes (List.eq_nil_of_length_eq_zero (by omega))
def BV (b:BlkS) (x:V):V:= .agg [.arr .u8 32 b.pa,.int .i64 b.vi,.int .i64 b.he,.int .i64 b.who,x]
def Rws (x:V) (l1:List TxS) (y:V) (l2:List TxS):Prop:=(PlV x l1∧PlV y l2)∨(∃id c,x= .sob id 7 0 l1.length c∧y= .nils∧l2=[])
theorem PlV.one {x:V} {l:List TxS} (h:PlV x l):V.size x=1∧V.isAgg x=false:=by
 rcases h with rfl|⟨rfl,_⟩<;>exact⟨rfl,rfl⟩
theorem Rws.one {x y:V} {l1 l2:List TxS} (h:Rws x l1 y l2):(V.size x=1∧V.isAgg x=false)∧(V.size y=1∧V.isAgg y=false):=by
 rcases h with⟨h1,h2⟩|⟨id,c,rfl,rfl,rfl⟩
 ·exact⟨h1.one,h2.one⟩
 ·exact⟨⟨rfl,rfl⟩,rfl,rfl⟩
def ZBs:Spec1
 |[u,v],G,Q=>∃(a b:BlkS) (x y:V),(u=BV a x∧v=BV b y∧Rws x a.txs y b.txs∧a.txs.length < 1000000∧b.txs.length < 1000000)∧Q (.v (.bool (decide (a=b)))) G
 |_,_,_=>False
theorem ZBs_eq {u v}:ZBs [u,v] G Q=(∃(a b:BlkS) (x y:V),(u=BV a x∧v=BV b y∧Rws x a.txs y b.txs∧a.txs.length < 1000000∧b.txs.length < 1000000)∧Q (.v (.bool (decide (a=b)))) G):=rfl
theorem walk43 {a b:BlkS} {x y:V} (hE:Abs.look l 93=some ZEx) (hr:Rws x a.txs y b.txs) (hl:a.txs.length < 1000000) (hl2:b.txs.length < 1000000) (h:Q (.v (.bool (decide (a=b)))) G):Wf E (specOf l) pf43 [BV a x,BV b y] G Q:=by
 obtain⟨⟨x1,x2⟩,y1,y2⟩:=hr.one
 unfold V.isAgg at x2 y2
 obtain⟨a1,a2,a3,a4,a5⟩:=a
 obtain⟨b1,b2,b3,b4,b5⟩:=b
 simp -implicitDefEqProofs only[pf43,BV,x1,x2,y1,y2,hE,ZEx_eq,go_sem,↓reduceIte]
 have no:¬((⟨a1,a2,a3,a4,a5⟩:BlkS)=⟨b1,b2,b3,b4,b5⟩)→Q (.v (.bool false)) G:=fun hn=>finB h (by rw[decide_eq_false_iff_not];exact hn)
 refine⟨fun h1=>⟨fun h2=>⟨fun h3=>⟨fun h4=>⟨a5,b5,hr,hl,hl2,?_⟩,fun h4=>no (fun e=>h4 (by cases e;rfl))⟩,fun h3=>no (fun e=>h3 (by cases e;rfl))⟩,fun h2=>no (fun e=>h2 (by cases e;rfl))⟩,fun h1=>no (fun e=>by cases e;simp at h1)⟩
 have h1:=eq_of_beq h1
 subst h1;subst h2;subst h3;subst h4
 refine finB h ?_
 rw[decide_eq_decide];exact⟨fun e=>by cases e;rfl,fun e=>by rw[e]⟩
theorem loop46 {QQ:Ex→St→Prop} {a b:BlkS} {z:List Bx} (hl:a.txs.length < 1000000) (h2:a.txs.length=b.txs.length) (hz:z=[⟨false,a.v⟩,⟨false,b.v⟩])
  (hx:∀ts,a.txs=b.txs→QQ (.exit 0) ⟨[none,none,some (.lp 0 []),some (.lp 1 []),none,some (.v (.int .i64 (a.txs.length:Nat)))],ts,z,G⟩) (hr:∀ts (v5:Option D),a.txs≠b.txs→QQ .ret ⟨[none,none,some (.lp 0 []),some (.lp 1 []),some (.v (.bool false)),v5],ts,z,G⟩):
  ∀(e i:Nat),i+e=a.txs.length→a.txs.take i=b.txs.take i→WL (W E C lp46_0) [2,3,5] QQ (e+1) ⟨[none,none,some (.lp 0 []),some (.lp 1 []),none,some (.v (.int .i64 (i:Nat)))],[],z,G⟩:=by
 intro e
 induction e with
 |zero=>
  intro i hi ht
  obtain rfl:i=a.txs.length:=by omega
  rw[List.take_of_length_le (Nat.le_refl _),List.take_of_length_le (by omega)]at ht
  subst hz
  refine WL_in lp46_0.eq_1 ?_
  simp -implicitDefEqProofs only[BlkS.v,List.length_map,Int.lt_irrefl,go_sem,↓reduceIte]
  exact hx _ ht
 |succ e ih=>
  intro i hi ht
  have c1:(i:Int) < (a.txs.length:Int):=by omega
  have c2:(i:Int) < (b.txs.length:Int):=by omega
  have c3:(0:Int)≤i:=by omega
  have w1:IntKind.i64.wrap ((i:Int)+1)=((i+1:Nat):Int):=wc (by omega) (by omega)
  obtain⟨p,r,hp⟩:∃p r,a.txs.drop i=p::r:=by
   cases hq:a.txs.drop i with
   |nil=>have:=drop_none hq;omega
   |cons p r=>exact⟨p,r,rfl⟩
  obtain⟨p2,r2,hp2⟩:∃p r,b.txs.drop i=p::r:=by
   cases hq:b.txs.drop i with
   |nil=>have:=drop_none hq;omega
   |cons p r=>exact⟨p,r,rfl⟩
  have a1:=at_drop2 hp
  have a2:=at_drop2 hp2
  have ihh:p=p2→_:=fun h=>ih (i+1) (by omega) (by rw[List.take_add_one,List.take_add_one,a1,a2,ht,h])
  have hno:p≠p2→a.txs≠b.txs:=fun h h3=>h (by rw[h3,a2]at a1;exact (Option.some.inj a1).symm)
  obtain⟨x1,x2,x3,x4,x5,x6,x7⟩:=p
  obtain⟨y1,y2,y3,y4,y5,y6,y7⟩:=p2
  have g1:(a.txs.map TxS.v).getD i V.nilp= .agg [.int .i64 x1,.int .i64 x2,.int .i64 x3,.int .i64 x4,.int .i64 x5,.str x6,.str x7]:=getD_tx hp
  have g2:(b.txs.map TxS.v).getD i V.nilp= .agg [.int .i64 y1,.int .i64 y2,.int .i64 y3,.int .i64 y4,.int .i64 y5,.str y6,.str y7]:=getD_tx hp2
  subst hz
  refine WL_in lp46_0.eq_1 ?_
  simp -implicitDefEqProofs only[BlkS.v,c1,c2,c3,w1,g1,g2,Int.toNat_natCast,List.length_map,bs_eq,go_sem,↓reduceIte]
  refine⟨fun h=>hr _ _ (hno (fun h2=> ?_)),fun h=>ihh ?_⟩
  ·cases h2;simp at h
  ·obtain⟨rfl,rfl,rfl,rfl,rfl,rfl,rfl⟩:=h;rfl
theorem walk46 {a b:BlkS} {x y:V} (hr:Rws x a.txs y b.txs) (hl:a.txs.length < 1000000) (hl2:b.txs.length < 1000000) (h:Q (.v (.bool (decide (a=b)))) G):Wf E C pf46 [BV a x,BV b y] G Q:=by
 obtain⟨⟨x1,x2⟩,y1,y2⟩:=hr.one
 unfold V.isAgg at x2 y2
 have no:a≠b→Q (.v (.bool false)) G:=fun hn=>finB h (by rw[decide_eq_false_iff_not];exact hn)
 have yes:a=b→Q (.v (.bool true)) G:=fun hn=>finB h (by rw[decide_eq_true_iff];exact hn)
 have all:a.pa=b.pa→a.vi=b.vi→a.he=b.he→a.who=b.who→a.txs=b.txs→a=b:=fun h1 h2 h3 h4 h5=>by
  cases a;cases b;dsimp only at h1 h2 h3 h4 h5;subst h1;subst h2;subst h3;subst h4;subst h5;rfl
 have hno:¬(a.txs.length:Int)=(b.txs.length:Int)→a≠b:=fun hn e=>hn (by rw[e])
 rcases hr with⟨rfl|⟨rfl,ea⟩,rfl|⟨rfl,eb⟩⟩|⟨id,c,rfl,rfl,eb⟩
 ·simp -implicitDefEqProofs only[pf46,BV,List.length_map,go_sem,↓reduceIte]
  refine⟨fun h1=>no (fun e=>by rw[e]at h1;simp at h1),fun h1=>⟨fun h2=>no (fun e=>h2 (by rw[e])),fun h2=>⟨fun h3=>no (fun e=>h3 (by rw[e])),fun h3=>⟨fun h4=>no (fun e=>h4 (by rw[e])),fun h4=>⟨fun h5=>no (fun e=>h5 (by rw[e])),fun h5=> ?_⟩⟩⟩⟩⟩
  refine⟨a.txs.length+1,?_⟩
  simp -implicitDefEqProofs only[go_sem,↓reduceIte]
  refine loop46 hl (by omega) rfl (fun ts he=> ?_) (fun ts v5 hn=> ?_) _ 0 (by omega) rfl
  ·simp -implicitDefEqProofs only[go_sem,↓reduceIte]
   exact yes (all (eq_of_beq h1) h2 h3 h4 he)
  ·simp -implicitDefEqProofs only[go_sem,↓reduceIte]
   exact no (fun e=>hn (by rw[e]))
 ·simp -implicitDefEqProofs only[pf46,BV,List.length_map,go_sem,↓reduceIte]
  refine⟨fun h1=>no (fun e=>by rw[e]at h1;simp at h1),fun h1=>⟨fun h2=>no (fun e=>h2 (by rw[e])),fun h2=>⟨fun h3=>no (fun e=>h3 (by rw[e])),fun h3=>⟨fun h4=>no (fun e=>h4 (by rw[e])),fun h4=>⟨fun h5=>no (fun e=>h5 (by rw[e,eb];rfl)),fun h5=> ?_⟩⟩⟩⟩⟩
  refine⟨1,?_⟩
  simp -implicitDefEqProofs only[List.length_map,h5,go_sem,↓reduceIte]
  refine WL_in lp46_0.eq_1 ?_
  simp -implicitDefEqProofs only[List.length_map,h5,Int.lt_irrefl,go_sem,↓reduceIte]
  exact yes (all (eq_of_beq h1) h2 h3 h4 (by rw[eb];exact List.eq_nil_of_length_eq_zero (by omega)))
 ·simp -implicitDefEqProofs only[pf46,BV,List.length_map,go_sem,↓reduceIte]
  refine⟨fun h1=>no (fun e=>by rw[e]at h1;simp at h1),fun h1=>⟨fun h2=>no (fun e=>h2 (by rw[e])),fun h2=>⟨fun h3=>no (fun e=>h3 (by rw[e])),fun h3=>⟨fun h4=>no (fun e=>h4 (by rw[e])),fun h4=>⟨fun h5=>no (fun e=>h5 (by rw[←e,ea];rfl)),fun h5=> ?_⟩⟩⟩⟩⟩
  refine⟨1,?_⟩
  simp -implicitDefEqProofs only[List.length_map,h5,go_sem,↓reduceIte]
  refine WL_in lp46_0.eq_1 ?_
  simp -implicitDefEqProofs only[←h5,Int.lt_irrefl,go_sem,↓reduceIte]
  exact yes (all (eq_of_beq h1) h2 h3 h4 (by rw[ea];exact (List.eq_nil_of_length_eq_zero (by omega)).symm))
 ·simp -implicitDefEqProofs only[pf46,BV,List.length_map,go_sem,↓reduceIte]
  refine⟨fun h1=>no (fun e=>by rw[e]at h1;simp at h1),fun h1=>⟨fun h2=>no (fun e=>h2 (by rw[e])),fun h2=>⟨fun h3=>no (fun e=>h3 (by rw[e])),fun h3=>⟨fun h4=>no (fun e=>h4 (by rw[e])),fun h4=> ?_⟩⟩⟩⟩
  refine⟨1,?_⟩
  simp -implicitDefEqProofs only[go_sem,↓reduceIte]
  refine WL_in lp46_0.eq_1 ?_
  simp -implicitDefEqProofs only[Int.lt_irrefl,go_sem,↓reduceIte]
  exact yes (all (eq_of_beq h1) h2 h3 h4 (by rw[ea,eb]))
 ·simp -implicitDefEqProofs only[pf46,BV,List.length_map,go_sem,↓reduceIte]
  refine⟨fun h1=>no (fun e=>by rw[e]at h1;simp at h1),fun h1=>⟨fun h2=>no (fun e=>h2 (by rw[e])),fun h2=>⟨fun h3=>no (fun e=>h3 (by rw[e])),fun h3=>⟨fun h4=>no (fun e=>h4 (by rw[e])),fun h4=>⟨fun h5=>no (fun e=>h5 (by rw[e,eb];rfl)),fun h5=> ?_⟩⟩⟩⟩⟩
  refine⟨1,?_⟩
  simp -implicitDefEqProofs only[List.length_map,h5,go_sem,↓reduceIte]
  refine WL_in lp46_0.eq_1 ?_
  simp -implicitDefEqProofs only[List.length_map,h5,Int.lt_irrefl,go_sem,↓reduceIte]
  exact yes (all (eq_of_beq h1) h2 h3 h4 (by rw[eb];exact List.eq_nil_of_length_eq_zero (by omega)))
def lp149_0:PC:=
 (PC.reg [nn (.t 9) (.bin .lss (.v 8) (.v 7))]).seq ((PC.cond (.t 9) PC.skip (PC.exit 0)).seq ((PC.block 1 ((PC.reg [nn (.t 10) (.mv true (.v 8)),ma 5
  10]).seq ((PC.reg [mm 11 1,mm 12 0,mm 13 5,nn (.t 14) (.iadrS 7 (.t 12) (.t 13)),nn (.t 15) (.load 7 true (.t 14)),nn (.t 16) (.callV (.t 11)
  [.t 15])]).seq (PC.cond (.t 16) ((PC.reg [nn (.t 17) (.mv true (.v 5)),ma 4 17]).seq PC.ret) PC.skip)))).seq (PC.reg [nn (.t 18) (.bin .add (.v 8)
  (.c (.v (.int .i64 1)))),nn (.v 8) (.mv false (.t 18))])))
def pf149:PF:=
 PF.mk 2 9 19 ((PC.reg [nn (.v 4) (.mv true (.c (.v (.int .i64 0))))]).seq (((PC.reg [nn (.v 6) (.mv false (.v 0)),nn (.v 7) (.len (.v 6)),nn (.v 8)
  (.mv false (.c (.v (.int .i64 0))))]).seq (PC.block 0 (PC.loop [0,1,7,8] lp149_0))).seq ((PC.reg [nn (.v 4) (.mv true (.c (.v (.int .i64
  ((-1))))))]).seq PC.ret))) [(.v 4,none)]
def pf141:PF:=
 PF.mk 2 5 9 ((PC.reg [nn (.v 4) (.mv true (.c (.v (.bool false))))]).seq ((PC.reg [mm 5 0,mm 6 1,nn (.t 7) (.call 149 [.t 5,.t 6]),nn (.t 8) (.bin
  .geq (.t 7) (.c (.v (.int .i64 0)))),ma 4 8]).seq PC.ret)) [(.v 4,none)]
def pf142:PF:=
 PF.mk 1 3 6 ((PC.reg [nn (.v 1) (.box (.v 0)),nn (.v 2) (.mv true (.c (.v (.bool false))))]).seq ((PC.reg [nn (.t 3) (.load 7 true (.v 1)),nn (.t 4)
  (.call 116 [.t 3]),nn (.t 5) (.bin .neq (.t 4) (.c (.v (.int .i64 0)))),ma 2 5]).seq PC.ret)) [(.v 2,none)]
def pf139:PF:=
 PF.mk 0 1 2 ((PC.reg [nn (.v 0) (.alloc (.agg [.arr .u8 32 [0,0,0,0,0,0,0,0,0,0,0,0,0,0,0,0,0,0,0,0,0,0,0,0,0,0,0,0,0,0,
  0,0],.int .i64 0,.int .i64 0,.int .i64 0,.nils]))]).seq ((PC.reg [nn (.t 1) (.build (.agg [.arr .u8 32 [0,0,0,0,0,0,0,0,0,0,0,0,0,
  0,0,0,0,0,0,0,0,0,0,0,0,0,0,0,0,0,0,0],.int .i64 0,.int .i64 0,.int .i64 0,.nils]) []),nn .no (.store 36 (.v 0) (.t 1))]).seq
  PC.ret)) [(.v 0,some (36,true))]
def pf140:PF:=
 PF.mk 3 7 15 ((PC.reg [nn (.v 6) (.mv true (.c (.v (.bool false))))]).seq ((PC.reg [mm 7 0,mm 8 1,nn (.t 9) (.bin .geq (.t 7) (.t 8)),nn (.t 10)
  (.mv false (.t 9)),gm 11 0 10 true,gm 12 2 10 true,⟨.t 13,.bin .leq (.t 11) (.t 12),some (.t 10,true)⟩,nn (.t 14) (.pick (.t 10) (.t 13) (.c
  (.v (.bool false)))),ma 6 14]).seq PC.ret)) [(.v 6,none)]
def idxT:Nat→List TxS→Int
 |_,[]=> -1
 |i,t::l=>if t.may=true then idxT (i+1) l else (i:Int)
theorem idxT_any:∀{l:List TxS} {i:Nat},decide (0≤idxT i l)= !(l.all TxS.may)
 |[],i=>rfl
 |t::l,i=>by
  simp only[idxT,List.all_cons]
  split
  ·rename_i h;rw[h,Bool.true_and,idxT_any]
  ·rename_i h;have h:t.may=false:=by simpa using h
   rw[h];simp
def ShT (ts:List TxS):Prop:=(∀t∈ts,t.key.size < 1000000000∧t.val.size < 1000000000)∧ts.length < 1000000
def ZFb0:Spec1
 |[],G,Q=>Q (.v BlkS.zeroV) G
 |_,_,_=>False
def ZCf:Spec1
 |[y],G,Q=>∃t:TxS,(y=t.v∧t.key.size < 1000000000∧t.val.size < 1000000000)∧Q (.v (.bool (!t.may))) G
 |_,_,_=>False
theorem ZCf_eq {y}:ZCf [y] G Q=(∃t:TxS,(y=t.v∧t.key.size < 1000000000∧t.val.size < 1000000000)∧Q (.v (.bool (!t.may))) G):=rfl
def ZIt:Spec1
 |[x,.fn 142 []],G,Q=>∃ts:List TxS,(TxsV G x ts∧ShT ts)∧Q (.v (.int .i64 (idxT 0 ts))) G
 |_,_,_=>False
theorem ZIt_eq {x}:ZIt [x,.fn 142 []] G Q=(∃ts:List TxS,(TxsV G x ts∧ShT ts)∧Q (.v (.int .i64 (idxT 0 ts))) G):=rfl
def ZOt:Spec1
 |[x,.fn 142 []],G,Q=>∃ts:List TxS,(TxsV G x ts∧ShT ts)∧Q (.v (.bool (!(ts.all TxS.may)))) G
 |_,_,_=>False
theorem ZOt_eq {x}:ZOt [x,.fn 142 []] G Q=(∃ts:List TxS,(TxsV G x ts∧ShT ts)∧Q (.v (.bool (!(ts.all TxS.may)))) G):=rfl
theorem walk142 {t:TxS} (hC:Abs.look l 116=some ZTc) (hk:t.key.size < 1000000000) (hv:t.val.size < 1000000000) (h:Q (.v (.bool (!t.may))) G):Wf E (specOf l) pf142 [t.v] G Q:=by
 obtain⟨a1,a2,a3,a4,a5,a6,a7⟩:=t
 dsimp only at hk hv
 simp -implicitDefEqProofs only[pf142,TxS.v,hC,ZTc_eq,go_sem,↓reduceIte]
 refine⟨⟨a1,a2,a3,a4,a5,a6,a7⟩,⟨rfl,hk,hv⟩,?_⟩
 cases hm:TxS.may ⟨a1,a2,a3,a4,a5,a6,a7⟩with
 |true=>rw[hm]at h;exact h
 |false=>rw[hm]at h;exact h
theorem walk141 {x:V} {ts:List TxS} (hI:Abs.look l 149=some ZIt) (hx:TxsV G x ts) (hs:ShT ts) (h:Q (.v (.bool (!(ts.all TxS.may)))) G):Wf E (specOf l) pf141 [x,.fn 142 []] G Q:=by
 simp -implicitDefEqProofs only[pf141,hI,ZIt_eq,go_sem,↓reduceIte]
 refine⟨ts,⟨hx,hs⟩,?_⟩
 rw[idxT_any];exact h
theorem walk140 {n lo hi:Int} (h:Q (.v (.bool (decide (lo≤n∧n≤hi)))) G):Wf E C pf140 [.int .i64 n,.int .i64 lo,.int .i64 hi] G Q:=by
 simp -implicitDefEqProofs only[pf140,go_sem,↓reduceIte]
 refine⟨fun h1=> ?_,fun h1=> ?_⟩
 ·rw[show decide (lo≤n∧n≤hi)=decide (n≤hi)by rw[decide_eq_decide];exact⟨fun h=>h.2,fun h=>⟨h1,h⟩⟩]at h;exact h
 ·rw[show decide (lo≤n∧n≤hi)=false by rw[decide_eq_false_iff_not];omega]at h;exact h
theorem walk139 (h:Q (.v BlkS.zeroV) G):Wf E C pf139 [] G Q:=by
 simp -implicitDefEqProofs only[pf139,go_sem,↓reduceIte]
 exact h
theorem loop149i {QQ:Ex→St→Prop} {ts:List TxS} (hC:Abs.look l 142=some ZCf) (hok:calleeOk E.P 142=true) (hs:ShT ts)
  (hx:∀i t8,idxT 0 ts= -1→QQ (.exit 0) ⟨[some (.v (.sle 7 (ts.map TxS.v))),some (.v (.fn 142 [])),none,none,none,none,none,some (.v (.int .i64 (ts.length:Nat))),some (.v (.int .i64 (i:Nat)))],t8,[],G⟩) (hr:∀(σ:St) (i:Nat),σ.G=G→St.ev σ (.v 4)=some (.v (.int .i64 (i:Nat)))→idxT 0 ts=(i:Nat)→QQ .ret σ):
  ∀(r:List TxS) (i:Nat),ts.drop i=r→i≤ts.length→idxT 0 ts=idxT i r→WL (W E (specOf l) lp149_0) [0,1,7,8] QQ (r.length+1) ⟨[some (.v (.sle 7 (ts.map TxS.v))),some (.v (.fn 142 [])),none,none,none,none,none,some (.v (.int .i64 (ts.length:Nat))),some (.v (.int .i64 (i:Nat)))],[],[],G⟩:=by
 intro r
 have hl:=hs.2
 induction r with
 |nil=>
  intro i h1 h2 h3
  have:=drop_none h1
  have c1:¬(i:Int) < (ts.length:Int):=by omega
  refine WL_in lp149_0.eq_1 ?_
  simp -implicitDefEqProofs only[c1,go_sem,↓reduceIte]
  exact hx _ _ h3
 |cons p r ih=>
  intro i h1 h2 h3
  obtain⟨hd,hj,hlen⟩:=drop_one h1
  have a1:=at_drop2 h1
  have hsp:=hs.1 p (List.mem_of_getElem? a1)
  have c1:(i:Int) < (ts.length:Int):=by omega
  have c3:(0:Int)≤i:=by omega
  have w1:IntKind.i64.wrap ((i:Int)+1)=((i+1:Nat):Int):=wc (by omega) (by omega)
  obtain⟨x1,x2,x3,x4,x5,x6,x7⟩:=p
  have g:(ts.map TxS.v).getD i V.nilp= .agg [.int .i64 x1,.int .i64 x2,.int .i64 x3,.int .i64 x4,.int .i64 x5,.str x6,.str x7]:=getD_tx h1
  refine WL_in lp149_0.eq_1 ?_
  simp -implicitDefEqProofs only[c1,c3,g,w1,hC,ZCf_eq,hok,Int.toNat_natCast,List.length_map,go_sem,↓reduceIte]
  refine⟨⟨x1,x2,x3,x4,x5,x6,x7⟩,⟨rfl,hsp.1,hsp.2⟩,fun hm=> ?_,fun hm=> ?_⟩
  ·refine hr _ i rfl rfl ?_
   rw[h3];simp only[idxT];rw[if_neg (by rw[hm];exact Bool.false_ne_true)]
  ·refine ih (i+1) hd (by omega) ?_
   rw[h3];simp only[idxT];rw[if_pos hm]
theorem walk149i {ts:List TxS} (hC:Abs.look l 142=some ZCf) (hok:calleeOk E.P 142=true) (hs:ShT ts) (h:Q (.v (.int .i64 (idxT 0 ts))) G):Wf E (specOf l) pf149 [.sle 7 (ts.map TxS.v),.fn 142 []] G Q:=by
 simp -implicitDefEqProofs only[pf149,List.length_map,go_sem,↓reduceIte]
 refine⟨ts.length+1,?_⟩
 simp -implicitDefEqProofs only[go_sem,↓reduceIte]
 refine loop149i hC hok hs (fun i t8 hi=> ?_) (fun σ i hG2 hv hi=> ?_) ts 0 rfl (by omega) rfl
 ·rw[hi]at h
  simp -implicitDefEqProofs only[go_sem,↓reduceIte]
  exact h
 ·rw[hi]at h
  obtain⟨vs,ts2,L2,G2⟩:=σ
  dsimp only at hG2;subst hG2
  simp -implicitDefEqProofs only[hv,go_sem,↓reduceIte]
  exact h
theorem loop149s {QQ:Ex→St→Prop} {ts:List TxS} {id c:Nat} {LL:List V} (hG:Abs.look G id=some (.agg LL)) (hLL:∀(i:Nat) t,ts[i]? =some t→LL[i]? =some t.v) (hfl:ts.length≤LL.length) (hsz:∀y∈LL,V.size y=7) (hC:Abs.look l 142=some ZCf) (hok:calleeOk E.P 142=true) (hs:ShT ts)
  (hx:∀i t8,idxT 0 ts= -1→QQ (.exit 0) ⟨[some (.v (.sob id 7 0 ts.length c)),some (.v (.fn 142 [])),none,none,none,none,none,some (.v (.int .i64 (ts.length:Nat))),some (.v (.int .i64 (i:Nat)))],t8,[],G⟩) (hr:∀(σ:St) (i:Nat),σ.G=G→St.ev σ (.v 4)=some (.v (.int .i64 (i:Nat)))→idxT 0 ts=(i:Nat)→QQ .ret σ):
  ∀(r:List TxS) (i:Nat),ts.drop i=r→i≤ts.length→idxT 0 ts=idxT i r→WL (W E (specOf l) lp149_0) [0,1,7,8] QQ (r.length+1) ⟨[some (.v (.sob id 7 0 ts.length c)),some (.v (.fn 142 [])),none,none,none,none,none,some (.v (.int .i64 (ts.length:Nat))),some (.v (.int .i64 (i:Nat)))],[],[],G⟩:=by
 intro r
 have hl:=hs.2
 induction r with
 |nil=>
  intro i h1 h2 h3
  have:=drop_none h1
  have c1:¬(i:Int) < (ts.length:Int):=by omega
  refine WL_in lp149_0.eq_1 ?_
  simp -implicitDefEqProofs only[c1,go_sem,↓reduceIte]
  exact hx _ _ h3
 |cons p r ih=>
  intro i h1 h2 h3
  obtain⟨hd,hj,hlen⟩:=drop_one h1
  have a1:=at_drop2 h1
  have hsp:=hs.1 p (List.mem_of_getElem? a1)
  have c1:(i:Int) < (ts.length:Int):=by omega
  have c3:(0:Int)≤i:=by omega
  have w1:IntKind.i64.wrap ((i:Int)+1)=((i+1:Nat):Int):=wc (by omega) (by omega)
  obtain⟨x1,x2,x3,x4,x5,x6,x7⟩:=p
  have g:LL[i]? =some (V.agg [.int .i64 x1,.int .i64 x2,.int .i64 x3,.int .i64 x4,.int .i64 x5,.str x6,.str x7]):=hLL i _ a1
  refine WL_in lp149_0.eq_1 ?_
  simp -implicitDefEqProofs only[c1,c3,hG,g,w1,hC,ZCf_eq,hok,Int.toNat_natCast,List.length_map,go_sem,↓reduceIte]
  refine And.intro ⟨by omega,hsz⟩ ⟨⟨x1,x2,x3,x4,x5,x6,x7⟩,⟨rfl,hsp.1,hsp.2⟩,fun hm=> ?_,fun hm=> ?_⟩
  ·refine hr _ i rfl rfl ?_
   rw[h3];simp only[idxT];rw[if_neg (by rw[hm];exact Bool.false_ne_true)]
  ·refine ih (i+1) hd (by omega) ?_
   rw[h3];simp only[idxT];rw[if_pos hm]
theorem walk149s {ts:List TxS} {id c:Nat} {LL:List V} (hG:Abs.look G id=some (.agg LL)) (hLL:∀(i:Nat) t,ts[i]? =some t→LL[i]? =some t.v) (hfl:ts.length≤LL.length) (hsz:∀y∈LL,V.size y=7) (hC:Abs.look l 142=some ZCf) (hok:calleeOk E.P 142=true) (hs:ShT ts) (h:Q (.v (.int .i64 (idxT 0 ts))) G):Wf E (specOf l) pf149 [.sob id 7 0 ts.length c,.fn 142 []] G Q:=by
 simp -implicitDefEqProofs only[pf149,List.length_map,go_sem,↓reduceIte]
 refine⟨ts.length+1,?_⟩
 simp -implicitDefEqProofs only[go_sem,↓reduceIte]
 refine loop149s hG hLL hfl hsz hC hok hs (fun i t8 hi=> ?_) (fun σ i hG2 hv hi=> ?_) ts 0 rfl (by omega) rfl
 ·rw[hi]at h
  simp -implicitDefEqProofs only[go_sem,↓reduceIte]
  exact h
 ·rw[hi]at h
  obtain⟨vs,ts2,L2,G2⟩:=σ
  dsimp only at hG2;subst hG2
  simp -implicitDefEqProofs only[hv,go_sem,↓reduceIte]
  exact h
theorem walk149n (h:Q (.v (.int .i64 (-1))) G):Wf E C pf149 [.nils,.fn 142 []] G Q:=by
 simp -implicitDefEqProofs only[pf149,go_sem,↓reduceIte]
 refine⟨1,?_⟩
 simp -implicitDefEqProofs only[go_sem,↓reduceIte]
 refine WL_in lp149_0.eq_1 ?_
 simp -implicitDefEqProofs only[Int.lt_irrefl,go_sem,↓reduceIte]
 exact h
theorem walk149 {x:V} {ts:List TxS} (hC:Abs.look l 142=some ZCf) (hok:calleeOk E.P 142=true) (hx:TxsV G x ts) (hs:ShT ts) (h:Q (.v (.int .i64 (idxT 0 ts))) G):Wf E (specOf l) pf149 [x,.fn 142 []] G Q:=by
 rcases hx with (rfl|⟨rfl,rfl⟩)|⟨id,c,LL,rfl,hG,hLL,hfl,hsz⟩
 ·exact walk149i hC hok hs h
 ·exact walk149n h
 ·exact walk149s hG hLL hfl hsz hC hok hs h
end Go.Proofs.Ytegamlopcdjiaaa.Sha
