/- Laws over plain values, and what functions of the program hand back; no conditions. -/
import Derived.Test.YtegamlopcdjiaaaG9
namespace Go.Proofs.Ytegamlopcdjiaaa.Sha
open Go Go.Abs Go.Abs.Sha Go.Abs.Srt
set_option linter.unusedSimpArgs false
set_option linter.unusedVariables false
set_option maxRecDepth 100000
def pf119:PF:=
 PF.mk 1 3 31 ((PC.reg [nn (.v 1) (.box (.v 0)),nn (.v 2) (.mv true (.c (.v (.int .i64 0))))]).seq (((PC.regD 0 [nn (.t 3) (.load 36 true (.v 1)),nn
  (.t 4) (.call 139 []),nn (.t 5) (.call 43 [.t 3,.t 4])] []).seq (PC.cond (.t 5) ((PC.reg [nn (.v 2) (.mv true (.c (.v (.int .i64 0))))]).seq
  PC.ret) PC.skip)).seq (((PC.reg [nn (.t 6) (.fadr 1 32 (.v 1)),nn (.t 7) (.load 1 false (.t 6)),nn (.t 8) (.call 140 [.t 7,.c (.v (.int .i64 1)),
  .c (.v (.int .i64 1099511627776))]),nn (.t 9) (.un .not (.t 8)),nn (.t 10) (.mv false (.t 9)),⟨.t 11,.fadr 2 33 (.v 1),some (.t 10,false)⟩,⟨.t
  12,.load 1 false (.t 11),some (.t 10,false)⟩,⟨.t 13,.call 140 [.t 12,.c (.v (.int .i64 1)),.c (.v (.int .i64 1099511627776))],some (.t 10,
  false)⟩,⟨.t 14,.un .not (.t 13),some (.t 10,false)⟩,nn (.t 15) (.pick (.t 10) (.c (.v (.bool true))) (.t 14)),nn (.t 16) (.mv false (.t 15)),
  ⟨.t 17,.fadr 3 34 (.v 1),some (.t 16,false)⟩,⟨.t 18,.load 1 false (.t 17),some (.t 16,false)⟩,⟨.t 19,.call 140 [.t 18,.c (.v (.int .i64
  1)),.c (.v (.int .i64 21))],some (.t 16,false)⟩,⟨.t 20,.un .not (.t 19),some (.t 16,false)⟩,nn (.t 21) (.pick (.t 16) (.c (.v (.bool true)))
  (.t 20)),nn (.t 22) (.mv false (.t 21)),⟨.t 23,.fadr 4 35 (.v 1),some (.t 22,false)⟩,⟨.t 24,.load 1 false (.t 23),some (.t 22,false)⟩,⟨.t
  25,.len (.t 24),some (.t 22,false)⟩,⟨.t 26,.bin .gtr (.t 25) (.c (.v (.int .i64 8))),some (.t 22,false)⟩,nn (.t 27) (.pick (.t 22) (.c (.v
  (.bool true))) (.t 26))]).seq (PC.cond (.t 27) ((PC.reg [nn (.v 2) (.mv true (.c (.v (.int .i64 1))))]).seq PC.ret) PC.skip)).seq (((PC.reg [nn (.t
  28) (.fadr 4 35 (.v 1)),nn (.t 29) (.load 1 false (.t 28)),nn (.t 30) (.call 141 [.t 29,.c (.fn 142)])]).seq (PC.cond (.t 30) ((PC.reg [nn (.v 2)
  (.mv true (.c (.v (.int .i64 1))))]).seq PC.ret) PC.skip)).seq ((PC.reg [nn (.v 2) (.mv true (.c (.v (.int .i64 0))))]).seq PC.ret))))) [(.v 2,
  none)]
def lp34_0:PC:=
 ((PC.reg [mm 7 3,nn (.t 8) (.fadr 4 35 (.v 1)),nn (.t 9) (.load 1 false (.t 8)),nn (.t 10) (.len (.t 9)),nn (.t 11) (.bin .lss (.t 7) (.t
  10))]).seq (PC.cond (.t 11) PC.skip (PC.exit 0))).seq ((PC.block 1 ((PC.reg [nn (.t 14) (.fadr 4 35 (.v 1)),nn (.t 15) (.load 1 false (.t 14)),mm
  16 3,nn (.t 17) (.iadrS 7 (.t 15) (.t 16)),nn (.t 18) (.load 7 true (.t 17)),nn (.t 19) (.call 37 [.t 18]),nn (.t 20) (.un .not (.t 19))]).seq
  (PC.cond (.t 20) ((PC.reg [nn (.v 2) (.mv true (.c (.v (.bool false))))]).seq PC.ret) PC.skip))).seq (PC.reg [mm 12 3,nn (.t 13) (.bin .add (.t 12)
  (.c (.v (.int .i64 1)))),ma 3 13]))
def pf34:PF:=
 PF.mk 1 4 55 ((PC.reg [nn (.v 1) (.box (.v 0)),nn (.v 2) (.mv true (.c (.v (.bool false))))]).seq (((PC.reg [nn (.t 4) (.load 36 true (.v 1)),nn (.t
  5) (.build (.agg [.arr .u8 32 zz2,.int .i64 0,.int
  .i64 0,.int .i64 0,.nils]) []),nn (.t 6) (.call 46 [.t 4,.t 5])]).seq (PC.cond (.t 6) ((PC.reg [nn (.v 2) (.mv true (.c (.v (.bool true))))]).seq
  PC.ret) PC.skip)).seq (((PC.reg [nn (.v 3) (.mv true (.c (.v (.int .i64 0))))]).seq (PC.block 0 (PC.loop [1,3] lp34_0))).seq ((PC.reg [nn (.t 21)
  (.fadr 1 32 (.v 1)),nn (.t 22) (.load 1 false (.t 21)),nn (.t 23) (.bin .geq (.t 22) (.c (.v (.int .i64 1)))),nn (.t 24) (.mv false (.t 23)),⟨.t
  25,.fadr 1 32 (.v 1),some (.t 24,true)⟩,⟨.t 26,.load 1 false (.t 25),some (.t 24,true)⟩,⟨.t 27,.bin .leq (.t 26) (.c (.v (.int .i64
  1099511627776))),some (.t 24,true)⟩,nn (.t 28) (.pick (.t 24) (.t 27) (.c (.v (.bool false)))),nn (.t 29) (.mv false (.t 28)),⟨.t 30,.fadr 2 33
  (.v 1),some (.t 29,true)⟩,⟨.t 31,.load 1 false (.t 30),some (.t 29,true)⟩,⟨.t 32,.bin .geq (.t 31) (.c (.v (.int .i64 1))),some (.t 29,
  true)⟩,nn (.t 33) (.pick (.t 29) (.t 32) (.c (.v (.bool false)))),nn (.t 34) (.mv false (.t 33)),⟨.t 35,.fadr 2 33 (.v 1),some (.t 34,true)⟩,
  ⟨.t 36,.load 1 false (.t 35),some (.t 34,true)⟩,⟨.t 37,.bin .leq (.t 36) (.c (.v (.int .i64 1099511627776))),some (.t 34,true)⟩,nn (.t 38)
  (.pick (.t 34) (.t 37) (.c (.v (.bool false)))),nn (.t 39) (.mv false (.t 38)),⟨.t 40,.fadr 3 34 (.v 1),some (.t 39,true)⟩,⟨.t 41,.load 1
  false (.t 40),some (.t 39,true)⟩,⟨.t 42,.bin .geq (.t 41) (.c (.v (.int .i64 1))),some (.t 39,true)⟩,nn (.t 43) (.pick (.t 39) (.t 42) (.c (.v
  (.bool false)))),nn (.t 44) (.mv false (.t 43)),⟨.t 45,.fadr 3 34 (.v 1),some (.t 44,true)⟩,⟨.t 46,.load 1 false (.t 45),some (.t 44,true)⟩,
  ⟨.t 47,.bin .leq (.t 46) (.c (.v (.int .i64 21))),some (.t 44,true)⟩,nn (.t 48) (.pick (.t 44) (.t 47) (.c (.v (.bool false)))),nn (.t 49) (.mv
  false (.t 48)),⟨.t 50,.fadr 4 35 (.v 1),some (.t 49,true)⟩,⟨.t 51,.load 1 false (.t 50),some (.t 49,true)⟩,⟨.t 52,.len (.t 51),some (.t
  49,true)⟩,⟨.t 53,.bin .leq (.t 52) (.c (.v (.int .i64 8))),some (.t 49,true)⟩,nn (.t 54) (.pick (.t 49) (.t 53) (.c (.v (.bool false)))),ma 2
  54]).seq PC.ret)))) [(.v 2,none)]
attribute [local irreducible] W Wops WopsD WL Wop WopD
variable {E:Env} {C:Abs.Spec} {l:List (Nat×Spec1)} {G:List (Nat×V)} {Q:R→List (Nat×V)→Prop}
set_option maxHeartbeats 1000000
theorem TxsV.rws {G:List (Nat×V)} {x:V} {l:List TxS} (h:TxsV G x l):Rws x l .nils []:=by
 rcases h with h|⟨id,c,LL,rfl,_⟩
 ·exact .inl ⟨h,.inr ⟨rfl,rfl⟩⟩
 ·exact .inr ⟨id,c,rfl,rfl,rfl⟩
def ZKc:Spec1
 |[u],G,Q=>∃(b:BlkS) (x:V),(u=BV b x∧TxsV G x b.txs∧ShT b.txs)∧Q (.v (.int .i64 (if b.may=true then 0 else 1))) G
 |_,_,_=>False
theorem ZKc_eq {u}:ZKc [u] G Q=(∃(b:BlkS) (x:V),(u=BV b x∧TxsV G x b.txs∧ShT b.txs)∧Q (.v (.int .i64 (if b.may=true then 0 else 1))) G):=rfl
def ZKm:Spec1
 |[u],G,Q=>∃(b:BlkS) (x:V),(u=BV b x∧TxsV G x b.txs∧ShT b.txs)∧Q (.v (.bool b.may)) G
 |_,_,_=>False
theorem ZKm_eq {u}:ZKm [u] G Q=(∃(b:BlkS) (x:V),(u=BV b x∧TxsV G x b.txs∧ShT b.txs)∧Q (.v (.bool b.may)) G):=rfl
theorem all_may {l:List TxS}:l.all TxS.may=true↔∀t∈l,t.May:=by
 rw[List.all_eq_true];exact⟨fun h t ht=>of_decide_eq_true (h t ht),fun h t ht=>decide_eq_true (h t ht)⟩
theorem walk119 {b:BlkS} {x:V} (hF:Abs.look l 139=some ZFb0) (hS:Abs.look l 43=some ZBs) (hW:Abs.look l 140=some ZWt) (hO:Abs.look l 141=some ZOt)
  (hx:TxsV G x b.txs) (hs:ShT b.txs) (h:Q (.v (.int .i64 (if b.may=true then 0 else 1))) G):Wf E (specOf l) pf119 [BV b x] G Q:=by
 have y:b.May→Q (.v (.int .i64 0)) G:=fun hm=>by rw[if_pos (show b.may=true from decide_eq_true hm)]at h;exact h
 have n:¬b.May→Q (.v (.int .i64 1)) G:=fun hm=>by rw[if_neg (by rw[show b.may=false from decide_eq_false hm];exact Bool.false_ne_true)]at h;exact h
 unfold BlkS.May BlkS.Full at y n
 have hw:=hx.rws
 have hx0:=hx
 have hF0:∀{G:List (Nat×V)} {Q:R→List (Nat×V)→Prop},ZFb0 [] G Q=Q (.v BlkS.zeroV) G:=rfl
 rcases hx with (rfl|⟨rfl,e0⟩)|⟨id,c,LL,rfl,hG,hLL,hfl,hsz⟩
 ·simp -implicitDefEqProofs only[pf119,BV,hF,hF0,hS,ZBs_eq,hW,ZWt_eq,hO,ZOt_eq,List.length_map,go_sem,↓reduceIte]
  refine⟨b,BlkS.zero,_,.nils,⟨rfl,rfl,hw,hs.2,by decide⟩,fun hz=>y (.inl hz),fun hz=>⟨fun h1=>n (fun hh=>hh.elim hz (fun hf=>h1 hf.2.1)),fun h1=>⟨fun h2=>n (fun hh=>hh.elim hz (fun hf=>h2 hf.2.2.1)),fun h2=>⟨fun h3=>n (fun hh=>hh.elim hz (fun hf=>h3 hf.2.2.2.1)),fun h3=> ?_⟩⟩⟩⟩
  refine⟨fun h4=>n (fun hh=>hh.elim hz (fun hf=>by have:=hf.2.2.2.2;omega)),fun h4=> ?_⟩
  refine⟨b.txs,⟨hx0,hs⟩,fun h5=>n (fun hh=>hh.elim hz (fun hf=>by rw[all_may.2 hf.1]at h5;cases h5)),fun h5=>y (.inr ⟨all_may.1 h5,h1,h2,h3,by omega⟩)⟩
 ·simp -implicitDefEqProofs only[pf119,BV,hF,hF0,hS,ZBs_eq,hW,ZWt_eq,hO,ZOt_eq,List.length_map,go_sem,↓reduceIte]
  refine⟨b,BlkS.zero,_,.nils,⟨rfl,rfl,hw,hs.2,by decide⟩,fun hz=>y (.inl hz),fun hz=>⟨fun h1=>n (fun hh=>hh.elim hz (fun hf=>h1 hf.2.1)),fun h1=>⟨fun h2=>n (fun hh=>hh.elim hz (fun hf=>h2 hf.2.2.1)),fun h2=>⟨fun h3=>n (fun hh=>hh.elim hz (fun hf=>h3 hf.2.2.2.1)),fun h3=> ?_⟩⟩⟩⟩
  refine⟨b.txs,⟨hx0,hs⟩,fun h5=>n (fun hh=>hh.elim hz (fun hf=>by rw[all_may.2 hf.1]at h5;cases h5)),fun h5=>y (.inr ⟨all_may.1 h5,h1,h2,h3,by rw[e0];decide⟩)⟩
 ·simp -implicitDefEqProofs only[pf119,BV,hF,hF0,hS,ZBs_eq,hW,ZWt_eq,hO,ZOt_eq,List.length_map,go_sem,↓reduceIte]
  refine⟨b,BlkS.zero,_,.nils,⟨rfl,rfl,hw,hs.2,by decide⟩,fun hz=>y (.inl hz),fun hz=>⟨fun h1=>n (fun hh=>hh.elim hz (fun hf=>h1 hf.2.1)),fun h1=>⟨fun h2=>n (fun hh=>hh.elim hz (fun hf=>h2 hf.2.2.1)),fun h2=>⟨fun h3=>n (fun hh=>hh.elim hz (fun hf=>h3 hf.2.2.2.1)),fun h3=> ?_⟩⟩⟩⟩
  refine⟨fun h4=>n (fun hh=>hh.elim hz (fun hf=>by have:=hf.2.2.2.2;omega)),fun h4=> ?_⟩
  refine⟨b.txs,⟨hx0,hs⟩,fun h5=>n (fun hh=>hh.elim hz (fun hf=>by rw[all_may.2 hf.1]at h5;cases h5)),fun h5=>y (.inr ⟨all_may.1 h5,h1,h2,h3,by omega⟩)⟩
theorem loop34i {QQ:Ex→St→Prop} {b:BlkS} {z:List Bx} (hM:Abs.look l 37=some ZTm) (hs:ShT b.txs) (hz:z=[⟨false,BV b (.sle 7 (b.txs.map TxS.v))⟩])
  (hx:∀i ts,(∀t∈b.txs,t.May)→QQ (.exit 0) ⟨[none,some (.lp 0 []),none,some (.v (.int .i64 (i:Nat)))],ts,z,G⟩) (hr:∀ts (v:Option D),¬(∀t∈b.txs,t.May)→QQ .ret ⟨[none,some (.lp 0 []),some (.v (.bool false)),v],ts,z,G⟩):
  ∀(r:List TxS) (i:Nat),b.txs.drop i=r→i≤b.txs.length→(∀t∈b.txs.take i,t.May)→WL (W E (specOf l) lp34_0) [1,3] QQ (r.length+1) ⟨[none,some (.lp 0 []),none,some (.v (.int .i64 (i:Nat)))],[],z,G⟩:=by
 intro r
 have hl:=hs.2
 induction r with
 |nil=>
  intro i h1 h2 h3
  have:=drop_none h1
  have c1:¬(i:Int) < (b.txs.length:Int):=by omega
  rw[List.take_of_length_le (by omega)]at h3
  subst hz
  refine WL_in lp34_0.eq_1 ?_
  simp -implicitDefEqProofs only[BV,c1,List.length_map,go_sem,↓reduceIte]
  exact hx _ _ h3
 |cons p r ih=>
  intro i h1 h2 h3
  obtain⟨hd,hj,hlen⟩:=drop_one h1
  have a1:=at_drop2 h1
  have hsp:=hs.1 p (List.mem_of_getElem? a1)
  have hmem:=List.mem_of_getElem? a1
  have c1:(i:Int) < (b.txs.length:Int):=by omega
  have c3:(0:Int)≤i:=by omega
  have w1:IntKind.i64.wrap ((i:Int)+1)=((i+1:Nat):Int):=wc (by omega) (by omega)
  have ih1:p.May→_:=fun hm=>ih (i+1) hd (by omega) (fun t ht=>by
   rw[List.take_add_one,List.mem_append,a1]at ht
   rcases ht with ht|ht
   ·exact h3 t ht
   ·simp at ht;rw[ht];exact hm)
  obtain⟨x1,x2,x3,x4,x5,x6,x7⟩:=p
  have g:(b.txs.map TxS.v).getD i V.nilp= .agg [.int .i64 x1,.int .i64 x2,.int .i64 x3,.int .i64 x4,.int .i64 x5,.str x6,.str x7]:=getD_tx h1
  subst hz
  refine WL_in lp34_0.eq_1 ?_
  simp -implicitDefEqProofs only[BV,c1,c3,g,w1,hM,ZTm_eq,Int.toNat_natCast,List.length_map,go_sem,↓reduceIte]
  refine⟨⟨x1,x2,x3,x4,x5,x6,x7⟩,⟨rfl,hsp.1,hsp.2⟩,fun hm=> ?_,fun hm=> ?_⟩
  ·exact hr _ _ (fun hall=>by rw[show TxS.may _=true from decide_eq_true (hall _ hmem)]at hm;cases hm)
  ·exact ih1 (of_decide_eq_true hm)
theorem loop34s {QQ:Ex→St→Prop} {b:BlkS} {z:List Bx} {id c:Nat} {LL:List V} (hG:Abs.look G id=some (.agg LL)) (hLL:∀(i:Nat) t,b.txs[i]? =some t→LL[i]? =some t.v) (hfl:b.txs.length≤LL.length) (hsz:∀y∈LL,V.size y=7) (hM:Abs.look l 37=some ZTm) (hs:ShT b.txs) (hz:z=[⟨false,BV b (.sob id 7 0 b.txs.length c)⟩])
  (hx:∀i ts,(∀t∈b.txs,t.May)→QQ (.exit 0) ⟨[none,some (.lp 0 []),none,some (.v (.int .i64 (i:Nat)))],ts,z,G⟩) (hr:∀ts (v:Option D),¬(∀t∈b.txs,t.May)→QQ .ret ⟨[none,some (.lp 0 []),some (.v (.bool false)),v],ts,z,G⟩):
  ∀(r:List TxS) (i:Nat),b.txs.drop i=r→i≤b.txs.length→(∀t∈b.txs.take i,t.May)→WL (W E (specOf l) lp34_0) [1,3] QQ (r.length+1) ⟨[none,some (.lp 0 []),none,some (.v (.int .i64 (i:Nat)))],[],z,G⟩:=by
 intro r
 have hl:=hs.2
 induction r with
 |nil=>
  intro i h1 h2 h3
  have:=drop_none h1
  have c1:¬(i:Int) < (b.txs.length:Int):=by omega
  rw[List.take_of_length_le (by omega)]at h3
  subst hz
  refine WL_in lp34_0.eq_1 ?_
  simp -implicitDefEqProofs only[BV,c1,List.length_map,go_sem,↓reduceIte]
  exact hx _ _ h3
 |cons p r ih=>
  intro i h1 h2 h3
  obtain⟨hd,hj,hlen⟩:=drop_one h1
  have a1:=at_drop2 h1
  have hsp:=hs.1 p (List.mem_of_getElem? a1)
  have hmem:=List.mem_of_getElem? a1
  have c1:(i:Int) < (b.txs.length:Int):=by omega
  have c3:(0:Int)≤i:=by omega
  have w1:IntKind.i64.wrap ((i:Int)+1)=((i+1:Nat):Int):=wc (by omega) (by omega)
  have ih1:p.May→_:=fun hm=>ih (i+1) hd (by omega) (fun t ht=>by
   rw[List.take_add_one,List.mem_append,a1]at ht
   rcases ht with ht|ht
   ·exact h3 t ht
   ·simp at ht;rw[ht];exact hm)
  obtain⟨x1,x2,x3,x4,x5,x6,x7⟩:=p
  have g:LL[i]? =some (V.agg [.int .i64 x1,.int .i64 x2,.int .i64 x3,.int .i64 x4,.int .i64 x5,.str x6,.str x7]):=hLL i _ a1
  subst hz
  refine WL_in lp34_0.eq_1 ?_
  simp -implicitDefEqProofs only[BV,c1,c3,hG,g,w1,hM,ZTm_eq,Int.toNat_natCast,List.length_map,go_sem,↓reduceIte]
  refine And.intro ⟨by omega,hsz⟩ ⟨⟨x1,x2,x3,x4,x5,x6,x7⟩,⟨rfl,hsp.1,hsp.2⟩,fun hm=> ?_,fun hm=> ?_⟩
  ·exact hr _ _ (fun hall=>by rw[show TxS.may _=true from decide_eq_true (hall _ hmem)]at hm;cases hm)
  ·exact ih1 (of_decide_eq_true hm)
theorem walk34 {b:BlkS} {x:V} (hS:Abs.look l 46=some ZBs) (hM:Abs.look l 37=some ZTm)
  (hx:TxsV G x b.txs) (hs:ShT b.txs) (h:Q (.v (.bool b.may)) G):Wf E (specOf l) pf34 [BV b x] G Q:=by
 have y:b.May→Q (.v (.bool true)) G:=fun hm=>finB h (decide_eq_true hm)
 have n:¬b.May→Q (.v (.bool false)) G:=fun hm=>finB h (decide_eq_false hm)
 unfold BlkS.May BlkS.Full at y n
 have hw:=hx.rws
 rcases hx with (rfl|⟨rfl,e0⟩)|⟨id,c,LL,rfl,hG,hLL,hfl,hsz⟩
 ·simp -implicitDefEqProofs only[pf34,BV,hS,ZBs_eq,List.length_map,go_sem,↓reduceIte]
  refine⟨b,BlkS.zero,_,.nils,⟨rfl,rfl,hw,hs.2,by decide⟩,fun hz=>y (.inl hz),fun hz=>⟨b.txs.length+1,?_⟩⟩
  simp -implicitDefEqProofs only[go_sem,↓reduceIte]
  refine loop34i hM hs rfl (fun i ts hm=> ?_) (fun ts v hm=> ?_) b.txs 0 rfl (by omega) (fun t ht=>by simp at ht)
  ·simp -implicitDefEqProofs only[BV,List.length_map,go_sem,↓reduceIte]
   repeat' first|(intro _)|apply And.intro
   all_goals first
    |exact n (fun hh=>hh.elim hz (fun hf=>by obtain⟨_,q1,q2,q3,q4⟩:=hf;omega))
    |exact y (.inr ⟨hm,by omega,by omega,by omega,by rw[e0];decide⟩)
    |(refine finB h ?_
      by_cases h8:(b.txs.length:Int)≤8
      ·rw[decide_eq_true h8];exact decide_eq_true (.inr ⟨hm,by omega,by omega,by omega,by omega⟩)
      ·rw[decide_eq_false h8];exact decide_eq_false (fun hh=>hh.elim hz (fun hf=>h8 (by have:=hf.2.2.2.2;omega))))
  ·simp -implicitDefEqProofs only[go_sem,↓reduceIte]
   exact n (fun hh=>hh.elim hz (fun hf=>hm hf.1))
 ·simp -implicitDefEqProofs only[pf34,BV,hS,ZBs_eq,List.length_map,go_sem,↓reduceIte]
  refine⟨b,BlkS.zero,_,.nils,⟨rfl,rfl,hw,hs.2,by decide⟩,fun hz=>y (.inl hz),fun hz=>⟨1,?_⟩⟩
  simp -implicitDefEqProofs only[go_sem,↓reduceIte]
  refine WL_in lp34_0.eq_1 ?_
  simp -implicitDefEqProofs only[Int.lt_irrefl,go_sem,↓reduceIte]
  have hm:∀t∈b.txs,t.May:=fun t ht=>by rw[e0]at ht;cases ht
  repeat' first|(intro _)|apply And.intro
  all_goals first
   |exact n (fun hh=>hh.elim hz (fun hf=>by obtain⟨_,q1,q2,q3,q4⟩:=hf;omega))
   |exact y (.inr ⟨hm,by omega,by omega,by omega,by rw[e0];decide⟩)
   |(refine finB h ?_
     by_cases h8:(b.txs.length:Int)≤8
     ·rw[decide_eq_true h8];exact decide_eq_true (.inr ⟨hm,by omega,by omega,by omega,by omega⟩)
     ·rw[decide_eq_false h8];exact decide_eq_false (fun hh=>hh.elim hz (fun hf=>h8 (by have:=hf.2.2.2.2;omega))))
 ·simp -implicitDefEqProofs only[pf34,BV,hS,ZBs_eq,List.length_map,go_sem,↓reduceIte]
  refine⟨b,BlkS.zero,_,.nils,⟨rfl,rfl,hw,hs.2,by decide⟩,fun hz=>y (.inl hz),fun hz=>⟨b.txs.length+1,?_⟩⟩
  simp -implicitDefEqProofs only[go_sem,↓reduceIte]
  refine loop34s hG hLL hfl hsz hM hs rfl (fun i ts hm=> ?_) (fun ts v hm=> ?_) b.txs 0 rfl (by omega) (fun t ht=>by simp at ht)
  ·simp -implicitDefEqProofs only[BV,List.length_map,go_sem,↓reduceIte]
   repeat' first|(intro _)|apply And.intro
   all_goals first
    |exact n (fun hh=>hh.elim hz (fun hf=>by obtain⟨_,q1,q2,q3,q4⟩:=hf;omega))
    |exact y (.inr ⟨hm,by omega,by omega,by omega,by rw[e0];decide⟩)
    |(refine finB h ?_
      by_cases h8:(b.txs.length:Int)≤8
      ·rw[decide_eq_true h8];exact decide_eq_true (.inr ⟨hm,by omega,by omega,by omega,by omega⟩)
      ·rw[decide_eq_false h8];exact decide_eq_false (fun hh=>hh.elim hz (fun hf=>h8 (by have:=hf.2.2.2.2;omega))))
  ·simp -implicitDefEqProofs only[go_sem,↓reduceIte]
   exact n (fun hh=>hh.elim hz (fun hf=>hm hf.1))
def lp85_0:PC:=
 (PC.reg [nn (.t 42) (.bin .lss (.v 41) (.v 40))]).seq ((PC.cond (.t 42) PC.skip (PC.exit 2)).seq ((PC.block 3 ((PC.reg [nn (.t 43) (.iadrS 7 (.v 39)
  (.v 41)),nn (.t 44) (.load 7 true (.t 43)),nn (.v 9) (.alloc (.agg [.int .i64 0,.int .i64 0,.int .i64 0,.int .i64 0,.int .i64 0,.str ⟨⟨[]⟩⟩,
  .str ⟨⟨[]⟩⟩])),nn .no (.store 7 (.v 9) (.t 44))]).seq (PC.reg [mm 45 5,nn (.t 46) (.load 7 true (.v 9)),nn (.t 47) (.call 83 [.t 45,.t 46]),ma 5
  47]))).seq (PC.reg [nn (.t 48) (.bin .add (.v 41) (.c (.v (.int .i64 1)))),nn (.v 41) (.mv false (.t 48))])))
def lp85_1:PC:=
 (PC.reg [nn (.v 30) (.bin .lss (.v 29) (.v 28))]).seq ((PC.cond (.v 30) PC.skip (PC.exit 0)).seq ((PC.block 1 ((PC.reg [nn (.v 31) (.iadrS 1 (.v 27)
  (.v 29)),nn (.v 32) (.load 1 false (.v 31)),nn (.v 7) (.mv true (.v 32))]).seq (PC.reg [nn (.v 33) (.mv false (.v 5)),nn (.v 34) (.mv false (.v
  7)),nn (.v 35) (.conv .u64 (.v 34)),nn (.v 36) (.call 31 [.v 33,.v 35]),nn (.v 5) (.mv true (.v 36))]))).seq (PC.reg [nn (.v 37) (.bin .add (.v
  29) (.c (.v (.int .i64 1)))),nn (.v 29) (.mv false (.v 37))])))
def pf85:PF:=
 PF.mk 1 42 50 ((PC.reg [nn (.v 1) (.box (.v 0)),nn (.v 2) (.mv true (.c (.own .nils))),nn (.v 3) (.mv true (.c (.v (.int .i64 0))))]).seq (((PC.reg
  [nn (.v 10) (.load 36 true (.v 1)),nn (.v 11) (.call 119 [.v 10]),nn (.v 4) (.mv true (.v 11))]).seq ((PC.reg [nn (.v 12) (.mv false (.v 4)),nn
  (.v 13) (.bin .neq (.v 12) (.c (.v (.int .i64 0))))]).seq (PC.cond (.v 13) ((PC.reg [nn (.v 14) (.mv false (.v 4)),nn (.v 2) (.mv true (.c (.own
  .nils))),nn (.v 3) (.mv true (.v 14))]).seq PC.ret) PC.skip))).seq ((PC.reg [nn (.v 15) (.fadr 0 0 (.v 1)),nn (.v 16) (.load 32 true (.v 15)),nn
  (.v 17) (.call 82 [.c (.own .nils),.v 16]),nn (.v 5) (.mv true (.v 17))]).seq (((PC.reg [nn (.v 18) (.fadr 1 32 (.v 1)),nn (.v 19) (.load 1 false
  (.v 18)),nn (.v 20) (.fadr 2 33 (.v 1)),nn (.v 21) (.load 1 false (.v 20)),nn (.v 22) (.fadr 3 34 (.v 1)),nn (.v 23) (.load 1 false (.v 22)),nn
  (.v 24) (.fadr 4 35 (.v 1)),nn (.v 25) (.load 1 false (.v 24)),nn (.v 26) (.len (.v 25)),nn (.v 27) (.buildS (some .i64) 1 (.int .i64 0) 4 [(0,.v
  19),(1,.v 21),(2,.v 23),(3,.v 26)]),nn (.v 28) (.len (.v 27)),nn (.v 29) (.mv false (.c (.v (.int .i64 0))))]).seq (PC.block 0 (PC.loop [1,
  5,27,28,29] lp85_1))).seq (((PC.reg [nn (.v 38) (.fadr 4 35 (.v 1)),nn (.v 39) (.load 1 false (.v 38)),nn (.v 40) (.len (.v 39)),nn (.v 41)
  (.mv false (.c (.v (.int .i64 0))))]).seq (PC.block 2 (PC.loop [5,39,40,41] lp85_0))).seq ((PC.reg [mm 49 5,ma 2 49,nn (.v 3) (.mv true (.c (.v
  (.int .i64 0))))]).seq PC.ret)))))) [(.v 2,none),(.v 3,none)]
def ZBp:Spec1
 |[u],G,Q=>∃(b:BlkS) (x:V),(u=BV b x∧PlV x b.txs∧ShT b.txs∧H32 b.pa)∧Q (.tup [if b.may=true then .sli .u8 b.bytes else .nils,.int .i64 (if b.may=true then 0 else 1)]) G
 |_,_,_=>False
theorem ZBp_eq {u}:ZBp [u] G Q=(∃(b:BlkS) (x:V),(u=BV b x∧PlV x b.txs∧ShT b.txs∧H32 b.pa)∧Q (.tup [if b.may=true then .sli .u8 b.bytes else .nils,.int .i64 (if b.may=true then 0 else 1)]) G):=rfl
theorem BlkS.rng {b:BlkS} (h:b.May):(0≤b.vi∧b.vi≤1099511627776)∧(0≤b.he∧b.he≤1099511627776)∧(0≤b.who∧b.who≤21)∧b.txs.length≤8∧∀t∈b.txs,t.May:=by
 rcases h with rfl|⟨h1,h2,h3,h4,h5⟩
 ·exact⟨by decide,by decide,by decide,by decide,fun t ht=>by cases ht⟩
 ·exact⟨by omega,by omega,by omega,h5,h1⟩
theorem loopN85 {QQ:Ex→St→Prop} {b:List Int} {n1 n2 n3 n4:Int} {L:List Bx} (hN:Abs.look l 31=some SNu) (hb:b.length < 100000000) (h1:0≤n1∧n1≤1099511627776) (h2:0≤n2∧n2≤1099511627776) (h3:0≤n3∧n3≤1099511627776) (h4:0≤n4∧n4≤1099511627776)
  (h:∀ts v30,QQ (.exit 0) ⟨[none,some (.lp 0 []),none,none,none,some (.own (.sli .u8 (b++num n1.toNat++num n2.toNat++num n3.toNat++num n4.toNat))),none,none,none,none,none,none,none,none,none,none,none,none,none,none,none,none,none,none,none,none,none,some (.own (.sli .i64 [n1,n2,n3,n4])),some (.v (.int .i64 4)),some (.v (.int .i64 4)),v30,none,none,none,none,none,none,none,none,none,none,none],ts,L,G⟩):WL (W E (specOf l) lp85_1) [1,5,27,28,29] QQ 5 ⟨[none,some (.lp 0 []),none,none,none,some (.own (.sli .u8 b)),none,none,none,none,none,none,none,none,none,none,none,none,none,none,none,none,none,none,none,none,none,some (.own (.sli .i64 [n1,n2,n3,n4])),some (.v (.int .i64 4)),some (.v (.int .i64 0)),none,none,none,none,none,none,none,none,none,none,none,none],[],L,G⟩:=by
 have u1:IntKind.u64.wrap n1=n1:=u64_of (by omega) (by omega)
 have u2:IntKind.u64.wrap n2=n2:=u64_of (by omega) (by omega)
 have u3:IntKind.u64.wrap n3=n3:=u64_of (by omega) (by omega)
 have u4:IntKind.u64.wrap n4=n4:=u64_of (by omega) (by omega)
 obtain⟨_,l1⟩:=num_ok (n:=n1.toNat) (by omega)
 obtain⟨_,l2⟩:=num_ok (n:=n2.toNat) (by omega)
 obtain⟨_,l3⟩:=num_ok (n:=n3.toNat) (by omega)
 have i1:IntKind.i64.wrap 1=1:=by decide
 have i2:IntKind.i64.wrap 2=2:=by decide
 have i3:IntKind.i64.wrap 3=3:=by decide
 have i4:IntKind.i64.wrap 4=4:=by decide
 refine WL_in lp85_1.eq_1 ?_
 simp -implicitDefEqProofs only[hN,SNu_eq,u1,i1,go_sem,↓reduceIte]
 refine⟨b,⟨rfl,by omega,by omega,by omega⟩,?_⟩
 refine WL_in lp85_1.eq_1 ?_
 simp -implicitDefEqProofs only[hN,SNu_eq,u2,i2,go_sem,↓reduceIte]
 refine⟨b++num n1.toNat,⟨rfl,by rw[List.length_append];omega,by omega,by omega⟩,?_⟩
 refine WL_in lp85_1.eq_1 ?_
 simp -implicitDefEqProofs only[hN,SNu_eq,u3,i3,go_sem,↓reduceIte]
 refine⟨b++num n1.toNat++num n2.toNat,⟨rfl,by rw[List.length_append,List.length_append];omega,by omega,by omega⟩,?_⟩
 refine WL_in lp85_1.eq_1 ?_
 simp -implicitDefEqProofs only[hN,SNu_eq,u4,i4,go_sem,↓reduceIte]
 refine⟨b++num n1.toNat++num n2.toNat++num n3.toNat,⟨rfl,by rw[List.length_append,List.length_append,List.length_append];omega,by omega,by omega⟩,?_⟩
 refine WL_in lp85_1.eq_1 ?_
 simp -implicitDefEqProofs only[go_sem,↓reduceIte]
 exact h _ _
theorem loopT85 {QQ:Ex→St→Prop} {bb:List Int} {txs:List TxS} (hP:Abs.look l 83=some ZPt) (hb:bb.length < 1000000) (hn:txs.length≤8) (hm:∀t∈txs,t.May)
  (hx:∀i ts L,QQ (.exit 2) ⟨[none,none,none,none,none,some (.own (.sli .u8 (bb++txsB txs))),none,none,none,none,none,none,none,none,none,none,none,none,none,none,none,none,none,none,none,none,none,none,none,none,none,none,none,none,none,none,none,none,none,some (.v (.sle 7 (txs.map TxS.v))),some (.v (.int .i64 (txs.length:Nat))),some (.v (.int .i64 (i:Nat)))],ts,L,G⟩):
  ∀(r:List TxS) (i:Nat) (acc:List Int) (L:List Bx),txs.drop i=r→i≤txs.length→acc=bb++txsB (txs.take i)→WL (W E (specOf l) lp85_0) [5,39,40,41] QQ (r.length+1) ⟨[none,none,none,none,none,some (.own (.sli .u8 acc)),none,none,none,none,none,none,none,none,none,none,none,none,none,none,none,none,none,none,none,none,none,none,none,none,none,none,none,none,none,none,none,none,none,some (.v (.sle 7 (txs.map TxS.v))),some (.v (.int .i64 (txs.length:Nat))),some (.v (.int .i64 (i:Nat)))],[],L,G⟩:=by
 intro r
 induction r with
 |nil=>
  intro i acc L h1 h2 h3
  have:=drop_none h1
  have c1:¬(i:Int) < (txs.length:Int):=by omega
  rw[List.take_of_length_le (by omega)]at h3
  subst h3
  refine WL_in lp85_0.eq_1 ?_
  simp -implicitDefEqProofs only[c1,go_sem,↓reduceIte]
  exact hx _ _ _
 |cons p r ih=>
  intro i acc L h1 h2 h3
  obtain⟨hd,hj,hlen⟩:=drop_one h1
  have a1:=at_drop2 h1
  have hmp:=hm p (List.mem_of_getElem? a1)
  obtain⟨k1,k2⟩:=txsB_ok (l:=txs.take i) (fun t ht=>hm t (List.mem_of_mem_take ht))
  have tl:(txs.take i).length≤8:=by rw[List.length_take];omega
  have al:acc.length < 10000000:=by rw[h3,List.length_append];omega
  have c1:(i:Int) < (txs.length:Int):=by omega
  have c3:(0:Int)≤i:=by omega
  have w1:IntKind.i64.wrap ((i:Int)+1)=((i+1:Nat):Int):=wc (by omega) (by omega)
  have hks:p.key.size < 1000000000∧p.val.size < 1000000000:=by
   have e1:(byS p.key).length=p.key.size:=byS_len
   rcases hmp.2.2 with⟨_,_,_,e2,e3⟩|⟨_,_,_,e2,e3⟩|⟨_,_,_,e2,e3⟩
   ·rw[e2,e3];decide
   ·have:=e2.2.2;omega
   ·have:=e2.2.2;rw[e3];exact⟨by omega,by decide⟩
  have hA:∀x:Bx,(L++[x])[L.length]? =some x:=fun x=>by simp
  have hS:∀x y:Bx,((L++[x]).set L.length y)[L.length]? =some y:=fun x y=>by simp
  have hpm:p.may=true:=decide_eq_true hmp
  have ih1:=fun L=>ih (i+1) (acc++p.bytes) L hd (by omega) (by rw[h3,List.take_add_one,a1,Option.toList_some,txsB_snoc,List.append_assoc])
  obtain⟨x1,x2,x3,x4,x5,x6,x7⟩:=p
  have g:(txs.map TxS.v).getD i V.nilp= .agg [.int .i64 x1,.int .i64 x2,.int .i64 x3,.int .i64 x4,.int .i64 x5,.str x6,.str x7]:=getD_tx h1
  refine WL_in lp85_0.eq_1 ?_
  simp -implicitDefEqProofs only[c1,c3,w1,g,hA,hS,hP,ZPt_eq,Int.toNat_natCast,List.length_map,go_sem,↓reduceIte]
  refine⟨acc,⟨x1,x2,x3,x4,x5,x6,x7⟩,⟨rfl,by omega,rfl,hks.1,hks.2⟩,?_⟩
  rw[if_pos hpm]
  exact ih1 _
theorem walk85 {b:BlkS} {x:V} (hC:Abs.look l 119=some ZKc) (hN:Abs.look l 31=some SNu) (hH:Abs.look l 82=some SHa) (hP:Abs.look l 83=some ZPt)
  (hx:PlV x b.txs) (hs:ShT b.txs) (hh:H32 b.pa) (h:Q (.tup [if b.may=true then .sli .u8 b.bytes else .nils,.int .i64 (if b.may=true then 0 else 1)]) G):Wf E (specOf l) pf85 [BV b x] G Q:=by
 by_cases hm:b.may=true
 ·have hM:b.May:=of_decide_eq_true hm
  obtain⟨q1,q2,q3,q4,q5⟩:=BlkS.rng hM
  rw[if_pos hm,if_pos hm]at h
  have l32:b.pa.length=32:=hh.2
  obtain⟨_,l1⟩:=num_ok (n:=b.vi.toNat) (by omega)
  obtain⟨_,l2⟩:=num_ok (n:=b.he.toNat) (by omega)
  obtain⟨_,l3⟩:=num_ok (n:=b.who.toNat) (by omega)
  obtain⟨_,l4⟩:=num_ok (n:=b.txs.length) (by omega)
  have hx0:=hx
  rcases hx with rfl|⟨rfl,e0⟩
  ·simp -implicitDefEqProofs only[pf85,BV,hC,ZKc_eq,go_sem,↓reduceIte]
   refine⟨b,_,⟨rfl,.inl hx0,hs⟩,?_⟩
   rw[if_pos hm]
   simp -implicitDefEqProofs only[hH,SHa_eq,l32,List.length_map,go_sem,↓reduceIte]
   refine⟨[],⟨rfl,by decide⟩,5,?_⟩
   simp -implicitDefEqProofs only[go_sem,↓reduceIte]
   refine loopN85 hN (by omega) q1 q2 (by omega) (by omega) (fun ts v30=> ?_)
   simp -implicitDefEqProofs only[BV,List.length_map,go_sem,↓reduceIte]
   refine⟨b.txs.length+1,?_⟩
   simp -implicitDefEqProofs only[go_sem,↓reduceIte]
   refine loopT85 (bb:=b.pa++num b.vi.toNat++num b.he.toNat++num b.who.toNat++num b.txs.length) hP (by simp only[List.length_append];omega) q4 q5 (fun i ts L=> ?_) b.txs 0 _ _ rfl (by omega) (by rw[List.take_zero];simp[txsB])
   simp -implicitDefEqProofs only[go_sem,↓reduceIte]
   exact h
  ·simp -implicitDefEqProofs only[pf85,BV,hC,ZKc_eq,go_sem,↓reduceIte]
   refine⟨b,_,⟨rfl,.inl hx0,hs⟩,?_⟩
   rw[if_pos hm]
   simp -implicitDefEqProofs only[hH,SHa_eq,l32,go_sem,↓reduceIte]
   refine⟨[],⟨rfl,by decide⟩,5,?_⟩
   simp -implicitDefEqProofs only[go_sem,↓reduceIte]
   refine loopN85 hN (by omega) q1 q2 (by omega) (by decide) (fun ts v30=> ?_)
   simp -implicitDefEqProofs only[BV,go_sem,↓reduceIte]
   refine⟨1,?_⟩
   simp -implicitDefEqProofs only[go_sem,↓reduceIte]
   refine WL_in lp85_0.eq_1 ?_
   simp -implicitDefEqProofs only[Int.lt_irrefl,go_sem,↓reduceIte]
   unfold BlkS.bytes at h
   rw[e0]at h
   simp only[txsB,List.append_nil,List.length_nil]at h
   exact h
 ·rw[if_neg hm,if_neg hm]at h
  obtain⟨x1,x2⟩:=hx.one
  unfold V.isAgg at x2
  simp -implicitDefEqProofs only[pf85,BV,x1,x2,hC,ZKc_eq,go_sem,↓reduceIte]
  refine⟨b,x,⟨rfl,.inl hx,hs⟩,?_⟩
  rw[if_neg hm]
  simp -implicitDefEqProofs only[go_sem,↓reduceIte]
  exact h
def lp57_0:PC:=
 ((PC.reg [mm 29 4,nn (.t 30) (.fadr 4 35 (.v 1)),nn (.t 31) (.load 1 false (.t 30)),nn (.t 32) (.len (.t 31)),nn (.t 33) (.bin .lss (.t 29) (.t
  32))]).seq (PC.cond (.t 33) PC.skip (PC.exit 0))).seq ((PC.block 1 (PC.reg [nn (.t 36) (.mv true (.v 3)),nn (.t 37) (.fadr 4 35 (.v 1)),nn (.t 38)
  (.load 1 false (.t 37)),mm 39 4,nn (.t 40) (.iadrS 7 (.t 38) (.t 39)),nn (.t 41) (.load 7 true (.t 40)),nn (.t 42) (.call 54 [.t 41]),nn (.t 43)
  (.app (some .u8) 1 1 (.t 36) (.t 42)),ma 3 43])).seq (PC.reg [mm 34 4,nn (.t 35) (.bin .add (.t 34) (.c (.v (.int .i64 1)))),ma 4 35]))
def pf57:PF:=
 PF.mk 1 5 45 ((PC.reg [nn (.v 1) (.box (.v 0)),nn (.v 2) (.mv true (.c (.own .nils)))]).seq ((PC.regD 0 [nn (.t 5) (.fadr 0 0 (.v 1)),nn (.t 6)
  (.load 32 true (.t 5)),nn (.t 7) (.call 53 [.t 6]),nn (.t 8) (.fadr 1 32 (.v 1)),nn (.t 9) (.load 1 false (.t 8)),nn (.t 10) (.conv .u64 (.t 9)),
  nn (.t 11) (.call 104 [.t 10]),nn (.t 12) (.app (some .u8) 1 1 (.t 7) (.t 11)),ma 3 12] []).seq ((PC.reg [nn (.t 13) (.mv true (.v 3)),nn (.t 14)
  (.fadr 2 33 (.v 1)),nn (.t 15) (.load 1 false (.t 14)),nn (.t 16) (.conv .u64 (.t 15)),nn (.t 17) (.call 104 [.t 16]),nn (.t 18) (.app (some .u8)
  1 1 (.t 13) (.t 17)),ma 3 18]).seq ((PC.reg [nn (.t 19) (.mv true (.v 3)),nn (.t 20) (.fadr 3 34 (.v 1)),nn (.t 21) (.load 1 false (.t 20)),nn
  (.t 22) (.conv .u8 (.t 21)),nn (.t 23) (.fadr 4 35 (.v 1)),nn (.t 24) (.load 1 false (.t 23)),nn (.t 25) (.len (.t 24)),nn (.t 26) (.conv .u8 (.t
  25)),nn (.t 27) (.buildS (some .u8) 1 (.int .u8 0) 2 [(0,.t 22),(1,.t 26)]),nn (.t 28) (.app (some .u8) 1 1 (.t 19) (.t 27)),ma 3 28]).seq
  (((PC.reg [nn (.v 4) (.mv true (.c (.v (.int .i64 0))))]).seq (PC.block 0 (PC.loop [1,3,4] lp57_0))).seq ((PC.reg [nn (.t 44) (.mv true (.v 3)),ma
  2 44]).seq PC.ret)))))) [(.v 2,none)]
def ZBq:Spec1
 |[u],G,Q=>∃(b:BlkS) (x:V),(u=BV b x∧TxsV G x b.txs∧H32 b.pa∧b.May)∧Q (.own (.sli .u8 b.bytes)) G
 |_,_,_=>False
theorem ZBq_eq {u}:ZBq [u] G Q=(∃(b:BlkS) (x:V),(u=BV b x∧TxsV G x b.txs∧H32 b.pa∧b.May)∧Q (.own (.sli .u8 b.bytes)) G):=rfl
theorem loop57i {QQ:Ex→St→Prop} {b:BlkS} {bb:List Int} {z:List Bx} (hB:Abs.look l 54=some ZBt) (hb:bb.length < 1000000) (hn:b.txs.length≤8) (hm:∀t∈b.txs,t.May) (hz:z=[⟨false,BV b (.sle 7 (b.txs.map TxS.v))⟩])
  (hx:∀i ts,QQ (.exit 0) ⟨[none,some (.lp 0 []),none,some (.own (.sli .u8 (bb++txsB b.txs))),some (.v (.int .i64 (i:Nat)))],ts,z,G⟩):
  ∀(r:List TxS) (i:Nat) (acc:List Int),b.txs.drop i=r→i≤b.txs.length→acc=bb++txsB (b.txs.take i)→WL (W E (specOf l) lp57_0) [1,3,4] QQ (r.length+1) ⟨[none,some (.lp 0 []),none,some (.own (.sli .u8 acc)),some (.v (.int .i64 (i:Nat)))],[],z,G⟩:=by
 intro r
 induction r with
 |nil=>
  intro i acc h1 h2 h3
  have:=drop_none h1
  have c1:¬(i:Int) < (b.txs.length:Int):=by omega
  rw[List.take_of_length_le (by omega)]at h3
  subst h3
  subst hz
  refine WL_in lp57_0.eq_1 ?_
  simp -implicitDefEqProofs only[BV,c1,List.length_map,go_sem,↓reduceIte]
  exact hx _ _
 |cons p r ih=>
  intro i acc h1 h2 h3
  obtain⟨hd,hj,hlen⟩:=drop_one h1
  have a1:=at_drop2 h1
  have hmp:=hm p (List.mem_of_getElem? a1)
  obtain⟨k1,k2⟩:=txsB_ok (l:=b.txs.take i) (fun t ht=>hm t (List.mem_of_mem_take ht))
  have tl:(b.txs.take i).length≤8:=by rw[List.length_take];omega
  have al:acc.length < 10000000:=by rw[h3,List.length_append];omega
  obtain⟨_,pl,_⟩:=TxS.bytes_ok hmp
  have c1:(i:Int) < (b.txs.length:Int):=by omega
  have c3:(0:Int)≤i:=by omega
  have w1:IntKind.i64.wrap ((i:Int)+1)=((i+1:Nat):Int):=wc (by omega) (by omega)
  have ih1:=ih (i+1) (acc++p.bytes) hd (by omega) (by rw[h3,List.take_add_one,a1,Option.toList_some,txsB_snoc,List.append_assoc])
  obtain⟨x1,x2,x3,x4,x5,x6,x7⟩:=p
  have g:(b.txs.map TxS.v).getD i V.nilp= .agg [.int .i64 x1,.int .i64 x2,.int .i64 x3,.int .i64 x4,.int .i64 x5,.str x6,.str x7]:=getD_tx h1
  subst hz
  refine WL_in lp57_0.eq_1 ?_
  simp -implicitDefEqProofs only[BV,c1,c3,w1,g,hB,ZBt_eq,Int.toNat_natCast,List.length_map,go_sem,↓reduceIte]
  refine⟨⟨x1,x2,x3,x4,x5,x6,x7⟩,⟨rfl,hmp⟩,?_⟩
  exact⟨by omega,ih1⟩
theorem loop57s {QQ:Ex→St→Prop} {b:BlkS} {bb:List Int} {z:List Bx} {id c:Nat} {LL:List V} (hG:Abs.look G id=some (.agg LL)) (hLL:∀(i:Nat) t,b.txs[i]? =some t→LL[i]? =some t.v) (hfl:b.txs.length≤LL.length) (hsz:∀y∈LL,V.size y=7) (hB:Abs.look l 54=some ZBt) (hb:bb.length < 1000000) (hn:b.txs.length≤8) (hm:∀t∈b.txs,t.May) (hz:z=[⟨false,BV b (.sob id 7 0 b.txs.length c)⟩])
  (hx:∀i ts,QQ (.exit 0) ⟨[none,some (.lp 0 []),none,some (.own (.sli .u8 (bb++txsB b.txs))),some (.v (.int .i64 (i:Nat)))],ts,z,G⟩):
  ∀(r:List TxS) (i:Nat) (acc:List Int),b.txs.drop i=r→i≤b.txs.length→acc=bb++txsB (b.txs.take i)→WL (W E (specOf l) lp57_0) [1,3,4] QQ (r.length+1) ⟨[none,some (.lp 0 []),none,some (.own (.sli .u8 acc)),some (.v (.int .i64 (i:Nat)))],[],z,G⟩:=by
 intro r
 induction r with
 |nil=>
  intro i acc h1 h2 h3
  have:=drop_none h1
  have c1:¬(i:Int) < (b.txs.length:Int):=by omega
  rw[List.take_of_length_le (by omega)]at h3
  subst h3
  subst hz
  refine WL_in lp57_0.eq_1 ?_
  simp -implicitDefEqProofs only[BV,c1,List.length_map,go_sem,↓reduceIte]
  exact hx _ _
 |cons p r ih=>
  intro i acc h1 h2 h3
  obtain⟨hd,hj,hlen⟩:=drop_one h1
  have a1:=at_drop2 h1
  have hmp:=hm p (List.mem_of_getElem? a1)
  obtain⟨k1,k2⟩:=txsB_ok (l:=b.txs.take i) (fun t ht=>hm t (List.mem_of_mem_take ht))
  have tl:(b.txs.take i).length≤8:=by rw[List.length_take];omega
  have al:acc.length < 10000000:=by rw[h3,List.length_append];omega
  obtain⟨_,pl,_⟩:=TxS.bytes_ok hmp
  have c1:(i:Int) < (b.txs.length:Int):=by omega
  have c3:(0:Int)≤i:=by omega
  have w1:IntKind.i64.wrap ((i:Int)+1)=((i+1:Nat):Int):=wc (by omega) (by omega)
  have ih1:=ih (i+1) (acc++p.bytes) hd (by omega) (by rw[h3,List.take_add_one,a1,Option.toList_some,txsB_snoc,List.append_assoc])
  obtain⟨x1,x2,x3,x4,x5,x6,x7⟩:=p
  have g:LL[i]? =some (V.agg [.int .i64 x1,.int .i64 x2,.int .i64 x3,.int .i64 x4,.int .i64 x5,.str x6,.str x7]):=hLL i _ a1
  subst hz
  refine WL_in lp57_0.eq_1 ?_
  simp -implicitDefEqProofs only[BV,c1,c3,w1,hG,g,hB,ZBt_eq,Int.toNat_natCast,List.length_map,go_sem,↓reduceIte]
  refine And.intro ⟨by omega,hsz⟩ ⟨⟨x1,x2,x3,x4,x5,x6,x7⟩,⟨rfl,hmp⟩,?_⟩
  exact⟨by omega,ih1⟩
theorem walk57 {b:BlkS} {x:V} (hY:Abs.look l 53=some SBy) (hN:Abs.look l 104=some (SRn 10)) (hB:Abs.look l 54=some ZBt)
  (hx:TxsV G x b.txs) (hh:H32 b.pa) (hM:b.May) (h:Q (.own (.sli .u8 b.bytes)) G):Wf E (specOf l) pf57 [BV b x] G Q:=by
 obtain⟨q1,q2,q3,q4,q5⟩:=BlkS.rng hM
 have l32:b.pa.length=32:=hh.2
 obtain⟨_,l1⟩:=num_ok (n:=b.vi.toNat) (by omega)
 obtain⟨_,l2⟩:=num_ok (n:=b.he.toNat) (by omega)
 have u1:IntKind.u64.wrap b.vi=b.vi:=u64_of (by omega) (by omega)
 have u2:IntKind.u64.wrap b.he=b.he:=u64_of (by omega) (by omega)
 have u3:IntKind.u8.wrap b.who=b.who:=by simp only[IntKind.wrap,IntKind.bits,IntKind.signed];simp;omega
 have u4:IntKind.u8.wrap (b.txs.length:Int)=(b.txs.length:Int):=by simp only[IntKind.wrap,IntKind.bits,IntKind.signed];simp;omega
 have u0:IntKind.u8.wrap 0=0:=by decide
 have e3:num b.who.toNat=[b.who]:=by rw[num_small (by omega),Int.toNat_of_nonneg (by omega)]
 have e4:num b.txs.length=[(b.txs.length:Int)]:=by rw[num_small (by omega)]
 have p10:∀n:Int,0≤n→n≤1099511627776→n.toNat < 128 ^ 10:=fun n h1 h2=>by
  have:(128:Nat) ^ 10=1180591620717411303424:=by decide
  omega
 have r1:=p10 b.vi q1.1 q1.2;have r2:=p10 b.he q2.1 q2.2
 unfold BlkS.bytes at h
 rw[e3,e4]at h
 have eW:b.pa++num b.vi.toNat++num b.he.toNat++[b.who,(b.txs.length:Int)]++txsB b.txs=b.pa++num b.vi.toNat++num b.he.toNat++[b.who]++[(b.txs.length:Int)]++txsB b.txs:=by simp only[List.append_assoc,List.cons_append,List.nil_append]
 rcases hx with (rfl|⟨rfl,e0⟩)|⟨id,c,LL,rfl,hG,hLL,hfl,hsz⟩
 ·simp -implicitDefEqProofs only[pf57,BV,hY,SBy_eq,l32,hN,SRn_eq,u1,u2,u3,u4,List.length_map,go_sem,↓reduceIte]
  refine⟨⟨by omega,r1,by omega⟩,by omega,⟨by omega,r2,by omega⟩,by omega,by omega,b.txs.length+1,?_⟩
  simp -implicitDefEqProofs only[go_sem,↓reduceIte]
  refine loop57i (bb:=b.pa++num b.vi.toNat++num b.he.toNat++[b.who,(b.txs.length:Int)]) hB (by simp only[List.length_append,List.length_cons,List.length_nil];omega) q4 q5 rfl (fun i ts=> ?_) b.txs 0 _ rfl (by omega) (by rw[List.take_zero];simp[txsB])
  simp -implicitDefEqProofs only[go_sem,↓reduceIte]
  rw[eW];exact h
 ·simp -implicitDefEqProofs only[pf57,BV,hY,SBy_eq,l32,hN,SRn_eq,u1,u2,u3,u0,List.length_map,go_sem,↓reduceIte]
  refine⟨⟨by omega,r1,by omega⟩,by omega,⟨by omega,r2,by omega⟩,by omega,by omega,1,?_⟩
  simp -implicitDefEqProofs only[go_sem,↓reduceIte]
  refine WL_in lp57_0.eq_1 ?_
  simp -implicitDefEqProofs only[Int.lt_irrefl,go_sem,↓reduceIte]
  rw[e0]at h
  simp only[txsB,List.append_nil,List.length_nil,List.append_assoc,List.cons_append,List.nil_append]at h
  simp only[List.append_assoc]
  exact h
 ·simp -implicitDefEqProofs only[pf57,BV,hY,SBy_eq,l32,hN,SRn_eq,u1,u2,u3,u4,List.length_map,go_sem,↓reduceIte]
  refine⟨⟨by omega,r1,by omega⟩,by omega,⟨by omega,r2,by omega⟩,by omega,by omega,b.txs.length+1,?_⟩
  simp -implicitDefEqProofs only[go_sem,↓reduceIte]
  refine loop57s (bb:=b.pa++num b.vi.toNat++num b.he.toNat++[b.who,(b.txs.length:Int)]) hG hLL hfl hsz hB (by simp only[List.length_append,List.length_cons,List.length_nil];omega) q4 q5 rfl (fun i ts=> ?_) b.txs 0 _ rfl (by omega) (by rw[List.take_zero];simp[txsB])
  simp -implicitDefEqProofs only[go_sem,↓reduceIte]
  rw[eW];exact h
def pf50:PF:=
 PF.mk 2 5 10 ((PC.reg [nn (.v 4) (.mv true (.c (.v (.bool false))))]).seq ((PC.reg [mm 5 0,nn (.t 6) (.s2b true (.t 5)),mm 7 1,nn (.t 8) (.s2b true
  (.t 7)),nn (.t 9) (.bin .eql (.t 6) (.t 8)),ma 4 9]).seq PC.ret)) [(.v 4,none)]
def lp100_0:PC:=
 (PC.reg [nn (.t 22) (.bin .lss (.v 21) (.v 20))]).seq ((PC.cond (.t 22) PC.skip (PC.exit 0)).seq ((PC.block 1 ((PC.reg [mm 24 4,nn (.t 25) (.call 99
  [.t 24]),nn (.t 23) (.mv false (.t 25)),nn (.t 26) (.ext (.t 23) 0),nn (.t 27) (.ext (.t 23) 1),nn (.v 6) (.alloc (.agg [.int .i64 0,.int .i64
  0,.int .i64 0,.int .i64 0,.int .i64 0,.str ⟨⟨[]⟩⟩,.str ⟨⟨[]⟩⟩])),nn .no (.store 7 (.v 6) (.t 26)),ma 7 27]).seq (((PC.reg [mm 28 7,nn (.t 29)
  (.un .not (.t 28))]).seq (PC.cond (.t 29) ((PC.reg [nn (.t 30) (.build (.agg [.arr .u8 32 [0,0,0,0,0,0,0,0,0,0,0,0,0,0,0,0,0,0,0,
  0,0,0,0,0,0,0,0,0,0,0,0,0],.int .i64 0,.int .i64 0,.int .i64 0,.nils]) []),nn .no (.store 36 (.v 2) (.t 30)),nn (.v 3) (.mv true
  (.c (.v (.int .i64 2))))]).seq PC.ret) PC.skip)).seq (PC.reg [nn (.t 31) (.fadr 4 35 (.v 5)),nn (.t 32) (.load 1 false (.t 31)),nn (.t 33) (.load 7
  true (.v 6)),nn (.t 34) (.buildS none 7 (.agg [.int .i64 0,.int .i64 0,.int .i64 0,.int .i64 0,.int .i64 0,.str ⟨⟨[]⟩⟩,.str ⟨⟨[]⟩⟩]) 1 [(0,.t
  33)]),nn (.t 35) (.appR 7 72 (.agg [.int .i64 0,.int .i64 0,.int .i64 0,.int .i64 0,.int .i64 0,.str ⟨⟨[]⟩⟩,.str ⟨⟨[]⟩⟩]) (.t 32) (.t 34)),nn
  (.t 36) (.fadr 4 35 (.v 5)),nn .no (.store 1 (.t 36) (.t 35))])))).seq (PC.reg [nn (.t 37) (.bin .add (.v 21) (.c (.v (.int .i64 1)))),nn (.v 21)
  (.mv false (.t 37))])))
def pf100:PF:=
 PF.mk 1 22 48 ((PC.reg [nn (.v 2) (.alloc (.agg [.arr .u8 32 [0,0,0,0,0,0,0,0,0,0,0,0,0,0,0,0,0,0,0,0,0,0,0,0,0,0,0,0,0,0,
  0,0],.int .i64 0,.int .i64 0,.int .i64 0,.nils])),nn (.v 3) (.mv true (.c (.v (.int .i64 0))))]).seq ((PC.reg [nn (.v 8) (.mv false (.v 0)),nn
  (.v 9) (.call 47 [.v 8]),nn (.v 4) (.mv true (.v 9))]).seq ((PC.reg [nn (.v 10) (.mv false (.v 4)),nn (.v 11) (.call 98 [.v 10]),nn (.v 12) (.mv
  false (.v 4)),nn (.v 13) (.call 48 [.v 12,.c (.v (.int .i64 1099511627776))]),nn (.v 14) (.mv false (.v 4)),nn (.v 15) (.call 48 [.v 14,.c (.v
  (.int .i64 1099511627776))]),nn (.v 16) (.mv false (.v 4)),nn (.v 17) (.call 48 [.v 16,.c (.v (.int .i64 21))]),nn (.v 18) (.build (.agg [.arr
  .u8 32 zz2,.int .i64 0,.int .i64 0,.int .i64 0,
  .nils]) [(0,.v 11),(1,.v 13),(2,.v 15),(3,.v 17)]),nn (.v 5) (.alloc (.agg [.arr .u8 32 [0,0,0,0,0,0,0,0,0,0,0,0,0,0,0,0,0,
  0,0,0,0,0,0,0,0,0,0,0,0,0,0,0],.int .i64 0,.int .i64 0,.int .i64 0,.nils])),nn .no (.store 36 (.v 5) (.v 18))]).seq (((PC.reg [nn
  (.v 19) (.mv false (.v 4)),nn (.v 20) (.call 48 [.v 19,.c (.v (.int .i64 8))]),nn (.v 21) (.mv false (.c (.v (.int .i64 0))))]).seq (PC.block 0
  (PC.loop [2,4,5,20,21] lp100_0))).seq (((PC.reg [mm 38 4,nn (.t 39) (.call 122 [.t 38]),nn (.t 40) (.un .not (.t 39)),nn (.t 41) (.mv false
  (.t 40)),⟨.t 42,.load 36 true (.v 5),some (.t 41,false)⟩,⟨.t 43,.call 119 [.t 42],some (.t 41,false)⟩,⟨.t 44,.bin .neq (.t 43) (.c (.v
  (.int .i64 0))),some (.t 41,false)⟩,nn (.t 45) (.pick (.t 41) (.c (.v (.bool true))) (.t 44))]).seq (PC.cond (.t 45) ((PC.reg [nn (.t 46) (.build
  (.agg [.arr .u8 32 zz2,.int .i64 0,.int .i64 0,.int
  .i64 0,.nils]) []),nn .no (.store 36 (.v 2) (.t 46)),nn (.v 3) (.mv true (.c (.v (.int .i64 2))))]).seq PC.ret) PC.skip)).seq ((PC.reg [nn (.t 47)
  (.load 36 true (.v 5)),nn .no (.store 36 (.v 2) (.t 47)),nn (.v 3) (.mv true (.c (.v (.int .i64 0))))]).seq PC.ret)))))) [(.v 2,some (36,true)),
  (.v 3,none)]
def ZEb2:Spec1
 |[x,y],G,Q=>∃a b:List Int,(byV x=some a∧byV y=some b∧Byt a∧Byt b)∧Q (.v (.bool (decide (a=b)))) G
 |_,_,_=>False
theorem ZEb2_eq {x y}:ZEb2 [x,y] G Q=(∃a b:List Int,(byV x=some a∧byV y=some b∧Byt a∧Byt b)∧Q (.v (.bool (decide (a=b)))) G):=rfl
theorem walk50 {x y:V} {a b:List Int} (hx:byV x=some a) (hy:byV y=some b) (ha:Byt a) (hb:Byt b) (h:Q (.v (.bool (decide (a=b)))) G):Wf E C pf50 [x,y] G Q:=by
 have e:decide (stS a=stS b)=decide (a=b):=by rw[decide_eq_decide];exact⟨stS_inj ha hb,fun h=>by rw[h]⟩
 rw[←e]at h
 rcases byV_cases hx with rfl|⟨rfl,rfl⟩<;>rcases byV_cases hy with rfl|⟨rfl,rfl⟩
 ·simp -implicitDefEqProofs only[pf50,bs_eq,go_sem,↓reduceIte]
  exact h
 ·simp -implicitDefEqProofs only[pf50,bs_eq,go_sem,↓reduceIte]
  exact h
 ·simp -implicitDefEqProofs only[pf50,bs_eq,go_sem,↓reduceIte]
  exact h
 ·simp -implicitDefEqProofs only[pf50,bs_eq,go_sem,↓reduceIte]
  exact finB h rfl
theorem rdTxs_none {s:Rd} {j:Nat} (h:rdTxs j s=none):∀m,rdTxs (j+m) s=none
 |0=>h
 |m+1=>by rw[show j+(m+1)=(j+m)+1 by omega,rdTxs_snoc,rdTxs_none h m]
theorem loop100 (hR:Abs.look l 99=some ZQt) {QQ:Ex→St→Prop} {id k:Nat} {u0:V} {n2 n3 n4:Int} {n1 r5:List Int} {w5:Bool} (hid:Abs.look G id=some u0) (hb:Byt r5) (hl:r5.length < 100000000) (hk:k≤8)
  (hx:∀ts G' x l2 r w rest,rdTxs k (r5,w5)=some (l2,r,w)→Row (Abs.upd G id (.agg [.sli .u8 r,.bool w])) G' 7 (.agg [.int .i64 0,.int .i64 0,.int .i64 0,.int .i64 0,.int .i64 0,.str ⟨⟨[]⟩⟩,.str ⟨⟨[]⟩⟩]) x (l2.map TxS.v)→QQ (.exit 0) ⟨[none,none,some (.lp 0 []),none,some (.v (.ptr id)),some (.lp 1 []),none,none,none,none,none,none,none,none,none,none,none,none,none,none,some (.v (.int .i64 (k:Nat))),some (.v (.int .i64 (k:Nat)))],ts,⟨false,BlkS.zeroV⟩::⟨false,.agg [.arr .u8 32 n1,.int .i64 n2,.int .i64 n3,.int .i64 n4,x]⟩::rest,G'⟩)
  (hr:∀ts G' x els r w (v6 v7 v21:Option D) L,rdTxs k (r5,w5)=none→Row (Abs.upd G id (.agg [.sli .u8 r,.bool w])) G' 7 (.agg [.int .i64 0,.int .i64 0,.int .i64 0,.int .i64 0,.int .i64 0,.str ⟨⟨[]⟩⟩,.str ⟨⟨[]⟩⟩]) x els→QQ .ret ⟨[none,none,some (.lp 0 []),some (.v (.int .i64 2)),some (.v (.ptr id)),some (.lp 1 []),v6,v7,none,none,none,none,none,none,none,none,none,none,none,none,some (.v (.int .i64 (k:Nat))),v21],ts,⟨false,BlkS.zeroV⟩::L,G'⟩):
  ∀(e j:Nat) (G':List (Nat×V)) (x:V) (l2:List TxS) (r:List Int) (w:Bool) (rest:List Bx),j+e=k→rdTxs j (r5,w5)=some (l2,r,w)→Row (Abs.upd G id (.agg [.sli .u8 r,.bool w])) G' 7 (.agg [.int .i64 0,.int .i64 0,.int .i64 0,.int .i64 0,.int .i64 0,.str ⟨⟨[]⟩⟩,.str ⟨⟨[]⟩⟩]) x (l2.map TxS.v)→
   WL (W E (specOf l) lp100_0) [2,4,5,20,21] QQ (e+1) ⟨[none,none,some (.lp 0 []),none,some (.v (.ptr id)),some (.lp 1 []),none,none,none,none,none,none,none,none,none,none,none,none,none,none,some (.v (.int .i64 (k:Nat))),some (.v (.int .i64 (j:Nat)))],[],⟨false,BlkS.zeroV⟩::⟨false,.agg [.arr .u8 32 n1,.int .i64 n2,.int .i64 n3,.int .i64 n4,x]⟩::rest,G'⟩:=by
 intro e
 induction e with
 |zero=>
  intro j G' x l2 r w rest hj he hrow
  obtain rfl:j=k:=by omega
  refine WL_in lp100_0.eq_1 ?_
  simp -implicitDefEqProofs only[Int.lt_irrefl,go_sem,↓reduceIte]
  exact hx _ _ _ _ _ _ _ he hrow
 |succ e ih=>
  intro j G' x l2 r w rest hj he hrow
  have c1:(j:Int) < (k:Int):=by omega
  have w1:IntKind.i64.wrap ((j:Int)+1)=((j+1:Nat):Int):=wc (by omega) (by omega)
  obtain⟨m1,m2,_,m4,m5,_⟩:=rdTxs_all he hb
  rcases e1:rdTx (r,w)with⟨t,r2,w2⟩
  have he2:rdTxs (j+1) (r5,w5)=if (!w2&&t.may)=true then some (l2++[t],r2,w2)else none:=by rw[rdTxs_snoc,he];simp only[e1]
  have hl1:=look_upd_same (z:=V.agg [.sli .u8 r,.bool w]) hid
  have hG':=hrow.1 id _ hl1
  have hrow2:=hrow.upd (y:= .agg [.sli .u8 r2,.bool w2]) hl1
  rw[upd_upd]at hrow2
  obtain⟨x1,x2⟩:=hrow.one
  unfold V.isAgg at x2
  refine WL_in lp100_0.eq_1 ?_
  simp -implicitDefEqProofs only[BlkS.zeroV,c1,x1,x2,hR,ZQt_eq,go_sem,↓reduceIte]
  refine⟨r,w,t,r2,w2,⟨hG',m1,by omega,e1⟩,?_⟩
  have hA:∀x:Bx,(rest++[x])[rest.length]? =some x:=fun x=>by simp
  cases hc:(!w2&&t.may)with
  |true=>
   have ev:(txR t w2).v=t.v:=by unfold txR;rw[hc];rfl
   rw[hc,if_pos rfl]at he2
   rw[ev]
   obtain⟨y1,y2,y3,y4,y5,y6,y7⟩:=t
   simp -implicitDefEqProofs only[TxS.v,hA,x1,x2,go_sem,↓reduceIte]
   refine Row.app (G0:=Abs.upd G id (.agg [.sli .u8 r2,.bool w2])) (sz:=7) (z:= .agg [.int .i64 0,.int .i64 0,.int .i64 0,.int .i64 0,.int .i64 0,.str ⟨⟨[]⟩⟩,.str ⟨⟨[]⟩⟩]) (y:=TxS.v ⟨y1,y2,y3,y4,y5,y6,y7⟩) (els:=l2.map TxS.v) hrow2 (by rw[List.length_map,m4];omega) ⟨rfl,rfl⟩ rfl (fun u hu=> ?_) (fun x' G2 hr2=> ?_)
   ·obtain⟨q,_,rfl⟩:=List.mem_map.1 hu;exact⟨rfl,rfl⟩
   ·obtain⟨q1,q2⟩:=hr2.one
    unfold V.isAgg at q2
    have yl:=hrow.like hr2
    simp -implicitDefEqProofs only[w1,x1,x2,q1,q2,yl,go_sem,↓reduceIte]
    refine ih (j+1) G2 x' (l2++[⟨y1,y2,y3,y4,y5,y6,y7⟩]) r2 w2 _ (by omega) he2 ?_
    rw[List.map_append];exact hr2
  |false=>
   have ev:(txR t w2).v=TxS.zero.v:=by unfold txR;rw[hc];rfl
   rw[hc,if_neg Bool.false_ne_true]at he2
   rw[ev]
   simp -implicitDefEqProofs only[TxS.v,TxS.zero,hA,x1,x2,go_sem,↓reduceIte]
   refine hr _ _ x (l2.map TxS.v) r2 w2 _ _ _ _ ?_ hrow2
   rw[show k=(j+1)+e by omega];exact rdTxs_none he2 e
end Go.Proofs.Ytegamlopcdjiaaa.Sha
