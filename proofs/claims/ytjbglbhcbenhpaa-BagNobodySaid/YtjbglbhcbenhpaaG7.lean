/- Laws over plain values, and what functions of the program hand back; no conditions. -/
import Derived.Test.YtjbglbhcbenhpaaG6
namespace Go.Proofs.Ytjbglbhcbenhpaa.Sha
open Go Go.Abs Go.Abs.Sha Go.Abs.Srt
set_option linter.unusedSimpArgs false
set_option linter.unusedVariables false
set_option maxRecDepth 100000
def lp165_0:PC:=
 (PC.reg [nn (.t 9) (.bin .lss (.v 8) (.v 7))]).seq ((PC.cond (.t 9) PC.skip (PC.exit 0)).seq ((PC.block 1 ((PC.reg [nn (.t 10) (.mv true (.v 8)),ma 5
  10]).seq ((PC.reg [mm 11 1,mm 12 0,mm 13 5,nn (.t 14) (.iadrS 7 (.t 12) (.t 13)),nn (.t 15) (.load 7 true (.t 14)),nn (.t 16) (.callV (.t 11)
  [.t 15])]).seq (PC.cond (.t 16) ((PC.reg [nn (.t 17) (.mv true (.v 5)),ma 4 17]).seq PC.ret) PC.skip)))).seq (PC.reg [nn (.t 18) (.bin .add (.v 8)
  (.c (.v (.int .i64 1)))),nn (.v 8) (.mv false (.t 18))])))
def pf165:PF:=
 PF.mk 2 9 19 ((PC.reg [nn (.v 4) (.mv true (.c (.v (.int .i64 0))))]).seq (((PC.reg [nn (.v 6) (.mv false (.v 0)),nn (.v 7) (.len (.v 6)),nn (.v 8)
  (.mv false (.c (.v (.int .i64 0))))]).seq (PC.block 0 (PC.loop [0,1,7,8] lp165_0))).seq ((PC.reg [nn (.v 4) (.mv true (.c (.v (.int .i64
  ((-1))))))]).seq PC.ret))) [(.v 4,none)]
def pf147:PF:=
 PF.mk 2 5 9 ((PC.reg [nn (.v 4) (.mv true (.c (.v (.bool false))))]).seq ((PC.reg [mm 5 0,mm 6 1,nn (.t 7) (.call 165 [.t 5,.t 6]),nn (.t 8) (.bin
  .geq (.t 7) (.c (.v (.int .i64 0)))),ma 4 8]).seq PC.ret)) [(.v 4,none)]
def pf148:PF:=
 PF.mk 1 3 6 ((PC.reg [nn (.v 1) (.box (.v 0)),nn (.v 2) (.mv true (.c (.v (.bool false))))]).seq ((PC.reg [nn (.t 3) (.load 7 true (.v 1)),nn (.t 4)
  (.call 59 [.t 3]),nn (.t 5) (.bin .neq (.t 4) (.c (.v (.int .i64 0)))),ma 2 5]).seq PC.ret)) [(.v 2,none)]
def pf145:PF:=
 PF.mk 0 1 2 ((PC.reg [nn (.v 0) (.alloc (.agg [.arr .u8 32 [0,0,0,0,0,0,0,0,0,0,0,0,0,0,0,0,0,0,0,0,0,0,0,0,0,0,0,0,0,0,
  0,0],.int .i64 0,.int .i64 0,.int .i64 0,.nils]))]).seq ((PC.reg [nn (.t 1) (.build (.agg [.arr .u8 32 [0,0,0,0,0,0,0,0,0,0,0,0,0,
  0,0,0,0,0,0,0,0,0,0,0,0,0,0,0,0,0,0,0],.int .i64 0,.int .i64 0,.int .i64 0,.nils]) []),nn .no (.store 36 (.v 0) (.t 1))]).seq
  PC.ret)) [(.v 0,some (36,true))]
def pf146:PF:=
 PF.mk 3 7 15 ((PC.reg [nn (.v 6) (.mv true (.c (.v (.bool false))))]).seq ((PC.reg [mm 7 0,mm 8 1,nn (.t 9) (.bin .geq (.t 7) (.t 8)),nn (.t 10)
  (.mv false (.t 9)),gm 11 0 10 true,gm 12 2 10 true,⟨.t 13,.bin .leq (.t 11) (.t 12),some (.t 10,true)⟩,nn (.t 14) (.pick (.t 10) (.t 13) (.c
  (.v (.bool false)))),ma 6 14]).seq PC.ret)) [(.v 6,none)]
attribute [local irreducible] W Wops WopsD WL Wop WopD
variable {E:Env} {C:Abs.Spec} {l:List (Nat×Spec1)} {G:List (Nat×V)} {Q:R→List (Nat×V)→Prop}
set_option maxHeartbeats 1000000
def idxT:Nat→List TxS→Int
 |_,[]=> -1
 |i,t::l=>if t.may=true then idxT (i+1) l else (i:Int)
theorem idxT_any:∀{l:List TxS} {i:Nat},decide (0≤idxT i l)= !(l.all TxS.may)
 |[],i=>rfl
 |t::l,i=>by
  simp only[idxT,List.all_cons]
  split
  ·rename_i h;rw[h,Bool.true_and,idxT_any]
  ·rename_i h;have h:t.may=false:=by simpa using h
   rw[h];simp
def ShT (ts:List TxS):Prop:=(∀t∈ts,t.key.size < 1000000000∧t.val.size < 1000000000)∧ts.length < 1000000
def ZFb0:Spec1
 |[],G,Q=>Q (.v BlkS.zeroV) G
 |_,_,_=>False
def ZCf:Spec1
 |[y],G,Q=>∃t:TxS,(y=t.v∧t.key.size < 1000000000∧t.val.size < 1000000000)∧Q (.v (.bool (!t.may))) G
 |_,_,_=>False
theorem ZCf_eq {y}:ZCf [y] G Q=(∃t:TxS,(y=t.v∧t.key.size < 1000000000∧t.val.size < 1000000000)∧Q (.v (.bool (!t.may))) G):=rfl
def ZIt:Spec1
 |[x,.fn 148 []],G,Q=>∃ts:List TxS,(TxsV G x ts∧ShT ts)∧Q (.v (.int .i64 (idxT 0 ts))) G
 |_,_,_=>False
theorem ZIt_eq {x}:ZIt [x,.fn 148 []] G Q=(∃ts:List TxS,(TxsV G x ts∧ShT ts)∧Q (.v (.int .i64 (idxT 0 ts))) G):=rfl
def ZOt:Spec1
 |[x,.fn 148 []],G,Q=>∃ts:List TxS,(TxsV G x ts∧ShT ts)∧Q (.v (.bool (!(ts.all TxS.may)))) G
 |_,_,_=>False
theorem ZOt_eq {x}:ZOt [x,.fn 148 []] G Q=(∃ts:List TxS,(TxsV G x ts∧ShT ts)∧Q (.v (.bool (!(ts.all TxS.may)))) G):=rfl
theorem walk148 {t:TxS} (hC:Abs.look l 59=some ZTc) (hk:t.key.size < 1000000000) (hv:t.val.size < 1000000000) (h:Q (.v (.bool (!t.may))) G):Wf E (specOf l) pf148 [t.v] G Q:=by
 obtain⟨a1,a2,a3,a4,a5,a6,a7⟩:=t
 dsimp only at hk hv
 simp -implicitDefEqProofs only[pf148,TxS.v,hC,ZTc_eq,go_sem,↓reduceIte]
 refine⟨⟨a1,a2,a3,a4,a5,a6,a7⟩,⟨rfl,hk,hv⟩,?_⟩
 cases hm:TxS.may ⟨a1,a2,a3,a4,a5,a6,a7⟩with
 |true=>rw[hm]at h;exact h
 |false=>rw[hm]at h;exact h
theorem walk147 {x:V} {ts:List TxS} (hI:Abs.look l 165=some ZIt) (hx:TxsV G x ts) (hs:ShT ts) (h:Q (.v (.bool (!(ts.all TxS.may)))) G):Wf E (specOf l) pf147 [x,.fn 148 []] G Q:=by
 simp -implicitDefEqProofs only[pf147,hI,ZIt_eq,go_sem,↓reduceIte]
 refine⟨ts,⟨hx,hs⟩,?_⟩
 rw[idxT_any];exact h
theorem walk146 {n lo hi:Int} (h:Q (.v (.bool (decide (lo≤n∧n≤hi)))) G):Wf E C pf146 [.int .i64 n,.int .i64 lo,.int .i64 hi] G Q:=by
 simp -implicitDefEqProofs only[pf146,go_sem,↓reduceIte]
 refine⟨fun h1=> ?_,fun h1=> ?_⟩
 ·rw[show decide (lo≤n∧n≤hi)=decide (n≤hi)by rw[decide_eq_decide];exact⟨fun h=>h.2,fun h=>⟨h1,h⟩⟩]at h;exact h
 ·rw[show decide (lo≤n∧n≤hi)=false by rw[decide_eq_false_iff_not];omega]at h;exact h
theorem walk145 (h:Q (.v BlkS.zeroV) G):Wf E C pf145 [] G Q:=by
 simp -implicitDefEqProofs only[pf145,go_sem,↓reduceIte]
 exact h
theorem loop165i {QQ:Ex→St→Prop} {ts:List TxS} (hC:Abs.look l 148=some ZCf) (hok:calleeOk E.P 148=true) (hs:ShT ts)
  (hx:∀i t8,idxT 0 ts= -1→QQ (.exit 0) ⟨[some (.v (.sle 7 (ts.map TxS.v))),some (.v (.fn 148 [])),none,none,none,none,none,some (.v (.int .i64 (ts.length:Nat))),some (.v (.int .i64 (i:Nat)))],t8,[],G⟩) (hr:∀(σ:St) (i:Nat),σ.G=G→St.ev σ (.v 4)=some (.v (.int .i64 (i:Nat)))→idxT 0 ts=(i:Nat)→QQ .ret σ):
  ∀(r:List TxS) (i:Nat),ts.drop i=r→i≤ts.length→idxT 0 ts=idxT i r→WL (W E (specOf l) lp165_0) [0,1,7,8] QQ (r.length+1) ⟨[some (.v (.sle 7 (ts.map TxS.v))),some (.v (.fn 148 [])),none,none,none,none,none,some (.v (.int .i64 (ts.length:Nat))),some (.v (.int .i64 (i:Nat)))],[],[],G⟩:=by
 intro r
 have hl:=hs.2
 induction r with
 |nil=>
  intro i h1 h2 h3
  have:=drop_none h1
  have c1:¬(i:Int) < (ts.length:Int):=by omega
  refine WL_in lp165_0.eq_1 ?_
  simp -implicitDefEqProofs only[c1,go_sem,↓reduceIte]
  exact hx _ _ h3
 |cons p r ih=>
  intro i h1 h2 h3
  obtain⟨hd,hj,hlen⟩:=drop_one h1
  have a1:=at_drop2 h1
  have hsp:=hs.1 p (List.mem_of_getElem? a1)
  have c1:(i:Int) < (ts.length:Int):=by omega
  have c3:(0:Int)≤i:=by omega
  have w1:IntKind.i64.wrap ((i:Int)+1)=((i+1:Nat):Int):=wc (by omega) (by omega)
  obtain⟨x1,x2,x3,x4,x5,x6,x7⟩:=p
  have g:(ts.map TxS.v).getD i V.nilp= .agg [.int .i64 x1,.int .i64 x2,.int .i64 x3,.int .i64 x4,.int .i64 x5,.str x6,.str x7]:=getD_tx h1
  refine WL_in lp165_0.eq_1 ?_
  simp -implicitDefEqProofs only[c1,c3,g,w1,hC,ZCf_eq,hok,Int.toNat_natCast,List.length_map,go_sem,↓reduceIte]
  refine⟨⟨x1,x2,x3,x4,x5,x6,x7⟩,⟨rfl,hsp.1,hsp.2⟩,fun hm=> ?_,fun hm=> ?_⟩
  ·refine hr _ i rfl rfl ?_
   rw[h3];simp only[idxT];rw[if_neg (by rw[hm];exact Bool.false_ne_true)]
  ·refine ih (i+1) hd (by omega) ?_
   rw[h3];simp only[idxT];rw[if_pos hm]
theorem walk165i {ts:List TxS} (hC:Abs.look l 148=some ZCf) (hok:calleeOk E.P 148=true) (hs:ShT ts) (h:Q (.v (.int .i64 (idxT 0 ts))) G):Wf E (specOf l) pf165 [.sle 7 (ts.map TxS.v),.fn 148 []] G Q:=by
 simp -implicitDefEqProofs only[pf165,List.length_map,go_sem,↓reduceIte]
 refine⟨ts.length+1,?_⟩
 simp -implicitDefEqProofs only[go_sem,↓reduceIte]
 refine loop165i hC hok hs (fun i t8 hi=> ?_) (fun σ i hG2 hv hi=> ?_) ts 0 rfl (by omega) rfl
 ·rw[hi]at h
  simp -implicitDefEqProofs only[go_sem,↓reduceIte]
  exact h
 ·rw[hi]at h
  obtain⟨vs,ts2,L2,G2⟩:=σ
  dsimp only at hG2;subst hG2
  simp -implicitDefEqProofs only[hv,go_sem,↓reduceIte]
  exact h
theorem loop165s {QQ:Ex→St→Prop} {ts:List TxS} {id c:Nat} {LL:List V} (hG:Abs.look G id=some (.agg LL)) (hLL:∀(i:Nat) t,ts[i]? =some t→LL[i]? =some t.v) (hfl:ts.length≤LL.length) (hsz:∀y∈LL,V.size y=7) (hC:Abs.look l 148=some ZCf) (hok:calleeOk E.P 148=true) (hs:ShT ts)
  (hx:∀i t8,idxT 0 ts= -1→QQ (.exit 0) ⟨[some (.v (.sob id 7 0 ts.length c)),some (.v (.fn 148 [])),none,none,none,none,none,some (.v (.int .i64 (ts.length:Nat))),some (.v (.int .i64 (i:Nat)))],t8,[],G⟩) (hr:∀(σ:St) (i:Nat),σ.G=G→St.ev σ (.v 4)=some (.v (.int .i64 (i:Nat)))→idxT 0 ts=(i:Nat)→QQ .ret σ):
  ∀(r:List TxS) (i:Nat),ts.drop i=r→i≤ts.length→idxT 0 ts=idxT i r→WL (W E (specOf l) lp165_0) [0,1,7,8] QQ (r.length+1) ⟨[some (.v (.sob id 7 0 ts.length c)),some (.v (.fn 148 [])),none,none,none,none,none,some (.v (.int .i64 (ts.length:Nat))),some (.v (.int .i64 (i:Nat)))],[],[],G⟩:=by
 intro r
 have hl:=hs.2
 induction r with
 |nil=>
  intro i h1 h2 h3
  have:=drop_none h1
  have c1:¬(i:Int) < (ts.length:Int):=by omega
  refine WL_in lp165_0.eq_1 ?_
  simp -implicitDefEqProofs only[c1,go_sem,↓reduceIte]
  exact hx _ _ h3
 |cons p r ih=>
  intro i h1 h2 h3
  obtain⟨hd,hj,hlen⟩:=drop_one h1
  have a1:=at_drop2 h1
  have hsp:=hs.1 p (List.mem_of_getElem? a1)
  have c1:(i:Int) < (ts.length:Int):=by omega
  have c3:(0:Int)≤i:=by omega
  have w1:IntKind.i64.wrap ((i:Int)+1)=((i+1:Nat):Int):=wc (by omega) (by omega)
  obtain⟨x1,x2,x3,x4,x5,x6,x7⟩:=p
  have g:LL[i]? =some (V.agg [.int .i64 x1,.int .i64 x2,.int .i64 x3,.int .i64 x4,.int .i64 x5,.str x6,.str x7]):=hLL i _ a1
  refine WL_in lp165_0.eq_1 ?_
  simp -implicitDefEqProofs only[c1,c3,hG,g,w1,hC,ZCf_eq,hok,Int.toNat_natCast,List.length_map,go_sem,↓reduceIte]
  refine And.intro ⟨by omega,hsz⟩ ⟨⟨x1,x2,x3,x4,x5,x6,x7⟩,⟨rfl,hsp.1,hsp.2⟩,fun hm=> ?_,fun hm=> ?_⟩
  ·refine hr _ i rfl rfl ?_
   rw[h3];simp only[idxT];rw[if_neg (by rw[hm];exact Bool.false_ne_true)]
  ·refine ih (i+1) hd (by omega) ?_
   rw[h3];simp only[idxT];rw[if_pos hm]
theorem walk165s {ts:List TxS} {id c:Nat} {LL:List V} (hG:Abs.look G id=some (.agg LL)) (hLL:∀(i:Nat) t,ts[i]? =some t→LL[i]? =some t.v) (hfl:ts.length≤LL.length) (hsz:∀y∈LL,V.size y=7) (hC:Abs.look l 148=some ZCf) (hok:calleeOk E.P 148=true) (hs:ShT ts) (h:Q (.v (.int .i64 (idxT 0 ts))) G):Wf E (specOf l) pf165 [.sob id 7 0 ts.length c,.fn 148 []] G Q:=by
 simp -implicitDefEqProofs only[pf165,List.length_map,go_sem,↓reduceIte]
 refine⟨ts.length+1,?_⟩
 simp -implicitDefEqProofs only[go_sem,↓reduceIte]
 refine loop165s hG hLL hfl hsz hC hok hs (fun i t8 hi=> ?_) (fun σ i hG2 hv hi=> ?_) ts 0 rfl (by omega) rfl
 ·rw[hi]at h
  simp -implicitDefEqProofs only[go_sem,↓reduceIte]
  exact h
 ·rw[hi]at h
  obtain⟨vs,ts2,L2,G2⟩:=σ
  dsimp only at hG2;subst hG2
  simp -implicitDefEqProofs only[hv,go_sem,↓reduceIte]
  exact h
theorem walk165n (h:Q (.v (.int .i64 (-1))) G):Wf E C pf165 [.nils,.fn 148 []] G Q:=by
 simp -implicitDefEqProofs only[pf165,go_sem,↓reduceIte]
 refine⟨1,?_⟩
 simp -implicitDefEqProofs only[go_sem,↓reduceIte]
 refine WL_in lp165_0.eq_1 ?_
 simp -implicitDefEqProofs only[Int.lt_irrefl,go_sem,↓reduceIte]
 exact h
theorem walk165 {x:V} {ts:List TxS} (hC:Abs.look l 148=some ZCf) (hok:calleeOk E.P 148=true) (hx:TxsV G x ts) (hs:ShT ts) (h:Q (.v (.int .i64 (idxT 0 ts))) G):Wf E (specOf l) pf165 [x,.fn 148 []] G Q:=by
 rcases hx with (rfl|⟨rfl,rfl⟩)|⟨id,c,LL,rfl,hG,hLL,hfl,hsz⟩
 ·exact walk165i hC hok hs h
 ·exact walk165n h
 ·exact walk165s hG hLL hfl hsz hC hok hs h
def pf124:PF:=
 PF.mk 1 3 31 ((PC.reg [nn (.v 1) (.box (.v 0)),nn (.v 2) (.mv true (.c (.v (.int .i64 0))))]).seq (((PC.regD 0 [nn (.t 3) (.load 36 true (.v 1)),nn
  (.t 4) (.call 145 []),nn (.t 5) (.call 94 [.t 3,.t 4])] []).seq (PC.cond (.t 5) ((PC.reg [nn (.v 2) (.mv true (.c (.v (.int .i64 0))))]).seq
  PC.ret) PC.skip)).seq (((PC.reg [nn (.t 6) (.fadr 1 32 (.v 1)),nn (.t 7) (.load 1 false (.t 6)),nn (.t 8) (.call 146 [.t 7,.c (.v (.int .i64 1)),
  .c (.v (.int .i64 1099511627776))]),nn (.t 9) (.un .not (.t 8)),nn (.t 10) (.mv false (.t 9)),⟨.t 11,.fadr 2 33 (.v 1),some (.t 10,false)⟩,⟨.t
  12,.load 1 false (.t 11),some (.t 10,false)⟩,⟨.t 13,.call 146 [.t 12,.c (.v (.int .i64 1)),.c (.v (.int .i64 1099511627776))],some (.t 10,
  false)⟩,⟨.t 14,.un .not (.t 13),some (.t 10,false)⟩,nn (.t 15) (.pick (.t 10) (.c (.v (.bool true))) (.t 14)),nn (.t 16) (.mv false (.t 15)),
  ⟨.t 17,.fadr 3 34 (.v 1),some (.t 16,false)⟩,⟨.t 18,.load 1 false (.t 17),some (.t 16,false)⟩,⟨.t 19,.call 146 [.t 18,.c (.v (.int .i64
  1)),.c (.v (.int .i64 21))],some (.t 16,false)⟩,⟨.t 20,.un .not (.t 19),some (.t 16,false)⟩,nn (.t 21) (.pick (.t 16) (.c (.v (.bool true)))
  (.t 20)),nn (.t 22) (.mv false (.t 21)),⟨.t 23,.fadr 4 35 (.v 1),some (.t 22,false)⟩,⟨.t 24,.load 1 false (.t 23),some (.t 22,false)⟩,⟨.t
  25,.len (.t 24),some (.t 22,false)⟩,⟨.t 26,.bin .gtr (.t 25) (.c (.v (.int .i64 8))),some (.t 22,false)⟩,nn (.t 27) (.pick (.t 22) (.c (.v
  (.bool true))) (.t 26))]).seq (PC.cond (.t 27) ((PC.reg [nn (.v 2) (.mv true (.c (.v (.int .i64 1))))]).seq PC.ret) PC.skip)).seq (((PC.reg [nn (.t
  28) (.fadr 4 35 (.v 1)),nn (.t 29) (.load 1 false (.t 28)),nn (.t 30) (.call 147 [.t 29,.c (.fn 148)])]).seq (PC.cond (.t 30) ((PC.reg [nn (.v 2)
  (.mv true (.c (.v (.int .i64 1))))]).seq PC.ret) PC.skip)).seq ((PC.reg [nn (.v 2) (.mv true (.c (.v (.int .i64 0))))]).seq PC.ret))))) [(.v 2,
  none)]
def lp52_0:PC:=
 ((PC.reg [mm 7 3,nn (.t 8) (.fadr 4 35 (.v 1)),nn (.t 9) (.load 1 false (.t 8)),nn (.t 10) (.len (.t 9)),nn (.t 11) (.bin .lss (.t 7) (.t
  10))]).seq (PC.cond (.t 11) PC.skip (PC.exit 0))).seq ((PC.block 1 ((PC.reg [nn (.t 14) (.fadr 4 35 (.v 1)),nn (.t 15) (.load 1 false (.t 14)),mm
  16 3,nn (.t 17) (.iadrS 7 (.t 15) (.t 16)),nn (.t 18) (.load 7 true (.t 17)),nn (.t 19) (.call 55 [.t 18]),nn (.t 20) (.un .not (.t 19))]).seq
  (PC.cond (.t 20) ((PC.reg [nn (.v 2) (.mv true (.c (.v (.bool false))))]).seq PC.ret) PC.skip))).seq (PC.reg [mm 12 3,nn (.t 13) (.bin .add (.t 12)
  (.c (.v (.int .i64 1)))),ma 3 13]))
def pf52:PF:=
 PF.mk 1 4 55 ((PC.reg [nn (.v 1) (.box (.v 0)),nn (.v 2) (.mv true (.c (.v (.bool false))))]).seq (((PC.reg [nn (.t 4) (.load 36 true (.v 1)),nn (.t
  5) (.build (.agg [.arr .u8 32 zz2,.int .i64 0,.int
  .i64 0,.int .i64 0,.nils]) []),nn (.t 6) (.call 48 [.t 4,.t 5])]).seq (PC.cond (.t 6) ((PC.reg [nn (.v 2) (.mv true (.c (.v (.bool true))))]).seq
  PC.ret) PC.skip)).seq (((PC.reg [nn (.v 3) (.mv true (.c (.v (.int .i64 0))))]).seq (PC.block 0 (PC.loop [1,3] lp52_0))).seq ((PC.reg [nn (.t 21)
  (.fadr 1 32 (.v 1)),nn (.t 22) (.load 1 false (.t 21)),nn (.t 23) (.bin .geq (.t 22) (.c (.v (.int .i64 1)))),nn (.t 24) (.mv false (.t 23)),⟨.t
  25,.fadr 1 32 (.v 1),some (.t 24,true)⟩,⟨.t 26,.load 1 false (.t 25),some (.t 24,true)⟩,⟨.t 27,.bin .leq (.t 26) (.c (.v (.int .i64
  1099511627776))),some (.t 24,true)⟩,nn (.t 28) (.pick (.t 24) (.t 27) (.c (.v (.bool false)))),nn (.t 29) (.mv false (.t 28)),⟨.t 30,.fadr 2 33
  (.v 1),some (.t 29,true)⟩,⟨.t 31,.load 1 false (.t 30),some (.t 29,true)⟩,⟨.t 32,.bin .geq (.t 31) (.c (.v (.int .i64 1))),some (.t 29,
  true)⟩,nn (.t 33) (.pick (.t 29) (.t 32) (.c (.v (.bool false)))),nn (.t 34) (.mv false (.t 33)),⟨.t 35,.fadr 2 33 (.v 1),some (.t 34,true)⟩,
  ⟨.t 36,.load 1 false (.t 35),some (.t 34,true)⟩,⟨.t 37,.bin .leq (.t 36) (.c (.v (.int .i64 1099511627776))),some (.t 34,true)⟩,nn (.t 38)
  (.pick (.t 34) (.t 37) (.c (.v (.bool false)))),nn (.t 39) (.mv false (.t 38)),⟨.t 40,.fadr 3 34 (.v 1),some (.t 39,true)⟩,⟨.t 41,.load 1
  false (.t 40),some (.t 39,true)⟩,⟨.t 42,.bin .geq (.t 41) (.c (.v (.int .i64 1))),some (.t 39,true)⟩,nn (.t 43) (.pick (.t 39) (.t 42) (.c (.v
  (.bool false)))),nn (.t 44) (.mv false (.t 43)),⟨.t 45,.fadr 3 34 (.v 1),some (.t 44,true)⟩,⟨.t 46,.load 1 false (.t 45),some (.t 44,true)⟩,
  ⟨.t 47,.bin .leq (.t 46) (.c (.v (.int .i64 21))),some (.t 44,true)⟩,nn (.t 48) (.pick (.t 44) (.t 47) (.c (.v (.bool false)))),nn (.t 49) (.mv
  false (.t 48)),⟨.t 50,.fadr 4 35 (.v 1),some (.t 49,true)⟩,⟨.t 51,.load 1 false (.t 50),some (.t 49,true)⟩,⟨.t 52,.len (.t 51),some (.t
  49,true)⟩,⟨.t 53,.bin .leq (.t 52) (.c (.v (.int .i64 8))),some (.t 49,true)⟩,nn (.t 54) (.pick (.t 49) (.t 53) (.c (.v (.bool false)))),ma 2
  54]).seq PC.ret)))) [(.v 2,none)]
theorem TxsV.rws {G:List (Nat×V)} {x:V} {l:List TxS} (h:TxsV G x l):Rws x l .nils []:=by
 rcases h with h|⟨id,c,LL,rfl,_⟩
 ·exact .inl ⟨h,.inr ⟨rfl,rfl⟩⟩
 ·exact .inr ⟨id,c,rfl,rfl,rfl⟩
def ZKc:Spec1
 |[u],G,Q=>∃(b:BlkS) (x:V),(u=BV b x∧TxsV G x b.txs∧ShT b.txs)∧Q (.v (.int .i64 (if b.may=true then 0 else 1))) G
 |_,_,_=>False
theorem ZKc_eq {u}:ZKc [u] G Q=(∃(b:BlkS) (x:V),(u=BV b x∧TxsV G x b.txs∧ShT b.txs)∧Q (.v (.int .i64 (if b.may=true then 0 else 1))) G):=rfl
def ZKm:Spec1
 |[u],G,Q=>∃(b:BlkS) (x:V),(u=BV b x∧TxsV G x b.txs∧ShT b.txs)∧Q (.v (.bool b.may)) G
 |_,_,_=>False
theorem ZKm_eq {u}:ZKm [u] G Q=(∃(b:BlkS) (x:V),(u=BV b x∧TxsV G x b.txs∧ShT b.txs)∧Q (.v (.bool b.may)) G):=rfl
theorem all_may {l:List TxS}:l.all TxS.may=true↔∀t∈l,t.May:=by
 rw[List.all_eq_true];exact⟨fun h t ht=>of_decide_eq_true (h t ht),fun h t ht=>decide_eq_true (h t ht)⟩
theorem walk124 {b:BlkS} {x:V} (hF:Abs.look l 145=some ZFb0) (hS:Abs.look l 94=some ZBs) (hW:Abs.look l 146=some ZWt) (hO:Abs.look l 147=some ZOt)
  (hx:TxsV G x b.txs) (hs:ShT b.txs) (h:Q (.v (.int .i64 (if b.may=true then 0 else 1))) G):Wf E (specOf l) pf124 [BV b x] G Q:=by
 have y:b.May→Q (.v (.int .i64 0)) G:=fun hm=>by rw[if_pos (show b.may=true from decide_eq_true hm)]at h;exact h
 have n:¬b.May→Q (.v (.int .i64 1)) G:=fun hm=>by rw[if_neg (by rw[show b.may=false from decide_eq_false hm];exact Bool.false_ne_true)]at h;exact h
 unfold BlkS.May BlkS.Full at y n
 have hw:=hx.rws
 have hx0:=hx
 have hF0:∀{G:List (Nat×V)} {Q:R→List (Nat×V)→Prop},ZFb0 [] G Q=Q (.v BlkS.zeroV) G:=rfl
 rcases hx with (rfl|⟨rfl,e0⟩)|⟨id,c,LL,rfl,hG,hLL,hfl,hsz⟩
 ·simp -implicitDefEqProofs only[pf124,BV,hF,hF0,hS,ZBs_eq,hW,ZWt_eq,hO,ZOt_eq,List.length_map,go_sem,↓reduceIte]
  refine⟨b,BlkS.zero,_,.nils,⟨rfl,rfl,hw,hs.2,by decide⟩,fun hz=>y (.inl hz),fun hz=>⟨fun h1=>n (fun hh=>hh.elim hz (fun hf=>h1 hf.2.1)),fun h1=>⟨fun h2=>n (fun hh=>hh.elim hz (fun hf=>h2 hf.2.2.1)),fun h2=>⟨fun h3=>n (fun hh=>hh.elim hz (fun hf=>h3 hf.2.2.2.1)),fun h3=> ?_⟩⟩⟩⟩
  refine⟨fun h4=>n (fun hh=>hh.elim hz (fun hf=>by have:=hf.2.2.2.2;omega)),fun h4=> ?_⟩
  refine⟨b.txs,⟨hx0,hs⟩,fun h5=>n (fun hh=>hh.elim hz (fun hf=>by rw[all_may.2 hf.1]at h5;cases h5)),fun h5=>y (.inr ⟨all_may.1 h5,h1,h2,h3,by omega⟩)⟩
 ·simp -implicitDefEqProofs only[pf124,BV,hF,hF0,hS,ZBs_eq,hW,ZWt_eq,hO,ZOt_eq,List.length_map,go_sem,↓reduceIte]
  refine⟨b,BlkS.zero,_,.nils,⟨rfl,rfl,hw,hs.2,by decide⟩,fun hz=>y (.inl hz),fun hz=>⟨fun h1=>n (fun hh=>hh.elim hz (fun hf=>h1 hf.2.1)),fun h1=>⟨fun h2=>n (fun hh=>hh.elim hz (fun hf=>h2 hf.2.2.1)),fun h2=>⟨fun h3=>n (fun hh=>hh.elim hz (fun hf=>h3 hf.2.2.2.1)),fun h3=> ?_⟩⟩⟩⟩
  refine⟨b.txs,⟨hx0,hs⟩,fun h5=>n (fun hh=>hh.elim hz (fun hf=>by rw[all_may.2 hf.1]at h5;cases h5)),fun h5=>y (.inr ⟨all_may.1 h5,h1,h2,h3,by rw[e0];decide⟩)⟩
 ·simp -implicitDefEqProofs only[pf124,BV,hF,hF0,hS,ZBs_eq,hW,ZWt_eq,hO,ZOt_eq,List.length_map,go_sem,↓reduceIte]
  refine⟨b,BlkS.zero,_,.nils,⟨rfl,rfl,hw,hs.2,by decide⟩,fun hz=>y (.inl hz),fun hz=>⟨fun h1=>n (fun hh=>hh.elim hz (fun hf=>h1 hf.2.1)),fun h1=>⟨fun h2=>n (fun hh=>hh.elim hz (fun hf=>h2 hf.2.2.1)),fun h2=>⟨fun h3=>n (fun hh=>hh.elim hz (fun hf=>h3 hf.2.2.2.1)),fun h3=> ?_⟩⟩⟩⟩
  refine⟨fun h4=>n (fun hh=>hh.elim hz (fun hf=>by have:=hf.2.2.2.2;omega)),fun h4=> ?_⟩
  refine⟨b.txs,⟨hx0,hs⟩,fun h5=>n (fun hh=>hh.elim hz (fun hf=>by rw[all_may.2 hf.1]at h5;cases h5)),fun h5=>y (.inr ⟨all_may.1 h5,h1,h2,h3,by omega⟩)⟩
theorem loop52i {QQ:Ex→St→Prop} {b:BlkS} {z:List Bx} (hM:Abs.look l 55=some ZTm) (hs:ShT b.txs) (hz:z=[⟨false,BV b (.sle 7 (b.txs.map TxS.v))⟩])
  (hx:∀i ts,(∀t∈b.txs,t.May)→QQ (.exit 0) ⟨[none,some (.lp 0 []),none,some (.v (.int .i64 (i:Nat)))],ts,z,G⟩) (hr:∀ts (v:Option D),¬(∀t∈b.txs,t.May)→QQ .ret ⟨[none,some (.lp 0 []),some (.v (.bool false)),v],ts,z,G⟩):
  ∀(r:List TxS) (i:Nat),b.txs.drop i=r→i≤b.txs.length→(∀t∈b.txs.take i,t.May)→WL (W E (specOf l) lp52_0) [1,3] QQ (r.length+1) ⟨[none,some (.lp 0 []),none,some (.v (.int .i64 (i:Nat)))],[],z,G⟩:=by
 intro r
 have hl:=hs.2
 induction r with
 |nil=>
  intro i h1 h2 h3
  have:=drop_none h1
  have c1:¬(i:Int) < (b.txs.length:Int):=by omega
  rw[List.take_of_length_le (by omega)]at h3
  subst hz
  refine WL_in lp52_0.eq_1 ?_
  simp -implicitDefEqProofs only[BV,c1,List.length_map,go_sem,↓reduceIte]
  exact hx _ _ h3
 |cons p r ih=>
  intro i h1 h2 h3
  obtain⟨hd,hj,hlen⟩:=drop_one h1
  have a1:=at_drop2 h1
  have hsp:=hs.1 p (List.mem_of_getElem? a1)
  have hmem:=List.mem_of_getElem? a1
  have c1:(i:Int) < (b.txs.length:Int):=by omega
  have c3:(0:Int)≤i:=by omega
  have w1:IntKind.i64.wrap ((i:Int)+1)=((i+1:Nat):Int):=wc (by omega) (by omega)
  have ih1:p.May→_:=fun hm=>ih (i+1) hd (by omega) (fun t ht=>by
   rw[List.take_add_one,List.mem_append,a1]at ht
   rcases ht with ht|ht
   ·exact h3 t ht
   ·simp at ht;rw[ht];exact hm)
  obtain⟨x1,x2,x3,x4,x5,x6,x7⟩:=p
  have g:(b.txs.map TxS.v).getD i V.nilp= .agg [.int .i64 x1,.int .i64 x2,.int .i64 x3,.int .i64 x4,.int .i64 x5,.str x6,.str x7]:=getD_tx h1
  subst hz
  refine WL_in lp52_0.eq_1 ?_
  simp -implicitDefEqProofs only[BV,c1,c3,g,w1,hM,ZTm_eq,Int.toNat_natCast,List.length_map,go_sem,↓reduceIte]
  refine⟨⟨x1,x2,x3,x4,x5,x6,x7⟩,⟨rfl,hsp.1,hsp.2⟩,fun hm=> ?_,fun hm=> ?_⟩
  ·exact hr _ _ (fun hall=>by rw[show TxS.may _=true from decide_eq_true (hall _ hmem)]at hm;cases hm)
  ·exact ih1 (of_decide_eq_true hm)
theorem loop52s {QQ:Ex→St→Prop} {b:BlkS} {z:List Bx} {id c:Nat} {LL:List V} (hG:Abs.look G id=some (.agg LL)) (hLL:∀(i:Nat) t,b.txs[i]? =some t→LL[i]? =some t.v) (hfl:b.txs.length≤LL.length) (hsz:∀y∈LL,V.size y=7) (hM:Abs.look l 55=some ZTm) (hs:ShT b.txs) (hz:z=[⟨false,BV b (.sob id 7 0 b.txs.length c)⟩])
  (hx:∀i ts,(∀t∈b.txs,t.May)→QQ (.exit 0) ⟨[none,some (.lp 0 []),none,some (.v (.int .i64 (i:Nat)))],ts,z,G⟩) (hr:∀ts (v:Option D),¬(∀t∈b.txs,t.May)→QQ .ret ⟨[none,some (.lp 0 []),some (.v (.bool false)),v],ts,z,G⟩):
  ∀(r:List TxS) (i:Nat),b.txs.drop i=r→i≤b.txs.length→(∀t∈b.txs.take i,t.May)→WL (W E (specOf l) lp52_0) [1,3] QQ (r.length+1) ⟨[none,some (.lp 0 []),none,some (.v (.int .i64 (i:Nat)))],[],z,G⟩:=by
 intro r
 have hl:=hs.2
 induction r with
 |nil=>
  intro i h1 h2 h3
  have:=drop_none h1
  have c1:¬(i:Int) < (b.txs.length:Int):=by omega
  rw[List.take_of_length_le (by omega)]at h3
  subst hz
  refine WL_in lp52_0.eq_1 ?_
  simp -implicitDefEqProofs only[BV,c1,List.length_map,go_sem,↓reduceIte]
  exact hx _ _ h3
 |cons p r ih=>
  intro i h1 h2 h3
  obtain⟨hd,hj,hlen⟩:=drop_one h1
  have a1:=at_drop2 h1
  have hsp:=hs.1 p (List.mem_of_getElem? a1)
  have hmem:=List.mem_of_getElem? a1
  have c1:(i:Int) < (b.txs.length:Int):=by omega
  have c3:(0:Int)≤i:=by omega
  have w1:IntKind.i64.wrap ((i:Int)+1)=((i+1:Nat):Int):=wc (by omega) (by omega)
  have ih1:p.May→_:=fun hm=>ih (i+1) hd (by omega) (fun t ht=>by
   rw[List.take_add_one,List.mem_append,a1]at ht
   rcases ht with ht|ht
   ·exact h3 t ht
   ·simp at ht;rw[ht];exact hm)
  obtain⟨x1,x2,x3,x4,x5,x6,x7⟩:=p
  have g:LL[i]? =some (V.agg [.int .i64 x1,.int .i64 x2,.int .i64 x3,.int .i64 x4,.int .i64 x5,.str x6,.str x7]):=hLL i _ a1
  subst hz
  refine WL_in lp52_0.eq_1 ?_
  simp -implicitDefEqProofs only[BV,c1,c3,hG,g,w1,hM,ZTm_eq,Int.toNat_natCast,List.length_map,go_sem,↓reduceIte]
  refine And.intro ⟨by omega,hsz⟩ ⟨⟨x1,x2,x3,x4,x5,x6,x7⟩,⟨rfl,hsp.1,hsp.2⟩,fun hm=> ?_,fun hm=> ?_⟩
  ·exact hr _ _ (fun hall=>by rw[show TxS.may _=true from decide_eq_true (hall _ hmem)]at hm;cases hm)
  ·exact ih1 (of_decide_eq_true hm)
theorem walk52 {b:BlkS} {x:V} (hS:Abs.look l 48=some ZBs) (hM:Abs.look l 55=some ZTm)
  (hx:TxsV G x b.txs) (hs:ShT b.txs) (h:Q (.v (.bool b.may)) G):Wf E (specOf l) pf52 [BV b x] G Q:=by
 have y:b.May→Q (.v (.bool true)) G:=fun hm=>finB h (decide_eq_true hm)
 have n:¬b.May→Q (.v (.bool false)) G:=fun hm=>finB h (decide_eq_false hm)
 unfold BlkS.May BlkS.Full at y n
 have hw:=hx.rws
 rcases hx with (rfl|⟨rfl,e0⟩)|⟨id,c,LL,rfl,hG,hLL,hfl,hsz⟩
 ·simp -implicitDefEqProofs only[pf52,BV,hS,ZBs_eq,List.length_map,go_sem,↓reduceIte]
  refine⟨b,BlkS.zero,_,.nils,⟨rfl,rfl,hw,hs.2,by decide⟩,fun hz=>y (.inl hz),fun hz=>⟨b.txs.length+1,?_⟩⟩
  simp -implicitDefEqProofs only[go_sem,↓reduceIte]
  refine loop52i hM hs rfl (fun i ts hm=> ?_) (fun ts v hm=> ?_) b.txs 0 rfl (by omega) (fun t ht=>by simp at ht)
  ·simp -implicitDefEqProofs only[BV,List.length_map,go_sem,↓reduceIte]
   repeat' first|(intro _)|apply And.intro
   all_goals first
    |exact n (fun hh=>hh.elim hz (fun hf=>by obtain⟨_,q1,q2,q3,q4⟩:=hf;omega))
    |exact y (.inr ⟨hm,by omega,by omega,by omega,by rw[e0];decide⟩)
    |(refine finB h ?_
      by_cases h8:(b.txs.length:Int)≤8
      ·rw[decide_eq_true h8];exact decide_eq_true (.inr ⟨hm,by omega,by omega,by omega,by omega⟩)
      ·rw[decide_eq_false h8];exact decide_eq_false (fun hh=>hh.elim hz (fun hf=>h8 (by have:=hf.2.2.2.2;omega))))
  ·simp -implicitDefEqProofs only[go_sem,↓reduceIte]
   exact n (fun hh=>hh.elim hz (fun hf=>hm hf.1))
 ·simp -implicitDefEqProofs only[pf52,BV,hS,ZBs_eq,List.length_map,go_sem,↓reduceIte]
  refine⟨b,BlkS.zero,_,.nils,⟨rfl,rfl,hw,hs.2,by decide⟩,fun hz=>y (.inl hz),fun hz=>⟨1,?_⟩⟩
  simp -implicitDefEqProofs only[go_sem,↓reduceIte]
  refine WL_in lp52_0.eq_1 ?_
  simp -implicitDefEqProofs only[Int.lt_irrefl,go_sem,↓reduceIte]
  have hm:∀t∈b.txs,t.May:=fun t ht=>by rw[e0]at ht;cases ht
  repeat' first|(intro _)|apply And.intro
  all_goals first
   |exact n (fun hh=>hh.elim hz (fun hf=>by obtain⟨_,q1,q2,q3,q4⟩:=hf;omega))
   |exact y (.inr ⟨hm,by omega,by omega,by omega,by rw[e0];decide⟩)
   |(refine finB h ?_
     by_cases h8:(b.txs.length:Int)≤8
     ·rw[decide_eq_true h8];exact decide_eq_true (.inr ⟨hm,by omega,by omega,by omega,by omega⟩)
     ·rw[decide_eq_false h8];exact decide_eq_false (fun hh=>hh.elim hz (fun hf=>h8 (by have:=hf.2.2.2.2;omega))))
 ·simp -implicitDefEqProofs only[pf52,BV,hS,ZBs_eq,List.length_map,go_sem,↓reduceIte]
  refine⟨b,BlkS.zero,_,.nils,⟨rfl,rfl,hw,hs.2,by decide⟩,fun hz=>y (.inl hz),fun hz=>⟨b.txs.length+1,?_⟩⟩
  simp -implicitDefEqProofs only[go_sem,↓reduceIte]
  refine loop52s hG hLL hfl hsz hM hs rfl (fun i ts hm=> ?_) (fun ts v hm=> ?_) b.txs 0 rfl (by omega) (fun t ht=>by simp at ht)
  ·simp -implicitDefEqProofs only[BV,List.length_map,go_sem,↓reduceIte]
   repeat' first|(intro _)|apply And.intro
   all_goals first
    |exact n (fun hh=>hh.elim hz (fun hf=>by obtain⟨_,q1,q2,q3,q4⟩:=hf;omega))
    |exact y (.inr ⟨hm,by omega,by omega,by omega,by rw[e0];decide⟩)
    |(refine finB h ?_
      by_cases h8:(b.txs.length:Int)≤8
      ·rw[decide_eq_true h8];exact decide_eq_true (.inr ⟨hm,by omega,by omega,by omega,by omega⟩)
      ·rw[decide_eq_false h8];exact decide_eq_false (fun hh=>hh.elim hz (fun hf=>h8 (by have:=hf.2.2.2.2;omega))))
  ·simp -implicitDefEqProofs only[go_sem,↓reduceIte]
   exact n (fun hh=>hh.elim hz (fun hf=>hm hf.1))
def lp100_0:PC:=
 (PC.reg [nn (.t 42) (.bin .lss (.v 41) (.v 40))]).seq ((PC.cond (.t 42) PC.skip (PC.exit 2)).seq ((PC.block 3 ((PC.reg [nn (.t 43) (.iadrS 7 (.v 39)
  (.v 41)),nn (.t 44) (.load 7 true (.t 43)),nn (.v 9) (.alloc (.agg [.int .i64 0,.int .i64 0,.int .i64 0,.int .i64 0,.int .i64 0,.str ⟨⟨[]⟩⟩,
  .str ⟨⟨[]⟩⟩])),nn .no (.store 7 (.v 9) (.t 44))]).seq (PC.reg [mm 45 5,nn (.t 46) (.load 7 true (.v 9)),nn (.t 47) (.call 98 [.t 45,.t 46]),ma 5
  47]))).seq (PC.reg [nn (.t 48) (.bin .add (.v 41) (.c (.v (.int .i64 1)))),nn (.v 41) (.mv false (.t 48))])))
def lp100_1:PC:=
 (PC.reg [nn (.v 30) (.bin .lss (.v 29) (.v 28))]).seq ((PC.cond (.v 30) PC.skip (PC.exit 0)).seq ((PC.block 1 ((PC.reg [nn (.v 31) (.iadrS 1 (.v 27)
  (.v 29)),nn (.v 32) (.load 1 false (.v 31)),nn (.v 7) (.mv true (.v 32))]).seq (PC.reg [nn (.v 33) (.mv false (.v 5)),nn (.v 34) (.mv false (.v
  7)),nn (.v 35) (.conv .u64 (.v 34)),nn (.v 36) (.call 120 [.v 33,.v 35]),nn (.v 5) (.mv true (.v 36))]))).seq (PC.reg [nn (.v 37) (.bin .add (.v
  29) (.c (.v (.int .i64 1)))),nn (.v 29) (.mv false (.v 37))])))
def pf100:PF:=
 PF.mk 1 42 50 ((PC.reg [nn (.v 1) (.box (.v 0)),nn (.v 2) (.mv true (.c (.own .nils))),nn (.v 3) (.mv true (.c (.v (.int .i64 0))))]).seq (((PC.reg
  [nn (.v 10) (.load 36 true (.v 1)),nn (.v 11) (.call 124 [.v 10]),nn (.v 4) (.mv true (.v 11))]).seq ((PC.reg [nn (.v 12) (.mv false (.v 4)),nn
  (.v 13) (.bin .neq (.v 12) (.c (.v (.int .i64 0))))]).seq (PC.cond (.v 13) ((PC.reg [nn (.v 14) (.mv false (.v 4)),nn (.v 2) (.mv true (.c (.own
  .nils))),nn (.v 3) (.mv true (.v 14))]).seq PC.ret) PC.skip))).seq ((PC.reg [nn (.v 15) (.fadr 0 0 (.v 1)),nn (.v 16) (.load 32 true (.v 15)),nn
  (.v 17) (.call 97 [.c (.own .nils),.v 16]),nn (.v 5) (.mv true (.v 17))]).seq (((PC.reg [nn (.v 18) (.fadr 1 32 (.v 1)),nn (.v 19) (.load 1 false
  (.v 18)),nn (.v 20) (.fadr 2 33 (.v 1)),nn (.v 21) (.load 1 false (.v 20)),nn (.v 22) (.fadr 3 34 (.v 1)),nn (.v 23) (.load 1 false (.v 22)),nn
  (.v 24) (.fadr 4 35 (.v 1)),nn (.v 25) (.load 1 false (.v 24)),nn (.v 26) (.len (.v 25)),nn (.v 27) (.buildS (some .i64) 1 (.int .i64 0) 4 [(0,.v
  19),(1,.v 21),(2,.v 23),(3,.v 26)]),nn (.v 28) (.len (.v 27)),nn (.v 29) (.mv false (.c (.v (.int .i64 0))))]).seq (PC.block 0 (PC.loop [1,
  5,27,28,29] lp100_1))).seq (((PC.reg [nn (.v 38) (.fadr 4 35 (.v 1)),nn (.v 39) (.load 1 false (.v 38)),nn (.v 40) (.len (.v 39)),nn (.v 41)
  (.mv false (.c (.v (.int .i64 0))))]).seq (PC.block 2 (PC.loop [5,39,40,41] lp100_0))).seq ((PC.reg [mm 49 5,ma 2 49,nn (.v 3) (.mv true (.c (.v
  (.int .i64 0))))]).seq PC.ret)))))) [(.v 2,none),(.v 3,none)]
def ZBp:Spec1
 |[u],G,Q=>∃(b:BlkS) (x:V),(u=BV b x∧PlV x b.txs∧ShT b.txs∧H32 b.pa)∧Q (.tup [if b.may=true then .sli .u8 b.bytes else .nils,.int .i64 (if b.may=true then 0 else 1)]) G
 |_,_,_=>False
theorem ZBp_eq {u}:ZBp [u] G Q=(∃(b:BlkS) (x:V),(u=BV b x∧PlV x b.txs∧ShT b.txs∧H32 b.pa)∧Q (.tup [if b.may=true then .sli .u8 b.bytes else .nils,.int .i64 (if b.may=true then 0 else 1)]) G):=rfl
theorem BlkS.rng {b:BlkS} (h:b.May):(0≤b.vi∧b.vi≤1099511627776)∧(0≤b.he∧b.he≤1099511627776)∧(0≤b.who∧b.who≤21)∧b.txs.length≤8∧∀t∈b.txs,t.May:=by
 rcases h with rfl|⟨h1,h2,h3,h4,h5⟩
 ·exact⟨by decide,by decide,by decide,by decide,fun t ht=>by cases ht⟩
 ·exact⟨by omega,by omega,by omega,h5,h1⟩
theorem loopN100 {QQ:Ex→St→Prop} {b:List Int} {n1 n2 n3 n4:Int} {L:List Bx} (hN:Abs.look l 120=some SNu) (hb:b.length < 100000000) (h1:0≤n1∧n1≤1099511627776) (h2:0≤n2∧n2≤1099511627776) (h3:0≤n3∧n3≤1099511627776) (h4:0≤n4∧n4≤1099511627776)
  (h:∀ts v30,QQ (.exit 0) ⟨[none,some (.lp 0 []),none,none,none,some (.own (.sli .u8 (b++num n1.toNat++num n2.toNat++num n3.toNat++num n4.toNat))),none,none,none,none,none,none,none,none,none,none,none,none,none,none,none,none,none,none,none,none,none,some (.own (.sli .i64 [n1,n2,n3,n4])),some (.v (.int .i64 4)),some (.v (.int .i64 4)),v30,none,none,none,none,none,none,none,none,none,none,none],ts,L,G⟩):WL (W E (specOf l) lp100_1) [1,5,27,28,29] QQ 5 ⟨[none,some (.lp 0 []),none,none,none,some (.own (.sli .u8 b)),none,none,none,none,none,none,none,none,none,none,none,none,none,none,none,none,none,none,none,none,none,some (.own (.sli .i64 [n1,n2,n3,n4])),some (.v (.int .i64 4)),some (.v (.int .i64 0)),none,none,none,none,none,none,none,none,none,none,none,none],[],L,G⟩:=by
 have u1:IntKind.u64.wrap n1=n1:=u64_of (by omega) (by omega)
 have u2:IntKind.u64.wrap n2=n2:=u64_of (by omega) (by omega)
 have u3:IntKind.u64.wrap n3=n3:=u64_of (by omega) (by omega)
 have u4:IntKind.u64.wrap n4=n4:=u64_of (by omega) (by omega)
 obtain⟨_,l1⟩:=num_ok (n:=n1.toNat) (by omega)
 obtain⟨_,l2⟩:=num_ok (n:=n2.toNat) (by omega)
 obtain⟨_,l3⟩:=num_ok (n:=n3.toNat) (by omega)
 have i1:IntKind.i64.wrap 1=1:=by decide
 have i2:IntKind.i64.wrap 2=2:=by decide
 have i3:IntKind.i64.wrap 3=3:=by decide
 have i4:IntKind.i64.wrap 4=4:=by decide
 refine WL_in lp100_1.eq_1 ?_
 simp -implicitDefEqProofs only[hN,SNu_eq,u1,i1,go_sem,↓reduceIte]
 refine⟨b,⟨rfl,by omega,by omega,by omega⟩,?_⟩
 refine WL_in lp100_1.eq_1 ?_
 simp -implicitDefEqProofs only[hN,SNu_eq,u2,i2,go_sem,↓reduceIte]
 refine⟨b++num n1.toNat,⟨rfl,by rw[List.length_append];omega,by omega,by omega⟩,?_⟩
 refine WL_in lp100_1.eq_1 ?_
 simp -implicitDefEqProofs only[hN,SNu_eq,u3,i3,go_sem,↓reduceIte]
 refine⟨b++num n1.toNat++num n2.toNat,⟨rfl,by rw[List.length_append,List.length_append];omega,by omega,by omega⟩,?_⟩
 refine WL_in lp100_1.eq_1 ?_
 simp -implicitDefEqProofs only[hN,SNu_eq,u4,i4,go_sem,↓reduceIte]
 refine⟨b++num n1.toNat++num n2.toNat++num n3.toNat,⟨rfl,by rw[List.length_append,List.length_append,List.length_append];omega,by omega,by omega⟩,?_⟩
 refine WL_in lp100_1.eq_1 ?_
 simp -implicitDefEqProofs only[go_sem,↓reduceIte]
 exact h _ _
theorem loopT100 {QQ:Ex→St→Prop} {bb:List Int} {txs:List TxS} (hP:Abs.look l 98=some ZPt) (hb:bb.length < 1000000) (hn:txs.length≤8) (hm:∀t∈txs,t.May)
  (hx:∀i ts L,QQ (.exit 2) ⟨[none,none,none,none,none,some (.own (.sli .u8 (bb++txsB txs))),none,none,none,none,none,none,none,none,none,none,none,none,none,none,none,none,none,none,none,none,none,none,none,none,none,none,none,none,none,none,none,none,none,some (.v (.sle 7 (txs.map TxS.v))),some (.v (.int .i64 (txs.length:Nat))),some (.v (.int .i64 (i:Nat)))],ts,L,G⟩):
  ∀(r:List TxS) (i:Nat) (acc:List Int) (L:List Bx),txs.drop i=r→i≤txs.length→acc=bb++txsB (txs.take i)→WL (W E (specOf l) lp100_0) [5,39,40,41] QQ (r.length+1) ⟨[none,none,none,none,none,some (.own (.sli .u8 acc)),none,none,none,none,none,none,none,none,none,none,none,none,none,none,none,none,none,none,none,none,none,none,none,none,none,none,none,none,none,none,none,none,none,some (.v (.sle 7 (txs.map TxS.v))),some (.v (.int .i64 (txs.length:Nat))),some (.v (.int .i64 (i:Nat)))],[],L,G⟩:=by
 intro r
 induction r with
 |nil=>
  intro i acc L h1 h2 h3
  have:=drop_none h1
  have c1:¬(i:Int) < (txs.length:Int):=by omega
  rw[List.take_of_length_le (by omega)]at h3
  subst h3
  refine WL_in lp100_0.eq_1 ?_
  simp -implicitDefEqProofs only[c1,go_sem,↓reduceIte]
  exact hx _ _ _
 |cons p r ih=>
  intro i acc L h1 h2 h3
  obtain⟨hd,hj,hlen⟩:=drop_one h1
  have a1:=at_drop2 h1
  have hmp:=hm p (List.mem_of_getElem? a1)
  obtain⟨k1,k2⟩:=txsB_ok (l:=txs.take i) (fun t ht=>hm t (List.mem_of_mem_take ht))
  have tl:(txs.take i).length≤8:=by rw[List.length_take];omega
  have al:acc.length < 10000000:=by rw[h3,List.length_append];omega
  have c1:(i:Int) < (txs.length:Int):=by omega
  have c3:(0:Int)≤i:=by omega
  have w1:IntKind.i64.wrap ((i:Int)+1)=((i+1:Nat):Int):=wc (by omega) (by omega)
  have hks:p.key.size < 1000000000∧p.val.size < 1000000000:=by
   have e1:(byS p.key).length=p.key.size:=byS_len
   rcases hmp.2.2 with⟨_,_,_,e2,e3⟩|⟨_,_,_,e2,e3⟩|⟨_,_,_,e2,e3⟩
   ·rw[e2,e3];decide
   ·have:=e2.2.2;omega
   ·have:=e2.2.2;rw[e3];exact⟨by omega,by decide⟩
  have hA:∀x:Bx,(L++[x])[L.length]? =some x:=fun x=>by simp
  have hS:∀x y:Bx,((L++[x]).set L.length y)[L.length]? =some y:=fun x y=>by simp
  have hpm:p.may=true:=decide_eq_true hmp
  have ih1:=fun L=>ih (i+1) (acc++p.bytes) L hd (by omega) (by rw[h3,List.take_add_one,a1,Option.toList_some,txsB_snoc,List.append_assoc])
  obtain⟨x1,x2,x3,x4,x5,x6,x7⟩:=p
  have g:(txs.map TxS.v).getD i V.nilp= .agg [.int .i64 x1,.int .i64 x2,.int .i64 x3,.int .i64 x4,.int .i64 x5,.str x6,.str x7]:=getD_tx h1
  refine WL_in lp100_0.eq_1 ?_
  simp -implicitDefEqProofs only[c1,c3,w1,g,hA,hS,hP,ZPt_eq,Int.toNat_natCast,List.length_map,go_sem,↓reduceIte]
  refine⟨acc,⟨x1,x2,x3,x4,x5,x6,x7⟩,⟨rfl,by omega,rfl,hks.1,hks.2⟩,?_⟩
  rw[if_pos hpm]
  exact ih1 _
theorem walk100 {b:BlkS} {x:V} (hC:Abs.look l 124=some ZKc) (hN:Abs.look l 120=some SNu) (hH:Abs.look l 97=some SHa) (hP:Abs.look l 98=some ZPt)
  (hx:PlV x b.txs) (hs:ShT b.txs) (hh:H32 b.pa) (h:Q (.tup [if b.may=true then .sli .u8 b.bytes else .nils,.int .i64 (if b.may=true then 0 else 1)]) G):Wf E (specOf l) pf100 [BV b x] G Q:=by
 by_cases hm:b.may=true
 ·have hM:b.May:=of_decide_eq_true hm
  obtain⟨q1,q2,q3,q4,q5⟩:=BlkS.rng hM
  rw[if_pos hm,if_pos hm]at h
  have l32:b.pa.length=32:=hh.2
  obtain⟨_,l1⟩:=num_ok (n:=b.vi.toNat) (by omega)
  obtain⟨_,l2⟩:=num_ok (n:=b.he.toNat) (by omega)
  obtain⟨_,l3⟩:=num_ok (n:=b.who.toNat) (by omega)
  obtain⟨_,l4⟩:=num_ok (n:=b.txs.length) (by omega)
  have hx0:=hx
  rcases hx with rfl|⟨rfl,e0⟩
  ·simp -implicitDefEqProofs only[pf100,BV,hC,ZKc_eq,go_sem,↓reduceIte]
   refine⟨b,_,⟨rfl,.inl hx0,hs⟩,?_⟩
   rw[if_pos hm]
   simp -implicitDefEqProofs only[hH,SHa_eq,l32,List.length_map,go_sem,↓reduceIte]
   refine⟨[],⟨rfl,by decide⟩,5,?_⟩
   simp -implicitDefEqProofs only[go_sem,↓reduceIte]
   refine loopN100 hN (by omega) q1 q2 (by omega) (by omega) (fun ts v30=> ?_)
   simp -implicitDefEqProofs only[BV,List.length_map,go_sem,↓reduceIte]
   refine⟨b.txs.length+1,?_⟩
   simp -implicitDefEqProofs only[go_sem,↓reduceIte]
   refine loopT100 (bb:=b.pa++num b.vi.toNat++num b.he.toNat++num b.who.toNat++num b.txs.length) hP (by simp only[List.length_append];omega) q4 q5 (fun i ts L=> ?_) b.txs 0 _ _ rfl (by omega) (by rw[List.take_zero];simp[txsB])
   simp -implicitDefEqProofs only[go_sem,↓reduceIte]
   exact h
  ·simp -implicitDefEqProofs only[pf100,BV,hC,ZKc_eq,go_sem,↓reduceIte]
   refine⟨b,_,⟨rfl,.inl hx0,hs⟩,?_⟩
   rw[if_pos hm]
   simp -implicitDefEqProofs only[hH,SHa_eq,l32,go_sem,↓reduceIte]
   refine⟨[],⟨rfl,by decide⟩,5,?_⟩
   simp -implicitDefEqProofs only[go_sem,↓reduceIte]
   refine loopN100 hN (by omega) q1 q2 (by omega) (by decide) (fun ts v30=> ?_)
   simp -implicitDefEqProofs only[BV,go_sem,↓reduceIte]
   refine⟨1,?_⟩
   simp -implicitDefEqProofs only[go_sem,↓reduceIte]
   refine WL_in lp100_0.eq_1 ?_
   simp -implicitDefEqProofs only[Int.lt_irrefl,go_sem,↓reduceIte]
   unfold BlkS.bytes at h
   rw[e0]at h
   simp only[txsB,List.append_nil,List.length_nil]at h
   exact h
 ·rw[if_neg hm,if_neg hm]at h
  obtain⟨x1,x2⟩:=hx.one
  unfold V.isAgg at x2
  simp -implicitDefEqProofs only[pf100,BV,x1,x2,hC,ZKc_eq,go_sem,↓reduceIte]
  refine⟨b,x,⟨rfl,.inl hx,hs⟩,?_⟩
  rw[if_neg hm]
  simp -implicitDefEqProofs only[go_sem,↓reduceIte]
  exact h
theorem Low.trans {G:List (Nat×V)} {r:R} {G':List (Nat×V)} {r2:R} {G2:List (Nat×V)} {r3:R} {G3:List (Nat×V)} (h:Low G r G' r2 G2) (h2:Low G r2 G2 r3 G3):Low G r G' r3 G3:=by
 induction h with
 |refl r G'=>exact h2
 |fz id L k h0 h1 a2 h3 h4 h ih=>exact .fz id L k h0 h1 a2 h3 h4 (ih h2)
 |wk h1 a2 h ih=>exact .wk h1 a2 (ih h2)
 |drop h1 a2 h ih=>exact .drop h1 a2 (ih h2)
theorem BlkS_bytes_ok {b:BlkS} (hp:H32 b.pa) (h:b.May):Byt b.bytes∧b.bytes.length≤3000:=by
 obtain⟨q1,q2,q3,q4,q5⟩:=BlkS.rng h
 obtain⟨a1,l1⟩:=num_ok (n:=b.vi.toNat) (by omega)
 obtain⟨a2,l2⟩:=num_ok (n:=b.he.toNat) (by omega)
 obtain⟨a3,l3⟩:=num_ok (n:=b.who.toNat) (by omega)
 obtain⟨a4,l4⟩:=num_ok (n:=b.txs.length) (by omega)
 obtain⟨a5,l5⟩:=txsB_ok q5
 have:=hp.2
 refine⟨byt_app (byt_app (byt_app (byt_app (byt_app hp.1 a1) a2) a3) a4) a5,?_⟩
 unfold BlkS.bytes;simp only[List.length_append];omega
end Go.Proofs.Ytjbglbhcbenhpaa.Sha
namespace Go.Abs
open Go Go.RowKit
set_option linter.unusedVariables false
set_option linter.unusedSimpArgs false
namespace Sha
deriving instance DecidableEq for AttS
deriving instance DecidableEq for AccS
deriving instance DecidableEq for CertS
structure MsgS where
 ki:Int
 fr:Int
 to:Int
 at_:AttS
 ce:CertS
 ac:AccS
 bl:BlkS
 ha:List Int
 tx:TxS
deriving DecidableEq
def MsgS.v (m:MsgS):V:= .agg [.int .i64 m.ki,.int .i64 m.fr,.int .i64 m.to,m.at_.v,m.ce.v,m.ac.v,m.bl.v,.arr .u8 32 m.ha,m.tx.v]
def MsgS.bare (k f t:Int):MsgS:=⟨k,f,t,.zero,.zero,.zero,.zero,zero32,.zero⟩
def MsgS.zero:MsgS:= .bare 0 0 0
def MsgS.named (m:MsgS):MsgS:=
 if m.ki=1∨m.ki=3∨m.ki=5 then { MsgS.bare m.ki m.fr m.to with at_:=m.at_ }
 else if m.ki=2 then { MsgS.bare m.ki m.fr m.to with bl:=m.bl,ac:=m.ac }
 else if m.ki=4∨m.ki=6 then { MsgS.bare m.ki m.fr m.to with ce:=m.ce }
 else if m.ki=7 then { MsgS.bare m.ki m.fr m.to with ha:=m.ha }
 else if m.ki=8 then { MsgS.bare m.ki m.fr m.to with bl:=m.bl }
 else if m.ki=9 then { MsgS.bare m.ki m.fr m.to with tx:=m.tx }
 else if m.ki=10 then { MsgS.bare m.ki m.fr m.to with ac:=m.ac }
 else MsgS.bare m.ki m.fr m.to
def MsgS.has (m:MsgS):Bool:=
 if m.ki=1∨m.ki=3∨m.ki=5 then m.at_.may&&decide (m.at_.ki=(m.ki+1) / 2)
 else if m.ki=2 then m.bl.may&&decide (0 < m.bl.vi)&&m.ac.may
 else if m.ki=4∨m.ki=6 then m.ce.may&&decide (m.ce.att.ki=m.ki / 2)
 else if m.ki=7 then true
 else if m.ki=8 then m.bl.may&&decide (0 < m.bl.vi)
 else if m.ki=9 then m.tx.may
 else if m.ki=10 then m.ac.may
 else false
def MsgS.May (m:MsgS):Prop:=((1≤m.fr∧m.fr≤21)∧(1≤m.to∧m.to≤21)∧m.fr≠m.to)∧m.has=true∧m=m.named
instance (m:MsgS):Decidable m.May:=by unfold MsgS.May;infer_instance
def MsgS.may (m:MsgS):Bool:=decide m.May
def MsgS.body (m:MsgS):List Int:=
 if m.ki=1∨m.ki=3∨m.ki=5 then (if m.at_.may=true then m.at_.bytes else [])
 else if m.ki=4∨m.ki=6 then (if m.ce.may=true then m.ce.bytes else [])
 else if m.ki=7 then m.ha
 else if m.ki=9 then (if m.tx.may=true then m.tx.bytes else [])
 else if m.ki=10 then (if m.ac.may=true then m.ac.bytes else [])
 else if m.ki=2∨m.ki=8 then (if m.bl.may=true∧m.bl.vi≠0∧(m.ki=2↔m.ac.may=true)then txt m.bl.bytes++(if m.ac.may=true then m.ac.bytes else [])else [])
 else []
def MsgS.bytes (m:MsgS):List Int:=num m.ki.toNat++num m.fr.toNat++num m.to.toNat++m.body
structure MsgS.ok (m:MsgS):Prop where
 at_:m.at_.wf
 ce:m.ce.ok
 cel:m.ce.sigs.length < 1000000
 ac:m.ac.wf
 acl:m.ac.fr.length < 1000000
 bl:m.bl.ok
 ha:H32 m.ha
 txk:m.tx.key.size < 1000000000
 txv:m.tx.val.size < 1000000000
theorem CertS.zero_ok:CertS.zero.ok:=⟨AttS.zero_wf,fun p hp=>by cases hp⟩
theorem BlkS.zero_ok:BlkS.zero.ok:=⟨h32_zero,(fun t ht=>by cases ht),by decide⟩
theorem MsgS.bare_ok (k f t:Int):(MsgS.bare k f t).ok:=⟨AttS.zero_wf,CertS.zero_ok,(by show CertS.zero.sigs.length < 1000000;decide),AccS.zero_wf,(by show AccS.zero.fr.length < 1000000;decide),BlkS.zero_ok,h32_zero,(by show TxS.zero.key.size < 1000000000;decide),(by show TxS.zero.val.size < 1000000000;decide)⟩
theorem AttS.bytes_pos (a:AttS):0 < a.bytes.length:=by
 have:=num_pos a.who.toNat
 unfold AttS.bytes;simp only[List.length_append];omega
theorem CertS.bytes_pos (c:CertS):0 < c.bytes.length:=by
 have:=num_pos c.sigs.length
 unfold CertS.bytes;simp only[List.length_append];omega
theorem AccS.bytes_pos (a:AccS):0 < a.bytes.length:=by
 have:=num_pos a.who.toNat
 unfold AccS.bytes;simp only[List.length_append];omega
theorem TxS.bytes_pos (t:TxS):0 < t.bytes.length:=by
 have:=num_pos t.fr.toNat
 unfold TxS.bytes;simp only[List.length_append];omega
theorem txt_pos (b:List Int):0 < (txt b).length:=by
 have:=num_pos b.length
 unfold txt;simp only[List.length_append];omega
theorem AttS.zero_may:AttS.zero.may=false:=by decide
theorem CertS.zero_may:CertS.zero.may=false:=by decide
theorem AccS.zero_may:AccS.zero.may=false:=by decide
theorem MsgS.may_iff {m:MsgS} (hh:m.ha.length=32) (hn:m=m.named):(m.has=true)↔(0 < m.body.length∧m.at_.ki+m.ce.att.ki=(if m.ki=1 then 1 else if m.ki=3∨m.ki=4 then 2 else if m.ki=5∨m.ki=6 then 3 else 0)):=by
 obtain⟨k,f,t,a,c,ac,b,ha,x⟩:=m
 have bvi:∀b:BlkS,b.may=true→(0 < b.vi↔b.vi≠0):=fun b hb=>by
  rcases of_decide_eq_true hb with rfl|hb
  ·simp[BlkS.zero]
  ·have:=hb.2.1;omega
 have pa:=AttS.bytes_pos a
 have pc:=CertS.bytes_pos c
 have pac:=AccS.bytes_pos ac
 have px:=TxS.bytes_pos x
 have pt:=txt_pos b.bytes
 dsimp only at hh
 have az:AttS.zero.ki=0:=rfl
 have cz:CertS.zero.att.ki=0:=rfl
 by_cases k1:k=1
 ·subst k1
  simp only[MsgS.named,MsgS.bare,true_or,if_true,MsgS.mk.injEq,true_and,and_true]at hn
  obtain⟨rfl,rfl,rfl,rfl,rfl⟩:=hn
  simp only[MsgS.has,MsgS.body,true_or,if_true,cz]
  cases a.may<;>simp;omega
 by_cases k3:k=3
 ·subst k3
  simp only[MsgS.named,MsgS.bare,true_or,or_true,if_true,MsgS.mk.injEq,true_and,and_true]at hn
  obtain⟨rfl,rfl,rfl,rfl,rfl⟩:=hn
  simp only[MsgS.has,MsgS.body,true_or,or_true,if_true,cz]
  cases a.may<;>simp;omega
 by_cases k5:k=5
 ·subst k5
  simp only[MsgS.named,MsgS.bare,true_or,or_true,if_true,MsgS.mk.injEq,true_and,and_true]at hn
  obtain⟨rfl,rfl,rfl,rfl,rfl⟩:=hn
  simp only[MsgS.has,MsgS.body,true_or,or_true,if_true,cz]
  cases a.may<;>simp;omega
 have n135:¬(k=1∨k=3∨k=5):=by omega
 by_cases k2:k=2
 ·subst k2
  simp[MsgS.named,MsgS.bare]at hn
  obtain⟨rfl,rfl,rfl,rfl⟩:=hn
  simp only[MsgS.has,MsgS.body,az,cz]
  cases hb:b.may<;>cases hac:ac.may<;>simp
  have:=bvi b hb
  by_cases h0:b.vi=0<;>simp[h0]<;>omega
 by_cases k4:k=4
 ·subst k4
  simp[MsgS.named,MsgS.bare]at hn
  obtain⟨rfl,rfl,rfl,rfl,rfl⟩:=hn
  simp only[MsgS.has,MsgS.body,az]
  cases c.may<;>simp;omega
 by_cases k6:k=6
 ·subst k6
  simp[MsgS.named,MsgS.bare]at hn
  obtain⟨rfl,rfl,rfl,rfl,rfl⟩:=hn
  simp only[MsgS.has,MsgS.body,az]
  cases c.may<;>simp;omega
 by_cases k7:k=7
 ·subst k7
  simp[MsgS.named,MsgS.bare]at hn
  obtain⟨rfl,rfl,rfl,rfl,rfl⟩:=hn
  simp[MsgS.has,MsgS.body,az,cz,hh]
 by_cases k8:k=8
 ·subst k8
  simp[MsgS.named,MsgS.bare]at hn
  obtain⟨rfl,rfl,rfl,rfl,rfl⟩:=hn
  simp only[MsgS.has,MsgS.body,az,cz,AccS.zero_may]
  cases hb:b.may<;>simp
  have:=bvi b hb
  by_cases h0:b.vi=0<;>simp[h0]<;>omega
 by_cases k9:k=9
 ·subst k9
  simp[MsgS.named,MsgS.bare]at hn
  obtain⟨rfl,rfl,rfl,rfl,rfl⟩:=hn
  simp only[MsgS.has,MsgS.body,az,cz]
  cases x.may<;>simp;omega
 by_cases k10:k=10
 ·subst k10
  simp[MsgS.named,MsgS.bare]at hn
  obtain⟨rfl,rfl,rfl,rfl,rfl⟩:=hn
  simp only[MsgS.has,MsgS.body,az,cz]
  cases ac.may<;>simp;omega
 simp[MsgS.has,MsgS.body,k1,k2,k3,k4,k5,k6,k7,k8,k9,k10]
end Sha
end Go.Abs
