/- Laws over plain values, and what functions of the program hand back; no conditions. -/
import Derived.Test.YtjbglbhcbenhpaaG3
import Derived.Test.YtjbglbhcbenhpaaG1
namespace Go.Proofs.Ytjbglbhcbenhpaa.Sha
open Go Go.Abs Go.Abs.Sha Go.Abs.Srt
set_option linter.unusedSimpArgs false
set_option linter.unusedVariables false
set_option maxRecDepth 100000
def pf144:PF:=
 PF.mk 3 7 15 ((PC.reg [nn (.v 6) (.mv true (.c (.v (.bool false))))]).seq ((PC.reg [mm 7 0,mm 8 1,nn (.t 9) (.bin .geq (.t 7) (.t 8)),nn (.t 10)
  (.mv false (.t 9)),gm 11 0 10 true,gm 12 2 10 true,⟨.t 13,.bin .leq (.t 11) (.t 12),some (.t 10,true)⟩,nn (.t 14) (.pick (.t 10) (.t 13) (.c
  (.v (.bool false)))),ma 6 14]).seq PC.ret)) [(.v 6,none)]
def lp122_0:PC:=
 (PC.reg [nn (.t 10) (.bin .lss (.v 9) (.v 8))]).seq ((PC.cond (.t 10) PC.skip (PC.exit 0)).seq ((PC.block 1 ((PC.reg [nn (.t 11) (.iadrS 1 (.v 7) (.v
  9)),nn (.t 12) (.load 1 false (.t 11)),ma 5 12]).seq (((PC.reg [mm 13 5,mm 14 3,nn (.t 15) (.bin .leq (.t 13) (.t 14)),nn (.t 16) (.mv false (.t
  15)),gm 17 5 16 false,⟨.t 18,.bin .gtr (.t 17) (.c (.v (.int .i64 21))),some (.t 16,false)⟩,nn (.t 19) (.pick (.t 16) (.c (.v (.bool true)))
  (.t 18))]).seq (PC.cond (.t 19) ((PC.reg [nn (.v 2) (.mv true (.c (.v (.bool false))))]).seq PC.ret) PC.skip)).seq (PC.reg [nn (.t 20) (.mv true (.v
  5)),ma 3 20])))).seq (PC.reg [nn (.t 21) (.bin .add (.v 9) (.c (.v (.int .i64 1)))),nn (.v 9) (.mv false (.t 21))])))
def pf122:PF:=
 PF.mk 1 10 44 ((PC.reg [nn (.v 1) (.box (.v 0)),nn (.v 2) (.mv true (.c (.v (.bool false))))]).seq ((PC.reg [nn (.v 3) (.mv true (.c (.v (.int .i64
  0))))]).seq (((PC.reg [nn (.v 6) (.fadr 4 35 (.v 1)),nn (.v 7) (.load 1 false (.v 6)),nn (.v 8) (.len (.v 7)),nn (.v 9) (.mv false (.c (.v (.int
  .i64 0))))]).seq (PC.block 0 (PC.loop [1,3,7,8,9] lp122_0))).seq ((PC.reg [nn (.t 22) (.fadr 0 0 (.v 1)),nn (.t 23) (.load 1 false (.t 22)),nn
  (.t 24) (.call 69 [.t 23]),nn (.t 25) (.mv false (.t 24)),⟨.t 26,.fadr 1 1 (.v 1),some (.t 25,true)⟩,⟨.t 27,.load 1 false (.t 26),some (.t
  25,true)⟩,⟨.t 28,.call 144 [.t 27,.c (.v (.int .i64 1)),.c (.v (.int .i64 1099511627776))],some (.t 25,true)⟩,nn (.t 29) (.pick (.t 25) (.t
  28) (.c (.v (.bool false)))),nn (.t 30) (.mv false (.t 29)),⟨.t 31,.fadr 2 2 (.v 1),some (.t 30,true)⟩,⟨.t 32,.load 1 false (.t 31),some (.t
  30,true)⟩,⟨.t 33,.fadr 1 1 (.v 1),some (.t 30,true)⟩,⟨.t 34,.load 1 false (.t 33),some (.t 30,true)⟩,⟨.t 35,.bin .sub (.t 34) (.c (.v
  (.int .i64 1))),some (.t 30,true)⟩,⟨.t 36,.call 144 [.t 32,.c (.v (.int .i64 0)),.t 35],some (.t 30,true)⟩,nn (.t 37) (.pick (.t 30) (.t 36)
  (.c (.v (.bool false)))),nn (.t 38) (.mv false (.t 37)),⟨.t 39,.fadr 4 35 (.v 1),some (.t 38,true)⟩,⟨.t 40,.load 1 false (.t 39),some (.t 38,
  true)⟩,⟨.t 41,.len (.t 40),some (.t 38,true)⟩,⟨.t 42,.bin .gtr (.t 41) (.c (.v (.int .i64 0))),some (.t 38,true)⟩,nn (.t 43) (.pick (.t 38)
  (.t 42) (.c (.v (.bool false)))),ma 2 43]).seq PC.ret)))) [(.v 2,none)]
def lp123_0:PC:=
 (PC.reg [nn (.t 29) (.bin .lss (.v 28) (.v 27))]).seq ((PC.cond (.t 29) PC.skip (PC.exit 0)).seq ((PC.block 1 ((PC.reg [nn (.t 30) (.iadrS 1 (.v 26)
  (.v 28)),nn (.t 31) (.load 1 false (.t 30)),ma 6 31]).seq (PC.reg [mm 32 0,mm 33 6,nn (.t 34) (.conv .u64 (.t 33)),nn (.t 35) (.call 120 [.t 32,
  .t 34]),ma 0 35]))).seq (PC.reg [nn (.t 36) (.bin .add (.v 28) (.c (.v (.int .i64 1)))),nn (.v 28) (.mv false (.t 36))])))
def pf123:PF:=
 PF.mk 2 29 38 ((PC.reg [nn (.v 3) (.box (.v 1)),nn (.v 4) (.mv true (.c (.own .nils)))]).seq ((PC.regD 0 [nn (.v 7) (.mv false (.v 0)),nn (.v 8)
  (.fadr 1 1 (.v 3)),nn (.v 9) (.load 1 false (.v 8)),nn (.v 10) (.conv .u64 (.v 9)),nn (.v 11) (.call 120 [.v 7,.v 10]),nn (.v 12) (.fadr 2 2 (.v
  3)),nn (.v 13) (.load 1 false (.v 12)),nn (.v 14) (.conv .u64 (.v 13)),nn (.v 15) (.call 120 [.v 11,.v 14]),nn (.v 0) (.mv true (.v 15))]
  []).seq ((PC.regD 0 [nn (.v 16) (.mv false (.v 0)),nn (.v 17) (.fadr 3 3 (.v 3)),nn (.v 18) (.load 32 true (.v 17)),nn (.v 19) (.call 97 [.v 16,
  .v 18]),nn (.v 20) (.fadr 4 35 (.v 3)),nn (.v 21) (.load 1 false (.v 20)),nn (.v 22) (.len (.v 21)),nn (.v 23) (.conv .u64 (.v 22)),nn (.v 24)
  (.call 120 [.v 19,.v 23]),nn (.v 0) (.mv true (.v 24))] []).seq (((PC.reg [nn (.v 25) (.fadr 4 35 (.v 3)),nn (.v 26) (.load 1 false (.v 25)),nn
  (.v 27) (.len (.v 26)),nn (.v 28) (.mv false (.c (.v (.int .i64 0))))]).seq (PC.block 0 (PC.loop [0,26,27,28] lp123_0))).seq ((PC.reg [nn (.t 37)
  (.mv true (.v 0)),ma 4 37]).seq PC.ret))))) [(.v 4,none)]
def lp47_0:PC:=
 ((PC.reg [mm 48 5,nn (.t 49) (.fadr 4 35 (.v 2)),nn (.t 50) (.load 1 false (.t 49)),nn (.t 51) (.len (.t 50)),nn (.t 52) (.bin .lss (.t 48) (.t
  51))]).seq (PC.cond (.t 52) PC.skip (PC.exit 0))).seq ((PC.block 1 ((PC.regD 0 [nn (.t 55) (.fadr 4 35 (.v 2)),nn (.t 56) (.load 1 false (.t 55)),
  mm 57 5,nn (.t 58) (.iadrS 1 (.t 56) (.t 57)),nn (.t 59) (.load 1 false (.t 58)),nn (.t 60) (.fadr 4 35 (.v 3)),nn (.t 61) (.load 1 false (.t
  60)),mm 62 5,nn (.t 63) (.iadrS 1 (.t 61) (.t 62)),nn (.t 64) (.load 1 false (.t 63)),nn (.t 65) (.bin .neq (.t 59) (.t 64))] []).seq (PC.cond
  (.t 65) ((PC.reg [nn (.v 4) (.mv true (.c (.v (.bool false))))]).seq PC.ret) PC.skip))).seq (PC.reg [mm 53 5,nn (.t 54) (.bin .add (.t 53) (.c (.v
  (.int .i64 1)))),ma 5 54]))
def pf47:PF:=
 PF.mk 2 6 66 ((PC.reg [nn (.v 2) (.box (.v 0)),nn (.v 3) (.box (.v 1)),nn (.v 4) (.mv true (.c (.v (.bool false))))]).seq (((PC.reg [nn (.t 6) (.fadr
  0 0 (.v 2)),nn (.t 7) (.load 1 false (.t 6)),nn (.t 8) (.fadr 0 0 (.v 3)),nn (.t 9) (.load 1 false (.t 8)),nn (.t 10) (.bin .neq (.t 7) (.t 9)),
  nn (.t 11) (.mv false (.t 10)),⟨.t 12,.fadr 1 1 (.v 2),some (.t 11,false)⟩,⟨.t 13,.load 1 false (.t 12),some (.t 11,false)⟩,⟨.t 14,.fadr 1
  1 (.v 3),some (.t 11,false)⟩,⟨.t 15,.load 1 false (.t 14),some (.t 11,false)⟩,⟨.t 16,.bin .neq (.t 13) (.t 15),some (.t 11,false)⟩,nn (.t
  17) (.pick (.t 11) (.c (.v (.bool true))) (.t 16)),nn (.t 18) (.mv false (.t 17)),⟨.t 19,.fadr 2 2 (.v 2),some (.t 18,false)⟩,⟨.t 20,.load 1
  false (.t 19),some (.t 18,false)⟩,⟨.t 21,.fadr 2 2 (.v 3),some (.t 18,false)⟩,⟨.t 22,.load 1 false (.t 21),some (.t 18,false)⟩,⟨.t 23,
  .bin .neq (.t 20) (.t 22),some (.t 18,false)⟩,nn (.t 24) (.pick (.t 18) (.c (.v (.bool true))) (.t 23)),nn (.t 25) (.mv false (.t 24)),⟨.t 26,
  .fadr 3 3 (.v 2),some (.t 25,false)⟩,⟨.t 27,.load 32 true (.t 26),some (.t 25,false)⟩,⟨.t 28,.fadr 3 3 (.v 3),some (.t 25,false)⟩,⟨.t 29,
  .load 32 true (.t 28),some (.t 25,false)⟩,⟨.t 30,.eqa true (.arr 32) (.t 27) (.t 29),some (.t 25,false)⟩,nn (.t 31) (.pick (.t 25) (.c (.v
  (.bool true))) (.t 30)),nn (.t 32) (.mv false (.t 31)),⟨.t 33,.fadr 5 36 (.v 2),some (.t 32,false)⟩,⟨.t 34,.load 32 true (.t 33),some (.t 32,
  false)⟩,⟨.t 35,.fadr 5 36 (.v 3),some (.t 32,false)⟩,⟨.t 36,.load 32 true (.t 35),some (.t 32,false)⟩,⟨.t 37,.eqa true (.arr 32) (.t 34)
  (.t 36),some (.t 32,false)⟩,nn (.t 38) (.pick (.t 32) (.c (.v (.bool true))) (.t 37)),nn (.t 39) (.mv false (.t 38)),⟨.t 40,.fadr 4 35 (.v 2),
  some (.t 39,false)⟩,⟨.t 41,.load 1 false (.t 40),some (.t 39,false)⟩,⟨.t 42,.len (.t 41),some (.t 39,false)⟩,⟨.t 43,.fadr 4 35 (.v 3),
  some (.t 39,false)⟩,⟨.t 44,.load 1 false (.t 43),some (.t 39,false)⟩,⟨.t 45,.len (.t 44),some (.t 39,false)⟩,⟨.t 46,.bin .neq (.t 42) (.t
  45),some (.t 39,false)⟩,nn (.t 47) (.pick (.t 39) (.c (.v (.bool true))) (.t 46))]).seq (PC.cond (.t 47) ((PC.reg [nn (.v 4) (.mv true (.c (.v
  (.bool false))))]).seq PC.ret) PC.skip)).seq (((PC.reg [nn (.v 5) (.mv true (.c (.v (.int .i64 0))))]).seq (PC.block 0 (PC.loop [2,3,5]
  lp47_0))).seq ((PC.reg [nn (.v 4) (.mv true (.c (.v (.bool true))))]).seq PC.ret)))) [(.v 4,none)]
attribute [local irreducible] W Wops WopsD WL Wop WopD
variable {E:Env} {C:Abs.Spec} {l:List (Nat×Spec1)} {G:List (Nat×V)} {Q:R→List (Nat×V)→Prop}
set_option maxHeartbeats 1000000
def FrV (G:List (Nat×V)) (x:V) (fr:List Int):Prop:=
 x= .sli .i64 fr∨(x= .nils∧fr=[])∨∃id c LL,x= .sob id 1 0 fr.length c∧Abs.look G id=some (.agg LL)∧(∀(i:Nat) p,fr[i]? =some p→LL[i]? =some (.int .i64 p))∧fr.length≤LL.length∧∀y∈LL,V.size y=1
theorem FrV.one {x:V} {fr:List Int} (h:FrV G x fr):V.size x=1∧V.isAgg x=false:=by
 rcases h with rfl|⟨rfl,_⟩|⟨id,c,LL,rfl,_⟩<;>exact⟨rfl,rfl⟩
theorem at_drop {l:List Int} {j:Nat} {p:Int} {r:List Int} (h:l.drop j=p::r):l[j]? =some p:=by
 have:(l.drop j)[0]? =some p:=by rw[h];rfl
 rwa [List.getElem?_drop,Nat.add_zero]at this
def ZWn:Spec1
 |[.int .i64 n,.int .i64 a,.int .i64 b],G,Q=>Q (.v (.bool (decide (a≤n∧n≤b)))) G
 |_,_,_=>False
theorem ZWn_eq {n a b}:ZWn [.int .i64 n,.int .i64 a,.int .i64 b] G Q=(Q (.v (.bool (decide (a≤n∧n≤b)))) G):=rfl
def ZMa:Spec1
 |[.agg [.int .i64 a1,.int .i64 a2,.int .i64 a3,.arr .u8 32 a4,x,.arr .u8 32 a6]],G,Q=>∃fr:List Int,(FrV G x fr∧(⟨a1,a2,a3,a4,fr,a6⟩:AccS).wf∧fr.length < 1000000)∧Q (.v (.bool (⟨a1,a2,a3,a4,fr,a6⟩:AccS).may)) G
 |_,_,_=>False
theorem ZMa_eq {a1 a2 a3 a4 x a6}:ZMa [.agg [.int .i64 a1,.int .i64 a2,.int .i64 a3,.arr .u8 32 a4,x,.arr .u8 32 a6]] G Q=(∃fr:List Int,(FrV G x fr∧(⟨a1,a2,a3,a4,fr,a6⟩:AccS).wf∧fr.length < 1000000)∧Q (.v (.bool (⟨a1,a2,a3,a4,fr,a6⟩:AccS).may)) G):=rfl
def ZTg:Spec1
 |[b,.agg [.int .i64 a1,.int .i64 a2,.int .i64 a3,.arr .u8 32 a4,x,.arr .u8 32 a6]],G,Q=>∃(bb fr:List Int),(byV b=some bb∧bb.length < 1000000000∧FrV G x fr∧(⟨a1,a2,a3,a4,fr,a6⟩:AccS).wf∧(⟨a1,a2,a3,a4,fr,a6⟩:AccS).May)∧Q (.own (.sli .u8 (bb++(⟨a1,a2,a3,a4,fr,a6⟩:AccS).said))) G
 |_,_,_=>False
theorem ZTg_eq {b a1 a2 a3 a4 x a6}:ZTg [b,.agg [.int .i64 a1,.int .i64 a2,.int .i64 a3,.arr .u8 32 a4,x,.arr .u8 32 a6]] G Q=(∃(bb fr:List Int),(byV b=some bb∧bb.length < 1000000000∧FrV G x fr∧(⟨a1,a2,a3,a4,fr,a6⟩:AccS).wf∧(⟨a1,a2,a3,a4,fr,a6⟩:AccS).May)∧Q (.own (.sli .u8 (bb++(⟨a1,a2,a3,a4,fr,a6⟩:AccS).said))) G):=rfl
theorem walk144 {n a b:Int} (h:Q (.v (.bool (decide (a≤n∧n≤b)))) G):Wf E C pf144 [.int .i64 n,.int .i64 a,.int .i64 b] G Q:=by
 by_cases h1:a≤n
 ·simp -implicitDefEqProofs only[pf144,h1,go_sem,↓reduceIte]
  exact finB h (by simp[h1])
 ·simp -implicitDefEqProofs only[pf144,h1,go_sem,↓reduceIte]
  exact finB h (by simp[h1])
theorem loop122i {QQ:Ex→St→Prop} {fr:List Int} {L:List Bx} (hl:fr.length < 1000000)
  (hx:∀(low:Int) (j:Nat) ts,riseI 21 0 fr=true→QQ (.exit 0) ⟨[none,some (.lp 0 []),none,some (.v (.int .i64 low)),none,none,none,some (.v (.sli .i64 fr)),some (.v (.int .i64 (fr.length:Nat))),some (.v (.int .i64 (j:Nat)))],ts,L,G⟩)
  (hr:∀σ:St,σ.G=G→St.ev σ (.v 2)=some (.v (.bool false))→riseI 21 0 fr=false→QQ .ret σ):
  ∀(r:List Int) (j:Nat) (low:Int),fr.drop j=r→j≤fr.length→riseI 21 0 fr=riseI 21 low r→WL (W E C lp122_0) [1,3,7,8,9] QQ (r.length+1) ⟨[none,some (.lp 0 []),none,some (.v (.int .i64 low)),none,none,none,some (.v (.sli .i64 fr)),some (.v (.int .i64 (fr.length:Nat))),some (.v (.int .i64 (j:Nat)))],[],L,G⟩:=by
 intro r
 induction r with
 |nil=>
  intro j low h1 h2 h3
  have:=drop_none h1
  have c1:¬(j:Int) < (fr.length:Int):=by omega
  refine WL_in lp122_0.eq_1 ?_
  simp -implicitDefEqProofs only[c1,go_sem,↓reduceIte]
  exact hx _ _ _ h3
 |cons p r ih=>
  intro j low h1 h2 h3
  obtain⟨hd,hj,hlen⟩:=drop_one h1
  have g:=getD_at h1
  have c1:(j:Int) < (fr.length:Int):=by omega
  have c2:(0:Int)≤(j:Int):=by omega
  have w1:IntKind.i64.wrap ((j:Int)+1)=((j+1:Nat):Int):=wc (by omega) (by omega)
  refine WL_in lp122_0.eq_1 ?_
  by_cases r1:p≤low
  ·simp -implicitDefEqProofs only[c1,c2,g,w1,Int.toNat_natCast,r1,go_sem,↓reduceIte]
   refine hr _ rfl rfl ?_
   rw[h3];exact if_pos (.inl r1)
  ·by_cases r2:21 < p
   ·simp -implicitDefEqProofs only[c1,c2,g,w1,Int.toNat_natCast,r1,r2,go_sem,↓reduceIte]
    refine hr _ rfl rfl ?_
    rw[h3];exact if_pos (.inr r2)
   ·simp -implicitDefEqProofs only[c1,c2,g,w1,Int.toNat_natCast,r1,r2,go_sem,↓reduceIte]
    refine ih (j+1) p hd (by omega) ?_
    rw[h3];exact if_neg (by omega)
theorem loop122s {QQ:Ex→St→Prop} {fr:List Int} {L:List Bx} {id c:Nat} {LL:List V} (hG:Abs.look G id=some (.agg LL)) (hLL:∀(i:Nat) p,fr[i]? =some p→LL[i]? =some (.int .i64 p)) (hfl:fr.length≤LL.length) (hsz:∀y∈LL,V.size y=1) (hl:fr.length < 1000000)
  (hx:∀(low:Int) (j:Nat) ts,riseI 21 0 fr=true→QQ (.exit 0) ⟨[none,some (.lp 0 []),none,some (.v (.int .i64 low)),none,none,none,some (.v (.sob id 1 0 fr.length c)),some (.v (.int .i64 (fr.length:Nat))),some (.v (.int .i64 (j:Nat)))],ts,L,G⟩)
  (hr:∀σ:St,σ.G=G→St.ev σ (.v 2)=some (.v (.bool false))→riseI 21 0 fr=false→QQ .ret σ):
  ∀(r:List Int) (j:Nat) (low:Int),fr.drop j=r→j≤fr.length→riseI 21 0 fr=riseI 21 low r→WL (W E C lp122_0) [1,3,7,8,9] QQ (r.length+1) ⟨[none,some (.lp 0 []),none,some (.v (.int .i64 low)),none,none,none,some (.v (.sob id 1 0 fr.length c)),some (.v (.int .i64 (fr.length:Nat))),some (.v (.int .i64 (j:Nat)))],[],L,G⟩:=by
 intro r
 induction r with
 |nil=>
  intro j low h1 h2 h3
  have:=drop_none h1
  have c1:¬(j:Int) < (fr.length:Int):=by omega
  refine WL_in lp122_0.eq_1 ?_
  simp -implicitDefEqProofs only[c1,go_sem,↓reduceIte]
  exact hx _ _ _ h3
 |cons p r ih=>
  intro j low h1 h2 h3
  obtain⟨hd,hj,hlen⟩:=drop_one h1
  have g:=hLL j p (at_drop h1)
  have c1:(j:Int) < (fr.length:Int):=by omega
  have c2:(0:Int)≤(j:Int):=by omega
  have w1:IntKind.i64.wrap ((j:Int)+1)=((j+1:Nat):Int):=wc (by omega) (by omega)
  refine WL_in lp122_0.eq_1 ?_
  by_cases r1:p≤low
  ·simp -implicitDefEqProofs only[c1,c2,g,hG,w1,Int.toNat_natCast,r1,go_sem,↓reduceIte]
   refine And.intro ⟨by omega,hsz⟩ <| hr _ rfl rfl ?_
   rw[h3];exact if_pos (.inl r1)
  ·by_cases r2:21 < p
   ·simp -implicitDefEqProofs only[c1,c2,g,hG,w1,Int.toNat_natCast,r1,r2,go_sem,↓reduceIte]
    refine And.intro ⟨by omega,hsz⟩ <| hr _ rfl rfl ?_
    rw[h3];exact if_pos (.inr r2)
   ·simp -implicitDefEqProofs only[c1,c2,g,hG,w1,Int.toNat_natCast,r1,r2,go_sem,↓reduceIte]
    refine And.intro ⟨by omega,hsz⟩ <| ih (j+1) p hd (by omega) ?_
    rw[h3];exact if_neg (by omega)
theorem may_wrap {n:Int} (h:I64 n):IntKind.i64.wrap (n-1)=n-1∨n= -9223372036854775808:=by
 unfold I64 at h
 by_cases e:n= -9223372036854775808
 ·exact .inr e
 ·exact .inl (w64 (by omega) (by omega))
theorem walk122i {a1 a2 a3:Int} {a4 a6 fr:List Int} (h37:Abs.look l 69=some SNo) (hW:Abs.look l 144=some ZWn) (hl:fr.length < 1000000) (hw:(⟨a1,a2,a3,a4,fr,a6⟩:AccS).wf) (h:Q (.v (.bool (⟨a1,a2,a3,a4,fr,a6⟩:AccS).may)) G):Wf E (specOf l) pf122 [.agg [.int .i64 a1,.int .i64 a2,.int .i64 a3,.arr .u8 32 a4,.sli .i64 fr,.arr .u8 32 a6]] G Q:=by
 have hm:=may_wrap hw.vi
 have hv:=hw.vi
 unfold I64 at hv
 dsimp only at hm hv
 have key:∀b:Bool,(⟨a1,a2,a3,a4,fr,a6⟩:AccS).may=b→Q (.v (.bool b)) G:=fun b e=>by rw[←e];exact h
 simp -implicitDefEqProofs only[pf122,go_sem,↓reduceIte]
 refine⟨fr.length+1,?_⟩
 refine loop122i (hl) (fun low j ts e=> ?_) (fun σ e1 e2 e3=> ?_) fr 0 0 rfl (Nat.zero_le _) rfl
 rotate_left
 ·show resQ Q σ.G (rD (St.ev σ (.v 2)))
  rw[e1,e2]
  exact key _ (decide_eq_false fun hM=>by have:=hM.2.2.2.2;dsimp only at this;rw[e3]at this;cases this)
 ·simp -implicitDefEqProofs only[h37,SNo_eq,hW,ZWn_eq,go_sem,↓reduceIte]
  by_cases q1:1≤a1∧a1≤21
  case neg=>
   simp -implicitDefEqProofs only[q1,go_sem,↓reduceIte]
   first|exact key _ (decide_eq_false fun hM=>q1 hM.1)|trace_state
  by_cases q2:1≤a2∧a2≤1099511627776
  case neg=>
   simp -implicitDefEqProofs only[q1,q2,go_sem,↓reduceIte]
   first|exact key _ (decide_eq_false fun hM=>q2 hM.2.1)|trace_state
  have hm:IntKind.i64.wrap (a2-1)=a2-1:=by rcases hm with hm|hm<;>omega
  by_cases q3:0≤a3∧a3≤a2-1
  case neg=>
   simp -implicitDefEqProofs only[q1,q2,q3,hm,go_sem,↓reduceIte]
   first|exact key _ (decide_eq_false fun hM=>q3 ⟨hM.2.2.1.1,by have:=hM.2.2.1.2;dsimp only at this;omega⟩)|trace_state
  simp -implicitDefEqProofs only[q1,q2,q3,hm,go_sem,↓reduceIte]
  refine key _ ?_
  unfold AccS.may
  first
  |(rw[decide_eq_decide]
    constructor
    ·intro hM;have:=List.length_pos_iff.2 hM.2.2.2.1;dsimp only at this;omega
    ·intro hc;exact⟨q1,q2,⟨q3.1,by dsimp only;omega⟩,List.length_pos_iff.1 (by dsimp only;omega),e⟩)
  |exact decide_eq_false fun hM=>hM.2.2.2.1 rfl
  |trace_state
theorem walk122n {a1 a2 a3:Int} {a4 a6:List Int} (h37:Abs.look l 69=some SNo) (hW:Abs.look l 144=some ZWn) (hl:([]:List Int).length < 1000000) (hw:(⟨a1,a2,a3,a4,[],a6⟩:AccS).wf) (h:Q (.v (.bool (⟨a1,a2,a3,a4,[],a6⟩:AccS).may)) G):Wf E (specOf l) pf122 [.agg [.int .i64 a1,.int .i64 a2,.int .i64 a3,.arr .u8 32 a4,.nils,.arr .u8 32 a6]] G Q:=by
 have hm:=may_wrap hw.vi
 have hv:=hw.vi
 unfold I64 at hv
 dsimp only at hm hv
 have key:∀b:Bool,(⟨a1,a2,a3,a4,[],a6⟩:AccS).may=b→Q (.v (.bool b)) G:=fun b e=>by rw[←e];exact h
 simp -implicitDefEqProofs only[pf122,go_sem,↓reduceIte]
 refine⟨0+1,?_⟩
 refine WL_in lp122_0.eq_1 ?_
 simp -implicitDefEqProofs only[go_sem,↓reduceIte]
 ·simp -implicitDefEqProofs only[h37,SNo_eq,hW,ZWn_eq,go_sem,↓reduceIte]
  by_cases q1:1≤a1∧a1≤21
  case neg=>
   simp -implicitDefEqProofs only[q1,go_sem,↓reduceIte]
   first|exact key _ (decide_eq_false fun hM=>q1 hM.1)|trace_state
  by_cases q2:1≤a2∧a2≤1099511627776
  case neg=>
   simp -implicitDefEqProofs only[q1,q2,go_sem,↓reduceIte]
   first|exact key _ (decide_eq_false fun hM=>q2 hM.2.1)|trace_state
  have hm:IntKind.i64.wrap (a2-1)=a2-1:=by rcases hm with hm|hm<;>omega
  by_cases q3:0≤a3∧a3≤a2-1
  case neg=>
   simp -implicitDefEqProofs only[q1,q2,q3,hm,go_sem,↓reduceIte]
   first|exact key _ (decide_eq_false fun hM=>q3 ⟨hM.2.2.1.1,by have:=hM.2.2.1.2;dsimp only at this;omega⟩)|trace_state
  simp -implicitDefEqProofs only[q1,q2,q3,hm,go_sem,↓reduceIte]
  refine key _ ?_
  unfold AccS.may
  first
  |(rw[decide_eq_decide]
    constructor
    ·intro hM;have:=List.length_pos_iff.2 hM.2.2.2.1;dsimp only at this;omega
    ·intro hc;exact⟨q1,q2,⟨q3.1,by dsimp only;omega⟩,List.length_pos_iff.1 (by dsimp only;omega),e⟩)
  |exact decide_eq_false fun hM=>hM.2.2.2.1 rfl
  |trace_state
theorem walk122s {a1 a2 a3:Int} {a4 a6 fr:List Int} {id c:Nat} {LL:List V} (hG:Abs.look G id=some (.agg LL)) (hLL:∀(i:Nat) p,fr[i]? =some p→LL[i]? =some (.int .i64 p)) (hfl:fr.length≤LL.length) (hsz:∀y∈LL,V.size y=1) (h37:Abs.look l 69=some SNo) (hW:Abs.look l 144=some ZWn) (hl:fr.length < 1000000) (hw:(⟨a1,a2,a3,a4,fr,a6⟩:AccS).wf) (h:Q (.v (.bool (⟨a1,a2,a3,a4,fr,a6⟩:AccS).may)) G):Wf E (specOf l) pf122 [.agg [.int .i64 a1,.int .i64 a2,.int .i64 a3,.arr .u8 32 a4,.sob id 1 0 fr.length c,.arr .u8 32 a6]] G Q:=by
 have hm:=may_wrap hw.vi
 have hv:=hw.vi
 unfold I64 at hv
 dsimp only at hm hv
 have key:∀b:Bool,(⟨a1,a2,a3,a4,fr,a6⟩:AccS).may=b→Q (.v (.bool b)) G:=fun b e=>by rw[←e];exact h
 simp -implicitDefEqProofs only[pf122,go_sem,↓reduceIte]
 refine⟨fr.length+1,?_⟩
 refine loop122s hG hLL hfl hsz (hl) (fun low j ts e=> ?_) (fun σ e1 e2 e3=> ?_) fr 0 0 rfl (Nat.zero_le _) rfl
 rotate_left
 ·show resQ Q σ.G (rD (St.ev σ (.v 2)))
  rw[e1,e2]
  exact key _ (decide_eq_false fun hM=>by have:=hM.2.2.2.2;dsimp only at this;rw[e3]at this;cases this)
 ·simp -implicitDefEqProofs only[h37,SNo_eq,hW,ZWn_eq,go_sem,↓reduceIte]
  by_cases q1:1≤a1∧a1≤21
  case neg=>
   simp -implicitDefEqProofs only[q1,go_sem,↓reduceIte]
   first|exact key _ (decide_eq_false fun hM=>q1 hM.1)|trace_state
  by_cases q2:1≤a2∧a2≤1099511627776
  case neg=>
   simp -implicitDefEqProofs only[q1,q2,go_sem,↓reduceIte]
   first|exact key _ (decide_eq_false fun hM=>q2 hM.2.1)|trace_state
  have hm:IntKind.i64.wrap (a2-1)=a2-1:=by rcases hm with hm|hm<;>omega
  by_cases q3:0≤a3∧a3≤a2-1
  case neg=>
   simp -implicitDefEqProofs only[q1,q2,q3,hm,go_sem,↓reduceIte]
   first|exact key _ (decide_eq_false fun hM=>q3 ⟨hM.2.2.1.1,by have:=hM.2.2.1.2;dsimp only at this;omega⟩)|trace_state
  simp -implicitDefEqProofs only[q1,q2,q3,hm,go_sem,↓reduceIte]
  refine key _ ?_
  unfold AccS.may
  first
  |(rw[decide_eq_decide]
    constructor
    ·intro hM;have:=List.length_pos_iff.2 hM.2.2.2.1;dsimp only at this;omega
    ·intro hc;exact⟨q1,q2,⟨q3.1,by dsimp only;omega⟩,List.length_pos_iff.1 (by dsimp only;omega),e⟩)
  |exact decide_eq_false fun hM=>hM.2.2.2.1 rfl
  |trace_state
def sameA (a b:AccS):Bool:=decide (a.who=b.who∧a.vi=b.vi∧a.pv=b.pv∧a.ph=b.ph∧a.fr=b.fr∧a.ta=b.ta)
def ZS10:Spec1
 |[x,y],G,Q=>∃a b:AccS,(x=a.v∧y=b.v∧a.fr.length < 1000000∧b.fr.length < 1000000)∧Q (.v (.bool (sameA a b))) G
 |_,_,_=>False
theorem ZS10_eq {x y}:ZS10 [x,y] G Q=(∃a b:AccS,(x=a.v∧y=b.v∧a.fr.length < 1000000∧b.fr.length < 1000000)∧Q (.v (.bool (sameA a b))) G):=rfl
theorem loop123i {QQ:Ex→St→Prop} {fr T:List Int} {L:List Bx} (hN:Abs.look l 120=some SNu) (hl:fr.length < 1000000) (hT:T.length < 10000000000) (hfr:∀x∈fr,0≤x∧x≤21)
  (hx:∀(j:Nat) (pre:List Int) ts,pre=T→QQ (.exit 0) ⟨[some (.own (.sli .u8 pre)),none,none,none,none,none,none,none,none,none,none,none,none,none,none,none,none,none,none,none,none,none,none,none,none,none,some (.v (.sli .i64 fr)),some (.v (.int .i64 (fr.length:Nat))),some (.v (.int .i64 (j:Nat)))],ts,L,G⟩):
  ∀(r:List Int) (j:Nat) (pre:List Int),fr.drop j=r→j≤fr.length→pre++nums r=T→WL (W E (specOf l) lp123_0) [0,26,27,28] QQ (r.length+1) ⟨[some (.own (.sli .u8 pre)),none,none,none,none,none,none,none,none,none,none,none,none,none,none,none,none,none,none,none,none,none,none,none,none,none,some (.v (.sli .i64 fr)),some (.v (.int .i64 (fr.length:Nat))),some (.v (.int .i64 (j:Nat)))],[],L,G⟩:=by
 intro r
 induction r with
 |nil=>
  intro j pre h1 h2 h3
  have:=drop_none h1
  have c1:¬(j:Int) < (fr.length:Int):=by omega
  refine WL_in lp123_0.eq_1 ?_
  simp -implicitDefEqProofs only[c1,go_sem,↓reduceIte]
  exact hx _ _ _ (by simpa [nums]using h3)
 |cons p r ih=>
  intro j pre h1 h2 h3
  obtain⟨hd,hj,hlen⟩:=drop_one h1
  have g:=getD_at h1
  have hp:=hfr p (List.mem_of_getElem? (at_drop h1))
  have hpl:pre.length < 10000000000:=by have:=congrArg List.length h3;rw[List.length_append]at this;omega
  have c1:(j:Int) < (fr.length:Int):=by omega
  have c2:(0:Int)≤(j:Int):=by omega
  have w1:IntKind.i64.wrap ((j:Int)+1)=((j+1:Nat):Int):=wc (by omega) (by omega)
  have w2:IntKind.u64.wrap p=p:=u64_of hp.1 (by omega)
  refine WL_in lp123_0.eq_1 ?_
  simp -implicitDefEqProofs only[c1,c2,g,w1,w2,Int.toNat_natCast,hN,SNu_eq,go_sem,↓reduceIte]
  refine⟨_,⟨byV_u8 _,by omega,by omega,by omega⟩,?_⟩
  exact ih (j+1) (pre++num p.toNat) hd (by omega) (by rw[←h3];simp only[nums,List.append_assoc])
theorem walk123i {a1 a2 a3:Int} {a4 a6 fr:List Int} (hN:Abs.look l 120=some SNu) (hH:Abs.look l 97=some SHa) {b:List Int} (hb:b.length < 1000000000) (hw:(⟨a1,a2,a3,a4,fr,a6⟩:AccS).wf) (hm:(⟨a1,a2,a3,a4,fr,a6⟩:AccS).May) (h:Q (.own (.sli .u8 (b++(⟨a1,a2,a3,a4,fr,a6⟩:AccS).said))) G):Wf E (specOf l) pf123 [.sli .u8 b,.agg [.int .i64 a1,.int .i64 a2,.int .i64 a3,.arr .u8 32 a4,.sli .i64 fr,.arr .u8 32 a6]] G Q:=by
 obtain⟨l1,l2,l3⟩:=AccS.may_len hm
 obtain⟨m1,m2,m3,m4,m5⟩:=hm
 dsimp only at m1 m2 m3 m4 m5 l1 l2 l3
 obtain⟨r2,n2⟩:=num_ok (n:=a2.toNat) (by omega)
 obtain⟨r3,n3⟩:=num_ok (n:=a3.toNat) (by omega)
 obtain⟨r5,n5⟩:=num_ok (n:=fr.length) (by omega)
 obtain⟨r6,n6⟩:=nums_ok (l:=fr) fun x hx=>by have:=l3 x hx;omega
 have w2:=u64_of (n:=a2) (by omega) (by omega)
 have w3:=u64_of (n:=a3) (by omega) (by omega)
 have w5:=u64_of (n:=(fr.length:Int)) (by omega) (by omega)
 have l4:a4.length=32:=hw.ph.2
 unfold AccS.said at h
 dsimp only at h
 simp -implicitDefEqProofs only[pf123,hN,SNu_eq,hH,SHa_eq,w2,w3,w5,Int.toNat_natCast,go_sem,↓reduceIte]
 refine⟨_,⟨byV_u8 _,by omega,by omega,by omega⟩,_,⟨byV_u8 _,by simp only[List.length_append];omega,by omega,by omega⟩,_,⟨byV_u8 _,by simp only[List.length_append];omega,l4⟩,_,⟨byV_u8 _,by simp only[List.length_append];omega,by omega,by omega⟩,fr.length+1,?_⟩
 refine loop123i hN (by omega) (T:=b++(num a2.toNat++num a3.toNat++a4++num fr.length++nums fr)) (by simp only[List.length_append];omega) (fun x hx=>by have:=l3 x hx;omega) (fun j pre ts e=> ?_) fr 0 _ rfl (Nat.zero_le _) (by simp only[List.append_assoc])
 subst e
 simp -implicitDefEqProofs only[go_sem,↓reduceIte]
 exact h
theorem loop123s {QQ:Ex→St→Prop} {fr T:List Int} {L:List Bx} {id c:Nat} {LL:List V} (hG:Abs.look G id=some (.agg LL)) (hLL:∀(i:Nat) p,fr[i]? =some p→LL[i]? =some (.int .i64 p)) (hfl:fr.length≤LL.length) (hsz:∀y∈LL,V.size y=1) (hN:Abs.look l 120=some SNu) (hl:fr.length < 1000000) (hT:T.length < 10000000000) (hfr:∀x∈fr,0≤x∧x≤21)
  (hx:∀(j:Nat) (pre:List Int) ts,pre=T→QQ (.exit 0) ⟨[some (.own (.sli .u8 pre)),none,none,none,none,none,none,none,none,none,none,none,none,none,none,none,none,none,none,none,none,none,none,none,none,none,some (.v (.sob id 1 0 fr.length c)),some (.v (.int .i64 (fr.length:Nat))),some (.v (.int .i64 (j:Nat)))],ts,L,G⟩):
  ∀(r:List Int) (j:Nat) (pre:List Int),fr.drop j=r→j≤fr.length→pre++nums r=T→WL (W E (specOf l) lp123_0) [0,26,27,28] QQ (r.length+1) ⟨[some (.own (.sli .u8 pre)),none,none,none,none,none,none,none,none,none,none,none,none,none,none,none,none,none,none,none,none,none,none,none,none,none,some (.v (.sob id 1 0 fr.length c)),some (.v (.int .i64 (fr.length:Nat))),some (.v (.int .i64 (j:Nat)))],[],L,G⟩:=by
 intro r
 induction r with
 |nil=>
  intro j pre h1 h2 h3
  have:=drop_none h1
  have c1:¬(j:Int) < (fr.length:Int):=by omega
  refine WL_in lp123_0.eq_1 ?_
  simp -implicitDefEqProofs only[c1,go_sem,↓reduceIte]
  exact hx _ _ _ (by simpa [nums]using h3)
 |cons p r ih=>
  intro j pre h1 h2 h3
  obtain⟨hd,hj,hlen⟩:=drop_one h1
  have g:=hLL j p (at_drop h1)
  have hp:=hfr p (List.mem_of_getElem? (at_drop h1))
  have hpl:pre.length < 10000000000:=by have:=congrArg List.length h3;rw[List.length_append]at this;omega
  have c1:(j:Int) < (fr.length:Int):=by omega
  have c2:(0:Int)≤(j:Int):=by omega
  have w1:IntKind.i64.wrap ((j:Int)+1)=((j+1:Nat):Int):=wc (by omega) (by omega)
  have w2:IntKind.u64.wrap p=p:=u64_of hp.1 (by omega)
  refine WL_in lp123_0.eq_1 ?_
  simp -implicitDefEqProofs only[c1,c2,g,hG,w1,w2,Int.toNat_natCast,hN,SNu_eq,go_sem,↓reduceIte]
  refine And.intro ⟨by omega,hsz⟩ <| ⟨_,⟨byV_u8 _,by omega,by omega,by omega⟩,?_⟩
  exact ih (j+1) (pre++num p.toNat) hd (by omega) (by rw[←h3];simp only[nums,List.append_assoc])
theorem walk123s {a1 a2 a3:Int} {a4 a6 fr:List Int} {id c:Nat} {LL:List V} (hG:Abs.look G id=some (.agg LL)) (hLL:∀(i:Nat) p,fr[i]? =some p→LL[i]? =some (.int .i64 p)) (hfl:fr.length≤LL.length) (hsz:∀y∈LL,V.size y=1) (hN:Abs.look l 120=some SNu) (hH:Abs.look l 97=some SHa) {b:List Int} (hb:b.length < 1000000000) (hw:(⟨a1,a2,a3,a4,fr,a6⟩:AccS).wf) (hm:(⟨a1,a2,a3,a4,fr,a6⟩:AccS).May) (h:Q (.own (.sli .u8 (b++(⟨a1,a2,a3,a4,fr,a6⟩:AccS).said))) G):Wf E (specOf l) pf123 [.sli .u8 b,.agg [.int .i64 a1,.int .i64 a2,.int .i64 a3,.arr .u8 32 a4,.sob id 1 0 fr.length c,.arr .u8 32 a6]] G Q:=by
 obtain⟨l1,l2,l3⟩:=AccS.may_len hm
 obtain⟨m1,m2,m3,m4,m5⟩:=hm
 dsimp only at m1 m2 m3 m4 m5 l1 l2 l3
 obtain⟨r2,n2⟩:=num_ok (n:=a2.toNat) (by omega)
 obtain⟨r3,n3⟩:=num_ok (n:=a3.toNat) (by omega)
 obtain⟨r5,n5⟩:=num_ok (n:=fr.length) (by omega)
 obtain⟨r6,n6⟩:=nums_ok (l:=fr) fun x hx=>by have:=l3 x hx;omega
 have w2:=u64_of (n:=a2) (by omega) (by omega)
 have w3:=u64_of (n:=a3) (by omega) (by omega)
 have w5:=u64_of (n:=(fr.length:Int)) (by omega) (by omega)
 have l4:a4.length=32:=hw.ph.2
 unfold AccS.said at h
 dsimp only at h
 simp -implicitDefEqProofs only[pf123,hN,SNu_eq,hH,SHa_eq,w2,w3,w5,Int.toNat_natCast,go_sem,↓reduceIte]
 refine⟨_,⟨byV_u8 _,by omega,by omega,by omega⟩,_,⟨byV_u8 _,by simp only[List.length_append];omega,by omega,by omega⟩,_,⟨byV_u8 _,by simp only[List.length_append];omega,l4⟩,_,⟨byV_u8 _,by simp only[List.length_append];omega,by omega,by omega⟩,fr.length+1,?_⟩
 refine loop123s hG hLL hfl hsz hN (by omega) (T:=b++(num a2.toNat++num a3.toNat++a4++num fr.length++nums fr)) (by simp only[List.length_append];omega) (fun x hx=>by have:=l3 x hx;omega) (fun j pre ts e=> ?_) fr 0 _ rfl (Nat.zero_le _) (by simp only[List.append_assoc])
 subst e
 simp -implicitDefEqProofs only[go_sem,↓reduceIte]
 exact h
theorem loop47 {QQ:Ex→St→Prop} {a1 a2 a3:Int} {a4 a6 fa:List Int} {b1 b2 b3:Int} {b4 b6 fb:List Int} {L:List Bx} (hL:L=[⟨false,.agg [.int .i64 a1,.int .i64 a2,.int .i64 a3,.arr .u8 32 a4,.sli .i64 fa,.arr .u8 32 a6]⟩,⟨false,.agg [.int .i64 b1,.int .i64 b2,.int .i64 b3,.arr .u8 32 b4,.sli .i64 fb,.arr .u8 32 b6]⟩]) (hll:fa.length=fb.length) (hl:fa.length < 1000000)
  (hx:∀(j:Nat) ts,fa=fb→QQ (.exit 0) ⟨[none,none,some (.lp 0 []),some (.lp 1 []),none,some (.v (.int .i64 (j:Nat)))],ts,L,G⟩) (hr:∀σ:St,σ.G=G→St.ev σ (.v 4)=some (.v (.bool false))→fa≠fb→QQ .ret σ):
  ∀(r r2:List Int) (j:Nat),fa.drop j=r→fb.drop j=r2→j≤fa.length→(fa=fb↔r=r2)→WL (W E C lp47_0) [2,3,5] QQ (r.length+1) ⟨[none,none,some (.lp 0 []),some (.lp 1 []),none,some (.v (.int .i64 (j:Nat)))],[],L,G⟩:=by
 subst hL
 intro r
 induction r with
 |nil=>
  intro r2 j h1 h0 h2 h3
  have:=drop_none h1
  have c1:¬(j:Int) < (fa.length:Int):=by omega
  refine WL_in lp47_0.eq_1 ?_
  simp -implicitDefEqProofs only[c1,go_sem,↓reduceIte]
  refine hx _ _ (h3.2 ?_)
  rw[←h0,List.drop_eq_nil_of_le (by omega)]
 |cons p r ih=>
  intro r2 j h1 h0 h2 h3
  obtain⟨hd,hj,hlen⟩:=drop_one h1
  obtain⟨p2,r2,rfl⟩:∃p2 r',r2=p2::r':=by
   cases r2 with
   |nil=>have:=drop_none h0;omega
   |cons p2 r2=>exact⟨_,_,rfl⟩
  obtain⟨hd2,hj2,hlen2⟩:=drop_one h0
  have g:=getD_at h1
  have g2:=getD_at h0
  have c1:(j:Int) < (fa.length:Int):=by omega
  have c3:(j:Int) < (fb.length:Int):=by omega
  have c2:(0:Int)≤(j:Int):=by omega
  have w1:IntKind.i64.wrap ((j:Int)+1)=((j+1:Nat):Int):=wc (by omega) (by omega)
  refine WL_in lp47_0.eq_1 ?_
  by_cases e:p=p2
  ·simp -implicitDefEqProofs only[c1,c2,c3,g,g2,w1,Int.toNat_natCast,e,go_sem,↓reduceIte]
   exact ih r2 (j+1) hd hd2 (by omega) (h3.trans (by rw[e];simp))
  ·simp -implicitDefEqProofs only[c1,c2,c3,g,g2,w1,Int.toNat_natCast,e,go_sem,↓reduceIte]
   exact hr _ rfl rfl fun h=>e (by have:=h3.1 h;simp at this;exact this.1)
theorem walk47 {a b:AccS} (hl:a.fr.length < 1000000) (hl2:b.fr.length < 1000000) (h:Q (.v (.bool (sameA a b))) G):Wf E C pf47 [a.v,b.v] G Q:=by
 obtain⟨a1,a2,a3,a4,fa,a6⟩:=a
 obtain⟨b1,b2,b3,b4,fb,b6⟩:=b
 have key:∀c:Bool,sameA ⟨a1,a2,a3,a4,fa,a6⟩ ⟨b1,b2,b3,b4,fb,b6⟩=c→Q (.v (.bool c)) G:=fun c e=>by rw[←e];exact h
 have no:¬(a1=b1∧a2=b2∧a3=b3∧a4=b4∧fa=fb∧a6=b6)→Q (.v (.bool false)) G:=fun e=>key _ (decide_eq_false e)
 simp -implicitDefEqProofs only[pf47,AccS.v,go_sem,↓reduceIte]
 by_cases q1:a1=b1
 case neg=>simp -implicitDefEqProofs only[q1,go_sem,↓reduceIte];exact no fun e=>q1 e.1
 by_cases q2:a2=b2
 case neg=>simp -implicitDefEqProofs only[q1,q2,go_sem,↓reduceIte];exact no fun e=>q2 e.2.1
 by_cases q3:a3=b3
 case neg=>simp -implicitDefEqProofs only[q1,q2,q3,go_sem,↓reduceIte];exact no fun e=>q3 e.2.2.1
 simp -implicitDefEqProofs only[q1,q2,q3,go_sem,↓reduceIte]
 by_cases q4:a4=b4
 case neg=>
  have q4':(a4==b4)=false:=by simpa using q4
  simp -implicitDefEqProofs only[q4',go_sem,↓reduceIte];exact no fun e=>q4 e.2.2.2.1
 have q4':(a4==b4)=true:=by simpa using q4
 by_cases q6:a6=b6
 case neg=>
  have q6':(a6==b6)=false:=by simpa using q6
  simp -implicitDefEqProofs only[q4',q6',go_sem,↓reduceIte];exact no fun e=>q6 e.2.2.2.2.2
 have q6':(a6==b6)=true:=by simpa using q6
 by_cases q5:fa.length=fb.length
 case neg=>
  have q5':¬((fa.length:Nat):Int)=(fb.length:Nat):=by omega
  simp -implicitDefEqProofs only[q4',q6',q5',go_sem,↓reduceIte];exact no fun e=>q5 (by rw[e.2.2.2.2.1])
 have q5':((fa.length:Nat):Int)=(fb.length:Nat):=by omega
 simp -implicitDefEqProofs only[q4',q6',q5',go_sem,↓reduceIte]
 refine⟨fa.length+1,?_⟩
 refine loop47 (a1:=a1) (a2:=a2) (a3:=a3) (a4:=a4) (a6:=a6) (b1:=b1) (b2:=b2) (b3:=b3) (b4:=b4) (b6:=b6) (fa:=fa) (fb:=fb) (by first|rfl|simp only[q1,q2,q3]) q5 hl (fun j ts e=> ?_) (fun σ e1 e2 e3=> ?_) fa fb 0 rfl rfl (Nat.zero_le _) Iff.rfl
 ·simp -implicitDefEqProofs only[go_sem,↓reduceIte]
  exact key _ (decide_eq_true ⟨q1,q2,q3,q4,e,q6⟩)
 ·show resQ Q σ.G (rD (St.ev σ (.v 4)))
  rw[e1,e2]
  exact no fun e=>e3 e.2.2.2.2.1
end Go.Proofs.Ytjbglbhcbenhpaa.Sha
