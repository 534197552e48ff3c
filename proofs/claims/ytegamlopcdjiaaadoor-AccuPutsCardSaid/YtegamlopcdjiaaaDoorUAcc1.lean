/- Rows, certificates, accumulations. -/
import Derived.Test.YtegamlopcdjiaaaDoorUCrt6
import Derived.Test.YtegamlopcdjiaaaDoorG10
namespace Go.Proofs.YtegamlopcdjiaaaDoor.Sha
open Go Go.Abs Go.Abs.Sha Go.Abs.Srt
set_option linter.unusedSimpArgs false
set_option linter.unusedVariables false
set_option maxRecDepth 100000
def pf78:PF:=
 PF.mk 3 7 15 ((PC.reg [nn (.v 6) (.mv true (.c (.v (.bool false))))]).seq ((PC.reg [mm 7 0,mm 8 1,nn (.t 9) (.bin .geq (.t 7) (.t 8)),nn (.t 10)
  (.mv false (.t 9)),gm 11 0 10 true,gm 12 2 10 true,⟨.t 13,.bin .leq (.t 11) (.t 12),some (.t 10,true)⟩,nn (.t 14) (.pick (.t 10) (.t 13) (.c
  (.v (.bool false)))),ma 6 14]).seq PC.ret)) [(.v 6,none)]
def lp45_0:PC:=
 (PC.reg [nn (.t 10) (.bin .lss (.v 9) (.v 8))]).seq ((PC.cond (.t 10) PC.skip (PC.exit 0)).seq ((PC.block 1 ((PC.reg [nn (.t 11) (.iadrS 1 (.v 7) (.v
  9)),nn (.t 12) (.load 1 false (.t 11)),ma 5 12]).seq (((PC.reg [mm 13 5,mm 14 3,nn (.t 15) (.bin .leq (.t 13) (.t 14)),nn (.t 16) (.mv false (.t
  15)),gm 17 5 16 false,⟨.t 18,.bin .gtr (.t 17) (.c (.v (.int .i64 21))),some (.t 16,false)⟩,nn (.t 19) (.pick (.t 16) (.c (.v (.bool true)))
  (.t 18))]).seq (PC.cond (.t 19) ((PC.reg [nn (.v 2) (.mv true (.c (.v (.bool false))))]).seq PC.ret) PC.skip)).seq (PC.reg [nn (.t 20) (.mv true (.v
  5)),ma 3 20])))).seq (PC.reg [nn (.t 21) (.bin .add (.v 9) (.c (.v (.int .i64 1)))),nn (.v 9) (.mv false (.t 21))])))
def pf45:PF:=
 PF.mk 1 10 44 ((PC.reg [nn (.v 1) (.box (.v 0)),nn (.v 2) (.mv true (.c (.v (.bool false))))]).seq ((PC.reg [nn (.v 3) (.mv true (.c (.v (.int .i64
  0))))]).seq (((PC.reg [nn (.v 6) (.fadr 4 35 (.v 1)),nn (.v 7) (.load 1 false (.v 6)),nn (.v 8) (.len (.v 7)),nn (.v 9) (.mv false (.c (.v (.int
  .i64 0))))]).seq (PC.block 0 (PC.loop [1,3,7,8,9] lp45_0))).seq ((PC.reg [nn (.t 22) (.fadr 0 0 (.v 1)),nn (.t 23) (.load 1 false (.t 22)),nn
  (.t 24) (.call 85 [.t 23]),nn (.t 25) (.mv false (.t 24)),⟨.t 26,.fadr 1 1 (.v 1),some (.t 25,true)⟩,⟨.t 27,.load 1 false (.t 26),some (.t
  25,true)⟩,⟨.t 28,.call 78 [.t 27,.c (.v (.int .i64 1)),.c (.v (.int .i64 1099511627776))],some (.t 25,true)⟩,nn (.t 29) (.pick (.t 25) (.t
  28) (.c (.v (.bool false)))),nn (.t 30) (.mv false (.t 29)),⟨.t 31,.fadr 2 2 (.v 1),some (.t 30,true)⟩,⟨.t 32,.load 1 false (.t 31),some (.t
  30,true)⟩,⟨.t 33,.fadr 1 1 (.v 1),some (.t 30,true)⟩,⟨.t 34,.load 1 false (.t 33),some (.t 30,true)⟩,⟨.t 35,.bin .sub (.t 34) (.c (.v
  (.int .i64 1))),some (.t 30,true)⟩,⟨.t 36,.call 78 [.t 32,.c (.v (.int .i64 0)),.t 35],some (.t 30,true)⟩,nn (.t 37) (.pick (.t 30) (.t 36)
  (.c (.v (.bool false)))),nn (.t 38) (.mv false (.t 37)),⟨.t 39,.fadr 4 35 (.v 1),some (.t 38,true)⟩,⟨.t 40,.load 1 false (.t 39),some (.t 38,
  true)⟩,⟨.t 41,.len (.t 40),some (.t 38,true)⟩,⟨.t 42,.bin .gtr (.t 41) (.c (.v (.int .i64 0))),some (.t 38,true)⟩,nn (.t 43) (.pick (.t 38)
  (.t 42) (.c (.v (.bool false)))),ma 2 43]).seq PC.ret)))) [(.v 2,none)]
def lp47_0:PC:=
 (PC.reg [nn (.t 29) (.bin .lss (.v 28) (.v 27))]).seq ((PC.cond (.t 29) PC.skip (PC.exit 0)).seq ((PC.block 1 ((PC.reg [nn (.t 30) (.iadrS 1 (.v 26)
  (.v 28)),nn (.t 31) (.load 1 false (.t 30)),ma 6 31]).seq (PC.reg [mm 32 0,mm 33 6,nn (.t 34) (.conv .u64 (.t 33)),nn (.t 35) (.call 72 [.t 32,
  .t 34]),ma 0 35]))).seq (PC.reg [nn (.t 36) (.bin .add (.v 28) (.c (.v (.int .i64 1)))),nn (.v 28) (.mv false (.t 36))])))
def pf47:PF:=
 PF.mk 2 29 38 ((PC.reg [nn (.v 3) (.box (.v 1)),nn (.v 4) (.mv true (.c (.own .nils)))]).seq ((PC.regD 0 [nn (.v 7) (.mv false (.v 0)),nn (.v 8)
  (.fadr 1 1 (.v 3)),nn (.v 9) (.load 1 false (.v 8)),nn (.v 10) (.conv .u64 (.v 9)),nn (.v 11) (.call 72 [.v 7,.v 10]),nn (.v 12) (.fadr 2 2 (.v
  3)),nn (.v 13) (.load 1 false (.v 12)),nn (.v 14) (.conv .u64 (.v 13)),nn (.v 15) (.call 72 [.v 11,.v 14]),nn (.v 0) (.mv true (.v 15))] []).seq
  ((PC.regD 0 [nn (.v 16) (.mv false (.v 0)),nn (.v 17) (.fadr 3 3 (.v 3)),nn (.v 18) (.load 32 true (.v 17)),nn (.v 19) (.call 71 [.v 16,.v 18]),
  nn (.v 20) (.fadr 4 35 (.v 3)),nn (.v 21) (.load 1 false (.v 20)),nn (.v 22) (.len (.v 21)),nn (.v 23) (.conv .u64 (.v 22)),nn (.v 24) (.call 72
  [.v 19,.v 23]),nn (.v 0) (.mv true (.v 24))] []).seq (((PC.reg [nn (.v 25) (.fadr 4 35 (.v 3)),nn (.v 26) (.load 1 false (.v 25)),nn (.v 27)
  (.len (.v 26)),nn (.v 28) (.mv false (.c (.v (.int .i64 0))))]).seq (PC.block 0 (PC.loop [0,26,27,28] lp47_0))).seq ((PC.reg [nn (.t 37) (.mv
  true (.v 0)),ma 4 37]).seq PC.ret))))) [(.v 4,none)]
def lp73_0:PC:=
 ((PC.reg [mm 25 4,nn (.t 26) (.fadr 4 35 (.v 1)),nn (.t 27) (.load 1 false (.t 26)),nn (.t 28) (.len (.t 27)),nn (.t 29) (.bin .lss (.t 25) (.t
  28))]).seq (PC.cond (.t 29) PC.skip (PC.exit 0))).seq ((PC.block 1 (PC.reg [nn (.t 32) (.mv true (.v 3)),nn (.t 33) (.fadr 4 35 (.v 1)),nn (.t 34)
  (.load 1 false (.t 33)),mm 35 4,nn (.t 36) (.iadrS 1 (.t 34) (.t 35)),nn (.t 37) (.load 1 false (.t 36)),nn (.t 38) (.conv .u8 (.t 37)),nn (.t
  39) (.buildS (some .u8) 1 (.int .u8 0) 1 [(0,.t 38)]),nn (.t 40) (.app (some .u8) 1 1 (.t 32) (.t 39)),ma 3 40])).seq (PC.reg [mm 30 4,nn (.t 31)
  (.bin .add (.t 30) (.c (.v (.int .i64 1)))),ma 4 31]))
def pf73:PF:=
 PF.mk 1 5 42 ((PC.reg [nn (.v 1) (.box (.v 0)),nn (.v 2) (.mv true (.c (.own .nils)))]).seq ((PC.regD 0 [nn (.t 5) (.fadr 1 1 (.v 1)),nn (.t 6)
  (.load 1 false (.t 5)),nn (.t 7) (.conv .u64 (.t 6)),nn (.t 8) (.call 103 [.t 7]),nn (.t 9) (.fadr 2 2 (.v 1)),nn (.t 10) (.load 1 false (.t 9)),
  nn (.t 11) (.conv .u64 (.t 10)),nn (.t 12) (.call 103 [.t 11]),nn (.t 13) (.app (some .u8) 1 1 (.t 8) (.t 12)),ma 3 13] []).seq ((PC.regD 0 [nn
  (.t 14) (.mv true (.v 3)),nn (.t 15) (.fadr 3 3 (.v 1)),nn (.t 16) (.load 32 true (.t 15)),nn (.t 17) (.call 74 [.t 16]),nn (.t 18) (.app (some
  .u8) 1 1 (.t 14) (.t 17)),nn (.t 19) (.fadr 4 35 (.v 1)),nn (.t 20) (.load 1 false (.t 19)),nn (.t 21) (.len (.t 20)),nn (.t 22) (.conv .u8 (.t
  21)),nn (.t 23) (.buildS (some .u8) 1 (.int .u8 0) 1 [(0,.t 22)]),nn (.t 24) (.app (some .u8) 1 1 (.t 18) (.t 23)),ma 3 24] []).seq (((PC.reg [nn
  (.v 4) (.mv true (.c (.v (.int .i64 0))))]).seq (PC.block 0 (PC.loop [1,3,4] lp73_0))).seq ((PC.reg [nn (.t 41) (.mv true (.v 3)),ma 2 41]).seq
  PC.ret))))) [(.v 2,none)]
def lp13_0:PC:=
 ((PC.reg [mm 48 5,nn (.t 49) (.fadr 4 35 (.v 2)),nn (.t 50) (.load 1 false (.t 49)),nn (.t 51) (.len (.t 50)),nn (.t 52) (.bin .lss (.t 48) (.t
  51))]).seq (PC.cond (.t 52) PC.skip (PC.exit 0))).seq ((PC.block 1 ((PC.regD 0 [nn (.t 55) (.fadr 4 35 (.v 2)),nn (.t 56) (.load 1 false (.t 55)),
  mm 57 5,nn (.t 58) (.iadrS 1 (.t 56) (.t 57)),nn (.t 59) (.load 1 false (.t 58)),nn (.t 60) (.fadr 4 35 (.v 3)),nn (.t 61) (.load 1 false (.t
  60)),mm 62 5,nn (.t 63) (.iadrS 1 (.t 61) (.t 62)),nn (.t 64) (.load 1 false (.t 63)),nn (.t 65) (.bin .neq (.t 59) (.t 64))] []).seq (PC.cond
  (.t 65) ((PC.reg [nn (.v 4) (.mv true (.c (.v (.bool false))))]).seq PC.ret) PC.skip))).seq (PC.reg [mm 53 5,nn (.t 54) (.bin .add (.t 53) (.c (.v
  (.int .i64 1)))),ma 5 54]))
def pf13:PF:=
 PF.mk 2 6 66 ((PC.reg [nn (.v 2) (.box (.v 0)),nn (.v 3) (.box (.v 1)),nn (.v 4) (.mv true (.c (.v (.bool false))))]).seq (((PC.reg [nn (.t 6) (.fadr
  0 0 (.v 2)),nn (.t 7) (.load 1 false (.t 6)),nn (.t 8) (.fadr 0 0 (.v 3)),nn (.t 9) (.load 1 false (.t 8)),nn (.t 10) (.bin .neq (.t 7) (.t 9)),
  nn (.t 11) (.mv false (.t 10)),⟨.t 12,.fadr 1 1 (.v 2),some (.t 11,false)⟩,⟨.t 13,.load 1 false (.t 12),some (.t 11,false)⟩,⟨.t 14,.fadr 1
  1 (.v 3),some (.t 11,false)⟩,⟨.t 15,.load 1 false (.t 14),some (.t 11,false)⟩,⟨.t 16,.bin .neq (.t 13) (.t 15),some (.t 11,false)⟩,nn (.t
  17) (.pick (.t 11) (.c (.v (.bool true))) (.t 16)),nn (.t 18) (.mv false (.t 17)),⟨.t 19,.fadr 2 2 (.v 2),some (.t 18,false)⟩,⟨.t 20,.load 1
  false (.t 19),some (.t 18,false)⟩,⟨.t 21,.fadr 2 2 (.v 3),some (.t 18,false)⟩,⟨.t 22,.load 1 false (.t 21),some (.t 18,false)⟩,⟨.t 23,
  .bin .neq (.t 20) (.t 22),some (.t 18,false)⟩,nn (.t 24) (.pick (.t 18) (.c (.v (.bool true))) (.t 23)),nn (.t 25) (.mv false (.t 24)),⟨.t 26,
  .fadr 3 3 (.v 2),some (.t 25,false)⟩,⟨.t 27,.load 32 true (.t 26),some (.t 25,false)⟩,⟨.t 28,.fadr 3 3 (.v 3),some (.t 25,false)⟩,⟨.t 29,
  .load 32 true (.t 28),some (.t 25,false)⟩,⟨.t 30,.eqa true (.arr 32) (.t 27) (.t 29),some (.t 25,false)⟩,nn (.t 31) (.pick (.t 25) (.c (.v
  (.bool true))) (.t 30)),nn (.t 32) (.mv false (.t 31)),⟨.t 33,.fadr 5 36 (.v 2),some (.t 32,false)⟩,⟨.t 34,.load 32 true (.t 33),some (.t 32,
  false)⟩,⟨.t 35,.fadr 5 36 (.v 3),some (.t 32,false)⟩,⟨.t 36,.load 32 true (.t 35),some (.t 32,false)⟩,⟨.t 37,.eqa true (.arr 32) (.t 34)
  (.t 36),some (.t 32,false)⟩,nn (.t 38) (.pick (.t 32) (.c (.v (.bool true))) (.t 37)),nn (.t 39) (.mv false (.t 38)),⟨.t 40,.fadr 4 35 (.v 2),
  some (.t 39,false)⟩,⟨.t 41,.load 1 false (.t 40),some (.t 39,false)⟩,⟨.t 42,.len (.t 41),some (.t 39,false)⟩,⟨.t 43,.fadr 4 35 (.v 3),
  some (.t 39,false)⟩,⟨.t 44,.load 1 false (.t 43),some (.t 39,false)⟩,⟨.t 45,.len (.t 44),some (.t 39,false)⟩,⟨.t 46,.bin .neq (.t 42) (.t
  45),some (.t 39,false)⟩,nn (.t 47) (.pick (.t 39) (.c (.v (.bool true))) (.t 46))]).seq (PC.cond (.t 47) ((PC.reg [nn (.v 4) (.mv true (.c (.v
  (.bool false))))]).seq PC.ret) PC.skip)).seq (((PC.reg [nn (.v 5) (.mv true (.c (.v (.int .i64 0))))]).seq (PC.block 0 (PC.loop [2,3,5]
  lp13_0))).seq ((PC.reg [nn (.v 4) (.mv true (.c (.v (.bool true))))]).seq PC.ret)))) [(.v 4,none)]
def pf81:PF:=
 PF.mk 1 4 10 ((PC.reg [nn (.v 2) (.mv true (.c (.own .nils)))]).seq ((PC.reg [mm 4 0,nn (.t 5) (.call 91 [.t 4]),ma 3 5]).seq ((PC.reg [mm 6 3,nn
  (.t 7) (.call 92 [.t 6,.c (.fn 105)])]).seq ((PC.reg [mm 8 3,nn (.t 9) (.call 95 [.t 8,.c (.fn 106)]),ma 2 9]).seq PC.ret)))) [(.v 2,none)]
attribute [local irreducible] W Wops WopsD WL Wop WopD
variable {E:Env} {C:Abs.Spec} {l:List (Nat×Spec1)} {G:List (Nat×V)} {Q:R→List (Nat×V)→Prop}
set_option maxHeartbeats 1000000
def FrV (G:List (Nat×V)) (x:V) (fr:List Int):Prop:=
 x= .sli .i64 fr∨(x= .nils∧fr=[])∨∃id c LL,x= .sob id 1 0 fr.length c∧Abs.look G id=some (.agg LL)∧(∀(i:Nat) p,fr[i]? =some p→LL[i]? =some (.int .i64 p))∧fr.length≤LL.length∧∀y∈LL,V.size y=1
theorem frv_row {G0:List (Nat×V)} {z x:V} {els:List Int} (h:Row G0 G 1 z x (els.map (V.int .i64))):FrV G x els:=by
 obtain⟨_,⟨h1,h2⟩|⟨id,c,L,h1,h2,h3,h4,h5,h6,h7⟩⟩:=h
 ·exact .inr (.inl ⟨h1,by simpa using h2⟩)
 ·rw[List.length_map]at h1 h4 h6
  refine .inr (.inr ⟨id,c,L,h1,h3,fun i p hp=> ?_,by omega,fun y hy=>(h7 y hy).1⟩)
  have hi:i < els.length:=(List.getElem?_eq_some_iff.1 hp).1
  have:=congrArg (fun l=>l[i]?) h6
  simp only[List.getElem?_take,List.getElem?_map,hp,if_pos hi]at this
  exact this
theorem FrV.one {x:V} {fr:List Int} (h:FrV G x fr):V.size x=1∧V.isAgg x=false:=by
 rcases h with rfl|⟨rfl,_⟩|⟨id,c,LL,rfl,_⟩<;>exact⟨rfl,rfl⟩
theorem at_drop {l:List Int} {j:Nat} {p:Int} {r:List Int} (h:l.drop j=p::r):l[j]? =some p:=by
 have:(l.drop j)[0]? =some p:=by rw[h];rfl
 rwa [List.getElem?_drop,Nat.add_zero]at this
def ZWn:Spec1
 |[.int .i64 n,.int .i64 a,.int .i64 b],G,Q=>Q (.v (.bool (decide (a≤n∧n≤b)))) G
 |_,_,_=>False
theorem ZWn_eq {n a b}:ZWn [.int .i64 n,.int .i64 a,.int .i64 b] G Q=(Q (.v (.bool (decide (a≤n∧n≤b)))) G):=rfl
def ZMa:Spec1
 |[.agg [.int .i64 a1,.int .i64 a2,.int .i64 a3,.arr .u8 32 a4,x,.arr .u8 32 a6]],G,Q=>∃fr:List Int,(FrV G x fr∧(⟨a1,a2,a3,a4,fr,a6⟩:AccS).wf∧fr.length < 1000000)∧Q (.v (.bool (⟨a1,a2,a3,a4,fr,a6⟩:AccS).may)) G
 |_,_,_=>False
theorem ZMa_eq {a1 a2 a3 a4 x a6}:ZMa [.agg [.int .i64 a1,.int .i64 a2,.int .i64 a3,.arr .u8 32 a4,x,.arr .u8 32 a6]] G Q=(∃fr:List Int,(FrV G x fr∧(⟨a1,a2,a3,a4,fr,a6⟩:AccS).wf∧fr.length < 1000000)∧Q (.v (.bool (⟨a1,a2,a3,a4,fr,a6⟩:AccS).may)) G):=rfl
def ZTg:Spec1
 |[b,.agg [.int .i64 a1,.int .i64 a2,.int .i64 a3,.arr .u8 32 a4,x,.arr .u8 32 a6]],G,Q=>∃(bb fr:List Int),(byV b=some bb∧bb.length < 1000000000∧FrV G x fr∧(⟨a1,a2,a3,a4,fr,a6⟩:AccS).wf∧(⟨a1,a2,a3,a4,fr,a6⟩:AccS).May)∧Q (.own (.sli .u8 (bb++(⟨a1,a2,a3,a4,fr,a6⟩:AccS).said))) G
 |_,_,_=>False
theorem ZTg_eq {b a1 a2 a3 a4 x a6}:ZTg [b,.agg [.int .i64 a1,.int .i64 a2,.int .i64 a3,.arr .u8 32 a4,x,.arr .u8 32 a6]] G Q=(∃(bb fr:List Int),(byV b=some bb∧bb.length < 1000000000∧FrV G x fr∧(⟨a1,a2,a3,a4,fr,a6⟩:AccS).wf∧(⟨a1,a2,a3,a4,fr,a6⟩:AccS).May)∧Q (.own (.sli .u8 (bb++(⟨a1,a2,a3,a4,fr,a6⟩:AccS).said))) G):=rfl
def ZT1:Spec1
 |[.agg [.int .i64 a1,.int .i64 a2,.int .i64 a3,.arr .u8 32 a4,x,.arr .u8 32 a6]],G,Q=>∃fr:List Int,(FrV G x fr∧(⟨a1,a2,a3,a4,fr,a6⟩:AccS).wf∧(⟨a1,a2,a3,a4,fr,a6⟩:AccS).May)∧Q (.own (.sli .u8 (⟨a1,a2,a3,a4,fr,a6⟩:AccS).said)) G
 |_,_,_=>False
theorem ZT1_eq {a1 a2 a3 a4 x a6}:ZT1 [.agg [.int .i64 a1,.int .i64 a2,.int .i64 a3,.arr .u8 32 a4,x,.arr .u8 32 a6]] G Q=(∃fr:List Int,(FrV G x fr∧(⟨a1,a2,a3,a4,fr,a6⟩:AccS).wf∧(⟨a1,a2,a3,a4,fr,a6⟩:AccS).May)∧Q (.own (.sli .u8 (⟨a1,a2,a3,a4,fr,a6⟩:AccS).said)) G):=rfl
theorem walk78 {n a b:Int} (h:Q (.v (.bool (decide (a≤n∧n≤b)))) G):Wf E C pf78 [.int .i64 n,.int .i64 a,.int .i64 b] G Q:=by
 by_cases h1:a≤n
 ·simp (maxSteps:=1000000) (implicitDefEqProofs:=false) only[pf78,h1,go_sem,↓reduceIte]
  exact finB h (by simp[h1])
 ·simp (maxSteps:=1000000) (implicitDefEqProofs:=false) only[pf78,h1,go_sem,↓reduceIte]
  exact finB h (by simp[h1])
theorem loop45i {QQ:Ex→St→Prop} {fr:List Int} {L:List Bx} (hl:fr.length < 1000000)
  (hx:∀(low:Int) (j:Nat) ts,riseI 21 0 fr=true→QQ (.exit 0) ⟨[none,some (.lp 0 []),none,some (.v (.int .i64 low)),none,none,none,some (.v (.sli .i64 fr)),some (.v (.int .i64 (fr.length:Nat))),some (.v (.int .i64 (j:Nat)))],ts,L,G⟩)
  (hr:∀σ:St,σ.G=G→St.ev σ (.v 2)=some (.v (.bool false))→riseI 21 0 fr=false→QQ .ret σ):
  ∀(r:List Int) (j:Nat) (low:Int),fr.drop j=r→j≤fr.length→riseI 21 0 fr=riseI 21 low r→WL (W E C lp45_0) [1,3,7,8,9] QQ (r.length+1) ⟨[none,some (.lp 0 []),none,some (.v (.int .i64 low)),none,none,none,some (.v (.sli .i64 fr)),some (.v (.int .i64 (fr.length:Nat))),some (.v (.int .i64 (j:Nat)))],[],L,G⟩:=by
 intro r
 induction r with
 |nil=>
  intro j low h1 h2 h3
  have:=drop_none h1
  have c1:¬(j:Int) < (fr.length:Int):=by omega
  refine WL_in lp45_0.eq_1 ?_
  simp (maxSteps:=1000000) (implicitDefEqProofs:=false) only[c1,go_sem,↓reduceIte]
  exact hx _ _ _ h3
 |cons p r ih=>
  intro j low h1 h2 h3
  obtain⟨hd,hj,hlen⟩:=drop_one h1
  have g:=getD_at h1
  have c1:(j:Int) < (fr.length:Int):=by omega
  have c2:(0:Int)≤(j:Int):=by omega
  have w1:IntKind.i64.wrap ((j:Int)+1)=((j+1:Nat):Int):=wc (by omega) (by omega)
  refine WL_in lp45_0.eq_1 ?_
  by_cases r1:p≤low
  ·simp (maxSteps:=1000000) (implicitDefEqProofs:=false) only[c1,c2,g,w1,Int.toNat_natCast,r1,go_sem,↓reduceIte]
   refine hr _ rfl rfl ?_
   rw[h3];exact if_pos (.inl r1)
  ·by_cases r2:21 < p
   ·simp (maxSteps:=1000000) (implicitDefEqProofs:=false) only[c1,c2,g,w1,Int.toNat_natCast,r1,r2,go_sem,↓reduceIte]
    refine hr _ rfl rfl ?_
    rw[h3];exact if_pos (.inr r2)
   ·simp (maxSteps:=1000000) (implicitDefEqProofs:=false) only[c1,c2,g,w1,Int.toNat_natCast,r1,r2,go_sem,↓reduceIte]
    refine ih (j+1) p hd (by omega) ?_
    rw[h3];exact if_neg (by omega)
theorem loop45s {QQ:Ex→St→Prop} {fr:List Int} {L:List Bx} {id c:Nat} {LL:List V} (hG:Abs.look G id=some (.agg LL)) (hLL:∀(i:Nat) p,fr[i]? =some p→LL[i]? =some (.int .i64 p)) (hfl:fr.length≤LL.length) (hsz:∀y∈LL,V.size y=1) (hl:fr.length < 1000000)
  (hx:∀(low:Int) (j:Nat) ts,riseI 21 0 fr=true→QQ (.exit 0) ⟨[none,some (.lp 0 []),none,some (.v (.int .i64 low)),none,none,none,some (.v (.sob id 1 0 fr.length c)),some (.v (.int .i64 (fr.length:Nat))),some (.v (.int .i64 (j:Nat)))],ts,L,G⟩)
  (hr:∀σ:St,σ.G=G→St.ev σ (.v 2)=some (.v (.bool false))→riseI 21 0 fr=false→QQ .ret σ):
  ∀(r:List Int) (j:Nat) (low:Int),fr.drop j=r→j≤fr.length→riseI 21 0 fr=riseI 21 low r→WL (W E C lp45_0) [1,3,7,8,9] QQ (r.length+1) ⟨[none,some (.lp 0 []),none,some (.v (.int .i64 low)),none,none,none,some (.v (.sob id 1 0 fr.length c)),some (.v (.int .i64 (fr.length:Nat))),some (.v (.int .i64 (j:Nat)))],[],L,G⟩:=by
 intro r
 induction r with
 |nil=>
  intro j low h1 h2 h3
  have:=drop_none h1
  have c1:¬(j:Int) < (fr.length:Int):=by omega
  refine WL_in lp45_0.eq_1 ?_
  simp (maxSteps:=1000000) (implicitDefEqProofs:=false) only[c1,go_sem,↓reduceIte]
  exact hx _ _ _ h3
 |cons p r ih=>
  intro j low h1 h2 h3
  obtain⟨hd,hj,hlen⟩:=drop_one h1
  have g:=hLL j p (at_drop h1)
  have c1:(j:Int) < (fr.length:Int):=by omega
  have c2:(0:Int)≤(j:Int):=by omega
  have w1:IntKind.i64.wrap ((j:Int)+1)=((j+1:Nat):Int):=wc (by omega) (by omega)
  refine WL_in lp45_0.eq_1 ?_
  by_cases r1:p≤low
  ·simp (maxSteps:=1000000) (implicitDefEqProofs:=false) only[c1,c2,g,hG,w1,Int.toNat_natCast,r1,go_sem,↓reduceIte]
   refine And.intro ⟨by omega,hsz⟩ <| hr _ rfl rfl ?_
   rw[h3];exact if_pos (.inl r1)
  ·by_cases r2:21 < p
   ·simp (maxSteps:=1000000) (implicitDefEqProofs:=false) only[c1,c2,g,hG,w1,Int.toNat_natCast,r1,r2,go_sem,↓reduceIte]
    refine And.intro ⟨by omega,hsz⟩ <| hr _ rfl rfl ?_
    rw[h3];exact if_pos (.inr r2)
   ·simp (maxSteps:=1000000) (implicitDefEqProofs:=false) only[c1,c2,g,hG,w1,Int.toNat_natCast,r1,r2,go_sem,↓reduceIte]
    refine And.intro ⟨by omega,hsz⟩ <| ih (j+1) p hd (by omega) ?_
    rw[h3];exact if_neg (by omega)
theorem may_wrap {n:Int} (h:I64 n):IntKind.i64.wrap (n-1)=n-1∨n= -9223372036854775808:=by
 unfold I64 at h
 by_cases e:n= -9223372036854775808
 ·exact .inr e
 ·exact .inl (w64 (by omega) (by omega))
theorem walk45i {a1 a2 a3:Int} {a4 a6 fr:List Int} (h37:Abs.look l 85=some SNo) (hW:Abs.look l 78=some ZWn) (hl:fr.length < 1000000) (hw:(⟨a1,a2,a3,a4,fr,a6⟩:AccS).wf) (h:Q (.v (.bool (⟨a1,a2,a3,a4,fr,a6⟩:AccS).may)) G):Wf E (specOf l) pf45 [.agg [.int .i64 a1,.int .i64 a2,.int .i64 a3,.arr .u8 32 a4,.sli .i64 fr,.arr .u8 32 a6]] G Q:=by
 have hm:=may_wrap hw.vi
 have hv:=hw.vi
 unfold I64 at hv
 dsimp only at hm hv
 have key:∀b:Bool,(⟨a1,a2,a3,a4,fr,a6⟩:AccS).may=b→Q (.v (.bool b)) G:=fun b e=>by rw[←e];exact h
 simp (maxSteps:=1000000) (implicitDefEqProofs:=false) only[pf45,go_sem,↓reduceIte]
 refine⟨fr.length+1,?_⟩
 refine loop45i (hl) (fun low j ts e=> ?_) (fun σ e1 e2 e3=> ?_) fr 0 0 rfl (Nat.zero_le _) rfl
 rotate_left
 ·show resQ Q σ.G (rD (St.ev σ (.v 2)))
  rw[e1,e2]
  exact key _ (decide_eq_false fun hM=>by have:=hM.2.2.2.2;dsimp only at this;rw[e3]at this;cases this)
 ·simp (maxSteps:=1000000) (implicitDefEqProofs:=false) only[h37,SNo_eq,hW,ZWn_eq,go_sem,↓reduceIte]
  by_cases q1:1≤a1∧a1≤21
  case neg=>
   simp (maxSteps:=1000000) (implicitDefEqProofs:=false) only[q1,go_sem,↓reduceIte]
   first|exact key _ (decide_eq_false fun hM=>q1 hM.1)|trace_state
  by_cases q2:1≤a2∧a2≤1099511627776
  case neg=>
   simp (maxSteps:=1000000) (implicitDefEqProofs:=false) only[q1,q2,go_sem,↓reduceIte]
   first|exact key _ (decide_eq_false fun hM=>q2 hM.2.1)|trace_state
  have hm:IntKind.i64.wrap (a2-1)=a2-1:=by rcases hm with hm|hm<;>omega
  by_cases q3:0≤a3∧a3≤a2-1
  case neg=>
   simp (maxSteps:=1000000) (implicitDefEqProofs:=false) only[q1,q2,q3,hm,go_sem,↓reduceIte]
   first|exact key _ (decide_eq_false fun hM=>q3 ⟨hM.2.2.1.1,by have:=hM.2.2.1.2;dsimp only at this;omega⟩)|trace_state
  simp (maxSteps:=1000000) (implicitDefEqProofs:=false) only[q1,q2,q3,hm,go_sem,↓reduceIte]
  refine key _ ?_
  unfold AccS.may
  first
  |(rw[decide_eq_decide]
    constructor
    ·intro hM;have:=List.length_pos_iff.2 hM.2.2.2.1;dsimp only at this;omega
    ·intro hc;exact⟨q1,q2,⟨q3.1,by dsimp only;omega⟩,List.length_pos_iff.1 (by dsimp only;omega),e⟩)
  |exact decide_eq_false fun hM=>hM.2.2.2.1 rfl
  |trace_state
theorem walk45n {a1 a2 a3:Int} {a4 a6:List Int} (h37:Abs.look l 85=some SNo) (hW:Abs.look l 78=some ZWn) (hl:([]:List Int).length < 1000000) (hw:(⟨a1,a2,a3,a4,[],a6⟩:AccS).wf) (h:Q (.v (.bool (⟨a1,a2,a3,a4,[],a6⟩:AccS).may)) G):Wf E (specOf l) pf45 [.agg [.int .i64 a1,.int .i64 a2,.int .i64 a3,.arr .u8 32 a4,.nils,.arr .u8 32 a6]] G Q:=by
 have hm:=may_wrap hw.vi
 have hv:=hw.vi
 unfold I64 at hv
 dsimp only at hm hv
 have key:∀b:Bool,(⟨a1,a2,a3,a4,[],a6⟩:AccS).may=b→Q (.v (.bool b)) G:=fun b e=>by rw[←e];exact h
 simp (maxSteps:=1000000) (implicitDefEqProofs:=false) only[pf45,go_sem,↓reduceIte]
 refine⟨0+1,?_⟩
 refine WL_in lp45_0.eq_1 ?_
 simp (maxSteps:=1000000) (implicitDefEqProofs:=false) only[go_sem,↓reduceIte]
 ·simp (maxSteps:=1000000) (implicitDefEqProofs:=false) only[h37,SNo_eq,hW,ZWn_eq,go_sem,↓reduceIte]
  by_cases q1:1≤a1∧a1≤21
  case neg=>
   simp (maxSteps:=1000000) (implicitDefEqProofs:=false) only[q1,go_sem,↓reduceIte]
   first|exact key _ (decide_eq_false fun hM=>q1 hM.1)|trace_state
  by_cases q2:1≤a2∧a2≤1099511627776
  case neg=>
   simp (maxSteps:=1000000) (implicitDefEqProofs:=false) only[q1,q2,go_sem,↓reduceIte]
   first|exact key _ (decide_eq_false fun hM=>q2 hM.2.1)|trace_state
  have hm:IntKind.i64.wrap (a2-1)=a2-1:=by rcases hm with hm|hm<;>omega
  by_cases q3:0≤a3∧a3≤a2-1
  case neg=>
   simp (maxSteps:=1000000) (implicitDefEqProofs:=false) only[q1,q2,q3,hm,go_sem,↓reduceIte]
   first|exact key _ (decide_eq_false fun hM=>q3 ⟨hM.2.2.1.1,by have:=hM.2.2.1.2;dsimp only at this;omega⟩)|trace_state
  simp (maxSteps:=1000000) (implicitDefEqProofs:=false) only[q1,q2,q3,hm,go_sem,↓reduceIte]
  refine key _ ?_
  unfold AccS.may
  first
  |(rw[decide_eq_decide]
    constructor
    ·intro hM;have:=List.length_pos_iff.2 hM.2.2.2.1;dsimp only at this;omega
    ·intro hc;exact⟨q1,q2,⟨q3.1,by dsimp only;omega⟩,List.length_pos_iff.1 (by dsimp only;omega),e⟩)
  |exact decide_eq_false fun hM=>hM.2.2.2.1 rfl
  |trace_state
theorem walk45s {a1 a2 a3:Int} {a4 a6 fr:List Int} {id c:Nat} {LL:List V} (hG:Abs.look G id=some (.agg LL)) (hLL:∀(i:Nat) p,fr[i]? =some p→LL[i]? =some (.int .i64 p)) (hfl:fr.length≤LL.length) (hsz:∀y∈LL,V.size y=1) (h37:Abs.look l 85=some SNo) (hW:Abs.look l 78=some ZWn) (hl:fr.length < 1000000) (hw:(⟨a1,a2,a3,a4,fr,a6⟩:AccS).wf) (h:Q (.v (.bool (⟨a1,a2,a3,a4,fr,a6⟩:AccS).may)) G):Wf E (specOf l) pf45 [.agg [.int .i64 a1,.int .i64 a2,.int .i64 a3,.arr .u8 32 a4,.sob id 1 0 fr.length c,.arr .u8 32 a6]] G Q:=by
 have hm:=may_wrap hw.vi
 have hv:=hw.vi
 unfold I64 at hv
 dsimp only at hm hv
 have key:∀b:Bool,(⟨a1,a2,a3,a4,fr,a6⟩:AccS).may=b→Q (.v (.bool b)) G:=fun b e=>by rw[←e];exact h
 simp (maxSteps:=1000000) (implicitDefEqProofs:=false) only[pf45,go_sem,↓reduceIte]
 refine⟨fr.length+1,?_⟩
 refine loop45s hG hLL hfl hsz (hl) (fun low j ts e=> ?_) (fun σ e1 e2 e3=> ?_) fr 0 0 rfl (Nat.zero_le _) rfl
 rotate_left
 ·show resQ Q σ.G (rD (St.ev σ (.v 2)))
  rw[e1,e2]
  exact key _ (decide_eq_false fun hM=>by have:=hM.2.2.2.2;dsimp only at this;rw[e3]at this;cases this)
 ·simp (maxSteps:=1000000) (implicitDefEqProofs:=false) only[h37,SNo_eq,hW,ZWn_eq,go_sem,↓reduceIte]
  by_cases q1:1≤a1∧a1≤21
  case neg=>
   simp (maxSteps:=1000000) (implicitDefEqProofs:=false) only[q1,go_sem,↓reduceIte]
   first|exact key _ (decide_eq_false fun hM=>q1 hM.1)|trace_state
  by_cases q2:1≤a2∧a2≤1099511627776
  case neg=>
   simp (maxSteps:=1000000) (implicitDefEqProofs:=false) only[q1,q2,go_sem,↓reduceIte]
   first|exact key _ (decide_eq_false fun hM=>q2 hM.2.1)|trace_state
  have hm:IntKind.i64.wrap (a2-1)=a2-1:=by rcases hm with hm|hm<;>omega
  by_cases q3:0≤a3∧a3≤a2-1
  case neg=>
   simp (maxSteps:=1000000) (implicitDefEqProofs:=false) only[q1,q2,q3,hm,go_sem,↓reduceIte]
   first|exact key _ (decide_eq_false fun hM=>q3 ⟨hM.2.2.1.1,by have:=hM.2.2.1.2;dsimp only at this;omega⟩)|trace_state
  simp (maxSteps:=1000000) (implicitDefEqProofs:=false) only[q1,q2,q3,hm,go_sem,↓reduceIte]
  refine key _ ?_
  unfold AccS.may
  first
  |(rw[decide_eq_decide]
    constructor
    ·intro hM;have:=List.length_pos_iff.2 hM.2.2.2.1;dsimp only at this;omega
    ·intro hc;exact⟨q1,q2,⟨q3.1,by dsimp only;omega⟩,List.length_pos_iff.1 (by dsimp only;omega),e⟩)
  |exact decide_eq_false fun hM=>hM.2.2.2.1 rfl
  |trace_state
end Go.Proofs.YtegamlopcdjiaaaDoor.Sha
