/- Laws over plain values, and what functions of the program hand back; no conditions. -/
import Derived.Test.YtegamlopcdjiaaaG6
import Derived.Test.YtegamlopcdjiaaaG4
namespace Go.Proofs.Ytegamlopcdjiaaa.Sha
open Go Go.Abs Go.Abs.Sha Go.Abs.Srt
set_option linter.unusedSimpArgs false
set_option linter.unusedVariables false
set_option maxRecDepth 100000
def lp92_0:PC:=
 (PC.reg [nn (.t 14) (.bin .lss (.v 13) (.v 12))]).seq ((PC.cond (.t 14) PC.skip (PC.exit 0)).seq ((PC.block 1 ((PC.reg [nn (.t 15) (.mv true (.v 13)),
  ma 5 15]).seq ((PC.regD 0 [mm 16 0,mm 17 5,nn (.t 18) (.iadrS 1 (.t 16) (.t 17)),nn (.t 19) (.load 1 false (.t 18)),mm 20 1,mm 21 5,nn (.t 22)
  (.iadrS 1 (.t 20) (.t 21)),nn (.t 23) (.load 1 false (.t 22)),nn (.t 24) (.bin .neq (.t 19) (.t 23))] []).seq (PC.cond (.t 24) ((PC.reg [nn (.v 4)
  (.mv true (.c (.v (.bool false))))]).seq PC.ret) PC.skip)))).seq (PC.reg [nn (.t 25) (.bin .add (.v 13) (.c (.v (.int .i64 1)))),nn (.v 13) (.mv
  false (.t 25))])))
def pf92:PF:=
 PF.mk 2 14 26 ((PC.reg [nn (.v 4) (.mv true (.c (.v (.bool false))))]).seq (((PC.reg [nn (.v 6) (.mv false (.v 0)),nn (.v 7) (.len (.v 6)),nn (.v 8)
  (.mv false (.v 1)),nn (.v 9) (.len (.v 8)),nn (.v 10) (.bin .neq (.v 7) (.v 9))]).seq (PC.cond (.v 10) ((PC.reg [nn (.v 4) (.mv true (.c (.v (.bool
  false))))]).seq PC.ret) PC.skip)).seq (((PC.reg [nn (.v 11) (.mv false (.v 0)),nn (.v 12) (.len (.v 11)),nn (.v 13) (.mv false (.c (.v (.int .i64
  0))))]).seq (PC.block 0 (PC.loop [0,1,12,13] lp92_0))).seq ((PC.reg [nn (.v 4) (.mv true (.c (.v (.bool true))))]).seq PC.ret)))) [(.v 4,none)]
def pf42:PF:=
 PF.mk 2 5 45 ((PC.reg [nn (.v 2) (.box (.v 0)),nn (.v 3) (.box (.v 1)),nn (.v 4) (.mv true (.c (.v (.bool false))))]).seq ((PC.reg [nn (.t 5) (.fadr
  0 0 (.v 2)),nn (.t 6) (.load 1 false (.t 5)),nn (.t 7) (.fadr 0 0 (.v 3)),nn (.t 8) (.load 1 false (.t 7)),nn (.t 9) (.bin .eql (.t 6) (.t 8)),
  nn (.t 10) (.mv false (.t 9)),⟨.t 11,.fadr 1 1 (.v 2),some (.t 10,true)⟩,⟨.t 12,.load 1 false (.t 11),some (.t 10,true)⟩,⟨.t 13,.fadr 1 1
  (.v 3),some (.t 10,true)⟩,⟨.t 14,.load 1 false (.t 13),some (.t 10,true)⟩,⟨.t 15,.bin .eql (.t 12) (.t 14),some (.t 10,true)⟩,nn (.t 16)
  (.pick (.t 10) (.t 15) (.c (.v (.bool false)))),nn (.t 17) (.mv false (.t 16)),⟨.t 18,.fadr 2 2 (.v 2),some (.t 17,true)⟩,⟨.t 19,.load 1 false
  (.t 18),some (.t 17,true)⟩,⟨.t 20,.fadr 2 2 (.v 3),some (.t 17,true)⟩,⟨.t 21,.load 1 false (.t 20),some (.t 17,true)⟩,⟨.t 22,.bin .eql
  (.t 19) (.t 21),some (.t 17,true)⟩,nn (.t 23) (.pick (.t 17) (.t 22) (.c (.v (.bool false)))),nn (.t 24) (.mv false (.t 23)),⟨.t 25,.fadr 3 3
  (.v 2),some (.t 24,true)⟩,⟨.t 26,.load 32 true (.t 25),some (.t 24,true)⟩,⟨.t 27,.fadr 3 3 (.v 3),some (.t 24,true)⟩,⟨.t 28,.load 32 true
  (.t 27),some (.t 24,true)⟩,⟨.t 29,.eqa false (.arr 32) (.t 26) (.t 28),some (.t 24,true)⟩,nn (.t 30) (.pick (.t 24) (.t 29) (.c (.v (.bool
  false)))),nn (.t 31) (.mv false (.t 30)),⟨.t 32,.fadr 4 35 (.v 2),some (.t 31,true)⟩,⟨.t 33,.load 1 false (.t 32),some (.t 31,true)⟩,⟨.t
  34,.fadr 4 35 (.v 3),some (.t 31,true)⟩,⟨.t 35,.load 1 false (.t 34),some (.t 31,true)⟩,⟨.t 36,.call 92 [.t 33,.t 35],some (.t 31,true)⟩,
  nn (.t 37) (.pick (.t 31) (.t 36) (.c (.v (.bool false)))),nn (.t 38) (.mv false (.t 37)),⟨.t 39,.fadr 5 36 (.v 2),some (.t 38,true)⟩,⟨.t 40,
  .load 32 true (.t 39),some (.t 38,true)⟩,⟨.t 41,.fadr 5 36 (.v 3),some (.t 38,true)⟩,⟨.t 42,.load 32 true (.t 41),some (.t 38,true)⟩,⟨.t
  43,.eqa false (.arr 32) (.t 40) (.t 42),some (.t 38,true)⟩,nn (.t 44) (.pick (.t 38) (.t 43) (.c (.v (.bool false)))),ma 4 44]).seq PC.ret))
  [(.v 4,none)]
def lp35_0:PC:=
 ((PC.reg [mm 4 3,nn (.t 5) (.fadr 4 35 (.v 1)),nn (.t 6) (.load 1 false (.t 5)),nn (.t 7) (.len (.t 6)),nn (.t 8) (.bin .lss (.t 4) (.t 7))]).seq
  (PC.cond (.t 8) PC.skip (PC.exit 0))).seq ((PC.block 1 ((PC.regD 0 [nn (.t 11) (.fadr 4 35 (.v 1)),nn (.t 12) (.load 1 false (.t 11)),mm 13 3,nn
  (.t 14) (.iadrS 1 (.t 12) (.t 13)),nn (.t 15) (.load 1 false (.t 14)),nn (.t 16) (.bin .lss (.t 15) (.c (.v (.int .i64 1)))),nn (.t 17) (.mv false
  (.t 16)),⟨.t 18,.fadr 4 35 (.v 1),some (.t 17,false)⟩,⟨.t 19,.load 1 false (.t 18),some (.t 17,false)⟩,gm 20 3 17 false,⟨.t 21,.iadrS 1
  (.t 19) (.t 20),some (.t 17,false)⟩,⟨.t 22,.load 1 false (.t 21),some (.t 17,false)⟩,⟨.t 23,.bin .gtr (.t 22) (.c (.v (.int .i64 21))),some
  (.t 17,false)⟩,nn (.t 24) (.pick (.t 17) (.c (.v (.bool true))) (.t 23)),nn (.t 25) (.mv false (.t 24)),gm 26 3 25 false,⟨.t 27,.bin .gtr (.t
  26) (.c (.v (.int .i64 0))),some (.t 25,false)⟩,⟨.t 28,.mv false (.t 27),some (.t 25,false)⟩,⟨.t 29,.fadr 4 35 (.v 1),some (.t 28,true)⟩,
  ⟨.t 30,.load 1 false (.t 29),some (.t 28,true)⟩,gm 31 3 28 true,⟨.t 32,.bin .sub (.t 31) (.c (.v (.int .i64 1))),some (.t 28,true)⟩,⟨.t 33,
  .iadrS 1 (.t 30) (.t 32),some (.t 28,true)⟩,⟨.t 34,.load 1 false (.t 33),some (.t 28,true)⟩,⟨.t 35,.fadr 4 35 (.v 1),some (.t 28,true)⟩,
  ⟨.t 36,.load 1 false (.t 35),some (.t 28,true)⟩,gm 37 3 28 true,⟨.t 38,.iadrS 1 (.t 36) (.t 37),some (.t 28,true)⟩,⟨.t 39,.load 1 false (.t
  38),some (.t 28,true)⟩,⟨.t 40,.bin .geq (.t 34) (.t 39),some (.t 28,true)⟩,⟨.t 41,.pick (.t 28) (.t 40) (.c (.v (.bool false))),some (.t 25,
  false)⟩,nn (.t 42) (.pick (.t 25) (.c (.v (.bool true))) (.t 41))] []).seq (PC.cond (.t 42) ((PC.reg [nn (.v 2) (.mv true (.c (.v (.bool
  false))))]).seq PC.ret) PC.skip))).seq (PC.reg [mm 9 3,nn (.t 10) (.bin .add (.t 9) (.c (.v (.int .i64 1)))),ma 3 10]))
def pf35:PF:=
 PF.mk 1 4 79 ((PC.reg [nn (.v 1) (.box (.v 0)),nn (.v 2) (.mv true (.c (.v (.bool false))))]).seq (((PC.reg [nn (.v 3) (.mv true (.c (.v (.int .i64
  0))))]).seq (PC.block 0 (PC.loop [1,3] lp35_0))).seq ((PC.reg [nn (.t 43) (.fadr 0 0 (.v 1)),nn (.t 44) (.load 1 false (.t 43)),nn (.t 45) (.bin
  .geq (.t 44) (.c (.v (.int .i64 1)))),nn (.t 46) (.mv false (.t 45)),⟨.t 47,.fadr 0 0 (.v 1),some (.t 46,true)⟩,⟨.t 48,.load 1 false (.t 47),
  some (.t 46,true)⟩,⟨.t 49,.bin .leq (.t 48) (.c (.v (.int .i64 21))),some (.t 46,true)⟩,nn (.t 50) (.pick (.t 46) (.t 49) (.c (.v (.bool
  false)))),nn (.t 51) (.mv false (.t 50)),⟨.t 52,.fadr 1 1 (.v 1),some (.t 51,true)⟩,⟨.t 53,.load 1 false (.t 52),some (.t 51,true)⟩,⟨.t 54,
  .bin .geq (.t 53) (.c (.v (.int .i64 1))),some (.t 51,true)⟩,nn (.t 55) (.pick (.t 51) (.t 54) (.c (.v (.bool false)))),nn (.t 56) (.mv false (.t
  55)),⟨.t 57,.fadr 1 1 (.v 1),some (.t 56,true)⟩,⟨.t 58,.load 1 false (.t 57),some (.t 56,true)⟩,⟨.t 59,.bin .leq (.t 58) (.c (.v (.int .i64
  1099511627776))),some (.t 56,true)⟩,nn (.t 60) (.pick (.t 56) (.t 59) (.c (.v (.bool false)))),nn (.t 61) (.mv false (.t 60)),⟨.t 62,.fadr 2 2
  (.v 1),some (.t 61,true)⟩,⟨.t 63,.load 1 false (.t 62),some (.t 61,true)⟩,⟨.t 64,.bin .geq (.t 63) (.c (.v (.int .i64 0))),some (.t 61,
  true)⟩,nn (.t 65) (.pick (.t 61) (.t 64) (.c (.v (.bool false)))),nn (.t 66) (.mv false (.t 65)),⟨.t 67,.fadr 2 2 (.v 1),some (.t 66,true)⟩,
  ⟨.t 68,.load 1 false (.t 67),some (.t 66,true)⟩,⟨.t 69,.fadr 1 1 (.v 1),some (.t 66,true)⟩,⟨.t 70,.load 1 false (.t 69),some (.t 66,
  true)⟩,⟨.t 71,.bin .lss (.t 68) (.t 70),some (.t 66,true)⟩,nn (.t 72) (.pick (.t 66) (.t 71) (.c (.v (.bool false)))),nn (.t 73) (.mv false (.t
  72)),⟨.t 74,.fadr 4 35 (.v 1),some (.t 73,true)⟩,⟨.t 75,.load 1 false (.t 74),some (.t 73,true)⟩,⟨.t 76,.len (.t 75),some (.t 73,true)⟩,
  ⟨.t 77,.bin .geq (.t 76) (.c (.v (.int .i64 1))),some (.t 73,true)⟩,nn (.t 78) (.pick (.t 73) (.t 77) (.c (.v (.bool false)))),ma 2 78]).seq
  PC.ret))) [(.v 2,none)]
attribute [local irreducible] W Wops WopsD WL Wop WopD
variable {E:Env} {C:Abs.Spec} {l:List (Nat×Spec1)} {G:List (Nat×V)} {Q:R→List (Nat×V)→Prop}
set_option maxHeartbeats 1000000
def ZEi:Spec1
 |[.sli .i64 a,.sli .i64 b],G,Q=>(a.length < 1000000∧b.length < 1000000)∧Q (.v (.bool (decide (a=b)))) G
 |_,_,_=>False
theorem ZEi_eq {a b}:ZEi [.sli .i64 a,.sli .i64 b] G Q=((a.length < 1000000∧b.length < 1000000)∧Q (.v (.bool (decide (a=b)))) G):=rfl
theorem loop92 {QQ:Ex→St→Prop} {fa fb:List Int} (hll:fa.length=fb.length) (hl:fa.length < 1000000)
  (hx:∀(j:Nat) ts,fa=fb→QQ (.exit 0) ⟨[some (.v (.sli .i64 fa)),some (.v (.sli .i64 fb)),none,none,none,none,none,none,none,none,none,none,some (.v (.int .i64 (fa.length:Nat))),some (.v (.int .i64 (j:Nat)))],ts,[],G⟩) (hr:∀σ:St,σ.G=G→St.ev σ (.v 4)=some (.v (.bool false))→fa≠fb→QQ .ret σ):
  ∀(r r2:List Int) (j:Nat),fa.drop j=r→fb.drop j=r2→j≤fa.length→(fa=fb↔r=r2)→WL (W E C lp92_0) [0,1,12,13] QQ (r.length+1) ⟨[some (.v (.sli .i64 fa)),some (.v (.sli .i64 fb)),none,none,none,none,none,none,none,none,none,none,some (.v (.int .i64 (fa.length:Nat))),some (.v (.int .i64 (j:Nat)))],[],[],G⟩:=by
 intro r
 induction r with
 |nil=>
  intro r2 j h1 h0 h2 h3
  have:=drop_none h1
  have c1:¬(j:Int) < (fa.length:Int):=by omega
  refine WL_in lp92_0.eq_1 ?_
  simp -implicitDefEqProofs only[c1,go_sem,↓reduceIte]
  refine hx _ _ (h3.2 ?_)
  rw[←h0,List.drop_eq_nil_of_le (by omega)]
 |cons p r ih=>
  intro r2 j h1 h0 h2 h3
  obtain⟨hd,hj,hlen⟩:=drop_one h1
  obtain⟨p2,r2,rfl⟩:∃p2 r',r2=p2::r':=by
   cases r2 with
   |nil=>have:=drop_none h0;omega
   |cons p2 r2=>exact⟨_,_,rfl⟩
  obtain⟨hd2,hj2,hlen2⟩:=drop_one h0
  have g:=getD_at h1
  have g2:=getD_at h0
  have c1:(j:Int) < (fa.length:Int):=by omega
  have c3:(j:Int) < (fb.length:Int):=by omega
  have c2:(0:Int)≤(j:Int):=by omega
  have w1:IntKind.i64.wrap ((j:Int)+1)=((j+1:Nat):Int):=wc (by omega) (by omega)
  refine WL_in lp92_0.eq_1 ?_
  by_cases e:p=p2
  ·simp -implicitDefEqProofs only[c1,c2,c3,g,g2,w1,Int.toNat_natCast,e,go_sem,↓reduceIte]
   exact ih r2 (j+1) hd hd2 (by omega) (h3.trans (by rw[e];simp))
  ·simp -implicitDefEqProofs only[c1,c2,c3,g,g2,w1,Int.toNat_natCast,e,go_sem,↓reduceIte]
   exact hr _ rfl rfl fun h=>e (by have:=h3.1 h;simp at this;exact this.1)
theorem walk92 {fa fb:List Int} (hl:fa.length < 1000000) (hl2:fb.length < 1000000) (h:Q (.v (.bool (decide (fa=fb)))) G):Wf E C pf92 [.sli .i64 fa,.sli .i64 fb] G Q:=by
 by_cases q5:fa.length=fb.length
 case neg=>
  have q5':¬((fa.length:Nat):Int)=(fb.length:Nat):=by omega
  rw[decide_eq_false (fun e=>q5 (by rw[e]))]at h
  simp -implicitDefEqProofs only[pf92,q5',go_sem,↓reduceIte]
  exact h
 have q5':((fa.length:Nat):Int)=(fb.length:Nat):=by omega
 simp -implicitDefEqProofs only[pf92,q5',go_sem,↓reduceIte]
 rw[←q5]
 refine⟨fa.length+1,?_⟩
 refine loop92 q5 hl (fun j ts e=> ?_) (fun σ e1 e2 e3=> ?_) fa fb 0 rfl rfl (Nat.zero_le _) Iff.rfl
 ·rw[decide_eq_true e]at h
  simp -implicitDefEqProofs only[go_sem,↓reduceIte]
  exact h
 ·show resQ Q σ.G (rD (St.ev σ (.v 4)))
  rw[e1,e2]
  rw[decide_eq_false e3]at h
  exact h
theorem walk42 (hE:Abs.look l 92=some ZEi) {a b:AccS} (hl:a.fr.length < 1000000) (hl2:b.fr.length < 1000000) (h:Q (.v (.bool (sameA a b))) G):Wf E (specOf l) pf42 [a.v,b.v] G Q:=by
 obtain⟨a1,a2,a3,a4,fa,a6⟩:=a
 obtain⟨b1,b2,b3,b4,fb,b6⟩:=b
 have key:∀c:Bool,sameA ⟨a1,a2,a3,a4,fa,a6⟩ ⟨b1,b2,b3,b4,fb,b6⟩=c→Q (.v (.bool c)) G:=fun c e=>by rw[←e];exact h
 have no:¬(a1=b1∧a2=b2∧a3=b3∧a4=b4∧fa=fb∧a6=b6)→Q (.v (.bool false)) G:=fun e=>key _ (decide_eq_false e)
 simp -implicitDefEqProofs only[pf42,AccS.v,go_sem,↓reduceIte]
 by_cases q1:a1=b1
 case neg=>simp -implicitDefEqProofs only[q1,go_sem,↓reduceIte];exact no fun e=>q1 e.1
 by_cases q2:a2=b2
 case neg=>simp -implicitDefEqProofs only[q1,q2,go_sem,↓reduceIte];exact no fun e=>q2 e.2.1
 by_cases q3:a3=b3
 case neg=>simp -implicitDefEqProofs only[q1,q2,q3,go_sem,↓reduceIte];exact no fun e=>q3 e.2.2.1
 simp -implicitDefEqProofs only[q1,q2,q3,go_sem,↓reduceIte]
 by_cases q4:a4=b4
 case neg=>
  have q4':(a4==b4)=false:=by simpa using q4
  simp -implicitDefEqProofs only[q4',go_sem,↓reduceIte];exact no fun e=>q4 e.2.2.2.1
 have q4':(a4==b4)=true:=by simpa using q4
 simp -implicitDefEqProofs only[q4',hE,ZEi_eq,go_sem,↓reduceIte]
 refine⟨⟨hl,hl2⟩,?_⟩
 by_cases q5:fa=fb
 case neg=>
  simp -implicitDefEqProofs only[q5,go_sem,↓reduceIte];exact no fun e=>q5 e.2.2.2.2.1
 simp -implicitDefEqProofs only[q5,go_sem,↓reduceIte]
 refine key _ ?_
 unfold sameA
 rw[Bool.eq_iff_iff]
 simp[q1,q2,q3,q4,q5]
def ZM10:Spec1
 |[.agg [.int .i64 a1,.int .i64 a2,.int .i64 a3,.arr .u8 32 a4,x,.arr .u8 32 a6]],G,Q=>∃fr:List Int,(FrV G x fr∧(⟨a1,a2,a3,a4,fr,a6⟩:AccS).wf∧fr.length < 1000000)∧Q (.v (.bool (⟨a1,a2,a3,a4,fr,a6⟩:AccS).may)) G
 |_,_,_=>False
theorem ZM10_eq {a1 a2 a3 a4 x a6}:ZM10 [.agg [.int .i64 a1,.int .i64 a2,.int .i64 a3,.arr .u8 32 a4,x,.arr .u8 32 a6]] G Q=(∃fr:List Int,(FrV G x fr∧(⟨a1,a2,a3,a4,fr,a6⟩:AccS).wf∧fr.length < 1000000)∧Q (.v (.bool (⟨a1,a2,a3,a4,fr,a6⟩:AccS).may)) G):=rfl
theorem loop35i {QQ:Ex→St→Prop} {a1 a2 a3:Int} {a4 a6 fr:List Int} (hl:fr.length < 1000000)
  (hx:∀(j:Nat) ts,riseI 21 0 fr=true→QQ (.exit 0) ⟨[none,some (.lp 0 []),none,some (.v (.int .i64 (j:Nat)))],ts,[⟨false,.agg [.int .i64 a1,.int .i64 a2,.int .i64 a3,.arr .u8 32 a4,.sli .i64 fr,.arr .u8 32 a6]⟩],G⟩)
  (hr:∀σ:St,σ.G=G→St.ev σ (.v 2)=some (.v (.bool false))→riseI 21 0 fr=false→QQ .ret σ):
  ∀(r:List Int) (j:Nat) (low:Int),fr.drop j=r→j≤fr.length→((j=0∧low=0)∨(1≤j∧1≤low∧fr[j-1]? =some low))→riseI 21 0 fr=riseI 21 low r→WL (W E C lp35_0) [1,3] QQ (r.length+1) ⟨[none,some (.lp 0 []),none,some (.v (.int .i64 (j:Nat)))],[],[⟨false,.agg [.int .i64 a1,.int .i64 a2,.int .i64 a3,.arr .u8 32 a4,.sli .i64 fr,.arr .u8 32 a6]⟩],G⟩:=by
 intro r
 induction r with
 |nil=>
  intro j low h1 h2 hlow h3
  have:=drop_none h1
  have c1:¬(j:Int) < (fr.length:Int):=by omega
  refine WL_in lp35_0.eq_1 ?_
  simp -implicitDefEqProofs only[c1,go_sem,↓reduceIte]
  exact hx _ _ h3
 |cons p r ih=>
  intro j low h1 h2 hlow h3
  obtain⟨hd,hj,hlen⟩:=drop_one h1
  have hjp:=at_drop h1
  have g:=getD_at h1
  have c1:(j:Int) < (fr.length:Int):=by omega
  have c2:(0:Int)≤(j:Int):=by omega
  have w1:IntKind.i64.wrap ((j:Int)+1)=((j+1:Nat):Int):=wc (by omega) (by omega)
  have next:=fun (hlo:¬(p≤low∨21 < p))=>ih (j+1) p hd (by omega) (.inr ⟨by omega,by omega,by rw[Nat.add_sub_cancel];exact hjp⟩) (by rw[h3];exact if_neg hlo)
  have stop:=fun (hlo:p≤low∨21 < p)=>(by rw[h3];exact if_pos hlo:riseI 21 0 fr=false)
  refine WL_in lp35_0.eq_1 ?_
  by_cases r1:p < 1
  ·have r1p:¬1≤p:=by omega
   simp -implicitDefEqProofs only[c1,c2,g,w1,Int.toNat_natCast,r1,r1p,go_sem,↓reduceIte]
   skip
   exact hr _ rfl rfl (stop (by omega))
  have r1n:1≤p:=by omega
  by_cases r2:21 < p
  ·have r2p:¬p≤21:=by omega
   simp -implicitDefEqProofs only[c1,c2,g,w1,Int.toNat_natCast,r1,r1n,r2,r2p,go_sem,↓reduceIte]
   skip
   exact hr _ rfl rfl (stop (by omega))
  have r2n:p≤21:=by omega
  rcases hlow with⟨rfl,rfl⟩|⟨hj1,hlo1,hjl⟩
  ·have c1z:(0:Int) < (fr.length:Int):=by omega
   have c1y:¬(fr.length:Int)≤0:=by omega
   have w0:IntKind.i64.wrap ((0:Int)+1)=((0+1:Nat):Int):=by decide
   simp -implicitDefEqProofs only[c1z,c1y,g,w0,Int.toNat_natCast,Int.toNat_zero,r1,r1n,r2,r2n,Int.natCast_zero,Int.lt_irrefl,go_sem,↓reduceIte]
   skip
   exact next (by omega)
  ·have w2:IntKind.i64.wrap ((j:Int)-1)=((j-1:Nat):Int):=wc (by omega) (by omega)
   have g2:=(by rw[List.getD_eq_getElem?_getD,hjl];rfl:fr.getD (j-1) 0=low)
   have c0:(0:Int) < (j:Int):=by omega
   have c4:(0:Int)≤((j-1:Nat):Int):=by omega
   have c5:((j-1:Nat):Int) < (fr.length:Int):=by omega
   by_cases r3:p≤low
   ·have r3n:¬low < p:=by omega
    simp -implicitDefEqProofs only[c0,c1,c2,c4,c5,g,g2,w1,w2,Int.toNat_natCast,r1,r1n,r2,r2n,r3,r3n,go_sem,↓reduceIte]
    skip
    exact hr _ rfl rfl (stop (by omega))
   ·have r3n:low < p:=by omega
    simp -implicitDefEqProofs only[c0,c1,c2,c4,c5,g,g2,w1,w2,Int.toNat_natCast,r1,r1n,r2,r2n,r3,r3n,go_sem,↓reduceIte]
    skip
    exact next (by omega)
theorem walk35i {a1 a2 a3:Int} {a4 a6 fr:List Int} (hl:fr.length < 1000000) (hw:(⟨a1,a2,a3,a4,fr,a6⟩:AccS).wf) (h:Q (.v (.bool (⟨a1,a2,a3,a4,fr,a6⟩:AccS).may)) G):Wf E C pf35 [.agg [.int .i64 a1,.int .i64 a2,.int .i64 a3,.arr .u8 32 a4,.sli .i64 fr,.arr .u8 32 a6]] G Q:=by
 have key:∀b:Bool,(⟨a1,a2,a3,a4,fr,a6⟩:AccS).may=b→Q (.v (.bool b)) G:=fun b e=>by rw[←e];exact h
 simp -implicitDefEqProofs only[pf35,go_sem,↓reduceIte]
 refine⟨fr.length+1,?_⟩
 refine loop35i (hl) (fun j ts e=> ?_) (fun σ e1 e2 e3=> ?_) fr 0 0 rfl (Nat.zero_le _) (.inl ⟨rfl,rfl⟩) rfl
 rotate_left
 ·show resQ Q σ.G (rD (St.ev σ (.v 2)))
  rw[e1,e2]
  exact key _ (decide_eq_false fun hM=>by have:=hM.2.2.2.2;dsimp only at this;rw[e3]at this;cases this)
 have hM:∀b:Bool,(b=true↔(1≤a1∧a1≤21∧1≤a2∧a2≤1099511627776∧0≤a3∧a3 < a2∧(1:Int)≤(fr.length:Nat)))→Q (.v (.bool b)) G:=fun b hb=>key b (by
  rw[Bool.eq_iff_iff,hb]
  unfold AccS.may
  rw[decide_eq_true_eq]
  constructor
  ·intro hM;obtain⟨m1,m2,m3,m4,m5⟩:=hM
   have:=List.length_pos_iff.2 m4
   dsimp only at m1 m2 m3 this
   omega
  ·intro hc
   exact⟨⟨hc.1,hc.2.1⟩,⟨hc.2.2.1,hc.2.2.2.1⟩,⟨hc.2.2.2.2.1,hc.2.2.2.2.2.1⟩,List.length_pos_iff.1 (by have:=hc.2.2.2.2.2.2;dsimp only;omega),e⟩)
 simp -implicitDefEqProofs only[go_sem,↓reduceIte]
 repeat' first|(intro _)|constructor
 all_goals
  refine hM _ ?_
  first
  |(constructor<;>intro hh<;>first|(cases hh;done)|rfl|omega|exact absurd hh (by omega))
  |(rw[decide_eq_true_eq];constructor<;>intro hh<;>omega)
  |(constructor
    ·intro hh;cases hh
    ·intro hh;have:=hh.2.2.2.2.2.2;simp at this)
theorem walk35n {a1 a2 a3:Int} {a4 a6:List Int} (hl:([]:List Int).length < 1000000) (hw:(⟨a1,a2,a3,a4,[],a6⟩:AccS).wf) (h:Q (.v (.bool (⟨a1,a2,a3,a4,[],a6⟩:AccS).may)) G):Wf E C pf35 [.agg [.int .i64 a1,.int .i64 a2,.int .i64 a3,.arr .u8 32 a4,.nils,.arr .u8 32 a6]] G Q:=by
 have key:∀b:Bool,(⟨a1,a2,a3,a4,[],a6⟩:AccS).may=b→Q (.v (.bool b)) G:=fun b e=>by rw[←e];exact h
 simp -implicitDefEqProofs only[pf35,go_sem,↓reduceIte]
 refine⟨0+1,?_⟩
 refine WL_in lp35_0.eq_1 ?_
 have hM:∀b:Bool,(b=true↔(1≤a1∧a1≤21∧1≤a2∧a2≤1099511627776∧0≤a3∧a3 < a2∧(1:Int)≤(([]:List Int).length:Nat)))→Q (.v (.bool b)) G:=fun b hb=>key b (by
  rw[Bool.eq_iff_iff,hb]
  unfold AccS.may
  rw[decide_eq_true_eq]
  constructor
  ·intro hM;obtain⟨m1,m2,m3,m4,m5⟩:=hM
   have:=List.length_pos_iff.2 m4
   dsimp only at m1 m2 m3 this
   omega
  ·intro hc
   exact⟨⟨hc.1,hc.2.1⟩,⟨hc.2.2.1,hc.2.2.2.1⟩,⟨hc.2.2.2.2.1,hc.2.2.2.2.2.1⟩,List.length_pos_iff.1 (by have:=hc.2.2.2.2.2.2;dsimp only;omega),rfl⟩)
 simp -implicitDefEqProofs only[go_sem,↓reduceIte]
 repeat' first|(intro _)|constructor
 all_goals
  refine hM _ ?_
  first
  |(constructor<;>intro hh<;>first|(cases hh;done)|rfl|omega|exact absurd hh (by omega))
  |(rw[decide_eq_true_eq];constructor<;>intro hh<;>omega)
  |(constructor
    ·intro hh;cases hh
    ·intro hh;have:=hh.2.2.2.2.2.2;simp at this)
theorem loop35s {QQ:Ex→St→Prop} {a1 a2 a3:Int} {a4 a6 fr:List Int} {id c:Nat} {LL:List V} (hG:Abs.look G id=some (.agg LL)) (hLL:∀(i:Nat) p,fr[i]? =some p→LL[i]? =some (.int .i64 p)) (hfl:fr.length≤LL.length) (hsz:∀y∈LL,V.size y=1) (hl:fr.length < 1000000)
  (hx:∀(j:Nat) ts,riseI 21 0 fr=true→QQ (.exit 0) ⟨[none,some (.lp 0 []),none,some (.v (.int .i64 (j:Nat)))],ts,[⟨false,.agg [.int .i64 a1,.int .i64 a2,.int .i64 a3,.arr .u8 32 a4,.sob id 1 0 fr.length c,.arr .u8 32 a6]⟩],G⟩)
  (hr:∀σ:St,σ.G=G→St.ev σ (.v 2)=some (.v (.bool false))→riseI 21 0 fr=false→QQ .ret σ):
  ∀(r:List Int) (j:Nat) (low:Int),fr.drop j=r→j≤fr.length→((j=0∧low=0)∨(1≤j∧1≤low∧fr[j-1]? =some low))→riseI 21 0 fr=riseI 21 low r→WL (W E C lp35_0) [1,3] QQ (r.length+1) ⟨[none,some (.lp 0 []),none,some (.v (.int .i64 (j:Nat)))],[],[⟨false,.agg [.int .i64 a1,.int .i64 a2,.int .i64 a3,.arr .u8 32 a4,.sob id 1 0 fr.length c,.arr .u8 32 a6]⟩],G⟩:=by
 intro r
 induction r with
 |nil=>
  intro j low h1 h2 hlow h3
  have:=drop_none h1
  have c1:¬(j:Int) < (fr.length:Int):=by omega
  refine WL_in lp35_0.eq_1 ?_
  simp -implicitDefEqProofs only[c1,go_sem,↓reduceIte]
  exact hx _ _ h3
 |cons p r ih=>
  intro j low h1 h2 hlow h3
  obtain⟨hd,hj,hlen⟩:=drop_one h1
  have hjp:=at_drop h1
  have g:=hLL j p (at_drop h1)
  have c1:(j:Int) < (fr.length:Int):=by omega
  have c2:(0:Int)≤(j:Int):=by omega
  have w1:IntKind.i64.wrap ((j:Int)+1)=((j+1:Nat):Int):=wc (by omega) (by omega)
  have next:=fun (hlo:¬(p≤low∨21 < p))=>ih (j+1) p hd (by omega) (.inr ⟨by omega,by omega,by rw[Nat.add_sub_cancel];exact hjp⟩) (by rw[h3];exact if_neg hlo)
  have stop:=fun (hlo:p≤low∨21 < p)=>(by rw[h3];exact if_pos hlo:riseI 21 0 fr=false)
  refine WL_in lp35_0.eq_1 ?_
  by_cases r1:p < 1
  ·have r1p:¬1≤p:=by omega
   simp -implicitDefEqProofs only[c1,c2,g,hG,w1,Int.toNat_natCast,r1,r1p,go_sem,↓reduceIte]
   repeat (first|refine And.intro ⟨by omega,hsz⟩ ?_|refine And.intro ⟨⟨by omega,by omega⟩,by omega,hsz⟩ ?_|refine And.intro ⟨⟨by omega,by omega⟩,by omega⟩ ?_)
   exact hr _ rfl rfl (stop (by omega))
  have r1n:1≤p:=by omega
  by_cases r2:21 < p
  ·have r2p:¬p≤21:=by omega
   simp -implicitDefEqProofs only[c1,c2,g,hG,w1,Int.toNat_natCast,r1,r1n,r2,r2p,go_sem,↓reduceIte]
   repeat (first|refine And.intro ⟨by omega,hsz⟩ ?_|refine And.intro ⟨⟨by omega,by omega⟩,by omega,hsz⟩ ?_|refine And.intro ⟨⟨by omega,by omega⟩,by omega⟩ ?_)
   exact hr _ rfl rfl (stop (by omega))
  have r2n:p≤21:=by omega
  rcases hlow with⟨rfl,rfl⟩|⟨hj1,hlo1,hjl⟩
  ·have c1z:(0:Int) < (fr.length:Int):=by omega
   have c1y:¬(fr.length:Int)≤0:=by omega
   have w0:IntKind.i64.wrap ((0:Int)+1)=((0+1:Nat):Int):=by decide
   simp -implicitDefEqProofs only[c1z,c1y,g,hG,w0,Int.toNat_natCast,Int.toNat_zero,r1,r1n,r2,r2n,Int.natCast_zero,Int.lt_irrefl,go_sem,↓reduceIte]
   repeat (first|refine And.intro ⟨by omega,hsz⟩ ?_|refine And.intro ⟨⟨by omega,by omega⟩,by omega,hsz⟩ ?_|refine And.intro ⟨⟨by omega,by omega⟩,by omega⟩ ?_)
   exact next (by omega)
  ·have w2:IntKind.i64.wrap ((j:Int)-1)=((j-1:Nat):Int):=wc (by omega) (by omega)
   have g2:=hLL _ _ hjl
   have c0:(0:Int) < (j:Int):=by omega
   have c4:(0:Int)≤((j-1:Nat):Int):=by omega
   have c5:((j-1:Nat):Int) < (fr.length:Int):=by omega
   by_cases r3:p≤low
   ·have r3n:¬low < p:=by omega
    simp -implicitDefEqProofs only[c0,c1,c2,c4,c5,g,g2,hG,w1,w2,Int.toNat_natCast,r1,r1n,r2,r2n,r3,r3n,go_sem,↓reduceIte]
    repeat (first|refine And.intro ⟨by omega,hsz⟩ ?_|refine And.intro ⟨⟨by omega,by omega⟩,by omega,hsz⟩ ?_|refine And.intro ⟨⟨by omega,by omega⟩,by omega⟩ ?_)
    exact hr _ rfl rfl (stop (by omega))
   ·have r3n:low < p:=by omega
    simp -implicitDefEqProofs only[c0,c1,c2,c4,c5,g,g2,hG,w1,w2,Int.toNat_natCast,r1,r1n,r2,r2n,r3,r3n,go_sem,↓reduceIte]
    repeat (first|refine And.intro ⟨by omega,hsz⟩ ?_|refine And.intro ⟨⟨by omega,by omega⟩,by omega,hsz⟩ ?_|refine And.intro ⟨⟨by omega,by omega⟩,by omega⟩ ?_)
    exact next (by omega)
theorem walk35s {a1 a2 a3:Int} {a4 a6 fr:List Int} {id c:Nat} {LL:List V} (hG:Abs.look G id=some (.agg LL)) (hLL:∀(i:Nat) p,fr[i]? =some p→LL[i]? =some (.int .i64 p)) (hfl:fr.length≤LL.length) (hsz:∀y∈LL,V.size y=1) (hl:fr.length < 1000000) (hw:(⟨a1,a2,a3,a4,fr,a6⟩:AccS).wf) (h:Q (.v (.bool (⟨a1,a2,a3,a4,fr,a6⟩:AccS).may)) G):Wf E C pf35 [.agg [.int .i64 a1,.int .i64 a2,.int .i64 a3,.arr .u8 32 a4,.sob id 1 0 fr.length c,.arr .u8 32 a6]] G Q:=by
 have key:∀b:Bool,(⟨a1,a2,a3,a4,fr,a6⟩:AccS).may=b→Q (.v (.bool b)) G:=fun b e=>by rw[←e];exact h
 simp -implicitDefEqProofs only[pf35,go_sem,↓reduceIte]
 refine⟨fr.length+1,?_⟩
 refine loop35s hG hLL hfl hsz (hl) (fun j ts e=> ?_) (fun σ e1 e2 e3=> ?_) fr 0 0 rfl (Nat.zero_le _) (.inl ⟨rfl,rfl⟩) rfl
 rotate_left
 ·show resQ Q σ.G (rD (St.ev σ (.v 2)))
  rw[e1,e2]
  exact key _ (decide_eq_false fun hM=>by have:=hM.2.2.2.2;dsimp only at this;rw[e3]at this;cases this)
 have hM:∀b:Bool,(b=true↔(1≤a1∧a1≤21∧1≤a2∧a2≤1099511627776∧0≤a3∧a3 < a2∧(1:Int)≤(fr.length:Nat)))→Q (.v (.bool b)) G:=fun b hb=>key b (by
  rw[Bool.eq_iff_iff,hb]
  unfold AccS.may
  rw[decide_eq_true_eq]
  constructor
  ·intro hM;obtain⟨m1,m2,m3,m4,m5⟩:=hM
   have:=List.length_pos_iff.2 m4
   dsimp only at m1 m2 m3 this
   omega
  ·intro hc
   exact⟨⟨hc.1,hc.2.1⟩,⟨hc.2.2.1,hc.2.2.2.1⟩,⟨hc.2.2.2.2.1,hc.2.2.2.2.2.1⟩,List.length_pos_iff.1 (by have:=hc.2.2.2.2.2.2;dsimp only;omega),e⟩)
 simp -implicitDefEqProofs only[go_sem,↓reduceIte]
 repeat' first|(intro _)|constructor
 all_goals
  refine hM _ ?_
  first
  |(constructor<;>intro hh<;>first|(cases hh;done)|rfl|omega|exact absurd hh (by omega))
  |(rw[decide_eq_true_eq];constructor<;>intro hh<;>omega)
  |(constructor
    ·intro hh;cases hh
    ·intro hh;have:=hh.2.2.2.2.2.2;simp at this)
def pf84:PF:=
 PF.mk 2 5 20 ((PC.reg [nn (.v 3) (.box (.v 1)),nn (.v 4) (.mv true (.c (.own .nils)))]).seq (((PC.reg [nn (.t 5) (.load 68 true (.v 3)),nn (.t 6)
  (.call 117 [.t 5]),nn (.t 7) (.un .not (.t 6))]).seq (PC.cond (.t 7) ((PC.reg [mm 8 0,nn (.t 9) (.call 79 [.t 8]),ma 4 9]).seq PC.ret)
  PC.skip)).seq ((PC.regD 0 [mm 10 0,nn (.t 11) (.fadr 0 0 (.v 3)),nn (.t 12) (.load 1 false (.t 11)),nn (.t 13) (.conv .u64 (.t 12)),nn (.t 14)
  (.call 31 [.t 10,.t 13]),nn (.t 15) (.load 68 true (.v 3)),nn (.t 16) (.call 118 [.t 14,.t 15]),nn (.t 17) (.fadr 5 36 (.v 3)),nn (.t 18)
  (.load 32 true (.t 17)),nn (.t 19) (.call 82 [.t 16,.t 18]),ma 4 19] []).seq PC.ret))) [(.v 4,none)]
def pf55:PF:=
 PF.mk 1 3 14 ((PC.reg [nn (.v 1) (.box (.v 0)),nn (.v 2) (.mv true (.c (.own .nils)))]).seq ((PC.regD 0 [nn (.t 3) (.fadr 0 0 (.v 1)),nn (.t 4)
  (.load 1 false (.t 3)),nn (.t 5) (.conv .u8 (.t 4)),nn (.t 6) (.buildS (some .u8) 1 (.int .u8 0) 1 [(0,.t 5)]),nn (.t 7) (.load 68 true (.v 1)),
  nn (.t 8) (.call 105 [.t 7]),nn (.t 9) (.app (some .u8) 1 1 (.t 6) (.t 8)),nn (.t 10) (.fadr 5 36 (.v 1)),nn (.t 11) (.load 32 true (.t 10)),nn
  (.t 12) (.call 53 [.t 11]),nn (.t 13) (.app (some .u8) 1 1 (.t 9) (.t 12)),ma 2 13] []).seq PC.ret)) [(.v 2,none)]
def lp102_0:PC:=
 (PC.reg [nn (.t 17) (.bin .lss (.v 16) (.v 15))]).seq ((PC.cond (.t 17) PC.skip (PC.exit 0)).seq ((PC.block 1 (PC.regW 0 [(0,nn (.t 18) (.fadr 4 35
  (.v 4))),(1,nn (.t 19) (.load 1 false (.t 18))),(2,mm 20 0),(3,nn (.t 21) (.callW 48 [.t 20,.c (.v (.int .i64 21))])),(4,nn (.t 22) (.buildS
  (some .i64) 1 (.int .i64 0) 1 [(0,.t 21)])),(5,nn (.t 23) (.appR 1 8 (.int .i64 0) (.t 19) (.t 22))),(6,nn (.t 24) (.fadr 4 35 (.v 4))),(7,nn
  .no (.store 1 (.t 24) (.t 23)))] [(1,3)])).seq (PC.reg [nn (.t 25) (.bin .add (.v 16) (.c (.v (.int .i64 1)))),nn (.v 16) (.mv false (.t 25))])))
def pf102:PF:=
 PF.mk 1 17 38 ((PC.reg [nn (.v 2) (.alloc (.agg [.int .i64 0,.int .i64 0,.int .i64 0,.arr .u8 32 [0,0,0,0,0,0,0,0,0,0,0,0,0,0,0,0,0,
  0,0,0,0,0,0,0,0,0,0,0,0,0,0,0],.nils,.arr .u8 32 [0,0,0,0,0,0,0,0,0,0,0,0,0,0,0,0,0,0,0,0,0,0,0,0,0,0,0,0,
  0,0,0,0]])),nn (.v 3) (.mv true (.c (.v (.bool false))))]).seq ((PC.reg [nn (.v 5) (.mv false (.v 0)),nn (.v 6) (.call 48 [.v 5,.c (.v (.int
  .i64 21))]),nn (.v 7) (.mv false (.v 0)),nn (.v 8) (.call 48 [.v 7,.c (.v (.int .i64 1099511627776))]),nn (.v 9) (.mv false (.v 0)),nn (.v 10)
  (.call 48 [.v 9,.c (.v (.int .i64 1099511627776))]),nn (.v 11) (.mv false (.v 0)),nn (.v 12) (.call 98 [.v 11]),nn (.v 13) (.build (.agg [.int
  .i64 0,.int .i64 0,.int .i64 0,.arr .u8 32 zz2,
  .nils,.arr .u8 32 zz2]) [(0,.v 6),(1,.v 8),(2,.v
  10),(3,.v 12)]),nn (.v 4) (.alloc (.agg [.int .i64 0,.int .i64 0,.int .i64 0,.arr .u8 32 [0,0,0,0,0,0,0,0,0,0,0,0,0,0,0,0,0,0,
  0,0,0,0,0,0,0,0,0,0,0,0,0,0],.nils,.arr .u8 32 [0,0,0,0,0,0,0,0,0,0,0,0,0,0,0,0,0,0,0,0,0,0,0,0,0,0,0,0,0,
  0,0,0]])),nn .no (.store 68 (.v 4) (.v 13))]).seq (((PC.reg [nn (.v 14) (.mv false (.v 0)),nn (.v 15) (.call 48 [.v 14,.c (.v (.int .i64 21))]),
  nn (.v 16) (.mv false (.c (.v (.int .i64 0))))]).seq (PC.block 0 (PC.loop [0,2,4,15,16] lp102_0))).seq ((PC.reg [mm 26 0,nn (.t 27) (.call 98
  [.t 26]),nn (.t 28) (.fadr 5 36 (.v 4)),nn .no (.store 32 (.t 28) (.t 27))]).seq (((PC.reg [mm 29 0,nn (.t 30) (.call 121 [.t 29]),nn (.t 31)
  (.mv false (.t 30)),⟨.t 32,.load 68 true (.v 4),some (.t 31,false)⟩,⟨.t 33,.call 117 [.t 32],some (.t 31,false)⟩,⟨.t 34,.un .not (.t 33),
  some (.t 31,false)⟩,nn (.t 35) (.pick (.t 31) (.c (.v (.bool true))) (.t 34))]).seq (PC.cond (.t 35) ((PC.reg [nn (.t 36) (.build (.agg [.int .i64
  0,.int .i64 0,.int .i64 0,.arr .u8 32 zz2,.nils,
  .arr .u8 32 zz2]) []),nn .no (.store 68 (.v 2) (.t
  36)),nn (.v 3) (.mv true (.c (.v (.bool false))))]).seq PC.ret) PC.skip)).seq ((PC.reg [nn (.t 37) (.load 68 true (.v 4)),nn .no (.store 68 (.v 2)
  (.t 37)),nn (.v 3) (.mv true (.c (.v (.bool true))))]).seq PC.ret)))))) [(.v 2,some (68,true)),(.v 3,none)]
def rdV (r:List Int) (w:Bool):V:= .agg [.sli .u8 r,.bool w]
def ZPu:Spec1
 |[x,y],G,Q=>∃(b:List Int) (a:AccS),(byV x=some b∧b.length < 100000000∧y=a.v∧a.wf∧a.fr.length < 1000000)∧Q (.own (.sli .u8 (if a.may=true then b++a.bytes else b))) G
 |_,_,_=>False
theorem ZPu_eq {x y}:ZPu [x,y] G Q=(∃(b:List Int) (a:AccS),(byV x=some b∧b.length < 100000000∧y=a.v∧a.wf∧a.fr.length < 1000000)∧Q (.own (.sli .u8 (if a.may=true then b++a.bytes else b))) G):=rfl
def ZBy:Spec1
 |[y],G,Q=>∃(a:AccS),(y=a.v∧a.wf∧a.May)∧Q (.own (.sli .u8 a.bytes)) G
 |_,_,_=>False
theorem ZBy_eq {y}:ZBy [y] G Q=(∃(a:AccS),(y=a.v∧a.wf∧a.May)∧Q (.own (.sli .u8 a.bytes)) G):=rfl
def ZRd:Spec1
 |[.ptr id],G,Q=>∃b w0 a r w,(Abs.look G id=some (.agg [.sli .u8 b,.bool w0])∧Byt b∧b.length < 100000000000∧rdAccu (b,w0)=(a,r,w))∧Q (.tup [(accR a w).v,.bool (!w&&a.may)]) (Abs.upd G id (.agg [.sli .u8 r,.bool w]))
 |_,_,_=>False
theorem ZRd_eq {id}:ZRd [.ptr id] G Q=(∃b w0 a r w,(Abs.look G id=some (.agg [.sli .u8 b,.bool w0])∧Byt b∧b.length < 100000000000∧rdAccu (b,w0)=(a,r,w))∧Q (.tup [(accR a w).v,.bool (!w&&a.may)]) (Abs.upd G id (.agg [.sli .u8 r,.bool w]))):=rfl
theorem walk84 {b:List Int} {a:AccS} (hM:Abs.look l 117=some ZMa) (hC:Abs.look l 79=some SCl) (hN:Abs.look l 31=some SNu) (hT:Abs.look l 118=some ZTg) (hH:Abs.look l 82=some SHa)
  (hb:b.length < 100000000) (hw:a.wf) (hl:a.fr.length < 1000000) (h:Q (.own (.sli .u8 (if a.may=true then b++a.bytes else b))) G):Wf E (specOf l) pf84 [.sli .u8 b,a.v] G Q:=by
 obtain⟨a1,a2,a3,a4,fr,a6⟩:=a
 by_cases hm:AccS.May ⟨a1,a2,a3,a4,fr,a6⟩
 ·have hmay:AccS.may ⟨a1,a2,a3,a4,fr,a6⟩=true:=decide_eq_true hm
  obtain⟨m1,m2⟩:=hm.1
  dsimp only at m1 m2
  obtain⟨s1,s2⟩:=AccS.said_ok hw hm
  obtain⟨r1,n1⟩:=num_ok (n:=a1.toNat) (by omega)
  have w1:=u64_of (n:=a1) (by omega) (by omega)
  rw[if_pos hmay]at h
  unfold AccS.bytes at h
  simp -implicitDefEqProofs only[pf84,AccS.v,hM,ZMa_eq,go_sem,↓reduceIte]
  refine⟨fr,⟨.inl rfl,hw,hl⟩,?_⟩
  simp -implicitDefEqProofs only[hmay,hN,SNu_eq,w1,hT,ZTg_eq,hH,SHa_eq,go_sem,↓reduceIte]
  refine⟨b,⟨rfl,by omega,by omega,by omega⟩,_,fr,⟨byV_u8 _,by rw[List.length_append];omega,.inl rfl,hw,hm⟩,_,⟨byV_u8 _,by simp only[List.length_append];omega,hw.ta.2⟩,?_⟩
  simpa only[List.append_assoc]using h
 ·have hmay:AccS.may ⟨a1,a2,a3,a4,fr,a6⟩=false:=decide_eq_false hm
  rw[if_neg (by rw[hmay];exact Bool.false_ne_true)]at h
  simp -implicitDefEqProofs only[pf84,AccS.v,hM,ZMa_eq,go_sem,↓reduceIte]
  refine⟨fr,⟨.inl rfl,hw,hl⟩,?_⟩
  simp -implicitDefEqProofs only[hmay,hC,SCl_eq,go_sem,↓reduceIte]
  exact⟨b,⟨rfl,by omega⟩,h⟩
theorem walk55 {a:AccS} (hT:Abs.look l 105=some ZT1) (hB:Abs.look l 53=some SBy) (hw:a.wf) (hm:a.May) (h:Q (.own (.sli .u8 a.bytes)) G):Wf E (specOf l) pf55 [a.v] G Q:=by
 obtain⟨a1,a2,a3,a4,fr,a6⟩:=a
 obtain⟨m1,m2⟩:=hm.1
 dsimp only at m1 m2
 obtain⟨s1,s2⟩:=AccS.said_ok hw hm
 have l8:a6.length=32:=hw.ta.2
 have w1:IntKind.u8.wrap a1=a1:=by simp only[IntKind.wrap,IntKind.bits,IntKind.signed];simp;omega
 have en:num a1.toNat=[a1]:=by rw[num_small (by omega),show ((a1.toNat:Nat):Int)=a1 by omega]
 unfold AccS.bytes at h;dsimp only at h
 rw[en]at h
 simp -implicitDefEqProofs only[pf55,AccS.v,w1,hT,ZT1_eq,hB,SBy_eq,l8,go_sem,↓reduceIte]
 refine⟨fr,⟨.inl rfl,hw,hm⟩,?_⟩
 try simp -implicitDefEqProofs only[go_sem,↓reduceIte]
 exact⟨by omega,by omega,h⟩
theorem loop102 (hU:Abs.look l 48=some SUp) {QQ:Ex→St→Prop} {id k:Nat} {u0:V} {n1 n2 n3:Int} {n4 r5:List Int} {w5:Bool} {x0:Bx} (hid:Abs.look G id=some u0) (hb:Byt r5) (hl:r5.length < 100000000000) (hk:k≤21)
  (hx:∀ts G' x l2 r w,rdMany k (r5,w5)=(l2,r,w)→Row (Abs.upd G id (.agg [.sli .u8 r,.bool w])) G' 1 (.int .i64 0) x (l2.map (V.int .i64))→QQ (.exit 0) ⟨[some (.v (.ptr id)),none,some (.lp 0 []),none,some (.lp 1 []),none,none,none,none,none,none,none,none,none,none,some (.v (.int .i64 (k:Nat))),some (.v (.int .i64 (k:Nat)))],ts,[x0,⟨false,.agg [.int .i64 n1,.int .i64 n2,.int .i64 n3,.arr .u8 32 n4,x,.arr .u8 32 zz2]⟩],G'⟩):
  ∀(e j:Nat) (G':List (Nat×V)) (x:V) (l2 r:List Int) (w:Bool),j+e=k→rdMany j (r5,w5)=(l2,r,w)→Row (Abs.upd G id (.agg [.sli .u8 r,.bool w])) G' 1 (.int .i64 0) x (l2.map (V.int .i64))→
   WL (W E (specOf l) lp102_0) [0,2,4,15,16] QQ (e+1) ⟨[some (.v (.ptr id)),none,some (.lp 0 []),none,some (.lp 1 []),none,none,none,none,none,none,none,none,none,none,some (.v (.int .i64 (k:Nat))),some (.v (.int .i64 (j:Nat)))],[],[x0,⟨false,.agg [.int .i64 n1,.int .i64 n2,.int .i64 n3,.arr .u8 32 n4,x,.arr .u8 32 zz2]⟩],G'⟩:=by
 intro e
 induction e with
 |zero=>
  intro j G' x l2 r w hj he hrow
  obtain rfl:j=k:=by omega
  refine WL_in lp102_0.eq_1 ?_
  simp -implicitDefEqProofs only[Int.lt_irrefl,go_sem,↓reduceIte]
  exact hx _ _ _ _ _ _ he hrow
 |succ e ih=>
  intro j G' x l2 r w hj he hrow
  have c1:(j:Int) < (k:Int):=by omega
  have w1:IntKind.i64.wrap ((j:Int)+1)=((j+1:Nat):Int):=wc (by omega) (by omega)
  have many:=rdMany_all he hb
  have ml:=many.len
  rcases e1:rdUpto 21 (r,w)with⟨n,r2,w2⟩
  have he2:rdMany (j+1) (r5,w5)=(l2++[n],r2,w2):=by rw[rdMany_snoc,he];simp only[e1]
  have hl1:=look_upd_same (z:=V.agg [.sli .u8 r,.bool w]) hid
  have hG':=hrow.1 id _ hl1
  have hrow2:=hrow.upd (y:= .agg [.sli .u8 r2,.bool w2]) hl1
  rw[upd_upd]at hrow2
  obtain⟨x1,x2⟩:=hrow.one
  unfold V.isAgg at x2
  refine WL_in lp102_0.eq_1 ?_
  simp -implicitDefEqProofs only[c1,x1,x2,hU,SUp_eq,go_sem,↓reduceIte]
  refine⟨r,w,n,r2,w2,⟨hG',many.byt,by omega,e1⟩,?_⟩
  refine Row.app (G0:=Abs.upd G id (.agg [.sli .u8 r2,.bool w2])) (sz:=1) (z:= .int .i64 0) (y:= .int .i64 n) (els:=l2.map (V.int .i64)) hrow2 (by rw[List.length_map,many.cnt];omega) ⟨rfl,rfl⟩ rfl (fun u hu=> ?_) (fun x' G2 hr2=> ?_)
  ·obtain⟨q,_,rfl⟩:=List.mem_map.1 hu;exact⟨rfl,rfl⟩
  ·obtain⟨y1,y2⟩:=hr2.one
   unfold V.isAgg at y2
   have yl:=hrow.like hr2
   simp -implicitDefEqProofs only[w1,x1,x2,y1,y2,yl,go_sem,↓reduceIte]
   refine ih (j+1) G2 x' (l2++[n]) r2 w2 (by omega) he2 ?_
   rw[List.map_append];exact hr2
theorem walk102 {id:Nat} {w0:Bool} {b r:List Int} {a:AccS} {w:Bool} (hU:Abs.look l 48=some SUp) (hH:Abs.look l 98=some SHs) (hO:Abs.look l 121=some SOff) (hM:Abs.look l 117=some ZMa)
  (hG:Abs.look G id=some (.agg [.sli .u8 b,.bool w0])) (hb:Byt b) (hl:b.length < 100000000000) (he:rdAccu (b,w0)=(a,r,w))
  (h:Q (.tup [(accR a w).v,.bool (!w&&a.may)]) (Abs.upd G id (.agg [.sli .u8 r,.bool w]))):Wf E (specOf l) pf102 [.ptr id] G (fun r G'=>∃r2 G2,Low G r G' r2 G2∧Q r2 G2):=by
 rcases e1:rdUpto 21 (b,w0)with⟨n1,r1,w1⟩
 rcases e2:rdUpto 1099511627776 (r1,w1)with⟨n2,r2,w2⟩
 rcases e3:rdUpto 1099511627776 (r2,w2)with⟨n3,r3,w3⟩
 rcases e4:rdHash (r3,w3)with⟨n4,r4,w4⟩
 rcases e5:rdUpto 21 (r4,w4)with⟨n5,r5,w5⟩
 rcases e6:rdMany n5.toNat (r5,w5)with⟨n6,r6,w6⟩
 rcases e7:rdHash (r6,w6)with⟨n7,r7,w7⟩
 obtain⟨z11,z12,_,_,⟨u1,z15⟩,_⟩:=rdUpto_all e1 hb (by omega)
 obtain⟨z21,z22,_,_,⟨u2,z25⟩,_⟩:=rdUpto_all e2 z11 (by omega)
 obtain⟨z31,z32,_,_,⟨u3,z35⟩,_⟩:=rdUpto_all e3 z21 (by omega)
 obtain⟨z41,z42,_,⟨u4,z45⟩,_⟩:=rdHash_all e4 z31
 obtain⟨z51,z52,z53,z54,⟨u5,z55⟩,_⟩:=rdUpto_all e5 z41 (by omega)
 have many:=rdMany_all e6 z51
 have mlen:=many.len
 obtain⟨z71,z72,_,⟨u7,z75⟩,_⟩:=rdHash_all e7 many.byt
 have eA:rdAccu (b,w0)=(⟨n1,n2,n3,n4,n6,n7⟩,r7,w7):=by simp only[rdAccu,e1,e2,e3,e4,e5,e6,e7]
 have ok:=rdAccu_all eA hb
 rw[eA]at he
 simp only[Prod.mk.injEq]at he
 obtain⟨rfl,rfl,rfl⟩:=he
 obtain⟨k,hk⟩:∃k:Nat,n5=(k:Int):=⟨n5.toNat,by omega⟩
 rw[hk,Int.toNat_natCast]at e6
 have hk21:k≤21:=by omega
 have g:∀x,Abs.look (Abs.upd G id x) id=some x:=fun x=>look_upd_same hG
 simp -implicitDefEqProofs only[pf102,hU,SUp_eq,hH,SHs_eq,g,go_sem,↓reduceIte]
 refine⟨b,w0,n1,r1,w1,⟨hG,hb,by omega,e1⟩,r1,w1,n2,r2,w2,⟨rfl,z11,by omega,e2⟩,r2,w2,n3,r3,w3,⟨rfl,z21,by omega,e3⟩,r3,w3,n4,r4,w4,⟨rfl,z31,by omega,e4⟩,?_⟩
 refine⟨r4,w4,n5,r5,w5,⟨rfl,z41,by omega,e5⟩,k+1,?_⟩
 rw[hk]
 try simp -implicitDefEqProofs only[go_sem,↓reduceIte]
 refine loop102 (k:=k) (r5:=r5) (w5:=w5) hU hG z51 (by omega) hk21 (fun ts G' x l2 r w hm hrow=> ?_) k 0 _ .nils [] r5 w5 (by omega) rfl (Row.nil (Ext.refl _))
 rw[e6]at hm
 simp only[Prod.mk.injEq]at hm
 obtain⟨rfl,rfl,rfl⟩:=hm
 have hl1:=g (V.agg [.sli .u8 r6,.bool w6])
 have hG':=hrow.1 id _ hl1
 have hrow2:=hrow.upd (y:= .agg [.sli .u8 r7,.bool w7]) hl1
 rw[upd_upd]at hrow2
 obtain⟨x1,x2⟩:=hrow.one
 unfold V.isAgg at x2
 have xn:x.same .nils=true:=(Row.nil (z:=(.int .i64 0:V)) (sz:=1) (Ext.refl G)).like hrow
 have hG2:=hrow2.1 id _ (g (V.agg [.sli .u8 r7,.bool w7]))
 simp -implicitDefEqProofs only[x1,x2,xn,hH,SHs_eq,go_sem,↓reduceIte]
 refine⟨r6,w6,n7,r7,w7,⟨hG',many.byt,by omega,e7⟩,?_⟩
 generalize Abs.upd G' id (.agg [.sli .u8 r7,.bool w7])=GG at hrow2 hG2⊢
 simp -implicitDefEqProofs only[x1,x2,xn,hO,SOff_eq,go_sem,↓reduceIte]
 refine⟨r7,w7,hG2,?_⟩
 cases w7 with
 |true=>
  simp -implicitDefEqProofs only[go_sem,↓reduceIte]
  exact⟨_,_,(low_accu (els:=[]) (z:= .int .i64 0) (Row.nil hrow2.1)).upd hG rfl,h⟩
 |false=>
  have nl:n6.length < 1000000:=by have:=ok.cnt;dsimp only at this;omega
  simp -implicitDefEqProofs only[hM,ZMa_eq,go_sem,↓reduceIte]
  refine⟨n6,⟨frv_row hrow2,ok.wf,nl⟩,?_⟩
  cases hq:AccS.may ⟨n1,n2,n3,n4,n6,n7⟩with
  |false=>
   simp -implicitDefEqProofs only[go_sem,↓reduceIte]
   rw[accR,hq]at h
   exact⟨_,_,(low_accu (els:=[]) (z:= .int .i64 0) (Row.nil hrow2.1)).upd hG rfl,h⟩
  |true=>
   simp -implicitDefEqProofs only[x1,x2,xn,go_sem,↓reduceIte]
   rw[accR,hq]at h
   exact⟨_,_,(low_accu hrow2).upd hG rfl,h⟩
end Go.Proofs.Ytegamlopcdjiaaa.Sha
namespace Go.Abs
open Go Go.RowKit
set_option linter.unusedVariables false
set_option linter.unusedSimpArgs false
namespace Sha
theorem byS_len {s:ByteArray}:(byS s).length=s.size:=by simp[byS]
theorem byS_byt {s:ByteArray}:Byt (byS s):=fun x hx=>by
 unfold byS at hx
 obtain⟨b,_,rfl⟩:=List.mem_map.1 hx
 have:=b.toNat_lt
 omega
theorem stS_byS {s:ByteArray}:stS (byS s)=s:=by
 apply ByteArray.ext
 apply Array.toList_inj.1
 show (List.map _ (List.map _ _))=_
 rw[List.map_map]
 refine (List.map_congr_left (g:=id) fun b _=> ?_).trans (List.map_id _)
 simp
theorem byS_stS {xs:List Int} (h:Byt xs):byS (stS xs)=xs:=by
 show List.map _ (List.map _ xs)=xs
 rw[List.map_map]
 refine (List.map_congr_left (g:=id) fun n hn=> ?_).trans (List.map_id _)
 have:=h n hn
 show ((UInt8.ofNat n.toNat).toNat:Int)=n
 rw[UInt8.toNat_ofNat']
 omega
theorem stS_size {xs:List Int}:(stS xs).size=xs.length:=by
 show (List.map _ xs).length=_
 rw[List.length_map]
theorem stS_inj {a b:List Int} (ha:Byt a) (hb:Byt b) (h:stS a=stS b):a=b:=by rw[←byS_stS ha,h,byS_stS hb]
abbrev nos:ByteArray:=⟨⟨[]⟩⟩
theorem loop_toList (s:ByteArray):∀(k i:Nat) (r:List UInt8),s.size-i=k→ByteArray.toList.loop s i r=r.reverse++s.data.toList.drop i:=by
 intro k
 induction k with
 |zero=>
  intro i r hk
  rw[ByteArray.toList.loop,if_neg (by omega),List.drop_eq_nil_of_le (by show s.size≤i;omega),List.append_nil]
 |succ k ih=>
  intro i r hk
  have hi:i < s.size:=by omega
  rw[ByteArray.toList.loop,if_pos hi,ih (i+1) _ (by omega)]
  have hi2:i < s.data.toList.length:=hi
  rw[List.drop_eq_getElem_cons hi2]
  simp[ByteArray.get!]
  rw[Array.getElem!_eq_getD,Array.getD_eq_getD_getElem?]
  have:s.data[i]? =some (s.data[i]'hi):=Array.getElem?_eq_getElem hi
  rw[this];rfl
theorem bs_toList (s:ByteArray):s.toList=s.data.toList:=by
 unfold ByteArray.toList
 rw[loop_toList s _ 0 [] rfl];simp
theorem bs_eq {a b:ByteArray}:(a.toList==b.toList)=decide (a=b):=by
 rw[Bool.eq_iff_iff,beq_iff_eq,decide_eq_true_iff,bs_toList,bs_toList]
 refine⟨fun h=> ?_,fun h=>by rw[h]⟩
 apply ByteArray.ext;exact Array.toList_inj.1 h
def txt (b:List Int):List Int:=num b.length++b
def rdText (s:Rd):List Int×Rd:=if s.2=true then ([],s)else if (rdUpto 65536 s).2.2=true∨((rdUpto 65536 s).2.1.length:Int) < (rdUpto 65536 s).1 then ([],(s.1,true))else
 ((rdUpto 65536 s).2.1.take (rdUpto 65536 s).1.toNat,((rdUpto 65536 s).2.1.drop (rdUpto 65536 s).1.toNat,false))
theorem rdText_all {t b r:List Int} {w w':Bool} (e:rdText (b,w)=(t,r,w')) (hb:Byt b):Byt r∧r.length≤b.length∧Byt t∧t.length≤b.length∧(∃u,b=u++r):=by
 rcases e1:rdUpto 65536 (b,w)with⟨n1,r1,w1⟩
 obtain⟨a1,a2,a3,a4,⟨u1,a5⟩,_⟩:=rdUpto_all e1 hb (by omega)
 unfold rdText at e
 simp only[e1]at e
 split at e
 ·cases e;exact⟨hb,Nat.le_refl _,byt_nil,Nat.zero_le _,[],rfl⟩
 ·split at e
  ·cases e;exact⟨hb,Nat.le_refl _,byt_nil,Nat.zero_le _,[],rfl⟩
  ·cases e
   refine⟨byt_drop a1 _,by rw[List.length_drop];omega,byt_take a1 _,by rw[List.length_take];omega,u1++r1.take n1.toNat,?_⟩
   rw[List.append_assoc,List.take_append_drop,←a5]
theorem rdText_of {t r:List Int} (hl:t.length≤65536):rdText (txt t++r,false)=(t,(r,false)):=by
 unfold rdText txt
 have e:=rdUpto_of (top:=65536) (n:=t.length) (r:=t++r) (by omega) (by omega)
 rw[List.append_assoc]
 simp only[e,Bool.false_eq_true,if_false,false_or]
 rw[if_neg (by rw[List.length_append];omega)]
 simp
structure TxS where
 fr:Int
 no:Int
 ki:Int
 to:Int
 am:Int
 key:ByteArray
 val:ByteArray
deriving DecidableEq
def TxS.v (t:TxS):V:= .agg [.int .i64 t.fr,.int .i64 t.no,.int .i64 t.ki,.int .i64 t.to,.int .i64 t.am,.str t.key,.str t.val]
def TxS.zero:TxS:=⟨0,0,0,0,0,nos,nos⟩
def chOk (c:Int):Prop:=(97≤c∧c≤122)∨(48≤c∧c≤57)
instance (c:Int):Decidable (chOk c):=by unfold chOk;infer_instance
def KeyOk (b:List Int):Prop:=(∀c∈b,chOk c)∧1≤b.length∧b.length≤16
instance (b:List Int):Decidable (KeyOk b):=by unfold KeyOk;infer_instance
def TxS.May (t:TxS):Prop:=(1≤t.fr∧t.fr≤40)∧(1≤t.no∧t.no≤1099511627776)∧
 ((t.ki=1∧(1≤t.to∧t.to≤40)∧(0≤t.am∧t.am≤1099511627776)∧t.key=nos∧t.val=nos)∨
  (t.ki=2∧t.to=0∧t.am=0∧KeyOk (byS t.key)∧t.val.size≤200)∨
  (t.ki=3∧t.to=0∧t.am=0∧KeyOk (byS t.key)∧t.val=nos))
instance (t:TxS):Decidable t.May:=by unfold TxS.May;infer_instance
def TxS.may (t:TxS):Bool:=decide t.May
def TxS.bytes (t:TxS):List Int:=num t.fr.toNat++num t.no.toNat++num t.ki.toNat++
 (if t.ki=1 then num t.to.toNat++num t.am.toNat else txt (byS t.key)++(if t.ki=2 then txt (byS t.val)else []))
def txR (t:TxS) (w:Bool):TxS:=if (!w&&t.may)=true then t else .zero
def rdTx (s:Rd):TxS×Rd:=
 let p1:=rdUpto 40 s
 let p2:=rdUpto 1099511627776 p1.2
 let p3:=rdUpto 3 p2.2
 if p3.1=1 then
  let p4:=rdUpto 40 p3.2
  let p5:=rdUpto 1099511627776 p4.2
  (⟨p1.1,p2.1,p3.1,p4.1,p5.1,nos,nos⟩,p5.2)
 else if p3.1=2 then
  let p4:=rdText p3.2
  let p5:=rdText p4.2
  (⟨p1.1,p2.1,p3.1,0,0,stS p4.1,stS p5.1⟩,p5.2)
 else if p3.1=3 then
  let p4:=rdText p3.2
  (⟨p1.1,p2.1,p3.1,0,0,stS p4.1,nos⟩,p4.2)
 else (⟨p1.1,p2.1,p3.1,0,0,nos,nos⟩,p3.2)
structure RdTx (b:List Int) (t:TxS) (r:List Int):Prop where
 byt:Byt r
 len:r.length≤b.length
 suf:∃u,b=u++r
 key:t.key.size≤b.length
 val:t.val.size≤b.length
 fr:0≤t.fr∧t.fr≤40
 no:0≤t.no∧t.no≤1099511627776
 ki:0≤t.ki∧t.ki≤3
 to:0≤t.to∧t.to≤40
 am:0≤t.am∧t.am≤1099511627776
theorem rdTx_all {b r:List Int} {w w':Bool} {t:TxS} (e:rdTx (b,w)=(t,r,w')) (hb:Byt b):RdTx b t r:=by
 unfold rdTx at e
 rcases e1:rdUpto 40 (b,w)with⟨n1,r1,w1⟩
 rcases e2:rdUpto 1099511627776 (r1,w1)with⟨n2,r2,w2⟩
 rcases e3:rdUpto 3 (r2,w2)with⟨n3,r3,w3⟩
 simp only[e1,e2,e3]at e
 obtain⟨a1,a2,a3,a4,⟨u1,a5⟩,_⟩:=rdUpto_all e1 hb (by omega)
 obtain⟨b1,b2,b3,b4,⟨u2,b5⟩,_⟩:=rdUpto_all e2 a1 (by omega)
 obtain⟨c1,c2,c3,c4,⟨u3,c5⟩,_⟩:=rdUpto_all e3 b1 (by omega)
 have hn:nos.size≤b.length:=Nat.zero_le _
 have z40:(0:Int)≤0∧(0:Int)≤40:=by decide
 have zn:(0:Int)≤0∧(0:Int)≤1099511627776:=by decide
 split at e
 ·rcases e4:rdUpto 40 (r3,w3)with⟨n4,r4,w4⟩
  rcases e5:rdUpto 1099511627776 (r4,w4)with⟨n5,r5,w5⟩
  simp only[e4,e5]at e;cases e
  obtain⟨d1,d2,d3,d4,⟨u4,d5⟩,_⟩:=rdUpto_all e4 c1 (by omega)
  obtain⟨f1,f2,f3,f4,⟨u5,f5⟩,_⟩:=rdUpto_all e5 d1 (by omega)
  exact⟨f1,by omega,⟨u1++u2++u3++u4++u5,by simp only[List.append_assoc];rw[←f5,←d5,←c5,←b5,←a5]⟩,hn,hn,⟨a3,a4⟩,⟨b3,b4⟩,⟨c3,c4⟩,⟨d3,d4⟩,⟨f3,f4⟩⟩
 ·split at e
  ·rcases e4:rdText (r3,w3)with⟨n4,r4,w4⟩
   rcases e5:rdText (r4,w4)with⟨n5,r5,w5⟩
   simp only[e4,e5]at e;cases e
   obtain⟨d1,d2,d3,d4,⟨u4,d5⟩⟩:=rdText_all e4 c1
   obtain⟨f1,f2,f3,f4,⟨u5,f5⟩⟩:=rdText_all e5 d1
   exact⟨f1,by omega,⟨u1++u2++u3++u4++u5,by simp only[List.append_assoc];rw[←f5,←d5,←c5,←b5,←a5]⟩,by show (stS n4).size≤_;rw[stS_size];omega,by show (stS n5).size≤_;rw[stS_size];omega,⟨a3,a4⟩,⟨b3,b4⟩,⟨c3,c4⟩,z40,zn⟩
  ·split at e
   ·rcases e4:rdText (r3,w3)with⟨n4,r4,w4⟩
    simp only[e4]at e;cases e
    obtain⟨d1,d2,d3,d4,⟨u4,d5⟩⟩:=rdText_all e4 c1
    exact⟨d1,by omega,⟨u1++u2++u3++u4,by simp only[List.append_assoc];rw[←d5,←c5,←b5,←a5]⟩,by show (stS n4).size≤_;rw[stS_size];omega,hn,⟨a3,a4⟩,⟨b3,b4⟩,⟨c3,c4⟩,z40,zn⟩
   ·cases e
    exact⟨c1,by omega,⟨u1++u2++u3,by simp only[List.append_assoc];rw[←c5,←b5,←a5]⟩,hn,hn,⟨a3,a4⟩,⟨b3,b4⟩,⟨c3,c4⟩,z40,zn⟩
theorem txt_ok {b:List Int} (hb:Byt b) (hl:b.length≤65536):Byt (txt b)∧(txt b).length≤b.length+10:=by
 obtain⟨h1,h2⟩:=num_ok (n:=b.length) (by omega)
 exact⟨byt_app h1 hb,by unfold txt;rw[List.length_append];omega⟩
theorem TxS.bytes_ok {t:TxS} (h:t.May):Byt t.bytes∧t.bytes.length≤300∧0 < t.bytes.length:=by
 obtain⟨⟨a1,a2⟩,⟨b1,b2⟩,h⟩:=h
 obtain⟨f1,f2⟩:=num_ok (n:=t.fr.toNat) (by omega)
 obtain⟨g1,g2⟩:=num_ok (n:=t.no.toNat) (by omega)
 have p1:=num_pos t.fr.toNat
 have kk:0≤t.ki∧t.ki≤3:=by omega
 obtain⟨k1,k2⟩:=num_ok (n:=t.ki.toNat) (by omega)
 unfold TxS.bytes
 rcases h with⟨e1,c,d,_,_⟩|⟨e1,_,_,⟨_,k3,k4⟩,v⟩|⟨e1,_,_,⟨_,k3,k4⟩,_⟩
 ·obtain⟨x1,x2⟩:=num_ok (n:=t.to.toNat) (by omega)
  obtain⟨y1,y2⟩:=num_ok (n:=t.am.toNat) (by omega)
  rw[if_pos e1]
  refine⟨byt_app (byt_app (byt_app f1 g1) k1) (byt_app x1 y1),?_,?_⟩<;>simp only[List.length_append]<;>omega
 ·obtain⟨x1,x2⟩:=txt_ok (b:=byS t.key) byS_byt (by omega)
  obtain⟨y1,y2⟩:=txt_ok (b:=byS t.val) byS_byt (by rw[byS_len];omega)
  rw[byS_len]at y2
  rw[if_neg (by omega),if_pos e1]
  refine⟨byt_app (byt_app (byt_app f1 g1) k1) (byt_app x1 y1),?_,?_⟩<;>simp only[List.length_append]<;>omega
 ·obtain⟨x1,x2⟩:=txt_ok (b:=byS t.key) byS_byt (by omega)
  rw[if_neg (by omega),if_neg (by omega),List.append_nil]
  refine⟨byt_app (byt_app (byt_app f1 g1) k1) x1,?_,?_⟩<;>simp only[List.length_append]<;>omega
theorem rdTx_of {t:TxS} {r:List Int} (h:t.May):rdTx (t.bytes++r,false)=(t,(r,false)):=by
 obtain⟨⟨a1,a2⟩,⟨b1,b2⟩,h⟩:=h
 have T:∀{n top:Int} {r:List Int},0≤n→n≤top→n≤1099511627776→rdUpto top (num n.toNat++r,false)=(n,(r,false)):=by
  intro n top r h1 h2 h3
  have:=rdUpto_of (top:=top) (n:=n.toNat) (r:=r) (by omega) (by omega)
  rw[this,show ((n.toNat:Nat):Int)=n by omega]
 obtain⟨fr,no,ki,to,am,key,val⟩:=t
 dsimp only at*
 unfold rdTx TxS.bytes
 simp only[List.append_assoc]
 rw[T (by omega) (by omega) (by omega)];simp only
 rw[T (by omega) (by omega) (by omega)];simp only
 rw[T (by omega) (by omega) (by omega)];simp only
 rcases h with⟨e1,c,d,rfl,rfl⟩|⟨e1,rfl,rfl,⟨_,k3,k4⟩,v⟩|⟨e1,rfl,rfl,⟨_,k3,k4⟩,rfl⟩
 ·subst e1
  simp only[if_true,List.append_assoc]
  rw[T (by omega) (by omega) (by omega)];simp only
  rw[T (by omega) (by omega) (by omega)]
 ·subst e1
  rw[if_neg (by decide),if_pos rfl,if_neg (by decide),if_pos rfl]
  simp only[List.append_assoc]
  rw[rdText_of (by omega)];simp only
  rw[rdText_of (by rw[byS_len];omega),stS_byS,stS_byS]
 ·subst e1
  rw[if_neg (by decide),if_neg (by decide),if_pos rfl,if_neg (by decide),if_neg (by decide)]
  simp only[List.append_assoc,List.nil_append]
  rw[rdText_of (by omega),stS_byS]
end Sha
end Go.Abs
