/- Laws over plain values, and what functions of the program hand back; no conditions. -/
import Derived.Test.YtegamlopcdjiaaaG8
import Derived.Test.YtegamlopcdjiaaaG5
namespace Go.Proofs.Ytegamlopcdjiaaa.Sha
open Go Go.Abs Go.Abs.Sha Go.Abs.Srt
set_option linter.unusedSimpArgs false
set_option linter.unusedVariables false
set_option maxRecDepth 100000
def lp92_0:PC:=
 (PC.reg [nn (.t 14) (.bin .lss (.v 13) (.v 12))]).seq ((PC.cond (.t 14) PC.skip (PC.exit 0)).seq ((PC.block 1 ((PC.reg [nn (.t 15) (.mv true (.v 13)),
  ma 5 15]).seq ((PC.regD 0 [mm 16 0,mm 17 5,nn (.t 18) (.iadrS 1 (.t 16) (.t 17)),nn (.t 19) (.load 1 false (.t 18)),mm 20 1,mm 21 5,nn (.t 22)
  (.iadrS 1 (.t 20) (.t 21)),nn (.t 23) (.load 1 false (.t 22)),nn (.t 24) (.bin .neq (.t 19) (.t 23))] []).seq (PC.cond (.t 24) ((PC.reg [nn (.v 4)
  (.mv true (.c (.v (.bool false))))]).seq PC.ret) PC.skip)))).seq (PC.reg [nn (.t 25) (.bin .add (.v 13) (.c (.v (.int .i64 1)))),nn (.v 13) (.mv
  false (.t 25))])))
def pf92:PF:=
 PF.mk 2 14 26 ((PC.reg [nn (.v 4) (.mv true (.c (.v (.bool false))))]).seq (((PC.reg [nn (.v 6) (.mv false (.v 0)),nn (.v 7) (.len (.v 6)),nn (.v 8)
  (.mv false (.v 1)),nn (.v 9) (.len (.v 8)),nn (.v 10) (.bin .neq (.v 7) (.v 9))]).seq (PC.cond (.v 10) ((PC.reg [nn (.v 4) (.mv true (.c (.v (.bool
  false))))]).seq PC.ret) PC.skip)).seq (((PC.reg [nn (.v 11) (.mv false (.v 0)),nn (.v 12) (.len (.v 11)),nn (.v 13) (.mv false (.c (.v (.int .i64
  0))))]).seq (PC.block 0 (PC.loop [0,1,12,13] lp92_0))).seq ((PC.reg [nn (.v 4) (.mv true (.c (.v (.bool true))))]).seq PC.ret)))) [(.v 4,none)]
def pf42:PF:=
 PF.mk 2 5 45 ((PC.reg [nn (.v 2) (.box (.v 0)),nn (.v 3) (.box (.v 1)),nn (.v 4) (.mv true (.c (.v (.bool false))))]).seq ((PC.reg [nn (.t 5) (.fadr
  0 0 (.v 2)),nn (.t 6) (.load 1 false (.t 5)),nn (.t 7) (.fadr 0 0 (.v 3)),nn (.t 8) (.load 1 false (.t 7)),nn (.t 9) (.bin .eql (.t 6) (.t 8)),
  nn (.t 10) (.mv false (.t 9)),⟨.t 11,.fadr 1 1 (.v 2),some (.t 10,true)⟩,⟨.t 12,.load 1 false (.t 11),some (.t 10,true)⟩,⟨.t 13,.fadr 1 1
  (.v 3),some (.t 10,true)⟩,⟨.t 14,.load 1 false (.t 13),some (.t 10,true)⟩,⟨.t 15,.bin .eql (.t 12) (.t 14),some (.t 10,true)⟩,nn (.t 16)
  (.pick (.t 10) (.t 15) (.c (.v (.bool false)))),nn (.t 17) (.mv false (.t 16)),⟨.t 18,.fadr 2 2 (.v 2),some (.t 17,true)⟩,⟨.t 19,.load 1 false
  (.t 18),some (.t 17,true)⟩,⟨.t 20,.fadr 2 2 (.v 3),some (.t 17,true)⟩,⟨.t 21,.load 1 false (.t 20),some (.t 17,true)⟩,⟨.t 22,.bin .eql
  (.t 19) (.t 21),some (.t 17,true)⟩,nn (.t 23) (.pick (.t 17) (.t 22) (.c (.v (.bool false)))),nn (.t 24) (.mv false (.t 23)),⟨.t 25,.fadr 3 3
  (.v 2),some (.t 24,true)⟩,⟨.t 26,.load 32 true (.t 25),some (.t 24,true)⟩,⟨.t 27,.fadr 3 3 (.v 3),some (.t 24,true)⟩,⟨.t 28,.load 32 true
  (.t 27),some (.t 24,true)⟩,⟨.t 29,.eqa false (.arr 32) (.t 26) (.t 28),some (.t 24,true)⟩,nn (.t 30) (.pick (.t 24) (.t 29) (.c (.v (.bool
  false)))),nn (.t 31) (.mv false (.t 30)),⟨.t 32,.fadr 4 35 (.v 2),some (.t 31,true)⟩,⟨.t 33,.load 1 false (.t 32),some (.t 31,true)⟩,⟨.t
  34,.fadr 4 35 (.v 3),some (.t 31,true)⟩,⟨.t 35,.load 1 false (.t 34),some (.t 31,true)⟩,⟨.t 36,.call 92 [.t 33,.t 35],some (.t 31,true)⟩,
  nn (.t 37) (.pick (.t 31) (.t 36) (.c (.v (.bool false)))),nn (.t 38) (.mv false (.t 37)),⟨.t 39,.fadr 5 36 (.v 2),some (.t 38,true)⟩,⟨.t 40,
  .load 32 true (.t 39),some (.t 38,true)⟩,⟨.t 41,.fadr 5 36 (.v 3),some (.t 38,true)⟩,⟨.t 42,.load 32 true (.t 41),some (.t 38,true)⟩,⟨.t
  43,.eqa false (.arr 32) (.t 40) (.t 42),some (.t 38,true)⟩,nn (.t 44) (.pick (.t 38) (.t 43) (.c (.v (.bool false)))),ma 4 44]).seq PC.ret))
  [(.v 4,none)]
def lp35_0:PC:=
 ((PC.reg [mm 4 3,nn (.t 5) (.fadr 4 35 (.v 1)),nn (.t 6) (.load 1 false (.t 5)),nn (.t 7) (.len (.t 6)),nn (.t 8) (.bin .lss (.t 4) (.t 7))]).seq
  (PC.cond (.t 8) PC.skip (PC.exit 0))).seq ((PC.block 1 ((PC.regD 0 [nn (.t 11) (.fadr 4 35 (.v 1)),nn (.t 12) (.load 1 false (.t 11)),mm 13 3,nn
  (.t 14) (.iadrS 1 (.t 12) (.t 13)),nn (.t 15) (.load 1 false (.t 14)),nn (.t 16) (.bin .lss (.t 15) (.c (.v (.int .i64 1)))),nn (.t 17) (.mv false
  (.t 16)),⟨.t 18,.fadr 4 35 (.v 1),some (.t 17,false)⟩,⟨.t 19,.load 1 false (.t 18),some (.t 17,false)⟩,gm 20 3 17 false,⟨.t 21,.iadrS 1
  (.t 19) (.t 20),some (.t 17,false)⟩,⟨.t 22,.load 1 false (.t 21),some (.t 17,false)⟩,⟨.t 23,.bin .gtr (.t 22) (.c (.v (.int .i64 21))),some
  (.t 17,false)⟩,nn (.t 24) (.pick (.t 17) (.c (.v (.bool true))) (.t 23)),nn (.t 25) (.mv false (.t 24)),gm 26 3 25 false,⟨.t 27,.bin .gtr (.t
  26) (.c (.v (.int .i64 0))),some (.t 25,false)⟩,⟨.t 28,.mv false (.t 27),some (.t 25,false)⟩,⟨.t 29,.fadr 4 35 (.v 1),some (.t 28,true)⟩,
  ⟨.t 30,.load 1 false (.t 29),some (.t 28,true)⟩,gm 31 3 28 true,⟨.t 32,.bin .sub (.t 31) (.c (.v (.int .i64 1))),some (.t 28,true)⟩,⟨.t 33,
  .iadrS 1 (.t 30) (.t 32),some (.t 28,true)⟩,⟨.t 34,.load 1 false (.t 33),some (.t 28,true)⟩,⟨.t 35,.fadr 4 35 (.v 1),some (.t 28,true)⟩,
  ⟨.t 36,.load 1 false (.t 35),some (.t 28,true)⟩,gm 37 3 28 true,⟨.t 38,.iadrS 1 (.t 36) (.t 37),some (.t 28,true)⟩,⟨.t 39,.load 1 false (.t
  38),some (.t 28,true)⟩,⟨.t 40,.bin .geq (.t 34) (.t 39),some (.t 28,true)⟩,⟨.t 41,.pick (.t 28) (.t 40) (.c (.v (.bool false))),some (.t 25,
  false)⟩,nn (.t 42) (.pick (.t 25) (.c (.v (.bool true))) (.t 41))] []).seq (PC.cond (.t 42) ((PC.reg [nn (.v 2) (.mv true (.c (.v (.bool
  false))))]).seq PC.ret) PC.skip))).seq (PC.reg [mm 9 3,nn (.t 10) (.bin .add (.t 9) (.c (.v (.int .i64 1)))),ma 3 10]))
def pf35:PF:=
 PF.mk 1 4 79 ((PC.reg [nn (.v 1) (.box (.v 0)),nn (.v 2) (.mv true (.c (.v (.bool false))))]).seq (((PC.reg [nn (.v 3) (.mv true (.c (.v (.int .i64
  0))))]).seq (PC.block 0 (PC.loop [1,3] lp35_0))).seq ((PC.reg [nn (.t 43) (.fadr 0 0 (.v 1)),nn (.t 44) (.load 1 false (.t 43)),nn (.t 45) (.bin
  .geq (.t 44) (.c (.v (.int .i64 1)))),nn (.t 46) (.mv false (.t 45)),⟨.t 47,.fadr 0 0 (.v 1),some (.t 46,true)⟩,⟨.t 48,.load 1 false (.t 47),
  some (.t 46,true)⟩,⟨.t 49,.bin .leq (.t 48) (.c (.v (.int .i64 21))),some (.t 46,true)⟩,nn (.t 50) (.pick (.t 46) (.t 49) (.c (.v (.bool
  false)))),nn (.t 51) (.mv false (.t 50)),⟨.t 52,.fadr 1 1 (.v 1),some (.t 51,true)⟩,⟨.t 53,.load 1 false (.t 52),some (.t 51,true)⟩,⟨.t 54,
  .bin .geq (.t 53) (.c (.v (.int .i64 1))),some (.t 51,true)⟩,nn (.t 55) (.pick (.t 51) (.t 54) (.c (.v (.bool false)))),nn (.t 56) (.mv false (.t
  55)),⟨.t 57,.fadr 1 1 (.v 1),some (.t 56,true)⟩,⟨.t 58,.load 1 false (.t 57),some (.t 56,true)⟩,⟨.t 59,.bin .leq (.t 58) (.c (.v (.int .i64
  1099511627776))),some (.t 56,true)⟩,nn (.t 60) (.pick (.t 56) (.t 59) (.c (.v (.bool false)))),nn (.t 61) (.mv false (.t 60)),⟨.t 62,.fadr 2 2
  (.v 1),some (.t 61,true)⟩,⟨.t 63,.load 1 false (.t 62),some (.t 61,true)⟩,⟨.t 64,.bin .geq (.t 63) (.c (.v (.int .i64 0))),some (.t 61,
  true)⟩,nn (.t 65) (.pick (.t 61) (.t 64) (.c (.v (.bool false)))),nn (.t 66) (.mv false (.t 65)),⟨.t 67,.fadr 2 2 (.v 1),some (.t 66,true)⟩,
  ⟨.t 68,.load 1 false (.t 67),some (.t 66,true)⟩,⟨.t 69,.fadr 1 1 (.v 1),some (.t 66,true)⟩,⟨.t 70,.load 1 false (.t 69),some (.t 66,
  true)⟩,⟨.t 71,.bin .lss (.t 68) (.t 70),some (.t 66,true)⟩,nn (.t 72) (.pick (.t 66) (.t 71) (.c (.v (.bool false)))),nn (.t 73) (.mv false (.t
  72)),⟨.t 74,.fadr 4 35 (.v 1),some (.t 73,true)⟩,⟨.t 75,.load 1 false (.t 74),some (.t 73,true)⟩,⟨.t 76,.len (.t 75),some (.t 73,true)⟩,
  ⟨.t 77,.bin .geq (.t 76) (.c (.v (.int .i64 1))),some (.t 73,true)⟩,nn (.t 78) (.pick (.t 73) (.t 77) (.c (.v (.bool false)))),ma 2 78]).seq
  PC.ret))) [(.v 2,none)]
attribute [local irreducible] W Wops WopsD WL Wop WopD
variable {E:Env} {C:Abs.Spec} {l:List (Nat×Spec1)} {G:List (Nat×V)} {Q:R→List (Nat×V)→Prop}
set_option maxHeartbeats 1000000
def ZEi:Spec1
 |[.sli .i64 a,.sli .i64 b],G,Q=>(a.length < 1000000∧b.length < 1000000)∧Q (.v (.bool (decide (a=b)))) G
 |_,_,_=>False
theorem ZEi_eq {a b}:ZEi [.sli .i64 a,.sli .i64 b] G Q=((a.length < 1000000∧b.length < 1000000)∧Q (.v (.bool (decide (a=b)))) G):=rfl
theorem loop92 {QQ:Ex→St→Prop} {fa fb:List Int} (hll:fa.length=fb.length) (hl:fa.length < 1000000)
  (hx:∀(j:Nat) ts,fa=fb→QQ (.exit 0) ⟨[some (.v (.sli .i64 fa)),some (.v (.sli .i64 fb)),none,none,none,none,none,none,none,none,none,none,some (.v (.int .i64 (fa.length:Nat))),some (.v (.int .i64 (j:Nat)))],ts,[],G⟩) (hr:∀σ:St,σ.G=G→St.ev σ (.v 4)=some (.v (.bool false))→fa≠fb→QQ .ret σ):
  ∀(r r2:List Int) (j:Nat),fa.drop j=r→fb.drop j=r2→j≤fa.length→(fa=fb↔r=r2)→WL (W E C lp92_0) [0,1,12,13] QQ (r.length+1) ⟨[some (.v (.sli .i64 fa)),some (.v (.sli .i64 fb)),none,none,none,none,none,none,none,none,none,none,some (.v (.int .i64 (fa.length:Nat))),some (.v (.int .i64 (j:Nat)))],[],[],G⟩:=by
 intro r
 induction r with
 |nil=>
  intro r2 j h1 h0 h2 h3
  have:=drop_none h1
  have c1:¬(j:Int) < (fa.length:Int):=by omega
  refine WL_in lp92_0.eq_1 ?_
  simp -implicitDefEqProofs only[c1,go_sem,↓reduceIte]
  refine hx _ _ (h3.2 ?_)
  rw[←h0,List.drop_eq_nil_of_le (by omega)]
 |cons p r ih=>
  intro r2 j h1 h0 h2 h3
  obtain⟨hd,hj,hlen⟩:=drop_one h1
  obtain⟨p2,r2,rfl⟩:∃p2 r',r2=p2::r':=by
   cases r2 with
   |nil=>have:=drop_none h0;omega
   |cons p2 r2=>exact⟨_,_,rfl⟩
  obtain⟨hd2,hj2,hlen2⟩:=drop_one h0
  have g:=getD_at h1
  have g2:=getD_at h0
  have c1:(j:Int) < (fa.length:Int):=by omega
  have c3:(j:Int) < (fb.length:Int):=by omega
  have c2:(0:Int)≤(j:Int):=by omega
  have w1:IntKind.i64.wrap ((j:Int)+1)=((j+1:Nat):Int):=wc (by omega) (by omega)
  refine WL_in lp92_0.eq_1 ?_
  by_cases e:p=p2
  ·simp -implicitDefEqProofs only[c1,c2,c3,g,g2,w1,Int.toNat_natCast,e,go_sem,↓reduceIte]
   exact ih r2 (j+1) hd hd2 (by omega) (h3.trans (by rw[e];simp))
  ·simp -implicitDefEqProofs only[c1,c2,c3,g,g2,w1,Int.toNat_natCast,e,go_sem,↓reduceIte]
   exact hr _ rfl rfl fun h=>e (by have:=h3.1 h;simp at this;exact this.1)
theorem walk92 {fa fb:List Int} (hl:fa.length < 1000000) (hl2:fb.length < 1000000) (h:Q (.v (.bool (decide (fa=fb)))) G):Wf E C pf92 [.sli .i64 fa,.sli .i64 fb] G Q:=by
 by_cases q5:fa.length=fb.length
 case neg=>
  have q5':¬((fa.length:Nat):Int)=(fb.length:Nat):=by omega
  rw[decide_eq_false (fun e=>q5 (by rw[e]))]at h
  simp -implicitDefEqProofs only[pf92,q5',go_sem,↓reduceIte]
  exact h
 have q5':((fa.length:Nat):Int)=(fb.length:Nat):=by omega
 simp -implicitDefEqProofs only[pf92,q5',go_sem,↓reduceIte]
 rw[←q5]
 refine⟨fa.length+1,?_⟩
 refine loop92 q5 hl (fun j ts e=> ?_) (fun σ e1 e2 e3=> ?_) fa fb 0 rfl rfl (Nat.zero_le _) Iff.rfl
 ·rw[decide_eq_true e]at h
  simp -implicitDefEqProofs only[go_sem,↓reduceIte]
  exact h
 ·show resQ Q σ.G (rD (St.ev σ (.v 4)))
  rw[e1,e2]
  rw[decide_eq_false e3]at h
  exact h
theorem walk42 (hE:Abs.look l 92=some ZEi) {a b:AccS} (hl:a.fr.length < 1000000) (hl2:b.fr.length < 1000000) (h:Q (.v (.bool (sameA a b))) G):Wf E (specOf l) pf42 [a.v,b.v] G Q:=by
 obtain⟨a1,a2,a3,a4,fa,a6⟩:=a
 obtain⟨b1,b2,b3,b4,fb,b6⟩:=b
 have key:∀c:Bool,sameA ⟨a1,a2,a3,a4,fa,a6⟩ ⟨b1,b2,b3,b4,fb,b6⟩=c→Q (.v (.bool c)) G:=fun c e=>by rw[←e];exact h
 have no:¬(a1=b1∧a2=b2∧a3=b3∧a4=b4∧fa=fb∧a6=b6)→Q (.v (.bool false)) G:=fun e=>key _ (decide_eq_false e)
 simp -implicitDefEqProofs only[pf42,AccS.v,go_sem,↓reduceIte]
 by_cases q1:a1=b1
 case neg=>simp -implicitDefEqProofs only[q1,go_sem,↓reduceIte];exact no fun e=>q1 e.1
 by_cases q2:a2=b2
 case neg=>simp -implicitDefEqProofs only[q1,q2,go_sem,↓reduceIte];exact no fun e=>q2 e.2.1
 by_cases q3:a3=b3
 case neg=>simp -implicitDefEqProofs only[q1,q2,q3,go_sem,↓reduceIte];exact no fun e=>q3 e.2.2.1
 simp -implicitDefEqProofs only[q1,q2,q3,go_sem,↓reduceIte]
 by_cases q4:a4=b4
 case neg=>
  have q4':(a4==b4)=false:=by simpa using q4
  simp -implicitDefEqProofs only[q4',go_sem,↓reduceIte];exact no fun e=>q4 e.2.2.2.1
 have q4':(a4==b4)=true:=by simpa using q4
 simp -implicitDefEqProofs only[q4',hE,ZEi_eq,go_sem,↓reduceIte]
 refine⟨⟨hl,hl2⟩,?_⟩
 by_cases q5:fa=fb
 case neg=>
  simp -implicitDefEqProofs only[q5,go_sem,↓reduceIte];exact no fun e=>q5 e.2.2.2.2.1
 simp -implicitDefEqProofs only[q5,go_sem,↓reduceIte]
 refine key _ ?_
 unfold sameA
 rw[Bool.eq_iff_iff]
 simp[q1,q2,q3,q4,q5]
def ZM10:Spec1
 |[.agg [.int .i64 a1,.int .i64 a2,.int .i64 a3,.arr .u8 32 a4,x,.arr .u8 32 a6]],G,Q=>∃fr:List Int,(FrV G x fr∧(⟨a1,a2,a3,a4,fr,a6⟩:AccS).wf∧fr.length < 1000000)∧Q (.v (.bool (⟨a1,a2,a3,a4,fr,a6⟩:AccS).may)) G
 |_,_,_=>False
theorem ZM10_eq {a1 a2 a3 a4 x a6}:ZM10 [.agg [.int .i64 a1,.int .i64 a2,.int .i64 a3,.arr .u8 32 a4,x,.arr .u8 32 a6]] G Q=(∃fr:List Int,(FrV G x fr∧(⟨a1,a2,a3,a4,fr,a6⟩:AccS).wf∧fr.length < 1000000)∧Q (.v (.bool (⟨a1,a2,a3,a4,fr,a6⟩:AccS).may)) G):=rfl
theorem loop35i {QQ:Ex→St→Prop} {a1 a2 a3:Int} {a4 a6 fr:List Int} (hl:fr.length < 1000000)
  (hx:∀(j:Nat) ts,riseI 21 0 fr=true→QQ (.exit 0) ⟨[none,some (.lp 0 []),none,some (.v (.int .i64 (j:Nat)))],ts,[⟨false,.agg [.int .i64 a1,.int .i64 a2,.int .i64 a3,.arr .u8 32 a4,.sli .i64 fr,.arr .u8 32 a6]⟩],G⟩)
  (hr:∀σ:St,σ.G=G→St.ev σ (.v 2)=some (.v (.bool false))→riseI 21 0 fr=false→QQ .ret σ):
  ∀(r:List Int) (j:Nat) (low:Int),fr.drop j=r→j≤fr.length→((j=0∧low=0)∨(1≤j∧1≤low∧fr[j-1]? =some low))→riseI 21 0 fr=riseI 21 low r→WL (W E C lp35_0) [1,3] QQ (r.length+1) ⟨[none,some (.lp 0 []),none,some (.v (.int .i64 (j:Nat)))],[],[⟨false,.agg [.int .i64 a1,.int .i64 a2,.int .i64 a3,.arr .u8 32 a4,.sli .i64 fr,.arr .u8 32 a6]⟩],G⟩:=by
 intro r
 induction r with
 |nil=>
  intro j low h1 h2 hlow h3
  have:=drop_none h1
  have c1:¬(j:Int) < (fr.length:Int):=by omega
  refine WL_in lp35_0.eq_1 ?_
  simp -implicitDefEqProofs only[c1,go_sem,↓reduceIte]
  exact hx _ _ h3
 |cons p r ih=>
  intro j low h1 h2 hlow h3
  obtain⟨hd,hj,hlen⟩:=drop_one h1
  have hjp:=at_drop h1
  have g:=getD_at h1
  have c1:(j:Int) < (fr.length:Int):=by omega
  have c2:(0:Int)≤(j:Int):=by omega
  have w1:IntKind.i64.wrap ((j:Int)+1)=((j+1:Nat):Int):=wc (by omega) (by omega)
  have next:=fun (hlo:¬(p≤low∨21 < p))=>ih (j+1) p hd (by omega) (.inr ⟨by omega,by omega,by rw[Nat.add_sub_cancel];exact hjp⟩) (by rw[h3];exact if_neg hlo)
  have stop:=fun (hlo:p≤low∨21 < p)=>(by rw[h3];exact if_pos hlo:riseI 21 0 fr=false)
  refine WL_in lp35_0.eq_1 ?_
  by_cases r1:p < 1
  ·have r1p:¬1≤p:=by omega
   simp -implicitDefEqProofs only[c1,c2,g,w1,Int.toNat_natCast,r1,r1p,go_sem,↓reduceIte]
   skip
   exact hr _ rfl rfl (stop (by omega))
  have r1n:1≤p:=by omega
  by_cases r2:21 < p
  ·have r2p:¬p≤21:=by omega
   simp -implicitDefEqProofs only[c1,c2,g,w1,Int.toNat_natCast,r1,r1n,r2,r2p,go_sem,↓reduceIte]
   skip
   exact hr _ rfl rfl (stop (by omega))
  have r2n:p≤21:=by omega
  rcases hlow with⟨rfl,rfl⟩|⟨hj1,hlo1,hjl⟩
  ·have c1z:(0:Int) < (fr.length:Int):=by omega
   have c1y:¬(fr.length:Int)≤0:=by omega
   have w0:IntKind.i64.wrap ((0:Int)+1)=((0+1:Nat):Int):=by decide
   simp -implicitDefEqProofs only[c1z,c1y,g,w0,Int.toNat_natCast,Int.toNat_zero,r1,r1n,r2,r2n,Int.natCast_zero,Int.lt_irrefl,go_sem,↓reduceIte]
   skip
   exact next (by omega)
  ·have w2:IntKind.i64.wrap ((j:Int)-1)=((j-1:Nat):Int):=wc (by omega) (by omega)
   have g2:=(by rw[List.getD_eq_getElem?_getD,hjl];rfl:fr.getD (j-1) 0=low)
   have c0:(0:Int) < (j:Int):=by omega
   have c4:(0:Int)≤((j-1:Nat):Int):=by omega
   have c5:((j-1:Nat):Int) < (fr.length:Int):=by omega
   by_cases r3:p≤low
   ·have r3n:¬low < p:=by omega
    simp -implicitDefEqProofs only[c0,c1,c2,c4,c5,g,g2,w1,w2,Int.toNat_natCast,r1,r1n,r2,r2n,r3,r3n,go_sem,↓reduceIte]
    skip
    exact hr _ rfl rfl (stop (by omega))
   ·have r3n:low < p:=by omega
    simp -implicitDefEqProofs only[c0,c1,c2,c4,c5,g,g2,w1,w2,Int.toNat_natCast,r1,r1n,r2,r2n,r3,r3n,go_sem,↓reduceIte]
    skip
    exact next (by omega)
theorem walk35i {a1 a2 a3:Int} {a4 a6 fr:List Int} (hl:fr.length < 1000000) (hw:(⟨a1,a2,a3,a4,fr,a6⟩:AccS).wf) (h:Q (.v (.bool (⟨a1,a2,a3,a4,fr,a6⟩:AccS).may)) G):Wf E C pf35 [.agg [.int .i64 a1,.int .i64 a2,.int .i64 a3,.arr .u8 32 a4,.sli .i64 fr,.arr .u8 32 a6]] G Q:=by
 have key:∀b:Bool,(⟨a1,a2,a3,a4,fr,a6⟩:AccS).may=b→Q (.v (.bool b)) G:=fun b e=>by rw[←e];exact h
 simp -implicitDefEqProofs only[pf35,go_sem,↓reduceIte]
 refine⟨fr.length+1,?_⟩
 refine loop35i (hl) (fun j ts e=> ?_) (fun σ e1 e2 e3=> ?_) fr 0 0 rfl (Nat.zero_le _) (.inl ⟨rfl,rfl⟩) rfl
 rotate_left
 ·show resQ Q σ.G (rD (St.ev σ (.v 2)))
  rw[e1,e2]
  exact key _ (decide_eq_false fun hM=>by have:=hM.2.2.2.2;dsimp only at this;rw[e3]at this;cases this)
 have hM:∀b:Bool,(b=true↔(1≤a1∧a1≤21∧1≤a2∧a2≤1099511627776∧0≤a3∧a3 < a2∧(1:Int)≤(fr.length:Nat)))→Q (.v (.bool b)) G:=fun b hb=>key b (by
  rw[Bool.eq_iff_iff,hb]
  unfold AccS.may
  rw[decide_eq_true_eq]
  constructor
  ·intro hM;obtain⟨m1,m2,m3,m4,m5⟩:=hM
   have:=List.length_pos_iff.2 m4
   dsimp only at m1 m2 m3 this
   omega
  ·intro hc
   exact⟨⟨hc.1,hc.2.1⟩,⟨hc.2.2.1,hc.2.2.2.1⟩,⟨hc.2.2.2.2.1,hc.2.2.2.2.2.1⟩,List.length_pos_iff.1 (by have:=hc.2.2.2.2.2.2;dsimp only;omega),e⟩)
 simp -implicitDefEqProofs only[go_sem,↓reduceIte]
 repeat' first|(intro _)|constructor
 all_goals
  refine hM _ ?_
  first
  |(constructor<;>intro hh<;>first|(cases hh;done)|rfl|omega|exact absurd hh (by omega))
  |(rw[decide_eq_true_eq];constructor<;>intro hh<;>omega)
  |(constructor
    ·intro hh;cases hh
    ·intro hh;have:=hh.2.2.2.2.2.2;simp at this)
theorem walk35n {a1 a2 a3:Int} {a4 a6:List Int} (hl:([]:List Int).length < 1000000) (hw:(⟨a1,a2,a3,a4,[],a6⟩:AccS).wf) (h:Q (.v (.bool (⟨a1,a2,a3,a4,[],a6⟩:AccS).may)) G):Wf E C pf35 [.agg [.int .i64 a1,.int .i64 a2,.int .i64 a3,.arr .u8 32 a4,.nils,.arr .u8 32 a6]] G Q:=by
 have key:∀b:Bool,(⟨a1,a2,a3,a4,[],a6⟩:AccS).may=b→Q (.v (.bool b)) G:=fun b e=>by rw[←e];exact h
 simp -implicitDefEqProofs only[pf35,go_sem,↓reduceIte]
 refine⟨0+1,?_⟩
 refine WL_in lp35_0.eq_1 ?_
 have hM:∀b:Bool,(b=true↔(1≤a1∧a1≤21∧1≤a2∧a2≤1099511627776∧0≤a3∧a3 < a2∧(1:Int)≤(([]:List Int).length:Nat)))→Q (.v (.bool b)) G:=fun b hb=>key b (by
  rw[Bool.eq_iff_iff,hb]
  unfold AccS.may
  rw[decide_eq_true_eq]
  constructor
  ·intro hM;obtain⟨m1,m2,m3,m4,m5⟩:=hM
   have:=List.length_pos_iff.2 m4
   dsimp only at m1 m2 m3 this
   omega
  ·intro hc
   exact⟨⟨hc.1,hc.2.1⟩,⟨hc.2.2.1,hc.2.2.2.1⟩,⟨hc.2.2.2.2.1,hc.2.2.2.2.2.1⟩,List.length_pos_iff.1 (by have:=hc.2.2.2.2.2.2;dsimp only;omega),rfl⟩)
 simp -implicitDefEqProofs only[go_sem,↓reduceIte]
 repeat' first|(intro _)|constructor
 all_goals
  refine hM _ ?_
  first
  |(constructor<;>intro hh<;>first|(cases hh;done)|rfl|omega|exact absurd hh (by omega))
  |(rw[decide_eq_true_eq];constructor<;>intro hh<;>omega)
  |(constructor
    ·intro hh;cases hh
    ·intro hh;have:=hh.2.2.2.2.2.2;simp at this)
theorem loop35s {QQ:Ex→St→Prop} {a1 a2 a3:Int} {a4 a6 fr:List Int} {id c:Nat} {LL:List V} (hG:Abs.look G id=some (.agg LL)) (hLL:∀(i:Nat) p,fr[i]? =some p→LL[i]? =some (.int .i64 p)) (hfl:fr.length≤LL.length) (hsz:∀y∈LL,V.size y=1) (hl:fr.length < 1000000)
  (hx:∀(j:Nat) ts,riseI 21 0 fr=true→QQ (.exit 0) ⟨[none,some (.lp 0 []),none,some (.v (.int .i64 (j:Nat)))],ts,[⟨false,.agg [.int .i64 a1,.int .i64 a2,.int .i64 a3,.arr .u8 32 a4,.sob id 1 0 fr.length c,.arr .u8 32 a6]⟩],G⟩)
  (hr:∀σ:St,σ.G=G→St.ev σ (.v 2)=some (.v (.bool false))→riseI 21 0 fr=false→QQ .ret σ):
  ∀(r:List Int) (j:Nat) (low:Int),fr.drop j=r→j≤fr.length→((j=0∧low=0)∨(1≤j∧1≤low∧fr[j-1]? =some low))→riseI 21 0 fr=riseI 21 low r→WL (W E C lp35_0) [1,3] QQ (r.length+1) ⟨[none,some (.lp 0 []),none,some (.v (.int .i64 (j:Nat)))],[],[⟨false,.agg [.int .i64 a1,.int .i64 a2,.int .i64 a3,.arr .u8 32 a4,.sob id 1 0 fr.length c,.arr .u8 32 a6]⟩],G⟩:=by
 intro r
 induction r with
 |nil=>
  intro j low h1 h2 hlow h3
  have:=drop_none h1
  have c1:¬(j:Int) < (fr.length:Int):=by omega
  refine WL_in lp35_0.eq_1 ?_
  simp -implicitDefEqProofs only[c1,go_sem,↓reduceIte]
  exact hx _ _ h3
 |cons p r ih=>
  intro j low h1 h2 hlow h3
  obtain⟨hd,hj,hlen⟩:=drop_one h1
  have hjp:=at_drop h1
  have g:=hLL j p (at_drop h1)
  have c1:(j:Int) < (fr.length:Int):=by omega
  have c2:(0:Int)≤(j:Int):=by omega
  have w1:IntKind.i64.wrap ((j:Int)+1)=((j+1:Nat):Int):=wc (by omega) (by omega)
  have next:=fun (hlo:¬(p≤low∨21 < p))=>ih (j+1) p hd (by omega) (.inr ⟨by omega,by omega,by rw[Nat.add_sub_cancel];exact hjp⟩) (by rw[h3];exact if_neg hlo)
  have stop:=fun (hlo:p≤low∨21 < p)=>(by rw[h3];exact if_pos hlo:riseI 21 0 fr=false)
  refine WL_in lp35_0.eq_1 ?_
  by_cases r1:p < 1
  ·have r1p:¬1≤p:=by omega
   simp -implicitDefEqProofs only[c1,c2,g,hG,w1,Int.toNat_natCast,r1,r1p,go_sem,↓reduceIte]
   repeat (first|refine And.intro ⟨by omega,hsz⟩ ?_|refine And.intro ⟨⟨by omega,by omega⟩,by omega,hsz⟩ ?_|refine And.intro ⟨⟨by omega,by omega⟩,by omega⟩ ?_)
   exact hr _ rfl rfl (stop (by omega))
  have r1n:1≤p:=by omega
  by_cases r2:21 < p
  ·have r2p:¬p≤21:=by omega
   simp -implicitDefEqProofs only[c1,c2,g,hG,w1,Int.toNat_natCast,r1,r1n,r2,r2p,go_sem,↓reduceIte]
   repeat (first|refine And.intro ⟨by omega,hsz⟩ ?_|refine And.intro ⟨⟨by omega,by omega⟩,by omega,hsz⟩ ?_|refine And.intro ⟨⟨by omega,by omega⟩,by omega⟩ ?_)
   exact hr _ rfl rfl (stop (by omega))
  have r2n:p≤21:=by omega
  rcases hlow with⟨rfl,rfl⟩|⟨hj1,hlo1,hjl⟩
  ·have c1z:(0:Int) < (fr.length:Int):=by omega
   have c1y:¬(fr.length:Int)≤0:=by omega
   have w0:IntKind.i64.wrap ((0:Int)+1)=((0+1:Nat):Int):=by decide
   simp -implicitDefEqProofs only[c1z,c1y,g,hG,w0,Int.toNat_natCast,Int.toNat_zero,r1,r1n,r2,r2n,Int.natCast_zero,Int.lt_irrefl,go_sem,↓reduceIte]
   repeat (first|refine And.intro ⟨by omega,hsz⟩ ?_|refine And.intro ⟨⟨by omega,by omega⟩,by omega,hsz⟩ ?_|refine And.intro ⟨⟨by omega,by omega⟩,by omega⟩ ?_)
   exact next (by omega)
  ·have w2:IntKind.i64.wrap ((j:Int)-1)=((j-1:Nat):Int):=wc (by omega) (by omega)
   have g2:=hLL _ _ hjl
   have c0:(0:Int) < (j:Int):=by omega
   have c4:(0:Int)≤((j-1:Nat):Int):=by omega
   have c5:((j-1:Nat):Int) < (fr.length:Int):=by omega
   by_cases r3:p≤low
   ·have r3n:¬low < p:=by omega
    simp -implicitDefEqProofs only[c0,c1,c2,c4,c5,g,g2,hG,w1,w2,Int.toNat_natCast,r1,r1n,r2,r2n,r3,r3n,go_sem,↓reduceIte]
    repeat (first|refine And.intro ⟨by omega,hsz⟩ ?_|refine And.intro ⟨⟨by omega,by omega⟩,by omega,hsz⟩ ?_|refine And.intro ⟨⟨by omega,by omega⟩,by omega⟩ ?_)
    exact hr _ rfl rfl (stop (by omega))
   ·have r3n:low < p:=by omega
    simp -implicitDefEqProofs only[c0,c1,c2,c4,c5,g,g2,hG,w1,w2,Int.toNat_natCast,r1,r1n,r2,r2n,r3,r3n,go_sem,↓reduceIte]
    repeat (first|refine And.intro ⟨by omega,hsz⟩ ?_|refine And.intro ⟨⟨by omega,by omega⟩,by omega,hsz⟩ ?_|refine And.intro ⟨⟨by omega,by omega⟩,by omega⟩ ?_)
    exact next (by omega)
theorem walk35s {a1 a2 a3:Int} {a4 a6 fr:List Int} {id c:Nat} {LL:List V} (hG:Abs.look G id=some (.agg LL)) (hLL:∀(i:Nat) p,fr[i]? =some p→LL[i]? =some (.int .i64 p)) (hfl:fr.length≤LL.length) (hsz:∀y∈LL,V.size y=1) (hl:fr.length < 1000000) (hw:(⟨a1,a2,a3,a4,fr,a6⟩:AccS).wf) (h:Q (.v (.bool (⟨a1,a2,a3,a4,fr,a6⟩:AccS).may)) G):Wf E C pf35 [.agg [.int .i64 a1,.int .i64 a2,.int .i64 a3,.arr .u8 32 a4,.sob id 1 0 fr.length c,.arr .u8 32 a6]] G Q:=by
 have key:∀b:Bool,(⟨a1,a2,a3,a4,fr,a6⟩:AccS).may=b→Q (.v (.bool b)) G:=fun b e=>by rw[←e];exact h
 simp -implicitDefEqProofs only[pf35,go_sem,↓reduceIte]
 refine⟨fr.length+1,?_⟩
 refine loop35s hG hLL hfl hsz (hl) (fun j ts e=> ?_) (fun σ e1 e2 e3=> ?_) fr 0 0 rfl (Nat.zero_le _) (.inl ⟨rfl,rfl⟩) rfl
 rotate_left
 ·show resQ Q σ.G (rD (St.ev σ (.v 2)))
  rw[e1,e2]
  exact key _ (decide_eq_false fun hM=>by have:=hM.2.2.2.2;dsimp only at this;rw[e3]at this;cases this)
 have hM:∀b:Bool,(b=true↔(1≤a1∧a1≤21∧1≤a2∧a2≤1099511627776∧0≤a3∧a3 < a2∧(1:Int)≤(fr.length:Nat)))→Q (.v (.bool b)) G:=fun b hb=>key b (by
  rw[Bool.eq_iff_iff,hb]
  unfold AccS.may
  rw[decide_eq_true_eq]
  constructor
  ·intro hM;obtain⟨m1,m2,m3,m4,m5⟩:=hM
   have:=List.length_pos_iff.2 m4
   dsimp only at m1 m2 m3 this
   omega
  ·intro hc
   exact⟨⟨hc.1,hc.2.1⟩,⟨hc.2.2.1,hc.2.2.2.1⟩,⟨hc.2.2.2.2.1,hc.2.2.2.2.2.1⟩,List.length_pos_iff.1 (by have:=hc.2.2.2.2.2.2;dsimp only;omega),e⟩)
 simp -implicitDefEqProofs only[go_sem,↓reduceIte]
 repeat' first|(intro _)|constructor
 all_goals
  refine hM _ ?_
  first
  |(constructor<;>intro hh<;>first|(cases hh;done)|rfl|omega|exact absurd hh (by omega))
  |(rw[decide_eq_true_eq];constructor<;>intro hh<;>omega)
  |(constructor
    ·intro hh;cases hh
    ·intro hh;have:=hh.2.2.2.2.2.2;simp at this)
def pf84:PF:=
 PF.mk 2 5 20 ((PC.reg [nn (.v 3) (.box (.v 1)),nn (.v 4) (.mv true (.c (.own .nils)))]).seq (((PC.reg [nn (.t 5) (.load 68 true (.v 3)),nn (.t 6)
  (.call 117 [.t 5]),nn (.t 7) (.un .not (.t 6))]).seq (PC.cond (.t 7) ((PC.reg [mm 8 0,nn (.t 9) (.call 79 [.t 8]),ma 4 9]).seq PC.ret)
  PC.skip)).seq ((PC.regD 0 [mm 10 0,nn (.t 11) (.fadr 0 0 (.v 3)),nn (.t 12) (.load 1 false (.t 11)),nn (.t 13) (.conv .u64 (.t 12)),nn (.t 14)
  (.call 31 [.t 10,.t 13]),nn (.t 15) (.load 68 true (.v 3)),nn (.t 16) (.call 118 [.t 14,.t 15]),nn (.t 17) (.fadr 5 36 (.v 3)),nn (.t 18)
  (.load 32 true (.t 17)),nn (.t 19) (.call 82 [.t 16,.t 18]),ma 4 19] []).seq PC.ret))) [(.v 4,none)]
def pf55:PF:=
 PF.mk 1 3 14 ((PC.reg [nn (.v 1) (.box (.v 0)),nn (.v 2) (.mv true (.c (.own .nils)))]).seq ((PC.regD 0 [nn (.t 3) (.fadr 0 0 (.v 1)),nn (.t 4)
  (.load 1 false (.t 3)),nn (.t 5) (.conv .u8 (.t 4)),nn (.t 6) (.buildS (some .u8) 1 (.int .u8 0) 1 [(0,.t 5)]),nn (.t 7) (.load 68 true (.v 1)),
  nn (.t 8) (.call 105 [.t 7]),nn (.t 9) (.app (some .u8) 1 1 (.t 6) (.t 8)),nn (.t 10) (.fadr 5 36 (.v 1)),nn (.t 11) (.load 32 true (.t 10)),nn
  (.t 12) (.call 53 [.t 11]),nn (.t 13) (.app (some .u8) 1 1 (.t 9) (.t 12)),ma 2 13] []).seq PC.ret)) [(.v 2,none)]
def lp102_0:PC:=
 (PC.reg [nn (.t 17) (.bin .lss (.v 16) (.v 15))]).seq ((PC.cond (.t 17) PC.skip (PC.exit 0)).seq ((PC.block 1 (PC.regW 0 [(0,nn (.t 18) (.fadr 4 35
  (.v 4))),(1,nn (.t 19) (.load 1 false (.t 18))),(2,mm 20 0),(3,nn (.t 21) (.callW 48 [.t 20,.c (.v (.int .i64 21))])),(4,nn (.t 22) (.buildS
  (some .i64) 1 (.int .i64 0) 1 [(0,.t 21)])),(5,nn (.t 23) (.appR 1 8 (.int .i64 0) (.t 19) (.t 22))),(6,nn (.t 24) (.fadr 4 35 (.v 4))),(7,nn
  .no (.store 1 (.t 24) (.t 23)))] [(1,3)])).seq (PC.reg [nn (.t 25) (.bin .add (.v 16) (.c (.v (.int .i64 1)))),nn (.v 16) (.mv false (.t 25))])))
def pf102:PF:=
 PF.mk 1 17 38 ((PC.reg [nn (.v 2) (.alloc (.agg [.int .i64 0,.int .i64 0,.int .i64 0,.arr .u8 32 [0,0,0,0,0,0,0,0,0,0,0,0,0,0,0,0,0,
  0,0,0,0,0,0,0,0,0,0,0,0,0,0,0],.nils,.arr .u8 32 [0,0,0,0,0,0,0,0,0,0,0,0,0,0,0,0,0,0,0,0,0,0,0,0,0,0,0,0,
  0,0,0,0]])),nn (.v 3) (.mv true (.c (.v (.bool false))))]).seq ((PC.reg [nn (.v 5) (.mv false (.v 0)),nn (.v 6) (.call 48 [.v 5,.c (.v (.int
  .i64 21))]),nn (.v 7) (.mv false (.v 0)),nn (.v 8) (.call 48 [.v 7,.c (.v (.int .i64 1099511627776))]),nn (.v 9) (.mv false (.v 0)),nn (.v 10)
  (.call 48 [.v 9,.c (.v (.int .i64 1099511627776))]),nn (.v 11) (.mv false (.v 0)),nn (.v 12) (.call 98 [.v 11]),nn (.v 13) (.build (.agg [.int
  .i64 0,.int .i64 0,.int .i64 0,.arr .u8 32 zz2,
  .nils,.arr .u8 32 zz2]) [(0,.v 6),(1,.v 8),(2,.v
  10),(3,.v 12)]),nn (.v 4) (.alloc (.agg [.int .i64 0,.int .i64 0,.int .i64 0,.arr .u8 32 [0,0,0,0,0,0,0,0,0,0,0,0,0,0,0,0,0,0,
  0,0,0,0,0,0,0,0,0,0,0,0,0,0],.nils,.arr .u8 32 [0,0,0,0,0,0,0,0,0,0,0,0,0,0,0,0,0,0,0,0,0,0,0,0,0,0,0,0,0,
  0,0,0]])),nn .no (.store 68 (.v 4) (.v 13))]).seq (((PC.reg [nn (.v 14) (.mv false (.v 0)),nn (.v 15) (.call 48 [.v 14,.c (.v (.int .i64 21))]),
  nn (.v 16) (.mv false (.c (.v (.int .i64 0))))]).seq (PC.block 0 (PC.loop [0,2,4,15,16] lp102_0))).seq ((PC.reg [mm 26 0,nn (.t 27) (.call 98
  [.t 26]),nn (.t 28) (.fadr 5 36 (.v 4)),nn .no (.store 32 (.t 28) (.t 27))]).seq (((PC.reg [mm 29 0,nn (.t 30) (.call 121 [.t 29]),nn (.t 31)
  (.mv false (.t 30)),⟨.t 32,.load 68 true (.v 4),some (.t 31,false)⟩,⟨.t 33,.call 117 [.t 32],some (.t 31,false)⟩,⟨.t 34,.un .not (.t 33),
  some (.t 31,false)⟩,nn (.t 35) (.pick (.t 31) (.c (.v (.bool true))) (.t 34))]).seq (PC.cond (.t 35) ((PC.reg [nn (.t 36) (.build (.agg [.int .i64
  0,.int .i64 0,.int .i64 0,.arr .u8 32 zz2,.nils,
  .arr .u8 32 zz2]) []),nn .no (.store 68 (.v 2) (.t
  36)),nn (.v 3) (.mv true (.c (.v (.bool false))))]).seq PC.ret) PC.skip)).seq ((PC.reg [nn (.t 37) (.load 68 true (.v 4)),nn .no (.store 68 (.v 2)
  (.t 37)),nn (.v 3) (.mv true (.c (.v (.bool true))))]).seq PC.ret)))))) [(.v 2,some (68,true)),(.v 3,none)]
def lp63_0:PC:=
 ((PC.reg [mm 40 7,mm 41 6,nn (.t 42) (.bin .lss (.t 40) (.t 41))]).seq (PC.cond (.t 42) PC.skip (PC.exit 0))).seq ((PC.block 1 ((PC.reg [nn (.t 46)
  (.load 3 true (.v 1)),nn (.t 47) (.call 58 [.t 46,.c (.v (.int .i64 21))]),nn (.t 45) (.mv false (.t 47)),nn (.t 48) (.ext (.t 45) 0),nn (.t 49)
  (.ext (.t 45) 1),nn (.v 8) (.alloc (.agg [.nils,.int .i64 0,.bool false])),nn .no (.store 3 (.v 8) (.t 48)),ma 9 49]).seq ((PC.reg [nn (.t 50)
  (.load 3 true (.v 8)),nn .no (.store 3 (.v 1) (.t 50))]).seq (PC.reg [nn (.t 51) (.fadr 4 35 (.v 5)),nn (.t 52) (.load 1 false (.t 51)),mm 53 9,
  nn (.t 54) (.buildS (some .i64) 1 (.int .i64 0) 1 [(0,.t 53)]),nn (.t 55) (.appR 1 8 (.int .i64 0) (.t 52) (.t 54)),nn (.t 56) (.fadr 4 35 (.v
  5)),nn .no (.store 1 (.t 56) (.t 55))])))).seq (PC.reg [mm 43 7,nn (.t 44) (.bin .add (.t 43) (.c (.v (.int .i64 1)))),ma 7 44]))
def pf63:PF:=
 PF.mk 1 10 74 ((PC.reg [nn (.v 1) (.box (.v 0)),nn (.v 2) (.alloc (.agg [.nils,.int .i64 0,.bool false])),nn (.v 3) (.alloc (.agg [.int .i64 0,
  .int .i64 0,.int .i64 0,.arr .u8 32 zz2,.nils,.arr
  .u8 32 zz2])),nn (.v 4) (.mv true (.c (.v (.bool
  false))))]).seq ((PC.reg [nn (.t 10) (.build (.agg [.int .i64 0,.int .i64 0,.int .i64 0,.arr .u8 32 [0,0,0,0,0,0,0,0,0,0,0,0,0,0,0,
  0,0,0,0,0,0,0,0,0,0,0,0,0,0,0,0,0],.nils,.arr .u8 32 [0,0,0,0,0,0,0,0,0,0,0,0,0,0,0,0,0,0,0,0,0,0,0,0,0,0,
  0,0,0,0,0,0]]) []),nn (.v 5) (.alloc (.agg [.int .i64 0,.int .i64 0,.int .i64 0,.arr .u8 32 [0,0,0,0,0,0,0,0,0,0,0,0,0,0,0,0,
  0,0,0,0,0,0,0,0,0,0,0,0,0,0,0,0],.nils,.arr .u8 32 [0,0,0,0,0,0,0,0,0,0,0,0,0,0,0,0,0,0,0,0,0,0,0,0,0,0,0,
  0,0,0,0,0]])),nn .no (.store 68 (.v 5) (.t 10))]).seq ((PC.reg [nn (.v 6) (.mv true (.c (.v (.int .i64 0))))]).seq ((PC.reg [nn (.t 12) (.load 3
  true (.v 1)),nn (.t 13) (.call 58 [.t 12,.c (.v (.int .i64 21))]),nn (.t 11) (.mv false (.t 13)),nn (.t 14) (.ext (.t 11) 0),nn (.t 15) (.ext
  (.t 11) 1),nn .no (.store 3 (.v 1) (.t 14)),nn (.t 16) (.fadr 0 0 (.v 5)),nn .no (.store 1 (.t 16) (.t 15))]).seq ((PC.reg [nn (.t 18) (.load 3
  true (.v 1)),nn (.t 19) (.call 58 [.t 18,.c (.v (.int .i64 1099511627776))]),nn (.t 17) (.mv false (.t 19)),nn (.t 20) (.ext (.t 17) 0),nn (.t
  21) (.ext (.t 17) 1),nn .no (.store 3 (.v 1) (.t 20)),nn (.t 22) (.fadr 1 1 (.v 5)),nn .no (.store 1 (.t 22) (.t 21))]).seq ((PC.reg [nn (.t 24)
  (.load 3 true (.v 1)),nn (.t 25) (.call 58 [.t 24,.c (.v (.int .i64 1099511627776))]),nn (.t 23) (.mv false (.t 25)),nn (.t 26) (.ext (.t 23) 0),
  nn (.t 27) (.ext (.t 23) 1),nn .no (.store 3 (.v 1) (.t 26)),nn (.t 28) (.fadr 2 2 (.v 5)),nn .no (.store 1 (.t 28) (.t 27))]).seq ((PC.reg [nn
  (.t 30) (.load 3 true (.v 1)),nn (.t 31) (.call 61 [.t 30]),nn (.t 29) (.mv false (.t 31)),nn (.t 32) (.ext (.t 29) 0),nn (.t 33) (.ext (.t 29)
  1),nn .no (.store 3 (.v 1) (.t 32)),nn (.t 34) (.fadr 3 3 (.v 5)),nn .no (.store 32 (.t 34) (.t 33))]).seq ((PC.reg [nn (.t 36) (.load 3 true (.v
  1)),nn (.t 37) (.call 58 [.t 36,.c (.v (.int .i64 21))]),nn (.t 35) (.mv false (.t 37)),nn (.t 38) (.ext (.t 35) 0),nn (.t 39) (.ext (.t 35) 1),
  nn .no (.store 3 (.v 1) (.t 38)),ma 6 39]).seq (((PC.reg [nn (.v 7) (.mv true (.c (.v (.int .i64 0))))]).seq (PC.block 0 (PC.loop [1,2,3,5,6,7]
  lp63_0))).seq ((PC.reg [nn (.t 58) (.load 3 true (.v 1)),nn (.t 59) (.call 61 [.t 58]),nn (.t 57) (.mv false (.t 59)),nn (.t 60) (.ext (.t 57) 0),
  nn (.t 61) (.ext (.t 57) 1),nn .no (.store 3 (.v 1) (.t 60)),nn (.t 62) (.fadr 5 36 (.v 5)),nn .no (.store 32 (.t 62) (.t 61))]).seq (((PC.reg [nn
  (.t 63) (.fadr 2 2 (.v 1)),nn (.t 64) (.load 1 false (.t 63)),nn (.t 65) (.mv false (.t 64)),⟨.t 66,.load 68 true (.v 5),some (.t 65,false)⟩,
  ⟨.t 67,.call 35 [.t 66],some (.t 65,false)⟩,⟨.t 68,.un .not (.t 67),some (.t 65,false)⟩,nn (.t 69) (.pick (.t 65) (.c (.v (.bool true))) (.t
  68))]).seq (PC.cond (.t 69) ((PC.reg [nn (.t 70) (.load 3 true (.v 1)),nn (.t 71) (.build (.agg [.int .i64 0,.int .i64 0,.int .i64 0,.arr .u8 32
  zz2,.nils,.arr .u8 32 [0,0,0,0,0,0,0,0,0,0,
  0,0,0,0,0,0,0,0,0,0,0,0,0,0,0,0,0,0,0,0,0,0]]) []),nn .no (.store 3 (.v 2) (.t 70)),nn .no (.store 68 (.v 3) (.t 71)),nn (.v
  4) (.mv true (.c (.v (.bool false))))]).seq PC.ret) PC.skip)).seq ((PC.regD 0 [nn (.t 72) (.load 3 true (.v 1)),nn (.t 73) (.load 68 true (.v 5)),
  nn .no (.store 3 (.v 2) (.t 72)),nn .no (.store 68 (.v 3) (.t 73)),nn (.v 4) (.mv true (.c (.v (.bool true))))] [(1,2)]).seq PC.ret))))))))))))
  [(.v 2,some (3,true)),(.v 3,some (68,true)),(.v 4,none)]
def rdV (r:List Int) (w:Bool):V:= .agg [.sli .u8 r,.bool w]
def ZPu:Spec1
 |[x,y],G,Q=>∃(b:List Int) (a:AccS),(byV x=some b∧b.length < 100000000∧y=a.v∧a.wf∧a.fr.length < 1000000)∧Q (.own (.sli .u8 (if a.may=true then b++a.bytes else b))) G
 |_,_,_=>False
theorem ZPu_eq {x y}:ZPu [x,y] G Q=(∃(b:List Int) (a:AccS),(byV x=some b∧b.length < 100000000∧y=a.v∧a.wf∧a.fr.length < 1000000)∧Q (.own (.sli .u8 (if a.may=true then b++a.bytes else b))) G):=rfl
def ZBy:Spec1
 |[y],G,Q=>∃(a:AccS),(y=a.v∧a.wf∧a.May)∧Q (.own (.sli .u8 a.bytes)) G
 |_,_,_=>False
theorem ZBy_eq {y}:ZBy [y] G Q=(∃(a:AccS),(y=a.v∧a.wf∧a.May)∧Q (.own (.sli .u8 a.bytes)) G):=rfl
def ZRd:Spec1
 |[.ptr id],G,Q=>∃b w0 a r w,(Abs.look G id=some (.agg [.sli .u8 b,.bool w0])∧Byt b∧b.length < 100000000000∧rdAccu (b,w0)=(a,r,w))∧Q (.tup [(accR a w).v,.bool (!w&&a.may)]) (Abs.upd G id (.agg [.sli .u8 r,.bool w]))
 |_,_,_=>False
theorem ZRd_eq {id}:ZRd [.ptr id] G Q=(∃b w0 a r w,(Abs.look G id=some (.agg [.sli .u8 b,.bool w0])∧Byt b∧b.length < 100000000000∧rdAccu (b,w0)=(a,r,w))∧Q (.tup [(accR a w).v,.bool (!w&&a.may)]) (Abs.upd G id (.agg [.sli .u8 r,.bool w]))):=rfl
def ZRr:Spec1
 |[.agg [.sli .u8 B,.int .i64 at_,.bool w0]],G,Q=>∃u b a r w,(B=u++b∧at_=u.length∧Byt B∧B.length < 100000000000∧rdAccu (b,w0)=(a,r,w))∧Q (.tup [.agg [.sli .u8 B,.int .i64 ((B.length:Int)-r.length),.bool w],(accR a w).v,.bool (!w&&a.may)]) G
 |_,_,_=>False
theorem ZRr_eq {B at_ w0}:ZRr [.agg [.sli .u8 B,.int .i64 at_,.bool w0]] G Q=(∃u b a r w,(B=u++b∧at_=u.length∧Byt B∧B.length < 100000000000∧rdAccu (b,w0)=(a,r,w))∧Q (.tup [.agg [.sli .u8 B,.int .i64 ((B.length:Int)-r.length),.bool w],(accR a w).v,.bool (!w&&a.may)]) G):=rfl
theorem walk84 {b:List Int} {a:AccS} (hM:Abs.look l 117=some ZMa) (hC:Abs.look l 79=some SCl) (hN:Abs.look l 31=some SNu) (hT:Abs.look l 118=some ZTg) (hH:Abs.look l 82=some SHa)
  (hb:b.length < 100000000) (hw:a.wf) (hl:a.fr.length < 1000000) (h:Q (.own (.sli .u8 (if a.may=true then b++a.bytes else b))) G):Wf E (specOf l) pf84 [.sli .u8 b,a.v] G Q:=by
 obtain⟨a1,a2,a3,a4,fr,a6⟩:=a
 by_cases hm:AccS.May ⟨a1,a2,a3,a4,fr,a6⟩
 ·have hmay:AccS.may ⟨a1,a2,a3,a4,fr,a6⟩=true:=decide_eq_true hm
  obtain⟨m1,m2⟩:=hm.1
  dsimp only at m1 m2
  obtain⟨s1,s2⟩:=AccS.said_ok hw hm
  obtain⟨r1,n1⟩:=num_ok (n:=a1.toNat) (by omega)
  have w1:=u64_of (n:=a1) (by omega) (by omega)
  rw[if_pos hmay]at h
  unfold AccS.bytes at h
  simp -implicitDefEqProofs only[pf84,AccS.v,hM,ZMa_eq,go_sem,↓reduceIte]
  refine⟨fr,⟨.inl rfl,hw,hl⟩,?_⟩
  simp -implicitDefEqProofs only[hmay,hN,SNu_eq,w1,hT,ZTg_eq,hH,SHa_eq,go_sem,↓reduceIte]
  refine⟨b,⟨rfl,by omega,by omega,by omega⟩,_,fr,⟨byV_u8 _,by rw[List.length_append];omega,.inl rfl,hw,hm⟩,_,⟨byV_u8 _,by simp only[List.length_append];omega,hw.ta.2⟩,?_⟩
  simpa only[List.append_assoc]using h
 ·have hmay:AccS.may ⟨a1,a2,a3,a4,fr,a6⟩=false:=decide_eq_false hm
  rw[if_neg (by rw[hmay];exact Bool.false_ne_true)]at h
  simp -implicitDefEqProofs only[pf84,AccS.v,hM,ZMa_eq,go_sem,↓reduceIte]
  refine⟨fr,⟨.inl rfl,hw,hl⟩,?_⟩
  simp -implicitDefEqProofs only[hmay,hC,SCl_eq,go_sem,↓reduceIte]
  exact⟨b,⟨rfl,by omega⟩,h⟩
theorem walk55 {a:AccS} (hT:Abs.look l 105=some ZT1) (hB:Abs.look l 53=some SBy) (hw:a.wf) (hm:a.May) (h:Q (.own (.sli .u8 a.bytes)) G):Wf E (specOf l) pf55 [a.v] G Q:=by
 obtain⟨a1,a2,a3,a4,fr,a6⟩:=a
 obtain⟨m1,m2⟩:=hm.1
 dsimp only at m1 m2
 obtain⟨s1,s2⟩:=AccS.said_ok hw hm
 have l8:a6.length=32:=hw.ta.2
 have w1:IntKind.u8.wrap a1=a1:=by simp only[IntKind.wrap,IntKind.bits,IntKind.signed];simp;omega
 have en:num a1.toNat=[a1]:=by rw[num_small (by omega),show ((a1.toNat:Nat):Int)=a1 by omega]
 unfold AccS.bytes at h;dsimp only at h
 rw[en]at h
 simp -implicitDefEqProofs only[pf55,AccS.v,w1,hT,ZT1_eq,hB,SBy_eq,l8,go_sem,↓reduceIte]
 refine⟨fr,⟨.inl rfl,hw,hm⟩,?_⟩
 try simp -implicitDefEqProofs only[go_sem,↓reduceIte]
 exact⟨by omega,by omega,h⟩
theorem loop102 (hU:Abs.look l 48=some SUp) {QQ:Ex→St→Prop} {id k:Nat} {u0:V} {n1 n2 n3:Int} {n4 r5:List Int} {w5:Bool} {x0:Bx} (hid:Abs.look G id=some u0) (hb:Byt r5) (hl:r5.length < 100000000000) (hk:k≤21)
  (hx:∀ts G' x l2 r w,rdMany k (r5,w5)=(l2,r,w)→Row (Abs.upd G id (.agg [.sli .u8 r,.bool w])) G' 1 (.int .i64 0) x (l2.map (V.int .i64))→QQ (.exit 0) ⟨[some (.v (.ptr id)),none,some (.lp 0 []),none,some (.lp 1 []),none,none,none,none,none,none,none,none,none,none,some (.v (.int .i64 (k:Nat))),some (.v (.int .i64 (k:Nat)))],ts,[x0,⟨false,.agg [.int .i64 n1,.int .i64 n2,.int .i64 n3,.arr .u8 32 n4,x,.arr .u8 32 zz2]⟩],G'⟩):
  ∀(e j:Nat) (G':List (Nat×V)) (x:V) (l2 r:List Int) (w:Bool),j+e=k→rdMany j (r5,w5)=(l2,r,w)→Row (Abs.upd G id (.agg [.sli .u8 r,.bool w])) G' 1 (.int .i64 0) x (l2.map (V.int .i64))→
   WL (W E (specOf l) lp102_0) [0,2,4,15,16] QQ (e+1) ⟨[some (.v (.ptr id)),none,some (.lp 0 []),none,some (.lp 1 []),none,none,none,none,none,none,none,none,none,none,some (.v (.int .i64 (k:Nat))),some (.v (.int .i64 (j:Nat)))],[],[x0,⟨false,.agg [.int .i64 n1,.int .i64 n2,.int .i64 n3,.arr .u8 32 n4,x,.arr .u8 32 zz2]⟩],G'⟩:=by
 intro e
 induction e with
 |zero=>
  intro j G' x l2 r w hj he hrow
  obtain rfl:j=k:=by omega
  refine WL_in lp102_0.eq_1 ?_
  simp -implicitDefEqProofs only[Int.lt_irrefl,go_sem,↓reduceIte]
  exact hx _ _ _ _ _ _ he hrow
 |succ e ih=>
  intro j G' x l2 r w hj he hrow
  have c1:(j:Int) < (k:Int):=by omega
  have w1:IntKind.i64.wrap ((j:Int)+1)=((j+1:Nat):Int):=wc (by omega) (by omega)
  have many:=rdMany_all he hb
  have ml:=many.len
  rcases e1:rdUpto 21 (r,w)with⟨n,r2,w2⟩
  have he2:rdMany (j+1) (r5,w5)=(l2++[n],r2,w2):=by rw[rdMany_snoc,he];simp only[e1]
  have hl1:=look_upd_same (z:=V.agg [.sli .u8 r,.bool w]) hid
  have hG':=hrow.1 id _ hl1
  have hrow2:=hrow.upd (y:= .agg [.sli .u8 r2,.bool w2]) hl1
  rw[upd_upd]at hrow2
  obtain⟨x1,x2⟩:=hrow.one
  unfold V.isAgg at x2
  refine WL_in lp102_0.eq_1 ?_
  simp -implicitDefEqProofs only[c1,x1,x2,hU,SUp_eq,go_sem,↓reduceIte]
  refine⟨r,w,n,r2,w2,⟨hG',many.byt,by omega,e1⟩,?_⟩
  refine Row.app (G0:=Abs.upd G id (.agg [.sli .u8 r2,.bool w2])) (sz:=1) (z:= .int .i64 0) (y:= .int .i64 n) (els:=l2.map (V.int .i64)) hrow2 (by rw[List.length_map,many.cnt];omega) ⟨rfl,rfl⟩ rfl (fun u hu=> ?_) (fun x' G2 hr2=> ?_)
  ·obtain⟨q,_,rfl⟩:=List.mem_map.1 hu;exact⟨rfl,rfl⟩
  ·obtain⟨y1,y2⟩:=hr2.one
   unfold V.isAgg at y2
   have yl:=hrow.like hr2
   simp -implicitDefEqProofs only[w1,x1,x2,y1,y2,yl,go_sem,↓reduceIte]
   refine ih (j+1) G2 x' (l2++[n]) r2 w2 (by omega) he2 ?_
   rw[List.map_append];exact hr2
theorem walk102 {id:Nat} {w0:Bool} {b r:List Int} {a:AccS} {w:Bool} (hU:Abs.look l 48=some SUp) (hH:Abs.look l 98=some SHs) (hO:Abs.look l 121=some SOff) (hM:Abs.look l 117=some ZMa)
  (hG:Abs.look G id=some (.agg [.sli .u8 b,.bool w0])) (hb:Byt b) (hl:b.length < 100000000000) (he:rdAccu (b,w0)=(a,r,w))
  (h:Q (.tup [(accR a w).v,.bool (!w&&a.may)]) (Abs.upd G id (.agg [.sli .u8 r,.bool w]))):Wf E (specOf l) pf102 [.ptr id] G (fun r G'=>∃r2 G2,Low G r G' r2 G2∧Q r2 G2):=by
 rcases e1:rdUpto 21 (b,w0)with⟨n1,r1,w1⟩
 rcases e2:rdUpto 1099511627776 (r1,w1)with⟨n2,r2,w2⟩
 rcases e3:rdUpto 1099511627776 (r2,w2)with⟨n3,r3,w3⟩
 rcases e4:rdHash (r3,w3)with⟨n4,r4,w4⟩
 rcases e5:rdUpto 21 (r4,w4)with⟨n5,r5,w5⟩
 rcases e6:rdMany n5.toNat (r5,w5)with⟨n6,r6,w6⟩
 rcases e7:rdHash (r6,w6)with⟨n7,r7,w7⟩
 obtain⟨z11,z12,_,_,⟨u1,z15⟩,_⟩:=rdUpto_all e1 hb (by omega)
 obtain⟨z21,z22,_,_,⟨u2,z25⟩,_⟩:=rdUpto_all e2 z11 (by omega)
 obtain⟨z31,z32,_,_,⟨u3,z35⟩,_⟩:=rdUpto_all e3 z21 (by omega)
 obtain⟨z41,z42,_,⟨u4,z45⟩,_⟩:=rdHash_all e4 z31
 obtain⟨z51,z52,z53,z54,⟨u5,z55⟩,_⟩:=rdUpto_all e5 z41 (by omega)
 have many:=rdMany_all e6 z51
 have mlen:=many.len
 obtain⟨z71,z72,_,⟨u7,z75⟩,_⟩:=rdHash_all e7 many.byt
 have eA:rdAccu (b,w0)=(⟨n1,n2,n3,n4,n6,n7⟩,r7,w7):=by simp only[rdAccu,e1,e2,e3,e4,e5,e6,e7]
 have ok:=rdAccu_all eA hb
 rw[eA]at he
 simp only[Prod.mk.injEq]at he
 obtain⟨rfl,rfl,rfl⟩:=he
 obtain⟨k,hk⟩:∃k:Nat,n5=(k:Int):=⟨n5.toNat,by omega⟩
 rw[hk,Int.toNat_natCast]at e6
 have hk21:k≤21:=by omega
 have g:∀x,Abs.look (Abs.upd G id x) id=some x:=fun x=>look_upd_same hG
 simp -implicitDefEqProofs only[pf102,hU,SUp_eq,hH,SHs_eq,g,go_sem,↓reduceIte]
 refine⟨b,w0,n1,r1,w1,⟨hG,hb,by omega,e1⟩,r1,w1,n2,r2,w2,⟨rfl,z11,by omega,e2⟩,r2,w2,n3,r3,w3,⟨rfl,z21,by omega,e3⟩,r3,w3,n4,r4,w4,⟨rfl,z31,by omega,e4⟩,?_⟩
 refine⟨r4,w4,n5,r5,w5,⟨rfl,z41,by omega,e5⟩,k+1,?_⟩
 rw[hk]
 try simp -implicitDefEqProofs only[go_sem,↓reduceIte]
 refine loop102 (k:=k) (r5:=r5) (w5:=w5) hU hG z51 (by omega) hk21 (fun ts G' x l2 r w hm hrow=> ?_) k 0 _ .nils [] r5 w5 (by omega) rfl (Row.nil (Ext.refl _))
 rw[e6]at hm
 simp only[Prod.mk.injEq]at hm
 obtain⟨rfl,rfl,rfl⟩:=hm
 have hl1:=g (V.agg [.sli .u8 r6,.bool w6])
 have hG':=hrow.1 id _ hl1
 have hrow2:=hrow.upd (y:= .agg [.sli .u8 r7,.bool w7]) hl1
 rw[upd_upd]at hrow2
 obtain⟨x1,x2⟩:=hrow.one
 unfold V.isAgg at x2
 have xn:x.same .nils=true:=(Row.nil (z:=(.int .i64 0:V)) (sz:=1) (Ext.refl G)).like hrow
 have hG2:=hrow2.1 id _ (g (V.agg [.sli .u8 r7,.bool w7]))
 simp -implicitDefEqProofs only[x1,x2,xn,hH,SHs_eq,go_sem,↓reduceIte]
 refine⟨r6,w6,n7,r7,w7,⟨hG',many.byt,by omega,e7⟩,?_⟩
 generalize Abs.upd G' id (.agg [.sli .u8 r7,.bool w7])=GG at hrow2 hG2⊢
 simp -implicitDefEqProofs only[x1,x2,xn,hO,SOff_eq,go_sem,↓reduceIte]
 refine⟨r7,w7,hG2,?_⟩
 cases w7 with
 |true=>
  simp -implicitDefEqProofs only[go_sem,↓reduceIte]
  exact⟨_,_,(low_accu (els:=[]) (z:= .int .i64 0) (Row.nil hrow2.1)).upd hG rfl,h⟩
 |false=>
  have nl:n6.length < 1000000:=by have:=ok.cnt;dsimp only at this;omega
  simp -implicitDefEqProofs only[hM,ZMa_eq,go_sem,↓reduceIte]
  refine⟨n6,⟨frv_row hrow2,ok.wf,nl⟩,?_⟩
  cases hq:AccS.may ⟨n1,n2,n3,n4,n6,n7⟩with
  |false=>
   simp -implicitDefEqProofs only[go_sem,↓reduceIte]
   rw[accR,hq]at h
   exact⟨_,_,(low_accu (els:=[]) (z:= .int .i64 0) (Row.nil hrow2.1)).upd hG rfl,h⟩
  |true=>
   simp -implicitDefEqProofs only[x1,x2,xn,go_sem,↓reduceIte]
   rw[accR,hq]at h
   exact⟨_,_,(low_accu hrow2).upd hG rfl,h⟩
end Go.Proofs.Ytegamlopcdjiaaa.Sha
