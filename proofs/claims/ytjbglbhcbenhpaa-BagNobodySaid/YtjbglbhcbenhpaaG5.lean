/- Laws over plain values, and what functions of the program hand back; no conditions. -/
import Derived.Test.YtjbglbhcbenhpaaG4
import Derived.Test.YtjbglbhcbenhpaaG3
namespace Go.Proofs.Ytjbglbhcbenhpaa.Sha
open Go Go.Abs Go.Abs.Sha Go.Abs.Srt
set_option linter.unusedSimpArgs false
set_option linter.unusedVariables false
set_option maxRecDepth 100000
def lp115_0:PC:=
 (PC.reg [nn (.t 14) (.bin .lss (.v 13) (.v 12))]).seq ((PC.cond (.t 14) PC.skip (PC.exit 0)).seq ((PC.block 1 ((PC.reg [nn (.t 15) (.mv true (.v 13)),
  ma 5 15]).seq ((PC.regD 0 [mm 16 0,mm 17 5,nn (.t 18) (.iadrS 1 (.t 16) (.t 17)),nn (.t 19) (.load 1 false (.t 18)),mm 20 1,mm 21 5,nn (.t 22)
  (.iadrS 1 (.t 20) (.t 21)),nn (.t 23) (.load 1 false (.t 22)),nn (.t 24) (.bin .neq (.t 19) (.t 23))] []).seq (PC.cond (.t 24) ((PC.reg [nn (.v 4)
  (.mv true (.c (.v (.bool false))))]).seq PC.ret) PC.skip)))).seq (PC.reg [nn (.t 25) (.bin .add (.v 13) (.c (.v (.int .i64 1)))),nn (.v 13) (.mv
  false (.t 25))])))
def pf115:PF:=
 PF.mk 2 14 26 ((PC.reg [nn (.v 4) (.mv true (.c (.v (.bool false))))]).seq (((PC.reg [nn (.v 6) (.mv false (.v 0)),nn (.v 7) (.len (.v 6)),nn (.v 8)
  (.mv false (.v 1)),nn (.v 9) (.len (.v 8)),nn (.v 10) (.bin .neq (.v 7) (.v 9))]).seq (PC.cond (.v 10) ((PC.reg [nn (.v 4) (.mv true (.c (.v (.bool
  false))))]).seq PC.ret) PC.skip)).seq (((PC.reg [nn (.v 11) (.mv false (.v 0)),nn (.v 12) (.len (.v 11)),nn (.v 13) (.mv false (.c (.v (.int .i64
  0))))]).seq (PC.block 0 (PC.loop [0,1,12,13] lp115_0))).seq ((PC.reg [nn (.v 4) (.mv true (.c (.v (.bool true))))]).seq PC.ret)))) [(.v 4,none)]
def pf93:PF:=
 PF.mk 2 5 45 ((PC.reg [nn (.v 2) (.box (.v 0)),nn (.v 3) (.box (.v 1)),nn (.v 4) (.mv true (.c (.v (.bool false))))]).seq ((PC.reg [nn (.t 5) (.fadr
  0 0 (.v 2)),nn (.t 6) (.load 1 false (.t 5)),nn (.t 7) (.fadr 0 0 (.v 3)),nn (.t 8) (.load 1 false (.t 7)),nn (.t 9) (.bin .eql (.t 6) (.t 8)),
  nn (.t 10) (.mv false (.t 9)),⟨.t 11,.fadr 1 1 (.v 2),some (.t 10,true)⟩,⟨.t 12,.load 1 false (.t 11),some (.t 10,true)⟩,⟨.t 13,.fadr 1 1
  (.v 3),some (.t 10,true)⟩,⟨.t 14,.load 1 false (.t 13),some (.t 10,true)⟩,⟨.t 15,.bin .eql (.t 12) (.t 14),some (.t 10,true)⟩,nn (.t 16)
  (.pick (.t 10) (.t 15) (.c (.v (.bool false)))),nn (.t 17) (.mv false (.t 16)),⟨.t 18,.fadr 2 2 (.v 2),some (.t 17,true)⟩,⟨.t 19,.load 1 false
  (.t 18),some (.t 17,true)⟩,⟨.t 20,.fadr 2 2 (.v 3),some (.t 17,true)⟩,⟨.t 21,.load 1 false (.t 20),some (.t 17,true)⟩,⟨.t 22,.bin .eql
  (.t 19) (.t 21),some (.t 17,true)⟩,nn (.t 23) (.pick (.t 17) (.t 22) (.c (.v (.bool false)))),nn (.t 24) (.mv false (.t 23)),⟨.t 25,.fadr 3 3
  (.v 2),some (.t 24,true)⟩,⟨.t 26,.load 32 true (.t 25),some (.t 24,true)⟩,⟨.t 27,.fadr 3 3 (.v 3),some (.t 24,true)⟩,⟨.t 28,.load 32 true
  (.t 27),some (.t 24,true)⟩,⟨.t 29,.eqa false (.arr 32) (.t 26) (.t 28),some (.t 24,true)⟩,nn (.t 30) (.pick (.t 24) (.t 29) (.c (.v (.bool
  false)))),nn (.t 31) (.mv false (.t 30)),⟨.t 32,.fadr 4 35 (.v 2),some (.t 31,true)⟩,⟨.t 33,.load 1 false (.t 32),some (.t 31,true)⟩,⟨.t
  34,.fadr 4 35 (.v 3),some (.t 31,true)⟩,⟨.t 35,.load 1 false (.t 34),some (.t 31,true)⟩,⟨.t 36,.call 115 [.t 33,.t 35],some (.t 31,
  true)⟩,nn (.t 37) (.pick (.t 31) (.t 36) (.c (.v (.bool false)))),nn (.t 38) (.mv false (.t 37)),⟨.t 39,.fadr 5 36 (.v 2),some (.t 38,true)⟩,
  ⟨.t 40,.load 32 true (.t 39),some (.t 38,true)⟩,⟨.t 41,.fadr 5 36 (.v 3),some (.t 38,true)⟩,⟨.t 42,.load 32 true (.t 41),some (.t 38,
  true)⟩,⟨.t 43,.eqa false (.arr 32) (.t 40) (.t 42),some (.t 38,true)⟩,nn (.t 44) (.pick (.t 38) (.t 43) (.c (.v (.bool false)))),ma 4 44]).seq
  PC.ret)) [(.v 4,none)]
def lp53_0:PC:=
 ((PC.reg [mm 4 3,nn (.t 5) (.fadr 4 35 (.v 1)),nn (.t 6) (.load 1 false (.t 5)),nn (.t 7) (.len (.t 6)),nn (.t 8) (.bin .lss (.t 4) (.t 7))]).seq
  (PC.cond (.t 8) PC.skip (PC.exit 0))).seq ((PC.block 1 ((PC.regD 0 [nn (.t 11) (.fadr 4 35 (.v 1)),nn (.t 12) (.load 1 false (.t 11)),mm 13 3,nn
  (.t 14) (.iadrS 1 (.t 12) (.t 13)),nn (.t 15) (.load 1 false (.t 14)),nn (.t 16) (.bin .lss (.t 15) (.c (.v (.int .i64 1)))),nn (.t 17) (.mv false
  (.t 16)),⟨.t 18,.fadr 4 35 (.v 1),some (.t 17,false)⟩,⟨.t 19,.load 1 false (.t 18),some (.t 17,false)⟩,gm 20 3 17 false,⟨.t 21,.iadrS 1
  (.t 19) (.t 20),some (.t 17,false)⟩,⟨.t 22,.load 1 false (.t 21),some (.t 17,false)⟩,⟨.t 23,.bin .gtr (.t 22) (.c (.v (.int .i64 21))),some
  (.t 17,false)⟩,nn (.t 24) (.pick (.t 17) (.c (.v (.bool true))) (.t 23)),nn (.t 25) (.mv false (.t 24)),gm 26 3 25 false,⟨.t 27,.bin .gtr (.t
  26) (.c (.v (.int .i64 0))),some (.t 25,false)⟩,⟨.t 28,.mv false (.t 27),some (.t 25,false)⟩,⟨.t 29,.fadr 4 35 (.v 1),some (.t 28,true)⟩,
  ⟨.t 30,.load 1 false (.t 29),some (.t 28,true)⟩,gm 31 3 28 true,⟨.t 32,.bin .sub (.t 31) (.c (.v (.int .i64 1))),some (.t 28,true)⟩,⟨.t 33,
  .iadrS 1 (.t 30) (.t 32),some (.t 28,true)⟩,⟨.t 34,.load 1 false (.t 33),some (.t 28,true)⟩,⟨.t 35,.fadr 4 35 (.v 1),some (.t 28,true)⟩,
  ⟨.t 36,.load 1 false (.t 35),some (.t 28,true)⟩,gm 37 3 28 true,⟨.t 38,.iadrS 1 (.t 36) (.t 37),some (.t 28,true)⟩,⟨.t 39,.load 1 false (.t
  38),some (.t 28,true)⟩,⟨.t 40,.bin .geq (.t 34) (.t 39),some (.t 28,true)⟩,⟨.t 41,.pick (.t 28) (.t 40) (.c (.v (.bool false))),some (.t 25,
  false)⟩,nn (.t 42) (.pick (.t 25) (.c (.v (.bool true))) (.t 41))] []).seq (PC.cond (.t 42) ((PC.reg [nn (.v 2) (.mv true (.c (.v (.bool
  false))))]).seq PC.ret) PC.skip))).seq (PC.reg [mm 9 3,nn (.t 10) (.bin .add (.t 9) (.c (.v (.int .i64 1)))),ma 3 10]))
def pf53:PF:=
 PF.mk 1 4 79 ((PC.reg [nn (.v 1) (.box (.v 0)),nn (.v 2) (.mv true (.c (.v (.bool false))))]).seq (((PC.reg [nn (.v 3) (.mv true (.c (.v (.int .i64
  0))))]).seq (PC.block 0 (PC.loop [1,3] lp53_0))).seq ((PC.reg [nn (.t 43) (.fadr 0 0 (.v 1)),nn (.t 44) (.load 1 false (.t 43)),nn (.t 45) (.bin
  .geq (.t 44) (.c (.v (.int .i64 1)))),nn (.t 46) (.mv false (.t 45)),⟨.t 47,.fadr 0 0 (.v 1),some (.t 46,true)⟩,⟨.t 48,.load 1 false (.t 47),
  some (.t 46,true)⟩,⟨.t 49,.bin .leq (.t 48) (.c (.v (.int .i64 21))),some (.t 46,true)⟩,nn (.t 50) (.pick (.t 46) (.t 49) (.c (.v (.bool
  false)))),nn (.t 51) (.mv false (.t 50)),⟨.t 52,.fadr 1 1 (.v 1),some (.t 51,true)⟩,⟨.t 53,.load 1 false (.t 52),some (.t 51,true)⟩,⟨.t 54,
  .bin .geq (.t 53) (.c (.v (.int .i64 1))),some (.t 51,true)⟩,nn (.t 55) (.pick (.t 51) (.t 54) (.c (.v (.bool false)))),nn (.t 56) (.mv false (.t
  55)),⟨.t 57,.fadr 1 1 (.v 1),some (.t 56,true)⟩,⟨.t 58,.load 1 false (.t 57),some (.t 56,true)⟩,⟨.t 59,.bin .leq (.t 58) (.c (.v (.int .i64
  1099511627776))),some (.t 56,true)⟩,nn (.t 60) (.pick (.t 56) (.t 59) (.c (.v (.bool false)))),nn (.t 61) (.mv false (.t 60)),⟨.t 62,.fadr 2 2
  (.v 1),some (.t 61,true)⟩,⟨.t 63,.load 1 false (.t 62),some (.t 61,true)⟩,⟨.t 64,.bin .geq (.t 63) (.c (.v (.int .i64 0))),some (.t 61,
  true)⟩,nn (.t 65) (.pick (.t 61) (.t 64) (.c (.v (.bool false)))),nn (.t 66) (.mv false (.t 65)),⟨.t 67,.fadr 2 2 (.v 1),some (.t 66,true)⟩,
  ⟨.t 68,.load 1 false (.t 67),some (.t 66,true)⟩,⟨.t 69,.fadr 1 1 (.v 1),some (.t 66,true)⟩,⟨.t 70,.load 1 false (.t 69),some (.t 66,
  true)⟩,⟨.t 71,.bin .lss (.t 68) (.t 70),some (.t 66,true)⟩,nn (.t 72) (.pick (.t 66) (.t 71) (.c (.v (.bool false)))),nn (.t 73) (.mv false (.t
  72)),⟨.t 74,.fadr 4 35 (.v 1),some (.t 73,true)⟩,⟨.t 75,.load 1 false (.t 74),some (.t 73,true)⟩,⟨.t 76,.len (.t 75),some (.t 73,true)⟩,
  ⟨.t 77,.bin .geq (.t 76) (.c (.v (.int .i64 1))),some (.t 73,true)⟩,nn (.t 78) (.pick (.t 73) (.t 77) (.c (.v (.bool false)))),ma 2 78]).seq
  PC.ret))) [(.v 2,none)]
attribute [local irreducible] W Wops WopsD WL Wop WopD
variable {E:Env} {C:Abs.Spec} {l:List (Nat×Spec1)} {G:List (Nat×V)} {Q:R→List (Nat×V)→Prop}
set_option maxHeartbeats 1000000
def ZEi:Spec1
 |[.sli .i64 a,.sli .i64 b],G,Q=>(a.length < 1000000∧b.length < 1000000)∧Q (.v (.bool (decide (a=b)))) G
 |_,_,_=>False
theorem ZEi_eq {a b}:ZEi [.sli .i64 a,.sli .i64 b] G Q=((a.length < 1000000∧b.length < 1000000)∧Q (.v (.bool (decide (a=b)))) G):=rfl
theorem loop115 {QQ:Ex→St→Prop} {fa fb:List Int} (hll:fa.length=fb.length) (hl:fa.length < 1000000)
  (hx:∀(j:Nat) ts,fa=fb→QQ (.exit 0) ⟨[some (.v (.sli .i64 fa)),some (.v (.sli .i64 fb)),none,none,none,none,none,none,none,none,none,none,some (.v (.int .i64 (fa.length:Nat))),some (.v (.int .i64 (j:Nat)))],ts,[],G⟩) (hr:∀σ:St,σ.G=G→St.ev σ (.v 4)=some (.v (.bool false))→fa≠fb→QQ .ret σ):
  ∀(r r2:List Int) (j:Nat),fa.drop j=r→fb.drop j=r2→j≤fa.length→(fa=fb↔r=r2)→WL (W E C lp115_0) [0,1,12,13] QQ (r.length+1) ⟨[some (.v (.sli .i64 fa)),some (.v (.sli .i64 fb)),none,none,none,none,none,none,none,none,none,none,some (.v (.int .i64 (fa.length:Nat))),some (.v (.int .i64 (j:Nat)))],[],[],G⟩:=by
 intro r
 induction r with
 |nil=>
  intro r2 j h1 h0 h2 h3
  have:=drop_none h1
  have c1:¬(j:Int) < (fa.length:Int):=by omega
  refine WL_in lp115_0.eq_1 ?_
  simp -implicitDefEqProofs only[c1,go_sem,↓reduceIte]
  refine hx _ _ (h3.2 ?_)
  rw[←h0,List.drop_eq_nil_of_le (by omega)]
 |cons p r ih=>
  intro r2 j h1 h0 h2 h3
  obtain⟨hd,hj,hlen⟩:=drop_one h1
  obtain⟨p2,r2,rfl⟩:∃p2 r',r2=p2::r':=by
   cases r2 with
   |nil=>have:=drop_none h0;omega
   |cons p2 r2=>exact⟨_,_,rfl⟩
  obtain⟨hd2,hj2,hlen2⟩:=drop_one h0
  have g:=getD_at h1
  have g2:=getD_at h0
  have c1:(j:Int) < (fa.length:Int):=by omega
  have c3:(j:Int) < (fb.length:Int):=by omega
  have c2:(0:Int)≤(j:Int):=by omega
  have w1:IntKind.i64.wrap ((j:Int)+1)=((j+1:Nat):Int):=wc (by omega) (by omega)
  refine WL_in lp115_0.eq_1 ?_
  by_cases e:p=p2
  ·simp -implicitDefEqProofs only[c1,c2,c3,g,g2,w1,Int.toNat_natCast,e,go_sem,↓reduceIte]
   exact ih r2 (j+1) hd hd2 (by omega) (h3.trans (by rw[e];simp))
  ·simp -implicitDefEqProofs only[c1,c2,c3,g,g2,w1,Int.toNat_natCast,e,go_sem,↓reduceIte]
   exact hr _ rfl rfl fun h=>e (by have:=h3.1 h;simp at this;exact this.1)
theorem walk115 {fa fb:List Int} (hl:fa.length < 1000000) (hl2:fb.length < 1000000) (h:Q (.v (.bool (decide (fa=fb)))) G):Wf E C pf115 [.sli .i64 fa,.sli .i64 fb] G Q:=by
 by_cases q5:fa.length=fb.length
 case neg=>
  have q5':¬((fa.length:Nat):Int)=(fb.length:Nat):=by omega
  rw[decide_eq_false (fun e=>q5 (by rw[e]))]at h
  simp -implicitDefEqProofs only[pf115,q5',go_sem,↓reduceIte]
  exact h
 have q5':((fa.length:Nat):Int)=(fb.length:Nat):=by omega
 simp -implicitDefEqProofs only[pf115,q5',go_sem,↓reduceIte]
 rw[←q5]
 refine⟨fa.length+1,?_⟩
 refine loop115 q5 hl (fun j ts e=> ?_) (fun σ e1 e2 e3=> ?_) fa fb 0 rfl rfl (Nat.zero_le _) Iff.rfl
 ·rw[decide_eq_true e]at h
  simp -implicitDefEqProofs only[go_sem,↓reduceIte]
  exact h
 ·show resQ Q σ.G (rD (St.ev σ (.v 4)))
  rw[e1,e2]
  rw[decide_eq_false e3]at h
  exact h
theorem walk93 (hE:Abs.look l 115=some ZEi) {a b:AccS} (hl:a.fr.length < 1000000) (hl2:b.fr.length < 1000000) (h:Q (.v (.bool (sameA a b))) G):Wf E (specOf l) pf93 [a.v,b.v] G Q:=by
 obtain⟨a1,a2,a3,a4,fa,a6⟩:=a
 obtain⟨b1,b2,b3,b4,fb,b6⟩:=b
 have key:∀c:Bool,sameA ⟨a1,a2,a3,a4,fa,a6⟩ ⟨b1,b2,b3,b4,fb,b6⟩=c→Q (.v (.bool c)) G:=fun c e=>by rw[←e];exact h
 have no:¬(a1=b1∧a2=b2∧a3=b3∧a4=b4∧fa=fb∧a6=b6)→Q (.v (.bool false)) G:=fun e=>key _ (decide_eq_false e)
 simp -implicitDefEqProofs only[pf93,AccS.v,go_sem,↓reduceIte]
 by_cases q1:a1=b1
 case neg=>simp -implicitDefEqProofs only[q1,go_sem,↓reduceIte];exact no fun e=>q1 e.1
 by_cases q2:a2=b2
 case neg=>simp -implicitDefEqProofs only[q1,q2,go_sem,↓reduceIte];exact no fun e=>q2 e.2.1
 by_cases q3:a3=b3
 case neg=>simp -implicitDefEqProofs only[q1,q2,q3,go_sem,↓reduceIte];exact no fun e=>q3 e.2.2.1
 simp -implicitDefEqProofs only[q1,q2,q3,go_sem,↓reduceIte]
 by_cases q4:a4=b4
 case neg=>
  have q4':(a4==b4)=false:=by simpa using q4
  simp -implicitDefEqProofs only[q4',go_sem,↓reduceIte];exact no fun e=>q4 e.2.2.2.1
 have q4':(a4==b4)=true:=by simpa using q4
 simp -implicitDefEqProofs only[q4',hE,ZEi_eq,go_sem,↓reduceIte]
 refine⟨⟨hl,hl2⟩,?_⟩
 by_cases q5:fa=fb
 case neg=>
  simp -implicitDefEqProofs only[q5,go_sem,↓reduceIte];exact no fun e=>q5 e.2.2.2.2.1
 simp -implicitDefEqProofs only[q5,go_sem,↓reduceIte]
 refine key _ ?_
 unfold sameA
 rw[Bool.eq_iff_iff]
 simp[q1,q2,q3,q4,q5]
def ZM10:Spec1
 |[.agg [.int .i64 a1,.int .i64 a2,.int .i64 a3,.arr .u8 32 a4,x,.arr .u8 32 a6]],G,Q=>∃fr:List Int,(FrV G x fr∧(⟨a1,a2,a3,a4,fr,a6⟩:AccS).wf∧fr.length < 1000000)∧Q (.v (.bool (⟨a1,a2,a3,a4,fr,a6⟩:AccS).may)) G
 |_,_,_=>False
theorem ZM10_eq {a1 a2 a3 a4 x a6}:ZM10 [.agg [.int .i64 a1,.int .i64 a2,.int .i64 a3,.arr .u8 32 a4,x,.arr .u8 32 a6]] G Q=(∃fr:List Int,(FrV G x fr∧(⟨a1,a2,a3,a4,fr,a6⟩:AccS).wf∧fr.length < 1000000)∧Q (.v (.bool (⟨a1,a2,a3,a4,fr,a6⟩:AccS).may)) G):=rfl
theorem loop53i {QQ:Ex→St→Prop} {a1 a2 a3:Int} {a4 a6 fr:List Int} (hl:fr.length < 1000000)
  (hx:∀(j:Nat) ts,riseI 21 0 fr=true→QQ (.exit 0) ⟨[none,some (.lp 0 []),none,some (.v (.int .i64 (j:Nat)))],ts,[⟨false,.agg [.int .i64 a1,.int .i64 a2,.int .i64 a3,.arr .u8 32 a4,.sli .i64 fr,.arr .u8 32 a6]⟩],G⟩)
  (hr:∀σ:St,σ.G=G→St.ev σ (.v 2)=some (.v (.bool false))→riseI 21 0 fr=false→QQ .ret σ):
  ∀(r:List Int) (j:Nat) (low:Int),fr.drop j=r→j≤fr.length→((j=0∧low=0)∨(1≤j∧1≤low∧fr[j-1]? =some low))→riseI 21 0 fr=riseI 21 low r→WL (W E C lp53_0) [1,3] QQ (r.length+1) ⟨[none,some (.lp 0 []),none,some (.v (.int .i64 (j:Nat)))],[],[⟨false,.agg [.int .i64 a1,.int .i64 a2,.int .i64 a3,.arr .u8 32 a4,.sli .i64 fr,.arr .u8 32 a6]⟩],G⟩:=by
 intro r
 induction r with
 |nil=>
  intro j low h1 h2 hlow h3
  have:=drop_none h1
  have c1:¬(j:Int) < (fr.length:Int):=by omega
  refine WL_in lp53_0.eq_1 ?_
  simp -implicitDefEqProofs only[c1,go_sem,↓reduceIte]
  exact hx _ _ h3
 |cons p r ih=>
  intro j low h1 h2 hlow h3
  obtain⟨hd,hj,hlen⟩:=drop_one h1
  have hjp:=at_drop h1
  have g:=getD_at h1
  have c1:(j:Int) < (fr.length:Int):=by omega
  have c2:(0:Int)≤(j:Int):=by omega
  have w1:IntKind.i64.wrap ((j:Int)+1)=((j+1:Nat):Int):=wc (by omega) (by omega)
  have next:=fun (hlo:¬(p≤low∨21 < p))=>ih (j+1) p hd (by omega) (.inr ⟨by omega,by omega,by rw[Nat.add_sub_cancel];exact hjp⟩) (by rw[h3];exact if_neg hlo)
  have stop:=fun (hlo:p≤low∨21 < p)=>(by rw[h3];exact if_pos hlo:riseI 21 0 fr=false)
  refine WL_in lp53_0.eq_1 ?_
  by_cases r1:p < 1
  ·have r1p:¬1≤p:=by omega
   simp -implicitDefEqProofs only[c1,c2,g,w1,Int.toNat_natCast,r1,r1p,go_sem,↓reduceIte]
   skip
   exact hr _ rfl rfl (stop (by omega))
  have r1n:1≤p:=by omega
  by_cases r2:21 < p
  ·have r2p:¬p≤21:=by omega
   simp -implicitDefEqProofs only[c1,c2,g,w1,Int.toNat_natCast,r1,r1n,r2,r2p,go_sem,↓reduceIte]
   skip
   exact hr _ rfl rfl (stop (by omega))
  have r2n:p≤21:=by omega
  rcases hlow with⟨rfl,rfl⟩|⟨hj1,hlo1,hjl⟩
  ·have c1z:(0:Int) < (fr.length:Int):=by omega
   have c1y:¬(fr.length:Int)≤0:=by omega
   have w0:IntKind.i64.wrap ((0:Int)+1)=((0+1:Nat):Int):=by decide
   simp -implicitDefEqProofs only[c1z,c1y,g,w0,Int.toNat_natCast,Int.toNat_zero,r1,r1n,r2,r2n,Int.natCast_zero,Int.lt_irrefl,go_sem,↓reduceIte]
   skip
   exact next (by omega)
  ·have w2:IntKind.i64.wrap ((j:Int)-1)=((j-1:Nat):Int):=wc (by omega) (by omega)
   have g2:=(by rw[List.getD_eq_getElem?_getD,hjl];rfl:fr.getD (j-1) 0=low)
   have c0:(0:Int) < (j:Int):=by omega
   have c4:(0:Int)≤((j-1:Nat):Int):=by omega
   have c5:((j-1:Nat):Int) < (fr.length:Int):=by omega
   by_cases r3:p≤low
   ·have r3n:¬low < p:=by omega
    simp -implicitDefEqProofs only[c0,c1,c2,c4,c5,g,g2,w1,w2,Int.toNat_natCast,r1,r1n,r2,r2n,r3,r3n,go_sem,↓reduceIte]
    skip
    exact hr _ rfl rfl (stop (by omega))
   ·have r3n:low < p:=by omega
    simp -implicitDefEqProofs only[c0,c1,c2,c4,c5,g,g2,w1,w2,Int.toNat_natCast,r1,r1n,r2,r2n,r3,r3n,go_sem,↓reduceIte]
    skip
    exact next (by omega)
theorem walk53i {a1 a2 a3:Int} {a4 a6 fr:List Int} (hl:fr.length < 1000000) (hw:(⟨a1,a2,a3,a4,fr,a6⟩:AccS).wf) (h:Q (.v (.bool (⟨a1,a2,a3,a4,fr,a6⟩:AccS).may)) G):Wf E C pf53 [.agg [.int .i64 a1,.int .i64 a2,.int .i64 a3,.arr .u8 32 a4,.sli .i64 fr,.arr .u8 32 a6]] G Q:=by
 have key:∀b:Bool,(⟨a1,a2,a3,a4,fr,a6⟩:AccS).may=b→Q (.v (.bool b)) G:=fun b e=>by rw[←e];exact h
 simp -implicitDefEqProofs only[pf53,go_sem,↓reduceIte]
 refine⟨fr.length+1,?_⟩
 refine loop53i (hl) (fun j ts e=> ?_) (fun σ e1 e2 e3=> ?_) fr 0 0 rfl (Nat.zero_le _) (.inl ⟨rfl,rfl⟩) rfl
 rotate_left
 ·show resQ Q σ.G (rD (St.ev σ (.v 2)))
  rw[e1,e2]
  exact key _ (decide_eq_false fun hM=>by have:=hM.2.2.2.2;dsimp only at this;rw[e3]at this;cases this)
 have hM:∀b:Bool,(b=true↔(1≤a1∧a1≤21∧1≤a2∧a2≤1099511627776∧0≤a3∧a3 < a2∧(1:Int)≤(fr.length:Nat)))→Q (.v (.bool b)) G:=fun b hb=>key b (by
  rw[Bool.eq_iff_iff,hb]
  unfold AccS.may
  rw[decide_eq_true_eq]
  constructor
  ·intro hM;obtain⟨m1,m2,m3,m4,m5⟩:=hM
   have:=List.length_pos_iff.2 m4
   dsimp only at m1 m2 m3 this
   omega
  ·intro hc
   exact⟨⟨hc.1,hc.2.1⟩,⟨hc.2.2.1,hc.2.2.2.1⟩,⟨hc.2.2.2.2.1,hc.2.2.2.2.2.1⟩,List.length_pos_iff.1 (by have:=hc.2.2.2.2.2.2;dsimp only;omega),e⟩)
 simp -implicitDefEqProofs only[go_sem,↓reduceIte]
 repeat' first|(intro _)|constructor
 all_goals
  refine hM _ ?_
  first
  |(constructor<;>intro hh<;>first|(cases hh;done)|rfl|omega|exact absurd hh (by omega))
  |(rw[decide_eq_true_eq];constructor<;>intro hh<;>omega)
  |(constructor
    ·intro hh;cases hh
    ·intro hh;have:=hh.2.2.2.2.2.2;simp at this)
theorem walk53n {a1 a2 a3:Int} {a4 a6:List Int} (hl:([]:List Int).length < 1000000) (hw:(⟨a1,a2,a3,a4,[],a6⟩:AccS).wf) (h:Q (.v (.bool (⟨a1,a2,a3,a4,[],a6⟩:AccS).may)) G):Wf E C pf53 [.agg [.int .i64 a1,.int .i64 a2,.int .i64 a3,.arr .u8 32 a4,.nils,.arr .u8 32 a6]] G Q:=by
 have key:∀b:Bool,(⟨a1,a2,a3,a4,[],a6⟩:AccS).may=b→Q (.v (.bool b)) G:=fun b e=>by rw[←e];exact h
 simp -implicitDefEqProofs only[pf53,go_sem,↓reduceIte]
 refine⟨0+1,?_⟩
 refine WL_in lp53_0.eq_1 ?_
 have hM:∀b:Bool,(b=true↔(1≤a1∧a1≤21∧1≤a2∧a2≤1099511627776∧0≤a3∧a3 < a2∧(1:Int)≤(([]:List Int).length:Nat)))→Q (.v (.bool b)) G:=fun b hb=>key b (by
  rw[Bool.eq_iff_iff,hb]
  unfold AccS.may
  rw[decide_eq_true_eq]
  constructor
  ·intro hM;obtain⟨m1,m2,m3,m4,m5⟩:=hM
   have:=List.length_pos_iff.2 m4
   dsimp only at m1 m2 m3 this
   omega
  ·intro hc
   exact⟨⟨hc.1,hc.2.1⟩,⟨hc.2.2.1,hc.2.2.2.1⟩,⟨hc.2.2.2.2.1,hc.2.2.2.2.2.1⟩,List.length_pos_iff.1 (by have:=hc.2.2.2.2.2.2;dsimp only;omega),rfl⟩)
 simp -implicitDefEqProofs only[go_sem,↓reduceIte]
 repeat' first|(intro _)|constructor
 all_goals
  refine hM _ ?_
  first
  |(constructor<;>intro hh<;>first|(cases hh;done)|rfl|omega|exact absurd hh (by omega))
  |(rw[decide_eq_true_eq];constructor<;>intro hh<;>omega)
  |(constructor
    ·intro hh;cases hh
    ·intro hh;have:=hh.2.2.2.2.2.2;simp at this)
theorem loop53s {QQ:Ex→St→Prop} {a1 a2 a3:Int} {a4 a6 fr:List Int} {id c:Nat} {LL:List V} (hG:Abs.look G id=some (.agg LL)) (hLL:∀(i:Nat) p,fr[i]? =some p→LL[i]? =some (.int .i64 p)) (hfl:fr.length≤LL.length) (hsz:∀y∈LL,V.size y=1) (hl:fr.length < 1000000)
  (hx:∀(j:Nat) ts,riseI 21 0 fr=true→QQ (.exit 0) ⟨[none,some (.lp 0 []),none,some (.v (.int .i64 (j:Nat)))],ts,[⟨false,.agg [.int .i64 a1,.int .i64 a2,.int .i64 a3,.arr .u8 32 a4,.sob id 1 0 fr.length c,.arr .u8 32 a6]⟩],G⟩)
  (hr:∀σ:St,σ.G=G→St.ev σ (.v 2)=some (.v (.bool false))→riseI 21 0 fr=false→QQ .ret σ):
  ∀(r:List Int) (j:Nat) (low:Int),fr.drop j=r→j≤fr.length→((j=0∧low=0)∨(1≤j∧1≤low∧fr[j-1]? =some low))→riseI 21 0 fr=riseI 21 low r→WL (W E C lp53_0) [1,3] QQ (r.length+1) ⟨[none,some (.lp 0 []),none,some (.v (.int .i64 (j:Nat)))],[],[⟨false,.agg [.int .i64 a1,.int .i64 a2,.int .i64 a3,.arr .u8 32 a4,.sob id 1 0 fr.length c,.arr .u8 32 a6]⟩],G⟩:=by
 intro r
 induction r with
 |nil=>
  intro j low h1 h2 hlow h3
  have:=drop_none h1
  have c1:¬(j:Int) < (fr.length:Int):=by omega
  refine WL_in lp53_0.eq_1 ?_
  simp -implicitDefEqProofs only[c1,go_sem,↓reduceIte]
  exact hx _ _ h3
 |cons p r ih=>
  intro j low h1 h2 hlow h3
  obtain⟨hd,hj,hlen⟩:=drop_one h1
  have hjp:=at_drop h1
  have g:=hLL j p (at_drop h1)
  have c1:(j:Int) < (fr.length:Int):=by omega
  have c2:(0:Int)≤(j:Int):=by omega
  have w1:IntKind.i64.wrap ((j:Int)+1)=((j+1:Nat):Int):=wc (by omega) (by omega)
  have next:=fun (hlo:¬(p≤low∨21 < p))=>ih (j+1) p hd (by omega) (.inr ⟨by omega,by omega,by rw[Nat.add_sub_cancel];exact hjp⟩) (by rw[h3];exact if_neg hlo)
  have stop:=fun (hlo:p≤low∨21 < p)=>(by rw[h3];exact if_pos hlo:riseI 21 0 fr=false)
  refine WL_in lp53_0.eq_1 ?_
  by_cases r1:p < 1
  ·have r1p:¬1≤p:=by omega
   simp -implicitDefEqProofs only[c1,c2,g,hG,w1,Int.toNat_natCast,r1,r1p,go_sem,↓reduceIte]
   repeat (first|refine And.intro ⟨by omega,hsz⟩ ?_|refine And.intro ⟨⟨by omega,by omega⟩,by omega,hsz⟩ ?_|refine And.intro ⟨⟨by omega,by omega⟩,by omega⟩ ?_)
   exact hr _ rfl rfl (stop (by omega))
  have r1n:1≤p:=by omega
  by_cases r2:21 < p
  ·have r2p:¬p≤21:=by omega
   simp -implicitDefEqProofs only[c1,c2,g,hG,w1,Int.toNat_natCast,r1,r1n,r2,r2p,go_sem,↓reduceIte]
   repeat (first|refine And.intro ⟨by omega,hsz⟩ ?_|refine And.intro ⟨⟨by omega,by omega⟩,by omega,hsz⟩ ?_|refine And.intro ⟨⟨by omega,by omega⟩,by omega⟩ ?_)
   exact hr _ rfl rfl (stop (by omega))
  have r2n:p≤21:=by omega
  rcases hlow with⟨rfl,rfl⟩|⟨hj1,hlo1,hjl⟩
  ·have c1z:(0:Int) < (fr.length:Int):=by omega
   have c1y:¬(fr.length:Int)≤0:=by omega
   have w0:IntKind.i64.wrap ((0:Int)+1)=((0+1:Nat):Int):=by decide
   simp -implicitDefEqProofs only[c1z,c1y,g,hG,w0,Int.toNat_natCast,Int.toNat_zero,r1,r1n,r2,r2n,Int.natCast_zero,Int.lt_irrefl,go_sem,↓reduceIte]
   repeat (first|refine And.intro ⟨by omega,hsz⟩ ?_|refine And.intro ⟨⟨by omega,by omega⟩,by omega,hsz⟩ ?_|refine And.intro ⟨⟨by omega,by omega⟩,by omega⟩ ?_)
   exact next (by omega)
  ·have w2:IntKind.i64.wrap ((j:Int)-1)=((j-1:Nat):Int):=wc (by omega) (by omega)
   have g2:=hLL _ _ hjl
   have c0:(0:Int) < (j:Int):=by omega
   have c4:(0:Int)≤((j-1:Nat):Int):=by omega
   have c5:((j-1:Nat):Int) < (fr.length:Int):=by omega
   by_cases r3:p≤low
   ·have r3n:¬low < p:=by omega
    simp -implicitDefEqProofs only[c0,c1,c2,c4,c5,g,g2,hG,w1,w2,Int.toNat_natCast,r1,r1n,r2,r2n,r3,r3n,go_sem,↓reduceIte]
    repeat (first|refine And.intro ⟨by omega,hsz⟩ ?_|refine And.intro ⟨⟨by omega,by omega⟩,by omega,hsz⟩ ?_|refine And.intro ⟨⟨by omega,by omega⟩,by omega⟩ ?_)
    exact hr _ rfl rfl (stop (by omega))
   ·have r3n:low < p:=by omega
    simp -implicitDefEqProofs only[c0,c1,c2,c4,c5,g,g2,hG,w1,w2,Int.toNat_natCast,r1,r1n,r2,r2n,r3,r3n,go_sem,↓reduceIte]
    repeat (first|refine And.intro ⟨by omega,hsz⟩ ?_|refine And.intro ⟨⟨by omega,by omega⟩,by omega,hsz⟩ ?_|refine And.intro ⟨⟨by omega,by omega⟩,by omega⟩ ?_)
    exact next (by omega)
theorem walk53s {a1 a2 a3:Int} {a4 a6 fr:List Int} {id c:Nat} {LL:List V} (hG:Abs.look G id=some (.agg LL)) (hLL:∀(i:Nat) p,fr[i]? =some p→LL[i]? =some (.int .i64 p)) (hfl:fr.length≤LL.length) (hsz:∀y∈LL,V.size y=1) (hl:fr.length < 1000000) (hw:(⟨a1,a2,a3,a4,fr,a6⟩:AccS).wf) (h:Q (.v (.bool (⟨a1,a2,a3,a4,fr,a6⟩:AccS).may)) G):Wf E C pf53 [.agg [.int .i64 a1,.int .i64 a2,.int .i64 a3,.arr .u8 32 a4,.sob id 1 0 fr.length c,.arr .u8 32 a6]] G Q:=by
 have key:∀b:Bool,(⟨a1,a2,a3,a4,fr,a6⟩:AccS).may=b→Q (.v (.bool b)) G:=fun b e=>by rw[←e];exact h
 simp -implicitDefEqProofs only[pf53,go_sem,↓reduceIte]
 refine⟨fr.length+1,?_⟩
 refine loop53s hG hLL hfl hsz (hl) (fun j ts e=> ?_) (fun σ e1 e2 e3=> ?_) fr 0 0 rfl (Nat.zero_le _) (.inl ⟨rfl,rfl⟩) rfl
 rotate_left
 ·show resQ Q σ.G (rD (St.ev σ (.v 2)))
  rw[e1,e2]
  exact key _ (decide_eq_false fun hM=>by have:=hM.2.2.2.2;dsimp only at this;rw[e3]at this;cases this)
 have hM:∀b:Bool,(b=true↔(1≤a1∧a1≤21∧1≤a2∧a2≤1099511627776∧0≤a3∧a3 < a2∧(1:Int)≤(fr.length:Nat)))→Q (.v (.bool b)) G:=fun b hb=>key b (by
  rw[Bool.eq_iff_iff,hb]
  unfold AccS.may
  rw[decide_eq_true_eq]
  constructor
  ·intro hM;obtain⟨m1,m2,m3,m4,m5⟩:=hM
   have:=List.length_pos_iff.2 m4
   dsimp only at m1 m2 m3 this
   omega
  ·intro hc
   exact⟨⟨hc.1,hc.2.1⟩,⟨hc.2.2.1,hc.2.2.2.1⟩,⟨hc.2.2.2.2.1,hc.2.2.2.2.2.1⟩,List.length_pos_iff.1 (by have:=hc.2.2.2.2.2.2;dsimp only;omega),e⟩)
 simp -implicitDefEqProofs only[go_sem,↓reduceIte]
 repeat' first|(intro _)|constructor
 all_goals
  refine hM _ ?_
  first
  |(constructor<;>intro hh<;>first|(cases hh;done)|rfl|omega|exact absurd hh (by omega))
  |(rw[decide_eq_true_eq];constructor<;>intro hh<;>omega)
  |(constructor
    ·intro hh;cases hh
    ·intro hh;have:=hh.2.2.2.2.2.2;simp at this)
def pf99:PF:=
 PF.mk 2 5 20 ((PC.reg [nn (.v 3) (.box (.v 1)),nn (.v 4) (.mv true (.c (.own .nils)))]).seq (((PC.reg [nn (.t 5) (.load 68 true (.v 3)),nn (.t 6)
  (.call 122 [.t 5]),nn (.t 7) (.un .not (.t 6))]).seq (PC.cond (.t 7) ((PC.reg [mm 8 0,nn (.t 9) (.call 118 [.t 8]),ma 4 9]).seq PC.ret)
  PC.skip)).seq ((PC.regD 0 [mm 10 0,nn (.t 11) (.fadr 0 0 (.v 3)),nn (.t 12) (.load 1 false (.t 11)),nn (.t 13) (.conv .u64 (.t 12)),nn (.t 14)
  (.call 120 [.t 10,.t 13]),nn (.t 15) (.load 68 true (.v 3)),nn (.t 16) (.call 123 [.t 14,.t 15]),nn (.t 17) (.fadr 5 36 (.v 3)),nn (.t 18)
  (.load 32 true (.t 17)),nn (.t 19) (.call 97 [.t 16,.t 18]),ma 4 19] []).seq PC.ret))) [(.v 4,none)]
def rdV (r:List Int) (w:Bool):V:= .agg [.sli .u8 r,.bool w]
def ZPu:Spec1
 |[x,y],G,Q=>∃(b:List Int) (a:AccS),(byV x=some b∧b.length < 100000000∧y=a.v∧a.wf∧a.fr.length < 1000000)∧Q (.own (.sli .u8 (if a.may=true then b++a.bytes else b))) G
 |_,_,_=>False
theorem ZPu_eq {x y}:ZPu [x,y] G Q=(∃(b:List Int) (a:AccS),(byV x=some b∧b.length < 100000000∧y=a.v∧a.wf∧a.fr.length < 1000000)∧Q (.own (.sli .u8 (if a.may=true then b++a.bytes else b))) G):=rfl
theorem walk99 {b:List Int} {a:AccS} (hM:Abs.look l 122=some ZMa) (hC:Abs.look l 118=some SCl) (hN:Abs.look l 120=some SNu) (hT:Abs.look l 123=some ZTg) (hH:Abs.look l 97=some SHa)
  (hb:b.length < 100000000) (hw:a.wf) (hl:a.fr.length < 1000000) (h:Q (.own (.sli .u8 (if a.may=true then b++a.bytes else b))) G):Wf E (specOf l) pf99 [.sli .u8 b,a.v] G Q:=by
 obtain⟨a1,a2,a3,a4,fr,a6⟩:=a
 by_cases hm:AccS.May ⟨a1,a2,a3,a4,fr,a6⟩
 ·have hmay:AccS.may ⟨a1,a2,a3,a4,fr,a6⟩=true:=decide_eq_true hm
  obtain⟨m1,m2⟩:=hm.1
  dsimp only at m1 m2
  obtain⟨s1,s2⟩:=AccS.said_ok hw hm
  obtain⟨r1,n1⟩:=num_ok (n:=a1.toNat) (by omega)
  have w1:=u64_of (n:=a1) (by omega) (by omega)
  rw[if_pos hmay]at h
  unfold AccS.bytes at h
  simp -implicitDefEqProofs only[pf99,AccS.v,hM,ZMa_eq,go_sem,↓reduceIte]
  refine⟨fr,⟨.inl rfl,hw,hl⟩,?_⟩
  simp -implicitDefEqProofs only[hmay,hN,SNu_eq,w1,hT,ZTg_eq,hH,SHa_eq,go_sem,↓reduceIte]
  refine⟨b,⟨rfl,by omega,by omega,by omega⟩,_,fr,⟨byV_u8 _,by rw[List.length_append];omega,.inl rfl,hw,hm⟩,_,⟨byV_u8 _,by simp only[List.length_append];omega,hw.ta.2⟩,?_⟩
  simpa only[List.append_assoc]using h
 ·have hmay:AccS.may ⟨a1,a2,a3,a4,fr,a6⟩=false:=decide_eq_false hm
  rw[if_neg (by rw[hmay];exact Bool.false_ne_true)]at h
  simp -implicitDefEqProofs only[pf99,AccS.v,hM,ZMa_eq,go_sem,↓reduceIte]
  refine⟨fr,⟨.inl rfl,hw,hl⟩,?_⟩
  simp -implicitDefEqProofs only[hmay,hC,SCl_eq,go_sem,↓reduceIte]
  exact⟨b,⟨rfl,by omega⟩,h⟩
end Go.Proofs.Ytjbglbhcbenhpaa.Sha
namespace Go.Abs
open Go Go.RowKit
set_option linter.unusedVariables false
set_option linter.unusedSimpArgs false
namespace Sha
theorem byS_len {s:ByteArray}:(byS s).length=s.size:=by simp[byS]
theorem byS_byt {s:ByteArray}:Byt (byS s):=fun x hx=>by
 unfold byS at hx
 obtain⟨b,_,rfl⟩:=List.mem_map.1 hx
 have:=b.toNat_lt
 omega
abbrev nos:ByteArray:=⟨⟨[]⟩⟩
theorem loop_toList (s:ByteArray):∀(k i:Nat) (r:List UInt8),s.size-i=k→ByteArray.toList.loop s i r=r.reverse++s.data.toList.drop i:=by
 intro k
 induction k with
 |zero=>
  intro i r hk
  rw[ByteArray.toList.loop,if_neg (by omega),List.drop_eq_nil_of_le (by show s.size≤i;omega),List.append_nil]
 |succ k ih=>
  intro i r hk
  have hi:i < s.size:=by omega
  rw[ByteArray.toList.loop,if_pos hi,ih (i+1) _ (by omega)]
  have hi2:i < s.data.toList.length:=hi
  rw[List.drop_eq_getElem_cons hi2]
  simp[ByteArray.get!]
  rw[Array.getElem!_eq_getD,Array.getD_eq_getD_getElem?]
  have:s.data[i]? =some (s.data[i]'hi):=Array.getElem?_eq_getElem hi
  rw[this];rfl
theorem bs_toList (s:ByteArray):s.toList=s.data.toList:=by
 unfold ByteArray.toList
 rw[loop_toList s _ 0 [] rfl];simp
theorem bs_eq {a b:ByteArray}:(a.toList==b.toList)=decide (a=b):=by
 rw[Bool.eq_iff_iff,beq_iff_eq,decide_eq_true_iff,bs_toList,bs_toList]
 refine⟨fun h=> ?_,fun h=>by rw[h]⟩
 apply ByteArray.ext;exact Array.toList_inj.1 h
def txt (b:List Int):List Int:=num b.length++b
structure TxS where
 fr:Int
 no:Int
 ki:Int
 to:Int
 am:Int
 key:ByteArray
 val:ByteArray
deriving DecidableEq
def TxS.v (t:TxS):V:= .agg [.int .i64 t.fr,.int .i64 t.no,.int .i64 t.ki,.int .i64 t.to,.int .i64 t.am,.str t.key,.str t.val]
def TxS.zero:TxS:=⟨0,0,0,0,0,nos,nos⟩
def chOk (c:Int):Prop:=(97≤c∧c≤122)∨(48≤c∧c≤57)
instance (c:Int):Decidable (chOk c):=by unfold chOk;infer_instance
def KeyOk (b:List Int):Prop:=(∀c∈b,chOk c)∧1≤b.length∧b.length≤16
instance (b:List Int):Decidable (KeyOk b):=by unfold KeyOk;infer_instance
def TxS.May (t:TxS):Prop:=(1≤t.fr∧t.fr≤40)∧(1≤t.no∧t.no≤1099511627776)∧
 ((t.ki=1∧(1≤t.to∧t.to≤40)∧(0≤t.am∧t.am≤1099511627776)∧t.key=nos∧t.val=nos)∨
  (t.ki=2∧t.to=0∧t.am=0∧KeyOk (byS t.key)∧t.val.size≤200)∨
  (t.ki=3∧t.to=0∧t.am=0∧KeyOk (byS t.key)∧t.val=nos))
instance (t:TxS):Decidable t.May:=by unfold TxS.May;infer_instance
def TxS.may (t:TxS):Bool:=decide t.May
def TxS.bytes (t:TxS):List Int:=num t.fr.toNat++num t.no.toNat++num t.ki.toNat++
 (if t.ki=1 then num t.to.toNat++num t.am.toNat else txt (byS t.key)++(if t.ki=2 then txt (byS t.val)else []))
structure RdTx (b:List Int) (t:TxS) (r:List Int):Prop where
 byt:Byt r
 len:r.length≤b.length
 suf:∃u,b=u++r
 key:t.key.size≤b.length
 val:t.val.size≤b.length
 fr:0≤t.fr∧t.fr≤40
 no:0≤t.no∧t.no≤1099511627776
 ki:0≤t.ki∧t.ki≤3
 to:0≤t.to∧t.to≤40
 am:0≤t.am∧t.am≤1099511627776
theorem txt_ok {b:List Int} (hb:Byt b) (hl:b.length≤65536):Byt (txt b)∧(txt b).length≤b.length+10:=by
 obtain⟨h1,h2⟩:=num_ok (n:=b.length) (by omega)
 exact⟨byt_app h1 hb,by unfold txt;rw[List.length_append];omega⟩
theorem TxS.bytes_ok {t:TxS} (h:t.May):Byt t.bytes∧t.bytes.length≤300∧0 < t.bytes.length:=by
 obtain⟨⟨a1,a2⟩,⟨b1,b2⟩,h⟩:=h
 obtain⟨f1,f2⟩:=num_ok (n:=t.fr.toNat) (by omega)
 obtain⟨g1,g2⟩:=num_ok (n:=t.no.toNat) (by omega)
 have p1:=num_pos t.fr.toNat
 have kk:0≤t.ki∧t.ki≤3:=by omega
 obtain⟨k1,k2⟩:=num_ok (n:=t.ki.toNat) (by omega)
 unfold TxS.bytes
 rcases h with⟨e1,c,d,_,_⟩|⟨e1,_,_,⟨_,k3,k4⟩,v⟩|⟨e1,_,_,⟨_,k3,k4⟩,_⟩
 ·obtain⟨x1,x2⟩:=num_ok (n:=t.to.toNat) (by omega)
  obtain⟨y1,y2⟩:=num_ok (n:=t.am.toNat) (by omega)
  rw[if_pos e1]
  refine⟨byt_app (byt_app (byt_app f1 g1) k1) (byt_app x1 y1),?_,?_⟩<;>simp only[List.length_append]<;>omega
 ·obtain⟨x1,x2⟩:=txt_ok (b:=byS t.key) byS_byt (by omega)
  obtain⟨y1,y2⟩:=txt_ok (b:=byS t.val) byS_byt (by rw[byS_len];omega)
  rw[byS_len]at y2
  rw[if_neg (by omega),if_pos e1]
  refine⟨byt_app (byt_app (byt_app f1 g1) k1) (byt_app x1 y1),?_,?_⟩<;>simp only[List.length_append]<;>omega
 ·obtain⟨x1,x2⟩:=txt_ok (b:=byS t.key) byS_byt (by omega)
  rw[if_neg (by omega),if_neg (by omega),List.append_nil]
  refine⟨byt_app (byt_app (byt_app f1 g1) k1) x1,?_,?_⟩<;>simp only[List.length_append]<;>omega
end Sha
end Go.Abs
namespace Go.Proofs.Ytjbglbhcbenhpaa.Sha
open Go Go.Abs Go.Abs.Sha Go.Abs.Srt
set_option linter.unusedSimpArgs false
set_option linter.unusedVariables false
set_option maxRecDepth 100000
def pf101:PF:=
 PF.mk 2 5 17 ((PC.reg [nn (.v 4) (.mv true (.c (.own .nils)))]).seq ((PC.reg [mm 5 1,mm 6 1,nn (.t 7) (.len (.t 6)),nn (.t 8) (.mm false [.t 7,.c
  (.v (.int .i64 65536))]),nn (.t 9) (.slcS 1 (.t 5) none (some (.t 8)) none),ma 1 9]).seq ((PC.reg [mm 10 0,mm 11 1,nn (.t 12) (.len (.t 11)),nn
  (.t 13) (.conv .u64 (.t 12)),nn (.t 14) (.call 120 [.t 10,.t 13]),mm 15 1,nn (.t 16) (.app (some .u8) 1 1 (.t 14) (.t 15)),ma 4 16]).seq
  PC.ret))) [(.v 4,none)]
def pf82:PF:=
 PF.mk 3 7 15 ((PC.reg [nn (.v 6) (.mv true (.c (.v (.bool false))))]).seq ((PC.reg [mm 7 0,mm 8 1,nn (.t 9) (.bin .geq (.t 7) (.t 8)),nn (.t 10)
  (.mv false (.t 9)),gm 11 0 10 true,gm 12 2 10 true,⟨.t 13,.bin .leq (.t 11) (.t 12),some (.t 10,true)⟩,nn (.t 14) (.pick (.t 10) (.t 13) (.c
  (.v (.bool false)))),ma 6 14]).seq PC.ret)) [(.v 6,none)]
def lp83_0:PC:=
 (PC.reg [nn (.t 9) (.bin .lss (.v 8) (.v 7))]).seq ((PC.cond (.t 9) PC.skip (PC.exit 0)).seq ((PC.block 1 ((PC.reg [nn (.t 10) (.iadrS 1 (.v 6) (.v
  8)),nn (.t 11) (.load 1 false (.t 10)),ma 4 11]).seq ((PC.reg [mm 12 4,nn (.t 13) (.bin .lss (.t 12) (.c (.v (.int .u8 97)))),nn (.t 14) (.mv
  false (.t 13)),gm 15 4 14 false,⟨.t 16,.bin .gtr (.t 15) (.c (.v (.int .u8 122))),some (.t 14,false)⟩,nn (.t 17) (.pick (.t 14) (.c (.v (.bool
  true))) (.t 16)),nn (.t 18) (.mv false (.t 17)),gm 19 4 18 true,⟨.t 20,.bin .lss (.t 19) (.c (.v (.int .u8 48))),some (.t 18,true)⟩,⟨.t 21,
  .mv false (.t 20),some (.t 18,true)⟩,gm 22 4 21 false,⟨.t 23,.bin .gtr (.t 22) (.c (.v (.int .u8 57))),some (.t 21,false)⟩,⟨.t 24,.pick (.t
  21) (.c (.v (.bool true))) (.t 23),some (.t 18,true)⟩,nn (.t 25) (.pick (.t 18) (.t 24) (.c (.v (.bool false))))]).seq (PC.cond (.t 25) ((PC.reg
  [nn (.v 2) (.mv true (.c (.v (.bool false))))]).seq PC.ret) PC.skip)))).seq (PC.reg [nn (.t 26) (.bin .add (.v 8) (.c (.v (.int .i64 1)))),nn (.v 8)
  (.mv false (.t 26))])))
def pf83:PF:=
 PF.mk 1 9 30 ((PC.reg [nn (.v 2) (.mv true (.c (.v (.bool false))))]).seq (((PC.reg [nn (.v 5) (.mv false (.v 0)),nn (.v 6) (.s2b false (.v 5)),nn
  (.v 7) (.len (.v 6)),nn (.v 8) (.mv false (.c (.v (.int .i64 0))))]).seq (PC.block 0 (PC.loop [0,6,7,8] lp83_0))).seq ((PC.reg [mm 27 0,nn (.t
  28) (.lenT (.t 27)),nn (.t 29) (.call 82 [.t 28,.c (.v (.int .i64 1)),.c (.v (.int .i64 16))]),ma 2 29]).seq PC.ret))) [(.v 2,none)]
def lp77_0:PC:=
 ((PC.reg [mm 4 3,mm 5 0,nn (.t 6) (.lenT (.t 5)),nn (.t 7) (.bin .lss (.t 4) (.t 6))]).seq (PC.cond (.t 7) PC.skip (PC.exit 0))).seq ((PC.block 1
  ((PC.reg [mm 10 0,mm 11 3,nn (.t 12) (.idxS (.t 10) (.t 11)),nn (.t 13) (.bin .geq (.t 12) (.c (.v (.int .u8 97)))),nn (.t 14) (.mv false (.t
  13)),gm 15 0 14 true,gm 16 3 14 true,⟨.t 17,.idxS (.t 15) (.t 16),some (.t 14,true)⟩,⟨.t 18,.bin .leq (.t 17) (.c (.v (.int .u8 122))),some
  (.t 14,true)⟩,nn (.t 19) (.pick (.t 14) (.t 18) (.c (.v (.bool false)))),nn (.t 20) (.mv false (.t 19)),gm 21 0 20 false,gm 22 3 20 false,⟨.t
  23,.idxS (.t 21) (.t 22),some (.t 20,false)⟩,⟨.t 24,.bin .geq (.t 23) (.c (.v (.int .u8 48))),some (.t 20,false)⟩,⟨.t 25,.mv false (.t 24),
  some (.t 20,false)⟩,gm 26 0 25 true,gm 27 3 25 true,⟨.t 28,.idxS (.t 26) (.t 27),some (.t 25,true)⟩,⟨.t 29,.bin .leq (.t 28) (.c (.v (.int
  .u8 57))),some (.t 25,true)⟩,⟨.t 30,.pick (.t 25) (.t 29) (.c (.v (.bool false))),some (.t 20,false)⟩,nn (.t 31) (.pick (.t 20) (.c (.v (.bool
  true))) (.t 30)),nn (.t 32) (.un .not (.t 31))]).seq (PC.cond (.t 32) ((PC.reg [nn (.v 2) (.mv true (.c (.v (.bool false))))]).seq PC.ret)
  PC.skip))).seq (PC.reg [mm 8 3,nn (.t 9) (.bin .add (.t 8) (.c (.v (.int .i64 1)))),ma 3 9]))
def pf77:PF:=
 PF.mk 1 4 41 ((PC.reg [nn (.v 2) (.mv true (.c (.v (.bool false))))]).seq (((PC.reg [nn (.v 3) (.mv true (.c (.v (.int .i64 0))))]).seq (PC.block 0
  (PC.loop [0,3] lp77_0))).seq ((PC.reg [mm 33 0,nn (.t 34) (.lenT (.t 33)),nn (.t 35) (.bin .geq (.t 34) (.c (.v (.int .i64 1)))),nn (.t 36) (.mv
  false (.t 35)),gm 37 0 36 true,⟨.t 38,.lenT (.t 37),some (.t 36,true)⟩,⟨.t 39,.bin .leq (.t 38) (.c (.v (.int .i64 16))),some (.t 36,true)⟩,
  nn (.t 40) (.pick (.t 36) (.t 39) (.c (.v (.bool false)))),ma 2 40]).seq PC.ret))) [(.v 2,none)]
attribute [local irreducible] W Wops WopsD WL Wop WopD
variable {E:Env} {C:Abs.Spec} {l:List (Nat×Spec1)} {G:List (Nat×V)} {Q:R→List (Nat×V)→Prop}
set_option maxHeartbeats 1000000
def ZTt:Spec1
 |[x,.sli .u8 t],G,Q=>∃b,(byV x=some b∧b.length < 1000000000∧t.length≤65536)∧Q (.own (.sli .u8 (b++txt t))) G
 |_,_,_=>False
theorem ZTt_eq {x t}:ZTt [x,.sli .u8 t] G Q=(∃b,(byV x=some b∧b.length < 1000000000∧t.length≤65536)∧Q (.own (.sli .u8 (b++txt t))) G):=rfl
def ZWt:Spec1
 |[.int .i64 n,.int .i64 lo,.int .i64 hi],G,Q=>Q (.v (.bool (decide (lo≤n∧n≤hi)))) G
 |_,_,_=>False
theorem ZWt_eq {n lo hi}:ZWt [.int .i64 n,.int .i64 lo,.int .i64 hi] G Q=(Q (.v (.bool (decide (lo≤n∧n≤hi)))) G):=rfl
def ZKy:Spec1
 |[.str s],G,Q=>(s.size < 1000000000)∧Q (.v (.bool (decide (KeyOk (byS s))))) G
 |_,_,_=>False
theorem ZKy_eq {s}:ZKy [.str s] G Q=((s.size < 1000000000)∧Q (.v (.bool (decide (KeyOk (byS s))))) G):=rfl
theorem walk101 {x:V} {b t:List Int} (hN:Abs.look l 120=some SNu) (hx:byV x=some b) (hb:b.length < 1000000000) (ht:t.length≤65536) (h:Q (.own (.sli .u8 (b++txt t))) G):Wf E (specOf l) pf101 [x,.sli .u8 t] G Q:=by
 have e1:(t.length:Int)≤65536:=by omega
 have e3:IntKind.u64.wrap (t.length:Int)=(t.length:Int):=w64u (by omega)
 have e4:t.take t.length=t:=List.take_of_length_le (Nat.le_refl _)
 have e5:¬(65536:Int) < (t.length:Int):=by omega
 obtain⟨n1,n2⟩:=num_ok (n:=t.length) (by omega)
 simp -implicitDefEqProofs only[pf101,hN,SNu_eq,e5,e3,e4,Int.toNat_natCast,List.drop_zero,go_sem,↓reduceIte]
 refine⟨⟨by omega,by omega⟩,b,⟨hx,by omega,by omega,by omega⟩,by omega,?_⟩
 rw[List.append_assoc];exact h
theorem walk82 {n lo hi:Int} (h:Q (.v (.bool (decide (lo≤n∧n≤hi)))) G):Wf E C pf82 [.int .i64 n,.int .i64 lo,.int .i64 hi] G Q:=by
 simp -implicitDefEqProofs only[pf82,go_sem,↓reduceIte]
 refine⟨fun h1=> ?_,fun h1=> ?_⟩
 ·rw[show decide (lo≤n∧n≤hi)=decide (n≤hi)by rw[decide_eq_decide];exact⟨fun h=>h.2,fun h=>⟨h1,h⟩⟩]at h;exact h
 ·rw[show decide (lo≤n∧n≤hi)=false by rw[decide_eq_false_iff_not];omega]at h;exact h
theorem loop83 {QQ:Ex→St→Prop} {s:ByteArray} {L:List Int} (hb:Byt L) (hl:L.length < 1000000000)
  (hx:∀ts,(∀c∈L,chOk c)→QQ (.exit 0) ⟨[some (.v (.str s)),none,none,none,none,none,some (.v (.sli .u8 L)),some (.v (.int .i64 (L.length:Nat))),some (.v (.int .i64 (L.length:Nat)))],ts,[],G⟩) (hr:∀ts v4 v8,¬(∀c∈L,chOk c)→QQ .ret ⟨[some (.v (.str s)),none,some (.v (.bool false)),none,v4,none,some (.v (.sli .u8 L)),some (.v (.int .i64 (L.length:Nat))),v8],ts,[],G⟩):
  ∀(e i:Nat),i+e=L.length→(∀c∈L.take i,chOk c)→WL (W E C lp83_0) [0,6,7,8] QQ (e+1) ⟨[some (.v (.str s)),none,none,none,none,none,some (.v (.sli .u8 L)),some (.v (.int .i64 (L.length:Nat))),some (.v (.int .i64 (i:Nat)))],[],[],G⟩:=by
 intro e
 induction e with
 |zero=>
  intro i hi ht
  obtain rfl:i=L.length:=by omega
  rw[List.take_of_length_le (Nat.le_refl _)]at ht
  refine WL_in lp83_0.eq_1 ?_
  simp -implicitDefEqProofs only[Int.lt_irrefl,go_sem,↓reduceIte]
  exact hx _ ht
 |succ e ih=>
  intro i hi ht
  have c1:(i:Int) < (L.length:Int):=by omega
  have c2:i < L.length:=by omega
  have c3:(0:Int)≤i:=by omega
  have w1:IntKind.i64.wrap ((i:Int)+1)=((i+1:Nat):Int):=wc (by omega) (by omega)
  have hg:L.getD i 0=L[i]:=by simp[c2]
  have hc:=byt_getD hb i
  have hm:L[i]∈L:=List.getElem_mem c2
  have hn:chOk (L.getD i 0)→∀c∈L.take (i+1),chOk c:=fun h c hc=>by
   rw[List.take_add_one,List.mem_append]at hc
   rcases hc with hc|hc
   ·exact ht c hc
   ·rw[List.getElem?_eq_getElem c2]at hc;simp at hc;rw[hc,←hg];exact h
  have hno:¬chOk (L.getD i 0)→¬(∀c∈L,chOk c):=fun h h2=>h (by rw[hg];exact h2 _ hm)
  have ih1:=fun h=>ih (i+1) (by omega) (hn h)
  generalize hcd:L.getD i 0=c at*
  refine WL_in lp83_0.eq_1 ?_
  simp -implicitDefEqProofs only[c1,c3,w1,hcd,Int.toNat_natCast,go_sem,↓reduceIte]
  repeat' first|(intro _)|constructor
  all_goals first
   |exact hr _ _ _ (hno (by unfold chOk;omega))
   |exact ih1 (by unfold chOk;omega)
theorem walk83 {s:ByteArray} (hW:Abs.look l 82=some ZWt) (hl:s.size < 1000000000) (h:Q (.v (.bool (decide (KeyOk (byS s))))) G):Wf E (specOf l) pf83 [.str s] G Q:=by
 have hL:(byS s).length=s.size:=byS_len
 simp -implicitDefEqProofs only[pf83,hW,ZWt_eq,go_sem,↓reduceIte]
 refine⟨(byS s).length+1,?_⟩
 simp -implicitDefEqProofs only[go_sem,↓reduceIte]
 refine loop83 byS_byt (by omega) (fun ts hy=> ?_) (fun ts v4 v8 hn=> ?_) _ 0 (by omega) (fun c hc=>by simp at hc)
 ·simp -implicitDefEqProofs only[hW,ZWt_eq,go_sem,↓reduceIte]
  refine finB h ?_
  rw[decide_eq_decide];unfold KeyOk;rw[hL]
  exact⟨fun h=>⟨by omega,by omega⟩,fun h=>⟨hy,by omega,by omega⟩⟩
 ·simp -implicitDefEqProofs only[go_sem,↓reduceIte]
  refine finB h ?_
  rw[decide_eq_false_iff_not]
  exact fun h=>hn h.1
theorem byS_get {s:ByteArray} {i:Nat} (h:i < s.size):((s.data.toList.getD i 0).toNat:Int)=(byS s).getD i 0:=by
 have h2:i < s.data.toList.length:=by simpa using h
 unfold byS;simp[List.getD,List.getElem?_eq_getElem h2]
theorem loop77 {QQ:Ex→St→Prop} {s:ByteArray} (hl:s.size < 1000000000)
  (hx:∀ts,(∀c∈byS s,chOk c)→QQ (.exit 0) ⟨[some (.v (.str s)),none,none,some (.v (.int .i64 (s.size:Nat)))],ts,[],G⟩) (hr:∀ts v3,¬(∀c∈byS s,chOk c)→QQ .ret ⟨[some (.v (.str s)),none,some (.v (.bool false)),v3],ts,[],G⟩):
  ∀(e i:Nat),i+e=s.size→(∀c∈(byS s).take i,chOk c)→WL (W E C lp77_0) [0,3] QQ (e+1) ⟨[some (.v (.str s)),none,none,some (.v (.int .i64 (i:Nat)))],[],[],G⟩:=by
 intro e
 have hL:(byS s).length=s.size:=byS_len
 have hb:Byt (byS s):=byS_byt
 induction e with
 |zero=>
  intro i hi ht
  obtain rfl:i=s.size:=by omega
  rw[List.take_of_length_le (by omega)]at ht
  refine WL_in lp77_0.eq_1 ?_
  simp -implicitDefEqProofs only[Int.lt_irrefl,go_sem,↓reduceIte]
  exact hx _ ht
 |succ e ih=>
  intro i hi ht
  have c1:(i:Int) < (s.size:Int):=by omega
  have c2:i < s.size:=by omega
  have c3:(0:Int)≤i:=by omega
  have w1:IntKind.i64.wrap ((i:Int)+1)=((i+1:Nat):Int):=wc (by omega) (by omega)
  have c4:i < (byS s).length:=by omega
  have hg:(byS s).getD i 0=(byS s)[i]:=by simp[c4]
  have hc:=byt_getD hb i
  have hm:(byS s)[i]∈byS s:=List.getElem_mem c4
  have hn:chOk ((byS s).getD i 0)→∀c∈(byS s).take (i+1),chOk c:=fun h c hc=>by
   rw[List.take_add_one,List.mem_append]at hc
   rcases hc with hc|hc
   ·exact ht c hc
   ·rw[List.getElem?_eq_getElem c4]at hc;simp at hc;rw[hc,←hg];exact h
  have hno:¬chOk ((byS s).getD i 0)→¬(∀c∈byS s,chOk c):=fun h h2=>h (by rw[hg];exact h2 _ hm)
  have ih1:=fun h=>ih (i+1) (by omega) (hn h)
  have hcd:=byS_get c2
  generalize (byS s).getD i 0=c at*
  refine WL_in lp77_0.eq_1 ?_
  simp -implicitDefEqProofs only[c1,c3,w1,hcd,Int.toNat_natCast,go_sem,↓reduceIte]
  repeat' first|(intro _)|constructor
  all_goals first
   |exact hr _ _ (hno (by unfold chOk;omega))
   |exact ih1 (by unfold chOk;omega)
theorem walk77 {s:ByteArray} (hl:s.size < 1000000000) (h:Q (.v (.bool (decide (KeyOk (byS s))))) G):Wf E C pf77 [.str s] G Q:=by
 have hL:(byS s).length=s.size:=byS_len
 simp -implicitDefEqProofs only[pf77,go_sem,↓reduceIte]
 refine⟨s.size+1,?_⟩
 simp -implicitDefEqProofs only[go_sem,↓reduceIte]
 refine loop77 hl (fun ts hy=> ?_) (fun ts v3 hn=> ?_) _ 0 (by omega) (fun c hc=>by simp at hc)
 ·simp -implicitDefEqProofs only[go_sem,↓reduceIte]
  refine⟨fun h1=>finB h ?_,fun h1=>finB h ?_⟩
  ·rw[decide_eq_decide];unfold KeyOk;rw[hL]
   exact⟨fun h=>by have:=h.2.2;omega,fun h=>⟨hy,by omega,by omega⟩⟩
  ·rw[decide_eq_false_iff_not];unfold KeyOk;rw[hL];exact fun h=>by omega
 ·simp -implicitDefEqProofs only[go_sem,↓reduceIte]
  refine finB h ?_
  rw[decide_eq_false_iff_not]
  exact fun h=>hn h.1
end Go.Proofs.Ytjbglbhcbenhpaa.Sha
