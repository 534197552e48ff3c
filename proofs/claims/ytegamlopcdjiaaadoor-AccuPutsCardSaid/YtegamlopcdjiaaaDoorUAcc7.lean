/- Accumulations: whether any is right. -/
import Derived.Test.YtegamlopcdjiaaaDoorUAcc5
namespace Go.Proofs.YtegamlopcdjiaaaDoor.Sha
open Go Go.Abs Go.Abs.Sha Go.Abs.Srt
set_option linter.unusedSimpArgs false
set_option linter.unusedVariables false
set_option maxRecDepth 100000
def lp34_0:PC:=
 ((PC.reg [mm 4 3,nn (.t 5) (.fadr 4 35 (.v 1)),nn (.t 6) (.load 1 false (.t 5)),nn (.t 7) (.len (.t 6)),nn (.t 8) (.bin .lss (.t 4) (.t 7))]).seq
  (PC.cond (.t 8) PC.skip (PC.exit 0))).seq ((PC.block 1 ((PC.regD 0 [nn (.t 11) (.fadr 4 35 (.v 1)),nn (.t 12) (.load 1 false (.t 11)),mm 13 3,nn
  (.t 14) (.iadrS 1 (.t 12) (.t 13)),nn (.t 15) (.load 1 false (.t 14)),nn (.t 16) (.bin .lss (.t 15) (.c (.v (.int .i64 1)))),nn (.t 17) (.mv false
  (.t 16)),⟨.t 18,.fadr 4 35 (.v 1),some (.t 17,false)⟩,⟨.t 19,.load 1 false (.t 18),some (.t 17,false)⟩,gm 20 3 17 false,⟨.t 21,.iadrS 1
  (.t 19) (.t 20),some (.t 17,false)⟩,⟨.t 22,.load 1 false (.t 21),some (.t 17,false)⟩,⟨.t 23,.bin .gtr (.t 22) (.c (.v (.int .i64 21))),some
  (.t 17,false)⟩,nn (.t 24) (.pick (.t 17) (.c (.v (.bool true))) (.t 23)),nn (.t 25) (.mv false (.t 24)),gm 26 3 25 false,⟨.t 27,.bin .gtr (.t
  26) (.c (.v (.int .i64 0))),some (.t 25,false)⟩,⟨.t 28,.mv false (.t 27),some (.t 25,false)⟩,⟨.t 29,.fadr 4 35 (.v 1),some (.t 28,true)⟩,
  ⟨.t 30,.load 1 false (.t 29),some (.t 28,true)⟩,gm 31 3 28 true,⟨.t 32,.bin .sub (.t 31) (.c (.v (.int .i64 1))),some (.t 28,true)⟩,⟨.t 33,
  .iadrS 1 (.t 30) (.t 32),some (.t 28,true)⟩,⟨.t 34,.load 1 false (.t 33),some (.t 28,true)⟩,⟨.t 35,.fadr 4 35 (.v 1),some (.t 28,true)⟩,
  ⟨.t 36,.load 1 false (.t 35),some (.t 28,true)⟩,gm 37 3 28 true,⟨.t 38,.iadrS 1 (.t 36) (.t 37),some (.t 28,true)⟩,⟨.t 39,.load 1 false (.t
  38),some (.t 28,true)⟩,⟨.t 40,.bin .geq (.t 34) (.t 39),some (.t 28,true)⟩,⟨.t 41,.pick (.t 28) (.t 40) (.c (.v (.bool false))),some (.t 25,
  false)⟩,nn (.t 42) (.pick (.t 25) (.c (.v (.bool true))) (.t 41))] []).seq (PC.cond (.t 42) ((PC.reg [nn (.v 2) (.mv true (.c (.v (.bool
  false))))]).seq PC.ret) PC.skip))).seq (PC.reg [mm 9 3,nn (.t 10) (.bin .add (.t 9) (.c (.v (.int .i64 1)))),ma 3 10]))
def pf34:PF:=
 PF.mk 1 4 79 ((PC.reg [nn (.v 1) (.box (.v 0)),nn (.v 2) (.mv true (.c (.v (.bool false))))]).seq (((PC.reg [nn (.v 3) (.mv true (.c (.v (.int .i64
  0))))]).seq (PC.block 0 (PC.loop [1,3] lp34_0))).seq ((PC.reg [nn (.t 43) (.fadr 0 0 (.v 1)),nn (.t 44) (.load 1 false (.t 43)),nn (.t 45) (.bin
  .geq (.t 44) (.c (.v (.int .i64 1)))),nn (.t 46) (.mv false (.t 45)),⟨.t 47,.fadr 0 0 (.v 1),some (.t 46,true)⟩,⟨.t 48,.load 1 false (.t 47),
  some (.t 46,true)⟩,⟨.t 49,.bin .leq (.t 48) (.c (.v (.int .i64 21))),some (.t 46,true)⟩,nn (.t 50) (.pick (.t 46) (.t 49) (.c (.v (.bool
  false)))),nn (.t 51) (.mv false (.t 50)),⟨.t 52,.fadr 1 1 (.v 1),some (.t 51,true)⟩,⟨.t 53,.load 1 false (.t 52),some (.t 51,true)⟩,⟨.t 54,
  .bin .geq (.t 53) (.c (.v (.int .i64 1))),some (.t 51,true)⟩,nn (.t 55) (.pick (.t 51) (.t 54) (.c (.v (.bool false)))),nn (.t 56) (.mv false (.t
  55)),⟨.t 57,.fadr 1 1 (.v 1),some (.t 56,true)⟩,⟨.t 58,.load 1 false (.t 57),some (.t 56,true)⟩,⟨.t 59,.bin .leq (.t 58) (.c (.v (.int .i64
  1099511627776))),some (.t 56,true)⟩,nn (.t 60) (.pick (.t 56) (.t 59) (.c (.v (.bool false)))),nn (.t 61) (.mv false (.t 60)),⟨.t 62,.fadr 2 2
  (.v 1),some (.t 61,true)⟩,⟨.t 63,.load 1 false (.t 62),some (.t 61,true)⟩,⟨.t 64,.bin .geq (.t 63) (.c (.v (.int .i64 0))),some (.t 61,
  true)⟩,nn (.t 65) (.pick (.t 61) (.t 64) (.c (.v (.bool false)))),nn (.t 66) (.mv false (.t 65)),⟨.t 67,.fadr 2 2 (.v 1),some (.t 66,true)⟩,
  ⟨.t 68,.load 1 false (.t 67),some (.t 66,true)⟩,⟨.t 69,.fadr 1 1 (.v 1),some (.t 66,true)⟩,⟨.t 70,.load 1 false (.t 69),some (.t 66,
  true)⟩,⟨.t 71,.bin .lss (.t 68) (.t 70),some (.t 66,true)⟩,nn (.t 72) (.pick (.t 66) (.t 71) (.c (.v (.bool false)))),nn (.t 73) (.mv false (.t
  72)),⟨.t 74,.fadr 4 35 (.v 1),some (.t 73,true)⟩,⟨.t 75,.load 1 false (.t 74),some (.t 73,true)⟩,⟨.t 76,.len (.t 75),some (.t 73,true)⟩,
  ⟨.t 77,.bin .geq (.t 76) (.c (.v (.int .i64 1))),some (.t 73,true)⟩,nn (.t 78) (.pick (.t 73) (.t 77) (.c (.v (.bool false)))),ma 2 78]).seq
  PC.ret))) [(.v 2,none)]
attribute [local irreducible] W Wops WopsD WL Wop WopD
variable {E:Env} {C:Abs.Spec} {l:List (Nat×Spec1)} {G:List (Nat×V)} {Q:R→List (Nat×V)→Prop}
set_option maxHeartbeats 1000000
def ZM10:Spec1
 |[.agg [.int .i64 a1,.int .i64 a2,.int .i64 a3,.arr .u8 32 a4,x,.arr .u8 32 a6]],G,Q=>∃fr:List Int,(FrV G x fr∧(⟨a1,a2,a3,a4,fr,a6⟩:AccS).wf∧fr.length < 1000000)∧Q (.v (.bool (⟨a1,a2,a3,a4,fr,a6⟩:AccS).may)) G
 |_,_,_=>False
theorem ZM10_eq {a1 a2 a3 a4 x a6}:ZM10 [.agg [.int .i64 a1,.int .i64 a2,.int .i64 a3,.arr .u8 32 a4,x,.arr .u8 32 a6]] G Q=(∃fr:List Int,(FrV G x fr∧(⟨a1,a2,a3,a4,fr,a6⟩:AccS).wf∧fr.length < 1000000)∧Q (.v (.bool (⟨a1,a2,a3,a4,fr,a6⟩:AccS).may)) G):=rfl
theorem loop34i {QQ:Ex→St→Prop} {a1 a2 a3:Int} {a4 a6 fr:List Int} (hl:fr.length < 1000000)
  (hx:∀(j:Nat) ts,riseI 21 0 fr=true→QQ (.exit 0) ⟨[none,some (.lp 0 []),none,some (.v (.int .i64 (j:Nat)))],ts,[⟨false,.agg [.int .i64 a1,.int .i64 a2,.int .i64 a3,.arr .u8 32 a4,.sli .i64 fr,.arr .u8 32 a6]⟩],G⟩)
  (hr:∀σ:St,σ.G=G→St.ev σ (.v 2)=some (.v (.bool false))→riseI 21 0 fr=false→QQ .ret σ):
  ∀(r:List Int) (j:Nat) (low:Int),fr.drop j=r→j≤fr.length→((j=0∧low=0)∨(1≤j∧1≤low∧fr[j-1]? =some low))→riseI 21 0 fr=riseI 21 low r→WL (W E C lp34_0) [1,3] QQ (r.length+1) ⟨[none,some (.lp 0 []),none,some (.v (.int .i64 (j:Nat)))],[],[⟨false,.agg [.int .i64 a1,.int .i64 a2,.int .i64 a3,.arr .u8 32 a4,.sli .i64 fr,.arr .u8 32 a6]⟩],G⟩:=by
 intro r
 induction r with
 |nil=>
  intro j low h1 h2 hlow h3
  have:=drop_none h1
  have c1:¬(j:Int) < (fr.length:Int):=by omega
  refine WL_in lp34_0.eq_1 ?_
  simp (maxSteps:=1000000) (implicitDefEqProofs:=false) only[c1,go_sem,↓reduceIte]
  exact hx _ _ h3
 |cons p r ih=>
  intro j low h1 h2 hlow h3
  obtain⟨hd,hj,hlen⟩:=drop_one h1
  have hjp:=at_drop h1
  have g:=getD_at h1
  have c1:(j:Int) < (fr.length:Int):=by omega
  have c2:(0:Int)≤(j:Int):=by omega
  have w1:IntKind.i64.wrap ((j:Int)+1)=((j+1:Nat):Int):=wc (by omega) (by omega)
  have next:=fun (hlo:¬(p≤low∨21 < p))=>ih (j+1) p hd (by omega) (.inr ⟨by omega,by omega,by rw[Nat.add_sub_cancel];exact hjp⟩) (by rw[h3];exact if_neg hlo)
  have stop:=fun (hlo:p≤low∨21 < p)=>(by rw[h3];exact if_pos hlo:riseI 21 0 fr=false)
  refine WL_in lp34_0.eq_1 ?_
  by_cases r1:p < 1
  ·have r1p:¬1≤p:=by omega
   simp (maxSteps:=1000000) (implicitDefEqProofs:=false) only[c1,c2,g,w1,Int.toNat_natCast,r1,r1p,go_sem,↓reduceIte]
   skip
   exact hr _ rfl rfl (stop (by omega))
  have r1n:1≤p:=by omega
  by_cases r2:21 < p
  ·have r2p:¬p≤21:=by omega
   simp (maxSteps:=1000000) (implicitDefEqProofs:=false) only[c1,c2,g,w1,Int.toNat_natCast,r1,r1n,r2,r2p,go_sem,↓reduceIte]
   skip
   exact hr _ rfl rfl (stop (by omega))
  have r2n:p≤21:=by omega
  rcases hlow with⟨rfl,rfl⟩|⟨hj1,hlo1,hjl⟩
  ·have c1z:(0:Int) < (fr.length:Int):=by omega
   have c1y:¬(fr.length:Int)≤0:=by omega
   have w0:IntKind.i64.wrap ((0:Int)+1)=((0+1:Nat):Int):=by decide
   simp (maxSteps:=1000000) (implicitDefEqProofs:=false) only[c1z,c1y,g,w0,Int.toNat_natCast,Int.toNat_zero,r1,r1n,r2,r2n,Int.natCast_zero,Int.lt_irrefl,go_sem,↓reduceIte]
   skip
   exact next (by omega)
  ·have w2:IntKind.i64.wrap ((j:Int)-1)=((j-1:Nat):Int):=wc (by omega) (by omega)
   have g2:=(by rw[List.getD_eq_getElem?_getD,hjl];rfl:fr.getD (j-1) 0=low)
   have c0:(0:Int) < (j:Int):=by omega
   have c4:(0:Int)≤((j-1:Nat):Int):=by omega
   have c5:((j-1:Nat):Int) < (fr.length:Int):=by omega
   by_cases r3:p≤low
   ·have r3n:¬low < p:=by omega
    simp (maxSteps:=1000000) (implicitDefEqProofs:=false) only[c0,c1,c2,c4,c5,g,g2,w1,w2,Int.toNat_natCast,r1,r1n,r2,r2n,r3,r3n,go_sem,↓reduceIte]
    skip
    exact hr _ rfl rfl (stop (by omega))
   ·have r3n:low < p:=by omega
    simp (maxSteps:=1000000) (implicitDefEqProofs:=false) only[c0,c1,c2,c4,c5,g,g2,w1,w2,Int.toNat_natCast,r1,r1n,r2,r2n,r3,r3n,go_sem,↓reduceIte]
    skip
    exact next (by omega)
theorem walk34i {a1 a2 a3:Int} {a4 a6 fr:List Int} (hl:fr.length < 1000000) (hw:(⟨a1,a2,a3,a4,fr,a6⟩:AccS).wf) (h:Q (.v (.bool (⟨a1,a2,a3,a4,fr,a6⟩:AccS).may)) G):Wf E C pf34 [.agg [.int .i64 a1,.int .i64 a2,.int .i64 a3,.arr .u8 32 a4,.sli .i64 fr,.arr .u8 32 a6]] G Q:=by
 have key:∀b:Bool,(⟨a1,a2,a3,a4,fr,a6⟩:AccS).may=b→Q (.v (.bool b)) G:=fun b e=>by rw[←e];exact h
 simp (maxSteps:=1000000) (implicitDefEqProofs:=false) only[pf34,go_sem,↓reduceIte]
 refine⟨fr.length+1,?_⟩
 refine loop34i (hl) (fun j ts e=> ?_) (fun σ e1 e2 e3=> ?_) fr 0 0 rfl (Nat.zero_le _) (.inl ⟨rfl,rfl⟩) rfl
 rotate_left
 ·show resQ Q σ.G (rD (St.ev σ (.v 2)))
  rw[e1,e2]
  exact key _ (decide_eq_false fun hM=>by have:=hM.2.2.2.2;dsimp only at this;rw[e3]at this;cases this)
 have hM:∀b:Bool,(b=true↔(1≤a1∧a1≤21∧1≤a2∧a2≤1099511627776∧0≤a3∧a3 < a2∧(1:Int)≤(fr.length:Nat)))→Q (.v (.bool b)) G:=fun b hb=>key b (by
  rw[Bool.eq_iff_iff,hb]
  unfold AccS.may
  rw[decide_eq_true_eq]
  constructor
  ·intro hM;obtain⟨m1,m2,m3,m4,m5⟩:=hM
   have:=List.length_pos_iff.2 m4
   dsimp only at m1 m2 m3 this
   omega
  ·intro hc
   exact⟨⟨hc.1,hc.2.1⟩,⟨hc.2.2.1,hc.2.2.2.1⟩,⟨hc.2.2.2.2.1,hc.2.2.2.2.2.1⟩,List.length_pos_iff.1 (by have:=hc.2.2.2.2.2.2;dsimp only;omega),e⟩)
 simp (maxSteps:=1000000) (implicitDefEqProofs:=false) only[go_sem,↓reduceIte]
 repeat' first|(intro _)|constructor
 all_goals
  refine hM _ ?_
  first
  |(constructor<;>intro hh<;>first|(cases hh;done)|rfl|omega|exact absurd hh (by omega))
  |(rw[decide_eq_true_eq];constructor<;>intro hh<;>omega)
  |(constructor
    ·intro hh;cases hh
    ·intro hh;have:=hh.2.2.2.2.2.2;simp at this)
theorem walk34n {a1 a2 a3:Int} {a4 a6:List Int} (hl:([]:List Int).length < 1000000) (hw:(⟨a1,a2,a3,a4,[],a6⟩:AccS).wf) (h:Q (.v (.bool (⟨a1,a2,a3,a4,[],a6⟩:AccS).may)) G):Wf E C pf34 [.agg [.int .i64 a1,.int .i64 a2,.int .i64 a3,.arr .u8 32 a4,.nils,.arr .u8 32 a6]] G Q:=by
 have key:∀b:Bool,(⟨a1,a2,a3,a4,[],a6⟩:AccS).may=b→Q (.v (.bool b)) G:=fun b e=>by rw[←e];exact h
 simp (maxSteps:=1000000) (implicitDefEqProofs:=false) only[pf34,go_sem,↓reduceIte]
 refine⟨0+1,?_⟩
 refine WL_in lp34_0.eq_1 ?_
 have hM:∀b:Bool,(b=true↔(1≤a1∧a1≤21∧1≤a2∧a2≤1099511627776∧0≤a3∧a3 < a2∧(1:Int)≤(([]:List Int).length:Nat)))→Q (.v (.bool b)) G:=fun b hb=>key b (by
  rw[Bool.eq_iff_iff,hb]
  unfold AccS.may
  rw[decide_eq_true_eq]
  constructor
  ·intro hM;obtain⟨m1,m2,m3,m4,m5⟩:=hM
   have:=List.length_pos_iff.2 m4
   dsimp only at m1 m2 m3 this
   omega
  ·intro hc
   exact⟨⟨hc.1,hc.2.1⟩,⟨hc.2.2.1,hc.2.2.2.1⟩,⟨hc.2.2.2.2.1,hc.2.2.2.2.2.1⟩,List.length_pos_iff.1 (by have:=hc.2.2.2.2.2.2;dsimp only;omega),rfl⟩)
 simp (maxSteps:=1000000) (implicitDefEqProofs:=false) only[go_sem,↓reduceIte]
 repeat' first|(intro _)|constructor
 all_goals
  refine hM _ ?_
  first
  |(constructor<;>intro hh<;>first|(cases hh;done)|rfl|omega|exact absurd hh (by omega))
  |(rw[decide_eq_true_eq];constructor<;>intro hh<;>omega)
  |(constructor
    ·intro hh;cases hh
    ·intro hh;have:=hh.2.2.2.2.2.2;simp at this)
theorem loop34s {QQ:Ex→St→Prop} {a1 a2 a3:Int} {a4 a6 fr:List Int} {id c:Nat} {LL:List V} (hG:Abs.look G id=some (.agg LL)) (hLL:∀(i:Nat) p,fr[i]? =some p→LL[i]? =some (.int .i64 p)) (hfl:fr.length≤LL.length) (hsz:∀y∈LL,V.size y=1) (hl:fr.length < 1000000)
  (hx:∀(j:Nat) ts,riseI 21 0 fr=true→QQ (.exit 0) ⟨[none,some (.lp 0 []),none,some (.v (.int .i64 (j:Nat)))],ts,[⟨false,.agg [.int .i64 a1,.int .i64 a2,.int .i64 a3,.arr .u8 32 a4,.sob id 1 0 fr.length c,.arr .u8 32 a6]⟩],G⟩)
  (hr:∀σ:St,σ.G=G→St.ev σ (.v 2)=some (.v (.bool false))→riseI 21 0 fr=false→QQ .ret σ):
  ∀(r:List Int) (j:Nat) (low:Int),fr.drop j=r→j≤fr.length→((j=0∧low=0)∨(1≤j∧1≤low∧fr[j-1]? =some low))→riseI 21 0 fr=riseI 21 low r→WL (W E C lp34_0) [1,3] QQ (r.length+1) ⟨[none,some (.lp 0 []),none,some (.v (.int .i64 (j:Nat)))],[],[⟨false,.agg [.int .i64 a1,.int .i64 a2,.int .i64 a3,.arr .u8 32 a4,.sob id 1 0 fr.length c,.arr .u8 32 a6]⟩],G⟩:=by
 intro r
 induction r with
 |nil=>
  intro j low h1 h2 hlow h3
  have:=drop_none h1
  have c1:¬(j:Int) < (fr.length:Int):=by omega
  refine WL_in lp34_0.eq_1 ?_
  simp (maxSteps:=1000000) (implicitDefEqProofs:=false) only[c1,go_sem,↓reduceIte]
  exact hx _ _ h3
 |cons p r ih=>
  intro j low h1 h2 hlow h3
  obtain⟨hd,hj,hlen⟩:=drop_one h1
  have hjp:=at_drop h1
  have g:=hLL j p (at_drop h1)
  have c1:(j:Int) < (fr.length:Int):=by omega
  have c2:(0:Int)≤(j:Int):=by omega
  have w1:IntKind.i64.wrap ((j:Int)+1)=((j+1:Nat):Int):=wc (by omega) (by omega)
  have next:=fun (hlo:¬(p≤low∨21 < p))=>ih (j+1) p hd (by omega) (.inr ⟨by omega,by omega,by rw[Nat.add_sub_cancel];exact hjp⟩) (by rw[h3];exact if_neg hlo)
  have stop:=fun (hlo:p≤low∨21 < p)=>(by rw[h3];exact if_pos hlo:riseI 21 0 fr=false)
  refine WL_in lp34_0.eq_1 ?_
  by_cases r1:p < 1
  ·have r1p:¬1≤p:=by omega
   simp (maxSteps:=1000000) (implicitDefEqProofs:=false) only[c1,c2,g,hG,w1,Int.toNat_natCast,r1,r1p,go_sem,↓reduceIte]
   repeat (first|refine And.intro ⟨by omega,hsz⟩ ?_|refine And.intro ⟨⟨by omega,by omega⟩,by omega,hsz⟩ ?_|refine And.intro ⟨⟨by omega,by omega⟩,by omega⟩ ?_)
   exact hr _ rfl rfl (stop (by omega))
  have r1n:1≤p:=by omega
  by_cases r2:21 < p
  ·have r2p:¬p≤21:=by omega
   simp (maxSteps:=1000000) (implicitDefEqProofs:=false) only[c1,c2,g,hG,w1,Int.toNat_natCast,r1,r1n,r2,r2p,go_sem,↓reduceIte]
   repeat (first|refine And.intro ⟨by omega,hsz⟩ ?_|refine And.intro ⟨⟨by omega,by omega⟩,by omega,hsz⟩ ?_|refine And.intro ⟨⟨by omega,by omega⟩,by omega⟩ ?_)
   exact hr _ rfl rfl (stop (by omega))
  have r2n:p≤21:=by omega
  rcases hlow with⟨rfl,rfl⟩|⟨hj1,hlo1,hjl⟩
  ·have c1z:(0:Int) < (fr.length:Int):=by omega
   have c1y:¬(fr.length:Int)≤0:=by omega
   have w0:IntKind.i64.wrap ((0:Int)+1)=((0+1:Nat):Int):=by decide
   simp (maxSteps:=1000000) (implicitDefEqProofs:=false) only[c1z,c1y,g,hG,w0,Int.toNat_natCast,Int.toNat_zero,r1,r1n,r2,r2n,Int.natCast_zero,Int.lt_irrefl,go_sem,↓reduceIte]
   repeat (first|refine And.intro ⟨by omega,hsz⟩ ?_|refine And.intro ⟨⟨by omega,by omega⟩,by omega,hsz⟩ ?_|refine And.intro ⟨⟨by omega,by omega⟩,by omega⟩ ?_)
   exact next (by omega)
  ·have w2:IntKind.i64.wrap ((j:Int)-1)=((j-1:Nat):Int):=wc (by omega) (by omega)
   have g2:=hLL _ _ hjl
   have c0:(0:Int) < (j:Int):=by omega
   have c4:(0:Int)≤((j-1:Nat):Int):=by omega
   have c5:((j-1:Nat):Int) < (fr.length:Int):=by omega
   by_cases r3:p≤low
   ·have r3n:¬low < p:=by omega
    simp (maxSteps:=1000000) (implicitDefEqProofs:=false) only[c0,c1,c2,c4,c5,g,g2,hG,w1,w2,Int.toNat_natCast,r1,r1n,r2,r2n,r3,r3n,go_sem,↓reduceIte]
    repeat (first|refine And.intro ⟨by omega,hsz⟩ ?_|refine And.intro ⟨⟨by omega,by omega⟩,by omega,hsz⟩ ?_|refine And.intro ⟨⟨by omega,by omega⟩,by omega⟩ ?_)
    exact hr _ rfl rfl (stop (by omega))
   ·have r3n:low < p:=by omega
    simp (maxSteps:=1000000) (implicitDefEqProofs:=false) only[c0,c1,c2,c4,c5,g,g2,hG,w1,w2,Int.toNat_natCast,r1,r1n,r2,r2n,r3,r3n,go_sem,↓reduceIte]
    repeat (first|refine And.intro ⟨by omega,hsz⟩ ?_|refine And.intro ⟨⟨by omega,by omega⟩,by omega,hsz⟩ ?_|refine And.intro ⟨⟨by omega,by omega⟩,by omega⟩ ?_)
    exact next (by omega)
theorem walk34s {a1 a2 a3:Int} {a4 a6 fr:List Int} {id c:Nat} {LL:List V} (hG:Abs.look G id=some (.agg LL)) (hLL:∀(i:Nat) p,fr[i]? =some p→LL[i]? =some (.int .i64 p)) (hfl:fr.length≤LL.length) (hsz:∀y∈LL,V.size y=1) (hl:fr.length < 1000000) (hw:(⟨a1,a2,a3,a4,fr,a6⟩:AccS).wf) (h:Q (.v (.bool (⟨a1,a2,a3,a4,fr,a6⟩:AccS).may)) G):Wf E C pf34 [.agg [.int .i64 a1,.int .i64 a2,.int .i64 a3,.arr .u8 32 a4,.sob id 1 0 fr.length c,.arr .u8 32 a6]] G Q:=by
 have key:∀b:Bool,(⟨a1,a2,a3,a4,fr,a6⟩:AccS).may=b→Q (.v (.bool b)) G:=fun b e=>by rw[←e];exact h
 simp (maxSteps:=1000000) (implicitDefEqProofs:=false) only[pf34,go_sem,↓reduceIte]
 refine⟨fr.length+1,?_⟩
 refine loop34s hG hLL hfl hsz (hl) (fun j ts e=> ?_) (fun σ e1 e2 e3=> ?_) fr 0 0 rfl (Nat.zero_le _) (.inl ⟨rfl,rfl⟩) rfl
 rotate_left
 ·show resQ Q σ.G (rD (St.ev σ (.v 2)))
  rw[e1,e2]
  exact key _ (decide_eq_false fun hM=>by have:=hM.2.2.2.2;dsimp only at this;rw[e3]at this;cases this)
 have hM:∀b:Bool,(b=true↔(1≤a1∧a1≤21∧1≤a2∧a2≤1099511627776∧0≤a3∧a3 < a2∧(1:Int)≤(fr.length:Nat)))→Q (.v (.bool b)) G:=fun b hb=>key b (by
  rw[Bool.eq_iff_iff,hb]
  unfold AccS.may
  rw[decide_eq_true_eq]
  constructor
  ·intro hM;obtain⟨m1,m2,m3,m4,m5⟩:=hM
   have:=List.length_pos_iff.2 m4
   dsimp only at m1 m2 m3 this
   omega
  ·intro hc
   exact⟨⟨hc.1,hc.2.1⟩,⟨hc.2.2.1,hc.2.2.2.1⟩,⟨hc.2.2.2.2.1,hc.2.2.2.2.2.1⟩,List.length_pos_iff.1 (by have:=hc.2.2.2.2.2.2;dsimp only;omega),e⟩)
 simp (maxSteps:=1000000) (implicitDefEqProofs:=false) only[go_sem,↓reduceIte]
 repeat' first|(intro _)|constructor
 all_goals
  refine hM _ ?_
  first
  |(constructor<;>intro hh<;>first|(cases hh;done)|rfl|omega|exact absurd hh (by omega))
  |(rw[decide_eq_true_eq];constructor<;>intro hh<;>omega)
  |(constructor
    ·intro hh;cases hh
    ·intro hh;have:=hh.2.2.2.2.2.2;simp at this)
end Go.Proofs.YtegamlopcdjiaaaDoor.Sha
