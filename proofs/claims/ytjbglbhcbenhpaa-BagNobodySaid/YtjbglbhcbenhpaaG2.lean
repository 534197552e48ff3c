/- Laws over plain values, and what functions of the program hand back; no conditions. -/
import Derived.Test.YtjbglbhcbenhpaaG1
namespace Go.Proofs.Ytjbglbhcbenhpaa.Sha
open Go Go.Abs Go.Abs.Sha Go.Abs.Srt
set_option linter.unusedSimpArgs false
set_option linter.unusedVariables false
set_option maxRecDepth 100000
def lp46_0:PC:=
 ((PC.reg [mm 20 5,nn (.t 21) (.fadr 1 101 (.v 2)),nn (.t 22) (.load 1 false (.t 21)),nn (.t 23) (.len (.t 22)),nn (.t 24) (.bin .lss (.t 20) (.t
  23))]).seq (PC.cond (.t 24) PC.skip (PC.exit 0))).seq ((PC.block 1 ((PC.regD 0 [nn (.t 27) (.fadr 1 101 (.v 2)),nn (.t 28) (.load 1 false (.t 27)),
  mm 29 5,nn (.t 30) (.iadrS 33 (.t 28) (.t 29)),nn (.t 31) (.load 33 true (.t 30)),nn (.t 32) (.fadr 1 101 (.v 3)),nn (.t 33) (.load 1 false (.t
  32)),mm 34 5,nn (.t 35) (.iadrS 33 (.t 33) (.t 34)),nn (.t 36) (.load 33 true (.t 35)),nn (.t 37) (.eqa true (.agg (.cons 0 1 false .int (.cons 1
  32 true (.arr 32) .nil))) (.t 31) (.t 36))] []).seq (PC.cond (.t 37) ((PC.reg [nn (.v 4) (.mv true (.c (.v (.bool false))))]).seq PC.ret)
  PC.skip))).seq (PC.reg [mm 25 5,nn (.t 26) (.bin .add (.t 25) (.c (.v (.int .i64 1)))),ma 5 26]))
def pf46:PF:=
 PF.mk 2 6 38 ((PC.reg [nn (.v 2) (.box (.v 0)),nn (.v 3) (.box (.v 1)),nn (.v 4) (.mv true (.c (.v (.bool false))))]).seq (((PC.reg [nn (.t 6) (.fadr
  0 0 (.v 2)),nn (.t 7) (.load 101 true (.t 6)),nn (.t 8) (.fadr 0 0 (.v 3)),nn (.t 9) (.load 101 true (.t 8)),nn (.t 10) (.eqa true (.agg (.cons 0
  1 false .int (.cons 1 1 false .int (.cons 2 1 false .int (.cons 3 1 false .int (.cons 4 32 true (.arr 32) (.cons 36 1 false .int (.cons 37 32 true
  (.arr 32) (.cons 69 32 true (.arr 32) .nil))))))))) (.t 7) (.t 9)),nn (.t 11) (.mv false (.t 10)),⟨.t 12,.fadr 1 101 (.v 2),some (.t 11,false)⟩,
  ⟨.t 13,.load 1 false (.t 12),some (.t 11,false)⟩,⟨.t 14,.len (.t 13),some (.t 11,false)⟩,⟨.t 15,.fadr 1 101 (.v 3),some (.t 11,false)⟩,
  ⟨.t 16,.load 1 false (.t 15),some (.t 11,false)⟩,⟨.t 17,.len (.t 16),some (.t 11,false)⟩,⟨.t 18,.bin .neq (.t 14) (.t 17),some (.t 11,
  false)⟩,nn (.t 19) (.pick (.t 11) (.c (.v (.bool true))) (.t 18))]).seq (PC.cond (.t 19) ((PC.reg [nn (.v 4) (.mv true (.c (.v (.bool
  false))))]).seq PC.ret) PC.skip)).seq (((PC.reg [nn (.v 5) (.mv true (.c (.v (.int .i64 0))))]).seq (PC.block 0 (PC.loop [2,3,5] lp46_0))).seq
  ((PC.reg [nn (.v 4) (.mv true (.c (.v (.bool true))))]).seq PC.ret)))) [(.v 4,none)]
def lp143_0:PC:=
 (PC.reg [nn (.t 11) (.bin .lss (.v 10) (.v 9))]).seq ((PC.cond (.t 11) PC.skip (PC.exit 0)).seq ((PC.block 1 ((PC.reg [nn (.t 12) (.iadrS 33 (.v 8) (.v
  10)),nn (.t 13) (.load 33 true (.t 12)),nn (.v 7) (.alloc (.agg [.int .i64 0,.arr .u8 32 [0,0,0,0,0,0,0,0,0,0,0,0,0,0,0,0,0,0,0,
  0,0,0,0,0,0,0,0,0,0,0,0,0]])),nn .no (.store 33 (.v 7) (.t 13))]).seq (((PC.reg [nn (.t 14) (.fadr 0 0 (.v 7)),nn (.t 15) (.load 1
  false (.t 14)),mm 16 5,nn (.t 17) (.bin .leq (.t 15) (.t 16)),nn (.t 18) (.mv false (.t 17)),⟨.t 19,.fadr 0 0 (.v 7),some (.t 18,false)⟩,⟨.t
  20,.load 1 false (.t 19),some (.t 18,false)⟩,gm 21 1 18 false,⟨.t 22,.bin .gtr (.t 20) (.t 21),some (.t 18,false)⟩,nn (.t 23) (.pick (.t 18)
  (.c (.v (.bool true))) (.t 22))]).seq (PC.cond (.t 23) ((PC.reg [nn (.v 4) (.mv true (.c (.v (.bool false))))]).seq PC.ret) PC.skip)).seq (PC.reg [nn
  (.t 24) (.fadr 0 0 (.v 7)),nn (.t 25) (.load 1 false (.t 24)),ma 5 25])))).seq (PC.reg [nn (.t 26) (.bin .add (.v 10) (.c (.v (.int .i64 1)))),nn
  (.v 10) (.mv false (.t 26))])))
def pf143:PF:=
 PF.mk 2 11 27 ((PC.reg [nn (.v 4) (.mv true (.c (.v (.bool false))))]).seq ((PC.reg [nn (.v 5) (.mv true (.c (.v (.int .i64 0))))]).seq (((PC.reg [nn
  (.v 8) (.mv false (.v 0)),nn (.v 9) (.len (.v 8)),nn (.v 10) (.mv false (.c (.v (.int .i64 0))))]).seq (PC.block 0 (PC.loop [1,5,8,9,10]
  lp143_0))).seq ((PC.reg [nn (.v 4) (.mv true (.c (.v (.bool true))))]).seq PC.ret)))) [(.v 4,none)]
def pf142:PF:=
 PF.mk 2 6 15 ((PC.reg [nn (.v 2) (.box (.v 0)),nn (.v 3) (.box (.v 1)),nn (.v 4) (.alloc (.agg [.int .i64 0,.int .i64 0,.int .i64 0,.int .i64 0,
  .arr .u8 32 zz2,.int .i64 0,.arr .u8 32 [0,0,0,0,
  0,0,0,0,0,0,0,0,0,0,0,0,0,0,0,0,0,0,0,0,0,0,0,0,0,0,0,0],.arr .u8 32 [0,0,0,0,0,0,0,0,0,0,0,0,0,0,0,0,0,
  0,0,0,0,0,0,0,0,0,0,0,0,0,0,0]]))]).seq ((PC.reg [nn (.t 6) (.fadr 0 0 (.v 2)),nn (.t 7) (.load 101 true (.t 6)),nn (.v 5) (.alloc
  (.agg [.int .i64 0,.int .i64 0,.int .i64 0,.int .i64 0,.arr .u8 32 [0,0,0,0,0,0,0,0,0,0,0,0,0,0,0,0,0,0,0,0,0,0,0,0,0,0,
  0,0,0,0,0,0],.int .i64 0,.arr .u8 32 zz2,.arr
  .u8 32 zz2])),nn .no (.store 101 (.v 5) (.t 7))]).seq
  ((PC.regD 0 [nn (.t 8) (.fadr 0 0 (.v 3)),nn (.t 9) (.load 1 false (.t 8)),nn (.t 10) (.fadr 1 1 (.v 3)),nn (.t 11) (.load 32 true (.t 10)),nn
  (.t 12) (.fadr 0 0 (.v 5)),nn .no (.store 1 (.t 12) (.t 9)),nn (.t 13) (.fadr 7 69 (.v 5)),nn .no (.store 32 (.t 13) (.t 11))] [(3,5)]).seq
  ((PC.reg [nn (.t 14) (.load 101 true (.v 5)),nn .no (.store 101 (.v 4) (.t 14))]).seq PC.ret)))) [(.v 4,some (101,true))]
attribute [local irreducible] W Wops WopsD WL Wop WopD
variable {E:Env} {C:Abs.Spec} {l:List (Nat×Spec1)} {G:List (Nat×V)} {Q:R→List (Nat×V)→Prop}
set_option maxHeartbeats 1000000
def risesB (n:Int):Int→List Int→Bool
 |_,[]=>true
 |low,w::ws=>if w≤low∨n < w then false else risesB n w ws
def _root_.Go.Abs.Sha.CertS.wf (c:CertS):Prop:=c.att.wf∧(∀p∈c.sigs,I64 p.1∧H32 p.2)
def withS (a:AttS) (p:Int×List Int):AttS:={ a with who:=p.1,ta:=p.2 }
def _root_.Go.Abs.Sha.CertS.right (kt:List Int) (n:Int) (c:CertS):Bool:=
 if quo n=0∨(c.sigs.length:Int)≠quo n∨risesB n 0 (c.sigs.map (·.1))=false∨c.att.who≠0∨c.att.ta≠zero32 then false else c.sigs.all fun p=>(withS c.att p).right kt
def SgV (G:List (Nat×V)) (x:V) (sg:List (Int×List Int)):Prop:=
 x= .sle 33 (sg.map sgV)∨(x= .nils∧sg=[])∨∃id c LL,x= .sob id 33 0 sg.length c∧Abs.look G id=some (.agg LL)∧(∀(i:Nat) p,sg[i]? =some p→LL[i]? =some (sgV p))∧sg.length≤LL.length∧∀y∈LL,V.size y=33
theorem SgV.one {x:V} {sg:List (Int×List Int)} (h:SgV G x sg):V.size x=1∧V.isAgg x=false:=by
 rcases h with rfl|⟨rfl,_⟩|⟨id,c,LL,rfl,_⟩<;>exact⟨rfl,rfl⟩
theorem at_drop2 {α:Type} {l:List α} {j:Nat} {p:α} {r:List α} (h:l.drop j=p::r):l[j]? =some p:=by
 have:(l.drop j)[0]? =some p:=by rw[h];rfl
 rwa [List.getElem?_drop,Nat.add_zero]at this
def ZRs:Spec1
 |[.sle 33 ss,.int .i64 n],G,Q=>∃sg:List (Int×List Int),(ss=sg.map sgV∧sg.length < 1000000)∧Q (.v (.bool (risesB n 0 (sg.map (·.1))))) G
 |[.nils,.int .i64 n],G,Q=>Q (.v (.bool true)) G
 |[.sob id 33 0 m c,.int .i64 n],G,Q=>∃(sg:List (Int×List Int)) (LL:List V),(m=sg.length∧sg.length < 1000000∧Abs.look G id=some (.agg LL)∧(∀(i:Nat) p,sg[i]? =some p→LL[i]? =some (sgV p))∧sg.length≤LL.length∧∀y∈LL,V.size y=33)∧Q (.v (.bool (risesB n 0 (sg.map (·.1))))) G
 |_,_,_=>False
theorem ZRs_eq {ss n}:ZRs [.sle 33 ss,.int .i64 n] G Q=(∃sg:List (Int×List Int),(ss=sg.map sgV∧sg.length < 1000000)∧Q (.v (.bool (risesB n 0 (sg.map (·.1))))) G):=rfl
def ZWi:Spec1
 |[x,y],G,Q=>∃(a:AttS) (s:V) (p:Int×List Int),(x= .agg [a.v,s]∧V.size s=1∧V.isAgg s=false∧y=sgV p)∧Q (.v (withS a p).v) G
 |_,_,_=>False
theorem ZWi_eq {x y}:ZWi [x,y] G Q=(∃(a:AttS) (s:V) (p:Int×List Int),(x= .agg [a.v,s]∧V.size s=1∧V.isAgg s=false∧y=sgV p)∧Q (.v (withS a p).v) G):=rfl
theorem walk142 {a:AttS} {s:V} {p:Int×List Int} (hs:V.size s=1) (hs2:V.isAgg s=false) (h:Q (.v (withS a p).v) G):Wf E C pf142 [.agg [a.v,s],sgV p] G Q:=by
 obtain⟨a1,a2,a3,a4,a5,a6,a7,a8⟩:=a
 obtain⟨p1,p2⟩:=p
 simp -implicitDefEqProofs only[pf142,AttS.v,sgV,hs,hs2,go_sem,↓reduceIte]
 exact h
theorem getD_sg {sg:List (Int×List Int)} {j:Nat} {p:Int×List Int} {r:List (Int×List Int)} (h:sg.drop j=p::r):(sg.map sgV).getD j V.nilp=sgV p:=by
 have:(sg.drop j)[0]? =some p:=by rw[h];rfl
 rw[List.getElem?_drop,Nat.add_zero]at this
 rw[List.getD_eq_getElem?_getD,List.getElem?_map,this];rfl
theorem drop_one {α:Type} {l r:List α} {j:Nat} {p:α} (h:l.drop j=p::r):l.drop (j+1)=r∧j < l.length∧l.length=j+1+r.length:=by
 have e:l.drop (j+1)=r:=by rw[←List.drop_drop,h];rfl
 have:=congrArg List.length h
 rw[List.length_drop,List.length_cons]at this
 exact⟨e,by omega,by omega⟩
theorem drop_none {α:Type} {l:List α} {j:Nat} (h:l.drop j=[]):l.length≤j:=by
 have:=congrArg List.length h
 rw[List.length_drop,List.length_nil]at this;omega
theorem loop143 {QQ:Ex→St→Prop} {n:Int} {sg:List (Int×List Int)} (hl:sg.length < 1000000)
  (hx:∀(low:Int) (j:Nat) ts L,risesB n 0 (sg.map (·.1))=true→QQ (.exit 0) ⟨[none,some (.v (.int .i64 n)),none,none,none,some (.v (.int .i64 low)),none,none,some (.v (.sle 33 (sg.map sgV))),some (.v (.int .i64 (sg.length:Nat))),some (.v (.int .i64 (j:Nat)))],ts,L,G⟩)
  (hr:∀σ:St,σ.G=G→St.ev σ (.v 4)=some (.v (.bool false))→risesB n 0 (sg.map (·.1))=false→QQ .ret σ):
  ∀(r:List (Int×List Int)) (j:Nat) (low:Int) L,sg.drop j=r→j≤sg.length→risesB n 0 (sg.map (·.1))=risesB n low (r.map (·.1))→WL (W E C lp143_0) [1,5,8,9,10] QQ (r.length+1) ⟨[none,some (.v (.int .i64 n)),none,none,none,some (.v (.int .i64 low)),none,none,some (.v (.sle 33 (sg.map sgV))),some (.v (.int .i64 (sg.length:Nat))),some (.v (.int .i64 (j:Nat)))],[],L,G⟩:=by
 intro r
 induction r with
 |nil=>
  intro j low L h1 h2 h3
  have:=drop_none h1
  have c1:¬(j:Int) < (sg.length:Int):=by omega
  refine WL_in lp143_0.eq_1 ?_
  simp -implicitDefEqProofs only[c1,go_sem,↓reduceIte]
  exact hx _ _ _ _ h3
 |cons p r ih=>
  intro j low L h1 h2 h3
  obtain⟨hd,hj,hlen⟩:=drop_one h1
  have g:=getD_sg h1
  have c1:(j:Int) < (sg.length:Int):=by omega
  have c2:(0:Int)≤(j:Int):=by omega
  have w1:IntKind.i64.wrap ((j:Int)+1)=((j+1:Nat):Int):=wc (by omega) (by omega)
  obtain⟨p1,p2⟩:=p
  rw[List.map_cons]at h3
  refine WL_in lp143_0.eq_1 ?_
  by_cases r1:p1≤low
  ·simp -implicitDefEqProofs only[c1,c2,g,sgV,w1,Int.toNat_natCast,List.length_map,r1,go_sem,↓reduceIte]
   refine hr _ rfl rfl ?_
   rw[h3];exact if_pos (.inl r1)
  ·by_cases r2:n < p1
   ·simp -implicitDefEqProofs only[c1,c2,g,sgV,w1,Int.toNat_natCast,List.length_map,r1,r2,go_sem,↓reduceIte]
    refine hr _ rfl rfl ?_
    rw[h3];exact if_pos (.inr r2)
   ·simp -implicitDefEqProofs only[c1,c2,g,sgV,w1,Int.toNat_natCast,List.length_map,r1,r2,go_sem,↓reduceIte]
    refine ih (j+1) p1 _ hd (by omega) ?_
    rw[h3];exact if_neg (by omega)
theorem walk143 {n:Int} {sg:List (Int×List Int)} (hl:sg.length < 1000000) (h:Q (.v (.bool (risesB n 0 (sg.map (·.1))))) G):Wf E C pf143 [.sle 33 (sg.map sgV),.int .i64 n] G Q:=by
 simp -implicitDefEqProofs only[pf143,List.length_map,go_sem,↓reduceIte]
 refine⟨sg.length+1,?_⟩
 refine loop143 hl (fun low j ts L e=> ?_) (fun σ e1 e2 e3=> ?_) sg 0 0 [] rfl (Nat.zero_le _) rfl
 ·simp -implicitDefEqProofs only[go_sem,↓reduceIte]
  rw[e]at h;exact h
 ·show resQ Q σ.G (rD (St.ev σ (.v 4)))
  rw[e1,e2,←e3];exact h
theorem loop143s {QQ:Ex→St→Prop} {n:Int} {sg:List (Int×List Int)} {id c:Nat} {LL:List V} (hG:Abs.look G id=some (.agg LL)) (hLL:∀(i:Nat) p,sg[i]? =some p→LL[i]? =some (sgV p)) (hfl:sg.length≤LL.length) (hsz:∀y∈LL,V.size y=33) (hl:sg.length < 1000000)
  (hx:∀(low:Int) (j:Nat) ts L,risesB n 0 (sg.map (·.1))=true→QQ (.exit 0) ⟨[none,some (.v (.int .i64 n)),none,none,none,some (.v (.int .i64 low)),none,none,some (.v (.sob id 33 0 sg.length c)),some (.v (.int .i64 (sg.length:Nat))),some (.v (.int .i64 (j:Nat)))],ts,L,G⟩)
  (hr:∀σ:St,σ.G=G→St.ev σ (.v 4)=some (.v (.bool false))→risesB n 0 (sg.map (·.1))=false→QQ .ret σ):
  ∀(r:List (Int×List Int)) (j:Nat) (low:Int) L,sg.drop j=r→j≤sg.length→risesB n 0 (sg.map (·.1))=risesB n low (r.map (·.1))→WL (W E C lp143_0) [1,5,8,9,10] QQ (r.length+1) ⟨[none,some (.v (.int .i64 n)),none,none,none,some (.v (.int .i64 low)),none,none,some (.v (.sob id 33 0 sg.length c)),some (.v (.int .i64 (sg.length:Nat))),some (.v (.int .i64 (j:Nat)))],[],L,G⟩:=by
 intro r
 induction r with
 |nil=>
  intro j low L h1 h2 h3
  have:=drop_none h1
  have c1:¬(j:Int) < (sg.length:Int):=by omega
  refine WL_in lp143_0.eq_1 ?_
  simp -implicitDefEqProofs only[c1,go_sem,↓reduceIte]
  exact hx _ _ _ _ h3
 |cons p r ih=>
  intro j low L h1 h2 h3
  obtain⟨hd,hj,hlen⟩:=drop_one h1
  have g:=hLL j p (at_drop2 h1)
  have c1:(j:Int) < (sg.length:Int):=by omega
  have c2:(0:Int)≤(j:Int):=by omega
  have w1:IntKind.i64.wrap ((j:Int)+1)=((j+1:Nat):Int):=wc (by omega) (by omega)
  obtain⟨p1,p2⟩:=p
  rw[List.map_cons]at h3
  refine WL_in lp143_0.eq_1 ?_
  by_cases r1:p1≤low
  ·simp -implicitDefEqProofs only[c1,c2,hG,g,sgV,w1,Int.toNat_natCast,List.length_map,r1,go_sem,↓reduceIte]
   refine And.intro ⟨by omega,hsz⟩ <| hr _ rfl rfl ?_
   rw[h3];exact if_pos (.inl r1)
  ·by_cases r2:n < p1
   ·simp -implicitDefEqProofs only[c1,c2,hG,g,sgV,w1,Int.toNat_natCast,List.length_map,r1,r2,go_sem,↓reduceIte]
    refine And.intro ⟨by omega,hsz⟩ <| hr _ rfl rfl ?_
    rw[h3];exact if_pos (.inr r2)
   ·simp -implicitDefEqProofs only[c1,c2,hG,g,sgV,w1,Int.toNat_natCast,List.length_map,r1,r2,go_sem,↓reduceIte]
    refine And.intro ⟨by omega,hsz⟩ <| ih (j+1) p1 _ hd (by omega) ?_
    rw[h3];exact if_neg (by omega)
theorem walk143s {n:Int} {sg:List (Int×List Int)} {id c:Nat} {LL:List V} (hG:Abs.look G id=some (.agg LL)) (hLL:∀(i:Nat) p,sg[i]? =some p→LL[i]? =some (sgV p)) (hfl:sg.length≤LL.length) (hsz:∀y∈LL,V.size y=33) (hl:sg.length < 1000000) (h:Q (.v (.bool (risesB n 0 (sg.map (·.1))))) G):Wf E C pf143 [.sob id 33 0 sg.length c,.int .i64 n] G Q:=by
 simp -implicitDefEqProofs only[pf143,List.length_map,go_sem,↓reduceIte]
 refine⟨sg.length+1,?_⟩
 refine loop143s hG hLL hfl hsz hl (fun low j ts L e=> ?_) (fun σ e1 e2 e3=> ?_) sg 0 0 [] rfl (Nat.zero_le _) rfl
 ·simp -implicitDefEqProofs only[go_sem,↓reduceIte]
  rw[e]at h;exact h
 ·show resQ Q σ.G (rD (St.ev σ (.v 4)))
  rw[e1,e2,←e3];exact h
theorem walk143n {n:Int} (h:Q (.v (.bool true)) G):Wf E C pf143 [.nils,.int .i64 n] G Q:=by
 simp -implicitDefEqProofs only[pf143,go_sem,↓reduceIte]
 refine⟨1,?_⟩
 refine WL_in lp143_0.eq_1 ?_
 simp -implicitDefEqProofs only[go_sem,↓reduceIte]
 exact h
def lp114_0:PC:=
 (PC.reg [nn (.t 14) (.bin .lss (.v 13) (.v 12))]).seq ((PC.cond (.t 14) PC.skip (PC.exit 0)).seq ((PC.block 1 ((PC.reg [nn (.t 15) (.mv true (.v 13)),
  ma 5 15]).seq ((PC.regD 0 [mm 16 0,mm 17 5,nn (.t 18) (.iadrS 33 (.t 16) (.t 17)),nn (.t 19) (.load 33 true (.t 18)),mm 20 1,mm 21 5,nn (.t 22)
  (.iadrS 33 (.t 20) (.t 21)),nn (.t 23) (.load 33 true (.t 22)),nn (.t 24) (.eqa true (.agg (.cons 0 1 false .int (.cons 1 32 true (.arr 32) .nil)))
  (.t 19) (.t 23))] []).seq (PC.cond (.t 24) ((PC.reg [nn (.v 4) (.mv true (.c (.v (.bool false))))]).seq PC.ret) PC.skip)))).seq (PC.reg [nn (.t 25)
  (.bin .add (.v 13) (.c (.v (.int .i64 1)))),nn (.v 13) (.mv false (.t 25))])))
def pf114:PF:=
 PF.mk 2 14 26 ((PC.reg [nn (.v 4) (.mv true (.c (.v (.bool false))))]).seq (((PC.reg [nn (.v 6) (.mv false (.v 0)),nn (.v 7) (.len (.v 6)),nn (.v 8)
  (.mv false (.v 1)),nn (.v 9) (.len (.v 8)),nn (.v 10) (.bin .neq (.v 7) (.v 9))]).seq (PC.cond (.v 10) ((PC.reg [nn (.v 4) (.mv true (.c (.v (.bool
  false))))]).seq PC.ret) PC.skip)).seq (((PC.reg [nn (.v 11) (.mv false (.v 0)),nn (.v 12) (.len (.v 11)),nn (.v 13) (.mv false (.c (.v (.int .i64
  0))))]).seq (PC.block 0 (PC.loop [0,1,12,13] lp114_0))).seq ((PC.reg [nn (.v 4) (.mv true (.c (.v (.bool true))))]).seq PC.ret)))) [(.v 4,none)]
def pf92:PF:=
 PF.mk 2 5 17 ((PC.reg [nn (.v 2) (.box (.v 0)),nn (.v 3) (.box (.v 1)),nn (.v 4) (.mv true (.c (.v (.bool false))))]).seq ((PC.reg [nn (.t 5) (.fadr
  0 0 (.v 2)),nn (.t 6) (.load 101 true (.t 5)),nn (.t 7) (.fadr 0 0 (.v 3)),nn (.t 8) (.load 101 true (.t 7)),nn (.t 9) (.eqa false (.agg (.cons 0
  1 false .int (.cons 1 1 false .int (.cons 2 1 false .int (.cons 3 1 false .int (.cons 4 32 true (.arr 32) (.cons 36 1 false .int (.cons 37 32 true
  (.arr 32) (.cons 69 32 true (.arr 32) .nil))))))))) (.t 6) (.t 8)),nn (.t 10) (.mv false (.t 9)),⟨.t 11,.fadr 1 101 (.v 2),some (.t 10,true)⟩,
  ⟨.t 12,.load 1 false (.t 11),some (.t 10,true)⟩,⟨.t 13,.fadr 1 101 (.v 3),some (.t 10,true)⟩,⟨.t 14,.load 1 false (.t 13),some (.t 10,
  true)⟩,⟨.t 15,.call 114 [.t 12,.t 14],some (.t 10,true)⟩,nn (.t 16) (.pick (.t 10) (.t 15) (.c (.v (.bool false)))),ma 4 16]).seq PC.ret))
  [(.v 4,none)]
def lp76_0:PC:=
 ((PC.reg [mm 6 5,mm 7 0,nn (.t 8) (.len (.t 7)),nn (.t 9) (.bin .lss (.t 6) (.t 8))]).seq (PC.cond (.t 9) PC.skip (PC.exit 0))).seq ((PC.block 1
  ((PC.regD 0 [mm 12 0,mm 13 5,nn (.t 14) (.iadrS 33 (.t 12) (.t 13)),nn (.t 15) (.fadr 0 0 (.t 14)),nn (.t 16) (.load 1 false (.t 15)),nn (.t 17)
  (.bin .lss (.t 16) (.c (.v (.int .i64 1)))),nn (.t 18) (.mv false (.t 17)),gm 19 0 18 false,gm 20 5 18 false,⟨.t 21,.iadrS 33 (.t 19) (.t 20),
  some (.t 18,false)⟩,⟨.t 22,.fadr 0 0 (.t 21),some (.t 18,false)⟩,⟨.t 23,.load 1 false (.t 22),some (.t 18,false)⟩,gm 24 1 18 false,⟨.t 25,
  .bin .gtr (.t 23) (.t 24),some (.t 18,false)⟩,nn (.t 26) (.pick (.t 18) (.c (.v (.bool true))) (.t 25)),nn (.t 27) (.mv false (.t 26)),gm 28 5
  27 false,⟨.t 29,.bin .gtr (.t 28) (.c (.v (.int .i64 0))),some (.t 27,false)⟩,⟨.t 30,.mv false (.t 29),some (.t 27,false)⟩,gm 31 0 30 true,
  gm 32 5 30 true,⟨.t 33,.bin .sub (.t 32) (.c (.v (.int .i64 1))),some (.t 30,true)⟩,⟨.t 34,.iadrS 33 (.t 31) (.t 33),some (.t 30,true)⟩,⟨.t
  35,.fadr 0 0 (.t 34),some (.t 30,true)⟩,⟨.t 36,.load 1 false (.t 35),some (.t 30,true)⟩,gm 37 0 30 true,gm 38 5 30 true,⟨.t 39,.iadrS 33
  (.t 37) (.t 38),some (.t 30,true)⟩,⟨.t 40,.fadr 0 0 (.t 39),some (.t 30,true)⟩,⟨.t 41,.load 1 false (.t 40),some (.t 30,true)⟩,⟨.t 42,
  .bin .geq (.t 36) (.t 41),some (.t 30,true)⟩,⟨.t 43,.pick (.t 30) (.t 42) (.c (.v (.bool false))),some (.t 27,false)⟩,nn (.t 44) (.pick (.t
  27) (.c (.v (.bool true))) (.t 43))] []).seq (PC.cond (.t 44) ((PC.reg [nn (.v 4) (.mv true (.c (.v (.bool false))))]).seq PC.ret) PC.skip))).seq
  (PC.reg [mm 10 5,nn (.t 11) (.bin .add (.t 10) (.c (.v (.int .i64 1)))),ma 5 11]))
def pf76:PF:=
 PF.mk 2 6 45 ((PC.reg [nn (.v 4) (.mv true (.c (.v (.bool false))))]).seq (((PC.reg [nn (.v 5) (.mv true (.c (.v (.int .i64 0))))]).seq (PC.block 0
  (PC.loop [0,1,5] lp76_0))).seq ((PC.reg [nn (.v 4) (.mv true (.c (.v (.bool true))))]).seq PC.ret))) [(.v 4,none)]
def pf74:PF:=
 PF.mk 1 3 14 ((PC.reg [nn (.v 1) (.box (.v 0)),nn (.v 2) (.mv true (.c (.v (.bool false))))]).seq ((PC.reg [nn (.t 3) (.fadr 0 0 (.v 1)),nn (.t 4)
  (.fadr 0 0 (.t 3)),nn (.t 5) (.load 1 false (.t 4)),nn (.t 6) (.bin .eql (.t 5) (.c (.v (.int .i64 0)))),nn (.t 7) (.mv false (.t 6)),⟨.t 8,
  .fadr 0 0 (.v 1),some (.t 7,true)⟩,⟨.t 9,.fadr 7 69 (.t 8),some (.t 7,true)⟩,⟨.t 10,.load 32 true (.t 9),some (.t 7,true)⟩,⟨.t 11,.build
  (.arr .u8 32 zz2) [],some (.t 7,true)⟩,⟨.t 12,.eqa
  false (.arr 32) (.t 10) (.t 11),some (.t 7,true)⟩,nn (.t 13) (.pick (.t 7) (.t 12) (.c (.v (.bool false)))),ma 2 13]).seq PC.ret)) [(.v 2,none)]
def pf75:PF:=
 PF.mk 2 5 12 ((PC.reg [nn (.v 2) (.box (.v 0)),nn (.v 3) (.box (.v 1)),nn (.v 4) (.alloc (.agg [.int .i64 0,.int .i64 0,.int .i64 0,.int .i64 0,
  .arr .u8 32 zz2,.int .i64 0,.arr .u8 32 [0,0,0,0,
  0,0,0,0,0,0,0,0,0,0,0,0,0,0,0,0,0,0,0,0,0,0,0,0,0,0,0,0],.arr .u8 32 [0,0,0,0,0,0,0,0,0,0,0,0,0,0,0,0,0,
  0,0,0,0,0,0,0,0,0,0,0,0,0,0,0]]))]).seq ((PC.reg [nn (.t 5) (.fadr 0 0 (.v 3)),nn (.t 6) (.load 1 false (.t 5)),nn (.t 7) (.fadr 0 0
  (.v 2)),nn .no (.store 1 (.t 7) (.t 6))]).seq ((PC.reg [nn (.t 8) (.fadr 1 1 (.v 3)),nn (.t 9) (.load 32 true (.t 8)),nn (.t 10) (.fadr 7 69 (.v
  2)),nn .no (.store 32 (.t 10) (.t 9))]).seq ((PC.reg [nn (.t 11) (.load 101 true (.v 2)),nn .no (.store 101 (.v 4) (.t 11))]).seq PC.ret)))) [(.v
  4,some (101,true))]
def sameT (a b:AttS):Bool:=decide (a.who=b.who∧a.ki=b.ki∧a.vi=b.vi∧a.ph=b.ph∧a.ha=b.ha∧a.pv=b.pv∧a.pa=b.pa∧a.ta=b.ta)
def sameC (a b:CertS):Bool:=sameT a.att b.att&&decide (a.sigs=b.sigs)
def ZEs:Spec1
 |[.sle 33 x,.sle 33 y],G,Q=>∃sa sb:List (Int×List Int),(x=sa.map sgV∧y=sb.map sgV∧sa.length < 1000000∧sb.length < 1000000)∧Q (.v (.bool (decide (sa=sb)))) G
 |_,_,_=>False
theorem ZEs_eq {x y}:ZEs [.sle 33 x,.sle 33 y] G Q=(∃sa sb:List (Int×List Int),(x=sa.map sgV∧y=sb.map sgV∧sa.length < 1000000∧sb.length < 1000000)∧Q (.v (.bool (decide (sa=sb)))) G):=rfl
def ZSn:Spec1
 |[x,y],G,Q=>∃a b:CertS,(x=a.v∧y=b.v∧a.sigs.length < 1000000∧b.sigs.length < 1000000)∧Q (.v (.bool (sameC a b))) G
 |_,_,_=>False
theorem ZSn_eq {x y}:ZSn [x,y] G Q=(∃a b:CertS,(x=a.v∧y=b.v∧a.sigs.length < 1000000∧b.sigs.length < 1000000)∧Q (.v (.bool (sameC a b))) G):=rfl
def ZBa:Spec1
 |[x],G,Q=>∃(a:AttS) (s:V),(x= .agg [a.v,s]∧V.size s=1∧V.isAgg s=false)∧Q (.v (.bool (decide (a.who=0)&&(a.ta==zero32)))) G
 |_,_,_=>False
theorem ZBa_eq {x}:ZBa [x] G Q=(∃(a:AttS) (s:V),(x= .agg [a.v,s]∧V.size s=1∧V.isAgg s=false)∧Q (.v (.bool (decide (a.who=0)&&(a.ta==zero32)))) G):=rfl
def ZWj:Spec1
 |[x,y],G,Q=>∃(a:AttS) (p:Int×List Int),(x=a.v∧y=sgV p)∧Q (.v (withS a p).v) G
 |_,_,_=>False
theorem ZWj_eq {x y}:ZWj [x,y] G Q=(∃(a:AttS) (p:Int×List Int),(x=a.v∧y=sgV p)∧Q (.v (withS a p).v) G):=rfl
theorem at_sg {sg:List (Int×List Int)} {j:Nat} {p:Int×List Int} {r:List (Int×List Int)} (h:sg.drop j=p::r):sg[j]? =some p:=by
 have:(sg.drop j)[0]? =some p:=by rw[h];rfl
 rwa [List.getElem?_drop,Nat.add_zero]at this
theorem getD_sg' {sg:List (Int×List Int)} {j:Nat} {p:Int×List Int} (h:sg[j]? =some p):(sg.map sgV).getD j V.nilp=sgV p:=by
 rw[List.getD_eq_getElem?_getD,List.getElem?_map,h];rfl
theorem loop114 {QQ:Ex→St→Prop} {sa sb:List (Int×List Int)} (hll:sa.length=sb.length) (hl:sa.length < 1000000)
  (hx:∀(j:Nat) ts,sa=sb→QQ (.exit 0) ⟨[some (.v (.sle 33 (sa.map sgV))),some (.v (.sle 33 (sb.map sgV))),none,none,none,none,none,none,none,none,none,none,some (.v (.int .i64 (sa.length:Nat))),some (.v (.int .i64 (j:Nat)))],ts,[],G⟩) (hr:∀σ:St,σ.G=G→St.ev σ (.v 4)=some (.v (.bool false))→sa≠sb→QQ .ret σ):
  ∀(r r2:List (Int×List Int)) (j:Nat),sa.drop j=r→sb.drop j=r2→j≤sa.length→(sa=sb↔r=r2)→WL (W E C lp114_0) [0,1,12,13] QQ (r.length+1) ⟨[some (.v (.sle 33 (sa.map sgV))),some (.v (.sle 33 (sb.map sgV))),none,none,none,none,none,none,none,none,none,none,some (.v (.int .i64 (sa.length:Nat))),some (.v (.int .i64 (j:Nat)))],[],[],G⟩:=by
 intro r
 induction r with
 |nil=>
  intro r2 j h1 h0 h2 h3
  have:=drop_none h1
  have c1:¬(j:Int) < (sa.length:Int):=by omega
  refine WL_in lp114_0.eq_1 ?_
  simp -implicitDefEqProofs only[c1,go_sem,↓reduceIte]
  refine hx _ _ (h3.2 ?_)
  rw[←h0,List.drop_eq_nil_of_le (by omega)]
 |cons p r ih=>
  intro r2 j h1 h0 h2 h3
  obtain⟨hd,hj,hlen⟩:=drop_one h1
  obtain⟨p2,r2,rfl⟩:∃p2 r',r2=p2::r':=by
   cases r2 with
   |nil=>have:=drop_none h0;omega
   |cons p2 r2=>exact⟨_,_,rfl⟩
  obtain⟨hd2,hj2,hlen2⟩:=drop_one h0
  have g:=getD_sg h1
  have g2:=getD_sg h0
  have c1:(j:Int) < (sa.length:Int):=by omega
  have c3:(j:Int) < (sb.length:Int):=by omega
  have c2:(0:Int)≤(j:Int):=by omega
  have w1:IntKind.i64.wrap ((j:Int)+1)=((j+1:Nat):Int):=wc (by omega) (by omega)
  obtain⟨p1,ps⟩:=p
  obtain⟨q1,qs⟩:=p2
  refine WL_in lp114_0.eq_1 ?_
  by_cases e:p1=q1
  ·by_cases e2:ps=qs
   ·have e2t:(ps==qs)=true:=by simpa using e2
    simp -implicitDefEqProofs only[c1,c2,c3,g,g2,sgV,w1,Int.toNat_natCast,List.length_map,e,e2t,go_sem,↓reduceIte]
    exact ih r2 (j+1) hd hd2 (by omega) (h3.trans (by rw[e,e2];simp))
   ·have e2f:(ps==qs)=false:=by simpa using e2
    simp -implicitDefEqProofs only[c1,c2,c3,g,g2,sgV,w1,Int.toNat_natCast,List.length_map,e,e2f,go_sem,↓reduceIte]
    exact hr _ rfl rfl fun h=>e2 (by have:=h3.1 h;simp at this;exact this.1.2)
  ·simp -implicitDefEqProofs only[c1,c2,c3,g,g2,sgV,w1,Int.toNat_natCast,List.length_map,e,go_sem,↓reduceIte]
   exact hr _ rfl rfl fun h=>e (by have:=h3.1 h;simp at this;exact this.1.1)
theorem walk114 {sa sb:List (Int×List Int)} (hl:sa.length < 1000000) (hl2:sb.length < 1000000) (h:Q (.v (.bool (decide (sa=sb)))) G):Wf E C pf114 [.sle 33 (sa.map sgV),.sle 33 (sb.map sgV)] G Q:=by
 by_cases q5:sa.length=sb.length
 case neg=>
  have q5':¬((sa.length:Nat):Int)=(sb.length:Nat):=by omega
  rw[decide_eq_false (fun e=>q5 (by rw[e]))]at h
  simp -implicitDefEqProofs only[pf114,q5',List.length_map,go_sem,↓reduceIte]
  exact h
 have q5':((sa.length:Nat):Int)=(sb.length:Nat):=by omega
 simp -implicitDefEqProofs only[pf114,q5',List.length_map,go_sem,↓reduceIte]
 rw[←q5]
 refine⟨sa.length+1,?_⟩
 refine loop114 q5 hl (fun j ts e=> ?_) (fun σ e1 e2 e3=> ?_) sa sb 0 rfl rfl (Nat.zero_le _) Iff.rfl
 ·rw[decide_eq_true e]at h
  simp -implicitDefEqProofs only[go_sem,↓reduceIte]
  exact h
 ·show resQ Q σ.G (rD (St.ev σ (.v 4)))
  rw[e1,e2]
  rw[decide_eq_false e3]at h
  exact h
theorem walk92 (hE:Abs.look l 114=some ZEs) {a b:CertS} (hl:a.sigs.length < 1000000) (hl2:b.sigs.length < 1000000) (h:Q (.v (.bool (sameC a b))) G):Wf E (specOf l) pf92 [a.v,b.v] G Q:=by
 obtain⟨⟨a1,a2,a3,a4,a5,a6,a7,a8⟩,sa⟩:=a
 obtain⟨⟨b1,b2,b3,b4,b5,b6,b7,b8⟩,sb⟩:=b
 have key:∀c:Bool,sameC ⟨⟨a1,a2,a3,a4,a5,a6,a7,a8⟩,sa⟩ ⟨⟨b1,b2,b3,b4,b5,b6,b7,b8⟩,sb⟩=c→Q (.v (.bool c)) G:=fun c e=>by rw[←e];exact h
 have no:¬(a1=b1∧a2=b2∧a3=b3∧a4=b4∧a5=b5∧a6=b6∧a7=b7∧a8=b8∧sa=sb)→Q (.v (.bool false)) G:=fun e=>key _ (by
  unfold sameC sameT
  rw[Bool.and_eq_false_iff,decide_eq_false_iff_not,decide_eq_false_iff_not]
  by_cases hs:sa=sb
  ·exact .inl fun h=>e ⟨h.1,h.2.1,h.2.2.1,h.2.2.2.1,h.2.2.2.2.1,h.2.2.2.2.2.1,h.2.2.2.2.2.2.1,h.2.2.2.2.2.2.2,hs⟩
  ·exact .inr hs)
 simp -implicitDefEqProofs only[pf92,CertS.v,AttS.v,Nat.add_zero,go_sem,↓reduceIte]
 by_cases q1:a1=b1
 case neg=>
  simp -implicitDefEqProofs only[q1,go_sem,↓reduceIte]
  exact no fun e=>q1 e.1
 by_cases q2:a2=b2
 case neg=>
  simp -implicitDefEqProofs only[q1,q2,go_sem,↓reduceIte]
  exact no fun e=>q2 e.2.1
 by_cases q3:a3=b3
 case neg=>
  simp -implicitDefEqProofs only[q1,q2,q3,go_sem,↓reduceIte]
  exact no fun e=>q3 e.2.2.1
 by_cases q4:a4=b4
 case neg=>
  simp -implicitDefEqProofs only[q1,q2,q3,q4,go_sem,↓reduceIte]
  exact no fun e=>q4 e.2.2.2.1
 by_cases q5:a5=b5
 case neg=>
  have q5f:(a5==b5)=false:=by simpa using q5
  simp -implicitDefEqProofs only[q1,q2,q3,q4,q5f,go_sem,↓reduceIte]
  exact no fun e=>q5 e.2.2.2.2.1
 have q5t:(a5==b5)=true:=by simpa using q5
 by_cases q6:a6=b6
 case neg=>
  simp -implicitDefEqProofs only[q1,q2,q3,q4,q5t,q6,go_sem,↓reduceIte]
  exact no fun e=>q6 e.2.2.2.2.2.1
 by_cases q7:a7=b7
 case neg=>
  have q7f:(a7==b7)=false:=by simpa using q7
  simp -implicitDefEqProofs only[q1,q2,q3,q4,q5t,q6,q7f,go_sem,↓reduceIte]
  exact no fun e=>q7 e.2.2.2.2.2.2.1
 have q7t:(a7==b7)=true:=by simpa using q7
 by_cases q8:a8=b8
 case neg=>
  have q8f:(a8==b8)=false:=by simpa using q8
  simp -implicitDefEqProofs only[q1,q2,q3,q4,q5t,q6,q7t,q8f,go_sem,↓reduceIte]
  exact no fun e=>q8 e.2.2.2.2.2.2.2.1
 have q8t:(a8==b8)=true:=by simpa using q8
 simp -implicitDefEqProofs only[q1,q2,q3,q4,q5t,q6,q7t,q8t,hE,ZEs_eq,go_sem,↓reduceIte]
 refine⟨sa,sb,⟨rfl,rfl,hl,hl2⟩,?_⟩
 refine key _ ?_
 unfold sameC sameT
 dsimp only
 rw[decide_eq_true ⟨q1,q2,q3,q4,q5,q6,q7,q8⟩,Bool.true_and]
theorem loop46g {QQ:Ex→St→Prop} {ca cb:V} {sa sb:List (Int×List Int)} {L:List Bx} (hca:V.size ca=101) (hcb:V.size cb=101) (hL:L=[⟨false,.agg [ca,.sle 33 (sa.map sgV)]⟩,⟨false,.agg [cb,.sle 33 (sb.map sgV)]⟩]) (hll:sa.length=sb.length) (hl:sa.length < 1000000)
  (hx:∀(j:Nat) ts,sa=sb→QQ (.exit 0) ⟨[none,none,some (.lp 0 []),some (.lp 1 []),none,some (.v (.int .i64 (j:Nat)))],ts,L,G⟩) (hr:∀σ:St,σ.G=G→St.ev σ (.v 4)=some (.v (.bool false))→sa≠sb→QQ .ret σ):
  ∀(r r2:List (Int×List Int)) (j:Nat),sa.drop j=r→sb.drop j=r2→j≤sa.length→(sa=sb↔r=r2)→WL (W E C lp46_0) [2,3,5] QQ (r.length+1) ⟨[none,none,some (.lp 0 []),some (.lp 1 []),none,some (.v (.int .i64 (j:Nat)))],[],L,G⟩:=by
 subst hL
 intro r
 induction r with
 |nil=>
  intro r2 j h1 h0 h2 h3
  have:=drop_none h1
  have c1:¬(j:Int) < (sa.length:Int):=by omega
  refine WL_in lp46_0.eq_1 ?_
  simp -implicitDefEqProofs only[c1,hca,hcb,List.length_map,go_sem,↓reduceIte]
  refine hx _ _ (h3.2 ?_)
  rw[←h0,List.drop_eq_nil_of_le (by omega)]
 |cons p r ih=>
  intro r2 j h1 h0 h2 h3
  obtain⟨hd,hj,hlen⟩:=drop_one h1
  obtain⟨p2,r2,rfl⟩:∃p2 r',r2=p2::r':=by
   cases r2 with
   |nil=>have:=drop_none h0;omega
   |cons p2 r2=>exact⟨_,_,rfl⟩
  obtain⟨hd2,hj2,hlen2⟩:=drop_one h0
  have g:=getD_sg h1
  have g2:=getD_sg h0
  have c1:(j:Int) < (sa.length:Int):=by omega
  have c3:(j:Int) < (sb.length:Int):=by omega
  have c2:(0:Int)≤(j:Int):=by omega
  have w1:IntKind.i64.wrap ((j:Int)+1)=((j+1:Nat):Int):=wc (by omega) (by omega)
  obtain⟨p1,ps⟩:=p
  obtain⟨q1,qs⟩:=p2
  refine WL_in lp46_0.eq_1 ?_
  by_cases e:p1=q1
  ·by_cases e2:ps=qs
   ·have e2t:(ps==qs)=true:=by simpa using e2
    simp -implicitDefEqProofs only[c1,c2,c3,g,g2,sgV,w1,hca,hcb,Int.toNat_natCast,List.length_map,e,e2t,go_sem,↓reduceIte]
    exact ih r2 (j+1) hd hd2 (by omega) (h3.trans (by rw[e,e2];simp))
   ·have e2f:(ps==qs)=false:=by simpa using e2
    simp -implicitDefEqProofs only[c1,c2,c3,g,g2,sgV,w1,hca,hcb,Int.toNat_natCast,List.length_map,e,e2f,go_sem,↓reduceIte]
    exact hr _ rfl rfl fun h=>e2 (by have:=h3.1 h;simp at this;exact this.1.2)
  ·simp -implicitDefEqProofs only[c1,c2,c3,g,g2,sgV,w1,hca,hcb,Int.toNat_natCast,List.length_map,e,go_sem,↓reduceIte]
   exact hr _ rfl rfl fun h=>e (by have:=h3.1 h;simp at this;exact this.1.1)
theorem walk46g {a b:CertS} (hl:a.sigs.length < 1000000) (hl2:b.sigs.length < 1000000) (h:Q (.v (.bool (sameC a b))) G):Wf E C pf46 [a.v,b.v] G Q:=by
 obtain⟨⟨a1,a2,a3,a4,a5,a6,a7,a8⟩,sa⟩:=a
 obtain⟨⟨b1,b2,b3,b4,b5,b6,b7,b8⟩,sb⟩:=b
 have key:∀c:Bool,sameC ⟨⟨a1,a2,a3,a4,a5,a6,a7,a8⟩,sa⟩ ⟨⟨b1,b2,b3,b4,b5,b6,b7,b8⟩,sb⟩=c→Q (.v (.bool c)) G:=fun c e=>by rw[←e];exact h
 have no:¬(a1=b1∧a2=b2∧a3=b3∧a4=b4∧a5=b5∧a6=b6∧a7=b7∧a8=b8∧sa=sb)→Q (.v (.bool false)) G:=fun e=>key _ (by
  unfold sameC sameT
  rw[Bool.and_eq_false_iff,decide_eq_false_iff_not,decide_eq_false_iff_not]
  by_cases hs:sa=sb
  ·exact .inl fun h=>e ⟨h.1,h.2.1,h.2.2.1,h.2.2.2.1,h.2.2.2.2.1,h.2.2.2.2.2.1,h.2.2.2.2.2.2.1,h.2.2.2.2.2.2.2,hs⟩
  ·exact .inr hs)
 simp -implicitDefEqProofs only[pf46,CertS.v,AttS.v,Nat.add_zero,List.length_map,go_sem,↓reduceIte]
 by_cases q1:a1=b1
 case neg=>
  simp -implicitDefEqProofs only[q1,go_sem,↓reduceIte]
  exact no fun e=>q1 e.1
 by_cases q2:a2=b2
 case neg=>
  simp -implicitDefEqProofs only[q1,q2,go_sem,↓reduceIte]
  exact no fun e=>q2 e.2.1
 by_cases q3:a3=b3
 case neg=>
  simp -implicitDefEqProofs only[q1,q2,q3,go_sem,↓reduceIte]
  exact no fun e=>q3 e.2.2.1
 by_cases q4:a4=b4
 case neg=>
  simp -implicitDefEqProofs only[q1,q2,q3,q4,go_sem,↓reduceIte]
  exact no fun e=>q4 e.2.2.2.1
 by_cases q5:a5=b5
 case neg=>
  have q5f:(a5==b5)=false:=by simpa using q5
  simp -implicitDefEqProofs only[q1,q2,q3,q4,q5f,go_sem,↓reduceIte]
  exact no fun e=>q5 e.2.2.2.2.1
 have q5t:(a5==b5)=true:=by simpa using q5
 by_cases q6:a6=b6
 case neg=>
  simp -implicitDefEqProofs only[q1,q2,q3,q4,q5t,q6,go_sem,↓reduceIte]
  exact no fun e=>q6 e.2.2.2.2.2.1
 by_cases q7:a7=b7
 case neg=>
  have q7f:(a7==b7)=false:=by simpa using q7
  simp -implicitDefEqProofs only[q1,q2,q3,q4,q5t,q6,q7f,go_sem,↓reduceIte]
  exact no fun e=>q7 e.2.2.2.2.2.2.1
 have q7t:(a7==b7)=true:=by simpa using q7
 by_cases q8:a8=b8
 case neg=>
  have q8f:(a8==b8)=false:=by simpa using q8
  simp -implicitDefEqProofs only[q1,q2,q3,q4,q5t,q6,q7t,q8f,go_sem,↓reduceIte]
  exact no fun e=>q8 e.2.2.2.2.2.2.2.1
 have q8t:(a8==b8)=true:=by simpa using q8
 by_cases q9:sa.length=sb.length
 case neg=>
  have q9':¬((sa.length:Nat):Int)=(sb.length:Nat):=by omega
  simp -implicitDefEqProofs only[q1,q2,q3,q4,q5t,q6,q7t,q8t,q9',go_sem,↓reduceIte]
  exact no fun e=>q9 (by rw[e.2.2.2.2.2.2.2.2])
 have q9':((sa.length:Nat):Int)=(sb.length:Nat):=by omega
 simp -implicitDefEqProofs only[q1,q2,q3,q4,q5t,q6,q7t,q8t,q9',go_sem,↓reduceIte]
 refine⟨sa.length+1,?_⟩
 refine loop46g (ca:=AttS.v ⟨a1,a2,a3,a4,a5,a6,a7,a8⟩) (cb:=AttS.v ⟨b1,b2,b3,b4,b5,b6,b7,b8⟩) (sa:=sa) (sb:=sb) rfl rfl (by simp only[AttS.v,q1,q2,q3,q4,q6]) q9 hl (fun j ts e=> ?_) (fun σ e1 e2 e3=> ?_) sa sb 0 rfl rfl (Nat.zero_le _) Iff.rfl
 ·simp -implicitDefEqProofs only[go_sem,↓reduceIte]
  refine key _ ?_
  unfold sameC sameT
  dsimp only
  rw[decide_eq_true ⟨q1,q2,q3,q4,q5,q6,q7,q8⟩,Bool.true_and,decide_eq_true e]
 ·show resQ Q σ.G (rD (St.ev σ (.v 4)))
  rw[e1,e2]
  exact no fun e=>e3 e.2.2.2.2.2.2.2.2
theorem walk74 {a:AttS} {s:V} (hs:V.size s=1) (hs2:V.isAgg s=false) (h:Q (.v (.bool (decide (a.who=0)&&(a.ta==zero32)))) G):Wf E C pf74 [.agg [a.v,s]] G Q:=by
 obtain⟨a1,a2,a3,a4,a5,a6,a7,a8⟩:=a
 by_cases q1:a1=0
 ·simp -implicitDefEqProofs only[pf74,AttS.v,q1,hs,hs2,go_sem,↓reduceIte]
  simp only[q1,decide_true,Bool.true_and]at h
  exact h
 ·simp -implicitDefEqProofs only[pf74,AttS.v,q1,hs,hs2,go_sem,↓reduceIte]
  simp only[q1,decide_false,Bool.false_and]at h
  exact h
theorem walk75 {a:AttS} {p:Int×List Int} (h:Q (.v (withS a p).v) G):Wf E C pf75 [a.v,sgV p] G Q:=by
 obtain⟨a1,a2,a3,a4,a5,a6,a7,a8⟩:=a
 obtain⟨p1,p2⟩:=p
 simp -implicitDefEqProofs only[pf75,AttS.v,sgV,go_sem,↓reduceIte]
 exact h
theorem loop76 {QQ:Ex→St→Prop} {n:Int} {sg:List (Int×List Int)} (hl:sg.length < 1000000)
  (hx:∀(j:Nat) ts,risesB n 0 (sg.map (·.1))=true→QQ (.exit 0) ⟨[some (.v (.sle 33 (sg.map sgV))),some (.v (.int .i64 n)),none,none,none,some (.v (.int .i64 (j:Nat)))],ts,[],G⟩)
  (hr:∀σ:St,σ.G=G→St.ev σ (.v 4)=some (.v (.bool false))→risesB n 0 (sg.map (·.1))=false→QQ .ret σ):
  ∀(r:List (Int×List Int)) (j:Nat) (low:Int),sg.drop j=r→j≤sg.length→((j=0∧low=0)∨(1≤j∧1≤low∧∃ls,sg[j-1]? =some (low,ls)))→risesB n 0 (sg.map (·.1))=risesB n low (r.map (·.1))→WL (W E C lp76_0) [0,1,5] QQ (r.length+1) ⟨[some (.v (.sle 33 (sg.map sgV))),some (.v (.int .i64 n)),none,none,none,some (.v (.int .i64 (j:Nat)))],[],[],G⟩:=by
 intro r
 induction r with
 |nil=>
  intro j low h1 h2 hlow h3
  have:=drop_none h1
  have c1:¬(j:Int) < (sg.length:Int):=by omega
  refine WL_in lp76_0.eq_1 ?_
  simp -implicitDefEqProofs only[c1,List.length_map,go_sem,↓reduceIte]
  exact hx _ _ h3
 |cons p r ih=>
  intro j low h1 h2 hlow h3
  obtain⟨hd,hj,hlen⟩:=drop_one h1
  have hjp:=at_sg h1
  have g:=getD_sg h1
  have c1:(j:Int) < (sg.length:Int):=by omega
  have c2:(0:Int)≤(j:Int):=by omega
  have w1:IntKind.i64.wrap ((j:Int)+1)=((j+1:Nat):Int):=wc (by omega) (by omega)
  obtain⟨p,ps⟩:=p
  rw[List.map_cons]at h3
  have next:=fun (hlo:¬(p≤low∨n < p))=>ih (j+1) p hd (by omega) (.inr ⟨by omega,by omega,ps,by rw[Nat.add_sub_cancel];exact hjp⟩) (by rw[h3];exact if_neg hlo)
  have stop:=fun (hlo:p≤low∨n < p)=>(by rw[h3];exact if_pos hlo:risesB n 0 (sg.map (·.1))=false)
  refine WL_in lp76_0.eq_1 ?_
  by_cases r1:p < 1
  ·have r1p:¬1≤p:=by omega
   simp -implicitDefEqProofs only[c1,c2,g,sgV,w1,Int.toNat_natCast,List.length_map,r1,r1p,go_sem,↓reduceIte]
   exact hr _ rfl rfl (stop (by omega))
  have r1n:1≤p:=by omega
  by_cases r2:n < p
  ·have r2p:¬p≤n:=by omega
   simp -implicitDefEqProofs only[c1,c2,g,sgV,w1,Int.toNat_natCast,List.length_map,r1,r1n,r2,r2p,go_sem,↓reduceIte]
   exact hr _ rfl rfl (stop (by omega))
  have r2n:p≤n:=by omega
  rcases hlow with⟨rfl,rfl⟩|⟨hj1,hlo1,ls,hjl⟩
  ·have c1z:(0:Int) < (sg.length:Int):=by omega
   have c1y:¬(sg.length:Int)≤0:=by omega
   have w0:IntKind.i64.wrap ((0:Int)+1)=((0+1:Nat):Int):=by decide
   simp -implicitDefEqProofs only[c1z,c1y,g,sgV,w0,Int.toNat_natCast,Int.toNat_zero,List.length_map,r1,r1n,r2,r2n,Int.natCast_zero,Int.lt_irrefl,go_sem,↓reduceIte]
   exact next (by omega)
  ·have w2:IntKind.i64.wrap ((j:Int)-1)=((j-1:Nat):Int):=wc (by omega) (by omega)
   have g2:=getD_sg' hjl
   have c0:(0:Int) < (j:Int):=by omega
   have c4:(0:Int)≤((j-1:Nat):Int):=by omega
   have c5:((j-1:Nat):Int) < (sg.length:Int):=by omega
   by_cases r3:p≤low
   ·have r3n:¬low < p:=by omega
    simp -implicitDefEqProofs only[c0,c1,c2,c4,c5,g,g2,sgV,w1,w2,Int.toNat_natCast,List.length_map,r1,r1n,r2,r2n,r3,r3n,go_sem,↓reduceIte]
    exact hr _ rfl rfl (stop (by omega))
   ·have r3n:low < p:=by omega
    simp -implicitDefEqProofs only[c0,c1,c2,c4,c5,g,g2,sgV,w1,w2,Int.toNat_natCast,List.length_map,r1,r1n,r2,r2n,r3,r3n,go_sem,↓reduceIte]
    exact next (by omega)
theorem walk76 {n:Int} {sg:List (Int×List Int)} (hl:sg.length < 1000000) (h:Q (.v (.bool (risesB n 0 (sg.map (·.1))))) G):Wf E C pf76 [.sle 33 (sg.map sgV),.int .i64 n] G Q:=by
 simp -implicitDefEqProofs only[pf76,List.length_map,go_sem,↓reduceIte]
 refine⟨sg.length+1,?_⟩
 refine loop76 hl (fun j ts e=> ?_) (fun σ e1 e2 e3=> ?_) sg 0 0 rfl (Nat.zero_le _) (.inl ⟨rfl,rfl⟩) rfl
 ·simp -implicitDefEqProofs only[go_sem,↓reduceIte]
  rw[e]at h;exact h
 ·show resQ Q σ.G (rD (St.ev σ (.v 4)))
  rw[e1,e2,←e3];exact h
theorem loop76s {QQ:Ex→St→Prop} {n:Int} {sg:List (Int×List Int)} {id c:Nat} {LL:List V} (hG:Abs.look G id=some (.agg LL)) (hLL:∀(i:Nat) p,sg[i]? =some p→LL[i]? =some (sgV p)) (hfl:sg.length≤LL.length) (hsz:∀y∈LL,V.size y=33) (hl:sg.length < 1000000)
  (hx:∀(j:Nat) ts,risesB n 0 (sg.map (·.1))=true→QQ (.exit 0) ⟨[some (.v (.sob id 33 0 sg.length c)),some (.v (.int .i64 n)),none,none,none,some (.v (.int .i64 (j:Nat)))],ts,[],G⟩)
  (hr:∀σ:St,σ.G=G→St.ev σ (.v 4)=some (.v (.bool false))→risesB n 0 (sg.map (·.1))=false→QQ .ret σ):
  ∀(r:List (Int×List Int)) (j:Nat) (low:Int),sg.drop j=r→j≤sg.length→((j=0∧low=0)∨(1≤j∧1≤low∧∃ls,sg[j-1]? =some (low,ls)))→risesB n 0 (sg.map (·.1))=risesB n low (r.map (·.1))→WL (W E C lp76_0) [0,1,5] QQ (r.length+1) ⟨[some (.v (.sob id 33 0 sg.length c)),some (.v (.int .i64 n)),none,none,none,some (.v (.int .i64 (j:Nat)))],[],[],G⟩:=by
 intro r
 induction r with
 |nil=>
  intro j low h1 h2 hlow h3
  have:=drop_none h1
  have c1:¬(j:Int) < (sg.length:Int):=by omega
  refine WL_in lp76_0.eq_1 ?_
  simp -implicitDefEqProofs only[c1,List.length_map,go_sem,↓reduceIte]
  exact hx _ _ h3
 |cons p r ih=>
  intro j low h1 h2 hlow h3
  obtain⟨hd,hj,hlen⟩:=drop_one h1
  have hjp:=at_sg h1
  have g:=hLL j (p) hjp
  have c1:(j:Int) < (sg.length:Int):=by omega
  have c2:(0:Int)≤(j:Int):=by omega
  have w1:IntKind.i64.wrap ((j:Int)+1)=((j+1:Nat):Int):=wc (by omega) (by omega)
  obtain⟨p,ps⟩:=p
  rw[List.map_cons]at h3
  have next:=fun (hlo:¬(p≤low∨n < p))=>ih (j+1) p hd (by omega) (.inr ⟨by omega,by omega,ps,by rw[Nat.add_sub_cancel];exact hjp⟩) (by rw[h3];exact if_neg hlo)
  have stop:=fun (hlo:p≤low∨n < p)=>(by rw[h3];exact if_pos hlo:risesB n 0 (sg.map (·.1))=false)
  refine WL_in lp76_0.eq_1 ?_
  by_cases r1:p < 1
  ·have r1p:¬1≤p:=by omega
   simp -implicitDefEqProofs only[c1,c2,hG,g,sgV,w1,Int.toNat_natCast,List.length_map,r1,r1p,go_sem,↓reduceIte]
   repeat refine And.intro ⟨by omega,hsz⟩ ?_
   exact hr _ rfl rfl (stop (by omega))
  have r1n:1≤p:=by omega
  by_cases r2:n < p
  ·have r2p:¬p≤n:=by omega
   simp -implicitDefEqProofs only[c1,c2,hG,g,sgV,w1,Int.toNat_natCast,List.length_map,r1,r1n,r2,r2p,go_sem,↓reduceIte]
   repeat refine And.intro ⟨by omega,hsz⟩ ?_
   exact hr _ rfl rfl (stop (by omega))
  have r2n:p≤n:=by omega
  rcases hlow with⟨rfl,rfl⟩|⟨hj1,hlo1,ls,hjl⟩
  ·have c1z:(0:Int) < (sg.length:Int):=by omega
   have c1y:¬(sg.length:Int)≤0:=by omega
   have w0:IntKind.i64.wrap ((0:Int)+1)=((0+1:Nat):Int):=by decide
   simp -implicitDefEqProofs only[c1z,c1y,hG,g,sgV,w0,Int.toNat_natCast,Int.toNat_zero,List.length_map,r1,r1n,r2,r2n,Int.natCast_zero,Int.lt_irrefl,go_sem,↓reduceIte]
   repeat refine And.intro ⟨by omega,hsz⟩ ?_
   exact next (by omega)
  ·have w2:IntKind.i64.wrap ((j:Int)-1)=((j-1:Nat):Int):=wc (by omega) (by omega)
   have g2:=hLL _ _ hjl
   have c0:(0:Int) < (j:Int):=by omega
   have c4:(0:Int)≤((j-1:Nat):Int):=by omega
   have c5:((j-1:Nat):Int) < (sg.length:Int):=by omega
   by_cases r3:p≤low
   ·have r3n:¬low < p:=by omega
    simp -implicitDefEqProofs only[c0,c1,c2,c4,c5,hG,g,g2,sgV,w1,w2,Int.toNat_natCast,List.length_map,r1,r1n,r2,r2n,r3,r3n,go_sem,↓reduceIte]
    repeat refine And.intro ⟨by omega,hsz⟩ ?_
    exact hr _ rfl rfl (stop (by omega))
   ·have r3n:low < p:=by omega
    simp -implicitDefEqProofs only[c0,c1,c2,c4,c5,hG,g,g2,sgV,w1,w2,Int.toNat_natCast,List.length_map,r1,r1n,r2,r2n,r3,r3n,go_sem,↓reduceIte]
    repeat refine And.intro ⟨by omega,hsz⟩ ?_
    exact next (by omega)
theorem walk76s {n:Int} {sg:List (Int×List Int)} {id c:Nat} {LL:List V} (hG:Abs.look G id=some (.agg LL)) (hLL:∀(i:Nat) p,sg[i]? =some p→LL[i]? =some (sgV p)) (hfl:sg.length≤LL.length) (hsz:∀y∈LL,V.size y=33) (hl:sg.length < 1000000) (h:Q (.v (.bool (risesB n 0 (sg.map (·.1))))) G):Wf E C pf76 [.sob id 33 0 sg.length c,.int .i64 n] G Q:=by
 simp -implicitDefEqProofs only[pf76,List.length_map,go_sem,↓reduceIte]
 refine⟨sg.length+1,?_⟩
 refine loop76s hG hLL hfl hsz hl (fun j ts e=> ?_) (fun σ e1 e2 e3=> ?_) sg 0 0 rfl (Nat.zero_le _) (.inl ⟨rfl,rfl⟩) rfl
 ·simp -implicitDefEqProofs only[go_sem,↓reduceIte]
  rw[e]at h;exact h
 ·show resQ Q σ.G (rD (St.ev σ (.v 4)))
  rw[e1,e2,←e3];exact h
theorem walk76n {n:Int} (h:Q (.v (.bool true)) G):Wf E C pf76 [.nils,.int .i64 n] G Q:=by
 simp -implicitDefEqProofs only[pf76,go_sem,↓reduceIte]
 refine⟨1,?_⟩
 refine WL_in lp76_0.eq_1 ?_
 simp -implicitDefEqProofs only[go_sem,↓reduceIte]
 exact h
end Go.Proofs.Ytjbglbhcbenhpaa.Sha
namespace Go.Abs.Sha
open Go Go.Abs
set_option linter.unusedVariables false
set_option linter.unusedSimpArgs false
theorem p9 {i:Nat} (h:i≤9):i=0∨i=1∨i=2∨i=3∨i=4∨i=5∨i=6∨i=7∨i=8∨i=9:=by omega
theorem num_pos (n:Nat):0 < (num n).length:=by
 rw[num];split<;>simp
abbrev Rd:=List Int×Bool
def Rd.v (s:Rd):V:= .agg [.sli .u8 s.1,.bool s.2]
structure Rd.Ok (s:Rd):Prop where
 byt:Byt s.1
end Go.Abs.Sha
namespace Go.Abs
namespace Sha
open Go
theorem w64u {n:Nat} (hn:n < 18446744073709551616):IntKind.u64.wrap (n:Int)=n:=by
 simp only[IntKind.wrap,IntKind.bits,IntKind.signed];simp;omega
end Sha
end Go.Abs
namespace Go.Abs.Sha
open Go
set_option linter.unusedVariables false
end Go.Abs.Sha
namespace Go.Abs.Sha
open Go
set_option linter.unusedVariables false
theorem i64_of {n:Int} (h:0≤n) (h2:n≤1099511627776):I64 n:=⟨by omega,by omega⟩
structure RdAtt (b:List Int) (w:Bool) (a:AttS) (r:List Int) (w':Bool):Prop where
 wf:a.wf
 byt:Byt r
 len:r.length≤b.length
 suf:∃u,b=u++r
 right:w'=false→w=false∧b=num a.who.toNat++a.said++a.ta++r
def AttS.bytes (a:AttS):List Int:=num a.who.toNat++a.said++a.ta
structure SealS where
 vi:Int
 ph:Int
 pv:Int
 pa:List Int
def SealS.v (s:SealS):V:= .agg [.int .i64 s.vi,.int .i64 s.ph,.int .i64 s.pv,.arr .u8 32 s.pa]
structure SealS.wf (s:SealS):Prop where
 vi:I64 s.vi
 ph:I64 s.ph
 pv:I64 s.pv
 pa:H32 s.pa
def SealS.zero:SealS:=⟨0,0,0,zero32⟩
theorem SealS.zero_wf:SealS.zero.wf:=⟨by decide,by decide,by decide,h32_zero⟩
def SealS.May (s:SealS):Prop:=(s.vi=0∧s.ph=0∧s.pv=0∧s.pa=zero32)∨((1≤s.vi∧s.vi≤1099511627776)∧(1≤s.ph∧s.ph≤3)∧0≤s.pv∧(s.pv < s.vi∨s.pv=s.vi∧s.ph=3))
instance (s:SealS):Decidable s.May:=by unfold SealS.May;infer_instance
def SealS.may (s:SealS):Bool:=decide s.May
def SealS.said (ve:Int) (s:SealS):List Int:=num ve.toNat++num s.vi.toNat++num s.ph.toNat++num s.pv.toNat++s.pa
theorem SealS.bounds {s:SealS} (h:s.May):(0≤s.vi∧s.vi≤1099511627776)∧(0≤s.ph∧s.ph≤3)∧0≤s.pv∧s.pv≤1099511627776:=by
 rcases h with⟨h1,h2,h3,_⟩|⟨h1,h2,h3,h4⟩<;>omega
theorem SealS.said_ok {s:SealS} {ve:Int} (hw:s.wf) (hm:s.May) (hv:0≤ve∧ve≤1099511627776):Byt (s.said ve)∧(s.said ve).length≤72:=by
 obtain⟨h1,h2,h3⟩:=SealS.bounds hm
 obtain⟨a1,a2⟩:=num_ok (n:=ve.toNat) (by omega)
 obtain⟨b1,b2⟩:=num_ok (n:=s.vi.toNat) (by omega)
 obtain⟨c1,c2⟩:=num_ok (n:=s.ph.toNat) (by omega)
 obtain⟨d1,d2⟩:=num_ok (n:=s.pv.toNat) (by omega)
 refine⟨byt_app (byt_app (byt_app (byt_app a1 b1) c1) d1) hw.pa.1,?_⟩
 have:=hw.pa.2
 simp only[SealS.said,List.length_append];omega
structure RdBlob (b:List Int) (w:Bool) (ve:Int) (s:SealS) (ta r:List Int) (w':Bool):Prop where
 wf:s.wf
 vr:0≤ve∧ve≤1099511627776
 tg:H32 ta
 byt:Byt r
 len:r.length≤b.length
 suf:∃u,b=u++r
 right:w'=false→w=false∧b=s.said ve++ta++r
end Go.Abs.Sha
namespace Go.Proofs.Ytjbglbhcbenhpaa.Sha
open Go Go.Abs Go.Abs.Sha
set_option linter.unusedSimpArgs false
set_option linter.unusedVariables false
set_option maxRecDepth 100000
attribute [local irreducible] W Wops WopsD WL Wop WopD
variable {E:Env} {C:Abs.Spec} {l:List (Nat×Spec1)} {G:List (Nat×V)} {Q:R→List (Nat×V)→Prop}
set_option maxHeartbeats 1000000
end Go.Proofs.Ytjbglbhcbenhpaa.Sha
