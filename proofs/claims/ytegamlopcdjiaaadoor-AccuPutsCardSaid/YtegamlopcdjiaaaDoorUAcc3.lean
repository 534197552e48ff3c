/- Rows, certificates, accumulations. -/
import Derived.Test.YtegamlopcdjiaaaDoorUAcc2
namespace Go.Proofs.YtegamlopcdjiaaaDoor.Sha
open Go Go.Abs Go.Abs.Sha Go.Abs.Srt
set_option linter.unusedSimpArgs false
set_option linter.unusedVariables false
set_option maxRecDepth 100000
def lp42_0:PC:=
 (PC.reg [nn (.t 50) (.bin .lss (.v 49) (.v 48))]).seq ((PC.cond (.t 50) PC.skip (PC.exit 0)).seq ((PC.block 1 ((PC.reg [nn (.t 51) (.iadrS 101 (.v 47)
  (.v 49)),nn (.t 52) (.load 101 true (.t 51)),nn (.v 14) (.alloc (.agg [.int .i64 0,.int .i64 0,.int .i64 0,.int .i64 0,.arr .u8 32 [0,0,0,0,
  0,0,0,0,0,0,0,0,0,0,0,0,0,0,0,0,0,0,0,0,0,0,0,0,0,0,0,0],.int .i64 0,.arr .u8 32 [0,0,0,0,0,0,0,0,0,0,0,0,0,
  0,0,0,0,0,0,0,0,0,0,0,0,0,0,0,0,0,0,0],.arr .u8 32 [0,0,0,0,0,0,0,0,0,0,0,0,0,0,0,0,0,0,0,0,0,0,0,0,0,0,
  0,0,0,0,0,0]])),nn .no (.store 101 (.v 14) (.t 52))]).seq (((PC.reg [nn (.t 53) (.fadr 5 36 (.v 14)),nn (.t 54) (.load 1 false (.t 53)),nn
  (.t 55) (.fadr 2 2 (.v 12)),nn (.t 56) (.load 1 false (.t 55)),nn (.t 57) (.bin .gtr (.t 54) (.t 56))]).seq (PC.cond (.t 57) (PC.regD 0 [nn (.t 58)
  (.fadr 5 36 (.v 14)),nn (.t 59) (.load 1 false (.t 58)),nn (.t 60) (.fadr 6 37 (.v 14)),nn (.t 61) (.load 32 true (.t 60)),nn (.t 62) (.fadr 2 2
  (.v 12)),nn .no (.store 1 (.t 62) (.t 59)),nn (.t 63) (.fadr 3 3 (.v 12)),nn .no (.store 32 (.t 63) (.t 61))] [(3,5)]) PC.skip)).seq (PC.reg [nn
  (.t 64) (.fadr 4 35 (.v 12)),nn (.t 65) (.load 1 false (.t 64)),nn (.t 66) (.fadr 0 0 (.v 14)),nn (.t 67) (.load 1 false (.t 66)),nn (.t 68)
  (.buildS (some .i64) 1 (.int .i64 0) 1 [(0,.t 67)]),nn (.t 69) (.appR 1 8 (.int .i64 0) (.t 65) (.t 68)),nn (.t 70) (.fadr 4 35 (.v 12)),nn .no
  (.store 1 (.t 70) (.t 69))])))).seq (PC.reg [nn (.t 71) (.bin .add (.v 49) (.c (.v (.int .i64 1)))),nn (.v 49) (.mv false (.t 71))])))
def pf42:PF:=
 PF.mk 4 50 79 ((PC.reg [nn (.v 5) (.newB (.v 1)),nn (.v 6) (.newB (.v 2)),nn (.v 8) (.alloc (.agg [.int .i64 0,.int .i64 0,.int .i64 0,.arr .u8 32
  [0,0,0,0,0,0,0,0,0,0,0,0,0,0,0,0,0,0,0,0,0,0,0,0,0,0,0,0,0,0,0,0],.nils,.arr .u8 32 [0,0,0,0,0,0,0,0,0,0,
  0,0,0,0,0,0,0,0,0,0,0,0,0,0,0,0,0,0,0,0,0,0]])),nn (.v 9) (.mv true (.c (.v (.int .i64 0))))]).seq ((PC.reg [nn (.v 15) (.load
  1 false (.v 5)),nn (.v 16) (.call 44 [.v 15]),nn (.v 10) (.mv true (.v 16))]).seq (((PC.reg [nn (.v 17) (.mv false (.v 10)),nn (.v 18) (.bin .eql
  (.v 17) (.c (.v (.int .i64 0)))),nn (.v 19) (.mv false (.v 18)),⟨.v 20,.mv false (.v 0),some (.v 19,false)⟩,⟨.v 21,.load 1 false (.v 5),some
  (.v 19,false)⟩,⟨.v 22,.call 78 [.v 20,.c (.v (.int .i64 1)),.v 21],some (.v 19,false)⟩,⟨.v 23,.un .not (.v 22),some (.v 19,false)⟩,nn (.v
  24) (.pick (.v 19) (.c (.v (.bool true))) (.v 23)),nn (.v 25) (.mv false (.v 24)),⟨.v 26,.load 1 false (.v 6),some (.v 25,false)⟩,⟨.v 27,.call
  78 [.v 26,.c (.v (.int .i64 1)),.c (.v (.int .i64 1099511627776))],some (.v 25,false)⟩,⟨.v 28,.un .not (.v 27),some (.v 25,false)⟩,nn (.v
  29) (.pick (.v 25) (.c (.v (.bool true))) (.v 28))]).seq (PC.cond (.v 29) ((PC.reg [nn (.v 30) (.build (.agg [.int .i64 0,.int .i64 0,.int .i64 0,
  .arr .u8 32 [0,0,0,0,0,0,0,0,0,0,0,0,0,0,0,0,0,0,0,0,0,0,0,0,0,0,0,0,0,0,0,0],.nils,.arr .u8 32 [0,0,0,0,0,0,
  0,0,0,0,0,0,0,0,0,0,0,0,0,0,0,0,0,0,0,0,0,0,0,0,0,0]]) []),nn .no (.store 68 (.v 8) (.v 30)),nn (.v 9) (.mv true (.c (.v
  (.int .i64 1))))]).seq PC.ret) PC.skip)).seq (((PC.reg [nn (.v 31) (.mv false (.v 3)),nn (.v 32) (.mkFn 80 [.v 6,.v 5]),nn (.v 33) (.call 79 [.v
  31,.v 32])]).seq (PC.cond (.v 33) ((PC.reg [nn (.v 34) (.build (.agg [.int .i64 0,.int .i64 0,.int .i64 0,.arr .u8 32 [0,0,0,0,0,0,0,0,0,
  0,0,0,0,0,0,0,0,0,0,0,0,0,0,0,0,0,0,0,0,0,0,0],.nils,.arr .u8 32 [0,0,0,0,0,0,0,0,0,0,0,0,0,0,0,0,0,0,0,0,
  0,0,0,0,0,0,0,0,0,0,0,0]]) []),nn .no (.store 68 (.v 8) (.v 34)),nn (.v 9) (.mv true (.c (.v (.int .i64 7))))]).seq PC.ret)
  PC.skip)).seq ((PC.reg [nn (.v 35) (.mv false (.v 3)),nn (.v 36) (.call 81 [.v 35]),nn (.v 11) (.mv true (.v 36))]).seq (((PC.reg [nn (.v 37) (.mv
  false (.v 11)),nn (.v 38) (.len (.v 37)),nn (.v 39) (.mv false (.v 10)),nn (.v 40) (.bin .lss (.v 38) (.v 39))]).seq (PC.cond (.v 40) ((PC.reg [nn
  (.v 41) (.build (.agg [.int .i64 0,.int .i64 0,.int .i64 0,.arr .u8 32 [0,0,0,0,0,0,0,0,0,0,0,0,0,0,0,0,0,0,0,0,0,0,0,0,0,
  0,0,0,0,0,0,0],.nils,.arr .u8 32 [0,0,0,0,0,0,0,0,0,0,0,0,0,0,0,0,0,0,0,0,0,0,0,0,0,0,0,0,0,0,0,0]]) []),nn
  .no (.store 68 (.v 8) (.v 41)),nn (.v 9) (.mv true (.c (.v (.int .i64 3))))]).seq PC.ret) PC.skip)).seq ((PC.reg [nn (.v 42) (.mv false (.v 0)),nn
  (.v 43) (.load 1 false (.v 6)),nn (.v 44) (.build (.agg [.int .i64 0,.int .i64 0,.int .i64 0,.arr .u8 32 [0,0,0,0,0,0,0,0,0,0,0,0,0,
  0,0,0,0,0,0,0,0,0,0,0,0,0,0,0,0,0,0,0],.nils,.arr .u8 32 [0,0,0,0,0,0,0,0,0,0,0,0,0,0,0,0,0,0,0,0,0,0,0,0,
  0,0,0,0,0,0,0,0]]) [(0,.v 42),(1,.v 43),(2,.c (.v (.int .i64 ((-1)))))]),nn (.v 12) (.alloc (.agg [.int .i64 0,.int .i64 0,.int .i64
  0,.arr .u8 32 [0,0,0,0,0,0,0,0,0,0,0,0,0,0,0,0,0,0,0,0,0,0,0,0,0,0,0,0,0,0,0,0],.nils,.arr .u8 32 [0,0,0,0,0,
  0,0,0,0,0,0,0,0,0,0,0,0,0,0,0,0,0,0,0,0,0,0,0,0,0,0,0]])),nn .no (.store 68 (.v 12) (.v 44))]).seq (((PC.reg [nn (.v 45)
  (.mv false (.v 11)),nn (.v 46) (.mv false (.v 10)),nn (.v 47) (.slcS 101 (.v 45) none (some (.v 46)) none),nn (.v 48) (.len (.v 47)),nn (.v 49)
  (.mv false (.c (.v (.int .i64 0))))]).seq (PC.block 0 (PC.loop [0,8,12,47,48,49] lp42_0))).seq ((PC.reg [mm 72 0,nn (.t 73) (.load 68 true (.v
  12)),nn (.t 74) (.call 47 [.c (.own .nils),.t 73]),nn (.t 75) (.buildS none 1 .nils 1 [(0,.t 74)]),nn (.t 76) (.call 82 [.t 72,.c (.v (.int .u8
  2)),.t 75]),nn (.t 77) (.fadr 5 36 (.v 12)),nn .no (.store 32 (.t 77) (.t 76))]).seq ((PC.reg [nn (.t 78) (.load 68 true (.v 12)),nn .no (.store
  68 (.v 8) (.t 78)),nn (.v 9) (.mv true (.c (.v (.int .i64 0))))]).seq PC.ret)))))))))) [(.v 8,some (68,true)),(.v 9,none)]
attribute [local irreducible] W Wops WopsD WL Wop WopD
variable {E:Env} {C:Abs.Spec} {l:List (Nat×Spec1)} {G:List (Nat×V)} {Q:R→List (Nat×V)→Prop}
set_option maxHeartbeats 1000000
def ZFi:Spec1
 |[.sle 101 l],G,Q=>∃(as:List AttS) (n:Int),(l=as.map AttS.v∧(∀a∈as,a.wf)∧(∀x∈as,1≤x.who∧x.who≤n)∧as.length≤39)∧(as=[]→Q (.v (.sle 101 [])) G)∧(as≠[]→∀(id c:Nat) (SS:List V),Abs.look G id=none→(firstsA n as).length≤c→c≤(firstsA n as).length+SS.length→(∀x∈SS,V.size x=101)→Q (.v (.sob id 101 0 (firstsA n as).length c)) ((id,.agg ((firstsA n as).map AttS.v++SS))::G))
 |_,_,_=>False
theorem ZFi_eq {l}:ZFi [.sle 101 l] G Q=(∃(as:List AttS) (n:Int),(l=as.map AttS.v∧(∀a∈as,a.wf)∧(∀x∈as,1≤x.who∧x.who≤n)∧as.length≤39)∧(as=[]→Q (.v (.sle 101 [])) G)∧(as≠[]→∀(id c:Nat) (SS:List V),Abs.look G id=none→(firstsA n as).length≤c→c≤(firstsA n as).length+SS.length→(∀x∈SS,V.size x=101)→Q (.v (.sob id 101 0 (firstsA n as).length c)) ((id,.agg ((firstsA n as).map AttS.v++SS))::G))):=rfl
def ZAm (kt:List Int):Spec1
 |[.int .i64 b,.int .i64 n,.int .i64 v,.sle 101 l],G,Q=>∃as:List AttS,(l=as.map AttS.v∧I64 b∧I64 n∧I64 v∧(∀a∈as,a.wf)∧as.length≤39)∧Q (.tup [(mkAccu kt b n v as).1.v,.int .i64 (mkAccu kt b n v as).2]) G
 |_,_,_=>False
theorem ZAm_eq {kt b n v l}:ZAm kt [.int .i64 b,.int .i64 n,.int .i64 v,.sle 101 l] G Q=(∃as:List AttS,(l=as.map AttS.v∧I64 b∧I64 n∧I64 v∧(∀a∈as,a.wf)∧as.length≤39)∧Q (.tup [(mkAccu kt b n v as).1.v,.int .i64 (mkAccu kt b n v as).2]) G):=rfl
theorem bestA_next {fs:List AttS} {j:Nat} {b:AttS} (h:fs[j]? =some b):bestA (-1,zero32) (fs.take (j+1))=if (bestA (-1,zero32) (fs.take j)).1 < b.pv then (b.pv,b.pa)else bestA (-1,zero32) (fs.take j):=by
 rw[List.take_add_one,h];exact bestA_snoc
theorem who_next {fs:List AttS} {j:Nat} {b:AttS} (h:fs[j]? =some b):(fs.take (j+1)).map (fun a=>V.int .i64 a.who)=(fs.take j).map (fun a=>V.int .i64 a.who)++[V.int .i64 b.who]:=by
 rw[List.take_add_one,h];simp
theorem loop42 {QQ:Ex→St→Prop} {id q c:Nat} {LL:List V} {fs:List AttS} {by_ view:Int} {r0:Bx} (hid:Abs.look G id=some (.agg LL)) (hq:q < 1000) (hLq:q≤LL.length) (hLL:∀(i:Nat) x,fs[i]? =some x→LL[i]? =some x.v) (hql:q≤fs.length) (hsz:∀x∈LL,V.size x=101)
  (hx:∀ts L G' x,Row G G' 1 (.int .i64 0) x ((fs.take q).map fun a=>V.int .i64 a.who)→L[0]? =some r0→L[1]? =some ⟨false,.agg [.int .i64 by_,.int .i64 view,.int .i64 (bestA (-1,zero32) (fs.take q)).1,.arr .u8 32 (bestA (-1,zero32) (fs.take q)).2,x,.arr .u8 32 [0,0,0,0,0,0,0,0,0,0,0,0,0,0,0,0,0,0,0,0,0,0,0,0,0,0,0,0,0,0,0,0]]⟩→QQ (.exit 0) ⟨[some (.v (.int .i64 by_)),none,none,none,none,none,none,none,some (.lp 0 []),none,none,none,some (.lp 1 []),none,none,none,none,none,none,none,none,none,none,none,none,none,none,none,none,none,none,none,none,none,none,none,none,none,none,none,none,none,none,none,none,none,none,some (.v (.sob id 101 0 q c)),some (.v (.int .i64 (q:Nat))),some (.v (.int .i64 (q:Nat)))],ts,L,G'⟩):
  ∀(k j:Nat) (L:List Bx) (G':List (Nat×V)) (x:V) (p:Int) (h:List Int),j+k=q→Row G G' 1 (.int .i64 0) x ((fs.take j).map fun a=>V.int .i64 a.who)→bestA (-1,zero32) (fs.take j)=(p,h)→L[0]? =some r0→L[1]? =some ⟨false,.agg [.int .i64 by_,.int .i64 view,.int .i64 p,.arr .u8 32 h,x,.arr .u8 32 [0,0,0,0,0,0,0,0,0,0,0,0,0,0,0,0,0,0,0,0,0,0,0,0,0,0,0,0,0,0,0,0]]⟩→WL (W E C lp42_0) [0,8,12,47,48,49] QQ (k+1) ⟨[some (.v (.int .i64 by_)),none,none,none,none,none,none,none,some (.lp 0 []),none,none,none,some (.lp 1 []),none,none,none,none,none,none,none,none,none,none,none,none,none,none,none,none,none,none,none,none,none,none,none,none,none,none,none,none,none,none,none,none,none,none,some (.v (.sob id 101 0 q c)),some (.v (.int .i64 (q:Nat))),some (.v (.int .i64 (j:Nat)))],[],L,G'⟩:=by
 intro k
 induction k with
 |zero=>
  intro j L G' x p h hj hrow hb h0 h1
  obtain rfl:j=q:=by omega
  refine WL_in lp42_0.eq_1 ?_
  simp (maxSteps:=1000000) (implicitDefEqProofs:=false) only[Int.lt_irrefl,go_sem,↓reduceIte]
  exact hx _ _ _ _ hrow h0 (by rw[hb];exact h1)
 |succ k ih=>
  intro j L G' x p h hj hrow hbst h0 h1
  have c1:(j:Int) < (q:Int):=by omega
  obtain⟨b,hb⟩:∃b,fs[j]? =some b:=⟨fs[j]'(by omega),List.getElem?_eq_getElem (by omega)⟩
  have g:=hLL j b hb
  have hid':=hrow.1 id _ hid
  have w1:IntKind.i64.wrap ((j:Int)+1)=((j+1:Nat):Int):=wc (by omega) (by omega)
  have et:=who_next hb
  have bt:=bestA_next hb
  rw[hbst]at bt
  dsimp only at bt
  have next:=fun L' G2 x'=>ih (j+1) L' G2 x'
  rw[et]at next
  have l0:L.length≠0:=by intro e;have:=(List.getElem?_eq_some_iff.1 h0).1;omega
  have l1:L.length≠1:=by intro e;have:=(List.getElem?_eq_some_iff.1 h1).1;omega
  have l2:(L.length==1)=false:=by simpa using l1
  have l3:(1==L.length)=false:=by simpa using fun e=>l1 e.symm
  obtain⟨b1,b2,b3,b4,b5,b6,b7,b8⟩:=b
  unfold AttS.v at g
  dsimp only at bt
  have hA1:∀y,(L++[y])[1]? =some ⟨false,.agg [.int .i64 by_,.int .i64 view,.int .i64 p,.arr .u8 32 h,x,.arr .u8 32 [0,0,0,0,0,0,0,0,0,0,0,0,0,0,0,0,0,0,0,0,0,0,0,0,0,0,0,0,0,0,0,0]]⟩:=fun y=>get_app h1
  obtain⟨x1,x2⟩:=hrow.one
  unfold V.isAgg at x2
  refine WL_in lp42_0.eq_1 ?_
  have hS1:∀y z,((L++[y]).set 1 z)[1]? =some z:=fun y z=>get_set (hA1 y)
  have hS2:∀y z,((L++[y]).set 1 z)[L.length]? =some y:=fun y z=>by rw[List.getElem?_set_ne (fun e=>l1 e.symm)];exact get_last
  have hS0:∀y z,((L++[y]).set 1 z)[0]? =some r0:=fun y z=>by rw[List.getElem?_set_ne (by decide)];exact get_app h0
  have els:∀u∈(fs.take j).map (fun a=>V.int .i64 a.who),V.size u=1∧u.same (.int .i64 0)=true:=fun u hu=>by
   obtain⟨w,_,rfl⟩:=List.mem_map.1 hu;exact⟨rfl,rfl⟩
  have hlen:((fs.take j).map (fun a=>V.int .i64 a.who)).length < 1000:=by rw[List.length_map,List.length_take];omega
  by_cases r:p < b6
  ·rw[if_pos r]at bt
   simp (maxSteps:=1000000) (implicitDefEqProofs:=false) only[c1,hid',g,Int.toNat_natCast,hA1,hS1,hS2,List.set_set,x1,x2,r,l2,l3,go_sem,↓reduceIte]
   refine⟨⟨by omega,by omega,hsz⟩,?_⟩
   refine Row.app (G0:=G) (sz:=1) (z:= .int .i64 0) (y:= .int .i64 b1) (els:=(fs.take j).map fun a=>V.int .i64 a.who) hrow (by omega) ⟨rfl,rfl⟩ rfl els (fun x' G2 hr2=> ?_)
   obtain⟨y1,y2⟩:=hr2.one
   unfold V.isAgg at y2
   have yl:=hrow.like hr2
   simp (maxSteps:=1000000) (implicitDefEqProofs:=false) only[hA1,hS1,hS2,List.set_set,w1,x1,x2,y1,y2,yl,go_sem,↓reduceIte]
   exact next _ _ _ _ _ (by omega) hr2 bt (hS0 _ _) (hS1 _ _)
  ·rw[if_neg r]at bt
   simp (maxSteps:=1000000) (implicitDefEqProofs:=false) only[c1,hid',g,Int.toNat_natCast,hA1,x1,x2,r,l2,l3,go_sem,↓reduceIte]
   refine⟨⟨by omega,by omega,hsz⟩,?_⟩
   refine Row.app (G0:=G) (sz:=1) (z:= .int .i64 0) (y:= .int .i64 b1) (els:=(fs.take j).map fun a=>V.int .i64 a.who) hrow (by omega) ⟨rfl,rfl⟩ rfl els (fun x' G2 hr2=> ?_)
   obtain⟨y1,y2⟩:=hr2.one
   unfold V.isAgg at y2
   have yl:=hrow.like hr2
   simp (maxSteps:=1000000) (implicitDefEqProofs:=false) only[hA1,hS1,hS2,List.set_set,w1,x1,x2,y1,y2,yl,go_sem,↓reduceIte]
   exact next _ _ _ _ _ (by omega) hr2 bt (hS0 _ _) (hS1 _ _)
theorem walk42 (hQ:Abs.look l 44=some ZQu) (hW:Abs.look l 78=some ZWn) (hC:Abs.look l 79=some (ZCo TT)) (hF:Abs.look l 81=some ZFi) (hT:Abs.look l 47=some ZTg) (hK:Abs.look l 82=some (STa K256)) {by_ n view:Int} {as:List AttS} (hb:I64 by_) (hI:I64 n) (hv:I64 view) (hw:∀a∈as,a.wf) (hl:as.length≤39) (h:Q (.tup [(mkAccu K256 by_ n view as).1.v,.int .i64 (mkAccu K256 by_ n view as).2]) G):
  Wf E (specOf l) pf42 [.int .i64 by_,.int .i64 n,.int .i64 view,.sle 101 (as.map AttS.v)] G (fun r G'=>∃r2 G2,Low G r G' r2 G2∧Q r2 G2):=by
 have bad:∀G' (e:Int),Ext G G'→mkAccu K256 by_ n view as=(.zero,e)→∃r2 G2,Low G (.tup [.agg [.int .i64 0,.int .i64 0,.int .i64 0,.arr .u8 32 [0,0,0,0,0,0,0,0,0,0,0,0,0,0,0,0,0,0,0,0,0,0,0,0,0,0,0,0,0,0,0,0],.nils,.arr .u8 32 [0,0,0,0,0,0,0,0,0,0,0,0,0,0,0,0,0,0,0,0,0,0,0,0,0,0,0,0,0,0,0,0]],.int .i64 e]) G' r2 G2∧Q r2 G2:=fun G' e he hm=>by
  rw[hm]at h
  exact⟨_,_,low_accu (els:=[]) (z:= .int .i64 0) (Row.nil he),h⟩
 simp (maxSteps:=1000000) (implicitDefEqProofs:=false) only[pf42,go_sem,↓reduceIte]
 refine fun i1 hi1 i2 hi2=> ?_
 have ne:i1≠i2:=by rintro rfl;rw[if_pos rfl]at hi2;cases hi2
 replace hi2:Abs.look ((i1,V.int .i64 n)::G) i2=none:=by rw[look_cons];exact hi2
 have g2:Abs.look ((i2,V.int .i64 view)::(i1,V.int .i64 n)::G) i2=some (.int .i64 view):=by rw[look_cons,if_pos rfl]
 have g1:Abs.look ((i2,V.int .i64 view)::(i1,V.int .i64 n)::G) i1=some (.int .i64 n):=by rw[look_cons,if_neg ne,look_cons,if_pos rfl]
 have he:Ext G ((i2,V.int .i64 view)::(i1,V.int .i64 n)::G):=Ext.cons' (Ext.cons hi1) ((Ext.cons hi1).none hi2)
 generalize ((i2,V.int .i64 view)::(i1,V.int .i64 n)::G)=G1 at g1 g2 he⊢
 rw[if_neg ne]
 simp (maxSteps:=1000000) (implicitDefEqProofs:=false) only[g1,g2,hQ,ZQu_eq,go_sem,↓reduceIte]
 refine⟨hI,?_⟩
 by_cases q0:quo n=0
 ·simp (maxSteps:=1000000) (implicitDefEqProofs:=false) only[q0,g1,g2,go_sem,↓reduceIte]
  refine bad _ _ he ?_
  unfold mkAccu;rw[if_pos (.inl q0)]
 by_cases q1:1≤by_∧by_≤n
 case neg=>
  simp (maxSteps:=1000000) (implicitDefEqProofs:=false) only[q0,q1,g1,g2,hW,ZWn_eq,go_sem,↓reduceIte]
  refine bad _ _ he ?_
  unfold mkAccu;rw[if_pos (by omega)]
 by_cases q2:1≤view∧view≤1099511627776
 case neg=>
  simp (maxSteps:=1000000) (implicitDefEqProofs:=false) only[q0,q1,q2,g1,g2,hW,ZWn_eq,go_sem,↓reduceIte]
  refine bad _ _ he ?_
  unfold mkAccu;rw[if_pos (by omega)]
 have n0:¬(quo n=0∨by_ < 1∨n < by_∨view < 1∨1099511627776 < view):=by omega
 have an:∀p:V→Bool,(as.map AttS.v).any p=as.any (fun x=>p x.v):=fun p=>by rw[List.any_map];rfl
 simp (maxSteps:=1000000) (implicitDefEqProofs:=false) only[q0,q1,q2,g1,g2,hW,ZWn_eq,hC,ZCo_eq,go_sem,↓reduceIte]
 refine⟨_,_,_,⟨isAtt_map hw,rowOk_atts,by rw[List.length_map];omega,pred_3 g2 g1⟩,?_⟩
 rw[an]
 refine⟨fun hA=> ?_,fun hA=> ?_⟩
 ·refine bad _ _ he ?_
  unfold mkAccu;rw[if_neg n0]
  exact if_pos hA
 have hA':(as.any (badA K256 n view))=false:=hA
 have hbad:∀x∈as,badA K256 n view x=false:=fun x hx=>by
  have:=List.any_eq_false.1 hA' x hx
  simpa using this
 have hwho:∀x∈as,1≤x.who∧x.who≤n:=fun x hx=>by
  have:=badA_not (hbad x hx)
  exact⟨this.2.2.2.2.1.1.1,this.2.2.2.1⟩
 simp (maxSteps:=1000000) (implicitDefEqProofs:=false) only[hF,ZFi_eq,go_sem,↓reduceIte]
 have hmk:mkAccu K256 by_ n view as=if ((firstsA n as).length:Int) < quo n then (.zero,3)else ({ (⟨by_,view,(bestA (-1,zero32) ((firstsA n as).take (quo n).toNat)).1,(bestA (-1,zero32) ((firstsA n as).take (quo n).toNat)).2,((firstsA n as).take (quo n).toNat).map (·.who),zero32⟩:AccS)with ta:=AccS.tag K256 ⟨by_,view,(bestA (-1,zero32) ((firstsA n as).take (quo n).toNat)).1,(bestA (-1,zero32) ((firstsA n as).take (quo n).toNat)).2,((firstsA n as).take (quo n).toNat).map (·.who),zero32⟩ },0):=by
  unfold mkAccu;rw[if_neg n0,if_neg (by rw[hA'];decide)]
 have hqn:=quo_nn n
 obtain⟨q,hqq⟩:∃q:Nat,quo n=(q:Int):=⟨(quo n).toNat,by omega⟩
 refine⟨as,n,⟨rfl,hw,hwho,hl⟩,fun hnil=> ?_,fun hne i3 c SS hi3 hc1 hc2 hSS=> ?_⟩
 ·subst hnil
  have c3:(0:Int) < (q:Int):=by omega
  have c4:((firstsA n []).length:Int) < quo n:=by
   have:(firstsA n [])=[]:=by
    cases h:firstsA n []with
    |nil=>rfl
    |cons a l=>exact absurd (firstsA_mem (n:=n) (l:=[]) (by rw[h];exact List.mem_cons_self ..)) (by simp)
   rw[this,hqq];exact c3
  exact⟨fun _=>bad _ _ he (by rw[hmk,if_pos c4]),fun hc=>absurd hc (by omega)⟩
 have he3:Ext G ((i3,V.agg ((firstsA n as).map AttS.v++SS))::G1):=he.trans (Ext.cons hi3)
 refine⟨fun hlt=>bad _ _ he3 (by rw[hmk,if_pos hlt]),fun hge=> ?_⟩
 have hz:(mkAccu K256 by_ n view as).2=0:=by rw[hmk,if_neg (by omega)]
 obtain⟨fs0,hok⟩:=mk_okA hz
 have hmay:=hok.may
 clear hok
 have hwf:=(mk_wfA (kt:=K256) (by_:=by_) (n:=n) (view:=view) hw hb hv).1
 rw[hmk,if_neg (by omega)]at h hmay hwf
 have ne3:i2≠i3:=by rintro rfl;rw[g2]at hi3;cases hi3
 rw[if_neg ne3,g2]
 have hfw:∀x∈firstsA n as,x∈as:=fun x hx=>firstsA_mem hx
 generalize firstsA n as=fs at*
 have g3:Abs.look ((i3,V.agg (fs.map AttS.v++SS))::G1) i3=some (.agg (fs.map AttS.v++SS)):=by rw[look_cons,if_pos rfl]
 generalize (i3,V.agg (fs.map AttS.v++SS))::G1=G2 at g3 he3⊢
 rw[hqq]at hge h q0 hmay hwf⊢
 rw[Int.toNat_natCast]at h hmay hwf
 simp (maxSteps:=1000000) (implicitDefEqProofs:=false) only[go_sem,↓reduceIte]
 refine⟨⟨by omega,by omega⟩,q+1,?_⟩
 have hql:q≤fs.length:=by omega
 refine loop42 (G:=G2) (fs:=fs) (LL:=fs.map AttS.v++SS) (by_:=by_) (view:=view) g3 (by omega) (by rw[List.length_append,List.length_map];omega) (fun k x hx=> ?_) hql ?_ (fun ts L G' x hr h0 h1=> ?_) q 0 _ _ .nils (-1) zero32 (by omega) (Row.nil (Ext.refl _)) rfl rfl rfl
 ·rw[List.getElem?_append_left (by rw[List.length_map];exact (List.getElem?_eq_some_iff.1 hx).1),List.getElem?_map,hx];rfl
 ·intro x hx
  rcases List.mem_append.1 hx with hx|hx
  ·exact (rowOk_atts.all x hx).1
  ·exact hSS x hx
 ·have hr2:=hr.base he3
  rw[show (fs.take q).map (fun a=>V.int .i64 a.who)=((fs.take q).map (·.who)).map (V.int .i64)by rw[List.map_map];rfl]at hr2
  obtain⟨x1,x2⟩:=hr.one
  unfold V.isAgg at x2
  have xn:x.same .nils=true:=(Row.nil (z:=(.int .i64 0:V)) (sz:=1) (Ext.refl G2)).like hr
  have hw0:AccS.wf ⟨by_,view,(bestA (-1,zero32) (fs.take q)).1,(bestA (-1,zero32) (fs.take q)).2,(fs.take q).map (·.who),zero32⟩:=⟨hwf.who,hwf.vi,hwf.pv,hwf.ph,hwf.fr,h32_zero⟩
  have hm0:AccS.May ⟨by_,view,(bestA (-1,zero32) (fs.take q)).1,(bestA (-1,zero32) (fs.take q)).2,(fs.take q).map (·.who),zero32⟩:=hmay
  obtain⟨s1,s2⟩:=AccS.said_ok hw0 hm0
  have gs:∀y,(L.set 1 y)[1]? =some y:=fun y=>get_set h1
  have gs0:∀y,(L.set 1 y)[0]? =L[0]? :=fun y=>by rw[List.getElem?_set_ne (by decide)]
  simp (maxSteps:=1000000) (implicitDefEqProofs:=false) only[h1,x1,x2,hT,ZTg_eq,hK,STa_eq,go_sem,↓reduceIte]
  refine⟨[],(fs.take q).map (·.who),⟨rfl,by decide,frv_row hr2,hw0,hm0⟩,AccS.said ⟨by_,view,(bestA (-1,zero32) (fs.take q)).1,(bestA (-1,zero32) (fs.take q)).2,(fs.take q).map (·.who),zero32⟩,_,⟨rowV_sle _,by simp,by simp[catL,byV]<;>rfl,s1,by omega⟩,?_⟩
  have gg:∀y z,((L.set 1 y).set 0 z)[0]? =some z:=fun y z=>get_set (by rw[gs0];exact h0)
  simp (maxSteps:=1000000) (implicitDefEqProofs:=false) only[gg,h0,h1,gs,gs0,x1,x2,xn,go_sem,↓reduceIte]
  refine⟨_,_,low_accu hr2,?_⟩
  exact h
end Go.Proofs.YtegamlopcdjiaaaDoor.Sha
