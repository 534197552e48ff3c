/- Laws over plain values, and what functions of the program hand back; no conditions. -/
import Derived.Test.YtegamlopcdjiaaaDoorG2
namespace Go.Proofs.YtegamlopcdjiaaaDoor.Sha
open Go Go.Abs Go.Abs.Sha
set_option linter.unusedSimpArgs false
set_option linter.unusedVariables false
set_option maxRecDepth 100000
attribute [local irreducible] W Wops WopsD WL Wop WopD
variable {E:Env} {C:Abs.Spec} {l:List (Nat×Spec1)} {G:List (Nat×V)} {Q:R→List (Nat×V)→Prop}
set_option maxHeartbeats 1000000
end Go.Proofs.YtegamlopcdjiaaaDoor.Sha
namespace Go.Proofs.YtegamlopcdjiaaaDoor.Sha
open Go Go.Abs Go.Abs.Sha
set_option linter.unusedSimpArgs false
set_option linter.unusedVariables false
set_option maxRecDepth 100000
def pf118:PF:=
 PF.mk 2 5 27 ((PC.reg [nn (.v 4) (.mv true (.c (.own .nils)))]).seq (((PC.reg [mm 5 1,nn (.t 6) (.bin .lss (.t 5) (.c (.v (.int .i64 0))))]).seq
  (PC.cond (.t 6) (PC.reg [nn (.t 7) (.bad),nn .no (.bad)]) PC.skip)).seq (((PC.reg [mm 8 1,mm 9 0,nn (.t 10) (.capN (.t 9)),mm 11 0,nn (.t 12)
  (.len (.t 11)),nn (.t 13) (.bin .sub (.t 10) (.t 12)),nn (.t 14) (.bin .sub (.t 8) (.t 13)),ma 1 14]).seq ((PC.reg [mm 15 1,nn (.t 16) (.bin .gtr
  (.t 15) (.c (.v (.int .i64 0))))]).seq (PC.cond (.t 16) (PC.reg [mm 17 0,mm 18 0,nn (.t 19) (.capN (.t 18)),nn (.t 20) (.slcS 1 (.t 17) none (some
  (.t 19)) none),mm 21 1,nn (.t 22) (.appG none 1 24 .nils (.t 20) (.t 21)),mm 23 0,nn (.t 24) (.len (.t 23)),nn (.t 25) (.cutG 1 (.t 22) (.t
  24)),ma 0 25]) PC.skip))).seq ((PC.reg [nn (.t 26) (.mv true (.v 0)),ma 4 26]).seq PC.ret)))) [(.v 4,none)]
def lp109_0:PC:=
 (PC.reg [nn (.t 28) (.bin .lss (.v 27) (.v 26))]).seq ((PC.cond (.t 28) PC.skip (PC.exit 2)).seq ((PC.block 3 ((PC.reg [nn (.t 29) (.iadrS 1 (.v 25)
  (.v 27)),nn (.t 30) (.load 1 false (.t 29)),ma 8 30]).seq (PC.reg [nn (.t 31) (.mv true (.v 6)),mm 32 8,nn (.t 33) (.app none 1 24 (.t 31) (.t
  32)),ma 6 33]))).seq (PC.reg [nn (.t 34) (.bin .add (.v 27) (.c (.v (.int .i64 1)))),nn (.v 27) (.mv false (.t 34))])))
def lp109_1:PC:=
 (PC.reg [nn (.v 12) (.bin .lss (.v 11) (.v 10))]).seq ((PC.cond (.v 12) PC.skip (PC.exit 0)).seq ((PC.block 1 ((PC.reg [nn (.v 13) (.iadrS 1 (.v 9) (.v
  11)),nn (.v 14) (.load 1 false (.v 13)),nn (.v 5) (.mv true (.v 14))]).seq ((PC.reg [nn (.v 15) (.mv false (.v 3)),nn (.v 16) (.mv false (.v 5)),
  nn (.v 17) (.len (.v 16)),nn (.v 18) (.bin .add (.v 15) (.v 17)),nn (.v 3) (.mv true (.v 18))]).seq ((PC.reg [nn (.v 19) (.mv false (.v 3)),nn (.v
  20) (.bin .lss (.v 19) (.c (.v (.int .i64 0))))]).seq (PC.cond (.v 20) (PC.reg [nn (.v 21) (.bad),nn .no (.bad)]) PC.skip))))).seq (PC.reg [nn (.v
  22) (.bin .add (.v 11) (.c (.v (.int .i64 1)))),nn (.v 11) (.mv false (.v 22))])))
def pf109:PF:=
 PF.mk 1 28 36 ((PC.reg [nn (.v 2) (.mv true (.c (.own .nils)))]).seq ((PC.reg [nn (.v 3) (.mv true (.c (.v (.int .i64 0))))]).seq (((PC.reg [nn (.v 9)
  (.mv false (.v 0)),nn (.v 10) (.len (.v 9)),nn (.v 11) (.mv false (.c (.v (.int .i64 0))))]).seq (PC.block 0 (PC.loop [0,3,9,10,11]
  lp109_1))).seq ((PC.reg [nn (.v 23) (.mv false (.v 3)),nn (.v 24) (.call 118 [.c (.own .nils),.v 23]),nn (.v 6) (.mv true (.v 24))]).seq (((PC.reg
  [nn (.v 25) (.mv false (.v 0)),nn (.v 26) (.len (.v 25)),nn (.v 27) (.mv false (.c (.v (.int .i64 0))))]).seq (PC.block 2 (PC.loop [6,25,26,27]
  lp109_0))).seq ((PC.reg [nn (.t 35) (.mv true (.v 6)),ma 2 35]).seq PC.ret)))))) [(.v 2,none)]
attribute [local irreducible] W Wops WopsD WL Wop WopD
variable {E:Env} {C:Abs.Spec} {l:List (Nat×Spec1)} {G:List (Nat×V)} {Q:R→List (Nat×V)→Prop}
set_option maxHeartbeats 1000000
def SGr:Spec1
 |[.nils,.int .i64 n],G,Q=>(0 < n∧n < 1000000000000)∧Q (.own (.sle 1 [])) G
 |_,_,_=>False
theorem SGr_eq {n}:SGr [.nils,.int .i64 n] G Q=((0 < n∧n < 1000000000000)∧Q (.own (.sle 1 [])) G):=rfl
def SCc:Spec1
 |[.sle 1 ps],G,Q=>∃l,(catP ps=some l∧l≠[]∧l.length < 1000000000000∧ps.length < 1000000000000)∧Q (.own (.sle 1 l)) G
 |_,_,_=>False
theorem SCc_eq {ps}:SCc [.sle 1 ps] G Q=(∃l,(catP ps=some l∧l≠[]∧l.length < 1000000000000∧ps.length < 1000000000000)∧Q (.own (.sle 1 l)) G):=rfl
theorem walk118 {n:Int} (hn:0 < n∧n < 1000000000000) (h:Q (.own (.sle 1 [])) G):Wf E C pf118 [.nils,.int .i64 n] G Q:=by
 have h1:¬n < 0:=by omega
 have e1:IntKind.i64.wrap 0=0:=by decide
 have e2:IntKind.i64.wrap (n-0)=n:=by rw[w64 (by omega) (by omega)];omega
 have h2:0 < n:=hn.1
 simp (maxSteps:=1000000) (implicitDefEqProofs:=false) only[pf118,h1,e1,e2,h2,go_sem,↓reduceIte]
 exact⟨by omega,h⟩
theorem sizes109 {ps b:List V} {L:List Bx} {QQ:Ex→St→Prop} (hb:b.length < 1000000000000) (hpl:ps.length < 1000000000000)
  (hx:∀ts,QQ (.exit 0) ⟨[some (.v (.sle 1 ps)),none,none,some (.v (.int .i64 b.length)),none,none,none,none,none,some (.v (.sle 1 ps)),some (.v (.int .i64 ps.length)),some (.v (.int .i64 ps.length)),some (.v (.bool false)),none,none,none,none,none,none,none,none,none,none,none,none,none,none,none],ts,L,G⟩):
  ∀(r:List V) (i n:Nat) (c:List V),ps.drop i=r→i+r.length=ps.length→catP r=some c→n+c.length=b.length→
   WL (W E C lp109_1) [0,3,9,10,11] QQ (r.length+1) ⟨[some (.v (.sle 1 ps)),none,none,some (.v (.int .i64 n)),none,none,none,none,none,some (.v (.sle 1 ps)),some (.v (.int .i64 ps.length)),some (.v (.int .i64 i)),none,none,none,none,none,none,none,none,none,none,none,none,none,none,none,none],[],L,G⟩:=by
 intro r
 induction r with
 |nil=>
  intro i n c hr hi hc hbc
  have hi2:i=ps.length:=by simpa using hi
  subst hi2
  cases hc
  have hn:n=b.length:=by simpa using hbc
  subst hn
  have hno:¬(ps.length:Int) < (ps.length:Int):=by omega
  refine WL_in lp109_1.eq_1 ?_
  simp (maxSteps:=1000000) (implicitDefEqProofs:=false) only[hno,go_sem,↓reduceIte]
  exact hx _
 |cons e r ih=>
  intro i n c hr hi hc hbc
  obtain⟨a2,c2,he,hc2,rfl⟩:=catP_cons hc
  have hlt:i < ps.length:=by simp only[List.length_cons]at hi;omega
  have hlt':(i:Int) < (ps.length:Int):=by omega
  have hg:ps.getD i .nilp=e:=by
   have:(ps.drop i)[0]? =some e:=by rw[hr];rfl
   rw[List.getElem?_drop,Nat.add_zero]at this
   rw[List.getD_eq_getElem?_getD,this];rfl
  have hr2:ps.drop (i+1)=r:=by rw[←List.drop_drop,hr];rfl
  have ew:IntKind.i64.wrap ((i:Int)+1)=((i+1:Nat):Int):=by rw[w64 (by omega) (by omega)];simp
  rw[List.length_append]at hbc
  have en:IntKind.i64.wrap ((n:Int)+(a2.length:Int))=((n+a2.length:Nat):Int):=by rw[w64 (by omega) (by omega)];simp
  have hge:¬((n+a2.length:Nat):Int) < 0:=by omega
  have ihh:=ih (i+1) (n+a2.length) c2 hr2 (by simp only[List.length_cons]at hi;omega) hc2 (by omega)
  refine WL_in lp109_1.eq_1 ?_
  rcases rowV_cases he with rfl|⟨rfl,rfl⟩
  ·simp (maxSteps:=1000000) (implicitDefEqProofs:=false) only[hlt',hg,ew,en,hge,Int.toNat_natCast,go_sem,↓reduceIte]
   exact⟨by omega,ihh⟩
  ·simp only[List.length_nil]at en hge ihh
   have en':IntKind.i64.wrap ((n:Int)+0)=((n+0:Nat):Int):=en
   simp (maxSteps:=1000000) (implicitDefEqProofs:=false) only[hlt',hg,ew,en',hge,Int.toNat_natCast,go_sem,↓reduceIte]
   exact⟨by omega,ihh⟩
theorem join109 {ps b:List V} {L:List Bx} {QQ:Ex→St→Prop} (hb:b.length < 1000000000000) (hpl:ps.length < 1000000000000)
  (hx:∀ts,QQ (.exit 2) ⟨[none,none,none,none,none,none,some (.own (.sle 1 b)),none,none,none,none,none,none,none,none,none,none,none,none,none,none,none,none,none,none,some (.v (.sle 1 ps)),some (.v (.int .i64 ps.length)),some (.v (.int .i64 ps.length))],ts,L,G⟩):
  ∀(r:List V) (i:Nat) (y c:List V),ps.drop i=r→i+r.length=ps.length→catP r=some c→y++c=b→
   WL (W E C lp109_0) [6,25,26,27] QQ (r.length+1) ⟨[none,none,none,none,none,none,some (.own (.sle 1 y)),none,none,none,none,none,none,none,none,none,none,none,none,none,none,none,none,none,none,some (.v (.sle 1 ps)),some (.v (.int .i64 ps.length)),some (.v (.int .i64 i))],[],L,G⟩:=by
 intro r
 induction r with
 |nil=>
  intro i y c hr hi hc hbc
  have hi2:i=ps.length:=by simpa using hi
  subst hi2
  cases hc
  rw[List.append_nil]at hbc
  subst hbc
  have hno:¬(ps.length:Int) < (ps.length:Int):=by omega
  refine WL_in lp109_0.eq_1 ?_
  simp (maxSteps:=1000000) (implicitDefEqProofs:=false) only[hno,go_sem,↓reduceIte]
  exact hx _
 |cons e r ih=>
  intro i y c hr hi hc hbc
  obtain⟨a2,c2,he,hc2,rfl⟩:=catP_cons hc
  have hlt:i < ps.length:=by simp only[List.length_cons]at hi;omega
  have hlt':(i:Int) < (ps.length:Int):=by omega
  have hg:ps.getD i .nilp=e:=by
   have:(ps.drop i)[0]? =some e:=by rw[hr];rfl
   rw[List.getElem?_drop,Nat.add_zero]at this
   rw[List.getD_eq_getElem?_getD,this];rfl
  have hr2:ps.drop (i+1)=r:=by rw[←List.drop_drop,hr];rfl
  have ew:IntKind.i64.wrap ((i:Int)+1)=((i+1:Nat):Int):=by rw[w64 (by omega) (by omega)];simp
  have ihh:=ih (i+1) (y++a2) c2 hr2 (by simp only[List.length_cons]at hi;omega) hc2 (by rw[←hbc,List.append_assoc])
  have hll:y.length+(a2.length+c2.length)=b.length:=by rw[←hbc];simp only[List.length_append]
  refine WL_in lp109_0.eq_1 ?_
  rcases rowV_cases he with rfl|⟨rfl,rfl⟩
  ·simp (maxSteps:=1000000) (implicitDefEqProofs:=false) only[hlt',hg,ew,Int.toNat_natCast,go_sem,↓reduceIte]
   exact⟨by omega,by omega,ihh⟩
  ·rw[List.append_nil]at ihh
   simp (maxSteps:=1000000) (implicitDefEqProofs:=false) only[hlt',hg,ew,Int.toNat_natCast,go_sem,↓reduceIte]
   exact⟨by omega,by omega,ihh⟩
theorem walk109 {ps b:List V} (h67:Abs.look l 118=some SGr) (hc:catP ps=some b) (hne:b≠[]) (hb:b.length < 1000000000000) (hpl:ps.length < 1000000000000) (h:Q (.own (.sle 1 b)) G):Wf E (specOf l) pf109 [.sle 1 ps] G Q:=by
 have hpos:0 < b.length:=by cases b with|nil=>exact absurd rfl hne|cons=>simp
 simp (maxSteps:=1000000) (implicitDefEqProofs:=false) only[pf109,go_sem,↓reduceIte]
 refine⟨ps.length+1,?_⟩
 simp (maxSteps:=1000000) (implicitDefEqProofs:=false) only[go_sem,↓reduceIte]
 refine sizes109 hb hpl (fun ts=> ?_) ps 0 0 b rfl (by omega) hc (by omega)
 simp (maxSteps:=1000000) (implicitDefEqProofs:=false) only[h67,SGr_eq,go_sem,↓reduceIte]
 refine⟨⟨by omega,by omega⟩,ps.length+1,?_⟩
 simp (maxSteps:=1000000) (implicitDefEqProofs:=false) only[go_sem,↓reduceIte]
 refine join109 hb hpl (fun ts=> ?_) ps 0 [] b rfl (by omega) hc rfl
 simp (maxSteps:=1000000) (implicitDefEqProofs:=false) only[go_sem,↓reduceIte]
 exact h
end Go.Proofs.YtegamlopcdjiaaaDoor.Sha
namespace Go.Proofs.YtegamlopcdjiaaaDoor.Sha
open Go Go.Abs Go.Abs.Sha
set_option linter.unusedSimpArgs false
set_option linter.unusedVariables false
set_option maxRecDepth 100000
def pf116:PF:=
 PF.mk 1 5 16 ((PC.reg [nn (.v 2) (.alloc (.arr .u8 64 [0,0,0,0,0,0,0,0,0,0,0,0,0,0,0,0,0,0,0,0,0,0,0,0,0,0,0,0,0,0,0,0,
  0,0,0,0,0,0,0,0,0,0,0,0,0,0,0,0,0,0,0,0,0,0,0,0,0,0,0,0,0,0,0,0]))]).seq ((PC.reg [nn (.v 3) (.alloc (.arr .u8 64 [0,
  0,0,0,0,0,0,0,0,0,0,0,0,0,0,0,0,0,0,0,0,0,0,0,0,0,0,0,0,0,0,0,0,0,0,0,0,0,0,0,0,0,0,0,0,0,0,0,0,0,0,
  0,0,0,0,0,0,0,0,0,0,0,0,0]))]).seq (((PC.reg [mm 5 0,nn (.t 6) (.len (.t 5)),nn (.t 7) (.bin .gtr (.t 6) (.c (.v (.int .i64
  64))))]).seq (PC.cond (.t 7) ((PC.reg [mm 8 0,nn (.t 9) (.buildS none 1 .nils 1 [(0,.t 8)]),nn (.t 10) (.call 115 [.t 9]),nn (.v 4) (.alloc (.arr
  .u8 32 [0,0,0,0,0,0,0,0,0,0,0,0,0,0,0,0,0,0,0,0,0,0,0,0,0,0,0,0,0,0,0,0])),nn .no (.store 32 (.v 4) (.t 10))]).seq
  (PC.reg [nn (.t 11) (.slcA 32 false (.v 4) none none none),ma 0 11])) PC.skip)).seq ((PC.reg [nn (.t 12) (.slcA 64 true (.v 3) none none none),mm
  13 0,nn (.t 14) (.copy (.t 12) (.t 13))]).seq ((PC.reg [nn (.t 15) (.load 64 true (.v 3)),nn .no (.store 64 (.v 2) (.t 15))]).seq PC.ret))))) [(.v
  2,some (64,true))]
def lp117_0:PC:=
 (PC.reg [nn (.t 7) (.bin .lss (.v 6) (.c (.v (.int .i64 64))))]).seq ((PC.cond (.t 7) PC.skip (PC.exit 0)).seq ((PC.block 1 ((PC.reg [nn (.t 8) (.mv
  true (.v 6)),ma 5 8]).seq (PC.reg [mm 9 5,nn (.t 10) (.iadrA 64 (.v 2) (.t 9)),nn (.t 11) (.load 1 false (.t 10)),mm 12 1,nn (.t 13) (.bin .xor
  (.t 11) (.t 12)),nn (.t 14) (.iadrA 64 (.v 2) (.t 9)),nn .no (.store 1 (.t 14) (.t 13))]))).seq (PC.reg [nn (.t 15) (.bin .add (.v 6) (.c (.v (.int
  .i64 1)))),nn (.v 6) (.mv false (.t 15))])))
def pf117:PF:=
 PF.mk 2 7 17 ((PC.reg [nn (.v 2) (.box (.v 0)),nn (.v 4) (.mv true (.c (.own .nils)))]).seq (((PC.reg [nn (.v 6) (.mv false (.c (.v (.int .i64
  0))))]).seq (PC.block 0 (PC.loop [1,2,6] lp117_0))).seq ((PC.reg [nn (.t 16) (.slcA 64 false (.v 2) none none none),ma 4 16]).seq PC.ret))) [(.v
  4,none)]
def lp86_0:PC:=
 (PC.reg [nn (.t 10) (.bin .lss (.v 9) (.c (.v (.int .i64 32))))]).seq ((PC.cond (.t 10) PC.skip (PC.exit 0)).seq ((PC.block 1 ((PC.reg [mm 11 9,nn (.t
  12) (.idxA 32 (.v 8) (.v 9)),ma 6 11,ma 7 12]).seq (PC.reg [mm 13 5,mm 14 7,mm 15 6,nn (.t 16) (.iadrA 32 (.v 3) (.t 15)),nn (.t 17) (.load 1
  false (.t 16)),nn (.t 18) (.bin .xor (.t 14) (.t 17)),nn (.t 19) (.bin .or (.t 13) (.t 18)),ma 5 19]))).seq (PC.reg [nn (.t 20) (.bin .add (.v 9)
  (.c (.v (.int .i64 1)))),nn (.v 9) (.mv false (.t 20))])))
def pf86:PF:=
 PF.mk 2 10 23 ((PC.reg [nn (.v 2) (.box (.v 0)),nn (.v 3) (.box (.v 1)),nn (.v 4) (.mv true (.c (.v (.bool false))))]).seq ((PC.reg [nn (.v 5) (.mv
  true (.c (.v (.int .u8 0))))]).seq (((PC.reg [nn (.v 8) (.load 32 true (.v 2)),nn (.v 9) (.mv false (.c (.v (.int .i64 0))))]).seq (PC.block 0
  (PC.loop [3,5,8,9] lp86_0))).seq ((PC.reg [mm 21 5,nn (.t 22) (.bin .eql (.t 21) (.c (.v (.int .u8 0)))),ma 4 22]).seq PC.ret)))) [(.v 4,none)]
attribute [local irreducible] W Wops WopsD WL Wop WopD
variable {E:Env} {C:Abs.Spec} {l:List (Nat×Spec1)} {G:List (Nat×V)} {Q:R→List (Nat×V)→Prop}
set_option maxHeartbeats 1000000
def SOf (kt:List Int):Spec1
 |[x],G,Q=>∃b,(partsV x=some b∧x.len < 100000000000000∧Byt b∧b.length < 100000000000000)∧Q (.v (.arr .u8 32 (sumB kt b))) G
 |_,_,_=>False
theorem SOf_eq {kt x}:SOf kt [x] G Q=(∃b,(partsV x=some b∧x.len < 100000000000000∧Byt b∧b.length < 100000000000000)∧Q (.v (.arr .u8 32 (sumB kt b))) G):=rfl
def SBl (kt:List Int):Spec1
 |[x],G,Q=>∃b,(byV x=some b∧Byt b∧b.length < 10000000000000)∧Q (.v (.arr .u8 64 (keyB kt b))) G
 |_,_,_=>False
theorem SBl_eq {kt x}:SBl kt [x] G Q=(∃b,(byV x=some b∧Byt b∧b.length < 10000000000000)∧Q (.v (.arr .u8 64 (keyB kt b))) G):=rfl
def STd:Spec1
 |[.arr .u8 64 b,.int .u8 c],G,Q=>b.length=64∧Q (.v (.sli .u8 (turnB b c))) G
 |_,_,_=>False
theorem STd_eq {b c}:STd [.arr .u8 64 b,.int .u8 c] G Q=(b.length=64∧Q (.v (.sli .u8 (turnB b c))) G):=rfl
def SSa:Spec1
 |[.arr .u8 32 a,.arr .u8 32 b],G,Q=>((Byt a∧a.length=32)∧Byt b∧b.length=32)∧Q (.v (.bool (decide (a=b)))) G
 |_,_,_=>False
theorem SSa_eq {a b}:SSa [.arr .u8 32 a,.arr .u8 32 b] G Q=(((Byt a∧a.length=32)∧Byt b∧b.length=32)∧Q (.v (.bool (decide (a=b)))) G):=rfl
theorem keyB_big {k key:List Int} (h:64 < key.length):(sumB k key).take 64++[0,0,0,0,0,0,0,0,0,0,0,0,0,0,0,0,0,0,0,0,0,0,0,0,0,0,0,0,0,0,0,0,0,0,0,0,0,0,0,0,0,0,0,0,0,0,0,0,0,0,0,0,0,0,0,0,0,0,0,0,0,0,0,0].drop (sumB k key).length=keyB k key:=by
 unfold keyB;rw[if_pos h,List.take_of_length_le (by rw[sumB_len];omega),sumB_len];rfl
theorem keyB_small {k key:List Int} (h:¬64 < key.length):key.take 64++[0,0,0,0,0,0,0,0,0,0,0,0,0,0,0,0,0,0,0,0,0,0,0,0,0,0,0,0,0,0,0,0,0,0,0,0,0,0,0,0,0,0,0,0,0,0,0,0,0,0,0,0,0,0,0,0,0,0,0,0,0,0,0,0].drop key.length=keyB k key:=by
 show key.take 64++(List.replicate 64 (0:Int)).drop key.length=_
 unfold keyB;rw[if_neg h,List.take_of_length_le (by omega),List.drop_replicate]
theorem walk116 {kt b:List Int} {x:V} (h64:Abs.look l 115=some (SOf kt)) (hx:byV x=some b) (hby:Byt b) (hb:b.length < 10000000000000) (h:Q (.v (.arr .u8 64 (keyB kt b))) G):Wf E (specOf l) pf116 [x] G Q:=by
 rcases byV_cases hx with rfl|⟨rfl,rfl⟩
 ·by_cases hbig:(64:Int) < b.length
  ·have hbig':64 < b.length:=by omega
   simp (maxSteps:=1000000) (implicitDefEqProofs:=false) only[pf116,hbig,h64,SOf_eq,go_sem,↓reduceIte]
   refine⟨b,⟨by simp[partsV,catL,byV],hby,by omega⟩,?_⟩
   have ht:((sumB kt b).take 32)=sumB kt b:=List.take_of_length_le (by rw[sumB_len];omega)
   simp (maxSteps:=1000000) (implicitDefEqProofs:=false) only[ht,List.drop_zero,go_sem,↓reduceIte]
   rw[keyB_big hbig']
   exact h
  ·have hbig':¬64 < b.length:=by omega
   simp (maxSteps:=1000000) (implicitDefEqProofs:=false) only[pf116,hbig,h64,SOf_eq,go_sem,↓reduceIte]
   rw[keyB_small hbig']
   exact h
 ·simp (maxSteps:=1000000) (implicitDefEqProofs:=false) only[pf116,h64,SOf_eq,go_sem,↓reduceIte]
  exact h
theorem loop117 {b:List Int} {c:Int} {QQ:Ex→St→Prop} (hl:b.length=64)
  (hx:∀ts,QQ (.exit 0) ⟨[none,some (.v (.int .u8 c)),some (.lp 0 []),none,none,none,some (.v (.int .i64 64))],ts,[⟨false,.arr .u8 64 (turnB b c)⟩],G⟩):
  ∀(m i:Nat),i+m=64→WL (W E C lp117_0) [1,2,6] QQ (m+1) ⟨[none,some (.v (.int .u8 c)),some (.lp 0 []),none,none,none,some (.v (.int .i64 i))],[],[⟨false,.arr .u8 64 ((turnB b c).take i++b.drop i)⟩],G⟩:=by
 intro m
 induction m with
 |zero=>
  intro i hi
  obtain rfl:i=64:=by omega
  have e:(turnB b c).take 64++b.drop 64=turnB b c:=by
   rw[List.take_of_length_le (by rw[turnB_len];omega),List.drop_eq_nil_of_le (by omega),List.append_nil]
  rw[e]
  refine WL_in lp117_0.eq_1 ?_
  simp (maxSteps:=1000000) (implicitDefEqProofs:=false) only[go_sem,↓reduceIte]
  exact hx _
 |succ m ih=>
  intro i hi
  have hi64:i < 64:=by omega
  have hlt:(i:Int) < 64:=by omega
  have ew:IntKind.i64.wrap ((i:Int)+1)=((i+1:Nat):Int):=by rw[w64 (by omega) (by omega)];simp
  have hs:=map_step (f:=fun x=>bXor .u8 x c) (b:=b) (i:=i) (by omega)
  have ihh:=ih (i+1) (by omega)
  unfold turnB at ihh⊢
  rw[←hs]at ihh
  refine WL_in lp117_0.eq_1 ?_
  simp (maxSteps:=1000000) (implicitDefEqProofs:=false) only[hlt,hi64,ew,Int.toNat_natCast,go_sem,↓reduceIte]
  exact⟨by omega,by omega,ihh⟩
theorem walk117 {b:List Int} {c:Int} (hl:b.length=64) (h:Q (.v (.sli .u8 (turnB b c))) G):Wf E C pf117 [.arr .u8 64 b,.int .u8 c] G Q:=by
 simp (maxSteps:=1000000) (implicitDefEqProofs:=false) only[pf117,go_sem,↓reduceIte]
 refine⟨65,?_⟩
 simp (maxSteps:=1000000) (implicitDefEqProofs:=false) only[go_sem,↓reduceIte]
 refine loop117 hl (fun ts=> ?_) 64 0 (by omega)
 have ht:(turnB b c).take 64=turnB b c:=List.take_of_length_le (by rw[turnB_len];omega)
 simp (maxSteps:=1000000) (implicitDefEqProofs:=false) only[ht,List.drop_zero,go_sem,↓reduceIte]
 exact h
theorem loop86 {a b:List Int} {z0:Bx} {QQ:Ex→St→Prop} (ha:Byt a) (hb:Byt b) (hal:a.length=32) (hbl:b.length=32)
  (hx:∀ts u,(u=0↔a=b)→QQ (.exit 0) ⟨[none,none,none,some (.lp 1 []),none,some (.v (.int .u8 u)),none,none,some (.v (.arr .u8 32 a)),some (.v (.int .i64 32))],ts,[z0,⟨false,.arr .u8 32 b⟩],G⟩):
  ∀(m i:Nat) (u:Int),i+m=32→(0≤u∧u≤255)→(u=0↔a.take i=b.take i)→WL (W E C lp86_0) [3,5,8,9] QQ (m+1) ⟨[none,none,none,some (.lp 1 []),none,some (.v (.int .u8 u)),none,none,some (.v (.arr .u8 32 a)),some (.v (.int .i64 i))],[],[z0,⟨false,.arr .u8 32 b⟩],G⟩:=by
 intro m
 induction m with
 |zero=>
  intro i u hi hu hq
  obtain rfl:i=32:=by omega
  rw[List.take_of_length_le (by omega),List.take_of_length_le (by omega)]at hq
  refine WL_in lp86_0.eq_1 ?_
  simp (maxSteps:=1000000) (implicitDefEqProofs:=false) only[go_sem,↓reduceIte]
  exact hx _ _ hq
 |succ m ih=>
  intro i u hi hu hq
  have hi32:i < 32:=by omega
  have hlt:(i:Int) < 32:=by omega
  have ew:IntKind.i64.wrap ((i:Int)+1)=((i+1:Nat):Int):=by rw[w64 (by omega) (by omega)];simp
  have hga:=byt_getD ha i
  have hgb:=byt_getD hb i
  have hst:=unlike_step hu hga hgb
  have ihh:=ih (i+1) (bOr .u8 u (bXor .u8 (a.getD i 0) (b.getD i 0))) (by omega) (or8_by _ _) (by
   rw[hst,hq,←snoc_step' (by omega:i < a.length),←snoc_step' (by omega:i < b.length)]
   constructor
   ·rintro⟨h1,h2⟩;rw[h1,h2]
   ·intro h1
    obtain⟨h2,h3⟩:=List.append_inj h1 (by simp[hal,hbl])
    exact⟨h2,by simpa using h3⟩)
  refine WL_in lp86_0.eq_1 ?_
  simp (maxSteps:=1000000) (implicitDefEqProofs:=false) only[hlt,hi32,ew,Int.toNat_natCast,go_sem,↓reduceIte]
  exact⟨by omega,by omega,ihh⟩
theorem walk86 {a b:List Int} (ha:Byt a) (hb:Byt b) (hal:a.length=32) (hbl:b.length=32) (h:Q (.v (.bool (decide (a=b)))) G):Wf E C pf86 [.arr .u8 32 a,.arr .u8 32 b] G Q:=by
 simp (maxSteps:=1000000) (implicitDefEqProofs:=false) only[pf86,go_sem,↓reduceIte]
 refine⟨33,?_⟩
 simp (maxSteps:=1000000) (implicitDefEqProofs:=false) only[go_sem,↓reduceIte]
 refine loop86 ha hb hal hbl (fun ts u hu=> ?_) 32 0 0 (by omega) (by omega) (by simp)
 simp (maxSteps:=1000000) (implicitDefEqProofs:=false) only[go_sem,↓reduceIte]
 exact finB h (by simp[hu])
end Go.Proofs.YtegamlopcdjiaaaDoor.Sha
namespace Go.Proofs.YtegamlopcdjiaaaDoor.Sha
open Go Go.Abs Go.Abs.Sha
set_option linter.unusedSimpArgs false
set_option linter.unusedVariables false
set_option maxRecDepth 100000
def pf108:PF:=
 PF.mk 2 7 21 ((PC.reg [nn (.v 4) (.alloc (.arr .u8 32 [0,0,0,0,0,0,0,0,0,0,0,0,0,0,0,0,0,0,0,0,0,0,0,0,0,0,0,0,0,0,0,
  0]))]).seq ((PC.reg [mm 7 0,nn (.t 8) (.call 116 [.t 7]),nn (.v 5) (.alloc (.arr .u8 64 [0,0,0,0,0,0,0,0,0,0,0,0,0,0,0,0,0,0,0,
  0,0,0,0,0,0,0,0,0,0,0,0,0,0,0,0,0,0,0,0,0,0,0,0,0,0,0,0,0,0,0,0,0,0,0,0,0,0,0,0,0,0,0,0,0])),nn .no
  (.store 64 (.v 5) (.t 8))]).seq ((PC.reg [nn (.t 9) (.load 64 true (.v 5)),nn (.t 10) (.call 117 [.t 9,.c (.v (.int .u8 54))]),nn (.t 11) (.buildS
  none 1 .nils 1 [(0,.t 10)]),mm 12 1,nn (.t 13) (.buildS none 1 .nils 2 [(0,.t 11),(1,.t 12)]),nn (.t 14) (.call 109 [.t 13]),nn (.t 15)
  (.call 115 [.t 14]),nn (.v 6) (.alloc (.arr .u8 32 [0,0,0,0,0,0,0,0,0,0,0,0,0,0,0,0,0,0,0,0,0,0,0,0,0,0,0,0,0,0,0,
  0])),nn .no (.store 32 (.v 6) (.t 15))]).seq ((PC.regD 0 [nn (.t 16) (.load 64 true (.v 5)),nn (.t 17) (.call 117 [.t 16,.c (.v (.int .u8 92))]),
  nn (.t 18) (.slcA 32 false (.v 6) none none none),nn (.t 19) (.buildS none 1 .nils 2 [(0,.t 17),(1,.t 18)]),nn (.t 20) (.call 115 [.t 19]),nn
  .no (.store 32 (.v 4) (.t 20))] [(0,2),(1,2)]).seq PC.ret)))) [(.v 4,some (32,true))]
attribute [local irreducible] W Wops WopsD WL Wop WopD
variable {E:Env} {C:Abs.Spec} {l:List (Nat×Spec1)} {G:List (Nat×V)} {Q:R→List (Nat×V)→Prop}
set_option maxHeartbeats 1000000
def SMa (kt:List Int):Spec1
 |[x,y],G,Q=>∃b c r,(byV x=some b∧Byt b∧b.length < 10000000000000∧rowV y=some r∧r.length < 100000000000∧catL r=some c∧Byt c∧c.length < 10000000000000)∧Q (.v (.arr .u8 32 (macB kt b c))) G
 |_,_,_=>False
theorem SMa_eq {kt x y}:SMa kt [x,y] G Q=(∃b c r,(byV x=some b∧Byt b∧b.length < 10000000000000∧rowV y=some r∧r.length < 100000000000∧catL r=some c∧Byt c∧c.length < 10000000000000)∧Q (.v (.arr .u8 32 (macB kt b c))) G):=rfl
theorem walk108 {kt b c:List Int} {r:List V} {x y:V} (h64:Abs.look l 115=some (SOf kt)) (h65:Abs.look l 116=some (SBl kt)) (h66:Abs.look l 117=some STd) (h56:Abs.look l 109=some SCc)
  (hx:byV x=some b) (hby:Byt b) (hb:b.length < 10000000000000) (hy:rowV y=some r) (hr:r.length < 100000000000) (hc:catL r=some c) (hcy:Byt c) (hcl:c.length < 10000000000000) (h:Q (.v (.arr .u8 32 (macB kt b c))) G):Wf E (specOf l) pf108 [x,y] G Q:=by
 have hk:=keyB_len kt b
 have hkt:((sumB kt (turnB (keyB kt b) 54++c)).take 32)=sumB kt (turnB (keyB kt b) 54++c):=List.take_of_length_le (by rw[sumB_len];omega)
 have htl:∀z,(turnB (keyB kt b) z).length=64:=fun z=>by rw[turnB_len,hk]
 have hcat:catL ([V.sli .u8 (turnB (keyB kt b) 54)]++r)=some (turnB (keyB kt b) 54++c):=catL_mk rfl hc
 have hcat2:partsV (.sle 1 [V.sli .u8 (turnB (keyB kt b) 92),V.sli .u8 (sumB kt (turnB (keyB kt b) 54++c))])=some (turnB (keyB kt b) 92++sumB kt (turnB (keyB kt b) 54++c)):=by simp[partsV,catL,byV]
 have hp:catP [.sle 1 [V.sli .u8 (turnB (keyB kt b) 54)],y]=some ([V.sli .u8 (turnB (keyB kt b) 54)]++r):=by
  have:=catP_mk (x:= .sle 1 [V.sli .u8 (turnB (keyB kt b) 54)]) rfl (catP_mk hy (show catP []=some []from rfl))
  simpa using this
 rcases byV_cases hx with rfl|⟨rfl,rfl⟩<;>rcases rowV_cases hy with rfl|⟨rfl,rfl⟩
 all_goals
  simp (maxSteps:=1000000) (implicitDefEqProofs:=false) only[pf108,h65,SBl_eq,h66,STd_eq,h56,SCc_eq,h64,SOf_eq,go_sem,↓reduceIte]
  refine⟨_,⟨rfl,hby,hb⟩,hk,_,⟨hp,by simp,by simp;try omega⟩,_,⟨hcat,by simp;try omega,byt_app (byt_turn _ _) hcy,by rw[List.length_append,htl];omega⟩,?_⟩
  simp (maxSteps:=1000000) (implicitDefEqProofs:=false) only[hkt,List.drop_zero,go_sem,↓reduceIte]
  refine⟨hk,_,⟨hcat2,byt_app (byt_turn _ _) (byt_sum _ _),by rw[List.length_append,htl,sumB_len];omega⟩,?_⟩
  exact h
end Go.Proofs.YtegamlopcdjiaaaDoor.Sha
namespace Go.Proofs.YtegamlopcdjiaaaDoor.Sha
open Go Go.Abs Go.Abs.Sha
set_option linter.unusedSimpArgs false
set_option linter.unusedVariables false
set_option maxRecDepth 100000
def pf85:PF:=
 PF.mk 1 3 9 ((PC.reg [nn (.v 2) (.mv true (.c (.v (.bool false))))]).seq ((PC.reg [mm 3 0,nn (.t 4) (.bin .geq (.t 3) (.c (.v (.int .i64 1)))),nn (.t
  5) (.mv false (.t 4)),gm 6 0 5 true,⟨.t 7,.bin .leq (.t 6) (.c (.v (.int .i64 21))),some (.t 5,true)⟩,nn (.t 8) (.pick (.t 5) (.t 7) (.c (.v
  (.bool false)))),ma 2 8]).seq PC.ret)) [(.v 2,none)]
def pf107:PF:=
 PF.mk 1 3 14 ((PC.reg [nn (.v 2) (.alloc (.arr .u8 32 [0,0,0,0,0,0,0,0,0,0,0,0,0,0,0,0,0,0,0,0,0,0,0,0,0,0,0,0,0,0,0,
  0]))]).seq (((PC.reg [mm 3 0,nn (.t 4) (.call 85 [.t 3]),nn (.t 5) (.un .not (.t 4))]).seq (PC.cond (.t 5) ((PC.reg [nn (.t 6) (.build (.arr .u8 32
  [0,0,0,0,0,0,0,0,0,0,0,0,0,0,0,0,0,0,0,0,0,0,0,0,0,0,0,0,0,0,0,0]) []),nn .no (.store 32 (.v 2) (.t 6))]).seq PC.ret)
  PC.skip)).seq ((PC.reg [nn (.t 7) (.buildR (some .u8) 1 (.int .u8 0) 12 [(0,.c (.v (.int .u8 116))),(1,.c (.v (.int .u8 105))),(2,.c (.v (.int
  .u8 116))),(3,.c (.v (.int .u8 104))),(4,.c (.v (.int .u8 105))),(5,.c (.v (.int .u8 110))),(6,.c (.v (.int .u8 103))),(7,.c (.v (.int .u8
  32))),(8,.c (.v (.int .u8 107))),(9,.c (.v (.int .u8 101))),(10,.c (.v (.int .u8 121))),(11,.c (.v (.int .u8 32)))]),nn (.t 8) (.cvt (.t
  7)),mm 9 0,nn (.t 10) (.conv .u8 (.t 9)),nn (.t 11) (.buildS (some .u8) 1 (.int .u8 0) 1 [(0,.t 10)]),nn (.t 12) (.buildS none 1 .nils 2 [(0,.t
  8),(1,.t 11)]),nn (.t 13) (.call 115 [.t 12]),nn .no (.store 32 (.v 2) (.t 13))]).seq PC.ret))) [(.v 2,some (32,true))]
def pf82:PF:=
 PF.mk 3 8 22 ((PC.reg [nn (.v 6) (.alloc (.arr .u8 32 [0,0,0,0,0,0,0,0,0,0,0,0,0,0,0,0,0,0,0,0,0,0,0,0,0,0,0,0,0,0,0,
  0]))]).seq (((PC.reg [mm 8 0,nn (.t 9) (.call 85 [.t 8]),nn (.t 10) (.un .not (.t 9))]).seq (PC.cond (.t 10) ((PC.reg [nn (.t 11) (.build (.arr .u8
  32 [0,0,0,0,0,0,0,0,0,0,0,0,0,0,0,0,0,0,0,0,0,0,0,0,0,0,0,0,0,0,0,0]) []),nn .no (.store 32 (.v 6) (.t 11))]).seq
  PC.ret) PC.skip)).seq ((PC.reg [mm 12 0,nn (.t 13) (.call 107 [.t 12]),nn (.v 7) (.alloc (.arr .u8 32 [0,0,0,0,0,0,0,0,0,0,0,0,0,0,0,
  0,0,0,0,0,0,0,0,0,0,0,0,0,0,0,0,0])),nn .no (.store 32 (.v 7) (.t 13))]).seq ((PC.regD 0 [nn (.t 14) (.slcA 32 false (.v 7) none
  none none),mm 15 1,nn (.t 16) (.buildS (some .u8) 1 (.int .u8 0) 1 [(0,.t 15)]),nn (.t 17) (.buildS none 1 .nils 1 [(0,.t 16)]),mm 18 2,nn (.t
  19) (.buildS none 1 .nils 2 [(0,.t 17),(1,.t 18)]),nn (.t 20) (.call 109 [.t 19]),nn (.t 21) (.call 108 [.t 14,.t 20]),nn .no (.store 32 (.v
  6) (.t 21))] [(0,6)]).seq PC.ret)))) [(.v 6,some (32,true))]
def pf46:PF:=
 PF.mk 4 9 19 ((PC.reg [nn (.v 6) (.box (.v 2)),nn (.v 8) (.mv true (.c (.v (.bool false))))]).seq ((PC.regD 0 [mm 9 0,nn (.t 10) (.call 85 [.t 9]),
  nn (.t 11) (.mv false (.t 10)),⟨.t 12,.load 32 true (.v 6),some (.t 11,true)⟩,gm 13 0 11 true,gm 14 1 11 true,gm 15 3 11 true,⟨.t 16,.call
  82 [.t 13,.t 14,.t 15],some (.t 11,true)⟩,⟨.t 17,.call 86 [.t 12,.t 16],some (.t 11,true)⟩,nn (.t 18) (.pick (.t 11) (.t 17) (.c (.v (.bool
  false)))),ma 8 18] []).seq PC.ret)) [(.v 8,none)]
attribute [local irreducible] W Wops WopsD WL Wop WopD
variable {E:Env} {C:Abs.Spec} {l:List (Nat×Spec1)} {G:List (Nat×V)} {Q:R→List (Nat×V)→Prop}
set_option maxHeartbeats 1000000
def SNo:Spec1
 |[.int .i64 n],G,Q=>Q (.v (.bool (decide (1≤n∧n≤21)))) G
 |_,_,_=>False
theorem SNo_eq {n}:SNo [.int .i64 n] G Q=(Q (.v (.bool (decide (1≤n∧n≤21)))) G):=rfl
def SKe (kt:List Int):Spec1
 |[.int .i64 n],G,Q=>Q (.v (.arr .u8 32 (keyH kt n))) G
 |_,_,_=>False
theorem SKe_eq {kt n}:SKe kt [.int .i64 n] G Q=(Q (.v (.arr .u8 32 (keyH kt n))) G):=rfl
def STa (kt:List Int):Spec1
 |[.int .i64 n,.int .u8 d,y],G,Q=>∃c r,((0≤d∧d≤255)∧rowV y=some r∧r.length < 10000000000∧catL r=some c∧Byt c∧c.length < 1000000000000)∧Q (.v (.arr .u8 32 (tagH kt n d c))) G
 |_,_,_=>False
theorem STa_eq {kt n d y}:STa kt [.int .i64 n,.int .u8 d,y] G Q=(∃c r,((0≤d∧d≤255)∧rowV y=some r∧r.length < 10000000000∧catL r=some c∧Byt c∧c.length < 1000000000000)∧Q (.v (.arr .u8 32 (tagH kt n d c))) G):=rfl
def SCh (kt:List Int):Spec1
 |[.int .i64 n,.int .u8 d,.arr .u8 32 t,y],G,Q=>∃c r,(((0≤d∧d≤255)∧Byt t∧t.length=32)∧rowV y=some r∧r.length < 10000000000∧catL r=some c∧Byt c∧c.length < 1000000000000)∧Q (.v (.bool (decide (1≤n∧n≤21)&&decide (t=tagH kt n d c)))) G
 |_,_,_=>False
theorem SCh_eq {kt n d t y}:SCh kt [.int .i64 n,.int .u8 d,.arr .u8 32 t,y] G Q=(∃c r,(((0≤d∧d≤255)∧Byt t∧t.length=32)∧rowV y=some r∧r.length < 10000000000∧catL r=some c∧Byt c∧c.length < 1000000000000)∧Q (.v (.bool (decide (1≤n∧n≤21)&&decide (t=tagH kt n d c)))) G):=rfl
theorem walk85 {n:Int} (h:Q (.v (.bool (decide (1≤n∧n≤21)))) G):Wf E C pf85 [.int .i64 n] G Q:=by
 by_cases h1:1≤n<;>by_cases h2:n≤21
 all_goals
  simp (maxSteps:=1000000) (implicitDefEqProofs:=false) only[pf85,h1,h2,go_sem,↓reduceIte]
  try (exact finB h (by simp[h1,h2]))
theorem walk107 {kt:List Int} {n:Int} (h36:Abs.look l 85=some SNo) (h64:Abs.look l 115=some (SOf kt)) (h:Q (.v (.arr .u8 32 (keyH kt n))) G):Wf E (specOf l) pf107 [.int .i64 n] G Q:=by
 have hp:partsV (.sle 1 [V.sli .u8 [116,105,116,104,105,110,103,32,107,101,121,32],V.sli .u8 [IntKind.u8.wrap n]])=some (seedB n):=by simp[partsV,catL,byV,seedB]
 by_cases h1:1≤n∧n≤21
 ·simp (maxSteps:=1000000) (implicitDefEqProofs:=false) only[pf107,h36,SNo_eq,h1,h64,SOf_eq,go_sem,↓reduceIte]
  refine⟨_,⟨hp,byt_seed n,by simp[seedB]⟩,?_⟩
  unfold keyH at h;rw[if_pos h1]at h
  exact h
 ·simp (maxSteps:=1000000) (implicitDefEqProofs:=false) only[pf107,h36,SNo_eq,h1,go_sem,↓reduceIte]
  unfold keyH at h;rw[if_neg h1]at h
  exact h
theorem walk82 {kt c:List Int} {n d:Int} {y:V} {r:List V} (h36:Abs.look l 85=some SNo) (h54:Abs.look l 107=some (SKe kt)) (h56:Abs.look l 109=some SCc) (h55:Abs.look l 108=some (SMa kt))
  (hd:0≤d∧d≤255) (hy:rowV y=some r) (hr:r.length < 10000000000) (hc:catL r=some c) (hcy:Byt c) (hcl:c.length < 1000000000000) (h:Q (.v (.arr .u8 32 (tagH kt n d c))) G):Wf E (specOf l) pf82 [.int .i64 n,.int .u8 d,y] G Q:=by
 by_cases h1:1≤n∧n≤21
 ·have hkt:(keyH kt n).take 32=keyH kt n:=List.take_of_length_le (by rw[keyH_len];omega)
  have hcat:catL ([V.sli .u8 [d]]++r)=some ([d]++c):=catL_mk rfl hc
  have hp:catP [.sle 1 [V.sli .u8 [d]],y]=some ([V.sli .u8 [d]]++r):=by
   have:=catP_mk (x:= .sle 1 [V.sli .u8 [d]]) rfl (catP_mk hy (show catP []=some []from rfl))
   simpa using this
  unfold tagH at h;rw[if_pos h1]at h
  rcases rowV_cases hy with rfl|⟨rfl,rfl⟩
  all_goals
   simp (maxSteps:=1000000) (implicitDefEqProofs:=false) only[pf82,h36,SNo_eq,h1,h54,SKe_eq,h56,SCc_eq,h55,SMa_eq,hkt,List.drop_zero,go_sem,↓reduceIte]
   refine⟨_,⟨hp,by simp,by simp;try omega⟩,_,_,_,⟨rfl,byt_keyH _ _,by rw[keyH_len];omega,rfl,by simp;try omega,hcat,byt_app (byt_cons hd byt_nil) hcy,by simp;try omega⟩,?_⟩
   exact h
 ·simp (maxSteps:=1000000) (implicitDefEqProofs:=false) only[pf82,h36,SNo_eq,h1,go_sem,↓reduceIte]
  unfold tagH at h;rw[if_neg h1]at h
  exact h
theorem walk46 {kt c t:List Int} {n d:Int} {y:V} {r:List V} (h36:Abs.look l 85=some SNo) (h34:Abs.look l 82=some (STa kt)) (h57:Abs.look l 86=some SSa)
  (hd:0≤d∧d≤255) (ht:Byt t∧t.length=32) (hy:rowV y=some r) (hr:r.length < 10000000000) (hc:catL r=some c) (hcy:Byt c) (hcl:c.length < 1000000000000) (h:Q (.v (.bool (decide (1≤n∧n≤21)&&decide (t=tagH kt n d c)))) G):Wf E (specOf l) pf46 [.int .i64 n,.int .u8 d,.arr .u8 32 t,y] G Q:=by
 by_cases h1:1≤n∧n≤21
 ·have hz:decide (1≤n∧n≤21)=true:=decide_eq_true h1
  rw[hz,Bool.true_and]at h
  rcases rowV_cases hy with rfl|⟨rfl,rfl⟩
  all_goals
   simp (maxSteps:=1000000) (implicitDefEqProofs:=false) only[pf46,h36,SNo_eq,h1,h34,STa_eq,h57,SSa_eq,go_sem,↓reduceIte]
   refine⟨_,_,⟨hd,rfl,hr,hc,hcy,hcl⟩,⟨ht,byt_tagH _ _ _ _,tagH_len _ _ _ _⟩,?_⟩
   exact h
 ·simp (maxSteps:=1000000) (implicitDefEqProofs:=false) only[pf46,h36,SNo_eq,h1,go_sem,↓reduceIte]
  have hz:decide (1≤n∧n≤21)=false:=decide_eq_false h1
  rw[hz,Bool.false_and]at h
  exact h
end Go.Proofs.YtegamlopcdjiaaaDoor.Sha
