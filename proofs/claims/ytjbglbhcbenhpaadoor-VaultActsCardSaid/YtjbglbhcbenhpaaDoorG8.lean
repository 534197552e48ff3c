/- Laws over plain values, and what functions of the program hand back; no conditions. -/
import Derived.Test.YtjbglbhcbenhpaaDoorG7
import Derived.Test.YtjbglbhcbenhpaaDoorG2
namespace Go.Proofs.YtjbglbhcbenhpaaDoor.Sha
open Go Go.Abs Go.Abs.Sha
set_option linter.unusedSimpArgs false
set_option linter.unusedVariables false
set_option maxRecDepth 100000
def pf89:PF:=
 PF.mk 2 5 27 ((PC.reg [nn (.v 4) (.mv true (.c (.own .nils)))]).seq (((PC.reg [mm 5 1,nn (.t 6) (.bin .lss (.t 5) (.c (.v (.int .i64 0))))]).seq
  (PC.cond (.t 6) (PC.reg [nn (.t 7) (.bad),nn .no (.bad)]) PC.skip)).seq (((PC.reg [mm 8 1,mm 9 0,nn (.t 10) (.capN (.t 9)),mm 11 0,nn (.t 12)
  (.len (.t 11)),nn (.t 13) (.bin .sub (.t 10) (.t 12)),nn (.t 14) (.bin .sub (.t 8) (.t 13)),ma 1 14]).seq ((PC.reg [mm 15 1,nn (.t 16) (.bin .gtr
  (.t 15) (.c (.v (.int .i64 0))))]).seq (PC.cond (.t 16) (PC.reg [mm 17 0,mm 18 0,nn (.t 19) (.capN (.t 18)),nn (.t 20) (.slcS 1 (.t 17) none (some
  (.t 19)) none),mm 21 1,nn (.t 22) (.appG (some .u8) 1 1 (.int .u8 0) (.t 20) (.t 21)),mm 23 0,nn (.t 24) (.len (.t 23)),nn (.t 25) (.cutG 1 (.t
  22) (.t 24)),ma 0 25]) PC.skip))).seq ((PC.reg [nn (.t 26) (.mv true (.v 0)),ma 4 26]).seq PC.ret)))) [(.v 4,none)]
def lp48_0:PC:=
 (PC.reg [nn (.t 28) (.bin .lss (.v 27) (.v 26))]).seq ((PC.cond (.t 28) PC.skip (PC.exit 2)).seq ((PC.block 3 ((PC.reg [nn (.t 29) (.iadrS 1 (.v 25)
  (.v 27)),nn (.t 30) (.load 1 false (.t 29)),ma 8 30]).seq (PC.reg [nn (.t 31) (.mv true (.v 6)),mm 32 8,nn (.t 33) (.app (some .u8) 1 1 (.t 31)
  (.t 32)),ma 6 33]))).seq (PC.reg [nn (.t 34) (.bin .add (.v 27) (.c (.v (.int .i64 1)))),nn (.v 27) (.mv false (.t 34))])))
def lp48_1:PC:=
 (PC.reg [nn (.v 12) (.bin .lss (.v 11) (.v 10))]).seq ((PC.cond (.v 12) PC.skip (PC.exit 0)).seq ((PC.block 1 ((PC.reg [nn (.v 13) (.iadrS 1 (.v 9) (.v
  11)),nn (.v 14) (.load 1 false (.v 13)),nn (.v 5) (.mv true (.v 14))]).seq ((PC.reg [nn (.v 15) (.mv false (.v 3)),nn (.v 16) (.mv false (.v 5)),
  nn (.v 17) (.len (.v 16)),nn (.v 18) (.bin .add (.v 15) (.v 17)),nn (.v 3) (.mv true (.v 18))]).seq ((PC.reg [nn (.v 19) (.mv false (.v 3)),nn (.v
  20) (.bin .lss (.v 19) (.c (.v (.int .i64 0))))]).seq (PC.cond (.v 20) (PC.reg [nn (.v 21) (.bad),nn .no (.bad)]) PC.skip))))).seq (PC.reg [nn (.v
  22) (.bin .add (.v 11) (.c (.v (.int .i64 1)))),nn (.v 11) (.mv false (.v 22))])))
def pf48:PF:=
 PF.mk 1 28 36 ((PC.reg [nn (.v 2) (.mv true (.c (.own .nils)))]).seq ((PC.reg [nn (.v 3) (.mv true (.c (.v (.int .i64 0))))]).seq (((PC.reg [nn (.v 9)
  (.mv false (.v 0)),nn (.v 10) (.len (.v 9)),nn (.v 11) (.mv false (.c (.v (.int .i64 0))))]).seq (PC.block 0 (PC.loop [0,3,9,10,11]
  lp48_1))).seq ((PC.reg [nn (.v 23) (.mv false (.v 3)),nn (.v 24) (.call 89 [.c (.own .nils),.v 23]),nn (.v 6) (.mv true (.v 24))]).seq (((PC.reg
  [nn (.v 25) (.mv false (.v 0)),nn (.v 26) (.len (.v 25)),nn (.v 27) (.mv false (.c (.v (.int .i64 0))))]).seq (PC.block 2 (PC.loop [6,25,26,27]
  lp48_0))).seq ((PC.reg [nn (.t 35) (.mv true (.v 6)),ma 2 35]).seq PC.ret)))))) [(.v 2,none)]
attribute [local irreducible] W Wops WopsD WL Wop WopD
variable {E:Env} {C:Abs.Spec} {l:List (Nat×Spec1)} {G:List (Nat×V)} {Q:R→List (Nat×V)→Prop}
set_option maxHeartbeats 1000000
def SGrb:Spec1
 |[.nils,.int .i64 n],G,Q=>(0≤n∧n < 1000000000000)∧Q (if n=0 then .own .nils else .own (.sli .u8 [])) G
 |_,_,_=>False
theorem SGrb_eq {n}:SGrb [.nils,.int .i64 n] G Q=((0≤n∧n < 1000000000000)∧Q (if n=0 then .own .nils else .own (.sli .u8 [])) G):=rfl
def SCb:Spec1
 |[.sle 1 [.sli .u8 a,y]],G,Q=>∃b,(byV y=some b∧a.length < 100000000000∧b.length < 100000000000)∧Q (.own (.sli .u8 (a++b))) G
 |_,_,_=>False
theorem SCb_eq {a y}:SCb [.sle 1 [.sli .u8 a,y]] G Q=(∃b,(byV y=some b∧a.length < 100000000000∧b.length < 100000000000)∧Q (.own (.sli .u8 (a++b))) G):=rfl
def ownR:R→R
 | .v .nils=> .own .nils
 |r=>r
theorem Ret.own {E g vs G Q} (h:Ret E g vs G (fun r G'=>Q (ownR r) G')):Ret E g vs G Q:=by
 intro Mc B w args hs ha hr
 refine Calls.mono (h Mc B w args hs ha hr) ?_
 rintro e W' ⟨v,r,G',m',h1,h2,h3,h4⟩
 refine⟨v,ownR r,G',m',h1,h2,h3,?_⟩
 cases r with
 |v x=>
  cases x<;>try exact h4
  have hv:v= .slice none 0 0:=by
   have h5:RepW W' _ .nils v:=h4
   simpa [RepW,V.isAgg,RepV]using h5
  subst hv
  exact⟨h4,0,none,0,rfl,.inl rfl⟩
 |own x=>exact h4
 |tup l=>exact h4
def stepS (s:VS):VS×Bool:=if s.a=0 then ({ s with d:=true },false)else if 0 < s.a then ({ s with a:=s.a-1 },true)else (s,true)
def setG (G:List (Nat×V)) (s:VS):List (Nat×V):=upd (upd G s.id s.val) s.c (CT s.n true)
structure VS.good (s:VS):Prop where
 h:∃b,byV s.h=some b∧b.length≤1000∧Byt b
 k:s.k=0∨s.k=1
 a: -1≤s.a∧s.a≤9223372036854775807
 i:1≤s.i∧s.i≤21
 z0:∃b,byV s.s0=some b∧b.length≤1000∧Byt b
 z1:∃b,byV s.s1=some b∧b.length≤1000∧Byt b
theorem setG_same {s:VS} {G:List (Nat×V)} {x:V} (h:s.at G x):setG G s=G:=by
 unfold setG;rw[upd_self h.v,upd_self h.c]
theorem setG_one {s t:VS} {G:List (Nat×V)} {x:V} (h:s.at G x) (e1:t.id=s.id) (e2:t.c=s.c) (e3:t.n=s.n):setG G t=upd G s.id t.val:=by
 unfold setG;rw[e1,e2,e3]
 exact upd_self (by rw[look_upd_ne h.ne];exact h.c)
theorem at_setG {s t:VS} {G:List (Nat×V)} {x:V} (h:s.at G x) (e1:t.id=s.id) (e2:t.c=s.c) (hn:okC t.n) (z0:∃b,byV t.s0=some b) (z1:∃b,byV t.s1=some b):t.at (setG G t) x:=by
 have hne:t.c≠t.id:=by rw[e1,e2];exact h.ne
 refine⟨by rw[e1];exact h.x,?_,?_,hne,hn,z0,z1⟩
 ·unfold setG;rw[look_upd_ne hne.symm,e1];exact look_upd_same h.v
 ·unfold setG;rw[e2];exact look_upd_same (by rw[e1,look_upd_ne h.ne];exact h.c)
theorem setG_setG {s t:VS} {G:List (Nat×V)} (e1:t.id=s.id) (e2:t.c=s.c) (hne:s.c≠s.id):setG (setG G s) t=setG G t:=by
 have comm:∀{α:Type} {G:List (Nat×α)} {i j:Nat} {x y:α},i≠j→upd (upd G i x) j y=upd (upd G j y) i x:=by
  intro α G i j x y hij
  induction G with
  |nil=>rfl
  |cons p G ih=>
   obtain⟨k,d⟩:=p
   by_cases ei:i=k
   ·subst ei
    have:(j==i)=false:=by simpa using fun e=>hij e.symm
    simp[upd,this]
   ·have h1:(i==k)=false:=by simpa using ei
    by_cases ej:j=k
    ·subst ej;simp[upd,h1]
    ·have h2:(j==k)=false:=by simpa using ej
     simp only[upd,h1,h2,cond_false,ih]
 unfold setG
 rw[e1,e2,comm hne,upd_upd,upd_upd]
def SSt2:Spec1
 |[x],G,Q=>∃s:VS,(s.at G x∧s.good)∧Q (.v (.bool (stepS s).2)) (setG G (stepS s).1)
 |_,_,_=>False
theorem SSt2_eq {x}:SSt2 [x] G Q=(∃s:VS,(s.at G x∧s.good)∧Q (.v (.bool (stepS s).2)) (setG G (stepS s).1)):=rfl
def SWr2:Spec1
 |[x,.int .i64 k,.sli .u8 b],G,Q=>∃s:VS,(s.at G x∧s.good∧(k=0∨k=1))∧Q (.v (.bool (stepS s).2)) (setG G (if (stepS s).2=true then (stepS s).1.put k (.sli .u8 b)else { (stepS s).1 with h:= .sli .u8 b,k:=k }))
 |_,_,_=>False
theorem SWr2_eq {x k b}:SWr2 [x,.int .i64 k,.sli .u8 b] G Q=(∃s:VS,(s.at G x∧s.good∧(k=0∨k=1))∧Q (.v (.bool (stepS s).2)) (setG G (if (stepS s).2=true then (stepS s).1.put k (.sli .u8 b)else { (stepS s).1 with h:= .sli .u8 b,k:=k }))):=rfl
def SArm2:Spec1
 |[x,.int .i64 m],G,Q=>(NB G x∧Q (.tup []) G)∨∃s:VS,(s.at G x∧s.good)∧Q (.tup []) (setG G { s with a:=if m < -1 then -1 else m })
 |_,_,_=>False
theorem SArm2_eq {x m}:SArm2 [x,.int .i64 m] G Q=((NB G x∧Q (.tup []) G)∨∃s:VS,(s.at G x∧s.good)∧Q (.tup []) (setG G { s with a:=if m < -1 then -1 else m })):=rfl
theorem walk89 {n:Int} (hn:0≤n∧n < 1000000000000) (h:Q (if n=0 then .own .nils else .own (.sli .u8 [])) G):Wf E C pf89 [.nils,.int .i64 n] G (fun r G'=>Q (ownR r) G'):=by
 have h1:¬n < 0:=by omega
 have e1:IntKind.i64.wrap 0=0:=by decide
 have e2:IntKind.i64.wrap (n-0)=n:=by rw[w64 (by omega) (by omega)];omega
 by_cases hz:n=0
 ·subst hz
  rw[if_pos rfl]at h
  simp (maxSteps:=1000000) (implicitDefEqProofs:=false) only[pf89,h1,e1,e2,go_sem,↓reduceIte]
  exact h
 ·rw[if_neg hz]at h
  have h2:0 < n:=by omega
  simp (maxSteps:=1000000) (implicitDefEqProofs:=false) only[pf89,h1,e1,e2,h2,go_sem,↓reduceIte]
  exact⟨by omega,h⟩
theorem walk246 {x:V} {s:VS} (hs:s.at G x) (hg:s.good) (h:Q (.v (.bool (stepS s).2)) (setG G (stepS s).1)):Wf E C pf46 [x] G Q:=by
 have hs':=hs
 obtain⟨rfl,hv,hc,hne,hok,⟨b0,z0⟩,⟨b1,z1⟩⟩:=hs
 obtain⟨g0,_⟩:=by_size z0
 obtain⟨g1,_⟩:=by_size z1
 unfold VS.val at hv
 unfold stepS at h
 by_cases c0:s.a=0
 ·simp only[if_pos c0]at h
  rw[setG_one (t:={ s with d:=true }) hs' rfl rfl rfl]at h
  simp (maxSteps:=1000000) (implicitDefEqProofs:=false) only[pf46,hv,g0,g1,c0,go_sem,↓reduceIte]
  rw[c0]at h
  exact h
 ·simp only[if_neg c0]at h
  by_cases c1:0 < s.a
  ·simp only[if_pos c1]at h
   rw[setG_one (t:={ s with a:=s.a-1 }) hs' rfl rfl rfl]at h
   have:=hg.a
   have ew:IntKind.i64.wrap (s.a-1)=s.a-1:=w64 (by omega) (by omega)
   simp (maxSteps:=1000000) (implicitDefEqProofs:=false) only[pf46,hv,g0,g1,c0,c1,ew,go_sem,↓reduceIte]
   exact h
  ·simp only[if_neg c1]at h
   rw[setG_same hs']at h
   simp (maxSteps:=1000000) (implicitDefEqProofs:=false) only[pf46,hv,g0,g1,c0,c1,go_sem,↓reduceIte]
   exact h
theorem walk217 {x:V} {n:Int} (h1:Abs.look l 42=some SIs) (hh:SArm2 [x,.int .i64 n] G Q):Wf E (specOf l) pf17 [x,.int .i64 n] G Q:=by
 rcases hh with⟨hx,h⟩|⟨s,⟨hs,hg⟩,h⟩
 ·simp (maxSteps:=1000000) (implicitDefEqProofs:=false) only[pf17,h1,SIs_eq,go_sem,↓reduceIte]
  refine⟨false,.inl ⟨hx,rfl⟩,?_⟩
  try simp (maxSteps:=1000000) (implicitDefEqProofs:=false) only[go_sem,↓reduceIte]
  exact h
 ·have hs':=hs
  obtain⟨rfl,hv,hc,hne,hok,⟨b0,z0⟩,⟨b1,z1⟩⟩:=hs
  obtain⟨g0,_⟩:=by_size z0
  obtain⟨g1,_⟩:=by_size z1
  unfold VS.val at hv
  rw[setG_one (t:={ s with a:=if n < -1 then -1 else n }) hs' rfl rfl rfl]at h
  simp (maxSteps:=1000000) (implicitDefEqProofs:=false) only[pf17,h1,SIs_eq,hv,g0,g1,go_sem,↓reduceIte]
  refine⟨true,.inr ⟨s,hs',rfl⟩,?_⟩
  try simp (maxSteps:=1000000) (implicitDefEqProofs:=false) only[go_sem,↓reduceIte]
  exact h
theorem walk48 {y:V} {a b:List Int} (h89:Abs.look l 89=some SGrb) (hy:byV y=some b) (ha:a.length < 100000000000) (hb:b.length < 100000000000) (h:Q (.own (.sli .u8 (a++b))) G):Wf E (specOf l) pf48 [.sle 1 [.sli .u8 a,y]] G (fun r G'=>Q (wkR .u8 r) G'):=by
 have w1:IntKind.i64.wrap 1=1:=by decide
 have w2:IntKind.i64.wrap 2=2:=by decide
 have e1:IntKind.i64.wrap (0+(a.length:Int))=(a.length:Int):=by rw[w64 (by omega) (by omega)];omega
 have e2:IntKind.i64.wrap ((a.length:Int)+(b.length:Int))=((a.length+b.length:Nat):Int):=by rw[w64 (by omega) (by omega)];simp
 have l2:V.lenI y=some (b.length:Int):=by rcases byV_cases hy with rfl|⟨rfl,rfl⟩<;>rfl
 have n1:¬(a.length:Int) < 0:=by omega
 have n2:¬((a.length+b.length:Nat):Int) < 0:=by omega
 have p0:IntKind.i64.wrap (0+0)=0:=by decide
 have p1:IntKind.i64.wrap (0+(b.length:Int))=(b.length:Int):=by rw[w64 (by omega) (by omega)];omega
 have p2:IntKind.i64.wrap ((a.length:Int)+0)=(a.length:Int):=by rw[w64 (by omega) (by omega)];omega
 have n3:¬(b.length:Int) < 0:=by omega
 rcases byV_cases hy with rfl|⟨rfl,rfl⟩
 ·simp (maxSteps:=1000000) (implicitDefEqProofs:=false) only[pf48,go_sem,↓reduceIte]
  refine⟨3,?_⟩
  simp (maxSteps:=1000000) (implicitDefEqProofs:=false) only[go_sem,↓reduceIte]
  refine WL_in lp48_1.eq_1 ?_
  simp (maxSteps:=1000000) (implicitDefEqProofs:=false) only[w1,w2,e1,n1,go_sem,↓reduceIte]
  refine WL_in lp48_1.eq_1 ?_
  simp (maxSteps:=1000000) (implicitDefEqProofs:=false) only[w1,w2,e2,n2,go_sem,↓reduceIte]
  refine WL_in lp48_1.eq_1 ?_
  simp (maxSteps:=1000000) (implicitDefEqProofs:=false) only[w1,w2,h89,SGrb_eq,go_sem,↓reduceIte]
  refine⟨⟨by omega,by omega⟩,?_⟩
  by_cases hz:((a.length+b.length:Nat):Int)=0
  ·rw[if_pos hz]
   obtain rfl:a=[]:=List.eq_nil_of_length_eq_zero (by omega)
   obtain rfl:b=[]:=List.eq_nil_of_length_eq_zero (by simpa using hz)
   simp (maxSteps:=1000000) (implicitDefEqProofs:=false) only[w1,w2,go_sem,↓reduceIte]
   refine⟨3,?_⟩
   simp (maxSteps:=1000000) (implicitDefEqProofs:=false) only[go_sem,↓reduceIte]
   refine WL_in lp48_0.eq_1 ?_
   simp (maxSteps:=1000000) (implicitDefEqProofs:=false) only[w1,w2,go_sem,↓reduceIte]
   refine WL_in lp48_0.eq_1 ?_
   simp (maxSteps:=1000000) (implicitDefEqProofs:=false) only[w1,w2,go_sem,↓reduceIte]
   refine WL_in lp48_0.eq_1 ?_
   simp (maxSteps:=1000000) (implicitDefEqProofs:=false) only[w1,w2,go_sem,↓reduceIte]
   exact h
  ·rw[if_neg hz]
   simp (maxSteps:=1000000) (implicitDefEqProofs:=false) only[w1,w2,go_sem,↓reduceIte]
   refine⟨3,?_⟩
   simp (maxSteps:=1000000) (implicitDefEqProofs:=false) only[go_sem,↓reduceIte]
   refine WL_in lp48_0.eq_1 ?_
   simp (maxSteps:=1000000) (implicitDefEqProofs:=false) only[w1,w2,go_sem,↓reduceIte]
   refine⟨by omega,?_⟩
   refine WL_in lp48_0.eq_1 ?_
   simp (maxSteps:=1000000) (implicitDefEqProofs:=false) only[w1,w2,go_sem,↓reduceIte]
   refine⟨by omega,?_⟩
   refine WL_in lp48_0.eq_1 ?_
   simp (maxSteps:=1000000) (implicitDefEqProofs:=false) only[w1,w2,go_sem,↓reduceIte]
   exact h
 ·simp (maxSteps:=1000000) (implicitDefEqProofs:=false) only[pf48,go_sem,↓reduceIte]
  refine⟨3,?_⟩
  simp (maxSteps:=1000000) (implicitDefEqProofs:=false) only[go_sem,↓reduceIte]
  refine WL_in lp48_1.eq_1 ?_
  simp (maxSteps:=1000000) (implicitDefEqProofs:=false) only[w1,w2,e1,n1,go_sem,↓reduceIte]
  refine WL_in lp48_1.eq_1 ?_
  simp (maxSteps:=1000000) (implicitDefEqProofs:=false) only[w1,w2,p2,n1,go_sem,↓reduceIte]
  refine WL_in lp48_1.eq_1 ?_
  simp (maxSteps:=1000000) (implicitDefEqProofs:=false) only[w1,w2,h89,SGrb_eq,go_sem,↓reduceIte]
  refine⟨⟨by omega,by omega⟩,?_⟩
  by_cases hz:(a.length:Int)=0
  ·rw[if_pos hz]
   obtain rfl:a=[]:=List.eq_nil_of_length_eq_zero (by omega)
   skip
   simp (maxSteps:=1000000) (implicitDefEqProofs:=false) only[w1,w2,go_sem,↓reduceIte]
   refine⟨3,?_⟩
   simp (maxSteps:=1000000) (implicitDefEqProofs:=false) only[go_sem,↓reduceIte]
   refine WL_in lp48_0.eq_1 ?_
   simp (maxSteps:=1000000) (implicitDefEqProofs:=false) only[w1,w2,go_sem,↓reduceIte]
   refine WL_in lp48_0.eq_1 ?_
   simp (maxSteps:=1000000) (implicitDefEqProofs:=false) only[w1,w2,go_sem,↓reduceIte]
   refine WL_in lp48_0.eq_1 ?_
   simp (maxSteps:=1000000) (implicitDefEqProofs:=false) only[w1,w2,go_sem,↓reduceIte]
   exact h
  ·rw[if_neg hz]
   simp (maxSteps:=1000000) (implicitDefEqProofs:=false) only[w1,w2,go_sem,↓reduceIte]
   refine⟨3,?_⟩
   simp (maxSteps:=1000000) (implicitDefEqProofs:=false) only[go_sem,↓reduceIte]
   refine WL_in lp48_0.eq_1 ?_
   simp (maxSteps:=1000000) (implicitDefEqProofs:=false) only[w1,w2,go_sem,↓reduceIte]
   refine⟨by omega,?_⟩
   refine WL_in lp48_0.eq_1 ?_
   simp (maxSteps:=1000000) (implicitDefEqProofs:=false) only[w1,w2,go_sem,↓reduceIte]
   refine⟨by omega,?_⟩
   refine WL_in lp48_0.eq_1 ?_
   simp (maxSteps:=1000000) (implicitDefEqProofs:=false) only[w1,w2,go_sem,↓reduceIte]
   rw[List.append_nil]at h
   exact h
end Go.Proofs.YtjbglbhcbenhpaaDoor.Sha
namespace Go.Proofs.YtjbglbhcbenhpaaDoor.Sha
open Go Go.Abs Go.Abs.Sha
set_option linter.unusedSimpArgs false
set_option linter.unusedVariables false
set_option maxRecDepth 100000
attribute [local irreducible] W Wops WopsD WL Wop WopD
variable {E:Env} {C:Abs.Spec} {l:List (Nat×Spec1)} {G:List (Nat×V)} {Q:R→List (Nat×V)→Prop}
set_option maxHeartbeats 1000000
structure Like (s t:VS):Prop where
 id:t.id=s.id
 c:t.c=s.c
 i:t.i=s.i
theorem Like.refl (s:VS):Like s s:=⟨rfl,rfl,rfl⟩
theorem stepS_like (s:VS):Like s (stepS s).1∧(stepS s).1.n=s.n∧(stepS s).1.s0=s.s0∧(stepS s).1.s1=s.s1∧(stepS s).1.h=s.h∧(stepS s).1.k=s.k:=by
 unfold stepS
 split
 ·exact⟨⟨rfl,rfl,rfl⟩,rfl,rfl,rfl,rfl,rfl⟩
 ·split<;>exact⟨⟨rfl,rfl,rfl⟩,rfl,rfl,rfl,rfl,rfl⟩
theorem put_like (s:VS) (k:Int) (y:V):Like s (s.put k y):=by unfold VS.put;split<;>exact⟨rfl,rfl,rfl⟩
theorem stepS_good {s:VS} (h:s.good):(stepS s).1.good:=by
 obtain⟨h1,h2,h3,h4,h5,h6⟩:=h
 unfold stepS
 split
 ·exact⟨h1,h2,h3,h4,h5,h6⟩
 ·split
  ·exact⟨h1,h2,⟨by show -1≤s.a-1;omega,by show s.a-1≤_;omega⟩,h4,h5,h6⟩
  ·exact⟨h1,h2,h3,h4,h5,h6⟩
theorem put_good {s:VS} {k:Int} {b:List Int} (h:s.good) (hl:b.length≤1000) (hb:Byt b):(s.put k (.sli .u8 b)).good:=by
 obtain⟨h1,h2,h3,h4,h5,h6⟩:=h
 unfold VS.put
 split
 ·exact⟨h1,h2,h3,h4,⟨_,rfl,hl,hb⟩,h6⟩
 ·exact⟨h1,h2,h3,h4,h5,⟨_,rfl,hl,hb⟩⟩
def keepS (kt:List Int) (s:VS) (x:SealS):VS×Int:=
 if s.d=true then (s,6)else if ¬x.May then (s,1)else if (stepS s).2=false then ({ (stepS s).1 with h:= .sli .u8 (x.blob kt s.i (s.n+1)),k:=(s.n+1).tmod 2 },6)
 else if (stepS ((stepS s).1.put ((s.n+1).tmod 2) (.sli .u8 (x.blob kt s.i (s.n+1))))).2=false then ((stepS ((stepS s).1.put ((s.n+1).tmod 2) (.sli .u8 (x.blob kt s.i (s.n+1))))).1,6)
 else ({ (stepS ((stepS s).1.put ((s.n+1).tmod 2) (.sli .u8 (x.blob kt s.i (s.n+1))))).1 with n:=s.n+1 },0)
def byB (x:V):List Int:=(byV x).getD []
def cutN (m:Int) (L:Nat):Int:=if (L:Int) < (if m < 0 then 0 else m)then L else if m < 0 then 0 else m
theorem cutN_ok (m:Int) (L:Nat):0≤cutN m L∧cutN m L≤L:=by
 unfold cutN
 repeat' split
 all_goals omega
def torn (p o:List Int):List Int:=p++o.drop (if (o.length:Int) < (p.length:Int)then (o.length:Int)else (p.length:Int)).toNat
def crashS (s:VS) (m:Int):VS:=
 { (if (byB s.h).length=0 then s else s.put s.k (.sli .u8 (torn ((byB s.h).take (cutN m (byB s.h).length).toNat) (byB (s.slot s.k)))))with h:= .nils,d:=false,a:= -1 }
theorem walk245 {x:V} {k:Int} {b:List Int} {s:VS} (h1:Abs.look l 46=some SSt2) (hs:s.at G x) (hg:s.good) (hk:k=0∨k=1)
  (h:Q (.v (.bool (stepS s).2)) (setG G (if (stepS s).2=true then (stepS s).1.put k (.sli .u8 b)else { (stepS s).1 with h:= .sli .u8 b,k:=k }))):Wf E (specOf l) pf45 [x,.int .i64 k,.sli .u8 b] G Q:=by
 obtain⟨⟨e1,e2,e3⟩,e4,e5,e6,e7,e8⟩:=stepS_like s
 have at1:=at_setG (t:=(stepS s).1) hs e1 e2 (by rw[e4];exact hs.ok) (by rw[e5];exact hs.z0) (by rw[e6];exact hs.z1)
 have hne:=hs.ne
 have hx:=hs.x
 subst hx
 simp (maxSteps:=1000000) (implicitDefEqProofs:=false) only[pf45,h1,SSt2_eq,go_sem,↓reduceIte]
 refine⟨s,⟨hs,hg⟩,?_⟩
 rcases hst:stepS s with⟨s1,ok⟩
 rw[hst]at h at1 e1 e2 e3 e4 e5 e6 e7 e8
 simp only at h at1 e1 e2 e3 e4 e5 e6 e7 e8
 have hgg:∀t:VS,Like s1 t→t.n=s1.n→setG G t=upd (setG G s1) s1.id t.val:=fun t ht hn=>by
  rw[←setG_setG (s:=s1) (t:=t) ht.id ht.c (by rw[e1,e2];exact hne)]
  exact setG_one at1 ht.id ht.c hn
 have hv:=at1.v
 rw[e1]at hv
 obtain⟨b0,z0⟩:=at1.z0
 obtain⟨b1,z1⟩:=at1.z1
 obtain⟨g0,_⟩:=by_size z0
 obtain⟨g1,_⟩:=by_size z1
 unfold VS.val at hv
 cases ok with
 |true=>
  simp only[if_true]at h
  rw[hgg _ (put_like _ _ _) (by unfold VS.put;split<;>rfl),e1]at h
  generalize setG G s1=G1 at*
  rcases byV_cases z0 with f0|⟨f0,rfl⟩<;>rcases byV_cases z1 with f1|⟨f1,rfl⟩<;>rw[f0,f1]at hv<;>rcases hk with rfl|rfl<;>
   (simp only[VS.put,VS.val,if_true,reduceIte,Int.reduceEq,f0,f1]at h)<;>(simp (maxSteps:=1000000) (implicitDefEqProofs:=false) only[hv,go_sem,↓reduceIte])<;>exact⟨two_sz rfl rfl,h⟩
 |false=>
  simp only[Bool.false_eq_true,if_false]at h
  rw[hgg { s1 with h:= .sli .u8 b,k:=k } ⟨rfl,rfl,rfl⟩ rfl,e1]at h
  generalize setG G s1=G1 at*
  obtain⟨bh,zh,_⟩:=hg.h
  rw[←e7]at zh
  rcases byV_cases zh with f2|⟨f2,rfl⟩<;>rw[f2]at hv<;>(have hv2:∀z,Abs.look (upd G1 s.id z) s.id=some z:=fun z=>look_upd_same hv)<;>(simp (maxSteps:=1000000) (implicitDefEqProofs:=false) only[hv,hv2,upd_upd,g0,g1,go_sem,↓reduceIte])<;>exact h
theorem walk215 {kt:List Int} {x:V} {a1 a2 a3:Int} {a4:List Int} {s:VS} (h1:Abs.look l 42=some SIs) (h2:Abs.look l 43=some SBc) (h3:Abs.look l 24=some SVat) (h4:Abs.look l 44=some (SBp kt))
  (h5:Abs.look l 45=some SWr2) (h6:Abs.look l 46=some SSt2) (h7:Abs.look l 47=some S28) (hs:s.at G x) (hg:s.good) (hlt:s.n < 1099511627776) (hw:(⟨a1,a2,a3,a4⟩:SealS).wf)
  (h:Q (.v (.int .i64 (keepS kt s (⟨a1,a2,a3,a4⟩:SealS)).2)) (setG G (keepS kt s (⟨a1,a2,a3,a4⟩:SealS)).1)):Wf E (specOf l) pf15 [x,.agg [.int .i64 a1,.int .i64 a2,.int .i64 a3,.arr .u8 32 a4]] G Q:=by
 have hs':=hs
 obtain⟨rfl,hv,hc,hne,hok,⟨b0,z0⟩,⟨b1,z1⟩⟩:=hs
 obtain⟨g0,_⟩:=by_size z0
 obtain⟨g1,_⟩:=by_size z1
 have hok2:=hok
 unfold okC at hok2
 unfold VS.val at hv
 unfold keepS at h
 simp (maxSteps:=1000000) (implicitDefEqProofs:=false) only[pf15,h1,SIs_eq,go_sem,↓reduceIte]
 refine⟨true,.inr ⟨s,hs',rfl⟩,?_⟩
 cases hd:s.d with
 |true=>
  rw[hd]at hv
  rw[if_pos hd,setG_same hs']at h
  simp (maxSteps:=1000000) (implicitDefEqProofs:=false) only[hv,g0,g1,go_sem,↓reduceIte]
  exact h
 |false=>
  rw[hd]at hv
  rw[if_neg (by rw[hd];simp)]at h
  simp (maxSteps:=1000000) (implicitDefEqProofs:=false) only[hv,g0,g1,h2,SBc_eq,go_sem,↓reduceIte]
  refine⟨hw,?_⟩
  by_cases hm:(⟨a1,a2,a3,a4⟩:SealS).May
  ·have hmay:(⟨a1,a2,a3,a4⟩:SealS).may=true:=decide_eq_true hm
   rw[if_neg (fun c=>c hm)]at h
   simp (maxSteps:=1000000) (implicitDefEqProofs:=false) only[hmay,h3,SVat_eq,go_sem,↓reduceIte]
   refine⟨s.n,.inr ⟨s,hs',rfl⟩,?_⟩
   have hw1:IntKind.i64.wrap (s.n+1)=s.n+1:=w64 (by omega) (by omega)
   have hp:putV kt s.i (s.n+1) (⟨a1,a2,a3,a4⟩:SealS)= .tup [.sli .u8 ((⟨a1,a2,a3,a4⟩:SealS).blob kt s.i (s.n+1)),.int .i64 0]:=by unfold putV;rw[if_pos ⟨hm,hg.i,by omega,by omega⟩]
   rw[hw1]
   simp (maxSteps:=1000000) (implicitDefEqProofs:=false) only[hv,g0,g1,h4,SBp_eq,hp,go_sem,↓reduceIte]
   refine⟨hw,?_⟩
   have hk:(s.n+1).tmod 2=0∨(s.n+1).tmod 2=1:=by rw[Int.tmod_eq_emod_of_nonneg (by omega)];omega
   obtain⟨bb1,bl1⟩:=blob_byt (kt:=kt) (i:=s.i) hw hm (ve:=s.n+1) (by omega)
   generalize (s.n+1).tmod 2=k at hk h⊢
   generalize (⟨a1,a2,a3,a4⟩:SealS).blob kt s.i (s.n+1)=bb at*
   simp (maxSteps:=1000000) (implicitDefEqProofs:=false) only[h5,SWr2_eq,go_sem,↓reduceIte]
   refine⟨s,⟨hs',hg,hk⟩,?_⟩
   have hg1:=stepS_good hg
   have at1:=at_setG (t:=(stepS s).1) hs' (stepS_like s).1.id (stepS_like s).1.c (by rw[(stepS_like s).2.1];exact hok) (by rw[(stepS_like s).2.2.1];exact⟨b0,z0⟩) (by rw[(stepS_like s).2.2.2.1];exact⟨b1,z1⟩)
   cases hk1:(stepS s).2 with
   |false=>
    rw[if_pos hk1]at h
    simp (maxSteps:=1000000) (implicitDefEqProofs:=false) only[go_sem,↓reduceIte]
    exact h
   |true=>
    rw[if_neg (by rw[hk1];simp)]at h
    have hg2:=put_good (k:=k) hg1 (by omega:bb.length≤1000) bb1
    have lk2:Like s ((stepS s).1.put k (.sli .u8 bb)):=by
     have:=put_like (stepS s).1 k (.sli .u8 bb)
     have q:=(stepS_like s).1
     exact⟨this.id.trans q.id,this.c.trans q.c,this.i.trans q.i⟩
    have n2:((stepS s).1.put k (.sli .u8 bb)).n=s.n:=by
     have:((stepS s).1.put k (.sli .u8 bb)).n=(stepS s).1.n:=by unfold VS.put;split<;>rfl
     rw[this];exact (stepS_like s).2.1
    have at2:=at_setG (t:=(stepS s).1.put k (.sli .u8 bb)) hs' lk2.id lk2.c (by rw[n2];exact hok) (let ⟨b,e,_⟩:=hg2.z0;⟨b,e⟩) (let ⟨b,e,_⟩:=hg2.z1;⟨b,e⟩)
    generalize (stepS s).1.put k (.sli .u8 bb)=s2 at*
    simp (maxSteps:=1000000) (implicitDefEqProofs:=false) only[h6,SSt2_eq,go_sem,↓reduceIte]
    refine⟨s2,⟨at2,hg2⟩,?_⟩
    have gg:setG (setG G s2) (stepS s2).1=setG G (stepS s2).1:=setG_setG (stepS_like s2).1.id (stepS_like s2).1.c (by rw[lk2.id,lk2.c];exact hne)
    rw[gg]
    have lk3:Like s (stepS s2).1:=⟨(stepS_like s2).1.id.trans lk2.id,(stepS_like s2).1.c.trans lk2.c,(stepS_like s2).1.i.trans lk2.i⟩
    have hg3:=stepS_good hg2
    have n3:(stepS s2).1.n=s.n:=(stepS_like s2).2.1.trans n2
    have at3:=at_setG (t:=(stepS s2).1) hs' lk3.id lk3.c (by rw[n3];exact hok) (let ⟨b,e,_⟩:=hg3.z0;⟨b,e⟩) (let ⟨b,e,_⟩:=hg3.z1;⟨b,e⟩)
    cases hk2:(stepS s2).2 with
    |false=>
     rw[if_pos hk2]at h
     simp (maxSteps:=1000000) (implicitDefEqProofs:=false) only[go_sem,↓reduceIte]
     exact h
    |true=>
     rw[if_neg (by rw[hk2];simp)]at h
     generalize (stepS s2).1=s3 at*
     have hv3:=at3.v
     have hc3:=at3.c
     obtain⟨c0,f0,_⟩:=hg3.z0
     obtain⟨c1,f1,_⟩:=hg3.z1
     have g03:=(by_size f0).1
     have g13:=(by_size f1).1
     rw[lk3.id]at hv3
     unfold VS.val at hv3
     rw[n3]at hc3
     simp (maxSteps:=1000000) (implicitDefEqProofs:=false) only[hv3,g03,g13,h7,S28_eq,go_sem,↓reduceIte]
     refine⟨s.n,true,⟨.inr ⟨s3.c,rfl,hc3⟩,fun _=>hok⟩,?_⟩
     have u1:upE s.n true=0:=by unfold upE;rw[if_pos rfl,if_neg (by omega)]
     have u2:upA s.n true=s.n+1:=by unfold upA;rw[if_pos rfl,if_neg (by omega)]
     rw[u1,u2]
     have e:upd (setG G s3) s3.c (CT (s.n+1) true)=setG G { s3 with n:=s.n+1 }:=by unfold setG;rw[upd_upd]
     show Q _ (upd (setG G s3) s3.c (CT (s.n+1) true))
     rw[e]
     exact h
  ·have hmay:(⟨a1,a2,a3,a4⟩:SealS).may=false:=decide_eq_false hm
   rw[if_pos hm,setG_same hs']at h
   simp (maxSteps:=1000000) (implicitDefEqProofs:=false) only[hmay,go_sem,↓reduceIte]
   exact h
theorem walk218 {x:V} {n:Int} {s:VS} (h1:Abs.look l 42=some SIs) (h2:Abs.look l 48=some SCb) (hs:s.at G x) (hg:s.good) (h:Q (.tup []) (setG G (crashS s n))):Wf E (specOf l) pf18 [x,.int .i64 n] G Q:=by
 have hs':=hs
 obtain⟨rfl,hv,hc,hne,hok,_,_⟩:=hs
 obtain⟨b0,z0,l0,y0⟩:=hg.z0
 obtain⟨b1,z1,l1,y1⟩:=hg.z1
 obtain⟨bh,zh,lh,yh⟩:=hg.h
 have eh:byB s.h=bh:=by unfold byB;rw[zh];rfl
 unfold VS.val at hv
 unfold crashS at h
 rw[eh]at h
 simp only at h
 simp (maxSteps:=1000000) (implicitDefEqProofs:=false) only[pf18,h1,SIs_eq,go_sem,↓reduceIte]
 refine⟨true,.inr ⟨s,hs',rfl⟩,?_⟩
 by_cases hz:bh.length=0
 ·obtain rfl:bh=[]:=List.eq_nil_of_length_eq_zero hz
  rw[if_pos hz,setG_one (t:={ s with h:= .nils,d:=false,a:= -1 }) hs' rfl rfl rfl]at h
  have hv2:∀z,Abs.look (upd G s.id z) s.id=some z:=fun z=>look_upd_same hv
  rcases byV_cases zh with f2|⟨f2,_⟩<;>rw[f2]at hv<;>rcases byV_cases z0 with f0|⟨f0,rfl⟩<;>rcases byV_cases z1 with f1|⟨f1,rfl⟩<;>rw[f0,f1]at hv<;>(simp only[VS.val,f0,f1]at h)<;>
   (simp (maxSteps:=1000000) (implicitDefEqProofs:=false) only[hv,hv2,upd_upd,go_sem,↓reduceIte])<;>exact h
 ·have hz':(0:Int) < bh.length:=by omega
  rw[if_neg hz]at h
  have f2:s.h= .sli .u8 bh:=by
   rcases byV_cases zh with e|⟨_,e⟩
   ·exact e
   ·rw[e]at hz;simp at hz
  rw[f2]at hv
  rcases hg.k with hk|hk
  ·rw[hk]at hv h
   rcases byV_cases z0 with f0|⟨f0,rfl⟩<;>rcases byV_cases z1 with f1|⟨f1,rfl⟩
   ·rw[f0,f1]at hv
    have eo:byB (s.slot 0)=b0:=by show byB s.s0=_;rw[f0];rfl
    rw[eo,setG_one (t:={ s.put 0 (.sli .u8 (torn (bh.take (cutN n bh.length).toNat) b0))with h:= .nils,d:=false,a:= -1 }) hs' rfl rfl rfl]at h
    have hv2:∀z,Abs.look (upd G s.id z) s.id=some z:=fun z=>look_upd_same hv
    simp (maxSteps:=1000000) (implicitDefEqProofs:=false) only[hv,hz',hk,go_sem,↓reduceIte]
    have hcn:=cutN_ok n bh.length
    unfold cutN at hcn h
    generalize (if (bh.length:Int) < (if n < 0 then 0 else n)then (bh.length:Int)else if n < 0 then 0 else n)=cc at hcn h⊢
    simp only[List.drop_zero,Int.toNat_natCast,List.take_length]
    have hpl:(bh.take cc.toNat).length≤1000:=by rw[List.length_take];omega
    generalize bh.take cc.toNat=p at h hpl⊢
    unfold torn at h
    simp only[VS.put,VS.val,if_true,reduceIte,Int.reduceEq,f0,f1,hk,List.length_nil]at h
    refine⟨hcn,two_sz rfl rfl,(by repeat' first|omega|(refine And.intro ?_ ?_)|split),?_⟩
    simp (maxSteps:=1000000) (implicitDefEqProofs:=false) only[h2,SCb_eq,hv2,upd_upd,hv,go_sem,↓reduceIte]
    refine⟨_,⟨rfl,by omega,(by first|(rw[List.length_drop];omega)|simp)⟩,two_sz rfl rfl,?_⟩
    try simp only[List.drop_nil,List.append_nil]at h
    first|exact h|(simp only[List.append_nil];exact h)
   ·rw[f0,f1]at hv
    have eo:byB (s.slot 0)=b0:=by show byB s.s0=_;rw[f0];rfl
    rw[eo,setG_one (t:={ s.put 0 (.sli .u8 (torn (bh.take (cutN n bh.length).toNat) b0))with h:= .nils,d:=false,a:= -1 }) hs' rfl rfl rfl]at h
    have hv2:∀z,Abs.look (upd G s.id z) s.id=some z:=fun z=>look_upd_same hv
    simp (maxSteps:=1000000) (implicitDefEqProofs:=false) only[hv,hz',hk,go_sem,↓reduceIte]
    have hcn:=cutN_ok n bh.length
    unfold cutN at hcn h
    generalize (if (bh.length:Int) < (if n < 0 then 0 else n)then (bh.length:Int)else if n < 0 then 0 else n)=cc at hcn h⊢
    simp only[List.drop_zero,Int.toNat_natCast,List.take_length]
    have hpl:(bh.take cc.toNat).length≤1000:=by rw[List.length_take];omega
    generalize bh.take cc.toNat=p at h hpl⊢
    unfold torn at h
    simp only[VS.put,VS.val,if_true,reduceIte,Int.reduceEq,f0,f1,hk,List.length_nil]at h
    refine⟨hcn,two_sz rfl rfl,(by repeat' first|omega|(refine And.intro ?_ ?_)|split),?_⟩
    simp (maxSteps:=1000000) (implicitDefEqProofs:=false) only[h2,SCb_eq,hv2,upd_upd,hv,go_sem,↓reduceIte]
    refine⟨_,⟨rfl,by omega,(by first|(rw[List.length_drop];omega)|simp)⟩,two_sz rfl rfl,?_⟩
    try simp only[List.drop_nil,List.append_nil]at h
    first|exact h|(simp only[List.append_nil];exact h)
   ·rw[f0,f1]at hv
    have eo:byB (s.slot 0)=([]:List Int):=by show byB s.s0=_;rw[f0];rfl
    rw[eo,setG_one (t:={ s.put 0 (.sli .u8 (torn (bh.take (cutN n bh.length).toNat) ([]:List Int)))with h:= .nils,d:=false,a:= -1 }) hs' rfl rfl rfl]at h
    have hv2:∀z,Abs.look (upd G s.id z) s.id=some z:=fun z=>look_upd_same hv
    simp (maxSteps:=1000000) (implicitDefEqProofs:=false) only[hv,hz',hk,go_sem,↓reduceIte]
    have hcn:=cutN_ok n bh.length
    unfold cutN at hcn h
    generalize (if (bh.length:Int) < (if n < 0 then 0 else n)then (bh.length:Int)else if n < 0 then 0 else n)=cc at hcn h⊢
    simp only[List.drop_zero,Int.toNat_natCast,List.take_length]
    have hpl:(bh.take cc.toNat).length≤1000:=by rw[List.length_take];omega
    generalize bh.take cc.toNat=p at h hpl⊢
    unfold torn at h
    simp only[VS.put,VS.val,if_true,reduceIte,Int.reduceEq,f0,f1,hk,List.length_nil]at h
    refine⟨hcn,two_sz rfl rfl,(by repeat' first|omega|(refine And.intro ?_ ?_)|split),?_⟩
    simp (maxSteps:=1000000) (implicitDefEqProofs:=false) only[h2,SCb_eq,hv2,upd_upd,hv,go_sem,↓reduceIte]
    refine⟨_,⟨rfl,by omega,(by first|(rw[List.length_drop];omega)|simp)⟩,two_sz rfl rfl,?_⟩
    try simp only[List.drop_nil,List.append_nil]at h
    first|exact h|(simp only[List.append_nil];exact h)
   ·rw[f0,f1]at hv
    have eo:byB (s.slot 0)=([]:List Int):=by show byB s.s0=_;rw[f0];rfl
    rw[eo,setG_one (t:={ s.put 0 (.sli .u8 (torn (bh.take (cutN n bh.length).toNat) ([]:List Int)))with h:= .nils,d:=false,a:= -1 }) hs' rfl rfl rfl]at h
    have hv2:∀z,Abs.look (upd G s.id z) s.id=some z:=fun z=>look_upd_same hv
    simp (maxSteps:=1000000) (implicitDefEqProofs:=false) only[hv,hz',hk,go_sem,↓reduceIte]
    have hcn:=cutN_ok n bh.length
    unfold cutN at hcn h
    generalize (if (bh.length:Int) < (if n < 0 then 0 else n)then (bh.length:Int)else if n < 0 then 0 else n)=cc at hcn h⊢
    simp only[List.drop_zero,Int.toNat_natCast,List.take_length]
    have hpl:(bh.take cc.toNat).length≤1000:=by rw[List.length_take];omega
    generalize bh.take cc.toNat=p at h hpl⊢
    unfold torn at h
    simp only[VS.put,VS.val,if_true,reduceIte,Int.reduceEq,f0,f1,hk,List.length_nil]at h
    refine⟨hcn,two_sz rfl rfl,(by repeat' first|omega|(refine And.intro ?_ ?_)|split),?_⟩
    simp (maxSteps:=1000000) (implicitDefEqProofs:=false) only[h2,SCb_eq,hv2,upd_upd,hv,go_sem,↓reduceIte]
    refine⟨_,⟨rfl,by omega,(by first|(rw[List.length_drop];omega)|simp)⟩,two_sz rfl rfl,?_⟩
    try simp only[List.drop_nil,List.append_nil]at h
    first|exact h|(simp only[List.append_nil];exact h)
  ·rw[hk]at hv h
   rcases byV_cases z0 with f0|⟨f0,rfl⟩<;>rcases byV_cases z1 with f1|⟨f1,rfl⟩
   ·rw[f0,f1]at hv
    have eo:byB (s.slot 1)=b1:=by show byB s.s1=_;rw[f1];rfl
    rw[eo,setG_one (t:={ s.put 1 (.sli .u8 (torn (bh.take (cutN n bh.length).toNat) b1))with h:= .nils,d:=false,a:= -1 }) hs' rfl rfl rfl]at h
    have hv2:∀z,Abs.look (upd G s.id z) s.id=some z:=fun z=>look_upd_same hv
    simp (maxSteps:=1000000) (implicitDefEqProofs:=false) only[hv,hz',hk,go_sem,↓reduceIte]
    have hcn:=cutN_ok n bh.length
    unfold cutN at hcn h
    generalize (if (bh.length:Int) < (if n < 0 then 0 else n)then (bh.length:Int)else if n < 0 then 0 else n)=cc at hcn h⊢
    simp only[List.drop_zero,Int.toNat_natCast,List.take_length]
    have hpl:(bh.take cc.toNat).length≤1000:=by rw[List.length_take];omega
    generalize bh.take cc.toNat=p at h hpl⊢
    unfold torn at h
    simp only[VS.put,VS.val,if_true,reduceIte,Int.reduceEq,f0,f1,hk,List.length_nil]at h
    refine⟨hcn,two_sz rfl rfl,(by repeat' first|omega|(refine And.intro ?_ ?_)|split),?_⟩
    simp (maxSteps:=1000000) (implicitDefEqProofs:=false) only[h2,SCb_eq,hv2,upd_upd,hv,go_sem,↓reduceIte]
    refine⟨_,⟨rfl,by omega,(by first|(rw[List.length_drop];omega)|simp)⟩,two_sz rfl rfl,?_⟩
    try simp only[List.drop_nil,List.append_nil]at h
    first|exact h|(simp only[List.append_nil];exact h)
   ·rw[f0,f1]at hv
    have eo:byB (s.slot 1)=([]:List Int):=by show byB s.s1=_;rw[f1];rfl
    rw[eo,setG_one (t:={ s.put 1 (.sli .u8 (torn (bh.take (cutN n bh.length).toNat) ([]:List Int)))with h:= .nils,d:=false,a:= -1 }) hs' rfl rfl rfl]at h
    have hv2:∀z,Abs.look (upd G s.id z) s.id=some z:=fun z=>look_upd_same hv
    simp (maxSteps:=1000000) (implicitDefEqProofs:=false) only[hv,hz',hk,go_sem,↓reduceIte]
    have hcn:=cutN_ok n bh.length
    unfold cutN at hcn h
    generalize (if (bh.length:Int) < (if n < 0 then 0 else n)then (bh.length:Int)else if n < 0 then 0 else n)=cc at hcn h⊢
    simp only[List.drop_zero,Int.toNat_natCast,List.take_length]
    have hpl:(bh.take cc.toNat).length≤1000:=by rw[List.length_take];omega
    generalize bh.take cc.toNat=p at h hpl⊢
    unfold torn at h
    simp only[VS.put,VS.val,if_true,reduceIte,Int.reduceEq,f0,f1,hk,List.length_nil]at h
    refine⟨hcn,two_sz rfl rfl,(by repeat' first|omega|(refine And.intro ?_ ?_)|split),?_⟩
    simp (maxSteps:=1000000) (implicitDefEqProofs:=false) only[h2,SCb_eq,hv2,upd_upd,hv,go_sem,↓reduceIte]
    refine⟨_,⟨rfl,by omega,(by first|(rw[List.length_drop];omega)|simp)⟩,two_sz rfl rfl,?_⟩
    try simp only[List.drop_nil,List.append_nil]at h
    first|exact h|(simp only[List.append_nil];exact h)
   ·rw[f0,f1]at hv
    have eo:byB (s.slot 1)=b1:=by show byB s.s1=_;rw[f1];rfl
    rw[eo,setG_one (t:={ s.put 1 (.sli .u8 (torn (bh.take (cutN n bh.length).toNat) b1))with h:= .nils,d:=false,a:= -1 }) hs' rfl rfl rfl]at h
    have hv2:∀z,Abs.look (upd G s.id z) s.id=some z:=fun z=>look_upd_same hv
    simp (maxSteps:=1000000) (implicitDefEqProofs:=false) only[hv,hz',hk,go_sem,↓reduceIte]
    have hcn:=cutN_ok n bh.length
    unfold cutN at hcn h
    generalize (if (bh.length:Int) < (if n < 0 then 0 else n)then (bh.length:Int)else if n < 0 then 0 else n)=cc at hcn h⊢
    simp only[List.drop_zero,Int.toNat_natCast,List.take_length]
    have hpl:(bh.take cc.toNat).length≤1000:=by rw[List.length_take];omega
    generalize bh.take cc.toNat=p at h hpl⊢
    unfold torn at h
    simp only[VS.put,VS.val,if_true,reduceIte,Int.reduceEq,f0,f1,hk,List.length_nil]at h
    refine⟨hcn,two_sz rfl rfl,(by repeat' first|omega|(refine And.intro ?_ ?_)|split),?_⟩
    simp (maxSteps:=1000000) (implicitDefEqProofs:=false) only[h2,SCb_eq,hv2,upd_upd,hv,go_sem,↓reduceIte]
    refine⟨_,⟨rfl,by omega,(by first|(rw[List.length_drop];omega)|simp)⟩,two_sz rfl rfl,?_⟩
    try simp only[List.drop_nil,List.append_nil]at h
    first|exact h|(simp only[List.append_nil];exact h)
   ·rw[f0,f1]at hv
    have eo:byB (s.slot 1)=([]:List Int):=by show byB s.s1=_;rw[f1];rfl
    rw[eo,setG_one (t:={ s.put 1 (.sli .u8 (torn (bh.take (cutN n bh.length).toNat) ([]:List Int)))with h:= .nils,d:=false,a:= -1 }) hs' rfl rfl rfl]at h
    have hv2:∀z,Abs.look (upd G s.id z) s.id=some z:=fun z=>look_upd_same hv
    simp (maxSteps:=1000000) (implicitDefEqProofs:=false) only[hv,hz',hk,go_sem,↓reduceIte]
    have hcn:=cutN_ok n bh.length
    unfold cutN at hcn h
    generalize (if (bh.length:Int) < (if n < 0 then 0 else n)then (bh.length:Int)else if n < 0 then 0 else n)=cc at hcn h⊢
    simp only[List.drop_zero,Int.toNat_natCast,List.take_length]
    have hpl:(bh.take cc.toNat).length≤1000:=by rw[List.length_take];omega
    generalize bh.take cc.toNat=p at h hpl⊢
    unfold torn at h
    simp only[VS.put,VS.val,if_true,reduceIte,Int.reduceEq,f0,f1,hk,List.length_nil]at h
    refine⟨hcn,two_sz rfl rfl,(by repeat' first|omega|(refine And.intro ?_ ?_)|split),?_⟩
    simp (maxSteps:=1000000) (implicitDefEqProofs:=false) only[h2,SCb_eq,hv2,upd_upd,hv,go_sem,↓reduceIte]
    refine⟨_,⟨rfl,by omega,(by first|(rw[List.length_drop];omega)|simp)⟩,two_sz rfl rfl,?_⟩
    try simp only[List.drop_nil,List.append_nil]at h
    first|exact h|(simp only[List.append_nil];exact h)
end Go.Proofs.YtjbglbhcbenhpaaDoor.Sha
namespace Go.Proofs.YtjbglbhcbenhpaaDoor.Sha
open Go Go.Abs Go.Abs.Sha
set_option linter.unusedSimpArgs false
set_option linter.unusedVariables false
set_option maxRecDepth 100000
def par (b:List Int) (e:Int):Prop:=b=[]∨∃x t,b=x::t∧x % 2=e % 2
theorem num_head (n:Nat):∃x t,num n=x::t∧x % 2=(n:Int) % 2:=by
 by_cases h:n < 128
 ·exact⟨n,[],num_small h,rfl⟩
 ·exact⟨_,_,num_big h,by omega⟩
theorem par_blob (kt:List Int) (i ve:Int) (x:SealS) (h:0≤ve):par (x.blob kt i ve) ve:=by
 obtain⟨y,t,e1,e2⟩:=num_head ve.toNat
 refine .inr ⟨y,?_⟩
 unfold SealS.blob SealS.said
 rw[e1]
 exact⟨_,rfl,by omega⟩
theorem par_take {b:List Int} {e:Int} (c:Nat) (h:par b e):par (b.take c) e:=by
 rcases h with rfl|⟨x,t,rfl,h⟩
 ·left;simp
 ·cases c with
  |zero=>left;rfl
  |succ c=>exact .inr ⟨x,t.take c,rfl,h⟩
theorem par_torn {p o:List Int} {e:Int} (hp:par p e) (ho:par o e):par (torn p o) e:=by
 rcases hp with rfl|⟨x,t,rfl,h⟩
 ·unfold torn
  have:(if (o.length:Int) < (([]:List Int).length:Int)then (o.length:Int)else (([]:List Int).length:Int)).toNat=0:=by
   rw[if_neg (by simp only[List.length_nil];omega)];rfl
  rw[this];exact ho
 ·exact .inr ⟨x,_,rfl,h⟩
theorem par_congr {b:List Int} {e f:Int} (h:par b e) (hf:e % 2=f % 2):par b f:=by
 rcases h with rfl|⟨x,t,rfl,h⟩
 ·exact .inl rfl
 ·exact .inr ⟨x,t,rfl,h.trans hf⟩
theorem getBlob_par {kt b:List Int} {i n:Int} (hb:Byt b) (hp:par b (n+1)) (hn:1≤n):¬((getBlob kt i b).2.2=0∧(getBlob kt i b).1=n):=by
 have key:(rdBlob (b,false)).1≠n:=by
  show (rdUpto 1099511627776 (b,false)).1≠n
  unfold rdUpto
  rw[if_neg (by simp)]
  cases e:decN (b,false).1 with
  |none=>simp only;omega
  |some q=>
   obtain⟨m,k⟩:=q
   simp only
   split
   ·simp only;omega
   ·simp only
    rintro rfl
    obtain⟨_,_,h3,_⟩:=decN_spec hb e
    obtain⟨y,t,e1,e2⟩:=num_head m
    rw[e1]at h3
    rcases hp with h0|⟨x,u,h0,h1⟩
    ·rw[h0]at h3;cases h3
    ·have h3':(b:List Int)=y::(t++b.drop k):=h3
     rw[h0]at h3'
     injection h3' with h4 h5
     omega
 unfold getBlob
 simp only
 split
 ·simp
 ·split
  ·simp
  ·rintro⟨_,h⟩;exact key h
structure KInv (kt:List Int) (s:VS) (q:SealS):Prop where
 wf:q.wf
 may:q.May
 n0:0≤s.n
 z:s.n=0→q= .zero∧byB s.s0=[]
 own:s.n≠0→byB (s.slot (s.n.tmod 2))=q.blob kt s.i s.n
 oth:par (byB (s.slot ((s.n+1).tmod 2))) (s.n+1)
 hf:par (byB s.h) (s.n+1)
 hk:byB s.h≠[]→s.k=(s.n+1).tmod 2
 al:s.d=false→byB s.h=[]
theorem two_par {n:Int} (h:0≤n):(n.tmod 2=0∧(n+1).tmod 2=1∧n % 2=0)∨(n.tmod 2=1∧(n+1).tmod 2=0∧n % 2=1):=by
 rw[Int.tmod_eq_emod_of_nonneg h,Int.tmod_eq_emod_of_nonneg (by omega)];omega
theorem KInv.load {kt:List Int} {s:VS} {q:SealS} (h:KInv kt s q) (hi:1≤s.i∧s.i≤21) (hn:s.n≤1099511627776) (y0:Byt (byB s.s0)) (y1:Byt (byB s.s1)):loadV kt s.i s.n (byB s.s0) (byB s.s1)=(q,0):=by
 unfold loadV
 by_cases hz:s.n=0
 ·rw[if_pos hz,(h.z hz).1]
 ·rw[if_neg hz]
  have hn0:=h.n0
  have ow:=h.own hz
  have gb:=getBlob_of (kt:=kt) (i:=s.i) (ve:=s.n) h.wf h.may hi (by omega)
  have ot:=h.oth
  rcases two_par h.n0 with⟨e1,e2,_⟩|⟨e1,e2,_⟩
  ·rw[e1]at ow
   have ow:byB s.s0=q.blob kt s.i s.n:=ow
   rw[ow,gb,if_pos ⟨rfl,rfl⟩]
  ·rw[e1]at ow
   rw[e2]at ot
   have ow:byB s.s1=q.blob kt s.i s.n:=ow
   have ot:par (byB s.s0) (s.n+1):=ot
   rw[if_neg (getBlob_par y0 ot (by omega)),ow,gb,if_pos ⟨rfl,rfl⟩]
theorem KInv.arm {kt:List Int} {s:VS} {q:SealS} (h:KInv kt s q) (m:Int):KInv kt { s with a:=m } q:=⟨h.wf,h.may,h.n0,h.z,h.own,h.oth,h.hf,h.hk,h.al⟩
theorem slot_put_same (s:VS) {k:Int} (y:V):(s.put k y).slot k=y:=by
 unfold VS.put VS.slot;split<;>rfl
theorem KInv.crash {kt:List Int} {s:VS} {q:SealS} (h:KInv kt s q) (m:Int):KInv kt (crashS s m) q:=by
 unfold crashS
 by_cases hz:(byB s.h).length=0
 ·rw[if_pos hz]
  exact⟨h.wf,h.may,h.n0,h.z,h.own,h.oth,.inl rfl,fun c=>absurd rfl c,fun _=>rfl⟩
 ·rw[if_neg hz]
  have hk:=h.hk (fun c=>hz (by rw[c];rfl))
  have ho:=h.oth
  have hp:=par_torn (par_take (cutN m (byB s.h).length).toNat h.hf) ho
  rw[←hk]at ho hp
  generalize torn ((byB s.h).take (cutN m (byB s.h).length).toNat) (byB (s.slot s.k))=b at*
  have hn0:=h.n0
  rcases two_par h.n0 with⟨e1,e2,_⟩|⟨e1,e2,_⟩
  ·rw[e2]at hk
   refine⟨h.wf,h.may,?_,?_,?_,?_,.inl rfl,fun c=>absurd rfl c,fun _=>rfl⟩<;>rw[hk]<;>simp only[VS.put,Int.reduceEq,if_false]
   ·exact h.n0
   ·exact h.z
   ·intro c;rw[e1];have:=h.own c;rw[e1]at this;exact this
   ·rw[e2];exact hp
  ·rw[e2]at hk
   refine⟨h.wf,h.may,?_,?_,?_,?_,.inl rfl,fun c=>absurd rfl c,fun _=>rfl⟩<;>rw[hk]<;>simp only[VS.put,if_true]
   ·exact h.n0
   ·intro c;omega
   ·intro c;rw[e1];have:=h.own c;rw[e1]at this;exact this
   ·rw[e2];exact hp
theorem stepS_dead {s:VS} (h:(stepS s).2=false):(stepS s).1.d=true:=by
 unfold stepS at h⊢
 split
 ·rfl
 ·rename_i c;rw[if_neg c]at h
  split at h<;>cases h
theorem stepS_alive {s:VS} (h:(stepS s).2=true):(stepS s).1.d=s.d:=by
 unfold stepS at h⊢
 split
 ·rename_i c;rw[if_pos c]at h;cases h
 ·split<;>rfl
theorem slot_eq {s t:VS} (h0:t.s0=s.s0) (h1:t.s1=s.s1) (k:Int):t.slot k=s.slot k:=by unfold VS.slot;rw[h0,h1]
theorem KInv.keep {kt:List Int} {s:VS} {q x:SealS} (h:KInv kt s q) (hw:x.wf):KInv kt (keepS kt s x).1 (if (keepS kt s x).2=0 then x else q)∧((keepS kt s x).2=0∨(keepS kt s x).2=1∨(keepS kt s x).2=6)∧(keepS kt s x).1.n≤s.n+1∧Like s (keepS kt s x).1:=by
 unfold keepS
 by_cases hd:s.d=true
 ·rw[if_pos hd];exact⟨by rw[if_neg (show ¬(6:Int)=0 by decide)];exact h,.inr (.inr rfl),(by show s.n≤s.n+1;omega),Like.refl s⟩
 rw[if_neg hd]
 have hd':s.d=false:=by simpa using hd
 by_cases hm:x.May
 ·rw[if_neg (fun c=>c hm)]
  obtain⟨l1,p1,p2,p3,p4,p5⟩:=stepS_like s
  have hn0:=h.n0
  have hb:=par_blob kt s.i (s.n+1) x (by omega)
  cases k1:(stepS s).2 with
  |false=>
   rw[if_pos rfl]
   refine⟨?_,.inr (.inr rfl),by show (stepS s).1.n≤_;omega,⟨l1.id,l1.c,l1.i⟩⟩
   rw[if_neg (show ¬(6:Int)=0 by decide)]
   have sl:∀k,VS.slot { (stepS s).1 with h:= .sli .u8 (x.blob kt s.i (s.n+1)),k:=(s.n+1).tmod 2 } k=s.slot k:=slot_eq p2 p3
   refine⟨h.wf,h.may,?_,?_,?_,?_,?_,?_,?_⟩
   ·show 0≤(stepS s).1.n;omega
   ·show (stepS s).1.n=0→_∧byB (stepS s).1.s0=[];rw[p1,p2];exact h.z
   ·show (stepS s).1.n≠0→byB (VS.slot _ ((stepS s).1.n.tmod 2))=q.blob kt (stepS s).1.i (stepS s).1.n;rw[sl,p1,l1.i];exact h.own
   ·show par (byB (VS.slot _ (((stepS s).1.n+1).tmod 2))) ((stepS s).1.n+1);rw[sl,p1];exact h.oth
   ·show par (x.blob kt s.i (s.n+1)) ((stepS s).1.n+1);rw[p1];exact hb
   ·intro _;show (s.n+1).tmod 2=((stepS s).1.n+1).tmod 2;rw[p1]
   ·intro c;have:=stepS_dead k1;have c:(stepS s).1.d=false:=c;rw[this]at c;cases c
  |true=>
   rw[if_neg (by simp)]
   generalize hbb:x.blob kt s.i (s.n+1)=bb at hb⊢
   have d1:=(stepS_alive k1).trans hd'
   generalize (stepS s).1=s1 at*
   obtain⟨m1,q1,q2,q3,q4,q5⟩:=stepS_like (s1.put ((s.n+1).tmod 2) (.sli .u8 bb))
   have hh:byB s.h=[]:=h.al hd'
   have own':s.n≠0→byB ((s1.put ((s.n+1).tmod 2) (.sli .u8 bb)).slot (s.n.tmod 2))=q.blob kt s.i s.n:=by
    intro c
    have:=h.own c
    rcases two_par h.n0 with⟨e1,e2,_⟩|⟨e1,e2,_⟩
    ·rw[e1,e2];rw[e1]at this;show byB s1.s0=_;rw[p2];exact this
    ·rw[e1,e2];rw[e1]at this;show byB s1.s1=_;rw[p3];exact this
   have z':s.n=0→byB (s1.put ((s.n+1).tmod 2) (.sli .u8 bb)).s0=[]:=by
    intro c
    rw[c];show byB s1.s0=[];rw[p2];exact (h.z c).2
   have pn:(s1.put ((s.n+1).tmod 2) (.sli .u8 bb)).n=s.n:=by rw[←p1];unfold VS.put;split<;>rfl
   have ph:(s1.put ((s.n+1).tmod 2) (.sli .u8 bb)).h=s.h:=by rw[←p4];unfold VS.put;split<;>rfl
   have lk:=put_like s1 ((s.n+1).tmod 2) (.sli .u8 bb)
   have ss:=slot_put_same s1 (k:=(s.n+1).tmod 2) (.sli .u8 bb)
   generalize s1.put ((s.n+1).tmod 2) (.sli .u8 bb)=s2 at*
   have sl:∀k,(stepS s2).1.slot k=s2.slot k:=slot_eq q2 q3
   have lk3:Like s (stepS s2).1:=⟨m1.id.trans (lk.id.trans l1.id),m1.c.trans (lk.c.trans l1.c),m1.i.trans (lk.i.trans l1.i)⟩
   have n3:(stepS s2).1.n=s.n:=q1.trans pn
   have h3:byB (stepS s2).1.h=[]:=by rw[q4,ph];exact hh
   cases k2:(stepS s2).2 with
   |false=>
    rw[if_pos rfl]
    refine⟨?_,.inr (.inr rfl),by show (stepS s2).1.n≤_;omega,lk3⟩
    rw[if_neg (show ¬(6:Int)=0 by decide)]
    refine⟨h.wf,h.may,by show 0≤(stepS s2).1.n;omega,?_,?_,?_,.inl h3,fun c=>absurd h3 c,fun _=>h3⟩
    ·rw[n3,q2];exact fun c=>⟨(h.z c).1,z' c⟩
    ·rw[n3,sl,lk3.i];exact own'
    ·rw[n3,sl,ss];exact hb
   |true=>
    rw[if_neg (by simp)]
    refine⟨?_,.inl rfl,Int.le_refl _,⟨lk3.id,lk3.c,lk3.i⟩⟩
    rw[if_pos rfl]
    have sl4:∀k,VS.slot { (stepS s2).1 with n:=s.n+1 } k=s2.slot k:=fun k=>(slot_eq rfl rfl k).trans (sl k)
    refine⟨hw,hm,by show 0≤s.n+1;omega,?_,?_,?_,.inl h3,fun c=>absurd h3 c,fun _=>h3⟩
    ·intro c;have c:s.n+1=0:=c;omega
    ·intro _;rw[sl4];show byB (s2.slot ((s.n+1).tmod 2))=x.blob kt (stepS s2).1.i (s.n+1);rw[ss,lk3.i,hbb];rfl
    ·rw[sl4];show par (byB (s2.slot ((s.n+1+1).tmod 2))) (s.n+1+1)
     have e0:(s.n+1+1).tmod 2=s.n.tmod 2:=by rw[Int.tmod_eq_emod_of_nonneg h.n0,Int.tmod_eq_emod_of_nonneg (by omega)];omega
     rw[e0]
     by_cases c:s.n=0
     ·rw[c];left;exact z' c
     ·rw[own' c];exact par_congr (par_blob kt s.i s.n q h.n0) (by omega)
 ·rw[if_pos hm];exact⟨by rw[if_neg (show ¬(1:Int)=0 by decide)];exact h,.inr (.inl rfl),(by show s.n≤s.n+1;omega),Like.refl s⟩
end Go.Proofs.YtjbglbhcbenhpaaDoor.Sha
