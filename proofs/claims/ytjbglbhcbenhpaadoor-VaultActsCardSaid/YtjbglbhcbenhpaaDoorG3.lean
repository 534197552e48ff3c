/- Laws over plain values, and what functions of the program hand back; no conditions. -/
import Derived.Test.YtjbglbhcbenhpaaDoorG2
import Derived.Test.YtjbglbhcbenhpaaDoorG1
import Derived.Test.YtjbglbhcbenhpaaDoorPlain6
namespace Go.Proofs.YtjbglbhcbenhpaaDoor.Sha
open Go Go.Abs Go.Abs.Sha
set_option linter.unusedSimpArgs false
set_option linter.unusedVariables false
set_option maxRecDepth 100000
def pf37:PF:=
 PF.mk 1 3 9 ((PC.reg [nn (.v 2) (.mv true (.c (.v (.bool false))))]).seq ((PC.reg [mm 3 0,nn (.t 4) (.bin .geq (.t 3) (.c (.v (.int .i64 1)))),nn (.t
  5) (.mv false (.t 4)),gm 6 0 5 true,⟨.t 7,.bin .leq (.t 6) (.c (.v (.int .i64 21))),some (.t 5,true)⟩,nn (.t 8) (.pick (.t 5) (.t 7) (.c (.v
  (.bool false)))),ma 2 8]).seq PC.ret)) [(.v 2,none)]
def pf104:PF:=
 PF.mk 1 3 14 ((PC.reg [nn (.v 2) (.alloc (.arr .u8 32 [0,0,0,0,0,0,0,0,0,0,0,0,0,0,0,0,0,0,0,0,0,0,0,0,0,0,0,0,0,0,0,
  0]))]).seq (((PC.reg [mm 3 0,nn (.t 4) (.call 37 [.t 3]),nn (.t 5) (.un .not (.t 4))]).seq (PC.cond (.t 5) ((PC.reg [nn (.t 6) (.build (.arr .u8 32
  [0,0,0,0,0,0,0,0,0,0,0,0,0,0,0,0,0,0,0,0,0,0,0,0,0,0,0,0,0,0,0,0]) []),nn .no (.store 32 (.v 2) (.t 6))]).seq PC.ret)
  PC.skip)).seq ((PC.reg [nn (.t 7) (.buildR (some .u8) 1 (.int .u8 0) 12 [(0,.c (.v (.int .u8 116))),(1,.c (.v (.int .u8 105))),(2,.c (.v (.int
  .u8 116))),(3,.c (.v (.int .u8 104))),(4,.c (.v (.int .u8 105))),(5,.c (.v (.int .u8 110))),(6,.c (.v (.int .u8 103))),(7,.c (.v (.int .u8
  32))),(8,.c (.v (.int .u8 107))),(9,.c (.v (.int .u8 101))),(10,.c (.v (.int .u8 121))),(11,.c (.v (.int .u8 32)))]),nn (.t 8) (.cvt (.t
  7)),mm 9 0,nn (.t 10) (.conv .u8 (.t 9)),nn (.t 11) (.buildS (some .u8) 1 (.int .u8 0) 1 [(0,.t 10)]),nn (.t 12) (.buildS none 1 .nils 2 [(0,.t
  8),(1,.t 11)]),nn (.t 13) (.call 123 [.t 12]),nn .no (.store 32 (.v 2) (.t 13))]).seq PC.ret))) [(.v 2,some (32,true))]
def pf62:PF:=
 PF.mk 3 8 22 ((PC.reg [nn (.v 6) (.alloc (.arr .u8 32 [0,0,0,0,0,0,0,0,0,0,0,0,0,0,0,0,0,0,0,0,0,0,0,0,0,0,0,0,0,0,0,
  0]))]).seq (((PC.reg [mm 8 0,nn (.t 9) (.call 37 [.t 8]),nn (.t 10) (.un .not (.t 9))]).seq (PC.cond (.t 10) ((PC.reg [nn (.t 11) (.build (.arr .u8
  32 [0,0,0,0,0,0,0,0,0,0,0,0,0,0,0,0,0,0,0,0,0,0,0,0,0,0,0,0,0,0,0,0]) []),nn .no (.store 32 (.v 6) (.t 11))]).seq
  PC.ret) PC.skip)).seq ((PC.reg [mm 12 0,nn (.t 13) (.call 104 [.t 12]),nn (.v 7) (.alloc (.arr .u8 32 [0,0,0,0,0,0,0,0,0,0,0,0,0,0,0,
  0,0,0,0,0,0,0,0,0,0,0,0,0,0,0,0,0])),nn .no (.store 32 (.v 7) (.t 13))]).seq ((PC.regD 0 [nn (.t 14) (.slcA 32 false (.v 7) none
  none none),mm 15 1,nn (.t 16) (.buildS (some .u8) 1 (.int .u8 0) 1 [(0,.t 15)]),nn (.t 17) (.buildS none 1 .nils 1 [(0,.t 16)]),mm 18 2,nn (.t
  19) (.buildS none 1 .nils 2 [(0,.t 17),(1,.t 18)]),nn (.t 20) (.call 106 [.t 19]),nn (.t 21) (.call 105 [.t 14,.t 20]),nn .no (.store 32 (.v
  6) (.t 21))] [(0,6)]).seq PC.ret)))) [(.v 6,some (32,true))]
def pf68:PF:=
 PF.mk 4 9 19 ((PC.reg [nn (.v 6) (.box (.v 2)),nn (.v 8) (.mv true (.c (.v (.bool false))))]).seq ((PC.regD 0 [mm 9 0,nn (.t 10) (.call 37 [.t 9]),
  nn (.t 11) (.mv false (.t 10)),⟨.t 12,.load 32 true (.v 6),some (.t 11,true)⟩,gm 13 0 11 true,gm 14 1 11 true,gm 15 3 11 true,⟨.t 16,.call
  62 [.t 13,.t 14,.t 15],some (.t 11,true)⟩,⟨.t 17,.call 111 [.t 12,.t 16],some (.t 11,true)⟩,nn (.t 18) (.pick (.t 11) (.t 17) (.c (.v
  (.bool false)))),ma 8 18] []).seq PC.ret)) [(.v 8,none)]
def pf120:PF:=
 PF.mk 1 3 17 ((PC.reg [nn (.v 2) (.alloc (.arr .u8 32 [0,0,0,0,0,0,0,0,0,0,0,0,0,0,0,0,0,0,0,0,0,0,0,0,0,0,0,0,0,0,0,
  0]))]).seq (((PC.reg [mm 3 0,nn (.t 4) (.bin .lss (.t 3) (.c (.v (.int .i64 1)))),nn (.t 5) (.mv false (.t 4)),gm 6 0 5 false,⟨.t 7,.bin .gtr
  (.t 6) (.c (.v (.int .i64 21))),some (.t 5,false)⟩,nn (.t 8) (.pick (.t 5) (.c (.v (.bool true))) (.t 7))]).seq (PC.cond (.t 8) ((PC.reg [nn (.t
  9) (.build (.arr .u8 32 [0,0,0,0,0,0,0,0,0,0,0,0,0,0,0,0,0,0,0,0,0,0,0,0,0,0,0,0,0,0,0,0]) []),nn .no (.store 32 (.v
  2) (.t 9))]).seq PC.ret) PC.skip)).seq ((PC.reg [nn (.t 10) (.buildR (some .u8) 1 (.int .u8 0) 12 [(0,.c (.v (.int .u8 116))),(1,.c (.v (.int .u8
  105))),(2,.c (.v (.int .u8 116))),(3,.c (.v (.int .u8 104))),(4,.c (.v (.int .u8 105))),(5,.c (.v (.int .u8 110))),(6,.c (.v (.int .u8
  103))),(7,.c (.v (.int .u8 32))),(8,.c (.v (.int .u8 107))),(9,.c (.v (.int .u8 101))),(10,.c (.v (.int .u8 121))),(11,.c (.v (.int .u8
  32)))]),nn (.t 11) (.cvt (.t 10)),mm 12 0,nn (.t 13) (.conv .u8 (.t 12)),nn (.t 14) (.buildS (some .u8) 1 (.int .u8 0) 1 [(0,.t 13)]),nn (.t
  15) (.app (some .u8) 1 1 (.t 11) (.t 14)),nn (.t 16) (.call 131 [.t 15]),nn .no (.store 32 (.v 2) (.t 16))]).seq PC.ret))) [(.v 2,some (32,
  true))]
def lp97_0:PC:=
 ((PC.reg [mm 20 9,nn (.t 21) (.bin .lss (.t 20) (.c (.v (.int .i64 32))))]).seq (PC.cond (.t 21) PC.skip (PC.exit 0))).seq ((PC.block 1 (PC.reg [nn
  (.t 24) (.mv true (.v 8)),mm 25 9,nn (.t 26) (.iadrA 32 (.v 7) (.t 25)),nn (.t 27) (.load 1 false (.t 26)),nn (.t 28) (.buildS (some .u8) 1 (.int
  .u8 0) 1 [(0,.t 27)]),nn (.t 29) (.app (some .u8) 1 1 (.t 24) (.t 28)),ma 8 29])).seq (PC.reg [mm 22 9,nn (.t 23) (.bin .add (.t 22) (.c (.v
  (.int .i64 1)))),ma 9 23]))
def pf97:PF:=
 PF.mk 3 10 36 ((PC.reg [nn (.v 6) (.alloc (.arr .u8 32 [0,0,0,0,0,0,0,0,0,0,0,0,0,0,0,0,0,0,0,0,0,0,0,0,0,0,0,0,0,0,0,
  0]))]).seq (((PC.reg [mm 10 0,nn (.t 11) (.bin .lss (.t 10) (.c (.v (.int .i64 1)))),nn (.t 12) (.mv false (.t 11)),gm 13 0 12 false,⟨.t 14,.bin
  .gtr (.t 13) (.c (.v (.int .i64 21))),some (.t 12,false)⟩,nn (.t 15) (.pick (.t 12) (.c (.v (.bool true))) (.t 14))]).seq (PC.cond (.t 15)
  ((PC.reg [nn (.t 16) (.build (.arr .u8 32 [0,0,0,0,0,0,0,0,0,0,0,0,0,0,0,0,0,0,0,0,0,0,0,0,0,0,0,0,0,0,0,0]) []),nn
  .no (.store 32 (.v 6) (.t 16))]).seq PC.ret) PC.skip)).seq ((PC.reg [mm 17 0,nn (.t 18) (.call 120 [.t 17]),nn (.v 7) (.alloc (.arr .u8 32 [0,0,
  0,0,0,0,0,0,0,0,0,0,0,0,0,0,0,0,0,0,0,0,0,0,0,0,0,0,0,0,0,0])),nn .no (.store 32 (.v 7) (.t 18))]).seq ((PC.reg [nn (.t
  19) (.buildS (some .u8) 1 (.int .u8 0) 0 []),ma 8 19]).seq (((PC.reg [nn (.v 9) (.mv true (.c (.v (.int .i64 0))))]).seq (PC.block 0 (PC.loop [1,2,
  6,7,8,9] lp97_0))).seq ((PC.reg [mm 30 8,mm 31 1,nn (.t 32) (.buildS (some .u8) 1 (.int .u8 0) 1 [(0,.t 31)]),mm 33 2,nn (.t 34) (.app (some
  .u8) 1 1 (.t 32) (.t 33)),nn (.t 35) (.call 121 [.t 30,.t 34]),nn .no (.store 32 (.v 6) (.t 35))]).seq PC.ret)))))) [(.v 6,some (32,true))]
attribute [local irreducible] W Wops WopsD WL Wop WopD
variable {E:Env} {C:Abs.Spec} {l:List (Nat×Spec1)} {G:List (Nat×V)} {Q:R→List (Nat×V)→Prop}
set_option maxHeartbeats 1000000
def SNo:Spec1
 |[.int .i64 n],G,Q=>Q (.v (.bool (decide (1≤n∧n≤21)))) G
 |_,_,_=>False
theorem SNo_eq {n}:SNo [.int .i64 n] G Q=(Q (.v (.bool (decide (1≤n∧n≤21)))) G):=rfl
def SKe (kt:List Int):Spec1
 |[.int .i64 n],G,Q=>Q (.v (.arr .u8 32 (keyH kt n))) G
 |_,_,_=>False
theorem SKe_eq {kt n}:SKe kt [.int .i64 n] G Q=(Q (.v (.arr .u8 32 (keyH kt n))) G):=rfl
def STa (kt:List Int):Spec1
 |[.int .i64 n,.int .u8 d,y],G,Q=>∃c r,((0≤d∧d≤255)∧rowV y=some r∧r.length < 10000000000∧catL r=some c∧Byt c∧c.length < 1000000000000)∧Q (.v (.arr .u8 32 (tagH kt n d c))) G
 |_,_,_=>False
theorem STa_eq {kt n d y}:STa kt [.int .i64 n,.int .u8 d,y] G Q=(∃c r,((0≤d∧d≤255)∧rowV y=some r∧r.length < 10000000000∧catL r=some c∧Byt c∧c.length < 1000000000000)∧Q (.v (.arr .u8 32 (tagH kt n d c))) G):=rfl
def STr (kt:List Int):Spec1
 |[.int .i64 n,.int .u8 d,y],G,Q=>∃c,((0≤d∧d≤255)∧byV y=some c∧Byt c∧c.length < 1000000000000)∧Q (.v (.arr .u8 32 (tagH kt n d c))) G
 |_,_,_=>False
theorem STr_eq {kt n d y}:STr kt [.int .i64 n,.int .u8 d,y] G Q=(∃c,((0≤d∧d≤255)∧byV y=some c∧Byt c∧c.length < 1000000000000)∧Q (.v (.arr .u8 32 (tagH kt n d c))) G):=rfl
def SCh (kt:List Int):Spec1
 |[.int .i64 n,.int .u8 d,.arr .u8 32 t,y],G,Q=>∃c r,(((0≤d∧d≤255)∧Byt t∧t.length=32)∧rowV y=some r∧r.length < 10000000000∧catL r=some c∧Byt c∧c.length < 1000000000000)∧Q (.v (.bool (decide (1≤n∧n≤21)&&decide (t=tagH kt n d c)))) G
 |_,_,_=>False
theorem SCh_eq {kt n d t y}:SCh kt [.int .i64 n,.int .u8 d,.arr .u8 32 t,y] G Q=(∃c r,(((0≤d∧d≤255)∧Byt t∧t.length=32)∧rowV y=some r∧r.length < 10000000000∧catL r=some c∧Byt c∧c.length < 1000000000000)∧Q (.v (.bool (decide (1≤n∧n≤21)&&decide (t=tagH kt n d c)))) G):=rfl
theorem walk37 {n:Int} (h:Q (.v (.bool (decide (1≤n∧n≤21)))) G):Wf E C pf37 [.int .i64 n] G Q:=by
 by_cases h1:1≤n<;>by_cases h2:n≤21
 all_goals
  simp (maxSteps:=1000000) (implicitDefEqProofs:=false) only[pf37,h1,h2,go_sem,↓reduceIte]
  try (exact finB h (by simp[h1,h2]))
theorem walk104 {kt:List Int} {n:Int} (h36:Abs.look l 37=some SNo) (h64:Abs.look l 123=some (SOf kt)) (h:Q (.v (.arr .u8 32 (keyH kt n))) G):Wf E (specOf l) pf104 [.int .i64 n] G Q:=by
 have hp:partsV (.sle 1 [V.sli .u8 [116,105,116,104,105,110,103,32,107,101,121,32],V.sli .u8 [IntKind.u8.wrap n]])=some (seedB n):=by simp[partsV,catL,byV,seedB]
 by_cases h1:1≤n∧n≤21
 ·simp (maxSteps:=1000000) (implicitDefEqProofs:=false) only[pf104,h36,SNo_eq,h1,h64,SOf_eq,go_sem,↓reduceIte]
  refine⟨_,⟨hp,byt_seed n,by simp[seedB]⟩,?_⟩
  unfold keyH at h;rw[if_pos h1]at h
  exact h
 ·simp (maxSteps:=1000000) (implicitDefEqProofs:=false) only[pf104,h36,SNo_eq,h1,go_sem,↓reduceIte]
  unfold keyH at h;rw[if_neg h1]at h
  exact h
theorem walk120 {kt:List Int} {n:Int} (h69:Abs.look l 131=some (SRf kt)) (h:Q (.v (.arr .u8 32 (keyH kt n))) G):Wf E (specOf l) pf120 [.int .i64 n] G Q:=by
 have hp:byV (V.sli .u8 [116,105,116,104,105,110,103,32,107,101,121,32,IntKind.u8.wrap n])=some (seedB n):=rfl
 by_cases h1:n < 1
 ·simp (maxSteps:=1000000) (implicitDefEqProofs:=false) only[pf120,h1,go_sem,↓reduceIte]
  unfold keyH at h;rw[if_neg (by omega)]at h
  exact h
 ·by_cases h2:21 < n
  ·simp (maxSteps:=1000000) (implicitDefEqProofs:=false) only[pf120,h1,h2,go_sem,↓reduceIte]
   unfold keyH at h;rw[if_neg (by omega)]at h
   exact h
  ·simp (maxSteps:=1000000) (implicitDefEqProofs:=false) only[pf120,h1,h2,h69,SRf_eq,go_sem,↓reduceIte]
   refine⟨_,⟨hp,byt_seed n,by simp[seedB]⟩,?_⟩
   unfold keyH at h;rw[if_pos (by omega)]at h
   exact h
theorem walk62 {kt c:List Int} {n d:Int} {y:V} {r:List V} (h36:Abs.look l 37=some SNo) (h54:Abs.look l 104=some (SKe kt)) (h56:Abs.look l 106=some SCc) (h55:Abs.look l 105=some (SMa kt))
  (hd:0≤d∧d≤255) (hy:rowV y=some r) (hr:r.length < 10000000000) (hc:catL r=some c) (hcy:Byt c) (hcl:c.length < 1000000000000) (h:Q (.v (.arr .u8 32 (tagH kt n d c))) G):Wf E (specOf l) pf62 [.int .i64 n,.int .u8 d,y] G Q:=by
 by_cases h1:1≤n∧n≤21
 ·have hkt:(keyH kt n).take 32=keyH kt n:=List.take_of_length_le (by rw[keyH_len];omega)
  have hcat:catL ([V.sli .u8 [d]]++r)=some ([d]++c):=catL_mk rfl hc
  have hp:catP [.sle 1 [V.sli .u8 [d]],y]=some ([V.sli .u8 [d]]++r):=by
   have:=catP_mk (x:= .sle 1 [V.sli .u8 [d]]) rfl (catP_mk hy (show catP []=some []from rfl))
   simpa using this
  unfold tagH at h;rw[if_pos h1]at h
  rcases rowV_cases hy with rfl|⟨rfl,rfl⟩
  all_goals
   simp (maxSteps:=1000000) (implicitDefEqProofs:=false) only[pf62,h36,SNo_eq,h1,h54,SKe_eq,h56,SCc_eq,h55,SMa_eq,hkt,List.drop_zero,go_sem,↓reduceIte]
   refine⟨_,⟨hp,by simp,by simp;try omega⟩,_,_,_,⟨rfl,byt_keyH _ _,by rw[keyH_len];omega,rfl,by simp;try omega,hcat,byt_app (byt_cons hd byt_nil) hcy,by simp;try omega⟩,?_⟩
   exact h
 ·simp (maxSteps:=1000000) (implicitDefEqProofs:=false) only[pf62,h36,SNo_eq,h1,go_sem,↓reduceIte]
  unfold tagH at h;rw[if_neg h1]at h
  exact h
theorem walk68 {kt c t:List Int} {n d:Int} {y:V} {r:List V} (h36:Abs.look l 37=some SNo) (h34:Abs.look l 62=some (STa kt)) (h57:Abs.look l 111=some SSa)
  (hd:0≤d∧d≤255) (ht:Byt t∧t.length=32) (hy:rowV y=some r) (hr:r.length < 10000000000) (hc:catL r=some c) (hcy:Byt c) (hcl:c.length < 1000000000000) (h:Q (.v (.bool (decide (1≤n∧n≤21)&&decide (t=tagH kt n d c)))) G):Wf E (specOf l) pf68 [.int .i64 n,.int .u8 d,.arr .u8 32 t,y] G Q:=by
 by_cases h1:1≤n∧n≤21
 ·have hz:decide (1≤n∧n≤21)=true:=decide_eq_true h1
  rw[hz,Bool.true_and]at h
  rcases rowV_cases hy with rfl|⟨rfl,rfl⟩
  all_goals
   simp (maxSteps:=1000000) (implicitDefEqProofs:=false) only[pf68,h36,SNo_eq,h1,h34,STa_eq,h57,SSa_eq,go_sem,↓reduceIte]
   refine⟨_,_,⟨hd,rfl,hr,hc,hcy,hcl⟩,⟨ht,byt_tagH _ _ _ _,tagH_len _ _ _ _⟩,?_⟩
   exact h
 ·simp (maxSteps:=1000000) (implicitDefEqProofs:=false) only[pf68,h36,SNo_eq,h1,go_sem,↓reduceIte]
  have hz:decide (1≤n∧n≤21)=false:=decide_eq_false h1
  rw[hz,Bool.false_and]at h
  exact h
theorem loop97 {y:V} {d:Int} {hh:List Int} {z0:Bx} {QQ:Ex→St→Prop} (hl:hh.length=32)
  (hx:∀ts,QQ (.exit 0) ⟨[none,some (.v (.int .u8 d)),some (.v y),none,none,none,some (.lp 0 []),some (.lp 1 []),some (.own (.sli .u8 hh)),some (.v (.int .i64 32))],ts,[z0,⟨false,.arr .u8 32 hh⟩],G⟩):
  ∀(m i:Nat),i+m=32→WL (W E C lp97_0) [1,2,6,7,8,9] QQ (m+1) ⟨[none,some (.v (.int .u8 d)),some (.v y),none,none,none,some (.lp 0 []),some (.lp 1 []),some (.own (.sli .u8 (hh.take i))),some (.v (.int .i64 i))],[],[z0,⟨false,.arr .u8 32 hh⟩],G⟩:=by
 intro m
 induction m with
 |zero=>
  intro i hi
  obtain rfl:i=32:=by omega
  rw[List.take_of_length_le (by omega)]
  refine WL_in lp97_0.eq_1 ?_
  simp (maxSteps:=1000000) (implicitDefEqProofs:=false) only[go_sem,↓reduceIte]
  exact hx _
 |succ m ih=>
  intro i hi
  have hi32:i < 32:=by omega
  have hlt:(i:Int) < 32:=by omega
  have ew:IntKind.i64.wrap ((i:Int)+1)=((i+1:Nat):Int):=by rw[w64 (by omega) (by omega)];simp
  have ihh:=ih (i+1) (by omega)
  have l1:(hh.take i).length=i:=by rw[List.length_take];omega
  rw[←snoc_step' (by omega:i < hh.length)]at ihh
  generalize hh.take i=u at*
  refine WL_in lp97_0.eq_1 ?_
  simp (maxSteps:=1000000) (implicitDefEqProofs:=false) only[hlt,hi32,ew,Int.toNat_natCast,go_sem,↓reduceIte]
  exact⟨by omega,by omega,ihh⟩
theorem walk97 {kt c:List Int} {n d:Int} {y:V} (h62:Abs.look l 120=some (SKe kt)) (h63:Abs.look l 121=some (SMr kt))
  (hd:0≤d∧d≤255) (hy:byV y=some c) (hcy:Byt c) (hcl:c.length < 1000000000000) (h:Q (.v (.arr .u8 32 (tagH kt n d c))) G):Wf E (specOf l) pf97 [.int .i64 n,.int .u8 d,y] G Q:=by
 by_cases h1:n < 1
 ·simp (maxSteps:=1000000) (implicitDefEqProofs:=false) only[pf97,h1,go_sem,↓reduceIte]
  unfold tagH at h;rw[if_neg (by omega)]at h
  exact h
 ·by_cases h2:21 < n
  ·simp (maxSteps:=1000000) (implicitDefEqProofs:=false) only[pf97,h1,h2,go_sem,↓reduceIte]
   unfold tagH at h;rw[if_neg (by omega)]at h
   exact h
  ·unfold tagH at h;rw[if_pos (by omega)]at h
   rcases byV_cases hy with rfl|⟨rfl,rfl⟩
   all_goals
    simp (maxSteps:=1000000) (implicitDefEqProofs:=false) only[pf97,h1,h2,h62,SKe_eq,go_sem,↓reduceIte]
    refine⟨33,?_⟩
    simp (maxSteps:=1000000) (implicitDefEqProofs:=false) only[go_sem,↓reduceIte]
    refine loop97 (keyH_len _ _) (fun ts=> ?_) 32 0 (by omega)
    simp (maxSteps:=1000000) (implicitDefEqProofs:=false) only[h63,SMr_eq,go_sem,↓reduceIte]
    try refine And.intro (by omega) ?_
    refine⟨_,_,⟨rfl,byt_keyH _ _,by rw[keyH_len];omega,rfl,byt_app (byt_cons hd byt_nil) hcy,by simp;try omega⟩,?_⟩
    exact h
end Go.Proofs.YtjbglbhcbenhpaaDoor.Sha
namespace Go.Abs.Sha
open Go Go.Abs
set_option linter.unusedVariables false
set_option linter.unusedSimpArgs false
def num (n:Nat):List Int:=if n < 128 then [(n:Int)]else ((n % 128+128:Nat):Int)::num (n / 128)
termination_by n
decreasing_by omega
theorem num_small {n:Nat} (h:n < 128):num n=[(n:Int)]:=by rw[num,if_pos h]
theorem num_big {n:Nat} (h:¬n < 128):num n=((n % 128+128:Nat):Int)::num (n / 128):=by rw[num,if_neg h]
theorem byt_num:∀(k n:Nat),n < 128 ^ (k+1)→Byt (num n)∧(num n).length≤k+1
 |0,n,h=>by
  rw[num_small (by omega)]
  exact⟨byt_cons (by omega) byt_nil,by simp⟩
 |k+1,n,h=>by
  by_cases hn:n < 128
  ·rw[num_small hn]
   exact⟨byt_cons (by omega) byt_nil,by simp⟩
  ·rw[num_big hn]
   have h2:n / 128 < 128 ^ (k+1):=by
    rw[Nat.pow_succ]at h
    exact Nat.div_lt_of_lt_mul (by rw[Nat.mul_comm];exact h)
   obtain⟨h3,h4⟩:=byt_num k _ h2
   refine⟨byt_cons (by omega) h3,by simp only[List.length_cons];omega⟩
theorem num_ok {n:Nat} (h:n < 18446744073709551616):Byt (num n)∧(num n).length≤10:=
 byt_num 9 n (Nat.lt_of_lt_of_le h (by decide))
theorem or128 {n:Int} (h:0≤n):bOr .u8 (IntKind.u8.wrap n) 128=((n.toNat % 128+128:Nat):Int):=by
 have hd:∀k:Fin 256,bOr .u8 (k.val:Int) 128=((k.val % 128+128:Nat):Int):=by decide+kernel
 have e:IntKind.u8.wrap n=((n.toNat % 256:Nat):Int):=by
  simp only[IntKind.wrap,IntKind.bits,IntKind.signed];simp;omega
 have:=hd ⟨n.toNat % 256,Nat.mod_lt _ (by decide)⟩
 rw[e,this]
 simp only
 omega
structure AttS where
 who:Int
 ki:Int
 vi:Int
 ph:Int
 ha:List Int
 pv:Int
 pa:List Int
 ta:List Int
def AttS.v (a:AttS):V:= .agg [.int .i64 a.who,.int .i64 a.ki,.int .i64 a.vi,.int .i64 a.ph,.arr .u8 32 a.ha,.int .i64 a.pv,.arr .u8 32 a.pa,.arr .u8 32 a.ta]
def I64 (n:Int):Prop:= -9223372036854775808≤n∧n≤9223372036854775807
instance (n:Int):Decidable (I64 n):=by unfold I64;infer_instance
def H32 (h:List Int):Prop:=Byt h∧h.length=32
structure AttS.wf (a:AttS):Prop where
 who:I64 a.who
 ki:I64 a.ki
 vi:I64 a.vi
 ph:I64 a.ph
 pv:I64 a.pv
 ha:H32 a.ha
 pa:H32 a.pa
 ta:H32 a.ta
def AttS.May (a:AttS):Prop:=(1≤a.who∧a.who≤21)∧(1≤a.ki∧a.ki≤3)∧a.ph=a.ki∧(1≤a.vi∧a.vi≤1099511627776)∧0≤a.pv∧(a.pv < a.vi∨a.ki=3∧a.pv=a.vi)
instance (a:AttS):Decidable a.May:=by unfold AttS.May;infer_instance
def AttS.may (a:AttS):Bool:=decide a.May
def AttS.said (a:AttS):List Int:=num a.ki.toNat++num a.vi.toNat++num a.ph.toNat++a.ha++num a.pv.toNat++a.pa
def AttS.tag (kt:List Int) (a:AttS):List Int:=tagH kt a.who 1 a.said
def AttS.signed (kt:List Int) (a:AttS):AttS:={ a with ta:=a.tag kt }
def AttS.right (kt:List Int) (a:AttS):Bool:=a.may&&decide (a.ta=a.tag kt)
def AttS.zero:AttS:=⟨0,0,0,0,zero32,0,zero32,zero32⟩
theorem h32_zero:H32 zero32:=⟨byt_zero,rfl⟩
theorem AttS.nums {a:AttS} (h:a.wf) (hm:a.May):Byt (num a.ki.toNat)∧(num a.ki.toNat).length≤10∧Byt (num a.vi.toNat)∧(num a.vi.toNat).length≤10∧Byt (num a.ph.toNat)∧(num a.ph.toNat).length≤10∧Byt (num a.pv.toNat)∧(num a.pv.toNat).length≤10:=by
 obtain⟨h1,h2,h3,h4,h5,h6⟩:=hm
 obtain⟨a1,a2⟩:=num_ok (n:=a.ki.toNat) (by omega)
 obtain⟨b1,b2⟩:=num_ok (n:=a.vi.toNat) (by omega)
 obtain⟨c1,c2⟩:=num_ok (n:=a.ph.toNat) (by omega)
 obtain⟨d1,d2⟩:=num_ok (n:=a.pv.toNat) (by omega)
 exact⟨a1,a2,b1,b2,c1,c2,d1,d2⟩
theorem AttS.said_ok {a:AttS} (h:a.wf) (hm:a.May):Byt a.said∧a.said.length≤104:=by
 obtain⟨a1,a2,b1,b2,c1,c2,d1,d2⟩:=AttS.nums h hm
 refine⟨byt_app (byt_app (byt_app (byt_app (byt_app a1 b1) c1) h.ha.1) d1) h.pa.1,?_⟩
 have:=h.ha.2;have:=h.pa.2
 simp only[AttS.said,List.length_append];omega
theorem byV_wk {x:V} {b:List Int} (h:byV x=some b):Wk x (.sli .u8 b):=by
 rcases byV_cases h with rfl|⟨rfl,rfl⟩
 ·exact .inl rfl
 ·exact .inr ⟨rfl,.inl ⟨_,rfl⟩⟩
theorem wk_1 {x x':V} {l:List V} (h:Wk x x'):∀(i:Nat) z,(x'::l)[i]? =some z→∃y,(x::l)[i]? =some y∧Wk y z:=by
 intro i z hz
 cases i with
 |zero=>simp at hz;subst hz;exact⟨x,rfl,h⟩
 |succ i=>exact⟨z,by simpa using hz,.inl rfl⟩
theorem wk_2 {y x x':V} {l:List V} (h:Wk x x'):∀(i:Nat) z,(y::x'::l)[i]? =some z→∃u,(y::x::l)[i]? =some u∧Wk u z:=by
 intro i z hz
 cases i with
 |zero=>exact⟨z,by simpa using hz,.inl rfl⟩
 |succ i=>exact wk_1 h i z (by simpa using hz)
theorem wk_11 {x x' y y':V} {l:List V} (h:Wk x x') (h2:Wk y y'):∀(i:Nat) z,(x'::y'::l)[i]? =some z→∃u,(x::y::l)[i]? =some u∧Wk u z:=by
 intro i z hz
 cases i with
 |zero=>simp at hz;subst hz;exact⟨x,rfl,h⟩
 |succ i=>exact wk_1 h2 i z (by simpa using hz)
end Go.Abs.Sha
namespace Go.Proofs.YtjbglbhcbenhpaaDoor.Sha
open Go Go.Abs Go.Abs.Sha
set_option linter.unusedSimpArgs false
set_option linter.unusedVariables false
set_option maxRecDepth 100000
def pf50:PF:=
 PF.mk 1 3 8 ((PC.reg [nn (.v 2) (.mv true (.c (.own .nils)))]).seq (((PC.reg [mm 3 0,nn (.t 4) (.nileq false (.t 3))]).seq (PC.cond (.t 4) ((PC.reg
  [nn (.v 2) (.mv true (.c (.own .nils)))]).seq PC.ret) PC.skip)).seq ((PC.reg [nn (.t 5) (.buildS (some .u8) 1 (.int .u8 0) 0 []),mm 6 0,nn (.t 7)
  (.app (some .u8) 1 1 (.t 5) (.t 6)),ma 2 7]).seq PC.ret))) [(.v 2,none)]
def pf87:PF:=
 PF.mk 2 5 9 ((PC.reg [nn (.v 3) (.box (.v 1)),nn (.v 4) (.mv true (.c (.own .nils)))]).seq ((PC.regD 0 [mm 5 0,nn (.t 6) (.call 50 [.t 5]),nn (.t 7)
  (.slcA 32 false (.v 3) none none none),nn (.t 8) (.app (some .u8) 1 1 (.t 6) (.t 7)),ma 4 8] [(1,2)]).seq PC.ret)) [(.v 4,none)]
def lp107_0:PC:=
 ((PC.reg [mm 8 1,nn (.t 9) (.bin .geq (.t 8) (.c (.v (.int .u64 128))))]).seq (PC.cond (.t 9) PC.skip (PC.exit 0))).seq (PC.block 1 ((PC.reg [nn (.t
  10) (.mv true (.v 5)),mm 11 1,nn (.t 12) (.conv .u8 (.t 11)),nn (.t 13) (.bin .or (.t 12) (.c (.v (.int .u8 128)))),nn (.t 14) (.buildS (some
  .u8) 1 (.int .u8 0) 1 [(0,.t 13)]),nn (.t 15) (.app (some .u8) 1 1 (.t 10) (.t 14)),ma 5 15]).seq (PC.reg [mm 16 1,nn (.t 17) (.bin .shr (.t 16)
  (.c (.v (.int .u64 7)))),ma 1 17])))
def pf107:PF:=
 PF.mk 2 6 23 ((PC.reg [nn (.v 4) (.mv true (.c (.own .nils)))]).seq ((PC.reg [mm 6 0,nn (.t 7) (.call 50 [.t 6]),ma 5 7]).seq ((PC.block 0 (PC.loop
  [1,5] lp107_0)).seq ((PC.reg [nn (.t 18) (.mv true (.v 5)),mm 19 1,nn (.t 20) (.conv .u8 (.t 19)),nn (.t 21) (.buildS (some .u8) 1 (.int .u8 0) 1
  [(0,.t 20)]),nn (.t 22) (.app (some .u8) 1 1 (.t 18) (.t 21)),ma 4 22]).seq PC.ret)))) [(.v 4,none)]
def pf119:PF:=
 PF.mk 1 3 17 ((PC.reg [nn (.v 2) (.mv true (.c (.own .nils)))]).seq (((PC.reg [mm 3 0,nn (.t 4) (.bin .lss (.t 3) (.c (.v (.int .u64 128))))]).seq
  (PC.cond (.t 4) ((PC.reg [mm 5 0,nn (.t 6) (.conv .u8 (.t 5)),nn (.t 7) (.buildS (some .u8) 1 (.int .u8 0) 1 [(0,.t 6)]),ma 2 7]).seq PC.ret)
  PC.skip)).seq ((PC.reg [mm 8 0,nn (.t 9) (.bin .rem (.t 8) (.c (.v (.int .u64 128)))),nn (.t 10) (.bin .add (.c (.v (.int .u64 128))) (.t 9)),nn
  (.t 11) (.conv .u8 (.t 10)),nn (.t 12) (.buildS (some .u8) 1 (.int .u8 0) 1 [(0,.t 11)]),mm 13 0,nn (.t 14) (.bin .quo (.t 13) (.c (.v (.int .u64
  128)))),nn (.t 15) (.call 119 [.t 14]),nn (.t 16) (.app (some .u8) 1 1 (.t 12) (.t 15)),ma 2 16]).seq PC.ret))) [(.v 2,none)]
def lp96_0:PC:=
 ((PC.reg [mm 6 4,nn (.t 7) (.bin .lss (.t 6) (.c (.v (.int .i64 32))))]).seq (PC.cond (.t 7) PC.skip (PC.exit 0))).seq ((PC.block 1 (PC.reg [nn (.t
  10) (.mv true (.v 3)),mm 11 4,nn (.t 12) (.iadrA 32 (.v 1) (.t 11)),nn (.t 13) (.load 1 false (.t 12)),nn (.t 14) (.buildS (some .u8) 1 (.int .u8
  0) 1 [(0,.t 13)]),nn (.t 15) (.app (some .u8) 1 1 (.t 10) (.t 14)),ma 3 15])).seq (PC.reg [mm 8 4,nn (.t 9) (.bin .add (.t 8) (.c (.v (.int .i64
  1)))),ma 4 9]))
def pf96:PF:=
 PF.mk 1 5 17 ((PC.reg [nn (.v 1) (.box (.v 0)),nn (.v 2) (.mv true (.c (.own .nils)))]).seq ((PC.reg [nn (.t 5) (.buildS (some .u8) 1 (.int .u8 0) 0
  []),ma 3 5]).seq (((PC.reg [nn (.v 4) (.mv true (.c (.v (.int .i64 0))))]).seq (PC.block 0 (PC.loop [1,3,4] lp96_0))).seq ((PC.reg [nn (.t 16)
  (.mv true (.v 3)),ma 2 16]).seq PC.ret)))) [(.v 2,none)]
attribute [local irreducible] W Wops WopsD WL Wop WopD
variable {E:Env} {C:Abs.Spec} {l:List (Nat×Spec1)} {G:List (Nat×V)} {Q:R→List (Nat×V)→Prop}
set_option maxHeartbeats 1000000
def SCl:Spec1
 |[x],G,Q=>∃b,(byV x=some b∧b.length < 10000000000000)∧Q (.own (.sli .u8 b)) G
 |_,_,_=>False
theorem SCl_eq {x}:SCl [x] G Q=(∃b,(byV x=some b∧b.length < 10000000000000)∧Q (.own (.sli .u8 b)) G):=rfl
def SHa:Spec1
 |[x,.arr .u8 32 h],G,Q=>∃b,(byV x=some b∧b.length < 1000000000000∧h.length=32)∧Q (.own (.sli .u8 (b++h))) G
 |_,_,_=>False
theorem SHa_eq {x h}:SHa [x,.arr .u8 32 h] G Q=(∃b,(byV x=some b∧b.length < 1000000000000∧h.length=32)∧Q (.own (.sli .u8 (b++h))) G):=rfl
def SNu:Spec1
 |[x,.int .u64 n],G,Q=>∃b,(byV x=some b∧b.length < 100000000000∧0≤n∧n < 18446744073709551616)∧Q (.own (.sli .u8 (b++num n.toNat))) G
 |_,_,_=>False
theorem SNu_eq {x n}:SNu [x,.int .u64 n] G Q=(∃b,(byV x=some b∧b.length < 100000000000∧0≤n∧n < 18446744073709551616)∧Q (.own (.sli .u8 (b++num n.toNat))) G):=rfl
def SRn (k:Nat):Spec1
 |[.int .u64 n],G,Q=>(0≤n∧n.toNat < 128 ^ k∧0 < k∧n < 18446744073709551616)∧Q (.own (.sli .u8 (num n.toNat))) G
 |_,_,_=>False
theorem SRn_eq {k n}:SRn k [.int .u64 n] G Q=((0≤n∧n.toNat < 128 ^ k∧0 < k∧n < 18446744073709551616)∧Q (.own (.sli .u8 (num n.toNat))) G):=rfl
def SBy:Spec1
 |[.arr .u8 32 h],G,Q=>h.length=32∧Q (.own (.sli .u8 h)) G
 |_,_,_=>False
theorem SBy_eq {h}:SBy [.arr .u8 32 h] G Q=(h.length=32∧Q (.own (.sli .u8 h)) G):=rfl
theorem walk50 {b:List Int} (hb:b.length < 10000000000000) (h:Q (.own (.sli .u8 b)) G):Wf E C pf50 [.sli .u8 b] G (fun r G'=>Q (wkR .u8 r) G'):=by
 simp (maxSteps:=1000000) (implicitDefEqProofs:=false) only[pf50,go_sem,↓reduceIte]
 intro q hq
 cases q with
 |true=>
  have hl:b.length=0:=by have:=hq rfl;omega
  have hb0:b=[]:=List.eq_nil_of_length_eq_zero hl
  subst hb0
  simp (maxSteps:=1000000) (implicitDefEqProofs:=false) only[go_sem,↓reduceIte]
  exact h
 |false=>
  simp (maxSteps:=1000000) (implicitDefEqProofs:=false) only[go_sem,↓reduceIte]
  exact⟨by omega,h⟩
theorem walk87 {b hh:List Int} (h50:Abs.look l 50=some SCl) (hb:b.length < 1000000000000) (hl:hh.length=32) (h:Q (.own (.sli .u8 (b++hh))) G):Wf E (specOf l) pf87 [.sli .u8 b,.arr .u8 32 hh] G Q:=by
 have ht:hh.take 32=hh:=List.take_of_length_le (by omega)
 simp (maxSteps:=1000000) (implicitDefEqProofs:=false) only[pf87,h50,SCl_eq,go_sem,↓reduceIte]
 refine⟨_,⟨rfl,by omega⟩,?_⟩
 simp (maxSteps:=1000000) (implicitDefEqProofs:=false) only[ht,List.drop_zero,go_sem,↓reduceIte]
 exact⟨by omega,h⟩
theorem loop107 {QQ:Ex→St→Prop} {b:List Int} (hb:b.length < 1000000000000)
  (hx:∀ts (n:Nat) (u:List Int),n < 128→u++num n=b→QQ (.exit 0) ⟨[none,some (.v (.int .u64 n)),none,none,none,some (.own (.sli .u8 u))],ts,[],G⟩):
  ∀(m n:Nat) (u:List Int),n < 128 ^ (m+1)→u++num n=b→WL (W E C lp107_0) [1,5] QQ (m+1) ⟨[none,some (.v (.int .u64 n)),none,none,none,some (.own (.sli .u8 u))],[],[],G⟩:=by
 intro m
 induction m with
 |zero=>
  intro n u hn hu
  have hge:¬128≤(n:Int):=by omega
  refine WL_in lp107_0.eq_1 ?_
  simp (maxSteps:=1000000) (implicitDefEqProofs:=false) only[hge,go_sem,↓reduceIte]
  exact hx _ n u (by omega) hu
 |succ m ih=>
  intro n u hn hu
  refine WL_in lp107_0.eq_1 ?_
  by_cases hge:(128:Int)≤n
  ·have e1:(n:Int).fdiv (2 ^ min 7 64)=((n / 128:Nat):Int):=by
    rw[show (2:Int) ^ min 7 64=128 from rfl,Int.fdiv_eq_ediv_of_nonneg _ (by omega)];simp
   have e2:=or128 (n:=(n:Int)) (by omega)
   rw[Int.toNat_natCast]at e2
   rw[num_big (by omega)]at hu
   have hul:u.length+(num (n / 128)).length+1=b.length:=by rw[←hu];simp only[List.length_append,List.length_cons];omega
   have ihh:=ih (n / 128) (u++[((n % 128+128:Nat):Int)]) (by
    rw[Nat.pow_succ]at hn
    exact Nat.div_lt_of_lt_mul (by rw[Nat.mul_comm];exact hn)) (by rw[←hu,List.append_assoc];rfl)
   simp (maxSteps:=1000000) (implicitDefEqProofs:=false) only[hge,e1,e2,go_sem,↓reduceIte]
   exact⟨by omega,ihh⟩
  ·simp (maxSteps:=1000000) (implicitDefEqProofs:=false) only[hge,go_sem,↓reduceIte]
   exact hx _ n u (by omega) hu
theorem walk107 {b:List Int} {n:Int} (h50:Abs.look l 50=some SCl) (hb:b.length < 100000000000) (hn:0≤n∧n < 18446744073709551616) (h:Q (.own (.sli .u8 (b++num n.toNat))) G):Wf E (specOf l) pf107 [.sli .u8 b,.int .u64 n] G Q:=by
 obtain⟨k,rfl⟩:∃k:Nat,n=k:=⟨n.toNat,by omega⟩
 rw[Int.toNat_natCast]at h
 obtain⟨hby,hlen⟩:=num_ok (n:=k) (by omega)
 simp (maxSteps:=1000000) (implicitDefEqProofs:=false) only[pf107,h50,SCl_eq,go_sem,↓reduceIte]
 refine⟨_,⟨rfl,by omega⟩,10,?_⟩
 simp (maxSteps:=1000000) (implicitDefEqProofs:=false) only[go_sem,↓reduceIte]
 refine loop107 (b:=b++num k) (by rw[List.length_append];omega) (fun ts n u hn2 hu=> ?_) 9 k b (Nat.lt_of_lt_of_le (show k < 18446744073709551616 by omega) (by decide)) rfl
 have hw:IntKind.u8.wrap (n:Int)=n:=by simp only[IntKind.wrap,IntKind.bits,IntKind.signed];simp;omega
 rw[num_small hn2]at hu
 have hul:u.length+1=b.length+(num k).length:=by
  have:=congrArg List.length hu
  simpa only[List.length_append,List.length_cons,List.length_nil]using this
 rw[←hu]at h
 simp (maxSteps:=1000000) (implicitDefEqProofs:=false) only[hw,go_sem,↓reduceIte]
 exact⟨by omega,h⟩
theorem walk119 {k n:Nat} (h61:Abs.look l 119=some (SRn k)) (hn:n < 128 ^ (k+1)) (hn2:n < 18446744073709551616) (h:Q (.own (.sli .u8 (num n))) G):Wf E (specOf l) pf119 [.int .u64 n] G Q:=by
 by_cases hlt:(n:Int) < 128
 ·have hw:IntKind.u8.wrap (n:Int)=n:=by simp only[IntKind.wrap,IntKind.bits,IntKind.signed];simp;omega
  rw[num_small (by omega)]at h
  simp (maxSteps:=1000000) (implicitDefEqProofs:=false) only[pf119,hlt,hw,go_sem,↓reduceIte]
  exact h
 ·have e1:(n:Int).tmod 128=((n % 128:Nat):Int):=by rw[Int.tmod_eq_emod_of_nonneg (by omega)];simp
  have e2:(n:Int).tdiv 128=((n / 128:Nat):Int):=by rw[Int.tdiv_eq_ediv_of_nonneg (by omega)];simp
  have e3:IntKind.u64.wrap (128+((n % 128:Nat):Int))=((n % 128+128:Nat):Int):=by simp only[IntKind.wrap,IntKind.bits,IntKind.signed];simp;omega
  have e4:IntKind.u8.wrap ((n % 128+128:Nat):Int)=((n % 128+128:Nat):Int):=by simp only[IntKind.wrap,IntKind.bits,IntKind.signed];simp;omega
  have e5:IntKind.u64.wrap ((n / 128:Nat):Int)=((n / 128:Nat):Int):=by simp only[IntKind.wrap,IntKind.bits,IntKind.signed];simp;omega
  rw[num_big (by omega)]at h
  obtain⟨hby,hlen⟩:=num_ok (n:=n / 128) (by omega)
  simp (maxSteps:=1000000) (implicitDefEqProofs:=false) only[pf119,hlt,e1,e2,e3,e4,e5,h61,SRn_eq,Int.toNat_natCast,go_sem,↓reduceIte]
  have hk:0 < k:=by
   cases k with
   |zero=>simp at hn;omega
   |succ k=>omega
  refine⟨⟨by omega,?_,hk,by omega⟩,by omega,h⟩
  rw[Nat.pow_succ]at hn
  exact Nat.div_lt_of_lt_mul (by rw[Nat.mul_comm];exact hn)
theorem loop96 {hh:List Int} {QQ:Ex→St→Prop} (hl:hh.length=32)
  (hx:∀ts,QQ (.exit 0) ⟨[none,some (.lp 0 []),none,some (.own (.sli .u8 hh)),some (.v (.int .i64 32))],ts,[⟨false,.arr .u8 32 hh⟩],G⟩):
  ∀(m i:Nat),i+m=32→WL (W E C lp96_0) [1,3,4] QQ (m+1) ⟨[none,some (.lp 0 []),none,some (.own (.sli .u8 (hh.take i))),some (.v (.int .i64 i))],[],[⟨false,.arr .u8 32 hh⟩],G⟩:=by
 intro m
 induction m with
 |zero=>
  intro i hi
  obtain rfl:i=32:=by omega
  rw[List.take_of_length_le (by omega)]
  refine WL_in lp96_0.eq_1 ?_
  simp (maxSteps:=1000000) (implicitDefEqProofs:=false) only[go_sem,↓reduceIte]
  exact hx _
 |succ m ih=>
  intro i hi
  have hi32:i < 32:=by omega
  have hlt:(i:Int) < 32:=by omega
  have ew:IntKind.i64.wrap ((i:Int)+1)=((i+1:Nat):Int):=by rw[w64 (by omega) (by omega)];simp
  have ihh:=ih (i+1) (by omega)
  have l1:(hh.take i).length=i:=by rw[List.length_take];omega
  rw[←snoc_step' (by omega:i < hh.length)]at ihh
  generalize hh.take i=u at*
  refine WL_in lp96_0.eq_1 ?_
  simp (maxSteps:=1000000) (implicitDefEqProofs:=false) only[hlt,hi32,ew,Int.toNat_natCast,go_sem,↓reduceIte]
  exact⟨by omega,by omega,ihh⟩
theorem walk96 {hh:List Int} (hl:hh.length=32) (h:Q (.own (.sli .u8 hh)) G):Wf E C pf96 [.arr .u8 32 hh] G Q:=by
 simp (maxSteps:=1000000) (implicitDefEqProofs:=false) only[pf96,go_sem,↓reduceIte]
 refine⟨33,?_⟩
 simp (maxSteps:=1000000) (implicitDefEqProofs:=false) only[go_sem,↓reduceIte]
 refine loop96 hl (fun ts=> ?_) 32 0 (by omega)
 simp (maxSteps:=1000000) (implicitDefEqProofs:=false) only[go_sem,↓reduceIte]
 exact h
end Go.Proofs.YtjbglbhcbenhpaaDoor.Sha
namespace Go.Proofs.YtjbglbhcbenhpaaDoor.Sha
open Go Go.Abs Go.Abs.Sha
set_option linter.unusedSimpArgs false
set_option linter.unusedVariables false
set_option maxRecDepth 100000
attribute [local irreducible] W Wops WopsD WL Wop WopD
variable {E:Env} {C:Abs.Spec} {l:List (Nat×Spec1)} {G:List (Nat×V)} {Q:R→List (Nat×V)→Prop}
set_option maxHeartbeats 1000000
theorem u64_of {n:Int} (h:0≤n) (h2:n≤9223372036854775807):IntKind.u64.wrap n=n:=by simp only[IntKind.wrap,IntKind.bits,IntKind.signed];simp;omega
end Go.Proofs.YtjbglbhcbenhpaaDoor.Sha
namespace Go.Abs.Sha
open Go Go.Abs
set_option linter.unusedVariables false
set_option linter.unusedSimpArgs false
def decI:Nat→Nat→List Int→Option (Nat×Nat)
 |_,_,[]=>none
 |i,acc,c::r=>if 10≤i then none else if (i=9∧1 < c)∨(0 < i∧c=0)then none else
  if c < 128 then some (acc+c.toNat*128 ^ i,i+1)else decI (i+1) (acc+(c.toNat-128)*128 ^ i) r
theorem p9 {i:Nat} (h:i≤9):i=0∨i=1∨i=2∨i=3∨i=4∨i=5∨i=6∨i=7∨i=8∨i=9:=by omega
theorem pow_le9 {i:Nat} (h:i≤9):0 < 128 ^ i∧128 ^ i≤9223372036854775808:=by
 rcases p9 h with rfl|rfl|rfl|rfl|rfl|rfl|rfl|rfl|rfl|rfl<;>decide
theorem dec_num:∀(n i acc:Nat) (r:List Int),i≤9→n*128 ^ i < 18446744073709551616→(0 < i→0 < n)→decI i acc (num n++r)=some (acc+n*128 ^ i,i+(num n).length):=by
 intro n
 induction n using Nat.strongRecOn with
 |_ n ih=>
  intro i acc r hi hn h0
  have h9:i=9→n≤1:=by
   rintro rfl
   have:(128:Nat) ^ 9=9223372036854775808:=by decide
   omega
  by_cases hlt:n < 128
  ·rw[num_small hlt]
   simp only[List.cons_append,List.nil_append,decI,List.length_cons,List.length_nil]
   rw[if_neg (by omega),if_neg (by omega),if_pos (by omega)]
   simp
  ·have h8:i≤8:=by
    rcases p9 hi with rfl|rfl|rfl|rfl|rfl|rfl|rfl|rfl|rfl|rfl<;>first|omega|(have:=h9 rfl;omega)
   have hp:128 ^ (i+1)=128 ^ i*128:=Nat.pow_succ ..
   have hpos:=(pow_le9 hi).1
   have hm:n / 128*128 ^ (i+1)≤n*128 ^ i:=by
    rw[hp,Nat.mul_comm (128 ^ i) 128,←Nat.mul_assoc]
    exact Nat.mul_le_mul_right _ (Nat.div_mul_le_self _ _)
   have e:decI (i+1) (acc+n % 128*128 ^ i) (num (n / 128)++r)=some (acc+n % 128*128 ^ i+n / 128*128 ^ (i+1),i+1+(num (n / 128)).length):=
    ih (n / 128) (by omega) (i+1) _ r (by omega) (by omega) (by omega)
   rw[num_big hlt]
   simp only[List.cons_append,decI,List.length_cons]
   rw[if_neg (by omega),if_neg (by omega),if_neg (by omega)]
   have e2:((n % 128+128:Nat):Int).toNat-128=n % 128:=by omega
   rw[e2,e]
   have e3:n % 128*128 ^ i+n / 128*128 ^ (i+1)=n*128 ^ i:=by
    rw[hp,Nat.mul_comm (128 ^ i) 128,←Nat.mul_assoc,←Nat.add_mul,show n % 128+n / 128*128=n by omega]
   rw[Nat.add_assoc acc,e3,Nat.add_assoc i,Nat.add_comm 1]
theorem lt_mul64 {m i:Nat} (hi:i≤8) (h:m*128 ^ (i+1) < 18446744073709551616):m*128 ^ (i+1)+128 ^ (i+1)≤18446744073709551616:=by
 rcases p9 (show i≤9 by omega)with rfl|rfl|rfl|rfl|rfl|rfl|rfl|rfl|rfl|rfl<;>simp only[Nat.reduceAdd,Nat.reducePow]at h⊢<;>omega
theorem num_dec:∀(b:List Int) (i acc n k:Nat),Byt b→i≤9→decI i acc b=some (n,k)→
  ∃m r,n=acc+m*128 ^ i∧(0 < i→0 < m)∧m*128 ^ i < 18446744073709551616∧b=num m++r∧k=i+(num m).length
 |[],i,acc,n,k,hb,hi,h=>by simp[decI]at h
 |c::r,i,acc,n,k,hb,hi,h=>by
  have hc:=hb c (List.mem_cons_self ..)
  have hr:Byt r:=fun x hx=>hb x (List.mem_cons_of_mem _ hx)
  simp only[decI]at h
  rw[if_neg (by omega)]at h
  split at h
  ·cases h
  rename_i hbad
  split at h
  ·rename_i hlt;cases h
   refine⟨c.toNat,r,rfl,by omega,?_,?_,?_⟩
   ·by_cases h9:i=9
    ·subst h9
     have:(128:Nat) ^ 9=9223372036854775808:=by decide
     have:c.toNat≤1:=by omega
     calc c.toNat*128 ^ 9≤1*128 ^ 9:=Nat.mul_le_mul_right _ this
      _ < _:=by decide
    ·have h1:c.toNat*128 ^ i≤127*128 ^ i:=Nat.mul_le_mul_right _ (by omega)
     have h2:127*128 ^ i < 18446744073709551616:=by
      rcases p9 hi with rfl|rfl|rfl|rfl|rfl|rfl|rfl|rfl|rfl|rfl<;>first|decide|omega
     omega
   ·rw[num_small (by omega)];simp;omega
   ·rw[num_small (by omega)];simp
  ·rename_i hge
   have h8:i≤8:=by
    apply Classical.byContradiction
    intro hn
    have:i=9:=by omega
    subst this
    cases r with
    |nil=>simp[decI]at h
    |cons a r=>simp[decI]at h
   obtain⟨m,r',h1,h2,h3,h4,h5⟩:=num_dec r (i+1) _ n k hr (by omega) h
   have hm:0 < m:=h2 (by omega)
   have hp:128 ^ (i+1)=128 ^ i*128:=Nat.pow_succ ..
   have hpos:=(pow_le9 hi).1
   have e1:(c.toNat-128+128*m)*128 ^ i=(c.toNat-128)*128 ^ i+m*128 ^ (i+1):=by
    rw[Nat.add_mul,hp,Nat.mul_comm 128 m,Nat.mul_assoc,Nat.mul_comm 128 (128 ^ i)]
   refine⟨c.toNat-128+128*m,r',by rw[e1,h1];omega,fun _=>by omega,?_,?_,?_⟩
   ·rw[e1]
    have h6:=lt_mul64 h8 h3
    have h7:(c.toNat-128)*128 ^ i < 128 ^ (i+1):=by
     rw[hp,Nat.mul_comm (128 ^ i)]
     exact Nat.mul_lt_mul_of_pos_right (by omega) hpos
    omega
   ·rw[num_big (by omega),h4,show (c.toNat-128+128*m) / 128=m by omega]
    simp only[List.cons_append,List.cons.injEq,and_true]
    omega
   ·rw[num_big (by omega),show (c.toNat-128+128*m) / 128=m by omega,List.length_cons]
    omega
def decN (b:List Int):Option (Nat×Nat):=decI 0 0 b
theorem decN_num {n:Nat} (hn:n < 18446744073709551616) (r:List Int):decN (num n++r)=some (n,(num n).length):=by
 have:=dec_num n 0 0 r (by omega) (by simpa using hn) (by omega)
 simpa [decN]using this
theorem decN_spec {b:List Int} {n k:Nat} (hb:Byt b) (h:decN b=some (n,k)):n < 18446744073709551616∧k=(num n).length∧b=num n++b.drop k∧k≤b.length:=by
 obtain⟨m,r,h1,h2,h3,h4,h5⟩:=num_dec b 0 0 n k hb (by omega) h
 simp at h1 h3 h5;subst h1
 refine⟨h3,h5,?_,?_⟩
 ·rw[h5,h4,List.drop_left]
 ·rw[h5,h4];simp
theorem num_pos (n:Nat):0 < (num n).length:=by
 rw[num];split<;>simp
abbrev Rd:=List Int×Bool
def Rd.v (s:Rd):V:= .agg [.sli .u8 s.1,.bool s.2]
def rdNum (s:Rd):Nat×Rd:=if s.2=true then (0,s)else match decN s.1 with
 |none=>(0,(s.1,true))
 |some (n,k)=>(n,(s.1.drop k,false))
def rdUpto (top:Int) (s:Rd):Int×Rd:=if s.2=true then (0,s)else match decN s.1 with
 |none=>(0,(s.1,true))
 |some (n,k)=>if top < 0∨top < (n:Int)then (0,(s.1,true))else ((n:Int),(s.1.drop k,false))
def rdHash (s:Rd):List Int×Rd:=if s.2=true then (zero32,s)else if s.1.length < 32 then (zero32,(s.1,true))else (s.1.take 32,(s.1.drop 32,false))
structure Rd.Ok (s:Rd):Prop where
 byt:Byt s.1
theorem rdUpto_ok {top:Int} {s:Rd} (h:Byt s.1):Byt (rdUpto top s).2.1∧(rdUpto top s).2.1.length≤s.1.length∧0≤(rdUpto top s).1∧(0≤top→(rdUpto top s).1≤top):=by
 unfold rdUpto
 split
 ·exact⟨h,Nat.le_refl _,Int.le_refl _,fun h=>h⟩
 ·split
  ·exact⟨h,Nat.le_refl _,Int.le_refl _,fun h=>h⟩
  ·split
   ·exact⟨h,Nat.le_refl _,Int.le_refl _,fun h=>h⟩
   ·exact⟨byt_drop h _,by simp,by simp,fun _=>by simp only;omega⟩
theorem rdHash_ok {s:Rd} (h:Byt s.1):Byt (rdHash s).2.1∧(rdHash s).2.1.length≤s.1.length∧H32 (rdHash s).1:=by
 unfold rdHash
 split
 ·exact⟨h,Nat.le_refl _,h32_zero⟩
 ·split
  ·exact⟨h,Nat.le_refl _,h32_zero⟩
  ·exact⟨byt_drop h _,by simp,byt_take h _,by simp;omega⟩
theorem rdUpto_right {top:Int} {s:Rd} (hb:Byt s.1) (h:(rdUpto top s).2.2=false):s.2=false∧s.1=num (rdUpto top s).1.toNat++(rdUpto top s).2.1∧0≤(rdUpto top s).1∧(rdUpto top s).1≤top∧(rdUpto top s).1 < 18446744073709551616:=by
 unfold rdUpto at h⊢
 split at h
 ·rename_i hw;simp[hw]at h
 ·rename_i hw
  rw[if_neg hw]
  split at h
  ·cases h
  ·rename_i n k hd
   split at h
   ·cases h
   ·rename_i ht
    obtain⟨h1,h2,h3,h4⟩:=decN_spec hb hd
    rw[if_neg ht]
    exact⟨by simpa using hw,by simpa using h3,by simp,by simp only;omega,by simp only;omega⟩
theorem rdHash_right {s:Rd} (h:(rdHash s).2.2=false):s.2=false∧s.1=(rdHash s).1++(rdHash s).2.1∧(rdHash s).1.length=32:=by
 unfold rdHash at h⊢
 split at h
 ·rename_i hw;simp[hw]at h
 ·rename_i hw
  rw[if_neg hw]
  split at h
  ·cases h
  ·rename_i hl
   rw[if_neg hl]
   exact⟨by simpa using hw,by simp,by simp;omega⟩
theorem rdUpto_of {top:Int} {n:Nat} {r:List Int} (h1:(n:Int)≤top) (h2:n < 18446744073709551616):rdUpto top (num n++r,false)=((n:Int),(r,false)):=by
 unfold rdUpto
 simp only[Bool.false_eq_true,if_false,decN_num h2,List.drop_left]
 rw[if_neg (by omega)]
theorem rdHash_of {h r:List Int} (hl:h.length=32):rdHash (h++r,false)=(h,(r,false)):=by
 unfold rdHash
 simp only[Bool.false_eq_true,if_false,List.length_append,hl]
 rw[if_neg (by omega),←hl,List.take_left,List.drop_left]
end Go.Abs.Sha
namespace Go.Abs
namespace Sha
open Go
theorem and127 {c:Int} (h:0≤c∧c≤255):bAnd .u8 c 127=((c.toNat % 128:Nat):Int):=by
 have hd:∀k:Fin 256,bAnd .u8 (k.val:Int) 127=((k.val % 128:Nat):Int):=by decide+kernel
 have:=hd ⟨c.toNat,by omega⟩
 simp only at this
 rw[show ((c.toNat:Nat):Int)=c by omega]at this
 exact this
theorem pow128 (i:Nat):(2:Nat) ^ (7*i)=128 ^ i:=by rw[Nat.pow_mul]
theorem or7 {acc i d:Nat} (hi:i≤9) (ha:acc < 128 ^ i) (hd:d < 128) (h9:i=9→d≤1):
  bOr .u64 (acc:Int) (IntKind.u64.wrap ((d:Int)*2 ^ (min (7*i) 64)))=((acc+d*128 ^ i:Nat):Int):=by
 have e0:min (7*i) 64=7*i:=by omega
 have hP:=pow_le9 hi
 have hlt:d*128 ^ i < 18446744073709551616:=by
  by_cases h:i=9
  ·subst h
   have:(128:Nat) ^ 9=9223372036854775808:=by decide
   have:=h9 rfl;omega
  ·have h1:d*128 ^ i≤127*128 ^ i:=Nat.mul_le_mul_right _ (by omega)
   have h2:127*128 ^ i < 18446744073709551616:=by
    rcases p9 hi with rfl|rfl|rfl|rfl|rfl|rfl|rfl|rfl|rfl|rfl<;>first|exact absurd rfl h|decide
   omega
 have e1:((d:Int)*2 ^ (7*i))=((d*128 ^ i:Nat):Int):=by
  rw[←pow128];simp
 have w:∀n:Nat,n < 18446744073709551616→IntKind.u64.wrap (n:Int)=n:=fun n hn=>by
  simp only[IntKind.wrap,IntKind.bits,IntKind.signed];simp;omega
 rw[e0,e1,w _ hlt]
 show IntKind.u64.wrap ((BitVec.ofInt 64 (acc:Int)|||BitVec.ofInt 64 ((d*128 ^ i:Nat):Int)).toNat)=_
 have hacc:acc < 18446744073709551616:=by omega
 have e2:acc |||d*128 ^ i=acc+d*128 ^ i:=by
  rw[Nat.or_comm,←pow128,←Nat.shiftLeft_eq,←Nat.shiftLeft_add_eq_or_of_lt (by rw[pow128];exact ha),Nat.add_comm]
 have hsum:acc+d*128 ^ i < 18446744073709551616:=by
  by_cases h:i=9
  ·subst h
   have:(128:Nat) ^ 9=9223372036854775808:=by decide
   have:=h9 rfl;omega
  ·have h1:d*128 ^ i≤127*128 ^ i:=Nat.mul_le_mul_right _ (by omega)
   have h2:128*128 ^ i≤9223372036854775808:=by
    rcases p9 hi with rfl|rfl|rfl|rfl|rfl|rfl|rfl|rfl|rfl|rfl<;>first|exact absurd rfl h|decide
   omega
 rw[BitVec.toNat_or,BitVec.ofInt_natCast,BitVec.ofInt_natCast,BitVec.toNat_ofNat,BitVec.toNat_ofNat,Nat.mod_eq_of_lt hacc,Nat.mod_eq_of_lt hlt,e2,w _ hsum]
theorem w64u {n:Nat} (hn:n < 18446744073709551616):IntKind.u64.wrap (n:Int)=n:=by
 simp only[IntKind.wrap,IntKind.bits,IntKind.signed];simp;omega
theorem drop_cons {b:List Int} {i:Nat} (h:i < b.length):b.drop i=b.getD i 0::b.drop (i+1):=by
 rw[List.drop_eq_getElem_cons h];simp[h]
end Sha
end Go.Abs
namespace Go.Abs.Sha
open Go
set_option linter.unusedVariables false
theorem num_inj:∀{a b:Nat},num a=num b→a=b:=by
 intro a
 induction a using Nat.strongRecOn with
 |_ a ih=>
  intro b h
  by_cases ha:a < 128
  ·by_cases hb:b < 128
   ·rw[num_small ha,num_small hb]at h
    have:=(List.cons.inj h).1;omega
   ·rw[num_small ha,num_big hb]at h
    have:=congrArg List.length h
    have h2:=num_pos (b / 128)
    simp at this;simp[this]at h2
  ·by_cases hb:b < 128
   ·rw[num_big ha,num_small hb]at h
    have:=congrArg List.length h
    have h2:=num_pos (a / 128)
    simp at this;simp[this]at h2
   ·rw[num_big ha,num_big hb]at h
    obtain⟨h1,h2⟩:=List.cons.inj h
    have:=ih (a / 128) (by omega) h2
    omega
theorem num_last:∀{n:Nat} {l:List Int},num n=l++[0]→l=[]:=by
 intro n
 induction n using Nat.strongRecOn with
 |_ n ih=>
  intro l h
  by_cases hn:n < 128
  ·rw[num_small hn]at h
   cases l with
   |nil=>rfl
   |cons a l=>have:=congrArg List.length h;simp at this
  ·rw[num_big hn]at h
   cases l with
   |nil=>have:=congrArg List.length h;have h2:=num_pos (n / 128);simp at this;simp[this]at h2
   |cons a l=>
    simp only[List.cons_append,List.cons.injEq]at h
    have hl:=ih (n / 128) (by omega) h.2
    subst hl
    have h3:=h.2
    simp only[List.nil_append]at h3
    by_cases h4:n / 128 < 128
    ·rw[num_small h4]at h3
     have:=(List.cons.inj h3).1;omega
    ·rw[num_big h4]at h3
     have:=congrArg List.length h3;have h2:=num_pos (n / 128 / 128);simp at this;simp[this]at h2
theorem set_step {a z:List Int} {i:Nat} (hi:i < z.length) (hia:i < a.length):(a.take i++z.drop i).set i (a.getD i 0)=a.take (i+1)++z.drop (i+1):=by
 rw[List.set_append_right _ _ (by rw[List.length_take];omega),drop_cons hi]
 have e:i-(a.take i).length=0:=by rw[List.length_take];omega
 rw[e,List.set_cons_zero,List.take_add_one,List.append_assoc]
 congr 1
 simp[hia]
theorem rdUpto_suf {top:Int} {s:Rd} (hb:Byt s.1):∃u,s.1=u++(rdUpto top s).2.1:=by
 unfold rdUpto
 split
 ·exact⟨[],rfl⟩
 ·split
  ·exact⟨[],rfl⟩
  ·split
   ·exact⟨[],rfl⟩
   ·exact⟨s.1.take _,(List.take_append_drop ..).symm⟩
theorem rdHash_suf {s:Rd}:∃u,s.1=u++(rdHash s).2.1:=by
 unfold rdHash
 split
 ·exact⟨[],rfl⟩
 ·split
  ·exact⟨[],rfl⟩
  ·exact⟨s.1.take _,(List.take_append_drop ..).symm⟩
def rrV (B:List Int) (s:Rd):V:= .agg [.sli .u8 B,.int .i64 ((B.length:Int)-s.1.length),.bool s.2]
end Go.Abs.Sha
namespace Go.Abs.Sha
open Go
set_option linter.unusedVariables false
theorem rdUpto_all {top n:Int} {b r:List Int} {w w':Bool} (e:rdUpto top (b,w)=(n,r,w')) (hb:Byt b) (ht:0≤top):
  Byt r∧r.length≤b.length∧0≤n∧n≤top∧(∃u,b=u++r)∧(w'=false→w=false∧b=num n.toNat++r):=by
 have h1:=rdUpto_ok (top:=top) (s:=(b,w)) hb
 have h2:=rdUpto_suf (top:=top) (s:=(b,w)) hb
 have h3:=rdUpto_right (top:=top) (s:=(b,w)) hb
 rw[e]at h1 h2 h3
 exact⟨h1.1,h1.2.1,h1.2.2.1,h1.2.2.2 ht,h2,fun hw=>⟨(h3 hw).1,(h3 hw).2.1⟩⟩
theorem rdHash_all {hh:List Int} {b r:List Int} {w w':Bool} (e:rdHash (b,w)=(hh,r,w')) (hb:Byt b):
  Byt r∧r.length≤b.length∧H32 hh∧(∃u,b=u++r)∧(w'=false→w=false∧b=hh++r):=by
 have h1:=rdHash_ok (s:=(b,w)) hb
 have h2:=rdHash_suf (s:=(b,w))
 have h3:=rdHash_right (s:=(b,w))
 rw[e]at h1 h2 h3
 exact⟨h1.1,h1.2.1,h1.2.2,h2,fun hw=>⟨(h3 hw).1,(h3 hw).2.1⟩⟩
theorem i64_of {n:Int} (h:0≤n) (h2:n≤1099511627776):I64 n:=⟨by omega,by omega⟩
structure RdAtt (b:List Int) (w:Bool) (a:AttS) (r:List Int) (w':Bool):Prop where
 wf:a.wf
 byt:Byt r
 len:r.length≤b.length
 suf:∃u,b=u++r
 right:w'=false→w=false∧b=num a.who.toNat++a.said++a.ta++r
def AttS.bytes (a:AttS):List Int:=num a.who.toNat++a.said++a.ta
structure SealS where
 vi:Int
 ph:Int
 pv:Int
 pa:List Int
def SealS.v (s:SealS):V:= .agg [.int .i64 s.vi,.int .i64 s.ph,.int .i64 s.pv,.arr .u8 32 s.pa]
structure SealS.wf (s:SealS):Prop where
 vi:I64 s.vi
 ph:I64 s.ph
 pv:I64 s.pv
 pa:H32 s.pa
def SealS.zero:SealS:=⟨0,0,0,zero32⟩
def SealS.May (s:SealS):Prop:=(s.vi=0∧s.ph=0∧s.pv=0∧s.pa=zero32)∨((1≤s.vi∧s.vi≤1099511627776)∧(1≤s.ph∧s.ph≤3)∧0≤s.pv∧(s.pv < s.vi∨s.pv=s.vi∧s.ph=3))
instance (s:SealS):Decidable s.May:=by unfold SealS.May;infer_instance
def SealS.may (s:SealS):Bool:=decide s.May
def SealS.said (ve:Int) (s:SealS):List Int:=num ve.toNat++num s.vi.toNat++num s.ph.toNat++num s.pv.toNat++s.pa
def SealS.blob (kt:List Int) (i ve:Int) (s:SealS):List Int:=s.said ve++tagH kt i 3 (s.said ve)
theorem SealS.bounds {s:SealS} (h:s.May):(0≤s.vi∧s.vi≤1099511627776)∧(0≤s.ph∧s.ph≤3)∧0≤s.pv∧s.pv≤1099511627776:=by
 rcases h with⟨h1,h2,h3,_⟩|⟨h1,h2,h3,h4⟩<;>omega
theorem SealS.said_ok {s:SealS} {ve:Int} (hw:s.wf) (hm:s.May) (hv:0≤ve∧ve≤1099511627776):Byt (s.said ve)∧(s.said ve).length≤72:=by
 obtain⟨h1,h2,h3⟩:=SealS.bounds hm
 obtain⟨a1,a2⟩:=num_ok (n:=ve.toNat) (by omega)
 obtain⟨b1,b2⟩:=num_ok (n:=s.vi.toNat) (by omega)
 obtain⟨c1,c2⟩:=num_ok (n:=s.ph.toNat) (by omega)
 obtain⟨d1,d2⟩:=num_ok (n:=s.pv.toNat) (by omega)
 refine⟨byt_app (byt_app (byt_app (byt_app a1 b1) c1) d1) hw.pa.1,?_⟩
 have:=hw.pa.2
 simp only[SealS.said,List.length_append];omega
def rdBlob (s:Rd):Int×SealS×List Int×Rd:=
 let p0:=rdUpto 1099511627776 s
 let p1:=rdUpto 1099511627776 p0.2
 let p2:=rdUpto 3 p1.2
 let p3:=rdUpto 1099511627776 p2.2
 let p4:=rdHash p3.2
 let p5:=rdHash p4.2
 (p0.1,⟨p1.1,p2.1,p3.1,p4.1⟩,p5.1,p5.2)
structure RdBlob (b:List Int) (w:Bool) (ve:Int) (s:SealS) (ta r:List Int) (w':Bool):Prop where
 wf:s.wf
 vr:0≤ve∧ve≤1099511627776
 tg:H32 ta
 byt:Byt r
 len:r.length≤b.length
 suf:∃u,b=u++r
 right:w'=false→w=false∧b=s.said ve++ta++r
theorem rdBlob_all {b r ta:List Int} {w w':Bool} {ve:Int} {s:SealS} (e:rdBlob (b,w)=(ve,s,ta,r,w')) (hb:Byt b):RdBlob b w ve s ta r w':=by
 unfold rdBlob at e
 rcases e1:rdUpto 1099511627776 (b,w)with⟨n1,r1,w1⟩
 rcases e2:rdUpto 1099511627776 (r1,w1)with⟨n2,r2,w2⟩
 rcases e3:rdUpto 3 (r2,w2)with⟨n3,r3,w3⟩
 rcases e4:rdUpto 1099511627776 (r3,w3)with⟨n4,r4,w4⟩
 rcases e5:rdHash (r4,w4)with⟨n5,r5,w5⟩
 rcases e6:rdHash (r5,w5)with⟨n6,r6,w6⟩
 simp only[e1,e2,e3,e4,e5,e6,Prod.mk.injEq]at e
 obtain⟨rfl,rfl,rfl,rfl,rfl⟩:=e
 obtain⟨a1,a2,a3,a4,⟨u1,a5⟩,a6⟩:=rdUpto_all e1 hb (by omega)
 obtain⟨b1,b2,b3,b4,⟨u2,b5⟩,b6⟩:=rdUpto_all e2 a1 (by omega)
 obtain⟨c1,c2,c3,c4,⟨u3,c5⟩,c6⟩:=rdUpto_all e3 b1 (by omega)
 obtain⟨d1,d2,d3,d4,⟨u4,d5⟩,d6⟩:=rdUpto_all e4 c1 (by omega)
 obtain⟨f1,f2,f3,⟨u5,f5⟩,f6⟩:=rdHash_all e5 d1
 obtain⟨k1,k2,k3,⟨u7,k5⟩,k6⟩:=rdHash_all e6 f1
 have q2:I64 n2:=i64_of b3 (by omega)
 have q3:I64 n3:=i64_of c3 (by omega)
 have q4:I64 n4:=i64_of d3 (by omega)
 refine⟨⟨q2,q3,q4,f3⟩,⟨a3,a4⟩,k3,k1,by omega,?_,fun hw=> ?_⟩
 ·exact⟨u1++u2++u3++u4++u5++u7,by simp only[List.append_assoc];rw[←k5,←f5,←d5,←c5,←b5,←a5]⟩
 ·obtain⟨x5,y6⟩:=k6 hw;obtain⟨x4,y5⟩:=f6 x5
  obtain⟨x3,y4⟩:=d6 x4;obtain⟨x2,y3⟩:=c6 x3;obtain⟨x1,y2⟩:=b6 x2;obtain⟨x0,y1⟩:=a6 x1
  refine⟨x0,?_⟩
  simp only[SealS.said,List.append_assoc]
  rw[←y6,←y5,←y4,←y3,←y2,←y1]
theorem rdBlob_of {s:SealS} {ve:Int} {ta r:List Int} (hw:s.wf) (hm:s.May) (hv:0≤ve∧ve≤1099511627776) (ht:ta.length=32):rdBlob (s.said ve++ta++r,false)=(ve,s,ta,(r,false)):=by
 obtain⟨h1,h2,h3⟩:=SealS.bounds hm
 unfold rdBlob
 simp only[SealS.said,List.append_assoc]
 have T:∀{n top:Int} {r:List Int},0≤n→n≤top→n≤1099511627776→rdUpto top (num n.toNat++r,false)=(n,(r,false)):=by
  intro n top r h1 h2 h3
  have:=rdUpto_of (top:=top) (n:=n.toNat) (r:=r) (by omega) (by omega)
  rw[this,show ((n.toNat:Nat):Int)=n by omega]
 rw[T (by omega) (by omega) (by omega)];simp only
 rw[T (by omega) (by omega) (by omega)];simp only
 rw[T (by omega) (by omega) (by omega)];simp only
 rw[T (by omega) (by omega) (by omega)];simp only
 rw[rdHash_of hw.pa.2];simp only
 rw[rdHash_of ht]
def getBlob (kt:List Int) (i:Int) (b:List Int):Int×SealS×Int:=
 let p:=rdBlob (b,false)
 if p.2.2.2.2=true∨p.2.2.2.1≠[]∨p.1=0∨¬p.2.1.May then (0,.zero,2)
 else if ¬(1≤i∧i≤21)∨p.2.2.1≠tagH kt i 3 (p.2.1.said p.1)then (0,.zero,7)else (p.1,p.2.1,0)
end Go.Abs.Sha
