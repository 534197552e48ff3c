/- Laws over plain values, and what functions of the program hand back; no conditions. -/
import Derived.Test.YtegamlopcdjiaaaDoorG3
import Derived.Test.YtegamlopcdjiaaaDoorG1
import Derived.Test.YtegamlopcdjiaaaDoorPlain6
namespace Go.Proofs.YtegamlopcdjiaaaDoor.Sha
open Go Go.Abs Go.Abs.Sha
set_option linter.unusedSimpArgs false
set_option linter.unusedVariables false
set_option maxRecDepth 100000
def pf65:PF:=
 PF.mk 1 3 8 ((PC.reg [nn (.v 2) (.mv true (.c (.own .nils)))]).seq (((PC.reg [mm 3 0,nn (.t 4) (.nileq false (.t 3))]).seq (PC.cond (.t 4) ((PC.reg
  [nn (.v 2) (.mv true (.c (.own .nils)))]).seq PC.ret) PC.skip)).seq ((PC.reg [nn (.t 5) (.buildS (some .u8) 1 (.int .u8 0) 0 []),mm 6 0,nn (.t 7)
  (.app (some .u8) 1 1 (.t 5) (.t 6)),ma 2 7]).seq PC.ret))) [(.v 2,none)]
def pf71:PF:=
 PF.mk 2 5 9 ((PC.reg [nn (.v 3) (.box (.v 1)),nn (.v 4) (.mv true (.c (.own .nils)))]).seq ((PC.regD 0 [mm 5 0,nn (.t 6) (.call 65 [.t 5]),nn (.t 7)
  (.slcA 32 false (.v 3) none none none),nn (.t 8) (.app (some .u8) 1 1 (.t 6) (.t 7)),ma 4 8] [(1,2)]).seq PC.ret)) [(.v 4,none)]
def lp72_0:PC:=
 ((PC.reg [mm 8 1,nn (.t 9) (.bin .geq (.t 8) (.c (.v (.int .u64 128))))]).seq (PC.cond (.t 9) PC.skip (PC.exit 0))).seq (PC.block 1 ((PC.reg [nn (.t
  10) (.mv true (.v 5)),mm 11 1,nn (.t 12) (.conv .u8 (.t 11)),nn (.t 13) (.bin .or (.t 12) (.c (.v (.int .u8 128)))),nn (.t 14) (.buildS (some
  .u8) 1 (.int .u8 0) 1 [(0,.t 13)]),nn (.t 15) (.app (some .u8) 1 1 (.t 10) (.t 14)),ma 5 15]).seq (PC.reg [mm 16 1,nn (.t 17) (.bin .shr (.t 16)
  (.c (.v (.int .u64 7)))),ma 1 17])))
def pf72:PF:=
 PF.mk 2 6 23 ((PC.reg [nn (.v 4) (.mv true (.c (.own .nils)))]).seq ((PC.reg [mm 6 0,nn (.t 7) (.call 65 [.t 6]),ma 5 7]).seq ((PC.block 0 (PC.loop
  [1,5] lp72_0)).seq ((PC.reg [nn (.t 18) (.mv true (.v 5)),mm 19 1,nn (.t 20) (.conv .u8 (.t 19)),nn (.t 21) (.buildS (some .u8) 1 (.int .u8 0) 1
  [(0,.t 20)]),nn (.t 22) (.app (some .u8) 1 1 (.t 18) (.t 21)),ma 4 22]).seq PC.ret)))) [(.v 4,none)]
def pf103:PF:=
 PF.mk 1 3 17 ((PC.reg [nn (.v 2) (.mv true (.c (.own .nils)))]).seq (((PC.reg [mm 3 0,nn (.t 4) (.bin .lss (.t 3) (.c (.v (.int .u64 128))))]).seq
  (PC.cond (.t 4) ((PC.reg [mm 5 0,nn (.t 6) (.conv .u8 (.t 5)),nn (.t 7) (.buildS (some .u8) 1 (.int .u8 0) 1 [(0,.t 6)]),ma 2 7]).seq PC.ret)
  PC.skip)).seq ((PC.reg [mm 8 0,nn (.t 9) (.bin .rem (.t 8) (.c (.v (.int .u64 128)))),nn (.t 10) (.bin .add (.c (.v (.int .u64 128))) (.t 9)),nn
  (.t 11) (.conv .u8 (.t 10)),nn (.t 12) (.buildS (some .u8) 1 (.int .u8 0) 1 [(0,.t 11)]),mm 13 0,nn (.t 14) (.bin .quo (.t 13) (.c (.v (.int .u64
  128)))),nn (.t 15) (.call 103 [.t 14]),nn (.t 16) (.app (some .u8) 1 1 (.t 12) (.t 15)),ma 2 16]).seq PC.ret))) [(.v 2,none)]
def lp74_0:PC:=
 ((PC.reg [mm 6 4,nn (.t 7) (.bin .lss (.t 6) (.c (.v (.int .i64 32))))]).seq (PC.cond (.t 7) PC.skip (PC.exit 0))).seq ((PC.block 1 (PC.reg [nn (.t
  10) (.mv true (.v 3)),mm 11 4,nn (.t 12) (.iadrA 32 (.v 1) (.t 11)),nn (.t 13) (.load 1 false (.t 12)),nn (.t 14) (.buildS (some .u8) 1 (.int .u8
  0) 1 [(0,.t 13)]),nn (.t 15) (.app (some .u8) 1 1 (.t 10) (.t 14)),ma 3 15])).seq (PC.reg [mm 8 4,nn (.t 9) (.bin .add (.t 8) (.c (.v (.int .i64
  1)))),ma 4 9]))
def pf74:PF:=
 PF.mk 1 5 17 ((PC.reg [nn (.v 1) (.box (.v 0)),nn (.v 2) (.mv true (.c (.own .nils)))]).seq ((PC.reg [nn (.t 5) (.buildS (some .u8) 1 (.int .u8 0) 0
  []),ma 3 5]).seq (((PC.reg [nn (.v 4) (.mv true (.c (.v (.int .i64 0))))]).seq (PC.block 0 (PC.loop [1,3,4] lp74_0))).seq ((PC.reg [nn (.t 16)
  (.mv true (.v 3)),ma 2 16]).seq PC.ret)))) [(.v 2,none)]
def pf76:PF:=
 PF.mk 1 3 60 ((PC.reg [nn (.v 1) (.box (.v 0)),nn (.v 2) (.mv true (.c (.v (.bool false))))]).seq (((PC.reg [nn (.t 3) (.fadr 0 0 (.v 1)),nn (.t 4)
  (.load 1 false (.t 3)),nn (.t 5) (.bin .lss (.t 4) (.c (.v (.int .i64 1)))),nn (.t 6) (.mv false (.t 5)),⟨.t 7,.fadr 0 0 (.v 1),some (.t 6,
  false)⟩,⟨.t 8,.load 1 false (.t 7),some (.t 6,false)⟩,⟨.t 9,.bin .gtr (.t 8) (.c (.v (.int .i64 21))),some (.t 6,false)⟩,nn (.t 10) (.pick
  (.t 6) (.c (.v (.bool true))) (.t 9)),nn (.t 11) (.mv false (.t 10)),⟨.t 12,.fadr 1 1 (.v 1),some (.t 11,false)⟩,⟨.t 13,.load 1 false (.t 12),
  some (.t 11,false)⟩,⟨.t 14,.bin .lss (.t 13) (.c (.v (.int .i64 1))),some (.t 11,false)⟩,nn (.t 15) (.pick (.t 11) (.c (.v (.bool true))) (.t
  14)),nn (.t 16) (.mv false (.t 15)),⟨.t 17,.fadr 1 1 (.v 1),some (.t 16,false)⟩,⟨.t 18,.load 1 false (.t 17),some (.t 16,false)⟩,⟨.t 19,
  .bin .gtr (.t 18) (.c (.v (.int .i64 3))),some (.t 16,false)⟩,nn (.t 20) (.pick (.t 16) (.c (.v (.bool true))) (.t 19)),nn (.t 21) (.mv false (.t
  20)),⟨.t 22,.fadr 3 3 (.v 1),some (.t 21,false)⟩,⟨.t 23,.load 1 false (.t 22),some (.t 21,false)⟩,⟨.t 24,.fadr 1 1 (.v 1),some (.t 21,
  false)⟩,⟨.t 25,.load 1 false (.t 24),some (.t 21,false)⟩,⟨.t 26,.bin .neq (.t 23) (.t 25),some (.t 21,false)⟩,nn (.t 27) (.pick (.t 21) (.c
  (.v (.bool true))) (.t 26)),nn (.t 28) (.mv false (.t 27)),⟨.t 29,.fadr 2 2 (.v 1),some (.t 28,false)⟩,⟨.t 30,.load 1 false (.t 29),some (.t
  28,false)⟩,⟨.t 31,.bin .lss (.t 30) (.c (.v (.int .i64 1))),some (.t 28,false)⟩,nn (.t 32) (.pick (.t 28) (.c (.v (.bool true))) (.t 31)),nn
  (.t 33) (.mv false (.t 32)),⟨.t 34,.fadr 2 2 (.v 1),some (.t 33,false)⟩,⟨.t 35,.load 1 false (.t 34),some (.t 33,false)⟩,⟨.t 36,.bin .gtr
  (.t 35) (.c (.v (.int .i64 1099511627776))),some (.t 33,false)⟩,nn (.t 37) (.pick (.t 33) (.c (.v (.bool true))) (.t 36)),nn (.t 38) (.mv false
  (.t 37)),⟨.t 39,.fadr 5 36 (.v 1),some (.t 38,false)⟩,⟨.t 40,.load 1 false (.t 39),some (.t 38,false)⟩,⟨.t 41,.bin .lss (.t 40) (.c (.v
  (.int .i64 0))),some (.t 38,false)⟩,nn (.t 42) (.pick (.t 38) (.c (.v (.bool true))) (.t 41))]).seq (PC.cond (.t 42) ((PC.reg [nn (.v 2) (.mv true
  (.c (.v (.bool false))))]).seq PC.ret) PC.skip)).seq ((PC.reg [nn (.t 43) (.fadr 5 36 (.v 1)),nn (.t 44) (.load 1 false (.t 43)),nn (.t 45) (.fadr
  2 2 (.v 1)),nn (.t 46) (.load 1 false (.t 45)),nn (.t 47) (.bin .lss (.t 44) (.t 46)),nn (.t 48) (.mv false (.t 47)),⟨.t 49,.fadr 1 1 (.v 1),
  some (.t 48,false)⟩,⟨.t 50,.load 1 false (.t 49),some (.t 48,false)⟩,⟨.t 51,.bin .eql (.t 50) (.c (.v (.int .i64 3))),some (.t 48,false)⟩,
  ⟨.t 52,.mv false (.t 51),some (.t 48,false)⟩,⟨.t 53,.fadr 5 36 (.v 1),some (.t 52,true)⟩,⟨.t 54,.load 1 false (.t 53),some (.t 52,true)⟩,
  ⟨.t 55,.fadr 2 2 (.v 1),some (.t 52,true)⟩,⟨.t 56,.load 1 false (.t 55),some (.t 52,true)⟩,⟨.t 57,.bin .eql (.t 54) (.t 56),some (.t 52,
  true)⟩,⟨.t 58,.pick (.t 52) (.t 57) (.c (.v (.bool false))),some (.t 48,false)⟩,nn (.t 59) (.pick (.t 48) (.c (.v (.bool true))) (.t 58)),ma 2
  59]).seq PC.ret))) [(.v 2,none)]
def pf83:PF:=
 PF.mk 1 4 54 ((PC.reg [nn (.v 1) (.box (.v 0)),nn (.v 2) (.mv true (.c (.v (.int .i64 0))))]).seq ((PC.reg [nn (.t 4) (.fadr 2 2 (.v 1)),nn (.t 5)
  (.load 1 false (.t 4)),nn (.t 6) (.bin .sub (.t 5) (.c (.v (.int .i64 1)))),ma 3 6]).seq (((PC.reg [nn (.t 7) (.fadr 1 1 (.v 1)),nn (.t 8) (.load
  1 false (.t 7)),nn (.t 9) (.bin .eql (.t 8) (.c (.v (.int .i64 3))))]).seq (PC.cond (.t 9) (PC.reg [nn (.t 10) (.fadr 2 2 (.v 1)),nn (.t 11) (.load
  1 false (.t 10)),ma 3 11]) PC.skip)).seq (((PC.reg [nn (.t 12) (.fadr 0 0 (.v 1)),nn (.t 13) (.load 1 false (.t 12)),nn (.t 14) (.call 85 [.t
  13]),nn (.t 15) (.un .not (.t 14)),nn (.t 16) (.mv false (.t 15)),⟨.t 17,.fadr 1 1 (.v 1),some (.t 16,false)⟩,⟨.t 18,.load 1 false (.t 17),
  some (.t 16,false)⟩,⟨.t 19,.bin .lss (.t 18) (.c (.v (.int .i64 1))),some (.t 16,false)⟩,nn (.t 20) (.pick (.t 16) (.c (.v (.bool true))) (.t
  19)),nn (.t 21) (.mv false (.t 20)),⟨.t 22,.fadr 1 1 (.v 1),some (.t 21,false)⟩,⟨.t 23,.load 1 false (.t 22),some (.t 21,false)⟩,⟨.t 24,
  .bin .gtr (.t 23) (.c (.v (.int .i64 3))),some (.t 21,false)⟩,nn (.t 25) (.pick (.t 21) (.c (.v (.bool true))) (.t 24)),nn (.t 26) (.mv false (.t
  25)),⟨.t 27,.fadr 3 3 (.v 1),some (.t 26,false)⟩,⟨.t 28,.load 1 false (.t 27),some (.t 26,false)⟩,⟨.t 29,.fadr 1 1 (.v 1),some (.t 26,
  false)⟩,⟨.t 30,.load 1 false (.t 29),some (.t 26,false)⟩,⟨.t 31,.bin .neq (.t 28) (.t 30),some (.t 26,false)⟩,nn (.t 32) (.pick (.t 26) (.c
  (.v (.bool true))) (.t 31)),nn (.t 33) (.mv false (.t 32)),⟨.t 34,.fadr 2 2 (.v 1),some (.t 33,false)⟩,⟨.t 35,.load 1 false (.t 34),some (.t
  33,false)⟩,⟨.t 36,.bin .lss (.t 35) (.c (.v (.int .i64 1))),some (.t 33,false)⟩,nn (.t 37) (.pick (.t 33) (.c (.v (.bool true))) (.t 36)),nn
  (.t 38) (.mv false (.t 37)),⟨.t 39,.fadr 2 2 (.v 1),some (.t 38,false)⟩,⟨.t 40,.load 1 false (.t 39),some (.t 38,false)⟩,⟨.t 41,.bin .gtr
  (.t 40) (.c (.v (.int .i64 1099511627776))),some (.t 38,false)⟩,nn (.t 42) (.pick (.t 38) (.c (.v (.bool true))) (.t 41)),nn (.t 43) (.mv false
  (.t 42)),⟨.t 44,.fadr 5 36 (.v 1),some (.t 43,false)⟩,⟨.t 45,.load 1 false (.t 44),some (.t 43,false)⟩,⟨.t 46,.bin .lss (.t 45) (.c (.v
  (.int .i64 0))),some (.t 43,false)⟩,nn (.t 47) (.pick (.t 43) (.c (.v (.bool true))) (.t 46)),nn (.t 48) (.mv false (.t 47)),⟨.t 49,.fadr 5 36
  (.v 1),some (.t 48,false)⟩,⟨.t 50,.load 1 false (.t 49),some (.t 48,false)⟩,gm 51 3 48 false,⟨.t 52,.bin .gtr (.t 50) (.t 51),some (.t 48,
  false)⟩,nn (.t 53) (.pick (.t 48) (.c (.v (.bool true))) (.t 52))]).seq (PC.cond (.t 53) ((PC.reg [nn (.v 2) (.mv true (.c (.v (.int .i64
  1))))]).seq PC.ret) PC.skip)).seq ((PC.reg [nn (.v 2) (.mv true (.c (.v (.int .i64 0))))]).seq PC.ret))))) [(.v 2,none)]
attribute [local irreducible] W Wops WopsD WL Wop WopD
variable {E:Env} {C:Abs.Spec} {l:List (Nat×Spec1)} {G:List (Nat×V)} {Q:R→List (Nat×V)→Prop}
set_option maxHeartbeats 1000000
def SCl:Spec1
 |[x],G,Q=>∃b,(byV x=some b∧b.length < 10000000000000)∧Q (.own (.sli .u8 b)) G
 |_,_,_=>False
theorem SCl_eq {x}:SCl [x] G Q=(∃b,(byV x=some b∧b.length < 10000000000000)∧Q (.own (.sli .u8 b)) G):=rfl
def SHa:Spec1
 |[x,.arr .u8 32 h],G,Q=>∃b,(byV x=some b∧b.length < 1000000000000∧h.length=32)∧Q (.own (.sli .u8 (b++h))) G
 |_,_,_=>False
theorem SHa_eq {x h}:SHa [x,.arr .u8 32 h] G Q=(∃b,(byV x=some b∧b.length < 1000000000000∧h.length=32)∧Q (.own (.sli .u8 (b++h))) G):=rfl
def SNu:Spec1
 |[x,.int .u64 n],G,Q=>∃b,(byV x=some b∧b.length < 100000000000∧0≤n∧n < 18446744073709551616)∧Q (.own (.sli .u8 (b++num n.toNat))) G
 |_,_,_=>False
theorem SNu_eq {x n}:SNu [x,.int .u64 n] G Q=(∃b,(byV x=some b∧b.length < 100000000000∧0≤n∧n < 18446744073709551616)∧Q (.own (.sli .u8 (b++num n.toNat))) G):=rfl
def SRn (k:Nat):Spec1
 |[.int .u64 n],G,Q=>(0≤n∧n.toNat < 128 ^ k∧0 < k∧n < 18446744073709551616)∧Q (.own (.sli .u8 (num n.toNat))) G
 |_,_,_=>False
theorem SRn_eq {k n}:SRn k [.int .u64 n] G Q=((0≤n∧n.toNat < 128 ^ k∧0 < k∧n < 18446744073709551616)∧Q (.own (.sli .u8 (num n.toNat))) G):=rfl
def SBy:Spec1
 |[.arr .u8 32 h],G,Q=>h.length=32∧Q (.own (.sli .u8 h)) G
 |_,_,_=>False
theorem SBy_eq {h}:SBy [.arr .u8 32 h] G Q=(h.length=32∧Q (.own (.sli .u8 h)) G):=rfl
def SMy:Spec1
 |[.agg [.int .i64 a1,.int .i64 a2,.int .i64 a3,.int .i64 a4,.arr .u8 32 a5,.int .i64 a6,.arr .u8 32 a7,.arr .u8 32 a8]],G,Q=>((⟨a1,a2,a3,a4,a5,a6,a7,a8⟩:AttS)).wf∧Q (.v (.bool ((⟨a1,a2,a3,a4,a5,a6,a7,a8⟩:AttS)).may)) G
 |_,_,_=>False
theorem SMy_eq {a1 a2 a3 a4 a5 a6 a7 a8}:SMy [.agg [.int .i64 a1,.int .i64 a2,.int .i64 a3,.int .i64 a4,.arr .u8 32 a5,.int .i64 a6,.arr .u8 32 a7,.arr .u8 32 a8]] G Q=(((⟨a1,a2,a3,a4,a5,a6,a7,a8⟩:AttS)).wf∧Q (.v (.bool ((⟨a1,a2,a3,a4,a5,a6,a7,a8⟩:AttS)).may)) G):=rfl
def SCk:Spec1
 |[.agg [.int .i64 a1,.int .i64 a2,.int .i64 a3,.int .i64 a4,.arr .u8 32 a5,.int .i64 a6,.arr .u8 32 a7,.arr .u8 32 a8]],G,Q=>((⟨a1,a2,a3,a4,a5,a6,a7,a8⟩:AttS)).wf∧Q (.v (.int .i64 (if ((⟨a1,a2,a3,a4,a5,a6,a7,a8⟩:AttS)).may=true then 0 else 1))) G
 |_,_,_=>False
theorem SCk_eq {a1 a2 a3 a4 a5 a6 a7 a8}:SCk [.agg [.int .i64 a1,.int .i64 a2,.int .i64 a3,.int .i64 a4,.arr .u8 32 a5,.int .i64 a6,.arr .u8 32 a7,.arr .u8 32 a8]] G Q=(((⟨a1,a2,a3,a4,a5,a6,a7,a8⟩:AttS)).wf∧Q (.v (.int .i64 (if ((⟨a1,a2,a3,a4,a5,a6,a7,a8⟩:AttS)).may=true then 0 else 1))) G):=rfl
theorem walk65 {b:List Int} (hb:b.length < 10000000000000) (h:Q (.own (.sli .u8 b)) G):Wf E C pf65 [.sli .u8 b] G (fun r G'=>Q (wkR .u8 r) G'):=by
 simp (maxSteps:=1000000) (implicitDefEqProofs:=false) only[pf65,go_sem,↓reduceIte]
 intro q hq
 cases q with
 |true=>
  have hl:b.length=0:=by have:=hq rfl;omega
  have hb0:b=[]:=List.eq_nil_of_length_eq_zero hl
  subst hb0
  simp (maxSteps:=1000000) (implicitDefEqProofs:=false) only[go_sem,↓reduceIte]
  exact h
 |false=>
  simp (maxSteps:=1000000) (implicitDefEqProofs:=false) only[go_sem,↓reduceIte]
  exact⟨by omega,h⟩
theorem walk71 {b hh:List Int} (h50:Abs.look l 65=some SCl) (hb:b.length < 1000000000000) (hl:hh.length=32) (h:Q (.own (.sli .u8 (b++hh))) G):Wf E (specOf l) pf71 [.sli .u8 b,.arr .u8 32 hh] G Q:=by
 have ht:hh.take 32=hh:=List.take_of_length_le (by omega)
 simp (maxSteps:=1000000) (implicitDefEqProofs:=false) only[pf71,h50,SCl_eq,go_sem,↓reduceIte]
 refine⟨_,⟨rfl,by omega⟩,?_⟩
 simp (maxSteps:=1000000) (implicitDefEqProofs:=false) only[ht,List.drop_zero,go_sem,↓reduceIte]
 exact⟨by omega,h⟩
theorem loop72 {QQ:Ex→St→Prop} {b:List Int} (hb:b.length < 1000000000000)
  (hx:∀ts (n:Nat) (u:List Int),n < 128→u++num n=b→QQ (.exit 0) ⟨[none,some (.v (.int .u64 n)),none,none,none,some (.own (.sli .u8 u))],ts,[],G⟩):
  ∀(m n:Nat) (u:List Int),n < 128 ^ (m+1)→u++num n=b→WL (W E C lp72_0) [1,5] QQ (m+1) ⟨[none,some (.v (.int .u64 n)),none,none,none,some (.own (.sli .u8 u))],[],[],G⟩:=by
 intro m
 induction m with
 |zero=>
  intro n u hn hu
  have hge:¬128≤(n:Int):=by omega
  refine WL_in lp72_0.eq_1 ?_
  simp (maxSteps:=1000000) (implicitDefEqProofs:=false) only[hge,go_sem,↓reduceIte]
  exact hx _ n u (by omega) hu
 |succ m ih=>
  intro n u hn hu
  refine WL_in lp72_0.eq_1 ?_
  by_cases hge:(128:Int)≤n
  ·have e1:(n:Int).fdiv (2 ^ min 7 64)=((n / 128:Nat):Int):=by
    rw[show (2:Int) ^ min 7 64=128 from rfl,Int.fdiv_eq_ediv_of_nonneg _ (by omega)];simp
   have e2:=or128 (n:=(n:Int)) (by omega)
   rw[Int.toNat_natCast]at e2
   rw[num_big (by omega)]at hu
   have hul:u.length+(num (n / 128)).length+1=b.length:=by rw[←hu];simp only[List.length_append,List.length_cons];omega
   have ihh:=ih (n / 128) (u++[((n % 128+128:Nat):Int)]) (by
    rw[Nat.pow_succ]at hn
    exact Nat.div_lt_of_lt_mul (by rw[Nat.mul_comm];exact hn)) (by rw[←hu,List.append_assoc];rfl)
   simp (maxSteps:=1000000) (implicitDefEqProofs:=false) only[hge,e1,e2,go_sem,↓reduceIte]
   exact⟨by omega,ihh⟩
  ·simp (maxSteps:=1000000) (implicitDefEqProofs:=false) only[hge,go_sem,↓reduceIte]
   exact hx _ n u (by omega) hu
theorem walk72 {b:List Int} {n:Int} (h50:Abs.look l 65=some SCl) (hb:b.length < 100000000000) (hn:0≤n∧n < 18446744073709551616) (h:Q (.own (.sli .u8 (b++num n.toNat))) G):Wf E (specOf l) pf72 [.sli .u8 b,.int .u64 n] G Q:=by
 obtain⟨k,rfl⟩:∃k:Nat,n=k:=⟨n.toNat,by omega⟩
 rw[Int.toNat_natCast]at h
 obtain⟨hby,hlen⟩:=num_ok (n:=k) (by omega)
 simp (maxSteps:=1000000) (implicitDefEqProofs:=false) only[pf72,h50,SCl_eq,go_sem,↓reduceIte]
 refine⟨_,⟨rfl,by omega⟩,10,?_⟩
 simp (maxSteps:=1000000) (implicitDefEqProofs:=false) only[go_sem,↓reduceIte]
 refine loop72 (b:=b++num k) (by rw[List.length_append];omega) (fun ts n u hn2 hu=> ?_) 9 k b (Nat.lt_of_lt_of_le (show k < 18446744073709551616 by omega) (by decide)) rfl
 have hw:IntKind.u8.wrap (n:Int)=n:=by simp only[IntKind.wrap,IntKind.bits,IntKind.signed];simp;omega
 rw[num_small hn2]at hu
 have hul:u.length+1=b.length+(num k).length:=by
  have:=congrArg List.length hu
  simpa only[List.length_append,List.length_cons,List.length_nil]using this
 rw[←hu]at h
 simp (maxSteps:=1000000) (implicitDefEqProofs:=false) only[hw,go_sem,↓reduceIte]
 exact⟨by omega,h⟩
theorem walk103 {k n:Nat} (h61:Abs.look l 103=some (SRn k)) (hn:n < 128 ^ (k+1)) (hn2:n < 18446744073709551616) (h:Q (.own (.sli .u8 (num n))) G):Wf E (specOf l) pf103 [.int .u64 n] G Q:=by
 by_cases hlt:(n:Int) < 128
 ·have hw:IntKind.u8.wrap (n:Int)=n:=by simp only[IntKind.wrap,IntKind.bits,IntKind.signed];simp;omega
  rw[num_small (by omega)]at h
  simp (maxSteps:=1000000) (implicitDefEqProofs:=false) only[pf103,hlt,hw,go_sem,↓reduceIte]
  exact h
 ·have e1:(n:Int).tmod 128=((n % 128:Nat):Int):=by rw[Int.tmod_eq_emod_of_nonneg (by omega)];simp
  have e2:(n:Int).tdiv 128=((n / 128:Nat):Int):=by rw[Int.tdiv_eq_ediv_of_nonneg (by omega)];simp
  have e3:IntKind.u64.wrap (128+((n % 128:Nat):Int))=((n % 128+128:Nat):Int):=by simp only[IntKind.wrap,IntKind.bits,IntKind.signed];simp;omega
  have e4:IntKind.u8.wrap ((n % 128+128:Nat):Int)=((n % 128+128:Nat):Int):=by simp only[IntKind.wrap,IntKind.bits,IntKind.signed];simp;omega
  have e5:IntKind.u64.wrap ((n / 128:Nat):Int)=((n / 128:Nat):Int):=by simp only[IntKind.wrap,IntKind.bits,IntKind.signed];simp;omega
  rw[num_big (by omega)]at h
  obtain⟨hby,hlen⟩:=num_ok (n:=n / 128) (by omega)
  simp (maxSteps:=1000000) (implicitDefEqProofs:=false) only[pf103,hlt,e1,e2,e3,e4,e5,h61,SRn_eq,Int.toNat_natCast,go_sem,↓reduceIte]
  have hk:0 < k:=by
   cases k with
   |zero=>simp at hn;omega
   |succ k=>omega
  refine⟨⟨by omega,?_,hk,by omega⟩,by omega,h⟩
  rw[Nat.pow_succ]at hn
  exact Nat.div_lt_of_lt_mul (by rw[Nat.mul_comm];exact hn)
theorem loop74 {hh:List Int} {QQ:Ex→St→Prop} (hl:hh.length=32)
  (hx:∀ts,QQ (.exit 0) ⟨[none,some (.lp 0 []),none,some (.own (.sli .u8 hh)),some (.v (.int .i64 32))],ts,[⟨false,.arr .u8 32 hh⟩],G⟩):
  ∀(m i:Nat),i+m=32→WL (W E C lp74_0) [1,3,4] QQ (m+1) ⟨[none,some (.lp 0 []),none,some (.own (.sli .u8 (hh.take i))),some (.v (.int .i64 i))],[],[⟨false,.arr .u8 32 hh⟩],G⟩:=by
 intro m
 induction m with
 |zero=>
  intro i hi
  obtain rfl:i=32:=by omega
  rw[List.take_of_length_le (by omega)]
  refine WL_in lp74_0.eq_1 ?_
  simp (maxSteps:=1000000) (implicitDefEqProofs:=false) only[go_sem,↓reduceIte]
  exact hx _
 |succ m ih=>
  intro i hi
  have hi32:i < 32:=by omega
  have hlt:(i:Int) < 32:=by omega
  have ew:IntKind.i64.wrap ((i:Int)+1)=((i+1:Nat):Int):=by rw[w64 (by omega) (by omega)];simp
  have ihh:=ih (i+1) (by omega)
  have l1:(hh.take i).length=i:=by rw[List.length_take];omega
  rw[←snoc_step' (by omega:i < hh.length)]at ihh
  generalize hh.take i=u at*
  refine WL_in lp74_0.eq_1 ?_
  simp (maxSteps:=1000000) (implicitDefEqProofs:=false) only[hlt,hi32,ew,Int.toNat_natCast,go_sem,↓reduceIte]
  exact⟨by omega,by omega,ihh⟩
theorem walk74 {hh:List Int} (hl:hh.length=32) (h:Q (.own (.sli .u8 hh)) G):Wf E C pf74 [.arr .u8 32 hh] G Q:=by
 simp (maxSteps:=1000000) (implicitDefEqProofs:=false) only[pf74,go_sem,↓reduceIte]
 refine⟨33,?_⟩
 simp (maxSteps:=1000000) (implicitDefEqProofs:=false) only[go_sem,↓reduceIte]
 refine loop74 hl (fun ts=> ?_) 32 0 (by omega)
 simp (maxSteps:=1000000) (implicitDefEqProofs:=false) only[go_sem,↓reduceIte]
 exact h
theorem walk76 {a1 a2 a3 a4 a6:Int} {a5 a7 a8:List Int} (hw:((⟨a1,a2,a3,a4,a5,a6,a7,a8⟩:AttS)).wf) (h:Q (.v (.bool ((⟨a1,a2,a3,a4,a5,a6,a7,a8⟩:AttS)).may)) G):Wf E C pf76 [.agg [.int .i64 a1,.int .i64 a2,.int .i64 a3,.int .i64 a4,.arr .u8 32 a5,.int .i64 a6,.arr .u8 32 a7,.arr .u8 32 a8]] G Q:=by
 simp (maxSteps:=1000000) (implicitDefEqProofs:=false) only[pf76,go_sem,↓reduceIte]
 repeat' first|(intro _)|constructor
 all_goals
  refine finB h ?_
  unfold AttS.may
  first
  |(apply decide_eq_true;unfold AttS.May;dsimp only;omega)
  |(apply decide_eq_false;unfold AttS.May;dsimp only;omega)
  |(simp only[decide_eq_decide];unfold AttS.May;dsimp only;omega)
theorem walk83 {a1 a2 a3 a4 a6:Int} {a5 a7 a8:List Int} (h36:Abs.look l 85=some SNo) (hw:((⟨a1,a2,a3,a4,a5,a6,a7,a8⟩:AttS)).wf) (h:Q (.v (.int .i64 (if ((⟨a1,a2,a3,a4,a5,a6,a7,a8⟩:AttS)).may=true then 0 else 1))) G):Wf E (specOf l) pf83 [.agg [.int .i64 a1,.int .i64 a2,.int .i64 a3,.int .i64 a4,.arr .u8 32 a5,.int .i64 a6,.arr .u8 32 a7,.arr .u8 32 a8]] G Q:=by
 have ht:IntKind.i64.wrap (a3-1)=a3-1∨a3= -9223372036854775808:=by
  have:=hw.vi;unfold I64 at this;dsimp only at this
  by_cases e:a3= -9223372036854775808
  ·exact .inr e
  ·exact .inl (w64 (by omega) (by omega))
 by_cases h3:a2=3
 all_goals
  simp (maxSteps:=1000000) (implicitDefEqProofs:=false) only[pf83,h36,SNo_eq,h3,go_sem,↓reduceIte]
  repeat' first|(intro _)|constructor
  all_goals
   refine finI h ?_
   first
   |(rw[if_neg (by unfold AttS.may;rw[decide_eq_true_eq];unfold AttS.May;dsimp only;omega)])
   |(rw[if_pos (by unfold AttS.may;rw[decide_eq_true_eq];unfold AttS.May;dsimp only;omega)])
end Go.Proofs.YtegamlopcdjiaaaDoor.Sha
namespace Go.Proofs.YtegamlopcdjiaaaDoor.Sha
open Go Go.Abs Go.Abs.Sha
set_option linter.unusedSimpArgs false
set_option linter.unusedVariables false
set_option maxRecDepth 100000
def lp84_0:PC:=
 (PC.reg [nn (.t 16) (.bin .lss (.v 15) (.v 14))]).seq ((PC.cond (.t 16) PC.skip (PC.exit 0)).seq ((PC.block 1 ((PC.reg [nn (.t 17) (.iadrS 1 (.v 13)
  (.v 15)),nn (.t 18) (.load 1 false (.t 17)),ma 6 18]).seq (PC.reg [mm 19 0,mm 20 6,nn (.t 21) (.conv .u64 (.t 20)),nn (.t 22) (.call 72 [.t 19,
  .t 21]),ma 0 22]))).seq (PC.reg [nn (.t 23) (.bin .add (.v 15) (.c (.v (.int .i64 1)))),nn (.v 15) (.mv false (.t 23))])))
def pf84:PF:=
 PF.mk 2 16 35 ((PC.reg [nn (.v 3) (.box (.v 1)),nn (.v 4) (.mv true (.c (.own .nils)))]).seq (((PC.reg [nn (.v 7) (.fadr 1 1 (.v 3)),nn (.v 8) (.load
  1 false (.v 7)),nn (.v 9) (.fadr 2 2 (.v 3)),nn (.v 10) (.load 1 false (.v 9)),nn (.v 11) (.fadr 3 3 (.v 3)),nn (.v 12) (.load 1 false (.v 11)),
  nn (.v 13) (.buildS (some .i64) 1 (.int .i64 0) 3 [(0,.v 8),(1,.v 10),(2,.v 12)]),nn (.v 14) (.len (.v 13)),nn (.v 15) (.mv false (.c (.v
  (.int .i64 0))))]).seq (PC.block 0 (PC.loop [0,3,13,14,15] lp84_0))).seq ((PC.regD 0 [mm 24 0,nn (.t 25) (.fadr 4 4 (.v 3)),nn (.t 26) (.load
  32 true (.t 25)),nn (.t 27) (.call 71 [.t 24,.t 26]),nn (.t 28) (.fadr 5 36 (.v 3)),nn (.t 29) (.load 1 false (.t 28)),nn (.t 30) (.conv .u64
  (.t 29)),nn (.t 31) (.call 72 [.t 27,.t 30]),nn (.t 32) (.fadr 6 37 (.v 3)),nn (.t 33) (.load 32 true (.t 32)),nn (.t 34) (.call 71 [.t 31,.t
  33]),ma 4 34] []).seq PC.ret))) [(.v 4,none)]
def pf77:PF:=
 PF.mk 1 4 34 ((PC.reg [nn (.v 1) (.box (.v 0)),nn (.v 2) (.mv true (.c (.own .nils)))]).seq ((PC.regD 0 [nn (.t 4) (.fadr 1 1 (.v 1)),nn (.t 5)
  (.load 1 false (.t 4)),nn (.t 6) (.conv .u8 (.t 5)),nn (.t 7) (.buildS (some .u8) 1 (.int .u8 0) 1 [(0,.t 6)]),nn (.t 8) (.fadr 2 2 (.v 1)),nn
  (.t 9) (.load 1 false (.t 8)),nn (.t 10) (.conv .u64 (.t 9)),nn (.t 11) (.call 103 [.t 10]),nn (.t 12) (.app (some .u8) 1 1 (.t 7) (.t 11)),ma 3
  12] []).seq ((PC.regD 0 [nn (.t 13) (.mv true (.v 3)),nn (.t 14) (.fadr 3 3 (.v 1)),nn (.t 15) (.load 1 false (.t 14)),nn (.t 16) (.conv .u8 (.t
  15)),nn (.t 17) (.buildS (some .u8) 1 (.int .u8 0) 1 [(0,.t 16)]),nn (.t 18) (.app (some .u8) 1 1 (.t 13) (.t 17)),nn (.t 19) (.fadr 4 4 (.v 1)),
  nn (.t 20) (.load 32 true (.t 19)),nn (.t 21) (.call 74 [.t 20]),nn (.t 22) (.app (some .u8) 1 1 (.t 18) (.t 21)),ma 3 22] []).seq ((PC.reg [nn
  (.t 23) (.mv true (.v 3)),nn (.t 24) (.fadr 5 36 (.v 1)),nn (.t 25) (.load 1 false (.t 24)),nn (.t 26) (.conv .u64 (.t 25)),nn (.t 27) (.call 103
  [.t 26]),nn (.t 28) (.app (some .u8) 1 1 (.t 23) (.t 27)),ma 3 28]).seq ((PC.reg [nn (.t 29) (.mv true (.v 3)),nn (.t 30) (.fadr 6 37 (.v 1)),nn
  (.t 31) (.load 32 true (.t 30)),nn (.t 32) (.call 74 [.t 31]),nn (.t 33) (.app (some .u8) 1 1 (.t 29) (.t 32)),ma 2 33]).seq PC.ret))))) [(.v 2,
  none)]
def pf43:PF:=
 PF.mk 1 3 15 ((PC.reg [nn (.v 1) (.box (.v 0)),nn (.v 2) (.alloc (.agg [.int .i64 0,.int .i64 0,.int .i64 0,.int .i64 0,.arr .u8 32 [0,0,0,0,
  0,0,0,0,0,0,0,0,0,0,0,0,0,0,0,0,0,0,0,0,0,0,0,0,0,0,0,0],.int .i64 0,.arr .u8 32 [0,0,0,0,0,0,0,0,0,0,0,0,0,
  0,0,0,0,0,0,0,0,0,0,0,0,0,0,0,0,0,0,0],.arr .u8 32 [0,0,0,0,0,0,0,0,0,0,0,0,0,0,0,0,0,0,0,0,0,0,0,0,0,0,
  0,0,0,0,0,0]]))]).seq (((PC.reg [nn (.t 3) (.load 101 true (.v 1)),nn (.t 4) (.call 83 [.t 3]),nn (.t 5) (.bin .neq (.t 4) (.c (.v (.int .i64
  0))))]).seq (PC.cond (.t 5) ((PC.reg [nn (.t 6) (.build (.agg [.int .i64 0,.int .i64 0,.int .i64 0,.int .i64 0,.arr .u8 32 [0,0,0,0,0,0,0,
  0,0,0,0,0,0,0,0,0,0,0,0,0,0,0,0,0,0,0,0,0,0,0,0,0],.int .i64 0,.arr .u8 32 [0,0,0,0,0,0,0,0,0,0,0,0,0,0,0,0,
  0,0,0,0,0,0,0,0,0,0,0,0,0,0,0,0],.arr .u8 32 [0,0,0,0,0,0,0,0,0,0,0,0,0,0,0,0,0,0,0,0,0,0,0,0,0,0,0,0,0,
  0,0,0]]) []),nn .no (.store 101 (.v 2) (.t 6))]).seq PC.ret) PC.skip)).seq ((PC.regD 0 [nn (.t 7) (.fadr 0 0 (.v 1)),nn (.t 8) (.load 1 false (.t
  7)),nn (.t 9) (.load 101 true (.v 1)),nn (.t 10) (.call 84 [.c (.own .nils),.t 9]),nn (.t 11) (.buildS none 1 .nils 1 [(0,.t 10)]),nn (.t 12)
  (.call 82 [.t 8,.c (.v (.int .u8 1)),.t 11]),nn (.t 13) (.fadr 7 69 (.v 1)),nn .no (.store 32 (.t 13) (.t 12))] []).seq ((PC.reg [nn (.t 14)
  (.load 101 true (.v 1)),nn .no (.store 101 (.v 2) (.t 14))]).seq PC.ret)))) [(.v 2,some (101,true))]
def pf56:PF:=
 PF.mk 1 3 16 ((PC.reg [nn (.v 1) (.box (.v 0)),nn (.v 2) (.mv true (.c (.v (.bool false))))]).seq ((PC.regD 0 [nn (.t 3) (.load 101 true (.v 1)),nn
  (.t 4) (.call 83 [.t 3]),nn (.t 5) (.bin .eql (.t 4) (.c (.v (.int .i64 0)))),nn (.t 6) (.mv false (.t 5)),⟨.t 7,.fadr 0 0 (.v 1),some (.t 6,
  true)⟩,⟨.t 8,.load 1 false (.t 7),some (.t 6,true)⟩,⟨.t 9,.fadr 7 69 (.v 1),some (.t 6,true)⟩,⟨.t 10,.load 32 true (.t 9),some (.t 6,
  true)⟩,⟨.t 11,.load 101 true (.v 1),some (.t 6,true)⟩,⟨.t 12,.call 84 [.c (.own .nils),.t 11],some (.t 6,true)⟩,⟨.t 13,.buildS none 1
  .nils 1 [(0,.t 12)],some (.t 6,true)⟩,⟨.t 14,.call 46 [.t 8,.c (.v (.int .u8 1)),.t 10,.t 13],some (.t 6,true)⟩,nn (.t 15) (.pick (.t 6)
  (.t 14) (.c (.v (.bool false)))),ma 2 15] []).seq PC.ret)) [(.v 2,none)]
def pf90:PF:=
 PF.mk 2 5 14 ((PC.reg [nn (.v 2) (.box (.v 0)),nn (.v 3) (.box (.v 1)),nn (.v 4) (.mv true (.c (.v (.bool false))))]).seq ((PC.regD 0 [nn (.t 5)
  (.fadr 0 0 (.v 3)),nn (.t 6) (.load 1 false (.t 5)),nn (.t 7) (.fadr 7 69 (.v 3)),nn (.t 8) (.load 32 true (.t 7)),nn (.t 9) (.fadr 0 0 (.v 2)),
  nn .no (.store 1 (.t 9) (.t 6)),nn (.t 10) (.fadr 7 69 (.v 2)),nn .no (.store 32 (.t 10) (.t 8))] [(3,5)]).seq ((PC.reg [nn (.t 11) (.load 101
  true (.v 2)),nn (.t 12) (.load 101 true (.v 3)),nn (.t 13) (.eqa false (.agg (.cons 0 1 false .int (.cons 1 1 false .int (.cons 2 1 false .int
  (.cons 3 1 false .int (.cons 4 32 true (.arr 32) (.cons 36 1 false .int (.cons 37 32 true (.arr 32) (.cons 69 32 true (.arr 32) .nil))))))))) (.t 11)
  (.t 12)),ma 4 13]).seq PC.ret))) [(.v 4,none)]
attribute [local irreducible] W Wops WopsD WL Wop WopD
variable {E:Env} {C:Abs.Spec} {l:List (Nat×Spec1)} {G:List (Nat×V)} {Q:R→List (Nat×V)→Prop}
set_option maxHeartbeats 1000000
def STg:Spec1
 |[x,.agg [.int .i64 a1,.int .i64 a2,.int .i64 a3,.int .i64 a4,.arr .u8 32 a5,.int .i64 a6,.arr .u8 32 a7,.arr .u8 32 a8]],G,Q=>∃b,(byV x=some b∧b.length < 10000000000∧((⟨a1,a2,a3,a4,a5,a6,a7,a8⟩:AttS)).wf∧((⟨a1,a2,a3,a4,a5,a6,a7,a8⟩:AttS)).May)∧Q (.own (.sli .u8 (b++((⟨a1,a2,a3,a4,a5,a6,a7,a8⟩:AttS)).said))) G
 |_,_,_=>False
theorem STg_eq {x a1 a2 a3 a4 a5 a6 a7 a8}:STg [x,.agg [.int .i64 a1,.int .i64 a2,.int .i64 a3,.int .i64 a4,.arr .u8 32 a5,.int .i64 a6,.arr .u8 32 a7,.arr .u8 32 a8]] G Q=(∃b,(byV x=some b∧b.length < 10000000000∧((⟨a1,a2,a3,a4,a5,a6,a7,a8⟩:AttS)).wf∧((⟨a1,a2,a3,a4,a5,a6,a7,a8⟩:AttS)).May)∧Q (.own (.sli .u8 (b++((⟨a1,a2,a3,a4,a5,a6,a7,a8⟩:AttS)).said))) G):=rfl
def SSi (kt:List Int):Spec1
 |[.agg [.int .i64 a1,.int .i64 a2,.int .i64 a3,.int .i64 a4,.arr .u8 32 a5,.int .i64 a6,.arr .u8 32 a7,.arr .u8 32 a8]],G,Q=>((⟨a1,a2,a3,a4,a5,a6,a7,a8⟩:AttS)).wf∧Q (.v (((⟨a1,a2,a3,a4,a5,a6,a7,a8⟩:AttS)).sign kt).v) G
 |_,_,_=>False
theorem SSi_eq {kt a1 a2 a3 a4 a5 a6 a7 a8}:SSi kt [.agg [.int .i64 a1,.int .i64 a2,.int .i64 a3,.int .i64 a4,.arr .u8 32 a5,.int .i64 a6,.arr .u8 32 a7,.arr .u8 32 a8]] G Q=(((⟨a1,a2,a3,a4,a5,a6,a7,a8⟩:AttS)).wf∧Q (.v (((⟨a1,a2,a3,a4,a5,a6,a7,a8⟩:AttS)).sign kt).v) G):=rfl
def SRi (kt:List Int):Spec1
 |[.agg [.int .i64 a1,.int .i64 a2,.int .i64 a3,.int .i64 a4,.arr .u8 32 a5,.int .i64 a6,.arr .u8 32 a7,.arr .u8 32 a8]],G,Q=>((⟨a1,a2,a3,a4,a5,a6,a7,a8⟩:AttS)).wf∧Q (.v (.bool (((⟨a1,a2,a3,a4,a5,a6,a7,a8⟩:AttS)).right kt))) G
 |_,_,_=>False
theorem SRi_eq {kt a1 a2 a3 a4 a5 a6 a7 a8}:SRi kt [.agg [.int .i64 a1,.int .i64 a2,.int .i64 a3,.int .i64 a4,.arr .u8 32 a5,.int .i64 a6,.arr .u8 32 a7,.arr .u8 32 a8]] G Q=(((⟨a1,a2,a3,a4,a5,a6,a7,a8⟩:AttS)).wf∧Q (.v (.bool (((⟨a1,a2,a3,a4,a5,a6,a7,a8⟩:AttS)).right kt))) G):=rfl
def SAl:Spec1
 |[.agg [.int .i64 a1,.int .i64 a2,.int .i64 a3,.int .i64 a4,.arr .u8 32 a5,.int .i64 a6,.arr .u8 32 a7,.arr .u8 32 a8],.agg [.int .i64 b1,.int .i64 b2,.int .i64 b3,.int .i64 b4,.arr .u8 32 b5,.int .i64 b6,.arr .u8 32 b7,.arr .u8 32 b8]],G,Q=>Q (.v (.bool (((⟨a1,a2,a3,a4,a5,a6,a7,a8⟩:AttS)).alike (⟨b1,b2,b3,b4,b5,b6,b7,b8⟩:AttS)))) G
 |_,_,_=>False
theorem SAl_eq {a1 a2 a3 a4 a5 a6 a7 a8 b1 b2 b3 b4 b5 b6 b7 b8}:SAl [.agg [.int .i64 a1,.int .i64 a2,.int .i64 a3,.int .i64 a4,.arr .u8 32 a5,.int .i64 a6,.arr .u8 32 a7,.arr .u8 32 a8],.agg [.int .i64 b1,.int .i64 b2,.int .i64 b3,.int .i64 b4,.arr .u8 32 b5,.int .i64 b6,.arr .u8 32 b7,.arr .u8 32 b8]] G Q=(Q (.v (.bool (((⟨a1,a2,a3,a4,a5,a6,a7,a8⟩:AttS)).alike (⟨b1,b2,b3,b4,b5,b6,b7,b8⟩:AttS)))) G):=rfl
theorem u64_of {n:Int} (h:0≤n) (h2:n≤9223372036854775807):IntKind.u64.wrap n=n:=by simp only[IntKind.wrap,IntKind.bits,IntKind.signed];simp;omega
theorem loop84 {z0:Bx} {QQ:Ex→St→Prop} {a2 a3 a4:Int} {b:List Int} (h52:Abs.look l 72=some SNu) (hb:b.length < 10000000000) (h2:0≤a2∧a2 < 2000000000000) (h3:0≤a3∧a3 < 2000000000000) (h4:0≤a4∧a4 < 2000000000000)
  (hx:∀ts,QQ (.exit 0) ⟨[some (.own (.sli .u8 (b++num a2.toNat++num a3.toNat++num a4.toNat))),none,none,some (.lp 0 []),none,none,none,none,none,none,none,none,none,some (.own (.sli .i64 [a2,a3,a4])),some (.v (.int .i64 3)),some (.v (.int .i64 3))],ts,[z0],G⟩):WL (W E (specOf l) lp84_0) [0,3,13,14,15] QQ 4 ⟨[some (.v (.sli .u8 b)),none,none,some (.lp 0 []),none,none,none,none,none,none,none,none,none,some (.own (.sli .i64 [a2,a3,a4])),some (.v (.int .i64 3)),some (.v (.int .i64 0))],[],[z0],G⟩:=by
 obtain⟨m2,n2⟩:=num_ok (n:=a2.toNat) (by omega)
 obtain⟨m3,n3⟩:=num_ok (n:=a3.toNat) (by omega)
 obtain⟨m4,n4⟩:=num_ok (n:=a4.toNat) (by omega)
 have w2:=u64_of h2.1 (by omega)
 have w3:=u64_of h3.1 (by omega)
 have w4:=u64_of h4.1 (by omega)
 refine WL_in lp84_0.eq_1 ?_
 simp (maxSteps:=1000000) (implicitDefEqProofs:=false) (disch:=omega) only[h52,SNu_eq,w2,w3,w4,go_sem,↓reduceIte,w64]
 refine⟨_,⟨rfl,by omega,by omega,by omega⟩,?_⟩
 refine WL_in lp84_0.eq_1 ?_
 simp (maxSteps:=1000000) (implicitDefEqProofs:=false) (disch:=omega) only[h52,SNu_eq,w2,w3,w4,go_sem,↓reduceIte,w64]
 refine⟨_,⟨rfl,by simp only[List.length_append];omega,by omega,by omega⟩,?_⟩
 refine WL_in lp84_0.eq_1 ?_
 simp (maxSteps:=1000000) (implicitDefEqProofs:=false) (disch:=omega) only[h52,SNu_eq,w2,w3,w4,go_sem,↓reduceIte,w64]
 refine⟨_,⟨rfl,by simp only[List.length_append];omega,by omega,by omega⟩,?_⟩
 refine WL_in lp84_0.eq_1 ?_
 simp (maxSteps:=1000000) (implicitDefEqProofs:=false) (disch:=omega) only[h52,SNu_eq,w2,w3,w4,go_sem,↓reduceIte,w64]
 exact hx _
theorem walk84 {a1 a2 a3 a4 a6:Int} {a5 a7 a8:List Int} {b:List Int} (h52:Abs.look l 72=some SNu) (h46:Abs.look l 71=some SHa) (hb:b.length < 10000000000) (hw:((⟨a1,a2,a3,a4,a5,a6,a7,a8⟩:AttS)).wf) (hm:((⟨a1,a2,a3,a4,a5,a6,a7,a8⟩:AttS)).May) (h:Q (.own (.sli .u8 (b++((⟨a1,a2,a3,a4,a5,a6,a7,a8⟩:AttS)).said))) G):Wf E (specOf l) pf84 [.sli .u8 b,.agg [.int .i64 a1,.int .i64 a2,.int .i64 a3,.int .i64 a4,.arr .u8 32 a5,.int .i64 a6,.arr .u8 32 a7,.arr .u8 32 a8]] G Q:=by
 obtain⟨m1,m2,m3,m4,m5,m6⟩:=hm
 dsimp only at m1 m2 m3 m4 m5 m6
 obtain⟨r2,n2⟩:=num_ok (n:=a2.toNat) (by omega)
 obtain⟨r3,n3⟩:=num_ok (n:=a3.toNat) (by omega)
 obtain⟨r4,n4⟩:=num_ok (n:=a4.toNat) (by omega)
 obtain⟨r6,n6⟩:=num_ok (n:=a6.toNat) (by omega)
 have w6:=u64_of (n:=a6) (by omega) (by omega)
 have l5:a5.length=32:=hw.ha.2
 have l7:a7.length=32:=hw.pa.2
 simp (maxSteps:=1000000) (implicitDefEqProofs:=false) only[pf84,go_sem,↓reduceIte]
 refine⟨4,?_⟩
 simp (maxSteps:=1000000) (implicitDefEqProofs:=false) only[go_sem,↓reduceIte]
 refine loop84 (a2:=a2) (a3:=a3) (a4:=a4) h52 hb (by omega) (by omega) (by omega) (fun ts=> ?_)
 simp (maxSteps:=1000000) (implicitDefEqProofs:=false) only[h46,SHa_eq,h52,SNu_eq,w6,go_sem,↓reduceIte]
 refine⟨_,⟨byV_u8 _,by simp only[List.length_append];omega,l5⟩,_,⟨byV_u8 _,by simp only[List.length_append];omega,by omega,by omega⟩,_,⟨byV_u8 _,by simp only[List.length_append];omega,l7⟩,?_⟩
 unfold AttS.said at h;dsimp only at h
 simpa only[List.append_assoc]using h
theorem walk43 {a1 a2 a3 a4 a6:Int} {a5 a7 a8:List Int} {kt:List Int} (h11:Abs.look l 83=some SCk) (h35:Abs.look l 84=some STg) (h34:Abs.look l 82=some (STa kt)) (hw:((⟨a1,a2,a3,a4,a5,a6,a7,a8⟩:AttS)).wf) (h:Q (.v (((⟨a1,a2,a3,a4,a5,a6,a7,a8⟩:AttS)).sign kt).v) G):Wf E (specOf l) pf43 [.agg [.int .i64 a1,.int .i64 a2,.int .i64 a3,.int .i64 a4,.arr .u8 32 a5,.int .i64 a6,.arr .u8 32 a7,.arr .u8 32 a8]] G Q:=by
 by_cases hm:((⟨a1,a2,a3,a4,a5,a6,a7,a8⟩:AttS)).May
 ·have hmay:((⟨a1,a2,a3,a4,a5,a6,a7,a8⟩:AttS)).may=true:=decide_eq_true hm
  obtain⟨s1,s2⟩:=AttS.said_ok hw hm
  unfold AttS.sign at h;rw[if_pos hmay]at h
  simp (maxSteps:=1000000) (implicitDefEqProofs:=false) only[pf43,h11,SCk_eq,hmay,h35,STg_eq,h34,STa_eq,go_sem,↓reduceIte]
  refine⟨hw,[],⟨rfl,by decide,hw,hm⟩,((⟨a1,a2,a3,a4,a5,a6,a7,a8⟩:AttS)).said,_,⟨rowV_sle _,by simp,by simp[catL,byV],s1,by omega⟩,?_⟩
  exact h
 ·have hmay:((⟨a1,a2,a3,a4,a5,a6,a7,a8⟩:AttS)).may=false:=decide_eq_false hm
  unfold AttS.sign at h;rw[if_neg (by rw[hmay];exact Bool.false_ne_true)]at h
  simp (maxSteps:=1000000) (implicitDefEqProofs:=false) only[pf43,h11,SCk_eq,hmay,go_sem,↓reduceIte]
  exact⟨hw,h⟩
theorem walk56 {a1 a2 a3 a4 a6:Int} {a5 a7 a8:List Int} {kt:List Int} (h11:Abs.look l 83=some SCk) (h35:Abs.look l 84=some STg) (h37:Abs.look l 46=some (SCh kt)) (hw:((⟨a1,a2,a3,a4,a5,a6,a7,a8⟩:AttS)).wf) (h:Q (.v (.bool (((⟨a1,a2,a3,a4,a5,a6,a7,a8⟩:AttS)).right kt))) G):Wf E (specOf l) pf56 [.agg [.int .i64 a1,.int .i64 a2,.int .i64 a3,.int .i64 a4,.arr .u8 32 a5,.int .i64 a6,.arr .u8 32 a7,.arr .u8 32 a8]] G Q:=by
 by_cases hm:((⟨a1,a2,a3,a4,a5,a6,a7,a8⟩:AttS)).May
 ·have hmay:((⟨a1,a2,a3,a4,a5,a6,a7,a8⟩:AttS)).may=true:=decide_eq_true hm
  obtain⟨s1,s2⟩:=AttS.said_ok hw hm
  have hn:decide (1≤a1∧a1≤21)=true:=decide_eq_true hm.1
  unfold AttS.right at h;rw[hmay,Bool.true_and]at h
  simp (maxSteps:=1000000) (implicitDefEqProofs:=false) only[pf56,h11,SCk_eq,hmay,h35,STg_eq,h37,SCh_eq,hn,go_sem,↓reduceIte]
  refine⟨hw,[],⟨rfl,by decide,hw,hm⟩,((⟨a1,a2,a3,a4,a5,a6,a7,a8⟩:AttS)).said,_,⟨hw.ta,rowV_sle _,by simp,by simp[catL,byV],s1,by omega⟩,?_⟩
  exact h
 ·have hmay:((⟨a1,a2,a3,a4,a5,a6,a7,a8⟩:AttS)).may=false:=decide_eq_false hm
  unfold AttS.right at h;rw[hmay,Bool.false_and]at h
  simp (maxSteps:=1000000) (implicitDefEqProofs:=false) only[pf56,h11,SCk_eq,hmay,go_sem,↓reduceIte]
  exact⟨hw,h⟩
theorem walk90 {a1 a2 a3 a4 a6:Int} {a5 a7 a8:List Int} {b1 b2 b3 b4 b6:Int} {b5 b7 b8:List Int} (h:Q (.v (.bool (((⟨a1,a2,a3,a4,a5,a6,a7,a8⟩:AttS)).alike (⟨b1,b2,b3,b4,b5,b6,b7,b8⟩:AttS)))) G):Wf E C pf90 [.agg [.int .i64 a1,.int .i64 a2,.int .i64 a3,.int .i64 a4,.arr .u8 32 a5,.int .i64 a6,.arr .u8 32 a7,.arr .u8 32 a8],.agg [.int .i64 b1,.int .i64 b2,.int .i64 b3,.int .i64 b4,.arr .u8 32 b5,.int .i64 b6,.arr .u8 32 b7,.arr .u8 32 b8]] G Q:=by
 simp (maxSteps:=1000000) (implicitDefEqProofs:=false) only[pf90,go_sem,↓reduceIte]
 exact finB h (by unfold AttS.alike;rw[Bool.eq_iff_iff];simp)
end Go.Proofs.YtegamlopcdjiaaaDoor.Sha
namespace Go.Abs.Sha
open Go Go.Abs
set_option maxRecDepth 100000
def K256:List Int:=[1116352408,1899447441,3049323471,3921009573,961987163,1508970993,2453635748,2870763221,3624381080,310598401,607225278,1426881987,1925078388,2162078206,2614888103,3248222580,3835390401,4022224774,264347078,604807628,770255983,1249150122,1555081692,1996064986,2554220882,2821834349,2952996808,3210313671,3336571891,3584528711,113926993,338241895,666307205,773529912,1294757372,1396182291,1695183700,1986661051,2177026350,2456956037,2730485921,2820302411,3259730800,3345764771,3516065817,3600352804,4094571909,275423344,430227734,506948616,659060556,883997877,958139571,1322822218,1537002063,1747873779,1955562222,2024104815,2227730452,2361852424,2428436474,2756734187,3204031479,3329325298]
end Go.Abs.Sha
namespace Go.Abs.Sha
open Go Go.Abs Go.Abs.Srt
set_option linter.unusedVariables false
set_option linter.unusedSimpArgs false
structure CertS where
 att:AttS
 sigs:List (Int×List Int)
def sgV (p:Int×List Int):V:= .agg [.int .i64 p.1,.arr .u8 32 p.2]
def CertS.v (c:CertS):V:= .agg [c.att.v,.sle 33 (c.sigs.map sgV)]
def CertS.zero:CertS:=⟨.zero,[]⟩
def bareA (a:AttS):AttS:={ a with who:=0,ta:=zero32 }
def firstsA (n:Int) (l:List AttS):List AttS:=(List.range' 1 n.toNat).filterMap fun (k:Nat)=>l.find? fun a=>decide (a.who=(k:Int))
def quo (n:Int):Int:=if 1≤n∧n≤21∧n % 2=1 then n / 2+1 else 0
theorem quo_le {n:Int} (h:quo n≠0):1≤n∧n≤21∧n % 2=1∧quo n=n / 2+1:=by
 unfold quo at*;split at h
 ·rename_i c;rw[if_pos c];exact⟨c.1,c.2.1,c.2.2,rfl⟩
 ·exact absurd rfl h
theorem quo_nn (n:Int):0≤quo n∧quo n≤11:=by
 unfold quo;split<;>omega
def mkCert (kt:List Int) (n:Int) (l:List AttS):CertS×Int:=match l with
 |[]=>(.zero,1)
 |a::_=>if quo n=0 then (.zero,1)else if (l.any fun x=> !(x.right kt)||decide (n < x.who))=true then (.zero,7)else if (l.any fun x=> !(x.alike a))=true then (.zero,1)
  else if ((firstsA n l).length:Int) < quo n then (.zero,3)else (⟨bareA a,((firstsA n l).take (quo n).toNat).map fun x=>(x.who,x.ta)⟩,0)
def keyBy:V→Int
 | .agg (.int _ a::_)=>a
 |_=>0
theorem keyBy_v (a:AttS):keyBy a.v=a.who:=rfl
theorem find_v {l:List AttS} {k:Int}:(l.map AttS.v).find? (fun x=>decide (keyBy x=k))=(l.find? fun a=>decide (a.who=k)).map AttS.v:=by
 induction l with
 |nil=>rfl
 |cons a l ih=>
  by_cases h:a.who=k
  ·simp[List.find?_cons,keyBy_v,h]
  ·simp only[List.map_cons,List.find?_cons,keyBy_v,h,decide_false]
   exact ih
theorem cpt_atts {l:List AttS} {n:Int} (h:∀a∈l,1≤a.who∧a.who≤n):cpt keyBy (srt keyBy (l.map AttS.v))=(firstsA n l).map AttS.v:=by
 rw[cpt_srt (n:=n.toNat) (fun x hx=>by
  obtain⟨a,ha,rfl⟩:=List.mem_map.1 hx
  have:=h a ha
  rw[keyBy_v];omega)]
 unfold firstsA
 rw[List.map_filterMap]
 congr 1;funext k
 exact find_v
theorem firstsA_mem {n:Int} {l:List AttS} {a:AttS} (h:a∈firstsA n l):a∈l:=by
 unfold firstsA at h
 obtain⟨k,_,h⟩:=List.mem_filterMap.1 h
 exact List.mem_of_find?_eq_some h
theorem _root_.Go.Abs.Row.one {G0 G:List (Nat×V)} {sz:Nat} {z x:V} {els:List V} (h:Row G0 G sz z x els):x.size=1∧x.isAgg=false:=by
 obtain⟨_,⟨rfl,_⟩|⟨id,c,L,rfl,_⟩⟩:=h<;>exact⟨rfl,rfl⟩
theorem _root_.Go.Abs.Row.like {G0 G G1 G2:List (Nat×V)} {sz:Nat} {z x y:V} {els e2:List V} (h:Row G0 G sz z x els) (h2:Row G1 G2 sz z y e2):y.same x=true:=by
 obtain⟨_,⟨rfl,_⟩|⟨id,c,L,rfl,_⟩⟩:=h<;>obtain⟨_,⟨rfl,_⟩|⟨id,c,L,rfl,_⟩⟩:=h2<;>rfl
theorem _root_.Go.Abs.Row.base {G0 G1 G:List (Nat×V)} {sz:Nat} {z x:V} {els:List V} (h:Row G1 G sz z x els) (he:Go.Abs.Ext G0 G1):Row G0 G sz z x els:=by
 obtain⟨h0,h⟩:=h
 refine⟨he.trans h0,?_⟩
 rcases h with h|⟨id,c,L,h1,h2,h3⟩
 ·exact .inl h
 ·exact .inr ⟨id,c,L,h1,he.none h2,h3⟩
theorem low_cert {G0 G:List (Nat×V)} {z x:V} {els:List V} {a:V} {e:Int} (h:Row G0 G 33 z x els):Low G0 (.tup [.agg [a,x],.int .i64 e]) G (.tup [.agg [a,.sle 33 els],.int .i64 e]) G0:=by
 refine h.fz (fun y=> .tup [.agg [a,y],.int .i64 e]) (fun id L k y hy=> ?_) (fun y hy=> ?_)
 ·simp only[R.Fz]
  refine⟨_,rfl,?_⟩
  unfold V.FzL;refine⟨_,_,rfl,?_,?_⟩
  ·unfold V.Fz;refine⟨_,rfl,?_⟩
   unfold V.FzL;refine⟨_,_,rfl,V.Fz.refl _,?_⟩
   unfold V.FzL;refine⟨_,_,rfl,hy,?_⟩
   unfold V.FzL;rfl
  ·exact V.FzL.refl _
 ·simp only[R.Wk]
  refine⟨_,rfl,?_⟩
  unfold V.WkL;refine⟨_,_,rfl,?_,V.WkL.refl _⟩
  unfold V.Wk;refine⟨_,rfl,?_⟩
  unfold V.WkL;refine⟨_,_,rfl,V.Wk.refl _,?_⟩
  unfold V.WkL;refine⟨_,_,rfl,hy,?_⟩
  unfold V.WkL;rfl
end Go.Abs.Sha
