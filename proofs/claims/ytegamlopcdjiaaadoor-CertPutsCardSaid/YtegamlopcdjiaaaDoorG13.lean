/- Laws over plain values, and what functions of the program hand back; no conditions. -/
import Derived.Test.YtegamlopcdjiaaaDoorG12
namespace Go.Proofs.YtegamlopcdjiaaaDoor.Sha
open Go Go.Abs Go.Abs.Sha
set_option linter.unusedSimpArgs false
set_option linter.unusedVariables false
set_option maxRecDepth 100000
def lp130_0:PC:=
 ((PC.reg [mm 37 7,nn (.t 38) (.bin .lss (.t 37) (.c (.v (.int .i64 64))))]).seq (PC.cond (.t 38) PC.skip (PC.exit 4))).seq ((PC.block 5 ((PC.regD 0
  [mm 41 7,nn (.t 42) (.bin .sub (.t 41) (.c (.v (.int .i64 15)))),nn (.t 43) (.iadrA 64 (.v 3) (.t 42)),nn (.t 44) (.load 1 false (.t 43)),mm 45
  7,nn (.t 46) (.bin .sub (.t 45) (.c (.v (.int .i64 2)))),nn (.t 47) (.iadrA 64 (.v 3) (.t 46)),nn (.t 48) (.load 1 false (.t 47)),ma 8 44,ma 9
  48] []).seq ((PC.reg [mm 49 8,nn (.t 50) (.call 131 [.t 49,.c (.v (.int .i64 7))]),mm 51 8,nn (.t 52) (.call 131 [.t 51,.c (.v (.int .i64
  18))]),nn (.t 53) (.bin .xor (.t 50) (.t 52)),mm 54 8,nn (.t 55) (.bin .shr (.t 54) (.c (.v (.int .u64 3)))),nn (.t 56) (.bin .xor (.t 53) (.t
  55)),ma 10 56]).seq ((PC.reg [mm 57 9,nn (.t 58) (.call 131 [.t 57,.c (.v (.int .i64 17))]),mm 59 9,nn (.t 60) (.call 131 [.t 59,.c (.v (.int
  .i64 19))]),nn (.t 61) (.bin .xor (.t 58) (.t 60)),mm 62 9,nn (.t 63) (.bin .shr (.t 62) (.c (.v (.int .u64 10)))),nn (.t 64) (.bin .xor (.t 61)
  (.t 63)),ma 11 64]).seq (PC.regD 0 [mm 65 7,mm 66 7,nn (.t 67) (.bin .sub (.t 66) (.c (.v (.int .i64 16)))),nn (.t 68) (.iadrA 64 (.v 3) (.t
  67)),nn (.t 69) (.load 1 false (.t 68)),mm 70 10,nn (.t 71) (.bin .add (.t 69) (.t 70)),mm 72 7,nn (.t 73) (.bin .sub (.t 72) (.c (.v (.int .i64
  7)))),nn (.t 74) (.iadrA 64 (.v 3) (.t 73)),nn (.t 75) (.load 1 false (.t 74)),nn (.t 76) (.bin .add (.t 71) (.t 75)),mm 77 11,nn (.t 78) (.bin
  .add (.t 76) (.t 77)),nn (.t 79) (.iadrA 64 (.v 3) (.t 65)),nn .no (.store 1 (.t 79) (.t 78))] []))))).seq (PC.reg [mm 39 7,nn (.t 40) (.bin .add
  (.t 39) (.c (.v (.int .i64 1)))),ma 7 40]))
def lp130_1:PC:=
 (PC.reg [nn (.t 23) (.bin .lss (.v 22) (.v 21))]).seq ((PC.cond (.t 23) PC.skip (PC.exit 2)).seq ((PC.block 3 ((PC.reg [nn (.t 24) (.iadrS 1 (.v 20)
  (.v 22)),nn (.t 25) (.load 1 false (.t 24)),ma 6 25]).seq (PC.reg [mm 26 4,mm 27 4,nn (.t 28) (.iadrA 64 (.v 3) (.t 27)),nn (.t 29) (.load 1
  false (.t 28)),nn (.t 30) (.bin .shl (.t 29) (.c (.v (.int .u64 8)))),mm 31 6,nn (.t 32) (.conv .u32 (.t 31)),nn (.t 33) (.bin .or (.t 30) (.t
  32)),nn (.t 34) (.iadrA 64 (.v 3) (.t 26)),nn .no (.store 1 (.t 34) (.t 33))]))).seq (PC.reg [nn (.t 35) (.bin .add (.v 22) (.c (.v (.int .i64
  1)))),nn (.v 22) (.mv false (.t 35))])))
def lp130_2:PC:=
 (PC.reg [nn (.v 13) (.bin .lss (.v 12) (.c (.v (.int .i64 16))))]).seq ((PC.cond (.v 13) PC.skip (PC.exit 0)).seq ((PC.block 1 ((PC.reg [nn (.v 14)
  (.mv true (.v 12)),nn (.v 4) (.mv true (.v 14))]).seq ((PC.reg [nn (.v 15) (.mv false (.v 4)),nn (.v 16) (.bin .mul (.c (.v (.int .i64 4))) (.v
  15)),nn (.v 17) (.mv false (.v 4)),nn (.v 18) (.bin .mul (.c (.v (.int .i64 4))) (.v 17)),nn (.v 19) (.bin .add (.v 18) (.c (.v (.int .i64 4)))),
  nn (.v 20) (.slcA 64 false (.v 1) (some (.v 16)) (some (.v 19)) none),nn (.v 21) (.len (.v 20)),nn (.v 22) (.mv false (.c (.v (.int .i64
  0))))]).seq (PC.block 2 (PC.loop [1,2,3,4,12,20,21,22] lp130_1))))).seq (PC.reg [nn (.t 36) (.bin .add (.v 12) (.c (.v (.int .i64 1)))),nn
  (.v 12) (.mv false (.t 36))])))
def pf130:PF:=
 PF.mk 1 23 81 ((PC.reg [nn (.v 1) (.box (.v 0)),nn (.v 2) (.alloc (.arr .u32 64 [0,0,0,0,0,0,0,0,0,0,0,0,0,0,0,0,0,0,0,0,0,0,0,
  0,0,0,0,0,0,0,0,0,0,0,0,0,0,0,0,0,0,0,0,0,0,0,0,0,0,0,0,0,0,0,0,0,0,0,0,0,0,0,0,0]))]).seq ((PC.reg [nn (.v
  3) (.alloc (.arr .u32 64 [0,0,0,0,0,0,0,0,0,0,0,0,0,0,0,0,0,0,0,0,0,0,0,0,0,0,0,0,0,0,0,0,0,0,0,0,0,0,0,0,0,
  0,0,0,0,0,0,0,0,0,0,0,0,0,0,0,0,0,0,0,0,0,0,0]))]).seq (((PC.reg [nn (.v 12) (.mv false (.c (.v (.int .i64 0))))]).seq
  (PC.block 0 (PC.loop [1,2,3,12] lp130_2))).seq (((PC.reg [nn (.v 7) (.mv true (.c (.v (.int .i64 16))))]).seq (PC.block 4 (PC.loop [2,3,7]
  lp130_0))).seq ((PC.reg [nn (.t 80) (.load 64 true (.v 3)),nn .no (.store 64 (.v 2) (.t 80))]).seq PC.ret))))) [(.v 2,some (64,true))]
attribute [local irreducible] W Wops WopsD WL Wop WopD
variable {E:Env} {C:Abs.Spec} {l:List (Nat×Spec1)} {G:List (Nat×V)} {Q:R→List (Nat×V)→Prop}
set_option maxHeartbeats 1000000
theorem inner130 {b ws:List Int} {i:Nat} {c0 c1 c2 c3:Int} {z:Bx} {QQ:Ex→St→Prop} (hi:i < 64) (hw:ws.length=64) (h0:ws.getD i 0=0) (hc0:0≤c0∧c0≤255) (hc1:0≤c1∧c1≤255) (hc2:0≤c2∧c2≤255) (hc3:0≤c3∧c3≤255)
  (hx:∀ts,QQ (.exit 2) ⟨[none,some (.lp 0 []),some (.lp 1 []),some (.lp 2 []),some (.v (.int .i64 i)),none,none,none,none,none,none,none,some (.v (.int .i64 i)),none,none,none,none,none,none,none,some (.v (.sli .u8 [c0,c1,c2,c3])),some (.v (.int .i64 4)),some (.v (.int .i64 4))],ts,[⟨true,.arr .u8 64 b⟩,z,⟨false,.arr .u32 64 (ws.set i (c0*16777216+c1*65536+c2*256+c3))⟩],G⟩):
  WL (W E C lp130_1) [1,2,3,4,12,20,21,22] QQ 5 ⟨[none,some (.lp 0 []),some (.lp 1 []),some (.lp 2 []),some (.v (.int .i64 i)),none,none,none,none,none,none,none,some (.v (.int .i64 i)),none,none,none,none,none,none,none,some (.v (.sli .u8 [c0,c1,c2,c3])),some (.v (.int .i64 4)),some (.v (.int .i64 0))],[],[⟨true,.arr .u8 64 b⟩,z,⟨false,.arr .u32 64 ws⟩],G⟩:=by
 have hi2:(0:Int)≤i∧(i:Int) < 64:=by omega
 have hg:∀a,(ws.set i a).getD i 0=a:=fun a=>getD_set_self (by omega)
 refine WL_in lp130_1.eq_1 ?_
 simp (maxSteps:=1000000) (implicitDefEqProofs:=false) (disch:=omega) only[h0,Int.toNat_natCast,hi,hi2,pw8,List.set_set,hg,go_sem,↓reduceIte,w64]
 have ob0:bOr .u32 (IntKind.u32.wrap 0) (IntKind.u32.wrap c0)=c0:=by
  have:=or_byte (x:=0) (c:=c0) (by omega) hc0
  rw[show (0:Int)*256=0 from rfl,show (0:Int)+c0=c0 by omega]at this;exact this
 rw[ob0]
 refine WL_in lp130_1.eq_1 ?_
 simp (maxSteps:=1000000) (implicitDefEqProofs:=false) (disch:=omega) only[h0,Int.toNat_natCast,hi,hi2,pw8,List.set_set,hg,go_sem,↓reduceIte,w64]
 rw[or_byte (by omega) hc1]
 refine WL_in lp130_1.eq_1 ?_
 simp (maxSteps:=1000000) (implicitDefEqProofs:=false) (disch:=omega) only[h0,Int.toNat_natCast,hi,hi2,pw8,List.set_set,hg,go_sem,↓reduceIte,w64]
 rw[or_byte (by omega) hc2]
 refine WL_in lp130_1.eq_1 ?_
 simp (maxSteps:=1000000) (implicitDefEqProofs:=false) (disch:=omega) only[h0,Int.toNat_natCast,hi,hi2,pw8,List.set_set,hg,go_sem,↓reduceIte,w64]
 rw[or_byte (by omega) hc3]
 refine WL_in lp130_1.eq_1 ?_
 simp (maxSteps:=1000000) (implicitDefEqProofs:=false) (disch:=omega) only[h0,Int.toNat_natCast,hi,hi2,pw8,List.set_set,hg,go_sem,↓reduceIte,w64]
 have:=hx
 rw[show c0*16777216+c1*65536+c2*256+c3=((c0*256+c1)*256+c2)*256+c3 by omega]at this
 exact this _
theorem take4 {b:List Int} {i:Nat} (hb:b.length=64) (hi:i < 16):(b.take (4*(i:Int)+4).toNat).drop (4*(i:Int)).toNat=[b.getD (4*i) 0,b.getD (4*i+1) 0,b.getD (4*i+2) 0,b.getD (4*i+3) 0]:=by
 rw[show (4*(i:Int)+4).toNat=4*i+4 by omega,show (4*(i:Int)).toNat=4*i by omega]
 apply List.ext_getElem?
 intro j
 rw[List.getElem?_drop,List.getElem?_take]
 match j with
 |0=>rw[if_pos (by omega),List.getElem?_eq_getElem (by omega)];simp[List.getD_eq_getElem?_getD,List.getElem?_eq_getElem (show 4*i < b.length by omega)]
 |1=>rw[if_pos (by omega),List.getElem?_eq_getElem (by omega)];simp[List.getD_eq_getElem?_getD,List.getElem?_eq_getElem (show 4*i+1 < b.length by omega)]
 |2=>rw[if_pos (by omega),List.getElem?_eq_getElem (by omega)];simp[List.getD_eq_getElem?_getD,List.getElem?_eq_getElem (show 4*i+2 < b.length by omega)]
 |3=>rw[if_pos (by omega),List.getElem?_eq_getElem (by omega)];simp[List.getD_eq_getElem?_getD,List.getElem?_eq_getElem (show 4*i+3 < b.length by omega)]
 |j+4=>rw[if_neg (by omega)];simp
theorem outer130 {b:List Int} {z:Bx} {QQ:Ex→St→Prop} (hb:Byt b) (hl:b.length=64)
  (hx:∀ts fz,QQ (.exit 0) ⟨[none,some (.lp 0 []),some (.lp 1 []),some (.lp 2 []),none,none,none,none,none,none,none,none,some (.v (.int .i64 16)),some (.v (.bool false)),none,none,none,none,none,none,none,none,none],ts,[⟨fz,.arr .u8 64 b⟩,z,⟨false,.arr .u32 64 (sched b 16)⟩],G⟩):
  ∀(m i:Nat) (fz:Bool),i+m=16→WL (W E C lp130_2) [1,2,3,12] QQ (m+1) ⟨[none,some (.lp 0 []),some (.lp 1 []),some (.lp 2 []),none,none,none,none,none,none,none,none,some (.v (.int .i64 i)),none,none,none,none,none,none,none,none,none,none],[],[⟨fz,.arr .u8 64 b⟩,z,⟨false,.arr .u32 64 (sched b i)⟩],G⟩:=by
 intro m
 induction m with
 |zero=>
  intro i fz hi
  obtain rfl:i=16:=by omega
  refine WL_in lp130_2.eq_1 ?_
  simp (maxSteps:=1000000) (implicitDefEqProofs:=false) only[go_sem,↓reduceIte]
  exact hx _ _
 |succ m ih=>
  intro i fz hi
  have hw1:IntKind.i64.wrap (4*(i:Int))=4*i:=w64 (by omega) (by omega)
  have hw2:IntKind.i64.wrap (4*(i:Int)+4)=4*i+4:=w64 (by omega) (by omega)
  have ht:=take4 hl (show i < 16 by omega)
  have hlt:(i:Int) < 16:=by omega
  refine WL_in lp130_2.eq_1 ?_
  simp (maxSteps:=1000000) (implicitDefEqProofs:=false) only[hw1,hw2,ht,hlt,go_sem,↓reduceIte]
  refine⟨⟨by omega,by omega,by omega⟩,5,?_⟩
  simp (maxSteps:=1000000) (implicitDefEqProofs:=false) only[go_sem,↓reduceIte]
  refine inner130 (by omega) (sched_len b i) (sched_get0 (Nat.le_refl i)) (byt_getD hb _) (byt_getD hb _) (byt_getD hb _) (byt_getD hb _) (fun ts=> ?_)
  simp (maxSteps:=1000000) (implicitDefEqProofs:=false) only[go_sem,↓reduceIte]
  have hs:(sched b i).set i (b.getD (4*i) 0*16777216+b.getD (4*i+1) 0*65536+b.getD (4*i+2) 0*256+b.getD (4*i+3) 0)=sched b (i+1):=by
   simp only[sched,word4,if_pos (show i < 16 by omega)]
  rw[hs,w64 (by omega) (by omega)]
  exact ih (i+1) true (by omega)
theorem next130 {b:List Int} {z:Bx} {fz:Bool} {QQ:Ex→St→Prop} (h78:Abs.look l 131=some SRo) (hb:Byt b)
  (hx:∀ts,QQ (.exit 4) ⟨[none,none,some (.lp 1 []),some (.lp 2 []),none,none,none,some (.v (.int .i64 64)),none,none,none,none,none,none,none,none,none,none,none,none,none,none,none],ts,[⟨fz,.arr .u8 64 b⟩,z,⟨false,.arr .u32 64 (sched b 64)⟩],G⟩):
  ∀(m i:Nat),i+m=64→16≤i→WL (W E (specOf l) lp130_0) [2,3,7] QQ (m+1) ⟨[none,none,some (.lp 1 []),some (.lp 2 []),none,none,none,some (.v (.int .i64 i)),none,none,none,none,none,none,none,none,none,none,none,none,none,none,none],[],[⟨fz,.arr .u8 64 b⟩,z,⟨false,.arr .u32 64 (sched b i)⟩],G⟩:=by
 intro m
 induction m with
 |zero=>
  intro i hi h16
  obtain rfl:i=64:=by omega
  refine WL_in lp130_0.eq_1 ?_
  simp (maxSteps:=1000000) (implicitDefEqProofs:=false) only[go_sem,↓reduceIte]
  exact hx _
 |succ m ih=>
  intro i hi h16
  have e15:IntKind.i64.wrap ((i:Int)-15)=((i-15:Nat):Int):=by rw[w64 (by omega) (by omega)];omega
  have e2:IntKind.i64.wrap ((i:Int)-2)=((i-2:Nat):Int):=by rw[w64 (by omega) (by omega)];omega
  have e16:IntKind.i64.wrap ((i:Int)-16)=((i-16:Nat):Int):=by rw[w64 (by omega) (by omega)];omega
  have e7:IntKind.i64.wrap ((i:Int)-7)=((i-7:Nat):Int):=by rw[w64 (by omega) (by omega)];omega
  have g15:i-15 < 64:=by omega
  have g2:i-2 < 64:=by omega
  have g16:i-16 < 64:=by omega
  have g7:i-7 < 64:=by omega
  have gi:i < 64:=by omega
  have hlt:(i:Int) < 64:=by omega
  have hws:=sched_wd hb i
  refine WL_in lp130_0.eq_1 ?_
  simp (maxSteps:=1000000) (implicitDefEqProofs:=false) only[h78,SRo_eq,e15,e2,e16,e7,g15,g2,g16,g7,gi,hlt,Int.toNat_natCast,go_sem,↓reduceIte]
  refine⟨⟨by omega,by omega⟩,⟨by omega,by omega⟩,wd_getD hws _,wd_getD hws _,wd_getD hws _,wd_getD hws _,⟨by omega,by omega⟩,⟨by omega,by omega⟩,by omega,?_⟩
  rw[fd_shf (wd_getD hws _) 3 (by decide),fd_shf (wd_getD hws _) 10 (by decide),w64 (x:=(i:Int)+1) (by omega) (by omega)]
  have hs:(sched b i).set i (IntKind.u32.wrap (IntKind.u32.wrap (IntKind.u32.wrap ((sched b i).getD (i-16) 0+bXor .u32 (bXor .u32 (rot ((sched b i).getD (i-15) 0) 7) (rot ((sched b i).getD (i-15) 0) 18)) (shf ((sched b i).getD (i-15) 0) 3))+(sched b i).getD (i-7) 0)+
    bXor .u32 (bXor .u32 (rot ((sched b i).getD (i-2) 0) 17) (rot ((sched b i).getD (i-2) 0) 19)) (shf ((sched b i).getD (i-2) 0) 10)))=sched b (i+1):=by
   simp only[sched,if_neg (show ¬i < 16 by omega),nextW,sig0,sig1,wrap32]
   congr 1
   omega
  rw[hs]
  exact ih (i+1) (by omega) (by omega)
theorem walk130 {b:List Int} (h78:Abs.look l 131=some SRo) (hb:Byt b) (hl:b.length=64) (h:Q (.v (.arr .u32 64 (sched b 64))) G):Wf E (specOf l) pf130 [.arr .u8 64 b] G Q:=by
 simp (maxSteps:=1000000) (implicitDefEqProofs:=false) only[pf130,go_sem,↓reduceIte]
 refine⟨17,?_⟩
 simp (maxSteps:=1000000) (implicitDefEqProofs:=false) only[go_sem,↓reduceIte]
 refine outer130 hb hl (fun ts fz=> ?_) 16 0 false (by omega)
 simp (maxSteps:=1000000) (implicitDefEqProofs:=false) only[go_sem,↓reduceIte]
 refine⟨49,?_⟩
 simp (maxSteps:=1000000) (implicitDefEqProofs:=false) only[go_sem,↓reduceIte]
 refine next130 h78 hb (fun ts=> ?_) 48 16 (by omega) (by omega)
 simp (maxSteps:=1000000) (implicitDefEqProofs:=false) only[go_sem,↓reduceIte]
 exact h
end Go.Proofs.YtegamlopcdjiaaaDoor.Sha
namespace Go.Proofs.YtegamlopcdjiaaaDoor.Sha
open Go Go.Abs Go.Abs.Sha
set_option linter.unusedSimpArgs false
set_option linter.unusedVariables false
set_option maxRecDepth 100000
def lp125_0:PC:=
 (PC.reg [nn (.t 109) (.bin .lss (.v 108) (.c (.v (.int .i64 8))))]).seq ((PC.cond (.t 109) PC.skip (PC.exit 2)).seq ((PC.block 3 ((PC.reg [mm 110 108,
  nn (.t 111) (.idxA 8 (.v 107) (.v 108)),ma 17 110,ma 18 111]).seq (PC.reg [mm 112 17,nn (.t 113) (.iadrA 8 (.v 2) (.t 112)),nn (.t 114) (.load 1
  false (.t 113)),mm 115 18,nn (.t 116) (.bin .add (.t 114) (.t 115)),nn (.t 117) (.iadrA 8 (.v 2) (.t 112)),nn .no (.store 1 (.t 117) (.t
  116))]))).seq (PC.reg [nn (.t 118) (.bin .add (.v 108) (.c (.v (.int .i64 1)))),nn (.v 108) (.mv false (.t 118))])))
def lp125_1:PC:=
 (PC.reg [nn (.v 38) (.bin .lss (.v 37) (.c (.v (.int .i64 64))))]).seq ((PC.cond (.v 38) PC.skip (PC.exit 0)).seq ((PC.block 1 ((PC.reg [nn (.v 39)
  (.mv false (.v 37)),nn (.v 40) (.idxA 64 (.v 36) (.v 37)),nn (.v 13) (.mv true (.v 39)),nn (.v 14) (.mv true (.v 40))]).seq ((PC.regD 0 [nn (.v
  41) (.mv false (.v 12)),nn (.v 42) (.mv false (.v 9)),nn (.v 43) (.call 131 [.v 42,.c (.v (.int .i64 6))]),nn (.v 44) (.mv false (.v 9)),nn (.v
  45) (.call 131 [.v 44,.c (.v (.int .i64 11))]),nn (.v 46) (.bin .xor (.v 43) (.v 45)),nn (.v 47) (.mv false (.v 9)),nn (.v 48) (.call 131 [.v 47,
  .c (.v (.int .i64 25))]),nn (.v 49) (.bin .xor (.v 46) (.v 48)),nn (.v 50) (.bin .add (.v 41) (.v 49)),nn (.v 51) (.mv false (.v 9)),nn (.v 52)
  (.mv false (.v 10)),nn (.v 53) (.bin .and (.v 51) (.v 52)),nn (.v 54) (.mv false (.v 9)),nn (.v 55) (.un .xor (.v 54)),nn (.v 56) (.mv false (.v
  11)),nn (.v 57) (.bin .and (.v 55) (.v 56)),nn (.v 58) (.bin .xor (.v 53) (.v 57)),nn (.v 59) (.bin .add (.v 50) (.v 58)),nn (.v 60) (.mv false
  (.v 13)),nn (.v 61) (.iadrA 64 (.c (.gl 0)) (.v 60)),nn (.v 62) (.load 1 false (.v 61)),nn (.v 63) (.bin .add (.v 59) (.v 62)),nn (.v 64) (.mv
  false (.v 14)),nn (.v 65) (.bin .add (.v 63) (.v 64)),nn (.v 15) (.mv true (.v 65))] []).seq ((PC.reg [nn (.v 66) (.mv false (.v 5)),nn (.v 67)
  (.call 131 [.v 66,.c (.v (.int .i64 2))]),nn (.v 68) (.mv false (.v 5)),nn (.v 69) (.call 131 [.v 68,.c (.v (.int .i64 13))]),nn (.v 70) (.bin
  .xor (.v 67) (.v 69)),nn (.v 71) (.mv false (.v 5)),nn (.v 72) (.call 131 [.v 71,.c (.v (.int .i64 22))]),nn (.v 73) (.bin .xor (.v 70) (.v 72)),
  nn (.v 74) (.mv false (.v 5)),nn (.v 75) (.mv false (.v 6)),nn (.v 76) (.bin .and (.v 74) (.v 75)),nn (.v 77) (.mv false (.v 5)),nn (.v 78) (.mv
  false (.v 7)),nn (.v 79) (.bin .and (.v 77) (.v 78)),nn (.v 80) (.bin .xor (.v 76) (.v 79)),nn (.v 81) (.mv false (.v 6)),nn (.v 82) (.mv false
  (.v 7)),nn (.v 83) (.bin .and (.v 81) (.v 82)),nn (.v 84) (.bin .xor (.v 80) (.v 83)),nn (.v 85) (.bin .add (.v 73) (.v 84)),nn (.v 16) (.mv true
  (.v 85))]).seq (PC.reg [nn (.v 86) (.mv false (.v 11)),nn (.v 87) (.mv false (.v 10)),nn (.v 88) (.mv false (.v 9)),nn (.v 89) (.mv false (.v 8)),
  nn (.v 90) (.mv false (.v 15)),nn (.v 91) (.bin .add (.v 89) (.v 90)),nn (.v 92) (.mv false (.v 7)),nn (.v 93) (.mv false (.v 6)),nn (.v 94) (.mv
  false (.v 5)),nn (.v 95) (.mv false (.v 15)),nn (.v 96) (.mv false (.v 16)),nn (.v 97) (.bin .add (.v 95) (.v 96)),nn (.v 12) (.mv true (.v 86)),
  nn (.v 11) (.mv true (.v 87)),nn (.v 10) (.mv true (.v 88)),nn (.v 9) (.mv true (.v 91)),nn (.v 8) (.mv true (.v 92)),nn (.v 7) (.mv true (.v
  93)),nn (.v 6) (.mv true (.v 94)),nn (.v 5) (.mv true (.v 97))]))))).seq (PC.reg [nn (.v 98) (.bin .add (.v 37) (.c (.v (.int .i64 1)))),nn (.v
  37) (.mv false (.v 98))])))
def pf125:PF:=
 PF.mk 2 109 120 ((PC.reg [nn (.v 2) (.box (.v 0)),nn (.v 3) (.box (.v 1)),nn (.v 4) (.alloc (.arr .u32 8 [0,0,0,0,0,0,0,0]))]).seq ((PC.regD 0
  [nn (.v 19) (.iadrA 8 (.v 2) (.c (.v (.int .i64 0)))),nn (.v 20) (.load 1 false (.v 19)),nn (.v 21) (.iadrA 8 (.v 2) (.c (.v (.int .i64 1)))),nn
  (.v 22) (.load 1 false (.v 21)),nn (.v 23) (.iadrA 8 (.v 2) (.c (.v (.int .i64 2)))),nn (.v 24) (.load 1 false (.v 23)),nn (.v 25) (.iadrA 8 (.v
  2) (.c (.v (.int .i64 3)))),nn (.v 26) (.load 1 false (.v 25)),nn (.v 27) (.iadrA 8 (.v 2) (.c (.v (.int .i64 4)))),nn (.v 28) (.load 1 false (.v
  27)),nn (.v 29) (.iadrA 8 (.v 2) (.c (.v (.int .i64 5)))),nn (.v 30) (.load 1 false (.v 29)),nn (.v 31) (.iadrA 8 (.v 2) (.c (.v (.int .i64 6)))),
  nn (.v 32) (.load 1 false (.v 31)),nn (.v 33) (.iadrA 8 (.v 2) (.c (.v (.int .i64 7)))),nn (.v 34) (.load 1 false (.v 33)),nn (.v 5) (.mv true (.v
  20)),nn (.v 6) (.mv true (.v 22)),nn (.v 7) (.mv true (.v 24)),nn (.v 8) (.mv true (.v 26)),nn (.v 9) (.mv true (.v 28)),nn (.v 10) (.mv true
  (.v 30)),nn (.v 11) (.mv true (.v 32)),nn (.v 12) (.mv true (.v 34))] []).seq (((PC.reg [nn (.v 35) (.load 64 true (.v 3)),nn (.v 36) (.call 130
  [.v 35]),nn (.v 37) (.mv false (.c (.v (.int .i64 0))))]).seq (PC.block 0 (PC.loop [2,4,5,6,7,8,9,10,11,12,36,37] lp125_1))).seq
  (((PC.reg [nn (.v 99) (.mv false (.v 5)),nn (.v 100) (.mv false (.v 6)),nn (.v 101) (.mv false (.v 7)),nn (.v 102) (.mv false (.v 8)),nn (.v 103)
  (.mv false (.v 9)),nn (.v 104) (.mv false (.v 10)),nn (.v 105) (.mv false (.v 11)),nn (.v 106) (.mv false (.v 12)),nn (.v 107) (.build (.arr .u32
  8 [0,0,0,0,0,0,0,0]) [(0,.v 99),(1,.v 100),(2,.v 101),(3,.v 102),(4,.v 103),(5,.v 104),(6,.v 105),(7,.v 106)]),nn (.v 108)
  (.mv false (.c (.v (.int .i64 0))))]).seq (PC.block 2 (PC.loop [2,4,107,108] lp125_0))).seq ((PC.reg [nn (.t 119) (.load 8 true (.v 2)),nn .no
  (.store 8 (.v 4) (.t 119))]).seq PC.ret))))) [(.v 4,some (8,true))]
attribute [local irreducible] W Wops WopsD WL Wop WopD
variable {E:Env} {C:Abs.Spec} {l:List (Nat×Spec1)} {G:List (Nat×V)} {Q:R→List (Nat×V)→Prop}
set_option maxHeartbeats 1000000
def SSc:Spec1
 |[.arr .u8 64 b],G,Q=>(Byt b∧b.length=64)∧Q (.v (.arr .u32 64 (sched b 64))) G
 |_,_,_=>False
theorem SSc_eq {b}:SSc [.arr .u8 64 b] G Q=((Byt b∧b.length=64)∧Q (.v (.arr .u32 64 (sched b 64))) G):=rfl
theorem rounds125 {kt ws:List Int} {s0:Regs} {L:List Bx} {QQ:Ex→St→Prop} (h78:Abs.look l 131=some SRo) (hK:Abs.look E.tab 0=some (.arr .u32 64 kt)) (hs:s0.ok)
  (hx:∀ts,QQ (.exit 0) ⟨[none,none,some (.lp 0 []),none,some (.lp 2 []),some (.v (.int .u32 (rnds kt ws s0 64).a)),some (.v (.int .u32 (rnds kt ws s0 64).b)),some (.v (.int .u32 (rnds kt ws s0 64).c)),some (.v (.int .u32 (rnds kt ws s0 64).d)),some (.v (.int .u32 (rnds kt ws s0 64).e)),some (.v (.int .u32 (rnds kt ws s0 64).f)),some (.v (.int .u32 (rnds kt ws s0 64).g)),some (.v (.int .u32 (rnds kt ws s0 64).h)),none,none,none,none,none,none,none,none,none,none,none,none,none,none,none,none,none,none,none,none,none,none,none,some (.v (.arr .u32 64 ws)),some (.v (.int .i64 64)),some (.v (.bool false)),none,none,none,none,none,none,none,none,none,none,none,none,none,none,none,none,none,none,none,none,none,none,none,none,none,none,none,none,none,none,none,none,none,none,none,none,none,none,none,none,none,none,none,none,none,none,none,none,none,none,none,none,none,none,none,none,none,none,none,none,none,none,none,none,none,none,none,none,none,none],ts,L,G⟩):
  ∀(m i:Nat),i+m=64→WL (W E (specOf l) lp125_1) [2,4,5,6,7,8,9,10,11,12,36,37] QQ (m+1) ⟨[none,none,some (.lp 0 []),none,some (.lp 2 []),some (.v (.int .u32 (rnds kt ws s0 i).a)),some (.v (.int .u32 (rnds kt ws s0 i).b)),some (.v (.int .u32 (rnds kt ws s0 i).c)),some (.v (.int .u32 (rnds kt ws s0 i).d)),some (.v (.int .u32 (rnds kt ws s0 i).e)),some (.v (.int .u32 (rnds kt ws s0 i).f)),some (.v (.int .u32 (rnds kt ws s0 i).g)),some (.v (.int .u32 (rnds kt ws s0 i).h)),none,none,none,none,none,none,none,none,none,none,none,none,none,none,none,none,none,none,none,none,none,none,none,some (.v (.arr .u32 64 ws)),some (.v (.int .i64 i)),none,none,none,none,none,none,none,none,none,none,none,none,none,none,none,none,none,none,none,none,none,none,none,none,none,none,none,none,none,none,none,none,none,none,none,none,none,none,none,none,none,none,none,none,none,none,none,none,none,none,none,none,none,none,none,none,none,none,none,none,none,none,none,none,none,none,none,none,none,none,none],[],L,G⟩:=by
 intro m
 induction m with
 |zero=>
  intro i hi
  obtain rfl:i=64:=by omega
  refine WL_in lp125_1.eq_1 ?_
  simp (maxSteps:=1000000) (implicitDefEqProofs:=false) only[go_sem,↓reduceIte]
  exact hx _
 |succ m ih=>
  intro i hi
  have gi:i < 64:=by omega
  have hlt:(i:Int) < 64:=by omega
  obtain⟨k1,k2,k3,k4,k5,k6,k7,k8⟩:=rnds_ok (k:=kt) (w:=ws) hs i
  refine WL_in lp125_1.eq_1 ?_
  simp (maxSteps:=1000000) (implicitDefEqProofs:=false) only[h78,SRo_eq,hK,gi,hlt,k1,k5,Int.toNat_natCast,go_sem,↓reduceIte]
  refine⟨by omega,by omega,?_⟩
  have hh:=ih (i+1) (by omega)
  rw[w64 (x:=(i:Int)+1) (by omega) (by omega)]
  simp only[rnds,rnd,tee,you,big0,big1,cho,maj,wrap32,Int.emod_add_emod,Int.add_emod_emod,Int.natCast_add,Int.cast_ofNat_Int]at hh⊢
  exact hh
theorem adds125 {a b c d e f g h:Int} {s:List Int} {z0 z2:Bx} {QQ:Ex→St→Prop} (hl:s.length=8)
  (hx:∀ts,QQ (.exit 2) ⟨[none,none,some (.lp 0 []),none,some (.lp 2 []),none,none,none,none,none,none,none,none,none,none,none,none,none,none,none,none,none,none,none,none,none,none,none,none,none,none,none,none,none,none,none,none,none,none,none,none,none,none,none,none,none,none,none,none,none,none,none,none,none,none,none,none,none,none,none,none,none,none,none,none,none,none,none,none,none,none,none,none,none,none,none,none,none,none,none,none,none,none,none,none,none,none,none,none,none,none,none,none,none,none,none,none,none,none,none,none,none,none,none,none,none,none,some (.v (.arr .u32 8 [a,b,c,d,e,f,g,h])),some (.v (.int .i64 8))],ts,[⟨false,.arr .u32 8 [(s.getD 0 0+a) % 4294967296,(s.getD 1 0+b) % 4294967296,(s.getD 2 0+c) % 4294967296,(s.getD 3 0+d) % 4294967296,(s.getD 4 0+e) % 4294967296,(s.getD 5 0+f) % 4294967296,(s.getD 6 0+g) % 4294967296,(s.getD 7 0+h) % 4294967296]⟩,z0,z2],G⟩):
  WL (W E C lp125_0) [2,4,107,108] QQ 9 ⟨[none,none,some (.lp 0 []),none,some (.lp 2 []),none,none,none,none,none,none,none,none,none,none,none,none,none,none,none,none,none,none,none,none,none,none,none,none,none,none,none,none,none,none,none,none,none,none,none,none,none,none,none,none,none,none,none,none,none,none,none,none,none,none,none,none,none,none,none,none,none,none,none,none,none,none,none,none,none,none,none,none,none,none,none,none,none,none,none,none,none,none,none,none,none,none,none,none,none,none,none,none,none,none,none,none,none,none,none,none,none,none,none,none,none,none,some (.v (.arr .u32 8 [a,b,c,d,e,f,g,h])),some (.v (.int .i64 0))],[],[⟨false,.arr .u32 8 s⟩,z0,z2],G⟩:=by
 obtain⟨s0,s1,s2,s3,s4,s5,s6,s7,rfl⟩:∃s0 s1 s2 s3 s4 s5 s6 s7,s=[s0,s1,s2,s3,s4,s5,s6,s7]:=by
  match s,hl with
  |[s0,s1,s2,s3,s4,s5,s6,s7],_=>exact⟨_,_,_,_,_,_,_,_,rfl⟩
 iterate 9
  refine WL_in lp125_0.eq_1 ?_
  simp (maxSteps:=1000000) (implicitDefEqProofs:=false) (disch:=omega) only[go_sem,↓reduceIte,w64]
 simp only[wrap32]
 exact hx _
theorem ofL_ok {s:List Int} (h:∀x∈s,Wd x):(ofL s).ok:=⟨wd_getD h _,wd_getD h _,wd_getD h _,wd_getD h _,wd_getD h _,wd_getD h _,wd_getD h _,wd_getD h _⟩
theorem walk125 {kt s b:List Int} (h78:Abs.look l 131=some SRo) (h77:Abs.look l 130=some SSc) (hK:Abs.look E.tab 0=some (.arr .u32 64 kt)) (hs:∀x∈s,Wd x) (hsl:s.length=8) (hb:Byt b) (hl:b.length=64)
  (h:Q (.v (.arr .u32 8 (block kt s b))) G):Wf E (specOf l) pf125 [.arr .u32 8 s,.arr .u8 64 b] G Q:=by
 simp (maxSteps:=1000000) (implicitDefEqProofs:=false) only[pf125,h77,SSc_eq,go_sem,↓reduceIte]
 refine⟨⟨hb,hl⟩,65,?_⟩
 simp (maxSteps:=1000000) (implicitDefEqProofs:=false) only[go_sem,↓reduceIte]
 refine rounds125 (s0:=ofL s) h78 hK (ofL_ok hs) (fun ts=> ?_) 64 0 (by omega)
 simp (maxSteps:=1000000) (implicitDefEqProofs:=false) only[go_sem,↓reduceIte]
 refine⟨9,?_⟩
 simp (maxSteps:=1000000) (implicitDefEqProofs:=false) only[go_sem,↓reduceIte]
 refine adds125 hsl (fun ts=> ?_)
 simp (maxSteps:=1000000) (implicitDefEqProofs:=false) only[go_sem,↓reduceIte]
 exact h
end Go.Proofs.YtegamlopcdjiaaaDoor.Sha
namespace Go.Proofs.YtegamlopcdjiaaaDoor.Sha
open Go Go.Abs Go.Abs.Sha
set_option linter.unusedSimpArgs false
set_option linter.unusedVariables false
set_option maxRecDepth 100000
attribute [local irreducible] W Wops WopsD WL Wop WopD
variable {E:Env} {C:Abs.Spec} {l:List (Nat×Spec1)} {G:List (Nat×V)} {Q:R→List (Nat×V)→Prop}
set_option maxHeartbeats 1000000
end Go.Proofs.YtegamlopcdjiaaaDoor.Sha
