/- Laws over plain values, and what functions of the program hand back; no conditions. -/
import Derived.Test.YtjbglbhcbenhpaaDoorG1
namespace Go.Proofs.YtjbglbhcbenhpaaDoor.Sha
open Go Go.Abs Go.Abs.Sha
set_option linter.unusedSimpArgs false
set_option linter.unusedVariables false
set_option maxRecDepth 100000
def pf141:PF:=
 PF.mk 2 5 9 ((PC.reg [nn (.v 4) (.mv true (.c (.v (.int .u32 0))))]).seq ((PC.reg [mm 5 0,mm 6 1,nn (.t 7) (.un .neg (.t 6)),nn (.t 8) (.call 145
  [.t 5,.t 7]),ma 4 8]).seq PC.ret)) [(.v 4,none)]
def pf145:PF:=
 PF.mk 2 6 17 ((PC.reg [nn (.v 4) (.mv true (.c (.v (.int .u32 0))))]).seq ((PC.reg [mm 6 1,nn (.t 7) (.conv .u64 (.t 6)),nn (.t 8) (.bin .and (.t 7)
  (.c (.v (.int .u64 31)))),ma 5 8]).seq ((PC.reg [mm 9 0,mm 10 5,nn (.t 11) (.bin .shl (.t 9) (.t 10)),mm 12 0,mm 13 5,nn (.t 14) (.bin .sub (.c
  (.v (.int .u64 32))) (.t 13)),nn (.t 15) (.bin .shr (.t 12) (.t 14)),nn (.t 16) (.bin .or (.t 11) (.t 15)),ma 4 16]).seq PC.ret))) [(.v 4,none)]
def lp143_0:PC:=
 ((PC.reg [mm 6 5,mm 7 1,nn (.t 8) (.bin .lss (.t 6) (.t 7))]).seq (PC.cond (.t 8) PC.skip (PC.exit 0))).seq ((PC.block 1 (PC.reg [mm 11 0,nn (.t 12)
  (.bin .quo (.t 11) (.c (.v (.int .u32 2)))),mm 13 0,nn (.t 14) (.bin .rem (.t 13) (.c (.v (.int .u32 2)))),nn (.t 15) (.bin .mul (.t 14) (.c (.v
  (.int .u32 2147483648)))),nn (.t 16) (.bin .add (.t 12) (.t 15)),ma 0 16])).seq (PC.reg [mm 9 5,nn (.t 10) (.bin .add (.t 9) (.c (.v (.int .i64
  1)))),ma 5 10]))
def pf143:PF:=
 PF.mk 2 6 18 ((PC.reg [nn (.v 4) (.mv true (.c (.v (.int .u32 0))))]).seq (((PC.reg [nn (.v 5) (.mv true (.c (.v (.int .i64 0))))]).seq (PC.block 0
  (PC.loop [0,1,5] lp143_0))).seq ((PC.reg [nn (.t 17) (.mv true (.v 0)),ma 4 17]).seq PC.ret))) [(.v 4,none)]
def lp144_0:PC:=
 ((PC.reg [mm 6 5,mm 7 1,nn (.t 8) (.bin .lss (.t 6) (.t 7))]).seq (PC.cond (.t 8) PC.skip (PC.exit 0))).seq ((PC.block 1 (PC.reg [mm 11 0,nn (.t 12)
  (.bin .quo (.t 11) (.c (.v (.int .u32 2)))),ma 0 12])).seq (PC.reg [mm 9 5,nn (.t 10) (.bin .add (.t 9) (.c (.v (.int .i64 1)))),ma 5 10]))
def pf144:PF:=
 PF.mk 2 6 14 ((PC.reg [nn (.v 4) (.mv true (.c (.v (.int .u32 0))))]).seq (((PC.reg [nn (.v 5) (.mv true (.c (.v (.int .i64 0))))]).seq (PC.block 0
  (PC.loop [0,1,5] lp144_0))).seq ((PC.reg [nn (.t 13) (.mv true (.v 0)),ma 4 13]).seq PC.ret))) [(.v 4,none)]
attribute [local irreducible] W Wops WopsD WL Wop WopD
variable {E:Env} {C:Abs.Spec} {l:List (Nat×Spec1)} {G:List (Nat×V)} {Q:R→List (Nat×V)→Prop}
set_option maxHeartbeats 1000000
def SRl:Spec1
 |[.int .u32 x,.int .i64 n],G,Q=>(Wd x∧-31≤n∧n≤-1)∧Q (.v (.int .u32 (rot x (0-n).toNat))) G
 |_,_,_=>False
theorem SRl_eq {x n}:SRl [.int .u32 x,.int .i64 n] G Q=((Wd x∧-31≤n∧n≤-1)∧Q (.v (.int .u32 (rot x (0-n).toNat))) G):=rfl
def SRo:Spec1
 |[.int .u32 x,.int .i64 n],G,Q=>(Wd x∧1≤n∧n≤31)∧Q (.v (.int .u32 (rot x n.toNat))) G
 |_,_,_=>False
theorem SRo_eq {x n}:SRo [.int .u32 x,.int .i64 n] G Q=((Wd x∧1≤n∧n≤31)∧Q (.v (.int .u32 (rot x n.toNat))) G):=rfl
def SSh:Spec1
 |[.int .u32 x,.int .i64 n],G,Q=>(Wd x∧0≤n∧n≤31)∧Q (.v (.int .u32 (shf x n.toNat))) G
 |_,_,_=>False
theorem SSh_eq {x n}:SSh [.int .u32 x,.int .i64 n] G Q=((Wd x∧0≤n∧n≤31)∧Q (.v (.int .u32 (shf x n.toNat))) G):=rfl
theorem walk145 {x n:Int} (hx:Wd x) (hn: -31≤n∧n≤-1) (h:Q (.v (.int .u32 (rot x (0-n).toNat))) G):Wf E C pf145 [.int .u32 x,.int .i64 n] G Q:=by
 simp (maxSteps:=1000000) (implicitDefEqProofs:=false) only[pf145,go_sem,↓reduceIte]
 have hd:∀k:Fin 31,bAnd .u64 (IntKind.u64.wrap (-1-(k.val:Int))) 31=31-(k.val:Int):=by decide
 have e:bAnd .u64 (IntKind.u64.wrap n) 31=31-(((-1-n).toNat:Nat):Int):=by
  have:=hd ⟨(-1-n).toNat,by omega⟩
  rw[show -1-(((⟨(-1-n).toNat,by omega⟩:Fin 31).val:Nat):Int)=n from by show -1-(((-1-n).toNat:Nat):Int)=n;omega]at this
  exact this
 rw[e]
 have e2:IntKind.u64.wrap (32-(31-(((-1-n).toNat:Nat):Int)))=0-n:=by
  rw[show 32-(31-(((-1-n).toNat:Nat):Int))=0-n by omega]
  simp only[IntKind.wrap,IntKind.bits,IntKind.signed];simp;omega
 rw[e2,show min (31-(((-1-n).toNat:Nat):Int)).toNat 32=32-(0-n).toNat by omega,show min (0-n).toNat 32=(0-n).toNat by omega,or_rot hx (by omega) (by omega)]
 exact⟨by omega,h⟩
theorem walk141 {x n:Int} (h81:Abs.look l 145=some SRl) (hx:Wd x) (hn:1≤n∧n≤31) (h:Q (.v (.int .u32 (rot x n.toNat))) G):Wf E (specOf l) pf141 [.int .u32 x,.int .i64 n] G Q:=by
 simp (maxSteps:=1000000) (implicitDefEqProofs:=false) only[pf141,h81,SRl_eq,go_sem,↓reduceIte]
 rw[w64 (by omega) (by omega)]
 refine⟨⟨hx,by omega,by omega⟩,?_⟩
 rw[show (0:Int)-(0-n)=n by omega];exact h
theorem turn1 {x:Int} (h:Wd x):IntKind.u32.wrap (IntKind.u32.wrap (x.tdiv 2)+IntKind.u32.wrap (x.tmod 2*2147483648))=rot x 1:=by
 unfold Wd at h
 rw[Int.tdiv_eq_ediv_of_nonneg h.1,Int.tmod_eq_emod_of_nonneg h.1,wrap32,wrap32,wrap32]
 unfold rot
 simp only[Int.pow_one,show (2:Int) ^ (32-1)=2147483648 from rfl]
 omega
theorem loop143 {x:Int} {n:Int} {QQ:Ex→St→Prop} (hx0:Wd x) (hn:0≤n∧n≤31)
  (hx:∀ts,QQ (.exit 0) ⟨[some (.v (.int .u32 (rot x n.toNat))),some (.v (.int .i64 n)),none,none,none,some (.v (.int .i64 n.toNat))],ts,[],G⟩):
  ∀(m i:Nat),i+m=n.toNat→WL (W E C lp143_0) [0,1,5] QQ (m+1) ⟨[some (.v (.int .u32 (rot x i))),some (.v (.int .i64 n)),none,none,none,some (.v (.int .i64 i))],[],[],G⟩:=by
 intro m
 induction m with
 |zero=>
  intro i hi
  obtain rfl:i=n.toNat:=by omega
  refine WL_in lp143_0.eq_1 ?_
  simp (maxSteps:=1000000) (implicitDefEqProofs:=false) only[go_sem,↓reduceIte]
  exact⟨fun c=>by omega,fun _=>hx _⟩
 |succ m ih=>
  intro i hi
  refine WL_in lp143_0.eq_1 ?_
  simp (maxSteps:=1000000) (implicitDefEqProofs:=false) only[go_sem,↓reduceIte]
  refine⟨fun c=> ?_,fun c=>by omega⟩
  rw[turn1 (rot_wd hx0 (by omega)),rot_succ hx0 (by omega),w64 (by omega) (by omega)]
  exact ih (i+1) (by omega)
theorem walk143 {x n:Int} (hx:Wd x) (hn:1≤n∧n≤31) (h:Q (.v (.int .u32 (rot x n.toNat))) G):Wf E C pf143 [.int .u32 x,.int .i64 n] G Q:=by
 simp (maxSteps:=1000000) (implicitDefEqProofs:=false) only[pf143,go_sem,↓reduceIte]
 refine⟨n.toNat+1,?_⟩
 simp (maxSteps:=1000000) (implicitDefEqProofs:=false) only[go_sem,↓reduceIte]
 have:=loop143 (E:=E) (C:=C) (G:=G) (QQ:=blkK 0 (seqK (W E C ((PC.reg [⟨.t 17,.mv true (.v 0),none⟩,⟨.v 4,.mv true (.t 17),none⟩]).seq PC.ret)) (retQ E pf143 Q))) hx ⟨by omega,hn.2⟩ (fun ts=>by
  simp (maxSteps:=1000000) (implicitDefEqProofs:=false) only[pf143,go_sem,↓reduceIte]
  exact h) n.toNat 0 (by omega)
 rw[rot_zero x hx]at this
 exact this
theorem shift1 {x:Int} (h:Wd x) (i:Nat):IntKind.u32.wrap ((shf x i).tdiv 2)=shf x (i+1):=by
 have hs:=shf_wd h i
 unfold Wd at hs
 rw[Int.tdiv_eq_ediv_of_nonneg hs.1,wrap32]
 unfold shf at*
 have hp:(0:Int) < 2 ^ i:=Int.pow_pos (by decide)
 rw[Int.pow_succ,←Int.ediv_ediv_of_nonneg (by omega)]
 omega
theorem loop144 {x:Int} {n:Int} {QQ:Ex→St→Prop} (hx0:Wd x) (hn:0≤n∧n≤31)
  (hx:∀ts,QQ (.exit 0) ⟨[some (.v (.int .u32 (shf x n.toNat))),some (.v (.int .i64 n)),none,none,none,some (.v (.int .i64 n.toNat))],ts,[],G⟩):
  ∀(m i:Nat),i+m=n.toNat→WL (W E C lp144_0) [0,1,5] QQ (m+1) ⟨[some (.v (.int .u32 (shf x i))),some (.v (.int .i64 n)),none,none,none,some (.v (.int .i64 i))],[],[],G⟩:=by
 intro m
 induction m with
 |zero=>
  intro i hi
  obtain rfl:i=n.toNat:=by omega
  refine WL_in lp144_0.eq_1 ?_
  simp (maxSteps:=1000000) (implicitDefEqProofs:=false) only[go_sem,↓reduceIte]
  exact⟨fun c=>by omega,fun _=>hx _⟩
 |succ m ih=>
  intro i hi
  refine WL_in lp144_0.eq_1 ?_
  simp (maxSteps:=1000000) (implicitDefEqProofs:=false) only[go_sem,↓reduceIte]
  refine⟨fun c=> ?_,fun c=>by omega⟩
  rw[shift1 hx0,w64 (by omega) (by omega)]
  exact ih (i+1) (by omega)
theorem walk144 {x n:Int} (hx:Wd x) (hn:0≤n∧n≤31) (h:Q (.v (.int .u32 (shf x n.toNat))) G):Wf E C pf144 [.int .u32 x,.int .i64 n] G Q:=by
 simp (maxSteps:=1000000) (implicitDefEqProofs:=false) only[pf144,go_sem,↓reduceIte]
 refine⟨n.toNat+1,?_⟩
 simp (maxSteps:=1000000) (implicitDefEqProofs:=false) only[go_sem,↓reduceIte]
 have:=loop144 (E:=E) (C:=C) (G:=G) (QQ:=blkK 0 (seqK (W E C ((PC.reg [⟨.t 13,.mv true (.v 0),none⟩,⟨.v 4,.mv true (.t 13),none⟩]).seq PC.ret)) (retQ E pf144 Q))) hx hn (fun ts=>by
  simp (maxSteps:=1000000) (implicitDefEqProofs:=false) only[pf144,go_sem,↓reduceIte]
  exact h) n.toNat 0 (by omega)
 rw[show shf x 0=x by unfold shf;simp]at this
 exact this
end Go.Proofs.YtjbglbhcbenhpaaDoor.Sha
namespace Go.Proofs.YtjbglbhcbenhpaaDoor.Sha
open Go Go.Abs Go.Abs.Sha
set_option linter.unusedSimpArgs false
set_option linter.unusedVariables false
set_option maxRecDepth 100000
def lp140_0:PC:=
 ((PC.reg [mm 37 7,nn (.t 38) (.bin .lss (.t 37) (.c (.v (.int .i64 64))))]).seq (PC.cond (.t 38) PC.skip (PC.exit 4))).seq ((PC.block 5 ((PC.regD 0
  [mm 41 7,nn (.t 42) (.bin .sub (.t 41) (.c (.v (.int .i64 15)))),nn (.t 43) (.iadrA 64 (.v 3) (.t 42)),nn (.t 44) (.load 1 false (.t 43)),mm 45
  7,nn (.t 46) (.bin .sub (.t 45) (.c (.v (.int .i64 2)))),nn (.t 47) (.iadrA 64 (.v 3) (.t 46)),nn (.t 48) (.load 1 false (.t 47)),ma 8 44,ma 9
  48] []).seq ((PC.reg [mm 49 8,nn (.t 50) (.call 141 [.t 49,.c (.v (.int .i64 7))]),mm 51 8,nn (.t 52) (.call 141 [.t 51,.c (.v (.int .i64
  18))]),nn (.t 53) (.bin .xor (.t 50) (.t 52)),mm 54 8,nn (.t 55) (.bin .shr (.t 54) (.c (.v (.int .u64 3)))),nn (.t 56) (.bin .xor (.t 53) (.t
  55)),ma 10 56]).seq ((PC.reg [mm 57 9,nn (.t 58) (.call 141 [.t 57,.c (.v (.int .i64 17))]),mm 59 9,nn (.t 60) (.call 141 [.t 59,.c (.v (.int
  .i64 19))]),nn (.t 61) (.bin .xor (.t 58) (.t 60)),mm 62 9,nn (.t 63) (.bin .shr (.t 62) (.c (.v (.int .u64 10)))),nn (.t 64) (.bin .xor (.t 61)
  (.t 63)),ma 11 64]).seq (PC.regD 0 [mm 65 7,mm 66 7,nn (.t 67) (.bin .sub (.t 66) (.c (.v (.int .i64 16)))),nn (.t 68) (.iadrA 64 (.v 3) (.t
  67)),nn (.t 69) (.load 1 false (.t 68)),mm 70 10,nn (.t 71) (.bin .add (.t 69) (.t 70)),mm 72 7,nn (.t 73) (.bin .sub (.t 72) (.c (.v (.int .i64
  7)))),nn (.t 74) (.iadrA 64 (.v 3) (.t 73)),nn (.t 75) (.load 1 false (.t 74)),nn (.t 76) (.bin .add (.t 71) (.t 75)),mm 77 11,nn (.t 78) (.bin
  .add (.t 76) (.t 77)),nn (.t 79) (.iadrA 64 (.v 3) (.t 65)),nn .no (.store 1 (.t 79) (.t 78))] []))))).seq (PC.reg [mm 39 7,nn (.t 40) (.bin .add
  (.t 39) (.c (.v (.int .i64 1)))),ma 7 40]))
def lp140_1:PC:=
 (PC.reg [nn (.t 23) (.bin .lss (.v 22) (.v 21))]).seq ((PC.cond (.t 23) PC.skip (PC.exit 2)).seq ((PC.block 3 ((PC.reg [nn (.t 24) (.iadrS 1 (.v 20)
  (.v 22)),nn (.t 25) (.load 1 false (.t 24)),ma 6 25]).seq (PC.reg [mm 26 4,mm 27 4,nn (.t 28) (.iadrA 64 (.v 3) (.t 27)),nn (.t 29) (.load 1
  false (.t 28)),nn (.t 30) (.bin .shl (.t 29) (.c (.v (.int .u64 8)))),mm 31 6,nn (.t 32) (.conv .u32 (.t 31)),nn (.t 33) (.bin .or (.t 30) (.t
  32)),nn (.t 34) (.iadrA 64 (.v 3) (.t 26)),nn .no (.store 1 (.t 34) (.t 33))]))).seq (PC.reg [nn (.t 35) (.bin .add (.v 22) (.c (.v (.int .i64
  1)))),nn (.v 22) (.mv false (.t 35))])))
def lp140_2:PC:=
 (PC.reg [nn (.v 13) (.bin .lss (.v 12) (.c (.v (.int .i64 16))))]).seq ((PC.cond (.v 13) PC.skip (PC.exit 0)).seq ((PC.block 1 ((PC.reg [nn (.v 14)
  (.mv true (.v 12)),nn (.v 4) (.mv true (.v 14))]).seq ((PC.reg [nn (.v 15) (.mv false (.v 4)),nn (.v 16) (.bin .mul (.c (.v (.int .i64 4))) (.v
  15)),nn (.v 17) (.mv false (.v 4)),nn (.v 18) (.bin .mul (.c (.v (.int .i64 4))) (.v 17)),nn (.v 19) (.bin .add (.v 18) (.c (.v (.int .i64 4)))),
  nn (.v 20) (.slcA 64 false (.v 1) (some (.v 16)) (some (.v 19)) none),nn (.v 21) (.len (.v 20)),nn (.v 22) (.mv false (.c (.v (.int .i64
  0))))]).seq (PC.block 2 (PC.loop [1,2,3,4,12,20,21,22] lp140_1))))).seq (PC.reg [nn (.t 36) (.bin .add (.v 12) (.c (.v (.int .i64 1)))),nn
  (.v 12) (.mv false (.t 36))])))
def pf140:PF:=
 PF.mk 1 23 81 ((PC.reg [nn (.v 1) (.box (.v 0)),nn (.v 2) (.alloc (.arr .u32 64 [0,0,0,0,0,0,0,0,0,0,0,0,0,0,0,0,0,0,0,0,0,0,0,
  0,0,0,0,0,0,0,0,0,0,0,0,0,0,0,0,0,0,0,0,0,0,0,0,0,0,0,0,0,0,0,0,0,0,0,0,0,0,0,0,0]))]).seq ((PC.reg [nn (.v
  3) (.alloc (.arr .u32 64 [0,0,0,0,0,0,0,0,0,0,0,0,0,0,0,0,0,0,0,0,0,0,0,0,0,0,0,0,0,0,0,0,0,0,0,0,0,0,0,0,0,
  0,0,0,0,0,0,0,0,0,0,0,0,0,0,0,0,0,0,0,0,0,0,0]))]).seq (((PC.reg [nn (.v 12) (.mv false (.c (.v (.int .i64 0))))]).seq
  (PC.block 0 (PC.loop [1,2,3,12] lp140_2))).seq (((PC.reg [nn (.v 7) (.mv true (.c (.v (.int .i64 16))))]).seq (PC.block 4 (PC.loop [2,3,7]
  lp140_0))).seq ((PC.reg [nn (.t 80) (.load 64 true (.v 3)),nn .no (.store 64 (.v 2) (.t 80))]).seq PC.ret))))) [(.v 2,some (64,true))]
attribute [local irreducible] W Wops WopsD WL Wop WopD
variable {E:Env} {C:Abs.Spec} {l:List (Nat×Spec1)} {G:List (Nat×V)} {Q:R→List (Nat×V)→Prop}
set_option maxHeartbeats 1000000
theorem inner140 {b ws:List Int} {i:Nat} {c0 c1 c2 c3:Int} {z:Bx} {QQ:Ex→St→Prop} (hi:i < 64) (hw:ws.length=64) (h0:ws.getD i 0=0) (hc0:0≤c0∧c0≤255) (hc1:0≤c1∧c1≤255) (hc2:0≤c2∧c2≤255) (hc3:0≤c3∧c3≤255)
  (hx:∀ts,QQ (.exit 2) ⟨[none,some (.lp 0 []),some (.lp 1 []),some (.lp 2 []),some (.v (.int .i64 i)),none,none,none,none,none,none,none,some (.v (.int .i64 i)),none,none,none,none,none,none,none,some (.v (.sli .u8 [c0,c1,c2,c3])),some (.v (.int .i64 4)),some (.v (.int .i64 4))],ts,[⟨true,.arr .u8 64 b⟩,z,⟨false,.arr .u32 64 (ws.set i (c0*16777216+c1*65536+c2*256+c3))⟩],G⟩):
  WL (W E C lp140_1) [1,2,3,4,12,20,21,22] QQ 5 ⟨[none,some (.lp 0 []),some (.lp 1 []),some (.lp 2 []),some (.v (.int .i64 i)),none,none,none,none,none,none,none,some (.v (.int .i64 i)),none,none,none,none,none,none,none,some (.v (.sli .u8 [c0,c1,c2,c3])),some (.v (.int .i64 4)),some (.v (.int .i64 0))],[],[⟨true,.arr .u8 64 b⟩,z,⟨false,.arr .u32 64 ws⟩],G⟩:=by
 have hi2:(0:Int)≤i∧(i:Int) < 64:=by omega
 have hg:∀a,(ws.set i a).getD i 0=a:=fun a=>getD_set_self (by omega)
 refine WL_in lp140_1.eq_1 ?_
 simp (maxSteps:=1000000) (implicitDefEqProofs:=false) (disch:=omega) only[h0,Int.toNat_natCast,hi,hi2,pw8,List.set_set,hg,go_sem,↓reduceIte,w64]
 have ob0:bOr .u32 (IntKind.u32.wrap 0) (IntKind.u32.wrap c0)=c0:=by
  have:=or_byte (x:=0) (c:=c0) (by omega) hc0
  rw[show (0:Int)*256=0 from rfl,show (0:Int)+c0=c0 by omega]at this;exact this
 rw[ob0]
 refine WL_in lp140_1.eq_1 ?_
 simp (maxSteps:=1000000) (implicitDefEqProofs:=false) (disch:=omega) only[h0,Int.toNat_natCast,hi,hi2,pw8,List.set_set,hg,go_sem,↓reduceIte,w64]
 rw[or_byte (by omega) hc1]
 refine WL_in lp140_1.eq_1 ?_
 simp (maxSteps:=1000000) (implicitDefEqProofs:=false) (disch:=omega) only[h0,Int.toNat_natCast,hi,hi2,pw8,List.set_set,hg,go_sem,↓reduceIte,w64]
 rw[or_byte (by omega) hc2]
 refine WL_in lp140_1.eq_1 ?_
 simp (maxSteps:=1000000) (implicitDefEqProofs:=false) (disch:=omega) only[h0,Int.toNat_natCast,hi,hi2,pw8,List.set_set,hg,go_sem,↓reduceIte,w64]
 rw[or_byte (by omega) hc3]
 refine WL_in lp140_1.eq_1 ?_
 simp (maxSteps:=1000000) (implicitDefEqProofs:=false) (disch:=omega) only[h0,Int.toNat_natCast,hi,hi2,pw8,List.set_set,hg,go_sem,↓reduceIte,w64]
 have:=hx
 rw[show c0*16777216+c1*65536+c2*256+c3=((c0*256+c1)*256+c2)*256+c3 by omega]at this
 exact this _
theorem take4 {b:List Int} {i:Nat} (hb:b.length=64) (hi:i < 16):(b.take (4*(i:Int)+4).toNat).drop (4*(i:Int)).toNat=[b.getD (4*i) 0,b.getD (4*i+1) 0,b.getD (4*i+2) 0,b.getD (4*i+3) 0]:=by
 rw[show (4*(i:Int)+4).toNat=4*i+4 by omega,show (4*(i:Int)).toNat=4*i by omega]
 apply List.ext_getElem?
 intro j
 rw[List.getElem?_drop,List.getElem?_take]
 match j with
 |0=>rw[if_pos (by omega),List.getElem?_eq_getElem (by omega)];simp[List.getD_eq_getElem?_getD,List.getElem?_eq_getElem (show 4*i < b.length by omega)]
 |1=>rw[if_pos (by omega),List.getElem?_eq_getElem (by omega)];simp[List.getD_eq_getElem?_getD,List.getElem?_eq_getElem (show 4*i+1 < b.length by omega)]
 |2=>rw[if_pos (by omega),List.getElem?_eq_getElem (by omega)];simp[List.getD_eq_getElem?_getD,List.getElem?_eq_getElem (show 4*i+2 < b.length by omega)]
 |3=>rw[if_pos (by omega),List.getElem?_eq_getElem (by omega)];simp[List.getD_eq_getElem?_getD,List.getElem?_eq_getElem (show 4*i+3 < b.length by omega)]
 |j+4=>rw[if_neg (by omega)];simp
theorem outer140 {b:List Int} {z:Bx} {QQ:Ex→St→Prop} (hb:Byt b) (hl:b.length=64)
  (hx:∀ts fz,QQ (.exit 0) ⟨[none,some (.lp 0 []),some (.lp 1 []),some (.lp 2 []),none,none,none,none,none,none,none,none,some (.v (.int .i64 16)),some (.v (.bool false)),none,none,none,none,none,none,none,none,none],ts,[⟨fz,.arr .u8 64 b⟩,z,⟨false,.arr .u32 64 (sched b 16)⟩],G⟩):
  ∀(m i:Nat) (fz:Bool),i+m=16→WL (W E C lp140_2) [1,2,3,12] QQ (m+1) ⟨[none,some (.lp 0 []),some (.lp 1 []),some (.lp 2 []),none,none,none,none,none,none,none,none,some (.v (.int .i64 i)),none,none,none,none,none,none,none,none,none,none],[],[⟨fz,.arr .u8 64 b⟩,z,⟨false,.arr .u32 64 (sched b i)⟩],G⟩:=by
 intro m
 induction m with
 |zero=>
  intro i fz hi
  obtain rfl:i=16:=by omega
  refine WL_in lp140_2.eq_1 ?_
  simp (maxSteps:=1000000) (implicitDefEqProofs:=false) only[go_sem,↓reduceIte]
  exact hx _ _
 |succ m ih=>
  intro i fz hi
  have hw1:IntKind.i64.wrap (4*(i:Int))=4*i:=w64 (by omega) (by omega)
  have hw2:IntKind.i64.wrap (4*(i:Int)+4)=4*i+4:=w64 (by omega) (by omega)
  have ht:=take4 hl (show i < 16 by omega)
  have hlt:(i:Int) < 16:=by omega
  refine WL_in lp140_2.eq_1 ?_
  simp (maxSteps:=1000000) (implicitDefEqProofs:=false) only[hw1,hw2,ht,hlt,go_sem,↓reduceIte]
  refine⟨⟨by omega,by omega,by omega⟩,5,?_⟩
  simp (maxSteps:=1000000) (implicitDefEqProofs:=false) only[go_sem,↓reduceIte]
  refine inner140 (by omega) (sched_len b i) (sched_get0 (Nat.le_refl i)) (byt_getD hb _) (byt_getD hb _) (byt_getD hb _) (byt_getD hb _) (fun ts=> ?_)
  simp (maxSteps:=1000000) (implicitDefEqProofs:=false) only[go_sem,↓reduceIte]
  have hs:(sched b i).set i (b.getD (4*i) 0*16777216+b.getD (4*i+1) 0*65536+b.getD (4*i+2) 0*256+b.getD (4*i+3) 0)=sched b (i+1):=by
   simp only[sched,word4,if_pos (show i < 16 by omega)]
  rw[hs,w64 (by omega) (by omega)]
  exact ih (i+1) true (by omega)
theorem next140 {b:List Int} {z:Bx} {fz:Bool} {QQ:Ex→St→Prop} (h78:Abs.look l 141=some SRo) (hb:Byt b)
  (hx:∀ts,QQ (.exit 4) ⟨[none,none,some (.lp 1 []),some (.lp 2 []),none,none,none,some (.v (.int .i64 64)),none,none,none,none,none,none,none,none,none,none,none,none,none,none,none],ts,[⟨fz,.arr .u8 64 b⟩,z,⟨false,.arr .u32 64 (sched b 64)⟩],G⟩):
  ∀(m i:Nat),i+m=64→16≤i→WL (W E (specOf l) lp140_0) [2,3,7] QQ (m+1) ⟨[none,none,some (.lp 1 []),some (.lp 2 []),none,none,none,some (.v (.int .i64 i)),none,none,none,none,none,none,none,none,none,none,none,none,none,none,none],[],[⟨fz,.arr .u8 64 b⟩,z,⟨false,.arr .u32 64 (sched b i)⟩],G⟩:=by
 intro m
 induction m with
 |zero=>
  intro i hi h16
  obtain rfl:i=64:=by omega
  refine WL_in lp140_0.eq_1 ?_
  simp (maxSteps:=1000000) (implicitDefEqProofs:=false) only[go_sem,↓reduceIte]
  exact hx _
 |succ m ih=>
  intro i hi h16
  have e15:IntKind.i64.wrap ((i:Int)-15)=((i-15:Nat):Int):=by rw[w64 (by omega) (by omega)];omega
  have e2:IntKind.i64.wrap ((i:Int)-2)=((i-2:Nat):Int):=by rw[w64 (by omega) (by omega)];omega
  have e16:IntKind.i64.wrap ((i:Int)-16)=((i-16:Nat):Int):=by rw[w64 (by omega) (by omega)];omega
  have e7:IntKind.i64.wrap ((i:Int)-7)=((i-7:Nat):Int):=by rw[w64 (by omega) (by omega)];omega
  have g15:i-15 < 64:=by omega
  have g2:i-2 < 64:=by omega
  have g16:i-16 < 64:=by omega
  have g7:i-7 < 64:=by omega
  have gi:i < 64:=by omega
  have hlt:(i:Int) < 64:=by omega
  have hws:=sched_wd hb i
  refine WL_in lp140_0.eq_1 ?_
  simp (maxSteps:=1000000) (implicitDefEqProofs:=false) only[h78,SRo_eq,e15,e2,e16,e7,g15,g2,g16,g7,gi,hlt,Int.toNat_natCast,go_sem,↓reduceIte]
  refine⟨⟨by omega,by omega⟩,⟨by omega,by omega⟩,wd_getD hws _,wd_getD hws _,wd_getD hws _,wd_getD hws _,⟨by omega,by omega⟩,⟨by omega,by omega⟩,by omega,?_⟩
  rw[fd_shf (wd_getD hws _) 3 (by decide),fd_shf (wd_getD hws _) 10 (by decide),w64 (x:=(i:Int)+1) (by omega) (by omega)]
  have hs:(sched b i).set i (IntKind.u32.wrap (IntKind.u32.wrap (IntKind.u32.wrap ((sched b i).getD (i-16) 0+bXor .u32 (bXor .u32 (rot ((sched b i).getD (i-15) 0) 7) (rot ((sched b i).getD (i-15) 0) 18)) (shf ((sched b i).getD (i-15) 0) 3))+(sched b i).getD (i-7) 0)+
    bXor .u32 (bXor .u32 (rot ((sched b i).getD (i-2) 0) 17) (rot ((sched b i).getD (i-2) 0) 19)) (shf ((sched b i).getD (i-2) 0) 10)))=sched b (i+1):=by
   simp only[sched,if_neg (show ¬i < 16 by omega),nextW,sig0,sig1,wrap32]
   congr 1
   omega
  rw[hs]
  exact ih (i+1) (by omega) (by omega)
theorem walk140 {b:List Int} (h78:Abs.look l 141=some SRo) (hb:Byt b) (hl:b.length=64) (h:Q (.v (.arr .u32 64 (sched b 64))) G):Wf E (specOf l) pf140 [.arr .u8 64 b] G Q:=by
 simp (maxSteps:=1000000) (implicitDefEqProofs:=false) only[pf140,go_sem,↓reduceIte]
 refine⟨17,?_⟩
 simp (maxSteps:=1000000) (implicitDefEqProofs:=false) only[go_sem,↓reduceIte]
 refine outer140 hb hl (fun ts fz=> ?_) 16 0 false (by omega)
 simp (maxSteps:=1000000) (implicitDefEqProofs:=false) only[go_sem,↓reduceIte]
 refine⟨49,?_⟩
 simp (maxSteps:=1000000) (implicitDefEqProofs:=false) only[go_sem,↓reduceIte]
 refine next140 h78 hb (fun ts=> ?_) 48 16 (by omega) (by omega)
 simp (maxSteps:=1000000) (implicitDefEqProofs:=false) only[go_sem,↓reduceIte]
 exact h
end Go.Proofs.YtjbglbhcbenhpaaDoor.Sha
namespace Go.Proofs.YtjbglbhcbenhpaaDoor.Sha
open Go Go.Abs Go.Abs.Sha
set_option linter.unusedSimpArgs false
set_option linter.unusedVariables false
set_option maxRecDepth 100000
def lp135_0:PC:=
 (PC.reg [nn (.t 109) (.bin .lss (.v 108) (.c (.v (.int .i64 8))))]).seq ((PC.cond (.t 109) PC.skip (PC.exit 2)).seq ((PC.block 3 ((PC.reg [mm 110 108,
  nn (.t 111) (.idxA 8 (.v 107) (.v 108)),ma 17 110,ma 18 111]).seq (PC.reg [mm 112 17,nn (.t 113) (.iadrA 8 (.v 2) (.t 112)),nn (.t 114) (.load 1
  false (.t 113)),mm 115 18,nn (.t 116) (.bin .add (.t 114) (.t 115)),nn (.t 117) (.iadrA 8 (.v 2) (.t 112)),nn .no (.store 1 (.t 117) (.t
  116))]))).seq (PC.reg [nn (.t 118) (.bin .add (.v 108) (.c (.v (.int .i64 1)))),nn (.v 108) (.mv false (.t 118))])))
def lp135_1:PC:=
 (PC.reg [nn (.v 38) (.bin .lss (.v 37) (.c (.v (.int .i64 64))))]).seq ((PC.cond (.v 38) PC.skip (PC.exit 0)).seq ((PC.block 1 ((PC.reg [nn (.v 39)
  (.mv false (.v 37)),nn (.v 40) (.idxA 64 (.v 36) (.v 37)),nn (.v 13) (.mv true (.v 39)),nn (.v 14) (.mv true (.v 40))]).seq ((PC.regD 0 [nn (.v
  41) (.mv false (.v 12)),nn (.v 42) (.mv false (.v 9)),nn (.v 43) (.call 141 [.v 42,.c (.v (.int .i64 6))]),nn (.v 44) (.mv false (.v 9)),nn (.v
  45) (.call 141 [.v 44,.c (.v (.int .i64 11))]),nn (.v 46) (.bin .xor (.v 43) (.v 45)),nn (.v 47) (.mv false (.v 9)),nn (.v 48) (.call 141 [.v 47,
  .c (.v (.int .i64 25))]),nn (.v 49) (.bin .xor (.v 46) (.v 48)),nn (.v 50) (.bin .add (.v 41) (.v 49)),nn (.v 51) (.mv false (.v 9)),nn (.v 52)
  (.mv false (.v 10)),nn (.v 53) (.bin .and (.v 51) (.v 52)),nn (.v 54) (.mv false (.v 9)),nn (.v 55) (.un .xor (.v 54)),nn (.v 56) (.mv false (.v
  11)),nn (.v 57) (.bin .and (.v 55) (.v 56)),nn (.v 58) (.bin .xor (.v 53) (.v 57)),nn (.v 59) (.bin .add (.v 50) (.v 58)),nn (.v 60) (.mv false
  (.v 13)),nn (.v 61) (.iadrA 64 (.c (.gl 0)) (.v 60)),nn (.v 62) (.load 1 false (.v 61)),nn (.v 63) (.bin .add (.v 59) (.v 62)),nn (.v 64) (.mv
  false (.v 14)),nn (.v 65) (.bin .add (.v 63) (.v 64)),nn (.v 15) (.mv true (.v 65))] []).seq ((PC.reg [nn (.v 66) (.mv false (.v 5)),nn (.v 67)
  (.call 141 [.v 66,.c (.v (.int .i64 2))]),nn (.v 68) (.mv false (.v 5)),nn (.v 69) (.call 141 [.v 68,.c (.v (.int .i64 13))]),nn (.v 70) (.bin
  .xor (.v 67) (.v 69)),nn (.v 71) (.mv false (.v 5)),nn (.v 72) (.call 141 [.v 71,.c (.v (.int .i64 22))]),nn (.v 73) (.bin .xor (.v 70) (.v 72)),
  nn (.v 74) (.mv false (.v 5)),nn (.v 75) (.mv false (.v 6)),nn (.v 76) (.bin .and (.v 74) (.v 75)),nn (.v 77) (.mv false (.v 5)),nn (.v 78) (.mv
  false (.v 7)),nn (.v 79) (.bin .and (.v 77) (.v 78)),nn (.v 80) (.bin .xor (.v 76) (.v 79)),nn (.v 81) (.mv false (.v 6)),nn (.v 82) (.mv false
  (.v 7)),nn (.v 83) (.bin .and (.v 81) (.v 82)),nn (.v 84) (.bin .xor (.v 80) (.v 83)),nn (.v 85) (.bin .add (.v 73) (.v 84)),nn (.v 16) (.mv true
  (.v 85))]).seq (PC.reg [nn (.v 86) (.mv false (.v 11)),nn (.v 87) (.mv false (.v 10)),nn (.v 88) (.mv false (.v 9)),nn (.v 89) (.mv false (.v 8)),
  nn (.v 90) (.mv false (.v 15)),nn (.v 91) (.bin .add (.v 89) (.v 90)),nn (.v 92) (.mv false (.v 7)),nn (.v 93) (.mv false (.v 6)),nn (.v 94) (.mv
  false (.v 5)),nn (.v 95) (.mv false (.v 15)),nn (.v 96) (.mv false (.v 16)),nn (.v 97) (.bin .add (.v 95) (.v 96)),nn (.v 12) (.mv true (.v 86)),
  nn (.v 11) (.mv true (.v 87)),nn (.v 10) (.mv true (.v 88)),nn (.v 9) (.mv true (.v 91)),nn (.v 8) (.mv true (.v 92)),nn (.v 7) (.mv true (.v
  93)),nn (.v 6) (.mv true (.v 94)),nn (.v 5) (.mv true (.v 97))]))))).seq (PC.reg [nn (.v 98) (.bin .add (.v 37) (.c (.v (.int .i64 1)))),nn (.v
  37) (.mv false (.v 98))])))
def pf135:PF:=
 PF.mk 2 109 120 ((PC.reg [nn (.v 2) (.box (.v 0)),nn (.v 3) (.box (.v 1)),nn (.v 4) (.alloc (.arr .u32 8 [0,0,0,0,0,0,0,0]))]).seq ((PC.regD 0
  [nn (.v 19) (.iadrA 8 (.v 2) (.c (.v (.int .i64 0)))),nn (.v 20) (.load 1 false (.v 19)),nn (.v 21) (.iadrA 8 (.v 2) (.c (.v (.int .i64 1)))),nn
  (.v 22) (.load 1 false (.v 21)),nn (.v 23) (.iadrA 8 (.v 2) (.c (.v (.int .i64 2)))),nn (.v 24) (.load 1 false (.v 23)),nn (.v 25) (.iadrA 8 (.v
  2) (.c (.v (.int .i64 3)))),nn (.v 26) (.load 1 false (.v 25)),nn (.v 27) (.iadrA 8 (.v 2) (.c (.v (.int .i64 4)))),nn (.v 28) (.load 1 false (.v
  27)),nn (.v 29) (.iadrA 8 (.v 2) (.c (.v (.int .i64 5)))),nn (.v 30) (.load 1 false (.v 29)),nn (.v 31) (.iadrA 8 (.v 2) (.c (.v (.int .i64 6)))),
  nn (.v 32) (.load 1 false (.v 31)),nn (.v 33) (.iadrA 8 (.v 2) (.c (.v (.int .i64 7)))),nn (.v 34) (.load 1 false (.v 33)),nn (.v 5) (.mv true (.v
  20)),nn (.v 6) (.mv true (.v 22)),nn (.v 7) (.mv true (.v 24)),nn (.v 8) (.mv true (.v 26)),nn (.v 9) (.mv true (.v 28)),nn (.v 10) (.mv true
  (.v 30)),nn (.v 11) (.mv true (.v 32)),nn (.v 12) (.mv true (.v 34))] []).seq (((PC.reg [nn (.v 35) (.load 64 true (.v 3)),nn (.v 36) (.call 140
  [.v 35]),nn (.v 37) (.mv false (.c (.v (.int .i64 0))))]).seq (PC.block 0 (PC.loop [2,4,5,6,7,8,9,10,11,12,36,37] lp135_1))).seq
  (((PC.reg [nn (.v 99) (.mv false (.v 5)),nn (.v 100) (.mv false (.v 6)),nn (.v 101) (.mv false (.v 7)),nn (.v 102) (.mv false (.v 8)),nn (.v 103)
  (.mv false (.v 9)),nn (.v 104) (.mv false (.v 10)),nn (.v 105) (.mv false (.v 11)),nn (.v 106) (.mv false (.v 12)),nn (.v 107) (.build (.arr .u32
  8 [0,0,0,0,0,0,0,0]) [(0,.v 99),(1,.v 100),(2,.v 101),(3,.v 102),(4,.v 103),(5,.v 104),(6,.v 105),(7,.v 106)]),nn (.v 108)
  (.mv false (.c (.v (.int .i64 0))))]).seq (PC.block 2 (PC.loop [2,4,107,108] lp135_0))).seq ((PC.reg [nn (.t 119) (.load 8 true (.v 2)),nn .no
  (.store 8 (.v 4) (.t 119))]).seq PC.ret))))) [(.v 4,some (8,true))]
attribute [local irreducible] W Wops WopsD WL Wop WopD
variable {E:Env} {C:Abs.Spec} {l:List (Nat×Spec1)} {G:List (Nat×V)} {Q:R→List (Nat×V)→Prop}
set_option maxHeartbeats 1000000
def SSc:Spec1
 |[.arr .u8 64 b],G,Q=>(Byt b∧b.length=64)∧Q (.v (.arr .u32 64 (sched b 64))) G
 |_,_,_=>False
theorem SSc_eq {b}:SSc [.arr .u8 64 b] G Q=((Byt b∧b.length=64)∧Q (.v (.arr .u32 64 (sched b 64))) G):=rfl
theorem rounds135 {kt ws:List Int} {s0:Regs} {L:List Bx} {QQ:Ex→St→Prop} (h78:Abs.look l 141=some SRo) (hK:Abs.look E.tab 0=some (.arr .u32 64 kt)) (hs:s0.ok)
  (hx:∀ts,QQ (.exit 0) ⟨[none,none,some (.lp 0 []),none,some (.lp 2 []),some (.v (.int .u32 (rnds kt ws s0 64).a)),some (.v (.int .u32 (rnds kt ws s0 64).b)),some (.v (.int .u32 (rnds kt ws s0 64).c)),some (.v (.int .u32 (rnds kt ws s0 64).d)),some (.v (.int .u32 (rnds kt ws s0 64).e)),some (.v (.int .u32 (rnds kt ws s0 64).f)),some (.v (.int .u32 (rnds kt ws s0 64).g)),some (.v (.int .u32 (rnds kt ws s0 64).h)),none,none,none,none,none,none,none,none,none,none,none,none,none,none,none,none,none,none,none,none,none,none,none,some (.v (.arr .u32 64 ws)),some (.v (.int .i64 64)),some (.v (.bool false)),none,none,none,none,none,none,none,none,none,none,none,none,none,none,none,none,none,none,none,none,none,none,none,none,none,none,none,none,none,none,none,none,none,none,none,none,none,none,none,none,none,none,none,none,none,none,none,none,none,none,none,none,none,none,none,none,none,none,none,none,none,none,none,none,none,none,none,none,none,none],ts,L,G⟩):
  ∀(m i:Nat),i+m=64→WL (W E (specOf l) lp135_1) [2,4,5,6,7,8,9,10,11,12,36,37] QQ (m+1) ⟨[none,none,some (.lp 0 []),none,some (.lp 2 []),some (.v (.int .u32 (rnds kt ws s0 i).a)),some (.v (.int .u32 (rnds kt ws s0 i).b)),some (.v (.int .u32 (rnds kt ws s0 i).c)),some (.v (.int .u32 (rnds kt ws s0 i).d)),some (.v (.int .u32 (rnds kt ws s0 i).e)),some (.v (.int .u32 (rnds kt ws s0 i).f)),some (.v (.int .u32 (rnds kt ws s0 i).g)),some (.v (.int .u32 (rnds kt ws s0 i).h)),none,none,none,none,none,none,none,none,none,none,none,none,none,none,none,none,none,none,none,none,none,none,none,some (.v (.arr .u32 64 ws)),some (.v (.int .i64 i)),none,none,none,none,none,none,none,none,none,none,none,none,none,none,none,none,none,none,none,none,none,none,none,none,none,none,none,none,none,none,none,none,none,none,none,none,none,none,none,none,none,none,none,none,none,none,none,none,none,none,none,none,none,none,none,none,none,none,none,none,none,none,none,none,none,none,none,none,none,none,none],[],L,G⟩:=by
 intro m
 induction m with
 |zero=>
  intro i hi
  obtain rfl:i=64:=by omega
  refine WL_in lp135_1.eq_1 ?_
  simp (maxSteps:=1000000) (implicitDefEqProofs:=false) only[go_sem,↓reduceIte]
  exact hx _
 |succ m ih=>
  intro i hi
  have gi:i < 64:=by omega
  have hlt:(i:Int) < 64:=by omega
  obtain⟨k1,k2,k3,k4,k5,k6,k7,k8⟩:=rnds_ok (k:=kt) (w:=ws) hs i
  refine WL_in lp135_1.eq_1 ?_
  simp (maxSteps:=1000000) (implicitDefEqProofs:=false) only[h78,SRo_eq,hK,gi,hlt,k1,k5,Int.toNat_natCast,go_sem,↓reduceIte]
  refine⟨by omega,by omega,?_⟩
  have hh:=ih (i+1) (by omega)
  rw[w64 (x:=(i:Int)+1) (by omega) (by omega)]
  simp only[rnds,rnd,tee,you,big0,big1,cho,maj,wrap32,Int.emod_add_emod,Int.add_emod_emod,Int.natCast_add,Int.cast_ofNat_Int]at hh⊢
  exact hh
theorem adds135 {a b c d e f g h:Int} {s:List Int} {z0 z2:Bx} {QQ:Ex→St→Prop} (hl:s.length=8)
  (hx:∀ts,QQ (.exit 2) ⟨[none,none,some (.lp 0 []),none,some (.lp 2 []),none,none,none,none,none,none,none,none,none,none,none,none,none,none,none,none,none,none,none,none,none,none,none,none,none,none,none,none,none,none,none,none,none,none,none,none,none,none,none,none,none,none,none,none,none,none,none,none,none,none,none,none,none,none,none,none,none,none,none,none,none,none,none,none,none,none,none,none,none,none,none,none,none,none,none,none,none,none,none,none,none,none,none,none,none,none,none,none,none,none,none,none,none,none,none,none,none,none,none,none,none,none,some (.v (.arr .u32 8 [a,b,c,d,e,f,g,h])),some (.v (.int .i64 8))],ts,[⟨false,.arr .u32 8 [(s.getD 0 0+a) % 4294967296,(s.getD 1 0+b) % 4294967296,(s.getD 2 0+c) % 4294967296,(s.getD 3 0+d) % 4294967296,(s.getD 4 0+e) % 4294967296,(s.getD 5 0+f) % 4294967296,(s.getD 6 0+g) % 4294967296,(s.getD 7 0+h) % 4294967296]⟩,z0,z2],G⟩):
  WL (W E C lp135_0) [2,4,107,108] QQ 9 ⟨[none,none,some (.lp 0 []),none,some (.lp 2 []),none,none,none,none,none,none,none,none,none,none,none,none,none,none,none,none,none,none,none,none,none,none,none,none,none,none,none,none,none,none,none,none,none,none,none,none,none,none,none,none,none,none,none,none,none,none,none,none,none,none,none,none,none,none,none,none,none,none,none,none,none,none,none,none,none,none,none,none,none,none,none,none,none,none,none,none,none,none,none,none,none,none,none,none,none,none,none,none,none,none,none,none,none,none,none,none,none,none,none,none,none,none,some (.v (.arr .u32 8 [a,b,c,d,e,f,g,h])),some (.v (.int .i64 0))],[],[⟨false,.arr .u32 8 s⟩,z0,z2],G⟩:=by
 obtain⟨s0,s1,s2,s3,s4,s5,s6,s7,rfl⟩:∃s0 s1 s2 s3 s4 s5 s6 s7,s=[s0,s1,s2,s3,s4,s5,s6,s7]:=by
  match s,hl with
  |[s0,s1,s2,s3,s4,s5,s6,s7],_=>exact⟨_,_,_,_,_,_,_,_,rfl⟩
 iterate 9
  refine WL_in lp135_0.eq_1 ?_
  simp (maxSteps:=1000000) (implicitDefEqProofs:=false) (disch:=omega) only[go_sem,↓reduceIte,w64]
 simp only[wrap32]
 exact hx _
theorem ofL_ok {s:List Int} (h:∀x∈s,Wd x):(ofL s).ok:=⟨wd_getD h _,wd_getD h _,wd_getD h _,wd_getD h _,wd_getD h _,wd_getD h _,wd_getD h _,wd_getD h _⟩
theorem walk135 {kt s b:List Int} (h78:Abs.look l 141=some SRo) (h77:Abs.look l 140=some SSc) (hK:Abs.look E.tab 0=some (.arr .u32 64 kt)) (hs:∀x∈s,Wd x) (hsl:s.length=8) (hb:Byt b) (hl:b.length=64)
  (h:Q (.v (.arr .u32 8 (block kt s b))) G):Wf E (specOf l) pf135 [.arr .u32 8 s,.arr .u8 64 b] G Q:=by
 simp (maxSteps:=1000000) (implicitDefEqProofs:=false) only[pf135,h77,SSc_eq,go_sem,↓reduceIte]
 refine⟨⟨hb,hl⟩,65,?_⟩
 simp (maxSteps:=1000000) (implicitDefEqProofs:=false) only[go_sem,↓reduceIte]
 refine rounds135 (s0:=ofL s) h78 hK (ofL_ok hs) (fun ts=> ?_) 64 0 (by omega)
 simp (maxSteps:=1000000) (implicitDefEqProofs:=false) only[go_sem,↓reduceIte]
 refine⟨9,?_⟩
 simp (maxSteps:=1000000) (implicitDefEqProofs:=false) only[go_sem,↓reduceIte]
 refine adds135 hsl (fun ts=> ?_)
 simp (maxSteps:=1000000) (implicitDefEqProofs:=false) only[go_sem,↓reduceIte]
 exact h
end Go.Proofs.YtjbglbhcbenhpaaDoor.Sha
namespace Go.Proofs.YtjbglbhcbenhpaaDoor.Sha
open Go Go.Abs Go.Abs.Sha
set_option linter.unusedSimpArgs false
set_option linter.unusedVariables false
set_option maxRecDepth 100000
def lp138_0:PC:=
 ((PC.reg [mm 183 17,nn (.t 184) (.bin .lss (.t 183) (.c (.v (.int .i64 8))))]).seq (PC.cond (.t 184) PC.skip (PC.exit 4))).seq ((PC.block 5 (PC.regD 0
  [mm 187 17,mm 188 17,nn (.t 189) (.iadrA 8 (.v 9) (.t 188)),nn (.t 190) (.load 1 false (.t 189)),mm 191 17,nn (.t 192) (.iadrA 8 (.v 2) (.t
  191)),nn (.t 193) (.load 1 false (.t 192)),nn (.t 194) (.bin .add (.t 190) (.t 193)),nn (.t 195) (.iadrA 8 (.v 9) (.t 187)),nn .no (.store 1 (.t
  195) (.t 194))] [])).seq (PC.reg [mm 185 17,nn (.t 186) (.bin .add (.t 185) (.c (.v (.int .i64 1)))),ma 17 186]))
def lp138_1:PC:=
 ((PC.reg [mm 99 10,nn (.t 100) (.bin .lss (.t 99) (.c (.v (.int .i64 64))))]).seq (PC.cond (.t 100) PC.skip (PC.exit 2))).seq ((PC.block 3 ((PC.regD 0
  [nn (.t 103) (.iadrA 8 (.v 9) (.c (.v (.int .i64 4)))),nn (.t 104) (.load 1 false (.t 103)),nn (.t 105) (.iadrA 8 (.v 9) (.c (.v (.int .i64 0)))),
  nn (.t 106) (.load 1 false (.t 105)),ma 11 104,ma 12 106] []).seq ((PC.reg [mm 107 11,nn (.t 108) (.iadrA 8 (.v 9) (.c (.v (.int .i64 5)))),nn
  (.t 109) (.load 1 false (.t 108)),nn (.t 110) (.bin .and (.t 107) (.t 109)),mm 111 11,nn (.t 112) (.bin .sub (.c (.v (.int .u32 4294967295))) (.t
  111)),nn (.t 113) (.iadrA 8 (.v 9) (.c (.v (.int .i64 6)))),nn (.t 114) (.load 1 false (.t 113)),nn (.t 115) (.bin .and (.t 112) (.t 114)),nn (.t
  116) (.bin .or (.t 110) (.t 115)),ma 13 116]).seq ((PC.reg [mm 117 12,nn (.t 118) (.iadrA 8 (.v 9) (.c (.v (.int .i64 1)))),nn (.t 119) (.load 1
  false (.t 118)),nn (.t 120) (.bin .and (.t 117) (.t 119)),mm 121 12,nn (.t 122) (.iadrA 8 (.v 9) (.c (.v (.int .i64 2)))),nn (.t 123) (.load 1
  false (.t 122)),nn (.t 124) (.bin .and (.t 121) (.t 123)),nn (.t 125) (.bin .or (.t 120) (.t 124)),nn (.t 126) (.iadrA 8 (.v 9) (.c (.v (.int .i64
  1)))),nn (.t 127) (.load 1 false (.t 126)),nn (.t 128) (.iadrA 8 (.v 9) (.c (.v (.int .i64 2)))),nn (.t 129) (.load 1 false (.t 128)),nn (.t 130)
  (.bin .and (.t 127) (.t 129)),nn (.t 131) (.bin .or (.t 125) (.t 130)),ma 14 131]).seq ((PC.regD 0 [nn (.t 132) (.iadrA 8 (.v 9) (.c (.v (.int .i64
  7)))),nn (.t 133) (.load 1 false (.t 132)),mm 134 11,nn (.t 135) (.call 143 [.t 134,.c (.v (.int .i64 6))]),mm 136 11,nn (.t 137) (.call 143
  [.t 136,.c (.v (.int .i64 11))]),nn (.t 138) (.bin .xor (.t 135) (.t 137)),mm 139 11,nn (.t 140) (.call 143 [.t 139,.c (.v (.int .i64 25))]),nn
  (.t 141) (.bin .xor (.t 138) (.t 140)),nn (.t 142) (.bin .add (.t 133) (.t 141)),mm 143 13,nn (.t 144) (.bin .add (.t 142) (.t 143)),mm 145 10,
  nn (.t 146) (.iadrA 64 (.c (.gl 1)) (.t 145)),nn (.t 147) (.load 1 false (.t 146)),nn (.t 148) (.bin .add (.t 144) (.t 147)),mm 149 10,nn (.t
  150) (.iadrA 64 (.v 5) (.t 149)),nn (.t 151) (.load 1 false (.t 150)),nn (.t 152) (.bin .add (.t 148) (.t 151)),ma 15 152] []).seq ((PC.reg [mm
  153 12,nn (.t 154) (.call 143 [.t 153,.c (.v (.int .i64 2))]),mm 155 12,nn (.t 156) (.call 143 [.t 155,.c (.v (.int .i64 13))]),nn (.t 157)
  (.bin .xor (.t 154) (.t 156)),mm 158 12,nn (.t 159) (.call 143 [.t 158,.c (.v (.int .i64 22))]),nn (.t 160) (.bin .xor (.t 157) (.t 159)),mm 161
  14,nn (.t 162) (.bin .add (.t 160) (.t 161)),ma 16 162]).seq (PC.reg [mm 163 15,mm 164 16,nn (.t 165) (.bin .add (.t 163) (.t 164)),nn (.t 166)
  (.iadrA 8 (.v 9) (.c (.v (.int .i64 0)))),nn (.t 167) (.load 1 false (.t 166)),nn (.t 168) (.iadrA 8 (.v 9) (.c (.v (.int .i64 1)))),nn (.t 169)
  (.load 1 false (.t 168)),nn (.t 170) (.iadrA 8 (.v 9) (.c (.v (.int .i64 2)))),nn (.t 171) (.load 1 false (.t 170)),nn (.t 172) (.iadrA 8 (.v 9)
  (.c (.v (.int .i64 3)))),nn (.t 173) (.load 1 false (.t 172)),mm 174 15,nn (.t 175) (.bin .add (.t 173) (.t 174)),nn (.t 176) (.iadrA 8 (.v 9)
  (.c (.v (.int .i64 4)))),nn (.t 177) (.load 1 false (.t 176)),nn (.t 178) (.iadrA 8 (.v 9) (.c (.v (.int .i64 5)))),nn (.t 179) (.load 1 false (.t
  178)),nn (.t 180) (.iadrA 8 (.v 9) (.c (.v (.int .i64 6)))),nn (.t 181) (.load 1 false (.t 180)),nn (.t 182) (.build (.arr .u32 8 [0,0,0,0,0,
  0,0,0]) [(0,.t 165),(1,.t 167),(2,.t 169),(3,.t 171),(4,.t 175),(5,.t 177),(6,.t 179),(7,.t 181)]),nn .no (.store 8 (.v 9) (.t
  182))]))))))).seq (PC.reg [mm 101 10,nn (.t 102) (.bin .add (.t 101) (.c (.v (.int .i64 1)))),ma 10 102]))
def lp138_2:PC:=
 ((PC.reg [mm 19 6,nn (.t 20) (.bin .lss (.t 19) (.c (.v (.int .i64 64))))]).seq (PC.cond (.t 20) PC.skip (PC.exit 0))).seq ((PC.block 1 (((PC.reg [mm
  23 6,nn (.t 24) (.bin .lss (.t 23) (.c (.v (.int .i64 16))))]).seq (PC.cond (.t 24) ((PC.regD 0 [mm 25 6,mm 26 6,nn (.t 27) (.bin .mul (.c (.v
  (.int .i64 4))) (.t 26)),nn (.t 28) (.iadrA 64 (.v 3) (.t 27)),nn (.t 29) (.load 1 false (.t 28)),nn (.t 30) (.conv .u32 (.t 29)),nn (.t 31)
  (.bin .mul (.t 30) (.c (.v (.int .u32 16777216)))),mm 32 6,nn (.t 33) (.bin .mul (.c (.v (.int .i64 4))) (.t 32)),nn (.t 34) (.bin .add (.t 33)
  (.c (.v (.int .i64 1)))),nn (.t 35) (.iadrA 64 (.v 3) (.t 34)),nn (.t 36) (.load 1 false (.t 35)),nn (.t 37) (.conv .u32 (.t 36)),nn (.t 38)
  (.bin .mul (.t 37) (.c (.v (.int .u32 65536)))),nn (.t 39) (.bin .add (.t 31) (.t 38)),mm 40 6,nn (.t 41) (.bin .mul (.c (.v (.int .i64 4))) (.t
  40)),nn (.t 42) (.bin .add (.t 41) (.c (.v (.int .i64 2)))),nn (.t 43) (.iadrA 64 (.v 3) (.t 42)),nn (.t 44) (.load 1 false (.t 43)),nn (.t 45)
  (.conv .u32 (.t 44)),nn (.t 46) (.bin .mul (.t 45) (.c (.v (.int .u32 256)))),nn (.t 47) (.bin .add (.t 39) (.t 46)),mm 48 6,nn (.t 49) (.bin
  .mul (.c (.v (.int .i64 4))) (.t 48)),nn (.t 50) (.bin .add (.t 49) (.c (.v (.int .i64 3)))),nn (.t 51) (.iadrA 64 (.v 3) (.t 50)),nn (.t 52)
  (.load 1 false (.t 51)),nn (.t 53) (.conv .u32 (.t 52)),nn (.t 54) (.bin .add (.t 47) (.t 53)),nn (.t 55) (.iadrA 64 (.v 5) (.t 25)),nn .no
  (.store 1 (.t 55) (.t 54))] []).seq (PC.exit 1)) PC.skip)).seq ((PC.regD 0 [mm 56 6,nn (.t 57) (.bin .sub (.t 56) (.c (.v (.int .i64 15)))),nn (.t
  58) (.iadrA 64 (.v 5) (.t 57)),nn (.t 59) (.load 1 false (.t 58)),mm 60 6,nn (.t 61) (.bin .sub (.t 60) (.c (.v (.int .i64 2)))),nn (.t 62)
  (.iadrA 64 (.v 5) (.t 61)),nn (.t 63) (.load 1 false (.t 62)),ma 7 59,ma 8 63] []).seq ((PC.reg [mm 64 6,mm 65 8,nn (.t 66) (.call 143 [.t 65,
  .c (.v (.int .i64 17))]),mm 67 8,nn (.t 68) (.call 143 [.t 67,.c (.v (.int .i64 19))]),nn (.t 69) (.bin .xor (.t 66) (.t 68)),mm 70 8,nn (.t
  71) (.call 144 [.t 70,.c (.v (.int .i64 10))]),nn (.t 72) (.bin .xor (.t 69) (.t 71)),nn (.t 73) (.iadrA 64 (.v 5) (.t 64)),nn .no (.store 1 (.t
  73) (.t 72))]).seq (PC.regD 0 [mm 74 6,mm 75 6,nn (.t 76) (.iadrA 64 (.v 5) (.t 75)),nn (.t 77) (.load 1 false (.t 76)),mm 78 6,nn (.t 79) (.bin
  .sub (.t 78) (.c (.v (.int .i64 7)))),nn (.t 80) (.iadrA 64 (.v 5) (.t 79)),nn (.t 81) (.load 1 false (.t 80)),nn (.t 82) (.bin .add (.t 77) (.t
  81)),mm 83 7,nn (.t 84) (.call 143 [.t 83,.c (.v (.int .i64 7))]),mm 85 7,nn (.t 86) (.call 143 [.t 85,.c (.v (.int .i64 18))]),nn (.t 87)
  (.bin .xor (.t 84) (.t 86)),mm 88 7,nn (.t 89) (.call 144 [.t 88,.c (.v (.int .i64 3))]),nn (.t 90) (.bin .xor (.t 87) (.t 89)),nn (.t 91) (.bin
  .add (.t 82) (.t 90)),mm 92 6,nn (.t 93) (.bin .sub (.t 92) (.c (.v (.int .i64 16)))),nn (.t 94) (.iadrA 64 (.v 5) (.t 93)),nn (.t 95) (.load 1
  false (.t 94)),nn (.t 96) (.bin .add (.t 91) (.t 95)),nn (.t 97) (.iadrA 64 (.v 5) (.t 74)),nn .no (.store 1 (.t 97) (.t 96))] []))))).seq (PC.reg
  [mm 21 6,nn (.t 22) (.bin .add (.t 21) (.c (.v (.int .i64 1)))),ma 6 22]))
def pf138:PF:=
 PF.mk 2 18 197 ((PC.reg [nn (.v 2) (.box (.v 0)),nn (.v 3) (.box (.v 1)),nn (.v 4) (.alloc (.arr .u32 8 [0,0,0,0,0,0,0,0]))]).seq ((PC.reg [nn
  (.t 18) (.build (.arr .u32 64 [0,0,0,0,0,0,0,0,0,0,0,0,0,0,0,0,0,0,0,0,0,0,0,0,0,0,0,0,0,0,0,0,0,0,0,0,0,0,0,
  0,0,0,0,0,0,0,0,0,0,0,0,0,0,0,0,0,0,0,0,0,0,0,0,0]) []),nn (.v 5) (.alloc (.arr .u32 64 [0,0,0,0,0,0,0,0,0,0,0,0,
  0,0,0,0,0,0,0,0,0,0,0,0,0,0,0,0,0,0,0,0,0,0,0,0,0,0,0,0,0,0,0,0,0,0,0,0,0,0,0,0,0,0,0,0,0,0,0,0,0,0,
  0,0])),nn .no (.store 64 (.v 5) (.t 18))]).seq (((PC.reg [nn (.v 6) (.mv true (.c (.v (.int .i64 0))))]).seq (PC.block 0 (PC.loop [2,3,4,5,6]
  lp138_2))).seq ((PC.reg [nn (.t 98) (.load 8 true (.v 2)),nn (.v 9) (.alloc (.arr .u32 8 [0,0,0,0,0,0,0,0])),nn .no (.store 8 (.v 9) (.t
  98))]).seq (((PC.reg [nn (.v 10) (.mv true (.c (.v (.int .i64 0))))]).seq (PC.block 2 (PC.loop [2,4,5,9,10] lp138_1))).seq (((PC.reg [nn (.v 17)
  (.mv true (.c (.v (.int .i64 0))))]).seq (PC.block 4 (PC.loop [2,4,9,17] lp138_0))).seq ((PC.reg [nn (.t 196) (.load 8 true (.v 9)),nn .no
  (.store 8 (.v 4) (.t 196))]).seq PC.ret))))))) [(.v 4,some (8,true))]
attribute [local irreducible] W Wops WopsD WL Wop WopD
variable {E:Env} {C:Abs.Spec} {l:List (Nat×Spec1)} {G:List (Nat×V)} {Q:R→List (Nat×V)→Prop}
set_option maxHeartbeats 1000000
theorem words138 {b:List Int} {z0 z2:Bx} {QQ:Ex→St→Prop} (h79:Abs.look l 143=some SRo) (h80:Abs.look l 144=some SSh) (hb:Byt b) (hl:b.length=64)
  (hx:∀ts,QQ (.exit 0) ⟨[none,none,some (.lp 0 []),some (.lp 1 []),some (.lp 2 []),some (.lp 3 []),some (.v (.int .i64 64)),none,none,none,none,none,none,none,none,none,none,none],ts,[z0,⟨false,.arr .u8 64 b⟩,z2,⟨false,.arr .u32 64 (sched b 64)⟩],G⟩):
  ∀(m i:Nat),i+m=64→WL (W E (specOf l) lp138_2) [2,3,4,5,6] QQ (m+1) ⟨[none,none,some (.lp 0 []),some (.lp 1 []),some (.lp 2 []),some (.lp 3 []),some (.v (.int .i64 i)),none,none,none,none,none,none,none,none,none,none,none],[],[z0,⟨false,.arr .u8 64 b⟩,z2,⟨false,.arr .u32 64 (sched b i)⟩],G⟩:=by
 intro m
 induction m with
 |zero=>
  intro i hi
  obtain rfl:i=64:=by omega
  refine WL_in lp138_2.eq_1 ?_
  simp (maxSteps:=1000000) (implicitDefEqProofs:=false) only[go_sem,↓reduceIte]
  exact hx _
 |succ m ih=>
  intro i hi
  have gi:i < 64:=by omega
  have hlt:(i:Int) < 64:=by omega
  have hws:=sched_wd hb i
  have ew:IntKind.i64.wrap ((i:Int)+1)=((i+1:Nat):Int):=by rw[w64 (by omega) (by omega)];simp
  by_cases h16:i < 16
  ·have h16':(i:Int) < 16:=by omega
   have e0:IntKind.i64.wrap (4*(i:Int))=((4*i:Nat):Int):=by rw[w64 (by omega) (by omega)];simp
   have e1:IntKind.i64.wrap (((4*i:Nat):Int)+1)=((4*i+1:Nat):Int):=by rw[w64 (by omega) (by omega)];simp
   have e2:IntKind.i64.wrap (((4*i:Nat):Int)+2)=((4*i+2:Nat):Int):=by rw[w64 (by omega) (by omega)];simp
   have e3:IntKind.i64.wrap (((4*i:Nat):Int)+3)=((4*i+3:Nat):Int):=by rw[w64 (by omega) (by omega)];simp
   have g0:4*i < 64:=by omega
   have g1:4*i+1 < 64:=by omega
   have g2:4*i+2 < 64:=by omega
   have g3:4*i+3 < 64:=by omega
   refine WL_in lp138_2.eq_1 ?_
   simp (maxSteps:=1000000) (implicitDefEqProofs:=false) only[gi,hlt,h16',e0,e1,e2,e3,g0,g1,g2,g3,Int.toNat_natCast,go_sem,↓reduceIte]
   refine⟨⟨by omega,by omega⟩,⟨by omega,by omega⟩,⟨by omega,by omega⟩,⟨by omega,by omega⟩,by omega,?_⟩
   have hs:(sched b i).set i (IntKind.u32.wrap (IntKind.u32.wrap (IntKind.u32.wrap (IntKind.u32.wrap (IntKind.u32.wrap (b.getD (4*i) 0)*16777216)+IntKind.u32.wrap (IntKind.u32.wrap (b.getD (4*i+1) 0)*65536))+IntKind.u32.wrap (IntKind.u32.wrap (b.getD (4*i+2) 0)*256))+IntKind.u32.wrap (b.getD (4*i+3) 0)))=sched b (i+1):=by
    have b0:=byt_getD hb (4*i);have b1:=byt_getD hb (4*i+1);have b2:=byt_getD hb (4*i+2);have b3:=byt_getD hb (4*i+3)
    simp only[sched,if_pos h16,word4,wrap32]
    congr 1
    omega
   rw[hs,ew]
   exact ih (i+1) (by omega)
  ·have h16':¬(i:Int) < 16:=by omega
   have e15:IntKind.i64.wrap ((i:Int)-15)=((i-15:Nat):Int):=by rw[w64 (by omega) (by omega)];omega
   have e2:IntKind.i64.wrap ((i:Int)-2)=((i-2:Nat):Int):=by rw[w64 (by omega) (by omega)];omega
   have e16:IntKind.i64.wrap ((i:Int)-16)=((i-16:Nat):Int):=by rw[w64 (by omega) (by omega)];omega
   have e7:IntKind.i64.wrap ((i:Int)-7)=((i-7:Nat):Int):=by rw[w64 (by omega) (by omega)];omega
   have g15:i-15 < 64:=by omega
   have g2:i-2 < 64:=by omega
   have g16:i-16 < 64:=by omega
   have g7:i-7 < 64:=by omega
   have hself:∀x,((sched b i).set i x).getD i 0=x:=fun x=>getD_set_self (by rw[sched_len];exact gi)
   have hoth:∀x j,j≠i→((sched b i).set i x).getD j 0=(sched b i).getD j 0:=fun x j hj=>by
    rw[List.getD_eq_getElem?_getD,List.getElem?_set_ne (fun e=>hj e.symm),←List.getD_eq_getElem?_getD]
   have o7:∀x,((sched b i).set i x).getD (i-7) 0=(sched b i).getD (i-7) 0:=fun x=>hoth x _ (by omega)
   have o16:∀x,((sched b i).set i x).getD (i-16) 0=(sched b i).getD (i-16) 0:=fun x=>hoth x _ (by omega)
   refine WL_in lp138_2.eq_1 ?_
   simp (maxSteps:=1000000) (implicitDefEqProofs:=false) only[gi,hlt,h16',h79,h80,SRo_eq,SSh_eq,e15,e2,e16,e7,g15,g2,g16,g7,hself,o7,o16,Int.toNat_natCast,List.set_set,go_sem,↓reduceIte]
   refine⟨⟨by omega,by omega⟩,⟨by omega,by omega⟩,wd_getD hws _,wd_getD hws _,wd_getD hws _,by omega,by omega,⟨by omega,by omega⟩,wd_getD hws _,wd_getD hws _,wd_getD hws _,⟨by omega,by omega⟩,by omega,?_⟩
   have hs:(sched b i).set i (IntKind.u32.wrap (IntKind.u32.wrap (IntKind.u32.wrap (bXor .u32 (bXor .u32 (rot ((sched b i).getD (i-2) 0) 17) (rot ((sched b i).getD (i-2) 0) 19)) (shf ((sched b i).getD (i-2) 0) 10)+(sched b i).getD (i-7) 0)+
     bXor .u32 (bXor .u32 (rot ((sched b i).getD (i-15) 0) 7) (rot ((sched b i).getD (i-15) 0) 18)) (shf ((sched b i).getD (i-15) 0) 3))+(sched b i).getD (i-16) 0))=sched b (i+1):=by
    simp only[sched,if_neg h16,nextW,sig0,sig1,wrap32]
    congr 1
    omega
   rw[hs,ew]
   exact ih (i+1) (by omega)
theorem rounds138 {kt ws:List Int} {s0:Regs} {z0 z1 z2:Bx} {QQ:Ex→St→Prop} (h79:Abs.look l 143=some SRo) (hK:Abs.look E.tab 1=some (.arr .u32 64 kt)) (hs:s0.ok)
  (hx:∀ts,QQ (.exit 2) ⟨[none,none,some (.lp 0 []),none,some (.lp 2 []),some (.lp 3 []),none,none,none,some (.lp 4 []),some (.v (.int .i64 64)),none,none,none,none,none,none,none],ts,[z0,z1,z2,⟨false,.arr .u32 64 ws⟩,⟨false,.arr .u32 8 (toL (rnds kt ws s0 64))⟩],G⟩):
  ∀(m i:Nat) (v:List Int),v=toL (rnds kt ws s0 i)→i+m=64→WL (W E (specOf l) lp138_1) [2,4,5,9,10] QQ (m+1) ⟨[none,none,some (.lp 0 []),none,some (.lp 2 []),some (.lp 3 []),none,none,none,some (.lp 4 []),some (.v (.int .i64 i)),none,none,none,none,none,none,none],[],[z0,z1,z2,⟨false,.arr .u32 64 ws⟩,⟨false,.arr .u32 8 v⟩],G⟩:=by
 intro m
 induction m with
 |zero=>
  rintro i v rfl hi
  obtain rfl:i=64:=by omega
  refine WL_in lp138_1.eq_1 ?_
  simp (maxSteps:=1000000) (implicitDefEqProofs:=false) only[go_sem,↓reduceIte]
  exact hx _
 |succ m ih=>
  rintro i v rfl hi
  have gi:i < 64:=by omega
  have hlt:(i:Int) < 64:=by omega
  obtain⟨k1,k2,k3,k4,k5,k6,k7,k8⟩:=rnds_ok (k:=kt) (w:=ws) hs i
  have ew:IntKind.i64.wrap ((i:Int)+1)=((i+1:Nat):Int):=by rw[w64 (by omega) (by omega)];simp
  refine WL_in lp138_1.eq_1 ?_
  simp (maxSteps:=1000000) (implicitDefEqProofs:=false) only[toL,h79,SRo_eq,hK,gi,hlt,k1,k5,ew,ch_eq k5 k6 k7,maj_eq k1 k2 k3,Int.toNat_natCast,go_sem,↓reduceIte]
  refine⟨by omega,by omega,?_⟩
  have hh:=ih (i+1) _ rfl (by omega)
  simp only[toL,rnds,rnd,tee,you,big0,big1,cho,maj,wrap32,Int.emod_add_emod,Int.add_emod_emod]at hh⊢
  exact hh
theorem adds138 {a b c d e f g h:Int} {s:List Int} {z1 z2 z3:Bx} {QQ:Ex→St→Prop} (hl:s.length=8)
  (hx:∀ts,QQ (.exit 4) ⟨[none,none,some (.lp 0 []),none,some (.lp 2 []),none,none,none,none,some (.lp 4 []),none,none,none,none,none,none,none,some (.v (.int .i64 8))],ts,[⟨false,.arr .u32 8 s⟩,z1,z2,z3,⟨false,.arr .u32 8 [(s.getD 0 0+a) % 4294967296,(s.getD 1 0+b) % 4294967296,(s.getD 2 0+c) % 4294967296,(s.getD 3 0+d) % 4294967296,(s.getD 4 0+e) % 4294967296,(s.getD 5 0+f) % 4294967296,(s.getD 6 0+g) % 4294967296,(s.getD 7 0+h) % 4294967296]⟩],G⟩):
  WL (W E C lp138_0) [2,4,9,17] QQ 9 ⟨[none,none,some (.lp 0 []),none,some (.lp 2 []),none,none,none,none,some (.lp 4 []),none,none,none,none,none,none,none,some (.v (.int .i64 0))],[],[⟨false,.arr .u32 8 s⟩,z1,z2,z3,⟨false,.arr .u32 8 [a,b,c,d,e,f,g,h]⟩],G⟩:=by
 obtain⟨s0,s1,s2,s3,s4,s5,s6,s7,rfl⟩:∃s0 s1 s2 s3 s4 s5 s6 s7,s=[s0,s1,s2,s3,s4,s5,s6,s7]:=by
  match s,hl with
  |[s0,s1,s2,s3,s4,s5,s6,s7],_=>exact⟨_,_,_,_,_,_,_,_,rfl⟩
 iterate 9
  refine WL_in lp138_0.eq_1 ?_
  simp (maxSteps:=1000000) (implicitDefEqProofs:=false) (disch:=omega) only[go_sem,↓reduceIte,w64]
 simp only[wrap32,Int.add_comm a,Int.add_comm b,Int.add_comm c,Int.add_comm d,Int.add_comm e,Int.add_comm f,Int.add_comm g,Int.add_comm h]
 exact hx _
theorem toL_ofL {s:List Int} (h:s.length=8):toL (ofL s)=s:=by
 match s,h with
 |[s0,s1,s2,s3,s4,s5,s6,s7],_=>rfl
theorem walk138 {kt s b:List Int} (h79:Abs.look l 143=some SRo) (h80:Abs.look l 144=some SSh) (hK:Abs.look E.tab 1=some (.arr .u32 64 kt)) (hs:∀x∈s,Wd x) (hsl:s.length=8) (hb:Byt b) (hl:b.length=64)
  (h:Q (.v (.arr .u32 8 (block kt s b))) G):Wf E (specOf l) pf138 [.arr .u32 8 s,.arr .u8 64 b] G Q:=by
 simp (maxSteps:=1000000) (implicitDefEqProofs:=false) only[pf138,go_sem,↓reduceIte]
 refine⟨65,?_⟩
 simp (maxSteps:=1000000) (implicitDefEqProofs:=false) only[go_sem,↓reduceIte]
 refine words138 h79 h80 hb hl (fun ts=> ?_) 64 0 (by omega)
 simp (maxSteps:=1000000) (implicitDefEqProofs:=false) only[go_sem,↓reduceIte]
 refine⟨65,?_⟩
 simp (maxSteps:=1000000) (implicitDefEqProofs:=false) only[go_sem,↓reduceIte]
 refine rounds138 (s0:=ofL s) h79 hK (ofL_ok hs) (fun ts=> ?_) 64 0 s (toL_ofL hsl).symm (by omega)
 simp (maxSteps:=1000000) (implicitDefEqProofs:=false) only[go_sem,↓reduceIte]
 refine⟨9,?_⟩
 simp (maxSteps:=1000000) (implicitDefEqProofs:=false) only[go_sem,↓reduceIte]
 refine adds138 hsl (fun ts=> ?_)
 simp (maxSteps:=1000000) (implicitDefEqProofs:=false) only[go_sem,↓reduceIte]
 exact h
end Go.Proofs.YtjbglbhcbenhpaaDoor.Sha
