/- Laws over plain values, and what functions of the program hand back; no conditions. -/
import Derived.Test.YtjbglbhcbenhpaaDoorG1
namespace Go.Proofs.YtjbglbhcbenhpaaDoor.Sha
open Go Go.Abs Go.Abs.Sha
set_option linter.unusedSimpArgs false
set_option linter.unusedVariables false
set_option maxRecDepth 100000
def lp131_0:PC:=
 ((PC.reg [mm 36 9,nn (.t 37) (.bin .lss (.t 36) (.c (.v (.int .i64 32))))]).seq (PC.cond (.t 37) PC.skip (PC.exit 4))).seq ((PC.block 5 (PC.reg [mm 40
  9,mm 41 9,nn (.t 42) (.bin .quo (.t 41) (.c (.v (.int .i64 4)))),nn (.t 43) (.iadrA 8 (.v 3) (.t 42)),nn (.t 44) (.load 1 false (.t 43)),mm 45
  9,nn (.t 46) (.bin .rem (.t 45) (.c (.v (.int .i64 4)))),nn (.t 47) (.bin .mul (.c (.v (.int .i64 8))) (.t 46)),nn (.t 48) (.bin .sub (.c (.v
  (.int .i64 24))) (.t 47)),nn (.t 49) (.conv .u64 (.t 48)),nn (.t 50) (.bin .shr (.t 44) (.t 49)),nn (.t 51) (.conv .u8 (.t 50)),nn (.t 52)
  (.iadrA 32 (.v 8) (.t 40)),nn .no (.store 1 (.t 52) (.t 51))])).seq (PC.reg [mm 38 9,nn (.t 39) (.bin .add (.t 38) (.c (.v (.int .i64 1)))),ma 9
  39]))
def lp131_1:PC:=
 ((PC.reg [mm 20 7,nn (.t 21) (.bin .lss (.t 20) (.c (.v (.int .i64 64))))]).seq (PC.cond (.t 21) PC.skip (PC.exit 2))).seq ((PC.block 3 (PC.reg [mm 24
  7,mm 25 4,mm 26 5,mm 27 7,nn (.t 28) (.bin .add (.t 26) (.t 27)),nn (.t 29) (.iadrS 1 (.t 25) (.t 28)),nn (.t 30) (.load 1 false (.t 29)),nn
  (.t 31) (.iadrA 64 (.v 6) (.t 24)),nn .no (.store 1 (.t 31) (.t 30))])).seq (PC.reg [mm 22 7,nn (.t 23) (.bin .add (.t 22) (.c (.v (.int .i64
  1)))),ma 7 23]))
def lp131_2:PC:=
 ((PC.reg [mm 13 5,mm 14 4,nn (.t 15) (.len (.t 14)),nn (.t 16) (.bin .lss (.t 13) (.t 15))]).seq (PC.cond (.t 16) PC.skip (PC.exit 0))).seq
  ((PC.block 1 ((PC.reg [nn (.t 19) (.build (.arr .u8 64 [0,0,0,0,0,0,0,0,0,0,0,0,0,0,0,0,0,0,0,0,0,0,0,0,0,0,0,0,0,0,0,
  0,0,0,0,0,0,0,0,0,0,0,0,0,0,0,0,0,0,0,0,0,0,0,0,0,0,0,0,0,0,0,0,0]) []),nn (.v 6) (.alloc (.arr .u8 64 [0,0,0,0,
  0,0,0,0,0,0,0,0,0,0,0,0,0,0,0,0,0,0,0,0,0,0,0,0,0,0,0,0,0,0,0,0,0,0,0,0,0,0,0,0,0,0,0,0,0,0,0,0,0,0,
  0,0,0,0,0,0,0,0,0,0])),nn .no (.store 64 (.v 6) (.t 19))]).seq (((PC.reg [nn (.v 7) (.mv true (.c (.v (.int .i64 0))))]).seq (PC.block 2
  (PC.loop [2,3,4,5,6,7] lp131_1))).seq (PC.reg [nn (.t 32) (.load 8 true (.v 3)),nn (.t 33) (.load 64 true (.v 6)),nn (.t 34) (.call 138 [.t
  32,.t 33]),nn .no (.store 8 (.v 3) (.t 34))])))).seq (PC.reg [mm 17 5,nn (.t 18) (.bin .add (.t 17) (.c (.v (.int .i64 64)))),ma 5 18]))
def pf131:PF:=
 PF.mk 1 10 54 ((PC.reg [nn (.v 2) (.alloc (.arr .u8 32 [0,0,0,0,0,0,0,0,0,0,0,0,0,0,0,0,0,0,0,0,0,0,0,0,0,0,0,0,0,0,0,
  0]))]).seq ((PC.reg [nn (.t 10) (.build (.arr .u32 8 [0,0,0,0,0,0,0,0]) [(0,.c (.v (.int .u32 1779033703))),(1,.c (.v (.int .u32
  3144134277))),(2,.c (.v (.int .u32 1013904242))),(3,.c (.v (.int .u32 2773480762))),(4,.c (.v (.int .u32 1359893119))),(5,.c (.v (.int .u32
  2600822924))),(6,.c (.v (.int .u32 528734635))),(7,.c (.v (.int .u32 1541459225)))]),nn (.v 3) (.alloc (.arr .u32 8 [0,0,0,0,0,0,0,0])),
  nn .no (.store 8 (.v 3) (.t 10))]).seq ((PC.reg [mm 11 0,nn (.t 12) (.call 137 [.t 11]),ma 4 12]).seq (((PC.reg [nn (.v 5) (.mv true (.c (.v (.int
  .i64 0))))]).seq (PC.block 0 (PC.loop [2,3,4,5] lp131_2))).seq ((PC.reg [nn (.t 35) (.build (.arr .u8 32 [0,0,0,0,0,0,0,0,0,0,0,0,0,
  0,0,0,0,0,0,0,0,0,0,0,0,0,0,0,0,0,0,0]) []),nn (.v 8) (.alloc (.arr .u8 32 [0,0,0,0,0,0,0,0,0,0,0,0,0,0,0,0,0,0,
  0,0,0,0,0,0,0,0,0,0,0,0,0,0])),nn .no (.store 32 (.v 8) (.t 35))]).seq (((PC.reg [nn (.v 9) (.mv true (.c (.v (.int .i64 0))))]).seq
  (PC.block 4 (PC.loop [2,3,8,9] lp131_0))).seq ((PC.reg [nn (.t 53) (.load 32 true (.v 8)),nn .no (.store 32 (.v 2) (.t 53))]).seq PC.ret)))))))
  [(.v 2,some (32,true))]
attribute [local irreducible] W Wops WopsD WL Wop WopD
variable {E:Env} {C:Abs.Spec} {l:List (Nat×Spec1)} {G:List (Nat×V)} {Q:R→List (Nat×V)→Prop}
set_option maxHeartbeats 1000000
theorem copy131 {f:List Int} {i n:Nat} {z0 z1:Bx} {M:List Bx} {QQ:Ex→St→Prop} (hl:64*i+64≤f.length) (hf:f.length < 1000000000000000) (hn:n=M.length+2)
  (hx:∀ts,QQ (.exit 2) ⟨[none,none,some (.lp 0 []),some (.lp 1 []),some (.own (.sli .u8 f)),some (.v (.int .i64 (64*i:Nat))),some (.lp n []),some (.v (.int .i64 64)),none,none],ts,z0::z1::(M++[⟨false,.arr .u8 64 ((f.drop (64*i)).take 64)⟩]),G⟩):
  ∀(m k:Nat),k+m=64→WL (W E C lp131_1) [2,3,4,5,6,7] QQ (m+1) ⟨[none,none,some (.lp 0 []),some (.lp 1 []),some (.own (.sli .u8 f)),some (.v (.int .i64 (64*i:Nat))),some (.lp n []),some (.v (.int .i64 k)),none,none],[],z0::z1::(M++[⟨false,.arr .u8 64 ((f.drop (64*i)).take k++List.replicate m 0)⟩]),G⟩:=by
 subst hn
 have gn:∀x:Bx,(z0::z1::(M++[x]))[M.length+2]? =some x:=fun x=>by simp
 have gs:∀x y:Bx,(z0::z1::(M++[x])).set (M.length+2) y=z0::z1::(M++[y]):=fun x y=>by simp
 intro m
 induction m with
 |zero=>
  intro k hk
  obtain rfl:k=64:=by omega
  simp only[List.replicate_zero,List.append_nil]
  refine WL_in lp131_1.eq_1 ?_
  simp (maxSteps:=1000000) (implicitDefEqProofs:=false) only[go_sem,↓reduceIte]
  exact hx _
 |succ m ih=>
  intro k hk
  have hlt:(k:Int) < 64:=by omega
  have hk64:k < 64:=by omega
  have e1:IntKind.i64.wrap (((64*i:Nat):Int)+(k:Int))=((64*i+k:Nat):Int):=by rw[w64 (by omega) (by omega)];simp
  have ew:IntKind.i64.wrap ((k:Int)+1)=((k+1:Nat):Int):=by rw[w64 (by omega) (by omega)];simp
  have hgd:f.getD (64*i+k) 0=f[64*i+k]'(by omega):=by rw[List.getD_eq_getElem?_getD,List.getElem?_eq_getElem (by omega)];rfl
  have hset:((f.drop (64*i)).take k++List.replicate (m+1) 0).set k (f.getD (64*i+k) 0)=(f.drop (64*i)).take (k+1)++List.replicate m 0:=by
   have hkl:((f.drop (64*i)).take k).length=k:=by rw[List.length_take,List.length_drop];omega
   rw[List.set_append_right _ _ (by omega),hkl,Nat.sub_self,List.replicate_succ,List.set_cons_zero,List.take_add_one,List.getElem?_drop,List.getElem?_eq_getElem (by omega),hgd,List.append_assoc]
   rfl
  have ihh:=ih (k+1) (by omega)
  rw[←hset]at ihh
  generalize (f.drop (64*i)).take k++List.replicate (m+1) 0=c at*
  refine WL_in lp131_1.eq_1 ?_
  simp (maxSteps:=1000000) (implicitDefEqProofs:=false) only[gn,gs,hlt,hk64,e1,ew,Int.toNat_natCast,go_sem,↓reduceIte]
  exact⟨⟨by omega,by omega⟩,by omega,ihh⟩
theorem blocks131 {f kt:List Int} {z0:Bx} {n:Nat} {QQ:Ex→St→Prop} (h75:Abs.look l 138=some (STu kt)) (hf:Byt f) (hn:f.length=64*n) (hfl:f.length < 1000000000000000)
  (hx:∀ts M,QQ (.exit 0) ⟨[none,none,some (.lp 0 []),some (.lp 1 []),some (.own (.sli .u8 f)),some (.v (.int .i64 (64*n:Nat))),none,none,none,none],ts,z0::⟨false,.arr .u32 8 (iter kt f start8 n)⟩::M,G⟩):
  ∀(m i:Nat) (M:List Bx),i+m=n→WL (W E (specOf l) lp131_2) [2,3,4,5] QQ (m+1) ⟨[none,none,some (.lp 0 []),some (.lp 1 []),some (.own (.sli .u8 f)),some (.v (.int .i64 (64*i:Nat))),none,none,none,none],[],z0::⟨false,.arr .u32 8 (iter kt f start8 i)⟩::M,G⟩:=by
 intro m
 induction m with
 |zero=>
  intro i M hi
  obtain rfl:i=n:=by omega
  have hno:¬(((64*i:Nat):Int) < (f.length:Int)):=by omega
  refine WL_in lp131_2.eq_1 ?_
  simp (maxSteps:=1000000) (implicitDefEqProofs:=false) only[hno,go_sem,↓reduceIte]
  exact hx _ _
 |succ m ih=>
  intro i M hi
  have hlt:((64*i:Nat):Int) < (f.length:Int):=by omega
  have hit:=iter_ok (k:=kt) (f:=f) (s:=start8) rfl start8_ok i
  have ew:IntKind.i64.wrap (((64*i:Nat):Int)+64)=((64*(i+1):Nat):Int):=by rw[w64 (by omega) (by omega)];omega
  have gn:∀x y z:Bx,(y::z::(M++[x]))[M.length+2]? =some x:=fun x y z=>by simp
  have gn1:∀x y z:Bx,(y::z::(M++[x]))[M.length+1+1]? =some x:=fun x y z=>by simp
  have gs:∀x y z w:Bx,(z::w::(M++[x])).set (M.length+2) y=z::w::(M++[y]):=fun x y z w=>by simp
  have gs1:∀x y z w:Bx,(z::w::(M++[x])).set (M.length+1+1) y=z::w::(M++[y]):=fun x y z w=>by simp
  refine WL_in lp131_2.eq_1 ?_
  simp (maxSteps:=1000000) (implicitDefEqProofs:=false) only[hlt,gn,gs,gn1,gs1,List.cons_append,List.length_cons,go_sem,↓reduceIte]
  refine⟨65,?_⟩
  simp (maxSteps:=1000000) (implicitDefEqProofs:=false) only[go_sem,↓reduceIte]
  refine copy131 (i:=i) (by omega) hfl rfl (fun ts=> ?_) 64 0 (by omega)
  simp (maxSteps:=1000000) (implicitDefEqProofs:=false) only[gn,gs,gn1,gs1,h75,STu_eq,ew,go_sem,↓reduceIte]
  refine⟨⟨⟨hit.2,hit.1⟩,byt_take (byt_drop hf _) _,by rw[List.length_take,List.length_drop];omega⟩,?_⟩
  exact ih (i+1) _ (by omega)
theorem bytes131 {s:List Int} {n:Nat} {s0 s1 s2 s3 s4 s5 s6 s7:Int} {z0:Bx} {M:List Bx} {QQ:Ex→St→Prop} (hw:∀x∈s,Wd x) (hn:n=M.length+2)
  (hx:∀ts,QQ (.exit 4) ⟨[none,none,some (.lp 0 []),some (.lp 1 []),none,none,none,none,some (.lp n []),some (.v (.int .i64 32))],ts,z0::⟨false,.arr .u32 8 s⟩::(M++[⟨false,.arr .u8 32 (s.flatMap bytes4)⟩]),G⟩) (hs:s=[s0,s1,s2,s3,s4,s5,s6,s7]):
  WL (W E C lp131_0) [2,3,8,9] QQ 33 ⟨[none,none,some (.lp 0 []),some (.lp 1 []),none,none,none,none,some (.lp n []),some (.v (.int .i64 0))],[],z0::⟨false,.arr .u32 8 s⟩::(M++[⟨false,.arr .u8 32 [0,0,0,0,0,0,0,0,0,0,0,0,0,0,0,0,0,0,0,0,0,0,0,0,0,0,0,0,0,0,0,0]⟩]),G⟩:=by
 subst hs
 subst hn
 have gn:∀x y z:Bx,(y::z::(M++[x]))[M.length+2]? =some x:=fun x y z=>by simp
 have gs:∀x y z w:Bx,(z::w::(M++[x])).set (M.length+2) y=z::w::(M++[y]):=fun x y z w=>by simp
 have u24:IntKind.u64.wrap 24=24:=by decide
 have u16:IntKind.u64.wrap 16=16:=by decide
 have u8:IntKind.u64.wrap 8=8:=by decide
 have u0:IntKind.u64.wrap 0=0:=by decide
 have f0':∀x:Int,x.fdiv (2 ^ min 0 32)=x:=fun x=>by rw[show (2:Int) ^ min 0 32=1 from rfl,Int.fdiv_one]
 iterate 33
  refine WL_in lp131_0.eq_1 ?_
  simp (maxSteps:=1000000) (implicitDefEqProofs:=false) (disch:=omega) only[gn,gs,u24,u16,u8,u0,Int.reduceTDiv,Int.reduceTMod,go_sem,↓reduceIte,w64]
 have hb:∀x,x∈[s0,s1,s2,s3,s4,s5,s6,s7]→IntKind.u8.wrap (x.fdiv (2 ^ min 24 32))=octOf x 0∧IntKind.u8.wrap (x.fdiv (2 ^ min 16 32))=octOf x 1∧IntKind.u8.wrap (x.fdiv (2 ^ min 8 32))=octOf x 2∧IntKind.u8.wrap x=octOf x 3:=fun x hx=>octOf_eq (hw x hx)
 obtain⟨a0,a1,a2,a3⟩:=hb s0 (by simp)
 obtain⟨b0,b1,b2,b3⟩:=hb s1 (by simp)
 obtain⟨c0,c1,c2,c3⟩:=hb s2 (by simp)
 obtain⟨d0,d1,d2,d3⟩:=hb s3 (by simp)
 obtain⟨e0,e1,e2,e3⟩:=hb s4 (by simp)
 obtain⟨f0,f1,f2,f3⟩:=hb s5 (by simp)
 obtain⟨g0,g1,g2,g3⟩:=hb s6 (by simp)
 obtain⟨h0,h1,h2,h3⟩:=hb s7 (by simp)
 simp only[f0',a0,a1,a2,a3,b0,b1,b2,b3,c0,c1,c2,c3,d0,d1,d2,d3,e0,e1,e2,e3,f0,f1,f2,f3,g0,g1,g2,g3,h0,h1,h2,h3]
 exact hx _
theorem walk131 {kt b:List Int} {x:V} (h74:Abs.look l 137=some SFi) (h75:Abs.look l 138=some (STu kt)) (hx:byV x=some b) (hby:Byt b) (hb:b.length < 100000000000000)
  (h:Q (.v (.arr .u8 32 (sumB kt b))) G):Wf E (specOf l) pf131 [x] G Q:=by
 obtain⟨n,hn,hsum⟩:∃n,(fillB b).length=64*n∧sumB kt b=(iter kt (fillB b) start8 n).flatMap bytes4:=⟨_,fillB_len b,rfl⟩
 have hok:=iter_ok (k:=kt) (f:=fillB b) (s:=start8) rfl start8_ok n
 have hfl:(fillB b).length < 1000000000000000:=by rw[fillB_len];omega
 rcases byV_cases hx with rfl|⟨rfl,rfl⟩
 all_goals
  simp (maxSteps:=1000000) (implicitDefEqProofs:=false) only[pf131,h74,SFi_eq,go_sem,↓reduceIte]
  refine⟨_,⟨rfl,hb⟩,n+1,?_⟩
  simp (maxSteps:=1000000) (implicitDefEqProofs:=false) only[go_sem,↓reduceIte]
  refine blocks131 h75 (byt_fill hby) hn hfl (fun ts M=> ?_) n 0 [] (by omega)
  have gn:∀x y z:Bx,(y::z::(M++[x]))[M.length+2]? =some x:=fun x y z=>by simp
  have gn1:∀x y z:Bx,(y::z::(M++[x]))[M.length+1+1]? =some x:=fun x y z=>by simp
  have gs:∀x y z w:Bx,(z::w::(M++[x])).set (M.length+2) y=z::w::(M++[y]):=fun x y z w=>by simp
  have gs1:∀x y z w:Bx,(z::w::(M++[x])).set (M.length+1+1) y=z::w::(M++[y]):=fun x y z w=>by simp
  simp (maxSteps:=1000000) (implicitDefEqProofs:=false) only[gn,gs,gn1,gs1,List.cons_append,List.length_cons,go_sem,↓reduceIte]
  refine⟨33,?_⟩
  simp (maxSteps:=1000000) (implicitDefEqProofs:=false) only[go_sem,↓reduceIte]
  generalize iter kt (fillB _) start8 n=s at*
  obtain⟨s0,s1,s2,s3,s4,s5,s6,s7,rfl⟩:∃s0 s1 s2 s3 s4 s5 s6 s7,s=[s0,s1,s2,s3,s4,s5,s6,s7]:=by
   match s,hok.1 with
   |[s0,s1,s2,s3,s4,s5,s6,s7],_=>exact⟨_,_,_,_,_,_,_,_,rfl⟩
  refine bytes131 hok.2 rfl (fun ts=> ?_) rfl
  simp (maxSteps:=1000000) (implicitDefEqProofs:=false) only[gn,gs,gn1,gs1,List.cons_append,List.length_cons,go_sem,↓reduceIte]
  rw[hsum]at h
  exact h
end Go.Proofs.YtjbglbhcbenhpaaDoor.Sha
namespace Go.Proofs.YtjbglbhcbenhpaaDoor.Sha
open Go Go.Abs Go.Abs.Sha
set_option linter.unusedSimpArgs false
set_option linter.unusedVariables false
set_option maxRecDepth 100000
def pf126:PF:=
 PF.mk 2 5 27 ((PC.reg [nn (.v 4) (.mv true (.c (.own .nils)))]).seq (((PC.reg [mm 5 1,nn (.t 6) (.bin .lss (.t 5) (.c (.v (.int .i64 0))))]).seq
  (PC.cond (.t 6) (PC.reg [nn (.t 7) (.bad),nn .no (.bad)]) PC.skip)).seq (((PC.reg [mm 8 1,mm 9 0,nn (.t 10) (.capN (.t 9)),mm 11 0,nn (.t 12)
  (.len (.t 11)),nn (.t 13) (.bin .sub (.t 10) (.t 12)),nn (.t 14) (.bin .sub (.t 8) (.t 13)),ma 1 14]).seq ((PC.reg [mm 15 1,nn (.t 16) (.bin .gtr
  (.t 15) (.c (.v (.int .i64 0))))]).seq (PC.cond (.t 16) (PC.reg [mm 17 0,mm 18 0,nn (.t 19) (.capN (.t 18)),nn (.t 20) (.slcS 1 (.t 17) none (some
  (.t 19)) none),mm 21 1,nn (.t 22) (.appG none 1 24 .nils (.t 20) (.t 21)),mm 23 0,nn (.t 24) (.len (.t 23)),nn (.t 25) (.cutG 1 (.t 22) (.t
  24)),ma 0 25]) PC.skip))).seq ((PC.reg [nn (.t 26) (.mv true (.v 0)),ma 4 26]).seq PC.ret)))) [(.v 4,none)]
def lp106_0:PC:=
 (PC.reg [nn (.t 28) (.bin .lss (.v 27) (.v 26))]).seq ((PC.cond (.t 28) PC.skip (PC.exit 2)).seq ((PC.block 3 ((PC.reg [nn (.t 29) (.iadrS 1 (.v 25)
  (.v 27)),nn (.t 30) (.load 1 false (.t 29)),ma 8 30]).seq (PC.reg [nn (.t 31) (.mv true (.v 6)),mm 32 8,nn (.t 33) (.app none 1 24 (.t 31) (.t
  32)),ma 6 33]))).seq (PC.reg [nn (.t 34) (.bin .add (.v 27) (.c (.v (.int .i64 1)))),nn (.v 27) (.mv false (.t 34))])))
def lp106_1:PC:=
 (PC.reg [nn (.v 12) (.bin .lss (.v 11) (.v 10))]).seq ((PC.cond (.v 12) PC.skip (PC.exit 0)).seq ((PC.block 1 ((PC.reg [nn (.v 13) (.iadrS 1 (.v 9) (.v
  11)),nn (.v 14) (.load 1 false (.v 13)),nn (.v 5) (.mv true (.v 14))]).seq ((PC.reg [nn (.v 15) (.mv false (.v 3)),nn (.v 16) (.mv false (.v 5)),
  nn (.v 17) (.len (.v 16)),nn (.v 18) (.bin .add (.v 15) (.v 17)),nn (.v 3) (.mv true (.v 18))]).seq ((PC.reg [nn (.v 19) (.mv false (.v 3)),nn (.v
  20) (.bin .lss (.v 19) (.c (.v (.int .i64 0))))]).seq (PC.cond (.v 20) (PC.reg [nn (.v 21) (.bad),nn .no (.bad)]) PC.skip))))).seq (PC.reg [nn (.v
  22) (.bin .add (.v 11) (.c (.v (.int .i64 1)))),nn (.v 11) (.mv false (.v 22))])))
def pf106:PF:=
 PF.mk 1 28 36 ((PC.reg [nn (.v 2) (.mv true (.c (.own .nils)))]).seq ((PC.reg [nn (.v 3) (.mv true (.c (.v (.int .i64 0))))]).seq (((PC.reg [nn (.v 9)
  (.mv false (.v 0)),nn (.v 10) (.len (.v 9)),nn (.v 11) (.mv false (.c (.v (.int .i64 0))))]).seq (PC.block 0 (PC.loop [0,3,9,10,11]
  lp106_1))).seq ((PC.reg [nn (.v 23) (.mv false (.v 3)),nn (.v 24) (.call 126 [.c (.own .nils),.v 23]),nn (.v 6) (.mv true (.v 24))]).seq (((PC.reg
  [nn (.v 25) (.mv false (.v 0)),nn (.v 26) (.len (.v 25)),nn (.v 27) (.mv false (.c (.v (.int .i64 0))))]).seq (PC.block 2 (PC.loop [6,25,26,27]
  lp106_0))).seq ((PC.reg [nn (.t 35) (.mv true (.v 6)),ma 2 35]).seq PC.ret)))))) [(.v 2,none)]
attribute [local irreducible] W Wops WopsD WL Wop WopD
variable {E:Env} {C:Abs.Spec} {l:List (Nat×Spec1)} {G:List (Nat×V)} {Q:R→List (Nat×V)→Prop}
set_option maxHeartbeats 1000000
def SGr:Spec1
 |[.nils,.int .i64 n],G,Q=>(0 < n∧n < 1000000000000)∧Q (.own (.sle 1 [])) G
 |_,_,_=>False
theorem SGr_eq {n}:SGr [.nils,.int .i64 n] G Q=((0 < n∧n < 1000000000000)∧Q (.own (.sle 1 [])) G):=rfl
def SCc:Spec1
 |[.sle 1 ps],G,Q=>∃l,(catP ps=some l∧l≠[]∧l.length < 1000000000000∧ps.length < 1000000000000)∧Q (.own (.sle 1 l)) G
 |_,_,_=>False
theorem SCc_eq {ps}:SCc [.sle 1 ps] G Q=(∃l,(catP ps=some l∧l≠[]∧l.length < 1000000000000∧ps.length < 1000000000000)∧Q (.own (.sle 1 l)) G):=rfl
theorem walk126 {n:Int} (hn:0 < n∧n < 1000000000000) (h:Q (.own (.sle 1 [])) G):Wf E C pf126 [.nils,.int .i64 n] G Q:=by
 have h1:¬n < 0:=by omega
 have e1:IntKind.i64.wrap 0=0:=by decide
 have e2:IntKind.i64.wrap (n-0)=n:=by rw[w64 (by omega) (by omega)];omega
 have h2:0 < n:=hn.1
 simp (maxSteps:=1000000) (implicitDefEqProofs:=false) only[pf126,h1,e1,e2,h2,go_sem,↓reduceIte]
 exact⟨by omega,h⟩
theorem sizes106 {ps b:List V} {L:List Bx} {QQ:Ex→St→Prop} (hb:b.length < 1000000000000) (hpl:ps.length < 1000000000000)
  (hx:∀ts,QQ (.exit 0) ⟨[some (.v (.sle 1 ps)),none,none,some (.v (.int .i64 b.length)),none,none,none,none,none,some (.v (.sle 1 ps)),some (.v (.int .i64 ps.length)),some (.v (.int .i64 ps.length)),some (.v (.bool false)),none,none,none,none,none,none,none,none,none,none,none,none,none,none,none],ts,L,G⟩):
  ∀(r:List V) (i n:Nat) (c:List V),ps.drop i=r→i+r.length=ps.length→catP r=some c→n+c.length=b.length→
   WL (W E C lp106_1) [0,3,9,10,11] QQ (r.length+1) ⟨[some (.v (.sle 1 ps)),none,none,some (.v (.int .i64 n)),none,none,none,none,none,some (.v (.sle 1 ps)),some (.v (.int .i64 ps.length)),some (.v (.int .i64 i)),none,none,none,none,none,none,none,none,none,none,none,none,none,none,none,none],[],L,G⟩:=by
 intro r
 induction r with
 |nil=>
  intro i n c hr hi hc hbc
  have hi2:i=ps.length:=by simpa using hi
  subst hi2
  cases hc
  have hn:n=b.length:=by simpa using hbc
  subst hn
  have hno:¬(ps.length:Int) < (ps.length:Int):=by omega
  refine WL_in lp106_1.eq_1 ?_
  simp (maxSteps:=1000000) (implicitDefEqProofs:=false) only[hno,go_sem,↓reduceIte]
  exact hx _
 |cons e r ih=>
  intro i n c hr hi hc hbc
  obtain⟨a2,c2,he,hc2,rfl⟩:=catP_cons hc
  have hlt:i < ps.length:=by simp only[List.length_cons]at hi;omega
  have hlt':(i:Int) < (ps.length:Int):=by omega
  have hg:ps.getD i .nilp=e:=by
   have:(ps.drop i)[0]? =some e:=by rw[hr];rfl
   rw[List.getElem?_drop,Nat.add_zero]at this
   rw[List.getD_eq_getElem?_getD,this];rfl
  have hr2:ps.drop (i+1)=r:=by rw[←List.drop_drop,hr];rfl
  have ew:IntKind.i64.wrap ((i:Int)+1)=((i+1:Nat):Int):=by rw[w64 (by omega) (by omega)];simp
  rw[List.length_append]at hbc
  have en:IntKind.i64.wrap ((n:Int)+(a2.length:Int))=((n+a2.length:Nat):Int):=by rw[w64 (by omega) (by omega)];simp
  have hge:¬((n+a2.length:Nat):Int) < 0:=by omega
  have ihh:=ih (i+1) (n+a2.length) c2 hr2 (by simp only[List.length_cons]at hi;omega) hc2 (by omega)
  refine WL_in lp106_1.eq_1 ?_
  rcases rowV_cases he with rfl|⟨rfl,rfl⟩
  ·simp (maxSteps:=1000000) (implicitDefEqProofs:=false) only[hlt',hg,ew,en,hge,Int.toNat_natCast,go_sem,↓reduceIte]
   exact⟨by omega,ihh⟩
  ·simp only[List.length_nil]at en hge ihh
   have en':IntKind.i64.wrap ((n:Int)+0)=((n+0:Nat):Int):=en
   simp (maxSteps:=1000000) (implicitDefEqProofs:=false) only[hlt',hg,ew,en',hge,Int.toNat_natCast,go_sem,↓reduceIte]
   exact⟨by omega,ihh⟩
theorem join106 {ps b:List V} {L:List Bx} {QQ:Ex→St→Prop} (hb:b.length < 1000000000000) (hpl:ps.length < 1000000000000)
  (hx:∀ts,QQ (.exit 2) ⟨[none,none,none,none,none,none,some (.own (.sle 1 b)),none,none,none,none,none,none,none,none,none,none,none,none,none,none,none,none,none,none,some (.v (.sle 1 ps)),some (.v (.int .i64 ps.length)),some (.v (.int .i64 ps.length))],ts,L,G⟩):
  ∀(r:List V) (i:Nat) (y c:List V),ps.drop i=r→i+r.length=ps.length→catP r=some c→y++c=b→
   WL (W E C lp106_0) [6,25,26,27] QQ (r.length+1) ⟨[none,none,none,none,none,none,some (.own (.sle 1 y)),none,none,none,none,none,none,none,none,none,none,none,none,none,none,none,none,none,none,some (.v (.sle 1 ps)),some (.v (.int .i64 ps.length)),some (.v (.int .i64 i))],[],L,G⟩:=by
 intro r
 induction r with
 |nil=>
  intro i y c hr hi hc hbc
  have hi2:i=ps.length:=by simpa using hi
  subst hi2
  cases hc
  rw[List.append_nil]at hbc
  subst hbc
  have hno:¬(ps.length:Int) < (ps.length:Int):=by omega
  refine WL_in lp106_0.eq_1 ?_
  simp (maxSteps:=1000000) (implicitDefEqProofs:=false) only[hno,go_sem,↓reduceIte]
  exact hx _
 |cons e r ih=>
  intro i y c hr hi hc hbc
  obtain⟨a2,c2,he,hc2,rfl⟩:=catP_cons hc
  have hlt:i < ps.length:=by simp only[List.length_cons]at hi;omega
  have hlt':(i:Int) < (ps.length:Int):=by omega
  have hg:ps.getD i .nilp=e:=by
   have:(ps.drop i)[0]? =some e:=by rw[hr];rfl
   rw[List.getElem?_drop,Nat.add_zero]at this
   rw[List.getD_eq_getElem?_getD,this];rfl
  have hr2:ps.drop (i+1)=r:=by rw[←List.drop_drop,hr];rfl
  have ew:IntKind.i64.wrap ((i:Int)+1)=((i+1:Nat):Int):=by rw[w64 (by omega) (by omega)];simp
  have ihh:=ih (i+1) (y++a2) c2 hr2 (by simp only[List.length_cons]at hi;omega) hc2 (by rw[←hbc,List.append_assoc])
  have hll:y.length+(a2.length+c2.length)=b.length:=by rw[←hbc];simp only[List.length_append]
  refine WL_in lp106_0.eq_1 ?_
  rcases rowV_cases he with rfl|⟨rfl,rfl⟩
  ·simp (maxSteps:=1000000) (implicitDefEqProofs:=false) only[hlt',hg,ew,Int.toNat_natCast,go_sem,↓reduceIte]
   exact⟨by omega,by omega,ihh⟩
  ·rw[List.append_nil]at ihh
   simp (maxSteps:=1000000) (implicitDefEqProofs:=false) only[hlt',hg,ew,Int.toNat_natCast,go_sem,↓reduceIte]
   exact⟨by omega,by omega,ihh⟩
theorem walk106 {ps b:List V} (h67:Abs.look l 126=some SGr) (hc:catP ps=some b) (hne:b≠[]) (hb:b.length < 1000000000000) (hpl:ps.length < 1000000000000) (h:Q (.own (.sle 1 b)) G):Wf E (specOf l) pf106 [.sle 1 ps] G Q:=by
 have hpos:0 < b.length:=by cases b with|nil=>exact absurd rfl hne|cons=>simp
 simp (maxSteps:=1000000) (implicitDefEqProofs:=false) only[pf106,go_sem,↓reduceIte]
 refine⟨ps.length+1,?_⟩
 simp (maxSteps:=1000000) (implicitDefEqProofs:=false) only[go_sem,↓reduceIte]
 refine sizes106 hb hpl (fun ts=> ?_) ps 0 0 b rfl (by omega) hc (by omega)
 simp (maxSteps:=1000000) (implicitDefEqProofs:=false) only[h67,SGr_eq,go_sem,↓reduceIte]
 refine⟨⟨by omega,by omega⟩,ps.length+1,?_⟩
 simp (maxSteps:=1000000) (implicitDefEqProofs:=false) only[go_sem,↓reduceIte]
 refine join106 hb hpl (fun ts=> ?_) ps 0 [] b rfl (by omega) hc rfl
 simp (maxSteps:=1000000) (implicitDefEqProofs:=false) only[go_sem,↓reduceIte]
 exact h
end Go.Proofs.YtjbglbhcbenhpaaDoor.Sha
namespace Go.Proofs.YtjbglbhcbenhpaaDoor.Sha
open Go Go.Abs Go.Abs.Sha
set_option linter.unusedSimpArgs false
set_option linter.unusedVariables false
set_option maxRecDepth 100000
def pf124:PF:=
 PF.mk 1 5 16 ((PC.reg [nn (.v 2) (.alloc (.arr .u8 64 [0,0,0,0,0,0,0,0,0,0,0,0,0,0,0,0,0,0,0,0,0,0,0,0,0,0,0,0,0,0,0,0,
  0,0,0,0,0,0,0,0,0,0,0,0,0,0,0,0,0,0,0,0,0,0,0,0,0,0,0,0,0,0,0,0]))]).seq ((PC.reg [nn (.v 3) (.alloc (.arr .u8 64 [0,
  0,0,0,0,0,0,0,0,0,0,0,0,0,0,0,0,0,0,0,0,0,0,0,0,0,0,0,0,0,0,0,0,0,0,0,0,0,0,0,0,0,0,0,0,0,0,0,0,0,0,
  0,0,0,0,0,0,0,0,0,0,0,0,0]))]).seq (((PC.reg [mm 5 0,nn (.t 6) (.len (.t 5)),nn (.t 7) (.bin .gtr (.t 6) (.c (.v (.int .i64
  64))))]).seq (PC.cond (.t 7) ((PC.reg [mm 8 0,nn (.t 9) (.buildS none 1 .nils 1 [(0,.t 8)]),nn (.t 10) (.call 123 [.t 9]),nn (.v 4) (.alloc (.arr
  .u8 32 [0,0,0,0,0,0,0,0,0,0,0,0,0,0,0,0,0,0,0,0,0,0,0,0,0,0,0,0,0,0,0,0])),nn .no (.store 32 (.v 4) (.t 10))]).seq
  (PC.reg [nn (.t 11) (.slcA 32 false (.v 4) none none none),ma 0 11])) PC.skip)).seq ((PC.reg [nn (.t 12) (.slcA 64 true (.v 3) none none none),mm
  13 0,nn (.t 14) (.copy (.t 12) (.t 13))]).seq ((PC.reg [nn (.t 15) (.load 64 true (.v 3)),nn .no (.store 64 (.v 2) (.t 15))]).seq PC.ret))))) [(.v
  2,some (64,true))]
def lp125_0:PC:=
 (PC.reg [nn (.t 7) (.bin .lss (.v 6) (.c (.v (.int .i64 64))))]).seq ((PC.cond (.t 7) PC.skip (PC.exit 0)).seq ((PC.block 1 ((PC.reg [nn (.t 8) (.mv
  true (.v 6)),ma 5 8]).seq (PC.reg [mm 9 5,nn (.t 10) (.iadrA 64 (.v 2) (.t 9)),nn (.t 11) (.load 1 false (.t 10)),mm 12 1,nn (.t 13) (.bin .xor
  (.t 11) (.t 12)),nn (.t 14) (.iadrA 64 (.v 2) (.t 9)),nn .no (.store 1 (.t 14) (.t 13))]))).seq (PC.reg [nn (.t 15) (.bin .add (.v 6) (.c (.v (.int
  .i64 1)))),nn (.v 6) (.mv false (.t 15))])))
def pf125:PF:=
 PF.mk 2 7 17 ((PC.reg [nn (.v 2) (.box (.v 0)),nn (.v 4) (.mv true (.c (.own .nils)))]).seq (((PC.reg [nn (.v 6) (.mv false (.c (.v (.int .i64
  0))))]).seq (PC.block 0 (PC.loop [1,2,6] lp125_0))).seq ((PC.reg [nn (.t 16) (.slcA 64 false (.v 2) none none none),ma 4 16]).seq PC.ret))) [(.v
  4,none)]
def lp111_0:PC:=
 (PC.reg [nn (.t 10) (.bin .lss (.v 9) (.c (.v (.int .i64 32))))]).seq ((PC.cond (.t 10) PC.skip (PC.exit 0)).seq ((PC.block 1 ((PC.reg [mm 11 9,nn (.t
  12) (.idxA 32 (.v 8) (.v 9)),ma 6 11,ma 7 12]).seq (PC.reg [mm 13 5,mm 14 7,mm 15 6,nn (.t 16) (.iadrA 32 (.v 3) (.t 15)),nn (.t 17) (.load 1
  false (.t 16)),nn (.t 18) (.bin .xor (.t 14) (.t 17)),nn (.t 19) (.bin .or (.t 13) (.t 18)),ma 5 19]))).seq (PC.reg [nn (.t 20) (.bin .add (.v 9)
  (.c (.v (.int .i64 1)))),nn (.v 9) (.mv false (.t 20))])))
def pf111:PF:=
 PF.mk 2 10 23 ((PC.reg [nn (.v 2) (.box (.v 0)),nn (.v 3) (.box (.v 1)),nn (.v 4) (.mv true (.c (.v (.bool false))))]).seq ((PC.reg [nn (.v 5) (.mv
  true (.c (.v (.int .u8 0))))]).seq (((PC.reg [nn (.v 8) (.load 32 true (.v 2)),nn (.v 9) (.mv false (.c (.v (.int .i64 0))))]).seq (PC.block 0
  (PC.loop [3,5,8,9] lp111_0))).seq ((PC.reg [mm 21 5,nn (.t 22) (.bin .eql (.t 21) (.c (.v (.int .u8 0)))),ma 4 22]).seq PC.ret)))) [(.v 4,
  none)]
def lp132_0:PC:=
 ((PC.reg [mm 23 6,mm 24 0,nn (.t 25) (.len (.t 24)),nn (.t 26) (.bin .lss (.t 23) (.t 25))]).seq (PC.cond (.t 26) PC.skip (PC.exit 2))).seq
  ((PC.block 3 (PC.reg [mm 29 6,mm 30 0,mm 31 6,nn (.t 32) (.iadrS 1 (.t 30) (.t 31)),nn (.t 33) (.load 1 false (.t 32)),nn (.t 34) (.iadrA 64 (.v
  3) (.t 29)),nn .no (.store 1 (.t 34) (.t 33))])).seq (PC.reg [mm 27 6,nn (.t 28) (.bin .add (.t 27) (.c (.v (.int .i64 1)))),ma 6 28]))
def lp132_1:PC:=
 ((PC.reg [mm 13 5,nn (.t 14) (.bin .lss (.t 13) (.c (.v (.int .i64 32))))]).seq (PC.cond (.t 14) PC.skip (PC.exit 0))).seq ((PC.block 1 (PC.reg [mm 17
  5,mm 18 5,nn (.t 19) (.iadrA 32 (.v 4) (.t 18)),nn (.t 20) (.load 1 false (.t 19)),nn (.t 21) (.iadrA 64 (.v 3) (.t 17)),nn .no (.store 1 (.t
  21) (.t 20))])).seq (PC.reg [mm 15 5,nn (.t 16) (.bin .add (.t 15) (.c (.v (.int .i64 1)))),ma 5 16]))
def pf132:PF:=
 PF.mk 1 7 36 ((PC.reg [nn (.v 2) (.alloc (.arr .u8 64 [0,0,0,0,0,0,0,0,0,0,0,0,0,0,0,0,0,0,0,0,0,0,0,0,0,0,0,0,0,0,0,0,
  0,0,0,0,0,0,0,0,0,0,0,0,0,0,0,0,0,0,0,0,0,0,0,0,0,0,0,0,0,0,0,0]))]).seq ((PC.reg [nn (.t 7) (.build (.arr .u8 64 [0,
  0,0,0,0,0,0,0,0,0,0,0,0,0,0,0,0,0,0,0,0,0,0,0,0,0,0,0,0,0,0,0,0,0,0,0,0,0,0,0,0,0,0,0,0,0,0,0,0,0,0,
  0,0,0,0,0,0,0,0,0,0,0,0,0]) []),nn (.v 3) (.alloc (.arr .u8 64 [0,0,0,0,0,0,0,0,0,0,0,0,0,0,0,0,0,0,0,0,0,0,0,0,
  0,0,0,0,0,0,0,0,0,0,0,0,0,0,0,0,0,0,0,0,0,0,0,0,0,0,0,0,0,0,0,0,0,0,0,0,0,0,0,0])),nn .no (.store 64 (.v 3)
  (.t 7))]).seq (((PC.reg [mm 8 0,nn (.t 9) (.len (.t 8)),nn (.t 10) (.bin .gtr (.t 9) (.c (.v (.int .i64 64))))]).seq (PC.cond (.t 10) ((PC.reg [mm
  11 0,nn (.t 12) (.call 131 [.t 11]),nn (.v 4) (.alloc (.arr .u8 32 [0,0,0,0,0,0,0,0,0,0,0,0,0,0,0,0,0,0,0,0,0,0,0,0,0,0,
  0,0,0,0,0,0])),nn .no (.store 32 (.v 4) (.t 12))]).seq (((PC.reg [nn (.v 5) (.mv true (.c (.v (.int .i64 0))))]).seq (PC.block 0 (PC.loop [2,
  3,4,5] lp132_1))).seq ((PC.reg [nn (.t 22) (.load 64 true (.v 3)),nn .no (.store 64 (.v 2) (.t 22))]).seq PC.ret))) PC.skip)).seq (((PC.reg [nn
  (.v 6) (.mv true (.c (.v (.int .i64 0))))]).seq (PC.block 2 (PC.loop [0,2,3,6] lp132_0))).seq ((PC.reg [nn (.t 35) (.load 64 true (.v 3)),nn .no
  (.store 64 (.v 2) (.t 35))]).seq PC.ret))))) [(.v 2,some (64,true))]
attribute [local irreducible] W Wops WopsD WL Wop WopD
variable {E:Env} {C:Abs.Spec} {l:List (Nat×Spec1)} {G:List (Nat×V)} {Q:R→List (Nat×V)→Prop}
set_option maxHeartbeats 1000000
def SOf (kt:List Int):Spec1
 |[x],G,Q=>∃b,(partsV x=some b∧x.len < 100000000000000∧Byt b∧b.length < 100000000000000)∧Q (.v (.arr .u8 32 (sumB kt b))) G
 |_,_,_=>False
theorem SOf_eq {kt x}:SOf kt [x] G Q=(∃b,(partsV x=some b∧x.len < 100000000000000∧Byt b∧b.length < 100000000000000)∧Q (.v (.arr .u8 32 (sumB kt b))) G):=rfl
def SRf (kt:List Int):Spec1
 |[x],G,Q=>∃b,(byV x=some b∧Byt b∧b.length < 100000000000000)∧Q (.v (.arr .u8 32 (sumB kt b))) G
 |_,_,_=>False
theorem SRf_eq {kt x}:SRf kt [x] G Q=(∃b,(byV x=some b∧Byt b∧b.length < 100000000000000)∧Q (.v (.arr .u8 32 (sumB kt b))) G):=rfl
def SBl (kt:List Int):Spec1
 |[x],G,Q=>∃b,(byV x=some b∧Byt b∧b.length < 10000000000000)∧Q (.v (.arr .u8 64 (keyB kt b))) G
 |_,_,_=>False
theorem SBl_eq {kt x}:SBl kt [x] G Q=(∃b,(byV x=some b∧Byt b∧b.length < 10000000000000)∧Q (.v (.arr .u8 64 (keyB kt b))) G):=rfl
def STd:Spec1
 |[.arr .u8 64 b,.int .u8 c],G,Q=>b.length=64∧Q (.v (.sli .u8 (turnB b c))) G
 |_,_,_=>False
theorem STd_eq {b c}:STd [.arr .u8 64 b,.int .u8 c] G Q=(b.length=64∧Q (.v (.sli .u8 (turnB b c))) G):=rfl
def SSa:Spec1
 |[.arr .u8 32 a,.arr .u8 32 b],G,Q=>((Byt a∧a.length=32)∧Byt b∧b.length=32)∧Q (.v (.bool (decide (a=b)))) G
 |_,_,_=>False
theorem SSa_eq {a b}:SSa [.arr .u8 32 a,.arr .u8 32 b] G Q=(((Byt a∧a.length=32)∧Byt b∧b.length=32)∧Q (.v (.bool (decide (a=b)))) G):=rfl
theorem keyB_big {k key:List Int} (h:64 < key.length):(sumB k key).take 64++[0,0,0,0,0,0,0,0,0,0,0,0,0,0,0,0,0,0,0,0,0,0,0,0,0,0,0,0,0,0,0,0,0,0,0,0,0,0,0,0,0,0,0,0,0,0,0,0,0,0,0,0,0,0,0,0,0,0,0,0,0,0,0,0].drop (sumB k key).length=keyB k key:=by
 unfold keyB;rw[if_pos h,List.take_of_length_le (by rw[sumB_len];omega),sumB_len];rfl
theorem keyB_small {k key:List Int} (h:¬64 < key.length):key.take 64++[0,0,0,0,0,0,0,0,0,0,0,0,0,0,0,0,0,0,0,0,0,0,0,0,0,0,0,0,0,0,0,0,0,0,0,0,0,0,0,0,0,0,0,0,0,0,0,0,0,0,0,0,0,0,0,0,0,0,0,0,0,0,0,0].drop key.length=keyB k key:=by
 show key.take 64++(List.replicate 64 (0:Int)).drop key.length=_
 unfold keyB;rw[if_neg h,List.take_of_length_le (by omega),List.drop_replicate]
theorem walk124 {kt b:List Int} {x:V} (h64:Abs.look l 123=some (SOf kt)) (hx:byV x=some b) (hby:Byt b) (hb:b.length < 10000000000000) (h:Q (.v (.arr .u8 64 (keyB kt b))) G):Wf E (specOf l) pf124 [x] G Q:=by
 rcases byV_cases hx with rfl|⟨rfl,rfl⟩
 ·by_cases hbig:(64:Int) < b.length
  ·have hbig':64 < b.length:=by omega
   simp (maxSteps:=1000000) (implicitDefEqProofs:=false) only[pf124,hbig,h64,SOf_eq,go_sem,↓reduceIte]
   refine⟨b,⟨by simp[partsV,catL,byV],hby,by omega⟩,?_⟩
   have ht:((sumB kt b).take 32)=sumB kt b:=List.take_of_length_le (by rw[sumB_len];omega)
   simp (maxSteps:=1000000) (implicitDefEqProofs:=false) only[ht,List.drop_zero,go_sem,↓reduceIte]
   rw[keyB_big hbig']
   exact h
  ·have hbig':¬64 < b.length:=by omega
   simp (maxSteps:=1000000) (implicitDefEqProofs:=false) only[pf124,hbig,h64,SOf_eq,go_sem,↓reduceIte]
   rw[keyB_small hbig']
   exact h
 ·simp (maxSteps:=1000000) (implicitDefEqProofs:=false) only[pf124,h64,SOf_eq,go_sem,↓reduceIte]
  exact h
theorem loop125 {b:List Int} {c:Int} {QQ:Ex→St→Prop} (hl:b.length=64)
  (hx:∀ts,QQ (.exit 0) ⟨[none,some (.v (.int .u8 c)),some (.lp 0 []),none,none,none,some (.v (.int .i64 64))],ts,[⟨false,.arr .u8 64 (turnB b c)⟩],G⟩):
  ∀(m i:Nat),i+m=64→WL (W E C lp125_0) [1,2,6] QQ (m+1) ⟨[none,some (.v (.int .u8 c)),some (.lp 0 []),none,none,none,some (.v (.int .i64 i))],[],[⟨false,.arr .u8 64 ((turnB b c).take i++b.drop i)⟩],G⟩:=by
 intro m
 induction m with
 |zero=>
  intro i hi
  obtain rfl:i=64:=by omega
  have e:(turnB b c).take 64++b.drop 64=turnB b c:=by
   rw[List.take_of_length_le (by rw[turnB_len];omega),List.drop_eq_nil_of_le (by omega),List.append_nil]
  rw[e]
  refine WL_in lp125_0.eq_1 ?_
  simp (maxSteps:=1000000) (implicitDefEqProofs:=false) only[go_sem,↓reduceIte]
  exact hx _
 |succ m ih=>
  intro i hi
  have hi64:i < 64:=by omega
  have hlt:(i:Int) < 64:=by omega
  have ew:IntKind.i64.wrap ((i:Int)+1)=((i+1:Nat):Int):=by rw[w64 (by omega) (by omega)];simp
  have hs:=map_step (f:=fun x=>bXor .u8 x c) (b:=b) (i:=i) (by omega)
  have ihh:=ih (i+1) (by omega)
  unfold turnB at ihh⊢
  rw[←hs]at ihh
  refine WL_in lp125_0.eq_1 ?_
  simp (maxSteps:=1000000) (implicitDefEqProofs:=false) only[hlt,hi64,ew,Int.toNat_natCast,go_sem,↓reduceIte]
  exact⟨by omega,by omega,ihh⟩
theorem walk125 {b:List Int} {c:Int} (hl:b.length=64) (h:Q (.v (.sli .u8 (turnB b c))) G):Wf E C pf125 [.arr .u8 64 b,.int .u8 c] G Q:=by
 simp (maxSteps:=1000000) (implicitDefEqProofs:=false) only[pf125,go_sem,↓reduceIte]
 refine⟨65,?_⟩
 simp (maxSteps:=1000000) (implicitDefEqProofs:=false) only[go_sem,↓reduceIte]
 refine loop125 hl (fun ts=> ?_) 64 0 (by omega)
 have ht:(turnB b c).take 64=turnB b c:=List.take_of_length_le (by rw[turnB_len];omega)
 simp (maxSteps:=1000000) (implicitDefEqProofs:=false) only[ht,List.drop_zero,go_sem,↓reduceIte]
 exact h
theorem loop111 {a b:List Int} {z0:Bx} {QQ:Ex→St→Prop} (ha:Byt a) (hb:Byt b) (hal:a.length=32) (hbl:b.length=32)
  (hx:∀ts u,(u=0↔a=b)→QQ (.exit 0) ⟨[none,none,none,some (.lp 1 []),none,some (.v (.int .u8 u)),none,none,some (.v (.arr .u8 32 a)),some (.v (.int .i64 32))],ts,[z0,⟨false,.arr .u8 32 b⟩],G⟩):
  ∀(m i:Nat) (u:Int),i+m=32→(0≤u∧u≤255)→(u=0↔a.take i=b.take i)→WL (W E C lp111_0) [3,5,8,9] QQ (m+1) ⟨[none,none,none,some (.lp 1 []),none,some (.v (.int .u8 u)),none,none,some (.v (.arr .u8 32 a)),some (.v (.int .i64 i))],[],[z0,⟨false,.arr .u8 32 b⟩],G⟩:=by
 intro m
 induction m with
 |zero=>
  intro i u hi hu hq
  obtain rfl:i=32:=by omega
  rw[List.take_of_length_le (by omega),List.take_of_length_le (by omega)]at hq
  refine WL_in lp111_0.eq_1 ?_
  simp (maxSteps:=1000000) (implicitDefEqProofs:=false) only[go_sem,↓reduceIte]
  exact hx _ _ hq
 |succ m ih=>
  intro i u hi hu hq
  have hi32:i < 32:=by omega
  have hlt:(i:Int) < 32:=by omega
  have ew:IntKind.i64.wrap ((i:Int)+1)=((i+1:Nat):Int):=by rw[w64 (by omega) (by omega)];simp
  have hga:=byt_getD ha i
  have hgb:=byt_getD hb i
  have hst:=unlike_step hu hga hgb
  have ihh:=ih (i+1) (bOr .u8 u (bXor .u8 (a.getD i 0) (b.getD i 0))) (by omega) (or8_by _ _) (by
   rw[hst,hq,←snoc_step' (by omega:i < a.length),←snoc_step' (by omega:i < b.length)]
   constructor
   ·rintro⟨h1,h2⟩;rw[h1,h2]
   ·intro h1
    obtain⟨h2,h3⟩:=List.append_inj h1 (by simp[hal,hbl])
    exact⟨h2,by simpa using h3⟩)
  refine WL_in lp111_0.eq_1 ?_
  simp (maxSteps:=1000000) (implicitDefEqProofs:=false) only[hlt,hi32,ew,Int.toNat_natCast,go_sem,↓reduceIte]
  exact⟨by omega,by omega,ihh⟩
theorem walk111 {a b:List Int} (ha:Byt a) (hb:Byt b) (hal:a.length=32) (hbl:b.length=32) (h:Q (.v (.bool (decide (a=b)))) G):Wf E C pf111 [.arr .u8 32 a,.arr .u8 32 b] G Q:=by
 simp (maxSteps:=1000000) (implicitDefEqProofs:=false) only[pf111,go_sem,↓reduceIte]
 refine⟨33,?_⟩
 simp (maxSteps:=1000000) (implicitDefEqProofs:=false) only[go_sem,↓reduceIte]
 refine loop111 ha hb hal hbl (fun ts u hu=> ?_) 32 0 0 (by omega) (by omega) (by simp)
 simp (maxSteps:=1000000) (implicitDefEqProofs:=false) only[go_sem,↓reduceIte]
 exact finB h (by simp[hu])
theorem hash132 {b hh:List Int} {z0:Bx} {QQ:Ex→St→Prop} (hl:hh.length=32)
  (hx:∀ts,QQ (.exit 0) ⟨[none,none,some (.lp 0 []),some (.lp 1 []),some (.lp 2 []),some (.v (.int .i64 32)),none],ts,[z0,⟨false,.arr .u8 64 (hh++List.replicate 32 0)⟩,⟨false,.arr .u8 32 hh⟩],G⟩):
  ∀(m i:Nat),i+m=32→WL (W E C lp132_1) [2,3,4,5] QQ (m+1) ⟨[none,none,some (.lp 0 []),some (.lp 1 []),some (.lp 2 []),some (.v (.int .i64 i)),none],[],[z0,⟨false,.arr .u8 64 (hh.take i++List.replicate (32+m) 0)⟩,⟨false,.arr .u8 32 hh⟩],G⟩:=by
 intro m
 induction m with
 |zero=>
  intro i hi
  obtain rfl:i=32:=by omega
  rw[List.take_of_length_le (by omega)]
  refine WL_in lp132_1.eq_1 ?_
  simp (maxSteps:=1000000) (implicitDefEqProofs:=false) only[go_sem,↓reduceIte]
  exact hx _
 |succ m ih=>
  intro i hi
  have hi32:i < 32:=by omega
  have hi64:i < 64:=by omega
  have hlt:(i:Int) < 32:=by omega
  have ew:IntKind.i64.wrap ((i:Int)+1)=((i+1:Nat):Int):=by rw[w64 (by omega) (by omega)];simp
  have hs:(hh.take i++List.replicate (32+(m+1)) 0).set i (hh.getD i 0)=hh.take (i+1)++List.replicate (32+m) 0:=by
   rw[List.set_append_right _ _ (by simp;omega),List.length_take,Nat.min_eq_left (by omega),Nat.sub_self,show 32+(m+1)=(32+m)+1 by omega,List.replicate_succ,List.set_cons_zero,←snoc_step' (by omega:i < hh.length),List.append_assoc];rfl
  have ihh:=ih (i+1) (by omega)
  rw[←hs]at ihh
  generalize hh.take i++List.replicate (32+(m+1)) 0=w at*
  refine WL_in lp132_1.eq_1 ?_
  simp (maxSteps:=1000000) (implicitDefEqProofs:=false) only[hlt,hi32,hi64,ew,Int.toNat_natCast,go_sem,↓reduceIte]
  exact⟨by omega,by omega,ihh⟩
theorem text132 {b:List Int} {z0:Bx} {QQ:Ex→St→Prop} (hl:b.length≤64)
  (hx:∀ts,QQ (.exit 2) ⟨[some (.v (.sli .u8 b)),none,some (.lp 0 []),some (.lp 1 []),none,none,some (.v (.int .i64 b.length))],ts,[z0,⟨false,.arr .u8 64 (b++List.replicate (64-b.length) 0)⟩],G⟩):
  ∀(m i:Nat),i+m=b.length→WL (W E C lp132_0) [0,2,3,6] QQ (m+1) ⟨[some (.v (.sli .u8 b)),none,some (.lp 0 []),some (.lp 1 []),none,none,some (.v (.int .i64 i))],[],[z0,⟨false,.arr .u8 64 (b.take i++List.replicate (64-i) 0)⟩],G⟩:=by
 intro m
 induction m with
 |zero=>
  intro i hi
  obtain rfl:i=b.length:=by omega
  have hno:¬(b.length:Int) < (b.length:Int):=by omega
  rw[List.take_of_length_le (by omega)]
  refine WL_in lp132_0.eq_1 ?_
  simp (maxSteps:=1000000) (implicitDefEqProofs:=false) only[hno,go_sem,↓reduceIte]
  exact hx _
 |succ m ih=>
  intro i hi
  have hi64:i < 64:=by omega
  have hlt:(i:Int) < b.length:=by omega
  have ew:IntKind.i64.wrap ((i:Int)+1)=((i+1:Nat):Int):=by rw[w64 (by omega) (by omega)];simp
  have hs:(b.take i++List.replicate (64-i) 0).set i (b.getD i 0)=b.take (i+1)++List.replicate (64-(i+1)) 0:=by
   rw[List.set_append_right _ _ (by simp;omega),List.length_take,Nat.min_eq_left (by omega),Nat.sub_self,show 64-i=(64-(i+1))+1 by omega,List.replicate_succ,List.set_cons_zero,←snoc_step' (by omega:i < b.length),List.append_assoc];rfl
  have ihh:=ih (i+1) (by omega)
  rw[←hs]at ihh
  generalize b.take i++List.replicate (64-i) 0=w at*
  refine WL_in lp132_0.eq_1 ?_
  simp (maxSteps:=1000000) (implicitDefEqProofs:=false) only[hlt,hi64,ew,Int.toNat_natCast,go_sem,↓reduceIte]
  exact⟨by omega,by omega,ihh⟩
theorem walk132 {kt b:List Int} {x:V} (h69:Abs.look l 131=some (SRf kt)) (hx:byV x=some b) (hby:Byt b) (hb:b.length < 10000000000000) (h:Q (.v (.arr .u8 64 (keyB kt b))) G):Wf E (specOf l) pf132 [x] G Q:=by
 rcases byV_cases hx with rfl|⟨rfl,rfl⟩
 ·by_cases hbig:(64:Int) < b.length
  ·have hbig':64 < b.length:=by omega
   simp (maxSteps:=1000000) (implicitDefEqProofs:=false) only[pf132,hbig,h69,SRf_eq,go_sem,↓reduceIte]
   refine⟨b,⟨rfl,hby,by omega⟩,33,?_⟩
   simp (maxSteps:=1000000) (implicitDefEqProofs:=false) only[go_sem,↓reduceIte]
   refine hash132 (b:=b) (sumB_len _ _) (fun ts=> ?_) 32 0 (by omega)
   simp (maxSteps:=1000000) (implicitDefEqProofs:=false) only[go_sem,↓reduceIte]
   unfold keyB at h;rw[if_pos hbig']at h
   exact h
  ·have hbig':¬64 < b.length:=by omega
   simp (maxSteps:=1000000) (implicitDefEqProofs:=false) only[pf132,hbig,go_sem,↓reduceIte]
   refine⟨b.length+1,?_⟩
   simp (maxSteps:=1000000) (implicitDefEqProofs:=false) only[go_sem,↓reduceIte]
   refine text132 (by omega) (fun ts=> ?_) b.length 0 (by omega)
   simp (maxSteps:=1000000) (implicitDefEqProofs:=false) only[go_sem,↓reduceIte]
   unfold keyB at h;rw[if_neg hbig']at h
   exact h
 ·simp (maxSteps:=1000000) (implicitDefEqProofs:=false) only[pf132,go_sem,↓reduceIte]
  refine⟨1,?_⟩
  simp (maxSteps:=1000000) (implicitDefEqProofs:=false) only[go_sem,↓reduceIte]
  refine WL_in lp132_0.eq_1 ?_
  simp (maxSteps:=1000000) (implicitDefEqProofs:=false) only[go_sem,↓reduceIte]
  exact h
end Go.Proofs.YtjbglbhcbenhpaaDoor.Sha
namespace Go.Proofs.YtjbglbhcbenhpaaDoor.Sha
open Go Go.Abs Go.Abs.Sha
set_option linter.unusedSimpArgs false
set_option linter.unusedVariables false
set_option maxRecDepth 100000
def pf105:PF:=
 PF.mk 2 7 21 ((PC.reg [nn (.v 4) (.alloc (.arr .u8 32 [0,0,0,0,0,0,0,0,0,0,0,0,0,0,0,0,0,0,0,0,0,0,0,0,0,0,0,0,0,0,0,
  0]))]).seq ((PC.reg [mm 7 0,nn (.t 8) (.call 124 [.t 7]),nn (.v 5) (.alloc (.arr .u8 64 [0,0,0,0,0,0,0,0,0,0,0,0,0,0,0,0,0,0,0,
  0,0,0,0,0,0,0,0,0,0,0,0,0,0,0,0,0,0,0,0,0,0,0,0,0,0,0,0,0,0,0,0,0,0,0,0,0,0,0,0,0,0,0,0,0])),nn .no
  (.store 64 (.v 5) (.t 8))]).seq ((PC.reg [nn (.t 9) (.load 64 true (.v 5)),nn (.t 10) (.call 125 [.t 9,.c (.v (.int .u8 54))]),nn (.t 11) (.buildS
  none 1 .nils 1 [(0,.t 10)]),mm 12 1,nn (.t 13) (.buildS none 1 .nils 2 [(0,.t 11),(1,.t 12)]),nn (.t 14) (.call 106 [.t 13]),nn (.t 15)
  (.call 123 [.t 14]),nn (.v 6) (.alloc (.arr .u8 32 [0,0,0,0,0,0,0,0,0,0,0,0,0,0,0,0,0,0,0,0,0,0,0,0,0,0,0,0,0,0,0,
  0])),nn .no (.store 32 (.v 6) (.t 15))]).seq ((PC.regD 0 [nn (.t 16) (.load 64 true (.v 5)),nn (.t 17) (.call 125 [.t 16,.c (.v (.int .u8 92))]),
  nn (.t 18) (.slcA 32 false (.v 6) none none none),nn (.t 19) (.buildS none 1 .nils 2 [(0,.t 17),(1,.t 18)]),nn (.t 20) (.call 123 [.t 19]),nn
  .no (.store 32 (.v 4) (.t 20))] [(0,2),(1,2)]).seq PC.ret)))) [(.v 4,some (32,true))]
def lp121_0:PC:=
 ((PC.reg [mm 37 10,nn (.t 38) (.bin .lss (.t 37) (.c (.v (.int .i64 32))))]).seq (PC.cond (.t 38) PC.skip (PC.exit 2))).seq ((PC.block 3 (PC.reg [nn
  (.t 41) (.mv true (.v 7)),mm 42 10,nn (.t 43) (.iadrA 32 (.v 9) (.t 42)),nn (.t 44) (.load 1 false (.t 43)),nn (.t 45) (.buildS (some .u8) 1
  (.int .u8 0) 1 [(0,.t 44)]),nn (.t 46) (.app (some .u8) 1 1 (.t 41) (.t 45)),ma 7 46])).seq (PC.reg [mm 39 10,nn (.t 40) (.bin .add (.t 39) (.c
  (.v (.int .i64 1)))),ma 10 40]))
def lp121_1:PC:=
 ((PC.reg [mm 15 8,nn (.t 16) (.bin .lss (.t 15) (.c (.v (.int .i64 64))))]).seq (PC.cond (.t 16) PC.skip (PC.exit 0))).seq ((PC.block 1 ((PC.reg [nn
  (.t 19) (.mv true (.v 6)),mm 20 8,nn (.t 21) (.iadrA 64 (.v 5) (.t 20)),nn (.t 22) (.load 1 false (.t 21)),nn (.t 23) (.bin .xor (.t 22) (.c (.v
  (.int .u8 54)))),nn (.t 24) (.buildS (some .u8) 1 (.int .u8 0) 1 [(0,.t 23)]),nn (.t 25) (.app (some .u8) 1 1 (.t 19) (.t 24)),ma 6 25]).seq
  (PC.reg [nn (.t 26) (.mv true (.v 7)),mm 27 8,nn (.t 28) (.iadrA 64 (.v 5) (.t 27)),nn (.t 29) (.load 1 false (.t 28)),nn (.t 30) (.bin .xor (.t
  29) (.c (.v (.int .u8 92)))),nn (.t 31) (.buildS (some .u8) 1 (.int .u8 0) 1 [(0,.t 30)]),nn (.t 32) (.app (some .u8) 1 1 (.t 26) (.t 31)),ma 7
  32]))).seq (PC.reg [mm 17 8,nn (.t 18) (.bin .add (.t 17) (.c (.v (.int .i64 1)))),ma 8 18]))
def pf121:PF:=
 PF.mk 2 11 49 ((PC.reg [nn (.v 4) (.alloc (.arr .u8 32 [0,0,0,0,0,0,0,0,0,0,0,0,0,0,0,0,0,0,0,0,0,0,0,0,0,0,0,0,0,0,0,
  0]))]).seq ((PC.reg [mm 11 0,nn (.t 12) (.call 132 [.t 11]),nn (.v 5) (.alloc (.arr .u8 64 [0,0,0,0,0,0,0,0,0,0,0,0,0,0,0,0,0,0,
  0,0,0,0,0,0,0,0,0,0,0,0,0,0,0,0,0,0,0,0,0,0,0,0,0,0,0,0,0,0,0,0,0,0,0,0,0,0,0,0,0,0,0,0,0,0])),nn .no
  (.store 64 (.v 5) (.t 12))]).seq ((PC.reg [nn (.t 13) (.buildS (some .u8) 1 (.int .u8 0) 0 []),nn (.t 14) (.buildS (some .u8) 1 (.int .u8 0) 0 []),
  ma 6 13,ma 7 14]).seq (((PC.reg [nn (.v 8) (.mv true (.c (.v (.int .i64 0))))]).seq (PC.block 0 (PC.loop [1,4,5,6,7,8] lp121_1))).seq ((PC.reg
  [nn (.t 33) (.mv true (.v 6)),mm 34 1,nn (.t 35) (.app (some .u8) 1 1 (.t 33) (.t 34)),nn (.t 36) (.call 131 [.t 35]),nn (.v 9) (.alloc (.arr .u8
  32 [0,0,0,0,0,0,0,0,0,0,0,0,0,0,0,0,0,0,0,0,0,0,0,0,0,0,0,0,0,0,0,0])),nn .no (.store 32 (.v 9) (.t 36))]).seq
  (((PC.reg [nn (.v 10) (.mv true (.c (.v (.int .i64 0))))]).seq (PC.block 2 (PC.loop [4,7,9,10] lp121_0))).seq ((PC.reg [mm 47 7,nn (.t 48) (.call
  131 [.t 47]),nn .no (.store 32 (.v 4) (.t 48))]).seq PC.ret))))))) [(.v 4,some (32,true))]
attribute [local irreducible] W Wops WopsD WL Wop WopD
variable {E:Env} {C:Abs.Spec} {l:List (Nat×Spec1)} {G:List (Nat×V)} {Q:R→List (Nat×V)→Prop}
set_option maxHeartbeats 1000000
def SMa (kt:List Int):Spec1
 |[x,y],G,Q=>∃b c r,(byV x=some b∧Byt b∧b.length < 10000000000000∧rowV y=some r∧r.length < 100000000000∧catL r=some c∧Byt c∧c.length < 10000000000000)∧Q (.v (.arr .u8 32 (macB kt b c))) G
 |_,_,_=>False
theorem SMa_eq {kt x y}:SMa kt [x,y] G Q=(∃b c r,(byV x=some b∧Byt b∧b.length < 10000000000000∧rowV y=some r∧r.length < 100000000000∧catL r=some c∧Byt c∧c.length < 10000000000000)∧Q (.v (.arr .u8 32 (macB kt b c))) G):=rfl
def SMr (kt:List Int):Spec1
 |[x,y],G,Q=>∃b c,(byV x=some b∧Byt b∧b.length < 10000000000000∧byV y=some c∧Byt c∧c.length < 10000000000000)∧Q (.v (.arr .u8 32 (macB kt b c))) G
 |_,_,_=>False
theorem SMr_eq {kt x y}:SMr kt [x,y] G Q=(∃b c,(byV x=some b∧Byt b∧b.length < 10000000000000∧byV y=some c∧Byt c∧c.length < 10000000000000)∧Q (.v (.arr .u8 32 (macB kt b c))) G):=rfl
theorem walk105 {kt b c:List Int} {r:List V} {x y:V} (h64:Abs.look l 123=some (SOf kt)) (h65:Abs.look l 124=some (SBl kt)) (h66:Abs.look l 125=some STd) (h56:Abs.look l 106=some SCc)
  (hx:byV x=some b) (hby:Byt b) (hb:b.length < 10000000000000) (hy:rowV y=some r) (hr:r.length < 100000000000) (hc:catL r=some c) (hcy:Byt c) (hcl:c.length < 10000000000000) (h:Q (.v (.arr .u8 32 (macB kt b c))) G):Wf E (specOf l) pf105 [x,y] G Q:=by
 have hk:=keyB_len kt b
 have hkt:((sumB kt (turnB (keyB kt b) 54++c)).take 32)=sumB kt (turnB (keyB kt b) 54++c):=List.take_of_length_le (by rw[sumB_len];omega)
 have htl:∀z,(turnB (keyB kt b) z).length=64:=fun z=>by rw[turnB_len,hk]
 have hcat:catL ([V.sli .u8 (turnB (keyB kt b) 54)]++r)=some (turnB (keyB kt b) 54++c):=catL_mk rfl hc
 have hcat2:partsV (.sle 1 [V.sli .u8 (turnB (keyB kt b) 92),V.sli .u8 (sumB kt (turnB (keyB kt b) 54++c))])=some (turnB (keyB kt b) 92++sumB kt (turnB (keyB kt b) 54++c)):=by simp[partsV,catL,byV]
 have hp:catP [.sle 1 [V.sli .u8 (turnB (keyB kt b) 54)],y]=some ([V.sli .u8 (turnB (keyB kt b) 54)]++r):=by
  have:=catP_mk (x:= .sle 1 [V.sli .u8 (turnB (keyB kt b) 54)]) rfl (catP_mk hy (show catP []=some []from rfl))
  simpa using this
 rcases byV_cases hx with rfl|⟨rfl,rfl⟩<;>rcases rowV_cases hy with rfl|⟨rfl,rfl⟩
 all_goals
  simp (maxSteps:=1000000) (implicitDefEqProofs:=false) only[pf105,h65,SBl_eq,h66,STd_eq,h56,SCc_eq,h64,SOf_eq,go_sem,↓reduceIte]
  refine⟨_,⟨rfl,hby,hb⟩,hk,_,⟨hp,by simp,by simp;try omega⟩,_,⟨hcat,by simp;try omega,byt_app (byt_turn _ _) hcy,by rw[List.length_append,htl];omega⟩,?_⟩
  simp (maxSteps:=1000000) (implicitDefEqProofs:=false) only[hkt,List.drop_zero,go_sem,↓reduceIte]
  refine⟨hk,_,⟨hcat2,byt_app (byt_turn _ _) (byt_sum _ _),by rw[List.length_append,htl,sumB_len];omega⟩,?_⟩
  exact h
theorem pads121 {y:V} {b:List Int} {z0:Bx} {QQ:Ex→St→Prop} (hl:b.length=64)
  (hx:∀ts,QQ (.exit 0) ⟨[none,some (.v y),none,none,some (.lp 0 []),some (.lp 1 []),some (.own (.sli .u8 (turnB b 54))),some (.own (.sli .u8 (turnB b 92))),some (.v (.int .i64 64)),none,none],ts,[z0,⟨false,.arr .u8 64 b⟩],G⟩):
  ∀(m i:Nat),i+m=64→WL (W E C lp121_1) [1,4,5,6,7,8] QQ (m+1) ⟨[none,some (.v y),none,none,some (.lp 0 []),some (.lp 1 []),some (.own (.sli .u8 ((turnB b 54).take i))),some (.own (.sli .u8 ((turnB b 92).take i))),some (.v (.int .i64 i)),none,none],[],[z0,⟨false,.arr .u8 64 b⟩],G⟩:=by
 intro m
 induction m with
 |zero=>
  intro i hi
  obtain rfl:i=64:=by omega
  rw[List.take_of_length_le (by rw[turnB_len];omega),List.take_of_length_le (by rw[turnB_len];omega)]
  refine WL_in lp121_1.eq_1 ?_
  simp (maxSteps:=1000000) (implicitDefEqProofs:=false) only[go_sem,↓reduceIte]
  exact hx _
 |succ m ih=>
  intro i hi
  have hi64:i < 64:=by omega
  have hlt:(i:Int) < 64:=by omega
  have ew:IntKind.i64.wrap ((i:Int)+1)=((i+1:Nat):Int):=by rw[w64 (by omega) (by omega)];simp
  have ihh:=ih (i+1) (by omega)
  have s1:=snoc_step (f:=fun x=>bXor .u8 x 54) (b:=b) (i:=i) (by omega)
  have s2:=snoc_step (f:=fun x=>bXor .u8 x 92) (b:=b) (i:=i) (by omega)
  have l1:((turnB b 54).take i).length=i:=by rw[List.length_take,turnB_len];omega
  have l2:((turnB b 92).take i).length=i:=by rw[List.length_take,turnB_len];omega
  unfold turnB at ihh l1 l2⊢
  rw[←s1,←s2]at ihh
  generalize (b.map fun x=>bXor .u8 x 54).take i=u1 at*
  generalize (b.map fun x=>bXor .u8 x 92).take i=u2 at*
  refine WL_in lp121_1.eq_1 ?_
  simp (maxSteps:=1000000) (implicitDefEqProofs:=false) only[hlt,hi64,ew,Int.toNat_natCast,go_sem,↓reduceIte]
  exact⟨by omega,by omega,by omega,by omega,ihh⟩
theorem tail121 {hh p:List Int} {z0 z1:Bx} {QQ:Ex→St→Prop} (hl:hh.length=32) (hp:p.length=64)
  (hx:∀ts,QQ (.exit 2) ⟨[none,none,none,none,some (.lp 0 []),none,none,some (.own (.sli .u8 (p++hh))),none,some (.lp 2 []),some (.v (.int .i64 32))],ts,[z0,z1,⟨false,.arr .u8 32 hh⟩],G⟩):
  ∀(m i:Nat) (u:List Int),u=p++hh.take i→i+m=32→WL (W E C lp121_0) [4,7,9,10] QQ (m+1) ⟨[none,none,none,none,some (.lp 0 []),none,none,some (.own (.sli .u8 u)),none,some (.lp 2 []),some (.v (.int .i64 i))],[],[z0,z1,⟨false,.arr .u8 32 hh⟩],G⟩:=by
 intro m
 induction m with
 |zero=>
  rintro i u rfl hi
  obtain rfl:i=32:=by omega
  rw[List.take_of_length_le (by omega)]
  refine WL_in lp121_0.eq_1 ?_
  simp (maxSteps:=1000000) (implicitDefEqProofs:=false) only[go_sem,↓reduceIte]
  exact hx _
 |succ m ih=>
  rintro i u rfl hi
  have hi32:i < 32:=by omega
  have hlt:(i:Int) < 32:=by omega
  have ew:IntKind.i64.wrap ((i:Int)+1)=((i+1:Nat):Int):=by rw[w64 (by omega) (by omega)];simp
  have ihh:=ih (i+1) _ rfl (by omega)
  have s1:p++hh.take (i+1)=(p++hh.take i)++[hh.getD i 0]:=by rw[List.append_assoc,snoc_step' (by omega)]
  have l1:(p++hh.take i).length=64+i:=by rw[List.length_append,List.length_take];omega
  rw[s1]at ihh
  generalize p++hh.take i=u at*
  refine WL_in lp121_0.eq_1 ?_
  simp (maxSteps:=1000000) (implicitDefEqProofs:=false) only[hlt,hi32,ew,Int.toNat_natCast,go_sem,↓reduceIte]
  exact⟨by omega,by omega,ihh⟩
theorem walk121 {kt b c:List Int} {x y:V} (h69:Abs.look l 131=some (SRf kt)) (h70:Abs.look l 132=some (SBl kt))
  (hx:byV x=some b) (hby:Byt b) (hb:b.length < 10000000000000) (hy:byV y=some c) (hcy:Byt c) (hcl:c.length < 10000000000000) (h:Q (.v (.arr .u8 32 (macB kt b c))) G):Wf E (specOf l) pf121 [x,y] G Q:=by
 have hk:=keyB_len kt b
 have htl:∀z,(turnB (keyB kt b) z).length=64:=fun z=>by rw[turnB_len,hk]
 rcases byV_cases hx with rfl|⟨rfl,rfl⟩<;>rcases byV_cases hy with rfl|⟨rfl,rfl⟩
 all_goals
  simp (maxSteps:=1000000) (implicitDefEqProofs:=false) only[pf121,h70,SBl_eq,go_sem,↓reduceIte]
  refine⟨_,⟨rfl,hby,hb⟩,65,?_⟩
  simp (maxSteps:=1000000) (implicitDefEqProofs:=false) only[go_sem,↓reduceIte]
  refine pads121 hk (fun ts=> ?_) 64 0 (by omega)
  simp (maxSteps:=1000000) (implicitDefEqProofs:=false) only[h69,SRf_eq,htl,go_sem,↓reduceIte]
  try refine And.intro (by omega) ?_
  refine⟨turnB (keyB kt _) 54++_,⟨by first|exact byV_u8 _|(rw[List.append_nil];exact byV_u8 _),byt_app (byt_turn _ _) hcy,by rw[List.length_append,htl];omega⟩,33,?_⟩
  simp (maxSteps:=1000000) (implicitDefEqProofs:=false) only[go_sem,↓reduceIte]
  refine tail121 (sumB_len _ _) (htl 92) (fun ts=> ?_) 32 0 _ (by simp) (by omega)
  simp (maxSteps:=1000000) (implicitDefEqProofs:=false) only[h69,SRf_eq,htl,go_sem,↓reduceIte]
  refine⟨_,⟨rfl,byt_app (byt_turn _ _) (byt_sum _ _),by rw[List.length_append,htl,sumB_len];omega⟩,?_⟩
  first|exact h|(unfold macB at h;rw[List.append_nil]at h;exact h)
end Go.Proofs.YtjbglbhcbenhpaaDoor.Sha
