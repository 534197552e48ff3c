/- Laws over plain values, and what functions of the program hand back; no conditions. -/
import Derived.Test.YtegamlopcdjiaaaG4
import Derived.Test.YtegamlopcdjiaaaG2
namespace Go.Proofs.Ytegamlopcdjiaaa.Sha
open Go Go.Abs Go.Abs.Sha Go.Abs.Srt
set_option linter.unusedSimpArgs false
set_option linter.unusedVariables false
set_option maxRecDepth 100000
def lp81_0:PC:=
 (PC.reg [nn (.t 58) (.bin .lss (.v 57) (.v 56))]).seq ((PC.cond (.t 58) PC.skip (PC.exit 2)).seq ((PC.block 3 ((PC.reg [nn (.t 59) (.iadrS 33 (.v 55)
  (.v 57)),nn (.t 60) (.load 33 true (.t 59)),nn (.v 8) (.alloc (.agg [.int .i64 0,.arr .u8 32 [0,0,0,0,0,0,0,0,0,0,0,0,0,0,0,0,0,
  0,0,0,0,0,0,0,0,0,0,0,0,0,0,0]])),nn .no (.store 33 (.v 8) (.t 60))]).seq (PC.regD 0 [mm 61 0,nn (.t 62) (.fadr 0 0 (.v 8)),nn (.t
  63) (.load 1 false (.t 62)),nn (.t 64) (.conv .u64 (.t 63)),nn (.t 65) (.call 31 [.t 61,.t 64]),nn (.t 66) (.fadr 1 1 (.v 8)),nn (.t 67) (.load
  32 true (.t 66)),nn (.t 68) (.call 82 [.t 65,.t 67]),ma 0 68] []))).seq (PC.reg [nn (.t 69) (.bin .add (.v 57) (.c (.v (.int .i64 1)))),nn (.v
  57) (.mv false (.t 69))])))
def lp81_1:PC:=
 (PC.reg [nn (.v 26) (.bin .lss (.v 25) (.v 24))]).seq ((PC.cond (.v 26) PC.skip (PC.exit 0)).seq ((PC.block 1 ((PC.reg [nn (.v 27) (.iadrS 1 (.v 23)
  (.v 25)),nn (.v 28) (.load 1 false (.v 27)),nn (.v 6) (.mv true (.v 28))]).seq (PC.reg [nn (.v 29) (.mv false (.v 0)),nn (.v 30) (.mv false (.v
  6)),nn (.v 31) (.conv .u64 (.v 30)),nn (.v 32) (.call 31 [.v 29,.v 31]),nn (.v 0) (.mv true (.v 32))]))).seq (PC.reg [nn (.v 33) (.bin .add (.v
  25) (.c (.v (.int .i64 1)))),nn (.v 25) (.mv false (.v 33))])))
def pf81:PF:=
 PF.mk 2 58 71 ((PC.reg [nn (.v 3) (.box (.v 1)),nn (.v 4) (.mv true (.c (.own .nils)))]).seq (((PC.reg [nn (.v 9) (.load 102 true (.v 3)),nn (.v 10)
  (.call 115 [.v 9]),nn (.v 11) (.un .not (.v 10))]).seq (PC.cond (.v 11) ((PC.reg [nn (.v 12) (.mv false (.v 0)),nn (.v 13) (.call 79 [.v 12]),nn
  (.v 4) (.mv true (.v 13))]).seq PC.ret) PC.skip)).seq (((PC.reg [nn (.v 14) (.fadr 0 0 (.v 3)),nn (.v 15) (.fadr 1 1 (.v 14)),nn (.v 16) (.load 1
  false (.v 15)),nn (.v 17) (.fadr 0 0 (.v 3)),nn (.v 18) (.fadr 2 2 (.v 17)),nn (.v 19) (.load 1 false (.v 18)),nn (.v 20) (.fadr 0 0 (.v 3)),nn
  (.v 21) (.fadr 3 3 (.v 20)),nn (.v 22) (.load 1 false (.v 21)),nn (.v 23) (.buildS (some .i64) 1 (.int .i64 0) 3 [(0,.v 16),(1,.v 19),(2,.v
  22)]),nn (.v 24) (.len (.v 23)),nn (.v 25) (.mv false (.c (.v (.int .i64 0))))]).seq (PC.block 0 (PC.loop [0,3,23,24,25] lp81_1))).seq
  ((PC.regD 0 [nn (.v 34) (.mv false (.v 0)),nn (.v 35) (.fadr 0 0 (.v 3)),nn (.v 36) (.fadr 4 4 (.v 35)),nn (.v 37) (.load 32 true (.v 36)),nn (.v
  38) (.call 82 [.v 34,.v 37]),nn (.v 39) (.fadr 0 0 (.v 3)),nn (.v 40) (.fadr 5 36 (.v 39)),nn (.v 41) (.load 1 false (.v 40)),nn (.v 42) (.conv
  .u64 (.v 41)),nn (.v 43) (.call 31 [.v 38,.v 42]),nn (.v 44) (.fadr 0 0 (.v 3)),nn (.v 45) (.fadr 6 37 (.v 44)),nn (.v 46) (.load 32 true (.v
  45)),nn (.v 47) (.call 82 [.v 43,.v 46]),nn (.v 0) (.mv true (.v 47))] []).seq ((PC.reg [nn (.v 48) (.mv false (.v 0)),nn (.v 49) (.fadr 1 101
  (.v 3)),nn (.v 50) (.load 1 false (.v 49)),nn (.v 51) (.len (.v 50)),nn (.v 52) (.conv .u64 (.v 51)),nn (.v 53) (.call 31 [.v 48,.v 52]),nn (.v
  0) (.mv true (.v 53))]).seq (((PC.reg [nn (.v 54) (.fadr 1 101 (.v 3)),nn (.v 55) (.load 1 false (.v 54)),nn (.v 56) (.len (.v 55)),nn (.v 57)
  (.mv false (.c (.v (.int .i64 0))))]).seq (PC.block 2 (PC.loop [0,55,56,57] lp81_0))).seq ((PC.reg [nn (.t 70) (.mv true (.v 0)),ma 4 70]).seq
  PC.ret))))))) [(.v 4,none)]
def lp52_0:PC:=
 ((PC.reg [mm 14 4,nn (.t 15) (.fadr 1 101 (.v 1)),nn (.t 16) (.load 1 false (.t 15)),nn (.t 17) (.len (.t 16)),nn (.t 18) (.bin .lss (.t 14) (.t
  17))]).seq (PC.cond (.t 18) PC.skip (PC.exit 0))).seq ((PC.block 1 (PC.regD 0 [nn (.t 21) (.mv true (.v 3)),nn (.t 22) (.fadr 1 101 (.v 1)),nn (.t
  23) (.load 1 false (.t 22)),mm 24 4,nn (.t 25) (.iadrS 33 (.t 23) (.t 24)),nn (.t 26) (.fadr 0 0 (.t 25)),nn (.t 27) (.load 1 false (.t 26)),nn
  (.t 28) (.conv .u8 (.t 27)),nn (.t 29) (.buildS (some .u8) 1 (.int .u8 0) 1 [(0,.t 28)]),nn (.t 30) (.app (some .u8) 1 1 (.t 21) (.t 29)),nn (.t
  31) (.fadr 1 101 (.v 1)),nn (.t 32) (.load 1 false (.t 31)),mm 33 4,nn (.t 34) (.iadrS 33 (.t 32) (.t 33)),nn (.t 35) (.fadr 1 1 (.t 34)),nn (.t
  36) (.load 32 true (.t 35)),nn (.t 37) (.call 53 [.t 36]),nn (.t 38) (.app (some .u8) 1 1 (.t 30) (.t 37)),ma 3 38] [])).seq (PC.reg [mm 19 4,nn
  (.t 20) (.bin .add (.t 19) (.c (.v (.int .i64 1)))),ma 4 20]))
def pf52:PF:=
 PF.mk 1 5 40 ((PC.reg [nn (.v 1) (.box (.v 0)),nn (.v 2) (.mv true (.c (.own .nils)))]).seq ((PC.regD 0 [nn (.t 5) (.fadr 0 0 (.v 1)),nn (.t 6)
  (.load 101 true (.t 5)),nn (.t 7) (.call 103 [.t 6]),nn (.t 8) (.fadr 1 101 (.v 1)),nn (.t 9) (.load 1 false (.t 8)),nn (.t 10) (.len (.t 9)),nn
  (.t 11) (.conv .u8 (.t 10)),nn (.t 12) (.buildS (some .u8) 1 (.int .u8 0) 1 [(0,.t 11)]),nn (.t 13) (.app (some .u8) 1 1 (.t 7) (.t 12)),ma 3 13]
  []).seq (((PC.reg [nn (.v 4) (.mv true (.c (.v (.int .i64 0))))]).seq (PC.block 0 (PC.loop [1,3,4] lp52_0))).seq ((PC.reg [nn (.t 39) (.mv true (.v
  3)),ma 2 39]).seq PC.ret)))) [(.v 2,none)]
attribute [local irreducible] W Wops WopsD WL Wop WopD
variable {E:Env} {C:Abs.Spec} {l:List (Nat×Spec1)} {G:List (Nat×V)} {Q:R→List (Nat×V)→Prop}
set_option maxHeartbeats 1000000
def ZPc:Spec1
 |[x,y],G,Q=>∃(b:List Int) (c:CertS),(byV x=some b∧b.length < 100000000∧y=c.v∧c.ok∧c.sigs.length < 1000000)∧Q (.own (.sli .u8 (if c.may=true then b++c.bytes else b))) G
 |_,_,_=>False
theorem ZPc_eq {x y}:ZPc [x,y] G Q=(∃(b:List Int) (c:CertS),(byV x=some b∧b.length < 100000000∧y=c.v∧c.ok∧c.sigs.length < 1000000)∧Q (.own (.sli .u8 (if c.may=true then b++c.bytes else b))) G):=rfl
def ZBc:Spec1
 |[y],G,Q=>∃(c:CertS),(y=c.v∧c.ok∧c.May)∧Q (.own (.sli .u8 c.bytes)) G
 |_,_,_=>False
theorem ZBc_eq {y}:ZBc [y] G Q=(∃(c:CertS),(y=c.v∧c.ok∧c.May)∧Q (.own (.sli .u8 c.bytes)) G):=rfl
theorem loop81 (hN:Abs.look l 31=some SNu) (hH:Abs.look l 82=some SHa) {QQ:Ex→St→Prop} {sg:List (Int×List Int)} {b0:List Int} (hs:∀p∈sg,(0≤p.1∧p.1≤21)∧H32 p.2) (hl:sg.length≤21)
  (hx:∀(j:Nat) ts L,QQ (.exit 2) ⟨[some (.own (.sli .u8 b0)),none,none,none,none,none,none,none,none,none,none,none,none,none,none,none,none,none,none,none,none,none,none,none,none,none,none,none,none,none,none,none,none,none,none,none,none,none,none,none,none,none,none,none,none,none,none,none,none,none,none,none,none,none,none,some (.v (.sle 33 (sg.map sgV))),some (.v (.int .i64 (sg.length:Nat))),some (.v (.int .i64 (j:Nat)))],ts,L,G⟩):
  ∀(r:List (Int×List Int)) (j:Nat) (b:List Int) (L:List Bx),sg.drop j=r→j≤sg.length→b++sigB r=b0→b.length≤200000000+42*j→
   WL (W E (specOf l) lp81_0) [0,55,56,57] QQ (r.length+1) ⟨[some (.own (.sli .u8 b)),none,none,none,none,none,none,none,none,none,none,none,none,none,none,none,none,none,none,none,none,none,none,none,none,none,none,none,none,none,none,none,none,none,none,none,none,none,none,none,none,none,none,none,none,none,none,none,none,none,none,none,none,none,none,some (.v (.sle 33 (sg.map sgV))),some (.v (.int .i64 (sg.length:Nat))),some (.v (.int .i64 (j:Nat)))],[],L,G⟩:=by
 intro r
 induction r with
 |nil=>
  intro j b L h1 h2 h3 h4
  have:=drop_none h1
  have c1:¬(j:Int) < (sg.length:Int):=by omega
  obtain rfl:b=b0:=by rw[←h3];simp[sigB]
  refine WL_in lp81_0.eq_1 ?_
  simp -implicitDefEqProofs only[c1,go_sem,↓reduceIte]
  exact hx _ _ _
 |cons p r ih=>
  intro j b L h1 h2 h3 h4
  obtain⟨hd,hj,hlen⟩:=drop_one h1
  have g:=getD_sg h1
  have hp:=hs p (List.mem_of_getElem? (at_drop2 h1))
  have c1:(j:Int) < (sg.length:Int):=by omega
  have c2:(0:Int)≤(j:Int):=by omega
  have w1:IntKind.i64.wrap ((j:Int)+1)=((j+1:Nat):Int):=wc (by omega) (by omega)
  obtain⟨p1,p2⟩:=p
  dsimp only at hp
  have wp:=u64_of (n:=p1) (by omega) (by omega)
  obtain⟨_,k1⟩:=num_ok (n:=p1.toNat) (by omega)
  have hAl:∀y z,(L++[y]).set L.length z=L++[z]:=fun y z=>by simp
  refine WL_in lp81_0.eq_1 ?_
  simp -implicitDefEqProofs only[c1,c2,g,sgV,w1,Int.toNat_natCast,List.length_map,hN,SNu_eq,hH,SHa_eq,wp,go_sem,↓reduceIte]
  refine⟨b,⟨byV_u8 _,by omega,by omega,by omega⟩,_,⟨byV_u8 _,by rw[List.length_append];omega,hp.2.2⟩,?_⟩
  try simp -implicitDefEqProofs only[go_sem,↓reduceIte]
  refine ih (j+1) _ _ hd (by omega) ?_ ?_
  ·rw[←h3];simp only[sigB,List.append_assoc]
  ·have:=hp.2.2;simp only[List.length_append];omega
theorem walk81 {b:List Int} {c:CertS} (hM:Abs.look l 115=some ZMc) (hC:Abs.look l 79=some SCl) (hN:Abs.look l 31=some SNu) (hH:Abs.look l 82=some SHa)
  (hb:b.length < 100000000) (hw:c.ok) (hl:c.sigs.length < 1000000) (h:Q (.own (.sli .u8 (if c.may=true then b++c.bytes else b))) G):Wf E (specOf l) pf81 [.sli .u8 b,c.v] G Q:=by
 obtain⟨a,sg⟩:=c
 obtain⟨a1,a2,a3,a4,a5,a6,a7,a8⟩:=a
 simp -implicitDefEqProofs only[pf81,CertS.v,AttS.v,List.length_map,hM,ZMc_eq,go_sem,↓reduceIte]
 refine⟨⟨a1,a2,a3,a4,a5,a6,a7,a8⟩,_,sg,⟨rfl,.inl rfl,hw.1,hl⟩,?_⟩
 cases hmay:CertS.may ⟨⟨a1,a2,a3,a4,a5,a6,a7,a8⟩,sg⟩with
 |false=>
  rw[hmay]at h
  simp -implicitDefEqProofs only[hC,SCl_eq,go_sem,↓reduceIte]
  exact⟨b,⟨rfl,by omega⟩,h⟩
 |true=>
  rw[hmay,if_pos rfl]at h
  have hm:CertS.May ⟨⟨a1,a2,a3,a4,a5,a6,a7,a8⟩,sg⟩:=of_decide_eq_true hmay
  obtain⟨m1,m2,m3,m4,m5⟩:=id hm
  obtain⟨m1a,m1b,m1c,m1d,m1e,m1f⟩:=m1
  unfold CertS.one at m1a m1b m1c m1d m1e m1f
  dsimp only at m1a m1b m1c m1d m1e m1f m2 m3 m4 m5
  have w2:=u64_of (n:=a2) (by omega) (by omega)
  have w3:=u64_of (n:=a3) (by omega) (by omega)
  have w4:=u64_of (n:=a4) (by omega) (by omega)
  have w6:=u64_of (n:=a6) (by omega) (by omega)
  try simp -implicitDefEqProofs only[go_sem,↓reduceIte]
  refine⟨4,?_⟩
  refine WL_in lp81_1.eq_1 ?_
  have o1:IntKind.i64.wrap 1=1:=by decide
  have o2:IntKind.i64.wrap 2=2:=by decide
  have o3:IntKind.i64.wrap 3=3:=by decide
  obtain⟨_,k2⟩:=num_ok (n:=a2.toNat) (by omega)
  obtain⟨_,k3⟩:=num_ok (n:=a3.toNat) (by omega)
  obtain⟨_,k4⟩:=num_ok (n:=a4.toNat) (by omega)
  obtain⟨_,k6⟩:=num_ok (n:=a6.toNat) (by omega)
  obtain⟨q1,q2,q3⟩:=CertS.may_len hm
  obtain⟨_,k9⟩:=num_ok (n:=sg.length) (by dsimp only at q1;omega)
  have l5:=hw.1.ha.2
  have l7:=hw.1.pa.2
  dsimp only at l5 l7 q1
  simp -implicitDefEqProofs only[hN,SNu_eq,w2,o1,o2,o3,go_sem,↓reduceIte]
  refine⟨b,⟨rfl,by omega,by omega,by omega⟩,?_⟩
  refine WL_in lp81_1.eq_1 ?_
  simp -implicitDefEqProofs only[hN,SNu_eq,w3,o1,o2,o3,go_sem,↓reduceIte]
  refine⟨_,⟨byV_u8 _,by simp only[List.length_append];omega,by omega,by omega⟩,?_⟩
  refine WL_in lp81_1.eq_1 ?_
  simp -implicitDefEqProofs only[hN,SNu_eq,w4,o1,o2,o3,go_sem,↓reduceIte]
  refine⟨_,⟨byV_u8 _,by simp only[List.length_append];omega,by omega,by omega⟩,?_⟩
  refine WL_in lp81_1.eq_1 ?_
  have w9:=u64_of (n:=(sg.length:Int)) (by omega) (by omega)
  simp -implicitDefEqProofs only[hN,SNu_eq,hH,SHa_eq,w6,w9,o1,o2,o3,List.length_map,Int.toNat_natCast,go_sem,↓reduceIte]
  refine⟨_,⟨byV_u8 _,by simp only[List.length_append];omega,l5⟩,_,⟨byV_u8 _,by simp only[List.length_append];omega,by omega,by omega⟩,_,⟨byV_u8 _,by simp only[List.length_append];omega,l7⟩,_,⟨byV_u8 _,by simp only[List.length_append];omega,by omega,by omega⟩,?_⟩
  try simp -implicitDefEqProofs only[go_sem,↓reduceIte]
  refine⟨sg.length+1,?_⟩
  refine loop81 hN hH (CertS.sigs_in hw hm) q1 (fun j ts L=> ?_) sg 0 _ _ rfl (Nat.zero_le _) rfl (by simp only[List.length_append];omega)
  try simp -implicitDefEqProofs only[go_sem,↓reduceIte]
  unfold CertS.bytes AttS.said at h
  simpa only[List.append_assoc]using h
def ZT9:Spec1
 |[y],G,Q=>∃a:AttS,(y=a.v∧a.wf∧AttS.May ⟨1,a.ki,a.vi,a.ph,a.ha,a.pv,a.pa,zero32⟩)∧Q (.own (.sli .u8 a.said)) G
 |_,_,_=>False
theorem ZT9_eq {y}:ZT9 [y] G Q=(∃a:AttS,(y=a.v∧a.wf∧AttS.May ⟨1,a.ki,a.vi,a.ph,a.ha,a.pv,a.pa,zero32⟩)∧Q (.own (.sli .u8 a.said)) G):=rfl
theorem walk103c {a:AttS} (h61:Abs.look l 104=some (SRn 10)) (h48:Abs.look l 53=some SBy) (hw:a.wf) (hm:AttS.May ⟨1,a.ki,a.vi,a.ph,a.ha,a.pv,a.pa,zero32⟩) (h:Q (.own (.sli .u8 a.said)) G):Wf E (specOf l) pf103 [a.v] G Q:=by
 obtain⟨a1,a2,a3,a4,a5,a6,a7,a8⟩:=a
 obtain⟨m1,m2,m3,m4,m5,m6⟩:=hm
 dsimp only at m1 m2 m3 m4 m5 m6
 subst m3
 obtain⟨r3,n3⟩:=num_ok (n:=a3.toNat) (by omega)
 obtain⟨r6,n6⟩:=num_ok (n:=a6.toNat) (by omega)
 have w3:=u64_of (n:=a3) (by omega) (by omega)
 have w6:=u64_of (n:=a6) (by omega) (by omega)
 have w2:IntKind.u8.wrap a4=a4:=by simp only[IntKind.wrap,IntKind.bits,IntKind.signed];simp;omega
 have l5:a5.length=32:=hw.ha.2
 have l7:a7.length=32:=hw.pa.2
 have big:∀n:Nat,n < 2000000000000→n < 128 ^ 10:=fun n hn=>Nat.lt_of_lt_of_le hn (by decide)
 unfold AttS.said at h;dsimp only at h
 rw[num_small (n:=a4.toNat) (by omega),show ((a4.toNat:Nat):Int)=a4 by omega]at h
 simp -implicitDefEqProofs only[pf103,AttS.v,w2,w3,w6,h61,SRn_eq,h48,SBy_eq,l5,l7,go_sem,↓reduceIte]
 refine⟨⟨by omega,big _ (by omega),by omega⟩,by omega,by omega,by omega,⟨by omega,big _ (by omega),by omega⟩,by omega,by omega,?_⟩
 exact h
theorem loop52 (hB:Abs.look l 53=some SBy) {QQ:Ex→St→Prop} {a:AttS} {sg:List (Int×List Int)} {b0:List Int} (hs:∀p∈sg,(0≤p.1∧p.1≤21)∧H32 p.2) (hl:sg.length≤21)
  (hx:∀(j:Nat) ts,QQ (.exit 0) ⟨[none,some (.lp 0 []),none,some (.own (.sli .u8 b0)),some (.v (.int .i64 (j:Nat)))],ts,[⟨false,.agg [a.v,.sle 33 (sg.map sgV)]⟩],G⟩):
  ∀(r:List (Int×List Int)) (j:Nat) (b:List Int),sg.drop j=r→j≤sg.length→b++sigB r=b0→b.length≤1000+42*j→
   WL (W E (specOf l) lp52_0) [1,3,4] QQ (r.length+1) ⟨[none,some (.lp 0 []),none,some (.own (.sli .u8 b)),some (.v (.int .i64 (j:Nat)))],[],[⟨false,.agg [a.v,.sle 33 (sg.map sgV)]⟩],G⟩:=by
 intro r
 induction r with
 |nil=>
  intro j b h1 h2 h3 h4
  have:=drop_none h1
  have c1:¬(j:Int) < (sg.length:Int):=by omega
  obtain rfl:b=b0:=by rw[←h3];simp[sigB]
  refine WL_in lp52_0.eq_1 ?_
  simp -implicitDefEqProofs only[AttS.v,c1,List.length_map,go_sem,↓reduceIte]
  exact hx _ _
 |cons p r ih=>
  intro j b h1 h2 h3 h4
  obtain⟨hd,hj,hlen⟩:=drop_one h1
  have g:=getD_sg h1
  have hp:=hs p (List.mem_of_getElem? (at_drop2 h1))
  have c1:(j:Int) < (sg.length:Int):=by omega
  have c2:(0:Int)≤(j:Int):=by omega
  have w1:IntKind.i64.wrap ((j:Int)+1)=((j+1:Nat):Int):=wc (by omega) (by omega)
  obtain⟨p1,p2⟩:=p
  dsimp only at hp
  have wp:IntKind.u8.wrap p1=p1:=by simp only[IntKind.wrap,IntKind.bits,IntKind.signed];simp;omega
  have en:num p1.toNat=[p1]:=by rw[num_small (by omega),show ((p1.toNat:Nat):Int)=p1 by omega]
  have lh:=hp.2.2
  refine WL_in lp52_0.eq_1 ?_
  simp -implicitDefEqProofs only[AttS.v,c1,c2,g,sgV,w1,Int.toNat_natCast,List.length_map,hB,SBy_eq,wp,go_sem,↓reduceIte]
  refine⟨by omega,lh,by omega,ih (j+1) _ hd (by omega) ?_ ?_⟩
  ·rw[←h3];simp only[sigB,en,List.append_assoc]
  ·simp only[List.length_append,List.length_cons,List.length_nil];omega
theorem walk52 {c:CertS} (hT:Abs.look l 103=some ZT9) (hB:Abs.look l 53=some SBy) (hw:c.ok) (hm:c.May) (h:Q (.own (.sli .u8 c.bytes)) G):Wf E (specOf l) pf52 [c.v] G Q:=by
 obtain⟨a,sg⟩:=c
 obtain⟨q1,q2,q3⟩:=CertS.may_len hm
 have hs:=CertS.sigs_in hw hm
 dsimp only at q1 q2 q3 hs
 have s1:a.said.length≤104:=(AttS.said_ok (one_wf hw.1) hm.1).2
 have ws:IntKind.u8.wrap (sg.length:Int)=(sg.length:Int):=by simp only[IntKind.wrap,IntKind.bits,IntKind.signed];simp;omega
 have en:num sg.length=[(sg.length:Int)]:=num_small (by omega)
 simp -implicitDefEqProofs only[pf52,CertS.v,AttS.v,hT,ZT9_eq,List.length_map,ws,go_sem,↓reduceIte]
 refine⟨a,⟨rfl,hw.1,hm.1⟩,?_⟩
 try simp -implicitDefEqProofs only[go_sem,↓reduceIte]
 refine⟨by omega,sg.length+1,?_⟩
 refine loop52 (a:=a) hB hs q1 (fun j ts=> ?_) sg 0 _ rfl (Nat.zero_le _) rfl (by simp only[List.length_append,List.length_cons,List.length_nil];omega)
 try simp -implicitDefEqProofs only[go_sem,↓reduceIte]
 unfold CertS.bytes at h
 dsimp only at h
 rw[en]at h
 exact h
def lp97_0:PC:=
 (PC.reg [nn (.t 22) (.bin .lss (.v 21) (.v 20))]).seq ((PC.cond (.t 22) PC.skip (PC.exit 0)).seq ((PC.block 1 (PC.regW 0 [(0,nn (.t 23) (.fadr 1 101
  (.v 4))),(1,nn (.t 24) (.load 1 false (.t 23))),(2,mm 25 0),(4,mm 27 0),(3,nn (.t 26) (.callW 48 [.t 25,.c (.v (.int .i64 21))])),(5,nn
  (.t 28) (.callW 98 [.t 27])),(6,nn (.t 29) (.build (.agg [.int .i64 0,.arr .u8 32 [0,0,0,0,0,0,0,0,0,0,0,0,0,0,0,0,0,0,0,0,0,
  0,0,0,0,0,0,0,0,0,0,0]]) [(0,.t 26),(1,.t 28)])),(7,nn (.t 30) (.buildS none 33 (.agg [.int .i64 0,.arr .u8 32 [0,0,0,0,0,0,0,
  0,0,0,0,0,0,0,0,0,0,0,0,0,0,0,0,0,0,0,0,0,0,0,0,0]]) 1 [(0,.t 29)])),(8,nn (.t 31) (.appR 33 40 (.agg [.int .i64 0,.arr
  .u8 32 zz2]) (.t 24) (.t 30))),(9,nn (.t 32) (.fadr 1
  101 (.v 4))),(10,nn .no (.store 1 (.t 32) (.t 31)))] [(1,3),(1,5)])).seq (PC.reg [nn (.t 33) (.bin .add (.v 21) (.c (.v (.int .i64 1)))),nn (.v
  21) (.mv false (.t 33))])))
def pf97:PF:=
 PF.mk 1 22 43 ((PC.reg [nn (.v 2) (.alloc (.agg [.agg [.int .i64 0,.int .i64 0,.int .i64 0,.int .i64 0,.arr .u8 32 [0,0,0,0,0,0,0,0,0,0,
  0,0,0,0,0,0,0,0,0,0,0,0,0,0,0,0,0,0,0,0,0,0],.int .i64 0,.arr .u8 32 [0,0,0,0,0,0,0,0,0,0,0,0,0,0,0,0,0,0,0,
  0,0,0,0,0,0,0,0,0,0,0,0,0],.arr .u8 32 [0,0,0,0,0,0,0,0,0,0,0,0,0,0,0,0,0,0,0,0,0,0,0,0,0,0,0,0,0,0,0,
  0]],.nils])),nn (.v 3) (.mv true (.c (.v (.bool false))))]).seq ((PC.reg [nn (.v 4) (.alloc (.agg [.agg [.int .i64 0,.int .i64 0,.int .i64 0,
  .int .i64 0,.arr .u8 32 zz2,.int .i64 0,.arr .u8 32
  zz2,.arr .u8 32 [0,0,0,0,0,0,0,0,0,0,0,0,0,
  0,0,0,0,0,0,0,0,0,0,0,0,0,0,0,0,0,0,0]],.nils]))]).seq ((PC.reg [nn (.v 5) (.mv false (.v 0)),nn (.v 6) (.call 48 [.v 5,.c (.v
  (.int .i64 3))]),nn (.v 7) (.mv false (.v 0)),nn (.v 8) (.call 48 [.v 7,.c (.v (.int .i64 1099511627776))]),nn (.v 9) (.mv false (.v 0)),nn (.v
  10) (.call 48 [.v 9,.c (.v (.int .i64 3))]),nn (.v 11) (.mv false (.v 0)),nn (.v 12) (.call 98 [.v 11]),nn (.v 13) (.mv false (.v 0)),nn (.v 14)
  (.call 48 [.v 13,.c (.v (.int .i64 1099511627776))]),nn (.v 15) (.mv false (.v 0)),nn (.v 16) (.call 98 [.v 15]),nn (.v 17) (.build (.agg [.int
  .i64 0,.int .i64 0,.int .i64 0,.int .i64 0,.arr .u8 32 [0,0,0,0,0,0,0,0,0,0,0,0,0,0,0,0,0,0,0,0,0,0,0,0,0,0,0,0,0,0,
  0,0],.int .i64 0,.arr .u8 32 zz2,.arr .u8 32 [0,0,
  0,0,0,0,0,0,0,0,0,0,0,0,0,0,0,0,0,0,0,0,0,0,0,0,0,0,0,0,0,0]]) [(1,.v 6),(2,.v 8),(3,.v 10),(4,.v 12),(5,.v
  14),(6,.v 16)]),nn (.v 18) (.fadr 0 0 (.v 4)),nn .no (.store 101 (.v 18) (.v 17))]).seq (((PC.reg [nn (.v 19) (.mv false (.v 0)),nn (.v 20)
  (.call 48 [.v 19,.c (.v (.int .i64 21))]),nn (.v 21) (.mv false (.c (.v (.int .i64 0))))]).seq (PC.block 0 (PC.loop [0,2,4,20,21] lp97_0))).seq
  (((PC.reg [mm 34 0,nn (.t 35) (.call 121 [.t 34]),nn (.t 36) (.mv false (.t 35)),⟨.t 37,.load 102 true (.v 4),some (.t 36,false)⟩,⟨.t 38,
  .call 115 [.t 37],some (.t 36,false)⟩,⟨.t 39,.un .not (.t 38),some (.t 36,false)⟩,nn (.t 40) (.pick (.t 36) (.c (.v (.bool true))) (.t
  39))]).seq (PC.cond (.t 40) ((PC.reg [nn (.t 41) (.build (.agg [.agg [.int .i64 0,.int .i64 0,.int .i64 0,.int .i64 0,.arr .u8 32 [0,0,0,0,0,
  0,0,0,0,0,0,0,0,0,0,0,0,0,0,0,0,0,0,0,0,0,0,0,0,0,0,0],.int .i64 0,.arr .u8 32 [0,0,0,0,0,0,0,0,0,0,0,0,0,0,
  0,0,0,0,0,0,0,0,0,0,0,0,0,0,0,0,0,0],.arr .u8 32 [0,0,0,0,0,0,0,0,0,0,0,0,0,0,0,0,0,0,0,0,0,0,0,0,0,0,0,
  0,0,0,0,0]],.nils]) []),nn .no (.store 102 (.v 2) (.t 41)),nn (.v 3) (.mv true (.c (.v (.bool false))))]).seq PC.ret) PC.skip)).seq ((PC.reg
  [nn (.t 42) (.load 102 true (.v 4)),nn .no (.store 102 (.v 2) (.t 42)),nn (.v 3) (.mv true (.c (.v (.bool true))))]).seq PC.ret)))))) [(.v 2,some
  (102,true)),(.v 3,none)]
def ZRc:Spec1
 |[.ptr id],G,Q=>∃b w0 c r w,(Abs.look G id=some (.agg [.sli .u8 b,.bool w0])∧Byt b∧b.length < 100000000000∧rdCert (b,w0)=(c,r,w))∧Q (.tup [(certR c w).v,.bool (!w&&c.may)]) (Abs.upd G id (.agg [.sli .u8 r,.bool w]))
 |_,_,_=>False
theorem ZRc_eq {id}:ZRc [.ptr id] G Q=(∃b w0 c r w,(Abs.look G id=some (.agg [.sli .u8 b,.bool w0])∧Byt b∧b.length < 100000000000∧rdCert (b,w0)=(c,r,w))∧Q (.tup [(certR c w).v,.bool (!w&&c.may)]) (Abs.upd G id (.agg [.sli .u8 r,.bool w]))):=rfl
theorem loop97 (hU:Abs.look l 48=some SUp) (hH:Abs.look l 98=some SHs) {QQ:Ex→St→Prop} {id k:Nat} {u0:V} {n1 n2 n3 n5:Int} {n4 n6 r7:List Int} {w7:Bool} {x0:Bx} (hid:Abs.look G id=some u0) (hb:Byt r7) (hl:r7.length < 100000000000) (hk:k≤21)
  (hx:∀ts G' x l2 r w,rdSigs k (r7,w7)=(l2,r,w)→Row (Abs.upd G id (.agg [.sli .u8 r,.bool w])) G' 33 (.agg [.int .i64 0,.arr .u8 32 zz2]) x (l2.map sgV)→QQ (.exit 0) ⟨[some (.v (.ptr id)),none,some (.lp 0 []),none,some (.lp 1 []),none,none,none,none,none,none,none,none,none,none,none,none,none,none,none,some (.v (.int .i64 (k:Nat))),some (.v (.int .i64 (k:Nat)))],ts,[x0,⟨false,.agg [.agg [.int .i64 0,.int .i64 n1,.int .i64 n2,.int .i64 n3,.arr .u8 32 n4,.int .i64 n5,.arr .u8 32 n6,.arr .u8 32 zz2],x]⟩],G'⟩):
  ∀(e j:Nat) (G':List (Nat×V)) (x:V) (l2:List (Int×List Int)) (r:List Int) (w:Bool),j+e=k→rdSigs j (r7,w7)=(l2,r,w)→Row (Abs.upd G id (.agg [.sli .u8 r,.bool w])) G' 33 (.agg [.int .i64 0,.arr .u8 32 zz2]) x (l2.map sgV)→
   WL (W E (specOf l) lp97_0) [0,2,4,20,21] QQ (e+1) ⟨[some (.v (.ptr id)),none,some (.lp 0 []),none,some (.lp 1 []),none,none,none,none,none,none,none,none,none,none,none,none,none,none,none,some (.v (.int .i64 (k:Nat))),some (.v (.int .i64 (j:Nat)))],[],[x0,⟨false,.agg [.agg [.int .i64 0,.int .i64 n1,.int .i64 n2,.int .i64 n3,.arr .u8 32 n4,.int .i64 n5,.arr .u8 32 n6,.arr .u8 32 zz2],x]⟩],G'⟩:=by
 intro e
 induction e with
 |zero=>
  intro j G' x l2 r w hj he hrow
  obtain rfl:j=k:=by omega
  refine WL_in lp97_0.eq_1 ?_
  simp -implicitDefEqProofs only[Int.lt_irrefl,go_sem,↓reduceIte]
  exact hx _ _ _ _ _ _ he hrow
 |succ e ih=>
  intro j G' x l2 r w hj he hrow
  have c1:(j:Int) < (k:Int):=by omega
  have w1:IntKind.i64.wrap ((j:Int)+1)=((j+1:Nat):Int):=wc (by omega) (by omega)
  have many:=rdSigs_all he hb
  have ml:=many.len
  rcases e1:rdUpto 21 (r,w)with⟨n,ra,wa⟩
  obtain⟨y11,y12,_,_,_,_⟩:=rdUpto_all e1 many.byt (by omega)
  rcases e2:rdHash (ra,wa)with⟨hh,r2,w2⟩
  obtain⟨_,_,y23,_,_⟩:=rdHash_all e2 y11
  have he2:rdSigs (j+1) (r7,w7)=(l2++[(n,hh)],r2,w2):=by rw[rdSigs_snoc,he];simp only[e1,e2]
  have hl1:=look_upd_same (z:=V.agg [.sli .u8 r,.bool w]) hid
  have hG':=hrow.1 id _ hl1
  have hrow2:=hrow.upd (y:= .agg [.sli .u8 r2,.bool w2]) hl1
  rw[upd_upd]at hrow2
  have hGa:∀z,Abs.look (Abs.upd G' id z) id=some z:=fun z=>look_upd_same hG'
  obtain⟨x1,x2⟩:=hrow.one
  unfold V.isAgg at x2
  refine WL_in lp97_0.eq_1 ?_
  simp -implicitDefEqProofs only[c1,x1,x2,hU,SUp_eq,hH,SHs_eq,go_sem,↓reduceIte]
  refine⟨r,w,n,ra,wa,⟨hG',many.byt,by omega,e1⟩,?_⟩
  try simp -implicitDefEqProofs only[go_sem,↓reduceIte]
  refine⟨ra,wa,hh,r2,w2,⟨hGa _,y11,by omega,e2⟩,?_⟩
  try rw[upd_upd]
  refine Row.app (G0:=Abs.upd G id (.agg [.sli .u8 r2,.bool w2])) (sz:=33) (z:= .agg [.int .i64 0,.arr .u8 32 zz2]) (y:=sgV (n,hh)) (els:=l2.map sgV) hrow2 (by rw[List.length_map,many.cnt];omega) ⟨rfl,rfl⟩ rfl (fun u hu=> ?_) (fun x' G2 hr2=> ?_)
  ·obtain⟨q,_,rfl⟩:=List.mem_map.1 hu;exact⟨rfl,rfl⟩
  ·obtain⟨y1,y2⟩:=hr2.one
   unfold V.isAgg at y2
   have yl:=hrow.like hr2
   simp -implicitDefEqProofs only[w1,x1,x2,y1,y2,yl,go_sem,↓reduceIte]
   refine ih (j+1) G2 x' (l2++[(n,hh)]) r2 w2 (by omega) he2 ?_
   rw[List.map_append];exact hr2
theorem low_cert2 {G0 G:List (Nat×V)} {z x:V} {els:List V} {a:V} {e:V} (h:Row G0 G 33 z x els):Low G0 (.tup [.agg [a,x],e]) G (.tup [.agg [a,.sle 33 els],e]) G0:=by
 refine h.fz (fun y=> .tup [.agg [a,y],e]) (fun id L k y hy=> ?_) (fun y hy=> ?_)
 ·simp only[R.Fz]
  refine⟨_,rfl,?_⟩
  unfold V.FzL;refine⟨_,_,rfl,?_,V.FzL.refl _⟩
  unfold V.Fz;refine⟨_,rfl,?_⟩
  unfold V.FzL;refine⟨_,_,rfl,V.Fz.refl _,?_⟩
  unfold V.FzL;refine⟨_,_,rfl,hy,V.FzL.refl _⟩
 ·simp only[R.Wk]
  refine⟨_,rfl,?_⟩
  unfold V.WkL;refine⟨_,_,rfl,?_,V.WkL.refl _⟩
  unfold V.Wk;refine⟨_,rfl,?_⟩
  unfold V.WkL;refine⟨_,_,rfl,V.Wk.refl _,?_⟩
  unfold V.WkL;refine⟨_,_,rfl,hy,V.WkL.refl _⟩
theorem walk97 {id:Nat} {w0:Bool} {b r:List Int} {a:CertS} {w:Bool} (hU:Abs.look l 48=some SUp) (hH:Abs.look l 98=some SHs) (hO:Abs.look l 121=some SOff) (hM:Abs.look l 115=some ZMc)
  (hG:Abs.look G id=some (.agg [.sli .u8 b,.bool w0])) (hb:Byt b) (hl:b.length < 100000000000) (he:rdCert (b,w0)=(a,r,w))
  (h:Q (.tup [(certR a w).v,.bool (!w&&a.may)]) (Abs.upd G id (.agg [.sli .u8 r,.bool w]))):Wf E (specOf l) pf97 [.ptr id] G (fun r G'=>∃r2 G2,Low G r G' r2 G2∧Q r2 G2):=by
 rcases e1:rdUpto 3 (b,w0)with⟨n1,r1,w1⟩
 rcases e2:rdUpto 1099511627776 (r1,w1)with⟨n2,r2,w2⟩
 rcases e3:rdUpto 3 (r2,w2)with⟨n3,r3,w3⟩
 rcases e4:rdHash (r3,w3)with⟨n4,r4,w4⟩
 rcases e5:rdUpto 1099511627776 (r4,w4)with⟨n5,r5,w5⟩
 rcases e6:rdHash (r5,w5)with⟨n6,r6,w6⟩
 rcases e7:rdUpto 21 (r6,w6)with⟨n7,r7,w7⟩
 rcases e8:rdSigs n7.toNat (r7,w7)with⟨n8,r8,w8⟩
 obtain⟨z11,z12,_,_,⟨u1,z15⟩,_⟩:=rdUpto_all e1 hb (by omega)
 obtain⟨z21,z22,_,_,⟨u2,z25⟩,_⟩:=rdUpto_all e2 z11 (by omega)
 obtain⟨z31,z32,_,_,⟨u3,z35⟩,_⟩:=rdUpto_all e3 z21 (by omega)
 obtain⟨z41,z42,_,⟨u4,z45⟩,_⟩:=rdHash_all e4 z31
 obtain⟨z51,z52,_,_,⟨u5,z55⟩,_⟩:=rdUpto_all e5 z41 (by omega)
 obtain⟨z61,z62,_,⟨u6,z65⟩,_⟩:=rdHash_all e6 z51
 obtain⟨z71,z72,z73,z74,⟨u7,z75⟩,_⟩:=rdUpto_all e7 z61 (by omega)
 have many:=rdSigs_all e8 z71
 have mlen:=many.len
 have eA:rdCert (b,w0)=(⟨⟨0,n1,n2,n3,n4,n5,n6,zero32⟩,n8⟩,r8,w8):=by simp only[rdCert,e1,e2,e3,e4,e5,e6,e7,e8]
 have ok:=rdCert_all eA hb
 rw[eA]at he
 simp only[Prod.mk.injEq]at he
 obtain⟨rfl,rfl,rfl⟩:=he
 obtain⟨k,hk⟩:∃k:Nat,n7=(k:Int):=⟨n7.toNat,by omega⟩
 rw[hk,Int.toNat_natCast]at e8
 have hk21:k≤21:=by omega
 have g:∀x,Abs.look (Abs.upd G id x) id=some x:=fun x=>look_upd_same hG
 simp -implicitDefEqProofs only[pf97,hU,SUp_eq,hH,SHs_eq,g,go_sem,↓reduceIte]
 refine⟨b,w0,n1,r1,w1,⟨hG,hb,by omega,e1⟩,r1,w1,n2,r2,w2,⟨rfl,z11,by omega,e2⟩,r2,w2,n3,r3,w3,⟨rfl,z21,by omega,e3⟩,r3,w3,n4,r4,w4,⟨rfl,z31,by omega,e4⟩,r4,w4,n5,r5,w5,⟨rfl,z41,by omega,e5⟩,r5,w5,n6,r6,w6,⟨rfl,z51,by omega,e6⟩,?_⟩
 try simp -implicitDefEqProofs only[go_sem,↓reduceIte]
 refine⟨r6,w6,n7,r7,w7,⟨rfl,z61,by omega,e7⟩,k+1,?_⟩
 rw[hk]
 try simp -implicitDefEqProofs only[go_sem,↓reduceIte]
 refine loop97 (k:=k) (r7:=r7) (w7:=w7) hU hH hG z71 (by omega) hk21 (fun ts G' x l2 r w hm hrow=> ?_) k 0 _ .nils [] r7 w7 (by omega) rfl (Row.nil (Ext.refl _))
 rw[e8]at hm
 simp only[Prod.mk.injEq]at hm
 obtain⟨rfl,rfl,rfl⟩:=hm
 have hl1:=g (V.agg [.sli .u8 r8,.bool w8])
 have hG':=hrow.1 id _ hl1
 obtain⟨x1,x2⟩:=hrow.one
 unfold V.isAgg at x2
 have xn:x.same .nils=true:=(Row.nil (z:=(.agg [.int .i64 0,.arr .u8 32 zz2]:V)) (sz:=33) (Ext.refl G)).like hrow
 simp -implicitDefEqProofs only[x1,x2,xn,hO,SOff_eq,go_sem,↓reduceIte]
 refine⟨r8,w8,hG',?_⟩
 cases w8 with
 |true=>
  simp -implicitDefEqProofs only[go_sem,↓reduceIte]
  exact⟨_,_,(low_cert2 (els:=[]) (z:= .agg [.int .i64 0,.arr .u8 32 zz2]) (Row.nil hrow.1)).upd hG rfl,h⟩
 |false=>
  have nl:n8.length < 1000000:=by have:=ok.cnt;dsimp only at this;omega
  simp -implicitDefEqProofs only[hM,ZMc_eq,x1,x2,go_sem,↓reduceIte]
  refine⟨⟨0,n1,n2,n3,n4,n5,n6,zero32⟩,x,n8,⟨rfl,sgv_row hrow,ok.wf.1,nl⟩,?_⟩
  cases hq:CertS.may ⟨⟨0,n1,n2,n3,n4,n5,n6,zero32⟩,n8⟩with
  |false=>
   simp -implicitDefEqProofs only[go_sem,↓reduceIte]
   rw[certR,hq]at h
   exact⟨_,_,(low_cert2 (els:=[]) (z:= .agg [.int .i64 0,.arr .u8 32 zz2]) (Row.nil hrow.1)).upd hG rfl,h⟩
  |true=>
   simp -implicitDefEqProofs only[x1,x2,xn,go_sem,↓reduceIte]
   rw[certR,hq]at h
   exact⟨_,_,(low_cert2 hrow).upd hG rfl,h⟩
end Go.Proofs.Ytegamlopcdjiaaa.Sha
namespace Go.Abs.Sha
open Go Go.Abs Go.Abs.Srt
set_option linter.unusedVariables false
set_option linter.unusedSimpArgs false
theorem riseI_from {n low k:Int} {l:List Int} {x:Int} (h:riseI n low (x::l)=true) (hk:k < x):riseI n k (x::l)=true:=by
 unfold riseI at h⊢
 split at h
 ·cases h
 ·rename_i hw
  rw[if_neg (by omega)];exact h
theorem riseI_tail {n low:Int} {l:List Int} {x:Int} (h:riseI n low (x::l)=true):low < x∧x≤n∧riseI n x l=true:=by
 unfold riseI at h
 split at h
 ·cases h
 ·rename_i hw
  exact⟨by omega,by omega,h⟩
theorem meet {n:Int}:∀(k:Nat) {l m:List Int} {low:Int},l.length+m.length=k→riseI n low l=true→riseI n low m=true→low≤n→(∀x∈l,x∉m)→(l.length:Int)+m.length≤n-low:=by
 intro k
 induction k with
 |zero=>intro l m low hk h1 h2 hl hd;omega
 |succ k ih=>
  intro l m low hk h1 h2 hl hd
  cases l with
  |nil=>
   rcases riseI_len h2 with rfl|h2
   ·simp at hk
   ·simp only[List.length_nil];omega
  |cons x l=>
   cases m with
   |nil=>
    rcases riseI_len h1 with h1|h1
    ·cases h1
    ·simp only[List.length_nil];omega
   |cons y m=>
    obtain⟨a1,a2,a3⟩:=riseI_tail h1
    obtain⟨b1,b2,b3⟩:=riseI_tail h2
    have hne:x≠y:=by rintro rfl;exact hd x (List.mem_cons_self ..) (List.mem_cons_self ..)
    simp only[List.length_cons]at hk
    by_cases hxy:x < y
    ·have:=ih (l:=l) (m:=y::m) (low:=x) (by simp only[List.length_cons];omega) a3 (riseI_from h2 hxy) a2 fun z hz=>hd z (List.mem_cons_of_mem _ hz)
     simp only[List.length_cons]at this⊢;omega
    ·have:=ih (l:=x::l) (m:=m) (low:=y) (by simp only[List.length_cons];omega) (riseI_from h1 (by omega)) b3 b2 fun z hz hz2=>hd z hz (List.mem_cons_of_mem _ hz2)
     simp only[List.length_cons]at this⊢;omega
end Go.Abs.Sha
namespace Go.Proofs.Ytegamlopcdjiaaa.Sha
open Go Go.Abs Go.Abs.Sha Go.Abs.Srt
set_option linter.unusedSimpArgs false
set_option linter.unusedVariables false
set_option maxRecDepth 100000
attribute [local irreducible] W Wops WopsD WL Wop WopD
variable {E:Env} {C:Abs.Spec} {l:List (Nat×Spec1)} {G:List (Nat×V)} {Q:R→List (Nat×V)→Prop}
set_option maxHeartbeats 1000000
theorem getD_at {l:List Int} {j:Nat} {p:Int} {r:List Int} (h:l.drop j=p::r):l.getD j 0=p:=by
 have:(l.drop j)[0]? =some p:=by rw[h];rfl
 rw[List.getElem?_drop,Nat.add_zero]at this
 rw[List.getD_eq_getElem?_getD,this];rfl
end Go.Proofs.Ytegamlopcdjiaaa.Sha
