/- Bags: a full bag, and nobody's. -/
import Derived.Test.YtjbglbhcbenhpaaG13
namespace Go.Proofs.Ytjbglbhcbenhpaa.Sha
open Go Go.Abs Go.Abs.Sha Go.Abs.Srt
set_option linter.unusedSimpArgs false
set_option linter.unusedVariables false
set_option maxRecDepth 100000
def lp4_0:PC:=
 ((PC.reg [mm 50 8,nn (.t 51) (.bin .lss (.t 50) (.c (.v (.int .i64 2))))]).seq (PC.cond (.t 51) PC.skip (PC.exit 2))).seq ((PC.block 3 ((PC.reg [nn
  (.v 9) (.mv true (.c (.v .nilp)))]).seq (((PC.reg [mm 54 8,nn (.t 55) (.bin .eql (.t 54) (.c (.v (.int .i64 1))))]).seq (PC.cond (.t 55) (PC.reg [nn
  (.t 56) (.build (.agg [.nils,.bool false]) []),nn (.t 57) (.newB (.t 56)),ma 9 57]) PC.skip)).seq ((PC.reg [mm 59 9,mm 60 1,nn (.t 61) (.call 14
  [.t 59,.t 60]),nn (.t 58) (.mv false (.t 61)),nn (.t 62) (.ext (.t 58) 0),nn (.t 63) (.ext (.t 58) 1),nn (.v 10) (.alloc (.agg [.int .i64 0,
  .int .i64 0,.int .i64 0,.agg [.int .i64 0,.int .i64 0,.int .i64 0,.int .i64 0,.arr .u8 32 [0,0,0,0,0,0,0,0,0,0,0,0,0,0,0,0,0,
  0,0,0,0,0,0,0,0,0,0,0,0,0,0,0],.int .i64 0,.arr .u8 32 [0,0,0,0,0,0,0,0,0,0,0,0,0,0,0,0,0,0,0,0,0,0,0,0,0,0,
  0,0,0,0,0,0],.arr .u8 32 zz2],.agg [.agg [.int
  .i64 0,.int .i64 0,.int .i64 0,.int .i64 0,.arr .u8 32 [0,0,0,0,0,0,0,0,0,0,0,0,0,0,0,0,0,0,0,0,0,0,0,0,0,0,0,0,0,0,
  0,0],.int .i64 0,.arr .u8 32 zz2,.arr .u8 32 [0,0,
  0,0,0,0,0,0,0,0,0,0,0,0,0,0,0,0,0,0,0,0,0,0,0,0,0,0,0,0,0,0]],.nils],.agg [.int .i64 0,.int .i64 0,.int .i64 0,.arr
  .u8 32 zz2,.nils,.arr .u8 32 [0,0,0,0,0,0,0,0,
  0,0,0,0,0,0,0,0,0,0,0,0,0,0,0,0,0,0,0,0,0,0,0,0]],.agg [.arr .u8 32 [0,0,0,0,0,0,0,0,0,0,0,0,0,0,0,0,0,0,0,
  0,0,0,0,0,0,0,0,0,0,0,0,0],.int .i64 0,.int .i64 0,.int .i64 0,.nils],.arr .u8 32 [0,0,0,0,0,0,0,0,0,0,0,0,0,0,0,0,
  0,0,0,0,0,0,0,0,0,0,0,0,0,0,0,0],.agg [.int .i64 0,.int .i64 0,.int .i64 0,.int .i64 0,.int .i64 0,.str ⟨⟨[]⟩⟩,.str ⟨⟨[]⟩⟩]])),
  nn .no (.store 349 (.v 10) (.t 62)),ma 11 63]).seq ((PC.reg [mm 64 9,nn (.t 65) (.load 349 true (.v 2)),nn (.t 66) (.buildS none 349 (.agg [.int
  .i64 0,.int .i64 0,.int .i64 0,.agg [.int .i64 0,.int .i64 0,.int .i64 0,.int .i64 0,.arr .u8 32 [0,0,0,0,0,0,0,0,0,0,0,0,0,0,0,
  0,0,0,0,0,0,0,0,0,0,0,0,0,0,0,0,0],.int .i64 0,.arr .u8 32 [0,0,0,0,0,0,0,0,0,0,0,0,0,0,0,0,0,0,0,0,0,0,0,0,
  0,0,0,0,0,0,0,0],.arr .u8 32 zz2],.agg [.agg
  [.int .i64 0,.int .i64 0,.int .i64 0,.int .i64 0,.arr .u8 32 [0,0,0,0,0,0,0,0,0,0,0,0,0,0,0,0,0,0,0,0,0,0,0,0,0,0,0,0,
  0,0,0,0],.int .i64 0,.arr .u8 32 zz2,.arr .u8 32
  zz2],.nils],.agg [.int .i64 0,.int .i64 0,.int .i64
  0,.arr .u8 32 zz2,.nils,.arr .u8 32 [0,0,0,0,0,
  0,0,0,0,0,0,0,0,0,0,0,0,0,0,0,0,0,0,0,0,0,0,0,0,0,0,0]],.agg [.arr .u8 32 [0,0,0,0,0,0,0,0,0,0,0,0,0,0,0,0,
  0,0,0,0,0,0,0,0,0,0,0,0,0,0,0,0],.int .i64 0,.int .i64 0,.int .i64 0,.nils],.arr .u8 32 [0,0,0,0,0,0,0,0,0,0,0,0,0,
  0,0,0,0,0,0,0,0,0,0,0,0,0,0,0,0,0,0,0],.agg [.int .i64 0,.int .i64 0,.int .i64 0,.int .i64 0,.int .i64 0,.str ⟨⟨[]⟩⟩,.str
  ⟨⟨[]⟩⟩]]) 1 [(0,.t 65)]),nn (.t 67) (.call 13 [.t 64,.t 66]),nn (.t 68) (.bin .neq (.t 67) (.c (.v (.int .i64 0)))),nn (.t 69) (.mv false (.t
  68)),gm 70 11 69 false,⟨.t 71,.bin .neq (.t 70) (.c (.v (.int .i64 5))),some (.t 69,false)⟩,nn (.t 72) (.pick (.t 69) (.c (.v (.bool true)))
  (.t 71)),nn (.t 73) (.mv false (.t 72)),gm 74 9 73 false,gm 75 1 73 false,⟨.t 76,.call 17 [.t 74,.t 75],some (.t 73,false)⟩,⟨.t 77,.bin
  .neq (.t 76) (.c (.v (.int .i64 5))),some (.t 73,false)⟩,nn (.t 78) (.pick (.t 73) (.c (.v (.bool true))) (.t 77)),nn (.t 79) (.mv false (.t
  78)),gm 80 9 79 false,gm 81 1 79 false,⟨.t 82,.call 18 [.t 80,.t 81],some (.t 79,false)⟩,⟨.t 83,.bin .neq (.t 82) (.c (.v (.int .i64 5))),
  some (.t 79,false)⟩,nn (.t 84) (.pick (.t 79) (.c (.v (.bool true))) (.t 83)),nn (.t 85) (.mv false (.t 84)),gm 86 9 85 false,⟨.t 87,.call 20
  [.t 86],some (.t 85,false)⟩,⟨.t 88,.len (.t 87),some (.t 85,false)⟩,⟨.t 89,.bin .neq (.t 88) (.c (.v (.int .i64 0))),some (.t 85,false)⟩,
  nn (.t 90) (.pick (.t 85) (.c (.v (.bool true))) (.t 89)),nn (.t 91) (.mv false (.t 90)),gm 92 9 91 false,gm 93 1 91 false,⟨.t 94,.call 21 [.t
  92,.t 93],some (.t 91,false)⟩,⟨.t 95,.len (.t 94),some (.t 91,false)⟩,⟨.t 96,.bin .neq (.t 95) (.c (.v (.int .i64 0))),some (.t 91,
  false)⟩,nn (.t 97) (.pick (.t 91) (.c (.v (.bool true))) (.t 96))]).seq (PC.cond (.t 97) ((PC.reg [nn (.v 4) (.mv true (.c (.v (.bool
  false))))]).seq PC.ret) PC.skip)))))).seq (PC.reg [mm 52 8,nn (.t 53) (.bin .add (.t 52) (.c (.v (.int .i64 1)))),ma 8 53]))
def lp4_1:PC:=
 ((PC.reg [mm 17 7,nn (.t 18) (.bin .lss (.t 17) (.c (.v (.int .i64 405))))]).seq (PC.cond (.t 18) PC.skip (PC.exit 0))).seq ((PC.block 1 (PC.reg [mm
  21 6,mm 22 5,nn (.t 23) (.load 349 true (.v 2)),nn (.t 24) (.buildS none 349 (.agg [.int .i64 0,.int .i64 0,.int .i64 0,.agg [.int .i64 0,.int
  .i64 0,.int .i64 0,.int .i64 0,.arr .u8 32 zz2,.int
  .i64 0,.arr .u8 32 zz2,.arr .u8 32 [0,0,0,0,0,0,
  0,0,0,0,0,0,0,0,0,0,0,0,0,0,0,0,0,0,0,0,0,0,0,0,0,0]],.agg [.agg [.int .i64 0,.int .i64 0,.int .i64 0,.int .i64 0,.arr
  .u8 32 zz2,.int .i64 0,.arr .u8 32 [0,0,0,0,0,0,
  0,0,0,0,0,0,0,0,0,0,0,0,0,0,0,0,0,0,0,0,0,0,0,0,0,0],.arr .u8 32 [0,0,0,0,0,0,0,0,0,0,0,0,0,0,0,0,0,0,0,
  0,0,0,0,0,0,0,0,0,0,0,0,0]],.nils],.agg [.int .i64 0,.int .i64 0,.int .i64 0,.arr .u8 32 [0,0,0,0,0,0,0,0,0,0,0,0,0,0,
  0,0,0,0,0,0,0,0,0,0,0,0,0,0,0,0,0,0],.nils,.arr .u8 32 [0,0,0,0,0,0,0,0,0,0,0,0,0,0,0,0,0,0,0,0,0,0,0,0,0,
  0,0,0,0,0,0,0]],.agg [.arr .u8 32 zz2,.int .i64
  0,.int .i64 0,.int .i64 0,.nils],.arr .u8 32 zz2,
  .agg [.int .i64 0,.int .i64 0,.int .i64 0,.int .i64 0,.int .i64 0,.str ⟨⟨[]⟩⟩,.str ⟨⟨[]⟩⟩]]) 1 [(0,.t 23)]),nn (.t 25) (.call 13 [.t 22,.t
  24]),nn (.t 26) (.bin .add (.t 21) (.t 25)),ma 6 26])).seq (PC.reg [mm 19 7,nn (.t 20) (.bin .add (.t 19) (.c (.v (.int .i64 1)))),ma 7 20]))
def pf4:PF:=
 PF.mk 2 12 99 ((PC.reg [nn (.v 2) (.box (.v 0)),nn (.v 4) (.mv true (.c (.v (.bool false))))]).seq (((PC.reg [nn (.t 12) (.load 349 true (.v 2)),nn
  (.t 13) (.call 22 [.t 12]),nn (.t 14) (.un .not (.t 13))]).seq (PC.cond (.t 14) ((PC.reg [nn (.t 15) (.call 10 []),ma 4 15]).seq PC.ret)
  PC.skip)).seq ((PC.reg [nn (.t 16) (.call 11 []),ma 5 16]).seq ((PC.reg [nn (.v 6) (.mv true (.c (.v (.int .i64 0))))]).seq (((PC.reg [nn (.v 7)
  (.mv true (.c (.v (.int .i64 0))))]).seq (PC.block 0 (PC.loop [1,2,5,6,7] lp4_1))).seq (((PC.reg [nn (.t 27) (.load 349 true (.v 2)),nn (.t 28)
  (.call 23 [.t 27]),mm 29 6,nn (.t 30) (.bin .eql (.t 29) (.c (.v (.int .i64 400)))),nn (.t 31) (.binB .neq (.t 28) (.t 30)),nn (.t 32) (.mv false
  (.t 31)),⟨.t 33,.load 349 true (.v 2),some (.t 32,false)⟩,⟨.t 34,.call 23 [.t 33],some (.t 32,false)⟩,⟨.t 35,.un .not (.t 34),some (.t 32,
  false)⟩,⟨.t 36,.mv false (.t 35),some (.t 32,false)⟩,gm 37 6 36 true,⟨.t 38,.bin .neq (.t 37) (.c (.v (.int .i64 0))),some (.t 36,true)⟩,
  ⟨.t 39,.pick (.t 36) (.t 38) (.c (.v (.bool false))),some (.t 32,false)⟩,nn (.t 40) (.pick (.t 32) (.c (.v (.bool true))) (.t 39)),nn (.t 41)
  (.mv false (.t 40)),gm 42 6 41 false,⟨.t 43,.bin .eql (.t 42) (.c (.v (.int .i64 400))),some (.t 41,false)⟩,⟨.t 44,.mv false (.t 43),some (.t
  41,false)⟩,gm 45 5 44 true,⟨.t 46,.call 17 [.t 45,.c (.v (.int .i64 3))],some (.t 44,true)⟩,⟨.t 47,.bin .neq (.t 46) (.c (.v (.int .i64
  4))),some (.t 44,true)⟩,⟨.t 48,.pick (.t 44) (.t 47) (.c (.v (.bool false))),some (.t 41,false)⟩,nn (.t 49) (.pick (.t 41) (.c (.v (.bool
  true))) (.t 48))]).seq (PC.cond (.t 49) ((PC.reg [nn (.v 4) (.mv true (.c (.v (.bool false))))]).seq PC.ret) PC.skip)).seq (((PC.reg [nn (.v 8) (.mv
  true (.c (.v (.int .i64 0))))]).seq (PC.block 2 (PC.loop [1,2,8] lp4_0))).seq ((PC.reg [nn (.t 98) (.call 10 []),ma 4 98]).seq PC.ret)))))))) [(.v
  4,none)]
attribute [local irreducible] W Wops WopsD WL Wop WopD
variable {E:Env} {C:Abs.Spec} {l:List (Nat×Spec1)} {G:List (Nat×V)} {Q:R→List (Nat×V)→Prop}
set_option maxHeartbeats 1000000
def manyB (m:MsgS):Nat→List MsgS×Int
 |0=>([],0)
 |k+1=>((putB (manyB m k).1 [m]).1,(manyB m k).2+(putB (manyB m k).1 [m]).2)
theorem manyB_no {m:MsgS} (h:m.may=false):∀k,manyB m k=([],0)
 |0=>rfl
 |k+1=>by
  unfold manyB
  rw[manyB_no h k,putB,if_neg (fun e=>by rw[h]at e;cases e.2),putB];rfl
theorem manyB_yes {m:MsgS} (h:m.may=true):∀k,manyB m k=(List.replicate (min k 400) m,((min k 400:Nat):Int))
 |0=>rfl
 |k+1=>by
  unfold manyB
  rw[manyB_yes h k]
  dsimp only
  rw[putB,List.length_replicate]
  by_cases hk:k < 400
  ·rw[if_pos ⟨by omega,h⟩,putB,show min (k+1) 400=k+1 by omega,show min k 400=k by omega,List.replicate_succ']
   simp
  ·rw[if_neg (fun e=>by omega),putB,show min (k+1) 400=400 by omega,show min k 400=400 by omega];simp
theorem manyB_ok (m:MsgS) (k:Nat):(manyB m k).1.length≤400∧0≤(manyB m k).2∧(manyB m k).2≤400:=by
 cases h:m.may with
 |false=>rw[manyB_no h];exact⟨by decide,by decide,by decide⟩
 |true=>rw[manyB_yes h];simp;omega
theorem loop4 (hP:Abs.look l 13=some ZPb) {QQ:Ex→St→Prop} {id:Nat} {m:MsgS} {n:Int} (hok:m.ok) {L:List Bx} (hL:L=[⟨false,m.v⟩])
  (hx:∀ts G',BagAt G' id (manyB m 405).1 true→QQ (.exit 0) ⟨[none,some (.v (.int .i64 n)),some (.lp 0 []),none,none,some (.v (.ptr id)),some (.v (.int .i64 (manyB m 405).2)),some (.v (.int .i64 405)),none,none,none,none],ts,L,G'⟩):
  ∀(e j:Nat) (G:List (Nat×V)),j+e=405→BagAt G id (manyB m j).1 true→WL (W E (specOf l) lp4_1) [1,2,5,6,7] QQ (e+1) ⟨[none,some (.v (.int .i64 n)),some (.lp 0 []),none,none,some (.v (.ptr id)),some (.v (.int .i64 (manyB m j).2)),some (.v (.int .i64 (j:Nat))),none,none,none,none],[],L,G⟩:=by
 subst hL
 obtain⟨z1,z2⟩:=MsgS.vs m
 unfold V.isAgg at z2
 intro e
 induction e with
 |zero=>
  intro j G hj hB
  obtain rfl:j=405:=by omega
  refine WL_in lp4_1.eq_1 ?_
  simp -implicitDefEqProofs only[go_sem,↓reduceIte]
  exact hx _ _ hB
 |succ e ih=>
  intro j G hj hB
  have c1:(j:Int) < 405:=by omega
  have w1:IntKind.i64.wrap ((j:Int)+1)=((j+1:Nat):Int):=wc (by omega) (by omega)
  have mk:=manyB_ok m j
  have mk2:=manyB_ok m (j+1)
  have w2:IntKind.i64.wrap ((manyB m j).2+(putB (manyB m j).1 [m]).2)=(manyB m (j+1)).2:=by
   show _=(manyB m j).2+(putB (manyB m j).1 [m]).2
   refine w64 ?_ ?_<;>(have:(manyB m (j+1)).2=(manyB m j).2+(putB (manyB m j).1 [m]).2:=rfl;omega)
  refine WL_in lp4_1.eq_1 ?_
  have sm:V.same m.v (.agg [.int .i64 0,.int .i64 0,.int .i64 0,.agg [.int .i64 0,.int .i64 0,.int .i64 0,.int .i64 0,.arr .u8 32 zz2,.int .i64 0,.arr .u8 32 zz2,.arr .u8 32 zz2],.agg [.agg [.int .i64 0,.int .i64 0,.int .i64 0,.int .i64 0,.arr .u8 32 zz2,.int .i64 0,.arr .u8 32 zz2,.arr .u8 32 zz2],.nils],.agg [.int .i64 0,.int .i64 0,.int .i64 0,.arr .u8 32 zz2,.nils,.arr .u8 32 zz2],.agg [.arr .u8 32 zz2,.int .i64 0,.int .i64 0,.int .i64 0,.nils],.arr .u8 32 zz2,.agg [.int .i64 0,.int .i64 0,.int .i64 0,.int .i64 0,.int .i64 0,.str ⟨⟨[]⟩⟩,.str ⟨⟨[]⟩⟩]])=true:=rfl
  simp -implicitDefEqProofs only[c1,w1,z1,z2,sm,hP,ZPb,go_sem,↓reduceIte]
  refine⟨(manyB m j).1,true,[m],⟨hB,V.Wk.refl _,fun x hx=>by rw[List.mem_singleton.1 hx];exact hok,by simp,mk.1⟩,fun G' hB'=> ?_⟩
  rw[if_pos rfl]at hB'⊢
  simp -implicitDefEqProofs only[w1,w2,go_sem,↓reduceIte]
  exact ih (j+1) G' (by omega) hB'
theorem loop24 (hP:Abs.look l 13=some ZPb) (hC:Abs.look l 17=some ZCy6) (hT:Abs.look l 14=some ZTk) (hD:Abs.look l 18=some ZDp) (hA:Abs.look l 20=some ZAl) (hO:Abs.look l 21=some ZTo)
  {QQ:Ex→St→Prop} {m:MsgS} {n:Int} (hok:m.ok)
  (hx:∀ts G' L,QQ (.exit 2) ⟨[none,some (.v (.int .i64 n)),some (.lp 0 []),none,none,none,none,none,some (.v (.int .i64 2)),none,none,none],ts,L,G'⟩):
  ∀(e j:Nat) (G:List (Nat×V)) (rest:List Bx),j+e=2→WL (W E (specOf l) lp4_0) [1,2,8] QQ (e+1) ⟨[none,some (.v (.int .i64 n)),some (.lp 0 []),none,none,none,none,none,some (.v (.int .i64 (j:Nat))),none,none,none],[],⟨false,m.v⟩::rest,G⟩:=by
 obtain⟨z1,z2⟩:=MsgS.vs m
 unfold V.isAgg at z2
 have sm:∀m:MsgS,V.same m.v (.agg [.int .i64 0,.int .i64 0,.int .i64 0,.agg [.int .i64 0,.int .i64 0,.int .i64 0,.int .i64 0,.arr .u8 32 zz2,.int .i64 0,.arr .u8 32 zz2,.arr .u8 32 zz2],.agg [.agg [.int .i64 0,.int .i64 0,.int .i64 0,.int .i64 0,.arr .u8 32 zz2,.int .i64 0,.arr .u8 32 zz2,.arr .u8 32 zz2],.nils],.agg [.int .i64 0,.int .i64 0,.int .i64 0,.arr .u8 32 zz2,.nils,.arr .u8 32 zz2],.agg [.arr .u8 32 zz2,.int .i64 0,.int .i64 0,.int .i64 0,.nils],.arr .u8 32 zz2,.agg [.int .i64 0,.int .i64 0,.int .i64 0,.int .i64 0,.int .i64 0,.str ⟨⟨[]⟩⟩,.str ⟨⟨[]⟩⟩]])=true:=fun m=>rfl
 have sz:∀m:MsgS,V.size m.v=349:=fun m=>rfl
 intro e
 induction e with
 |zero=>
  intro j G rest hj
  obtain rfl:j=2:=by omega
  refine WL_in lp4_0.eq_1 ?_
  simp -implicitDefEqProofs only[go_sem,↓reduceIte]
  exact hx _ _ _
 |succ e ih=>
  intro j G rest hj
  have c1:(j:Int) < 2:=by omega
  have w1:IntKind.i64.wrap ((j:Int)+1)=((j+1:Nat):Int):=wc (by omega) (by omega)
  have w10:IntKind.i64.wrap 1=((1:Nat):Int):=by decide
  have w11:IntKind.i64.wrap (1+1)=((2:Nat):Int):=by decide
  have hA':∀x:Bx,(rest++[x])[rest.length]? =some x:=fun x=>by simp
  have hS':∀x z:Bx,(rest++[x]).set rest.length z=rest++[z]:=fun x z=>by simp
  by_cases j1:j=1
  ·subst j1
   refine WL_in lp4_0.eq_1 ?_
   simp -implicitDefEqProofs only[z1,z2,go_sem,↓reduceIte]
   intro id hid
   have t1:takeB [] false n=(.zero,[]):=by unfold takeB atE;rw[if_pos rfl,if_neg (by decide)]
   have t2:atE [] false n=5:=by unfold atE;rw[if_pos rfl]
   have t3:copE [] false n=5:=by unfold copE;rw[t2,if_neg (fun h=>absurd h.1 (by decide))]
   have t4:copyB [] false n=[]:=by unfold copyB;rw[t3,if_neg (by decide)]
   simp -implicitDefEqProofs only[hT,ZTk,go_sem,↓reduceIte]
   refine⟨[],false,⟨BagAt.new,by decide⟩,fun G1 h1=> ?_⟩
   rw[t1]at h1⊢
   rw[t2]
   dsimp only at h1⊢
   simp -implicitDefEqProofs only[sm,sz,z1,z2,hP,ZPb,hA',hS',go_sem,↓reduceIte]
   refine⟨[],false,[m],⟨h1,V.Wk.refl _,fun x hx=>by rw[List.mem_singleton.1 hx];exact hok,by simp,by decide⟩,fun G2 h2=> ?_⟩
   rw[if_neg (by decide)]at h2⊢
   simp -implicitDefEqProofs only[hC,ZCy6,go_sem,↓reduceIte]
   refine⟨[],false,⟨h2,by decide⟩,fun G3 h3=> ?_⟩
   rw[t4]at h3
   rw[t3]
   simp -implicitDefEqProofs only[hD,ZDp,go_sem,↓reduceIte]
   refine⟨[],false,⟨h3,by decide⟩,fun G4 h4=> ?_⟩
   rw[t1]at h4
   rw[t2]
   dsimp only at h4
   simp -implicitDefEqProofs only[hA,ZAl,go_sem,↓reduceIte]
   refine⟨[],false,⟨h4,by decide⟩,?_⟩
   simp -implicitDefEqProofs only[hO,ZTo,go_sem,↓reduceIte]
   refine⟨[],false,⟨h4,by decide⟩,?_⟩
   simp -implicitDefEqProofs only[toB,w11,go_sem,↓reduceIte]
   exact ih 2 G4 _ (by omega)
  ·obtain rfl:j=0:=by omega
   refine WL_in lp4_0.eq_1 ?_
   simp -implicitDefEqProofs only[z1,z2,hT,ZTk,hP,ZPb,hC,ZCy6,hD,ZDp,hA,ZAl,hO,ZTo,sm,sz,w10,go_sem,↓reduceIte]
   exact ih 1 G _ (by omega)
theorem walk4 (hL:Abs.look l 22=some ZLm) (hW:Abs.look l 10=some ZAw6) (hN:Abs.look l 11=some ZNb) (hM:Abs.look l 23=some ZYm) (hP:Abs.look l 13=some ZPb) (hC:Abs.look l 17=some ZCy6) (hT:Abs.look l 14=some ZTk) (hD:Abs.look l 18=some ZDp) (hA:Abs.look l 20=some ZAl) (hO:Abs.look l 21=some ZTo)
  {m:MsgS} {n:Int} (hw:m.wf) (h:∀G',Q (.v (.bool true)) G'):Wf E (specOf l) pf4 [m.v,.int .i64 n] G Q:=by
 obtain⟨z1,z2⟩:=MsgS.vs m
 unfold V.isAgg at z2
 have rm:=V.Wk.refl m.v
 cases lm:lightM m with
 |false=>
  simp -implicitDefEqProofs only[pf4,z1,z2,hL,ZLm_eq,hW,ZAw6,go_sem,↓reduceIte]
  refine⟨m,rm,?_⟩
  simp -implicitDefEqProofs only[lm,go_sem,↓reduceIte]
  exact h
 |true=>
  have ok:=light_ok hw lm
  simp -implicitDefEqProofs only[pf4,z1,z2,hL,ZLm_eq,hW,ZAw6,go_sem,↓reduceIte]
  refine⟨m,rm,?_⟩
  simp -implicitDefEqProofs only[lm,hN,ZNb,go_sem,↓reduceIte]
  intro id hid
  refine⟨406,?_⟩
  try simp -implicitDefEqProofs only[go_sem,↓reduceIte]
  refine loop4 hP ok rfl (fun ts G1 h1=> ?_) 405 0 _ (by omega) BagAt.new
  simp -implicitDefEqProofs only[z1,z2,hM,ZYm_eq,go_sem,↓reduceIte]
  refine⟨m,⟨rm,ok⟩,?_⟩
  cases hm:m.may with
  |false=>
   rw[manyB_no hm]at h1⊢
   simp -implicitDefEqProofs only[hm,z1,z2,hM,ZYm_eq,go_sem,↓reduceIte]
   refine⟨m,⟨rm,ok⟩,?_⟩
   simp -implicitDefEqProofs only[hm,go_sem,↓reduceIte]
   refine⟨3,?_⟩
   try simp -implicitDefEqProofs only[go_sem,↓reduceIte]
   refine loop24 hP hC hT hD hA hO ok (fun ts G' L=> ?_) 2 0 _ _ (by omega)
   simp -implicitDefEqProofs only[hW,ZAw6,go_sem,↓reduceIte]
   exact h
  |true=>
   have hy:=manyB_yes hm 405
   rw[show min 405 400=400 by decide]at hy
   rw[hy]at h1⊢
   have e4:((400:Nat):Int)=400:=rfl
   have ec:copE (List.replicate 400 m) true 3=4:=by
    unfold copE atE
    rw[if_pos]
    rw[List.length_replicate]
    exact⟨by rw[if_neg (by decide),if_neg (by decide)],rfl⟩
   simp -implicitDefEqProofs only[hm,z1,z2,e4,hM,ZYm_eq,go_sem,↓reduceIte]
   refine⟨m,⟨rm,ok⟩,?_⟩
   simp -implicitDefEqProofs only[hm,hC,ZCy6,go_sem,↓reduceIte]
   refine⟨_,true,⟨h1,by rw[List.length_replicate];exact Nat.le_refl _⟩,fun G2 h2=> ?_⟩
   rw[ec]
   simp -implicitDefEqProofs only[go_sem,↓reduceIte]
   refine⟨3,?_⟩
   try simp -implicitDefEqProofs only[go_sem,↓reduceIte]
   refine loop24 hP hC hT hD hA hO ok (fun ts G' L=> ?_) 2 0 _ _ (by omega)
   simp -implicitDefEqProofs only[hW,ZAw6,go_sem,↓reduceIte]
   exact h
end Go.Proofs.Ytjbglbhcbenhpaa.Sha
