/- Laws over plain values, and what functions of the program hand back; no conditions. -/
import Derived.Test.YtegamlopcdjiaaaG5
import Derived.Test.YtegamlopcdjiaaaG7
namespace Go.Proofs.Ytegamlopcdjiaaa.Sha
open Go Go.Abs Go.Abs.Sha Go.Abs.Srt
set_option linter.unusedSimpArgs false
set_option linter.unusedVariables false
set_option maxRecDepth 100000
def pf86:PF:=
 PF.mk 2 5 17 ((PC.reg [nn (.v 4) (.mv true (.c (.own .nils)))]).seq ((PC.reg [mm 5 1,mm 6 1,nn (.t 7) (.len (.t 6)),nn (.t 8) (.mm false [.t 7,.c
  (.v (.int .i64 65536))]),nn (.t 9) (.slcS 1 (.t 5) none (some (.t 8)) none),ma 1 9]).seq ((PC.reg [mm 10 0,mm 11 1,nn (.t 12) (.len (.t 11)),nn
  (.t 13) (.conv .u64 (.t 12)),nn (.t 14) (.call 31 [.t 10,.t 13]),mm 15 1,nn (.t 16) (.app (some .u8) 1 1 (.t 14) (.t 15)),ma 4 16]).seq
  PC.ret))) [(.v 4,none)]
def pf101:PF:=
 PF.mk 1 6 51 ((PC.reg [nn (.v 2) (.mv true (.c (.own .nils)))]).seq (((PC.reg [mm 6 0,nn (.t 7) (.call 94 [.t 6])]).seq (PC.cond (.t 7) ((PC.reg [nn
  (.v 2) (.mv true (.c (.own .nils)))]).seq PC.ret) PC.skip)).seq ((PC.reg [mm 8 0,nn (.t 9) (.nilc (.t 8)),nn (.t 10) (.fadr 0 0 (.t 9)),nn (.t 11)
  (.load 1 false (.t 10)),ma 3 11]).seq ((PC.reg [mm 12 0,nn (.t 13) (.call 48 [.t 12,.c (.v (.int .i64 65536))]),ma 4 13]).seq (((PC.reg [mm 14 0,
  nn (.t 15) (.nilc (.t 14)),nn (.t 16) (.fadr 1 1 (.t 15)),nn (.t 17) (.load 1 false (.t 16)),nn (.t 18) (.mv false (.t 17)),gm 19 4 18 false,gm
  20 0 18 false,⟨.t 21,.nilc (.t 20),some (.t 18,false)⟩,⟨.t 22,.fadr 0 0 (.t 21),some (.t 18,false)⟩,⟨.t 23,.load 1 false (.t 22),some (.t
  18,false)⟩,⟨.t 24,.len (.t 23),some (.t 18,false)⟩,⟨.t 25,.bin .gtr (.t 19) (.t 24),some (.t 18,false)⟩,nn (.t 26) (.pick (.t 18) (.c (.v
  (.bool true))) (.t 25))]).seq (PC.cond (.t 26) ((PC.reg [mm 27 0,mm 28 0,mm 29 3,nn (.t 30) (.nilc (.t 27)),nn (.t 31) (.fadr 0 0 (.t 30)),nn
  .no (.store 1 (.t 31) (.t 29)),nn (.t 32) (.nilc (.t 28)),nn (.t 33) (.fadr 1 1 (.t 32)),nn .no (.store 1 (.t 33) (.c (.v (.bool true))))]).seq
  ((PC.reg [nn (.v 2) (.mv true (.c (.own .nils)))]).seq PC.ret)) PC.skip)).seq ((PC.reg [mm 34 0,nn (.t 35) (.nilc (.t 34)),nn (.t 36) (.fadr 0 0
  (.t 35)),nn (.t 37) (.load 1 false (.t 36)),mm 38 4,nn (.t 39) (.slcS 1 (.t 37) none (some (.t 38)) none),nn (.t 40) (.call 79 [.t 39]),ma 5
  40]).seq ((PC.reg [mm 41 0,mm 42 0,nn (.t 43) (.nilc (.t 42)),nn (.t 44) (.fadr 0 0 (.t 43)),nn (.t 45) (.load 1 false (.t 44)),mm 46 4,nn (.t
  47) (.slcS 1 (.t 45) (some (.t 46)) none none),nn (.t 48) (.nilc (.t 41)),nn (.t 49) (.fadr 0 0 (.t 48)),nn .no (.store 1 (.t 49) (.t 47))]).seq
  ((PC.reg [nn (.t 50) (.mv true (.v 5)),ma 2 50]).seq PC.ret)))))))) [(.v 2,none)]
def pf56:PF:=
 PF.mk 1 3 9 ((PC.reg [nn (.v 2) (.mv true (.c (.own .nils)))]).seq ((PC.reg [mm 3 0,nn (.t 4) (.len (.t 3)),nn (.t 5) (.conv .u64 (.t 4)),nn (.t 6)
  (.call 104 [.t 5]),mm 7 0,nn (.t 8) (.app (some .u8) 1 1 (.t 6) (.t 7)),ma 2 8]).seq PC.ret)) [(.v 2,none)]
def pf136:PF:=
 PF.mk 3 7 15 ((PC.reg [nn (.v 6) (.mv true (.c (.v (.bool false))))]).seq ((PC.reg [mm 7 0,mm 8 1,nn (.t 9) (.bin .geq (.t 7) (.t 8)),nn (.t 10)
  (.mv false (.t 9)),gm 11 0 10 true,gm 12 2 10 true,⟨.t 13,.bin .leq (.t 11) (.t 12),some (.t 10,true)⟩,nn (.t 14) (.pick (.t 10) (.t 13) (.c
  (.v (.bool false)))),ma 6 14]).seq PC.ret)) [(.v 6,none)]
def lp137_0:PC:=
 (PC.reg [nn (.t 9) (.bin .lss (.v 8) (.v 7))]).seq ((PC.cond (.t 9) PC.skip (PC.exit 0)).seq ((PC.block 1 ((PC.reg [nn (.t 10) (.iadrS 1 (.v 6) (.v
  8)),nn (.t 11) (.load 1 false (.t 10)),ma 4 11]).seq ((PC.reg [mm 12 4,nn (.t 13) (.bin .lss (.t 12) (.c (.v (.int .u8 97)))),nn (.t 14) (.mv
  false (.t 13)),gm 15 4 14 false,⟨.t 16,.bin .gtr (.t 15) (.c (.v (.int .u8 122))),some (.t 14,false)⟩,nn (.t 17) (.pick (.t 14) (.c (.v (.bool
  true))) (.t 16)),nn (.t 18) (.mv false (.t 17)),gm 19 4 18 true,⟨.t 20,.bin .lss (.t 19) (.c (.v (.int .u8 48))),some (.t 18,true)⟩,⟨.t 21,
  .mv false (.t 20),some (.t 18,true)⟩,gm 22 4 21 false,⟨.t 23,.bin .gtr (.t 22) (.c (.v (.int .u8 57))),some (.t 21,false)⟩,⟨.t 24,.pick (.t
  21) (.c (.v (.bool true))) (.t 23),some (.t 18,true)⟩,nn (.t 25) (.pick (.t 18) (.t 24) (.c (.v (.bool false))))]).seq (PC.cond (.t 25) ((PC.reg
  [nn (.v 2) (.mv true (.c (.v (.bool false))))]).seq PC.ret) PC.skip)))).seq (PC.reg [nn (.t 26) (.bin .add (.v 8) (.c (.v (.int .i64 1)))),nn (.v 8)
  (.mv false (.t 26))])))
def pf137:PF:=
 PF.mk 1 9 30 ((PC.reg [nn (.v 2) (.mv true (.c (.v (.bool false))))]).seq (((PC.reg [nn (.v 5) (.mv false (.v 0)),nn (.v 6) (.s2b false (.v 5)),nn
  (.v 7) (.len (.v 6)),nn (.v 8) (.mv false (.c (.v (.int .i64 0))))]).seq (PC.block 0 (PC.loop [0,6,7,8] lp137_0))).seq ((PC.reg [mm 27 0,nn (.t
  28) (.lenT (.t 27)),nn (.t 29) (.call 136 [.t 28,.c (.v (.int .i64 1)),.c (.v (.int .i64 16))]),ma 2 29]).seq PC.ret))) [(.v 2,none)]
def lp90_0:PC:=
 ((PC.reg [mm 4 3,mm 5 0,nn (.t 6) (.lenT (.t 5)),nn (.t 7) (.bin .lss (.t 4) (.t 6))]).seq (PC.cond (.t 7) PC.skip (PC.exit 0))).seq ((PC.block 1
  ((PC.reg [mm 10 0,mm 11 3,nn (.t 12) (.idxS (.t 10) (.t 11)),nn (.t 13) (.bin .geq (.t 12) (.c (.v (.int .u8 97)))),nn (.t 14) (.mv false (.t
  13)),gm 15 0 14 true,gm 16 3 14 true,⟨.t 17,.idxS (.t 15) (.t 16),some (.t 14,true)⟩,⟨.t 18,.bin .leq (.t 17) (.c (.v (.int .u8 122))),some
  (.t 14,true)⟩,nn (.t 19) (.pick (.t 14) (.t 18) (.c (.v (.bool false)))),nn (.t 20) (.mv false (.t 19)),gm 21 0 20 false,gm 22 3 20 false,⟨.t
  23,.idxS (.t 21) (.t 22),some (.t 20,false)⟩,⟨.t 24,.bin .geq (.t 23) (.c (.v (.int .u8 48))),some (.t 20,false)⟩,⟨.t 25,.mv false (.t 24),
  some (.t 20,false)⟩,gm 26 0 25 true,gm 27 3 25 true,⟨.t 28,.idxS (.t 26) (.t 27),some (.t 25,true)⟩,⟨.t 29,.bin .leq (.t 28) (.c (.v (.int
  .u8 57))),some (.t 25,true)⟩,⟨.t 30,.pick (.t 25) (.t 29) (.c (.v (.bool false))),some (.t 20,false)⟩,nn (.t 31) (.pick (.t 20) (.c (.v (.bool
  true))) (.t 30)),nn (.t 32) (.un .not (.t 31))]).seq (PC.cond (.t 32) ((PC.reg [nn (.v 2) (.mv true (.c (.v (.bool false))))]).seq PC.ret)
  PC.skip))).seq (PC.reg [mm 8 3,nn (.t 9) (.bin .add (.t 8) (.c (.v (.int .i64 1)))),ma 3 9]))
def pf90:PF:=
 PF.mk 1 4 41 ((PC.reg [nn (.v 2) (.mv true (.c (.v (.bool false))))]).seq (((PC.reg [nn (.v 3) (.mv true (.c (.v (.int .i64 0))))]).seq (PC.block 0
  (PC.loop [0,3] lp90_0))).seq ((PC.reg [mm 33 0,nn (.t 34) (.lenT (.t 33)),nn (.t 35) (.bin .geq (.t 34) (.c (.v (.int .i64 1)))),nn (.t 36) (.mv
  false (.t 35)),gm 37 0 36 true,⟨.t 38,.lenT (.t 37),some (.t 36,true)⟩,⟨.t 39,.bin .leq (.t 38) (.c (.v (.int .i64 16))),some (.t 36,true)⟩,
  nn (.t 40) (.pick (.t 36) (.t 39) (.c (.v (.bool false)))),ma 2 40]).seq PC.ret))) [(.v 2,none)]
attribute [local irreducible] W Wops WopsD WL Wop WopD
variable {E:Env} {C:Abs.Spec} {l:List (Nat×Spec1)} {G:List (Nat×V)} {Q:R→List (Nat×V)→Prop}
set_option maxHeartbeats 1000000
def ZTt:Spec1
 |[x,.sli .u8 t],G,Q=>∃b,(byV x=some b∧b.length < 1000000000∧t.length≤65536)∧Q (.own (.sli .u8 (b++txt t))) G
 |_,_,_=>False
theorem ZTt_eq {x t}:ZTt [x,.sli .u8 t] G Q=(∃b,(byV x=some b∧b.length < 1000000000∧t.length≤65536)∧Q (.own (.sli .u8 (b++txt t))) G):=rfl
def ZXt:Spec1
 |[.sli .u8 t],G,Q=>(t.length≤65536)∧Q (.own (.sli .u8 (txt t))) G
 |_,_,_=>False
theorem ZXt_eq {t}:ZXt [.sli .u8 t] G Q=((t.length≤65536)∧Q (.own (.sli .u8 (txt t))) G):=rfl
def txV (t:List Int) (w:Bool):V:=if w=true then .nils else .sli .u8 t
def ZTr:Spec1
 |[.ptr id],G,Q=>∃b w t r w2,(Abs.look G id=some (.agg [.sli .u8 b,.bool w])∧Byt b∧b.length < 1000000000000∧rdText (b,w)=(t,r,w2))∧Q (.own (txV t w2)) (Abs.upd G id (.agg [.sli .u8 r,.bool w2]))
 |_,_,_=>False
theorem ZTr_eq {id}:ZTr [.ptr id] G Q=(∃b w t r w2,(Abs.look G id=some (.agg [.sli .u8 b,.bool w])∧Byt b∧b.length < 1000000000000∧rdText (b,w)=(t,r,w2))∧Q (.own (txV t w2)) (Abs.upd G id (.agg [.sli .u8 r,.bool w2]))):=rfl
def ZWt:Spec1
 |[.int .i64 n,.int .i64 lo,.int .i64 hi],G,Q=>Q (.v (.bool (decide (lo≤n∧n≤hi)))) G
 |_,_,_=>False
theorem ZWt_eq {n lo hi}:ZWt [.int .i64 n,.int .i64 lo,.int .i64 hi] G Q=(Q (.v (.bool (decide (lo≤n∧n≤hi)))) G):=rfl
def ZKy:Spec1
 |[.str s],G,Q=>(s.size < 1000000000)∧Q (.v (.bool (decide (KeyOk (byS s))))) G
 |_,_,_=>False
theorem ZKy_eq {s}:ZKy [.str s] G Q=((s.size < 1000000000)∧Q (.v (.bool (decide (KeyOk (byS s))))) G):=rfl
theorem walk86 {x:V} {b t:List Int} (hN:Abs.look l 31=some SNu) (hx:byV x=some b) (hb:b.length < 1000000000) (ht:t.length≤65536) (h:Q (.own (.sli .u8 (b++txt t))) G):Wf E (specOf l) pf86 [x,.sli .u8 t] G Q:=by
 have e1:(t.length:Int)≤65536:=by omega
 have e3:IntKind.u64.wrap (t.length:Int)=(t.length:Int):=w64u (by omega)
 have e4:t.take t.length=t:=List.take_of_length_le (Nat.le_refl _)
 have e5:¬(65536:Int) < (t.length:Int):=by omega
 obtain⟨n1,n2⟩:=num_ok (n:=t.length) (by omega)
 simp -implicitDefEqProofs only[pf86,hN,SNu_eq,e5,e3,e4,Int.toNat_natCast,List.drop_zero,go_sem,↓reduceIte]
 refine⟨⟨by omega,by omega⟩,b,⟨hx,by omega,by omega,by omega⟩,by omega,?_⟩
 rw[List.append_assoc];exact h
theorem walk136 {n lo hi:Int} (h:Q (.v (.bool (decide (lo≤n∧n≤hi)))) G):Wf E C pf136 [.int .i64 n,.int .i64 lo,.int .i64 hi] G Q:=by
 simp -implicitDefEqProofs only[pf136,go_sem,↓reduceIte]
 refine⟨fun h1=> ?_,fun h1=> ?_⟩
 ·rw[show decide (lo≤n∧n≤hi)=decide (n≤hi)by rw[decide_eq_decide];exact⟨fun h=>h.2,fun h=>⟨h1,h⟩⟩]at h;exact h
 ·rw[show decide (lo≤n∧n≤hi)=false by rw[decide_eq_false_iff_not];omega]at h;exact h
theorem walk56 {t:List Int} (hN:Abs.look l 104=some (SRn 10)) (ht:t.length≤65536) (h:Q (.own (.sli .u8 (txt t))) G):Wf E (specOf l) pf56 [.sli .u8 t] G Q:=by
 have e3:IntKind.u64.wrap (t.length:Int)=(t.length:Int):=w64u (by omega)
 obtain⟨n1,n2⟩:=num_ok (n:=t.length) (by omega)
 simp -implicitDefEqProofs only[pf56,hN,SRn_eq,e3,Int.toNat_natCast,go_sem,↓reduceIte]
 exact⟨⟨by omega,by omega,by omega⟩,by omega,h⟩
theorem walk101 {id:Nat} {b t r:List Int} {w w2:Bool} (hO:Abs.look l 94=some SOff) (hU:Abs.look l 48=some SUp) (hC:Abs.look l 79=some SCl) (hG:Abs.look G id=some (.agg [.sli .u8 b,.bool w])) (hb:Byt b) (hl:b.length < 1000000000000) (he:rdText (b,w)=(t,r,w2))
  (h:Q (.own (txV t w2)) (Abs.upd G id (.agg [.sli .u8 r,.bool w2]))):Wf E (specOf l) pf101 [.ptr id] G Q:=by
 unfold rdText at he
 simp -implicitDefEqProofs only[pf101,hO,SOff_eq,go_sem,↓reduceIte]
 refine⟨b,w,hG,?_⟩
 cases w with
 |true=>
  cases he
  rw[upd_self hG]at h
  simp -implicitDefEqProofs only[go_sem,↓reduceIte]
  exact h
 |false=>
  rcases e1:rdUpto 65536 (b,false)with⟨n1,r1,w1⟩
  obtain⟨z11,z12,z13,z14,⟨u1,z15⟩,_⟩:=rdUpto_all e1 hb (by omega)
  have g:∀x,Abs.look (Abs.upd G id x) id=some x:=fun x=>look_upd_same hG
  simp only[e1,Bool.false_eq_true,if_false]at he
  simp -implicitDefEqProofs only[hG,hU,SUp_eq,go_sem,↓reduceIte]
  refine⟨b,false,n1,r1,w1,⟨rfl,hb,hl,e1⟩,?_⟩
  simp -implicitDefEqProofs only[g,upd_upd,hC,SCl_eq,List.drop_zero,go_sem,↓reduceIte]
  have e9:r1.take r1.length=r1:=List.take_of_length_le (Nat.le_refl _)
  refine⟨fun hw=> ?_,fun hw=>⟨fun hn=> ?_,fun hn=>⟨⟨by omega,by omega⟩,?_⟩⟩⟩
  ·rw[if_pos (.inl hw)]at he;cases he;exact h
  ·rw[if_pos (.inr hn)]at he;cases he;exact h
  ·rw[if_neg (by rw[hw];simp;omega)]at he;cases he
   subst hw
   refine⟨_,⟨rfl,by rw[List.length_take];omega⟩,?_⟩
   rw[Int.toNat_natCast,e9]
   exact⟨⟨z13,hn,by omega⟩,h⟩
theorem loop137 {QQ:Ex→St→Prop} {s:ByteArray} {L:List Int} (hb:Byt L) (hl:L.length < 1000000000)
  (hx:∀ts,(∀c∈L,chOk c)→QQ (.exit 0) ⟨[some (.v (.str s)),none,none,none,none,none,some (.v (.sli .u8 L)),some (.v (.int .i64 (L.length:Nat))),some (.v (.int .i64 (L.length:Nat)))],ts,[],G⟩) (hr:∀ts v4 v8,¬(∀c∈L,chOk c)→QQ .ret ⟨[some (.v (.str s)),none,some (.v (.bool false)),none,v4,none,some (.v (.sli .u8 L)),some (.v (.int .i64 (L.length:Nat))),v8],ts,[],G⟩):
  ∀(e i:Nat),i+e=L.length→(∀c∈L.take i,chOk c)→WL (W E C lp137_0) [0,6,7,8] QQ (e+1) ⟨[some (.v (.str s)),none,none,none,none,none,some (.v (.sli .u8 L)),some (.v (.int .i64 (L.length:Nat))),some (.v (.int .i64 (i:Nat)))],[],[],G⟩:=by
 intro e
 induction e with
 |zero=>
  intro i hi ht
  obtain rfl:i=L.length:=by omega
  rw[List.take_of_length_le (Nat.le_refl _)]at ht
  refine WL_in lp137_0.eq_1 ?_
  simp -implicitDefEqProofs only[Int.lt_irrefl,go_sem,↓reduceIte]
  exact hx _ ht
 |succ e ih=>
  intro i hi ht
  have c1:(i:Int) < (L.length:Int):=by omega
  have c2:i < L.length:=by omega
  have c3:(0:Int)≤i:=by omega
  have w1:IntKind.i64.wrap ((i:Int)+1)=((i+1:Nat):Int):=wc (by omega) (by omega)
  have hg:L.getD i 0=L[i]:=by simp[c2]
  have hc:=byt_getD hb i
  have hm:L[i]∈L:=List.getElem_mem c2
  have hn:chOk (L.getD i 0)→∀c∈L.take (i+1),chOk c:=fun h c hc=>by
   rw[List.take_add_one,List.mem_append]at hc
   rcases hc with hc|hc
   ·exact ht c hc
   ·rw[List.getElem?_eq_getElem c2]at hc;simp at hc;rw[hc,←hg];exact h
  have hno:¬chOk (L.getD i 0)→¬(∀c∈L,chOk c):=fun h h2=>h (by rw[hg];exact h2 _ hm)
  have ih1:=fun h=>ih (i+1) (by omega) (hn h)
  generalize hcd:L.getD i 0=c at*
  refine WL_in lp137_0.eq_1 ?_
  simp -implicitDefEqProofs only[c1,c3,w1,hcd,Int.toNat_natCast,go_sem,↓reduceIte]
  repeat' first|(intro _)|constructor
  all_goals first
   |exact hr _ _ _ (hno (by unfold chOk;omega))
   |exact ih1 (by unfold chOk;omega)
theorem walk137 {s:ByteArray} (hW:Abs.look l 136=some ZWt) (hl:s.size < 1000000000) (h:Q (.v (.bool (decide (KeyOk (byS s))))) G):Wf E (specOf l) pf137 [.str s] G Q:=by
 have hL:(byS s).length=s.size:=byS_len
 simp -implicitDefEqProofs only[pf137,hW,ZWt_eq,go_sem,↓reduceIte]
 refine⟨(byS s).length+1,?_⟩
 simp -implicitDefEqProofs only[go_sem,↓reduceIte]
 refine loop137 byS_byt (by omega) (fun ts hy=> ?_) (fun ts v4 v8 hn=> ?_) _ 0 (by omega) (fun c hc=>by simp at hc)
 ·simp -implicitDefEqProofs only[hW,ZWt_eq,go_sem,↓reduceIte]
  refine finB h ?_
  rw[decide_eq_decide];unfold KeyOk;rw[hL]
  exact⟨fun h=>⟨by omega,by omega⟩,fun h=>⟨hy,by omega,by omega⟩⟩
 ·simp -implicitDefEqProofs only[go_sem,↓reduceIte]
  refine finB h ?_
  rw[decide_eq_false_iff_not]
  exact fun h=>hn h.1
theorem byS_get {s:ByteArray} {i:Nat} (h:i < s.size):((s.data.toList.getD i 0).toNat:Int)=(byS s).getD i 0:=by
 have h2:i < s.data.toList.length:=by simpa using h
 unfold byS;simp[List.getD,List.getElem?_eq_getElem h2]
theorem loop90 {QQ:Ex→St→Prop} {s:ByteArray} (hl:s.size < 1000000000)
  (hx:∀ts,(∀c∈byS s,chOk c)→QQ (.exit 0) ⟨[some (.v (.str s)),none,none,some (.v (.int .i64 (s.size:Nat)))],ts,[],G⟩) (hr:∀ts v3,¬(∀c∈byS s,chOk c)→QQ .ret ⟨[some (.v (.str s)),none,some (.v (.bool false)),v3],ts,[],G⟩):
  ∀(e i:Nat),i+e=s.size→(∀c∈(byS s).take i,chOk c)→WL (W E C lp90_0) [0,3] QQ (e+1) ⟨[some (.v (.str s)),none,none,some (.v (.int .i64 (i:Nat)))],[],[],G⟩:=by
 intro e
 have hL:(byS s).length=s.size:=byS_len
 have hb:Byt (byS s):=byS_byt
 induction e with
 |zero=>
  intro i hi ht
  obtain rfl:i=s.size:=by omega
  rw[List.take_of_length_le (by omega)]at ht
  refine WL_in lp90_0.eq_1 ?_
  simp -implicitDefEqProofs only[Int.lt_irrefl,go_sem,↓reduceIte]
  exact hx _ ht
 |succ e ih=>
  intro i hi ht
  have c1:(i:Int) < (s.size:Int):=by omega
  have c2:i < s.size:=by omega
  have c3:(0:Int)≤i:=by omega
  have w1:IntKind.i64.wrap ((i:Int)+1)=((i+1:Nat):Int):=wc (by omega) (by omega)
  have c4:i < (byS s).length:=by omega
  have hg:(byS s).getD i 0=(byS s)[i]:=by simp[c4]
  have hc:=byt_getD hb i
  have hm:(byS s)[i]∈byS s:=List.getElem_mem c4
  have hn:chOk ((byS s).getD i 0)→∀c∈(byS s).take (i+1),chOk c:=fun h c hc=>by
   rw[List.take_add_one,List.mem_append]at hc
   rcases hc with hc|hc
   ·exact ht c hc
   ·rw[List.getElem?_eq_getElem c4]at hc;simp at hc;rw[hc,←hg];exact h
  have hno:¬chOk ((byS s).getD i 0)→¬(∀c∈byS s,chOk c):=fun h h2=>h (by rw[hg];exact h2 _ hm)
  have ih1:=fun h=>ih (i+1) (by omega) (hn h)
  have hcd:=byS_get c2
  generalize (byS s).getD i 0=c at*
  refine WL_in lp90_0.eq_1 ?_
  simp -implicitDefEqProofs only[c1,c3,w1,hcd,Int.toNat_natCast,go_sem,↓reduceIte]
  repeat' first|(intro _)|constructor
  all_goals first
   |exact hr _ _ (hno (by unfold chOk;omega))
   |exact ih1 (by unfold chOk;omega)
theorem walk90 {s:ByteArray} (hl:s.size < 1000000000) (h:Q (.v (.bool (decide (KeyOk (byS s))))) G):Wf E C pf90 [.str s] G Q:=by
 have hL:(byS s).length=s.size:=byS_len
 simp -implicitDefEqProofs only[pf90,go_sem,↓reduceIte]
 refine⟨s.size+1,?_⟩
 simp -implicitDefEqProofs only[go_sem,↓reduceIte]
 refine loop90 hl (fun ts hy=> ?_) (fun ts v3 hn=> ?_) _ 0 (by omega) (fun c hc=>by simp at hc)
 ·simp -implicitDefEqProofs only[go_sem,↓reduceIte]
  refine⟨fun h1=>finB h ?_,fun h1=>finB h ?_⟩
  ·rw[decide_eq_decide];unfold KeyOk;rw[hL]
   exact⟨fun h=>by have:=h.2.2;omega,fun h=>⟨hy,by omega,by omega⟩⟩
  ·rw[decide_eq_false_iff_not];unfold KeyOk;rw[hL];exact fun h=>by omega
 ·simp -implicitDefEqProofs only[go_sem,↓reduceIte]
  refine finB h ?_
  rw[decide_eq_false_iff_not]
  exact fun h=>hn h.1
def pf116:PF:=
 PF.mk 1 23 81 ((PC.reg [nn (.v 1) (.box (.v 0)),nn (.v 2) (.mv true (.c (.v (.int .i64 0))))]).seq ((PC.reg [nn (.v 5) (.fadr 0 0 (.v 1)),nn (.v 6)
  (.load 1 false (.v 5)),nn (.v 7) (.call 136 [.v 6,.c (.v (.int .i64 1)),.c (.v (.int .i64 40))]),nn (.v 8) (.mv false (.v 7)),⟨.v 9,.fadr 1 1
  (.v 1),some (.v 8,true)⟩,⟨.v 10,.load 1 false (.v 9),some (.v 8,true)⟩,⟨.v 11,.call 136 [.v 10,.c (.v (.int .i64 1)),.c (.v (.int .i64
  1099511627776))],some (.v 8,true)⟩,nn (.v 12) (.pick (.v 8) (.v 11) (.c (.v (.bool false)))),nn (.v 3) (.mv true (.v 12))]).seq ((PC.reg [nn (.v
  13) (.fadr 3 3 (.v 1)),nn (.v 14) (.load 1 false (.v 13)),nn (.v 15) (.bin .eql (.v 14) (.c (.v (.int .i64 0)))),nn (.v 16) (.mv false (.v 15)),
  ⟨.v 17,.fadr 4 4 (.v 1),some (.v 16,true)⟩,⟨.v 18,.load 1 false (.v 17),some (.v 16,true)⟩,⟨.v 19,.bin .eql (.v 18) (.c (.v (.int .i64 0))),
  some (.v 16,true)⟩,nn (.v 20) (.pick (.v 16) (.v 19) (.c (.v (.bool false)))),nn (.v 4) (.mv true (.v 20))]).seq (((PC.reg [nn (.v 21) (.fadr 2 2
  (.v 1)),nn (.v 22) (.load 1 false (.v 21))]).seq (PC.block 0 ((PC.reg [nn (.t 24) (.bin .eql (.v 22) (.c (.v (.int .i64 1)))),nn (.t 23) (.mv true
  (.t 24))]).seq (PC.cond (.t 23) (PC.reg [mm 25 3,nn (.t 26) (.mv false (.t 25)),⟨.t 27,.fadr 3 3 (.v 1),some (.t 26,true)⟩,⟨.t 28,.load 1
  false (.t 27),some (.t 26,true)⟩,⟨.t 29,.call 136 [.t 28,.c (.v (.int .i64 1)),.c (.v (.int .i64 40))],some (.t 26,true)⟩,nn (.t 30) (.pick
  (.t 26) (.t 29) (.c (.v (.bool false)))),nn (.t 31) (.mv false (.t 30)),⟨.t 32,.fadr 4 4 (.v 1),some (.t 31,true)⟩,⟨.t 33,.load 1 false (.t
  32),some (.t 31,true)⟩,⟨.t 34,.call 136 [.t 33,.c (.v (.int .i64 0)),.c (.v (.int .i64 1099511627776))],some (.t 31,true)⟩,nn (.t 35) (.pick
  (.t 31) (.t 34) (.c (.v (.bool false)))),nn (.t 36) (.mv false (.t 35)),⟨.t 37,.fadr 5 5 (.v 1),some (.t 36,true)⟩,⟨.t 38,.load 1 false (.t
  37),some (.t 36,true)⟩,⟨.t 39,.bin .eql (.t 38) (.c (.v (.str ⟨⟨[]⟩⟩))),some (.t 36,true)⟩,nn (.t 40) (.pick (.t 36) (.t 39) (.c (.v (.bool
  false)))),nn (.t 41) (.mv false (.t 40)),⟨.t 42,.fadr 6 6 (.v 1),some (.t 41,true)⟩,⟨.t 43,.load 1 false (.t 42),some (.t 41,true)⟩,⟨.t 44,
  .bin .eql (.t 43) (.c (.v (.str ⟨⟨[]⟩⟩))),some (.t 41,true)⟩,nn (.t 45) (.pick (.t 41) (.t 44) (.c (.v (.bool false)))),ma 3 45]) ((PC.reg [nn
  (.t 47) (.bin .eql (.v 22) (.c (.v (.int .i64 2)))),nn (.t 46) (.mv true (.t 47))]).seq (PC.cond (.t 46) (PC.reg [mm 48 3,nn (.t 49) (.mv false (.t
  48)),gm 50 4 49 true,nn (.t 51) (.pick (.t 49) (.t 50) (.c (.v (.bool false)))),nn (.t 52) (.mv false (.t 51)),⟨.t 53,.fadr 5 5 (.v 1),some (.t
  52,true)⟩,⟨.t 54,.load 1 false (.t 53),some (.t 52,true)⟩,⟨.t 55,.call 137 [.t 54],some (.t 52,true)⟩,nn (.t 56) (.pick (.t 52) (.t 55) (.c
  (.v (.bool false)))),nn (.t 57) (.mv false (.t 56)),⟨.t 58,.fadr 6 6 (.v 1),some (.t 57,true)⟩,⟨.t 59,.load 1 false (.t 58),some (.t 57,
  true)⟩,⟨.t 60,.lenT (.t 59),some (.t 57,true)⟩,⟨.t 61,.bin .leq (.t 60) (.c (.v (.int .i64 200))),some (.t 57,true)⟩,nn (.t 62) (.pick (.t
  57) (.t 61) (.c (.v (.bool false)))),ma 3 62]) ((PC.reg [nn (.t 64) (.bin .eql (.v 22) (.c (.v (.int .i64 3)))),nn (.t 63) (.mv true (.t 64))]).seq
  (PC.cond (.t 63) (PC.reg [mm 65 3,nn (.t 66) (.mv false (.t 65)),gm 67 4 66 true,nn (.t 68) (.pick (.t 66) (.t 67) (.c (.v (.bool false)))),nn
  (.t 69) (.mv false (.t 68)),⟨.t 70,.fadr 5 5 (.v 1),some (.t 69,true)⟩,⟨.t 71,.load 1 false (.t 70),some (.t 69,true)⟩,⟨.t 72,.call 137 [.t
  71],some (.t 69,true)⟩,nn (.t 73) (.pick (.t 69) (.t 72) (.c (.v (.bool false)))),nn (.t 74) (.mv false (.t 73)),⟨.t 75,.fadr 6 6 (.v 1),some
  (.t 74,true)⟩,⟨.t 76,.load 1 false (.t 75),some (.t 74,true)⟩,⟨.t 77,.bin .eql (.t 76) (.c (.v (.str ⟨⟨[]⟩⟩))),some (.t 74,true)⟩,nn (.t
  78) (.pick (.t 74) (.t 77) (.c (.v (.bool false)))),ma 3 78]) (PC.reg [nn (.v 3) (.mv true (.c (.v (.bool false))))]))))))))).seq (((PC.reg [mm 79
  3,nn (.t 80) (.un .not (.t 79))]).seq (PC.cond (.t 80) ((PC.reg [nn (.v 2) (.mv true (.c (.v (.int .i64 1))))]).seq PC.ret) PC.skip)).seq ((PC.reg
  [nn (.v 2) (.mv true (.c (.v (.int .i64 0))))]).seq PC.ret)))))) [(.v 2,none)]
def pf37:PF:=
 PF.mk 1 23 94 ((PC.reg [nn (.v 1) (.box (.v 0)),nn (.v 2) (.mv true (.c (.v (.bool false))))]).seq (((PC.reg [nn (.v 3) (.fadr 0 0 (.v 1)),nn (.v 4)
  (.load 1 false (.v 3)),nn (.v 5) (.bin .lss (.v 4) (.c (.v (.int .i64 1)))),nn (.v 6) (.mv false (.v 5)),⟨.v 7,.fadr 0 0 (.v 1),some (.v 6,
  false)⟩,⟨.v 8,.load 1 false (.v 7),some (.v 6,false)⟩,⟨.v 9,.bin .gtr (.v 8) (.c (.v (.int .i64 40))),some (.v 6,false)⟩,nn (.v 10) (.pick
  (.v 6) (.c (.v (.bool true))) (.v 9)),nn (.v 11) (.mv false (.v 10)),⟨.v 12,.fadr 1 1 (.v 1),some (.v 11,false)⟩,⟨.v 13,.load 1 false (.v 12),
  some (.v 11,false)⟩,⟨.v 14,.bin .lss (.v 13) (.c (.v (.int .i64 1))),some (.v 11,false)⟩,nn (.v 15) (.pick (.v 11) (.c (.v (.bool true))) (.v
  14)),nn (.v 16) (.mv false (.v 15)),⟨.v 17,.fadr 1 1 (.v 1),some (.v 16,false)⟩,⟨.v 18,.load 1 false (.v 17),some (.v 16,false)⟩,⟨.v 19,
  .bin .gtr (.v 18) (.c (.v (.int .i64 1099511627776))),some (.v 16,false)⟩,nn (.v 20) (.pick (.v 16) (.c (.v (.bool true))) (.v 19))]).seq (PC.cond
  (.v 20) ((PC.reg [nn (.v 2) (.mv true (.c (.v (.bool false))))]).seq PC.ret) PC.skip)).seq (((PC.reg [nn (.v 21) (.fadr 2 2 (.v 1)),nn (.v 22)
  (.load 1 false (.v 21))]).seq (PC.block 0 ((PC.reg [nn (.t 24) (.bin .eql (.v 22) (.c (.v (.int .i64 1)))),nn (.t 23) (.mv true (.t 24))]).seq
  (PC.cond (.t 23) ((PC.reg [nn (.t 25) (.fadr 3 3 (.v 1)),nn (.t 26) (.load 1 false (.t 25)),nn (.t 27) (.bin .geq (.t 26) (.c (.v (.int .i64 1)))),
  nn (.t 28) (.mv false (.t 27)),⟨.t 29,.fadr 3 3 (.v 1),some (.t 28,true)⟩,⟨.t 30,.load 1 false (.t 29),some (.t 28,true)⟩,⟨.t 31,.bin .leq
  (.t 30) (.c (.v (.int .i64 40))),some (.t 28,true)⟩,nn (.t 32) (.pick (.t 28) (.t 31) (.c (.v (.bool false)))),nn (.t 33) (.mv false (.t 32)),
  ⟨.t 34,.fadr 4 4 (.v 1),some (.t 33,true)⟩,⟨.t 35,.load 1 false (.t 34),some (.t 33,true)⟩,⟨.t 36,.bin .geq (.t 35) (.c (.v (.int .i64 0))),
  some (.t 33,true)⟩,nn (.t 37) (.pick (.t 33) (.t 36) (.c (.v (.bool false)))),nn (.t 38) (.mv false (.t 37)),⟨.t 39,.fadr 4 4 (.v 1),some (.t
  38,true)⟩,⟨.t 40,.load 1 false (.t 39),some (.t 38,true)⟩,⟨.t 41,.bin .leq (.t 40) (.c (.v (.int .i64 1099511627776))),some (.t 38,true)⟩,
  nn (.t 42) (.pick (.t 38) (.t 41) (.c (.v (.bool false)))),nn (.t 43) (.mv false (.t 42)),⟨.t 44,.fadr 5 5 (.v 1),some (.t 43,true)⟩,⟨.t 45,
  .load 1 false (.t 44),some (.t 43,true)⟩,⟨.t 46,.bin .eql (.t 45) (.c (.v (.str ⟨⟨[]⟩⟩))),some (.t 43,true)⟩,nn (.t 47) (.pick (.t 43) (.t 46)
  (.c (.v (.bool false)))),nn (.t 48) (.mv false (.t 47)),⟨.t 49,.fadr 6 6 (.v 1),some (.t 48,true)⟩,⟨.t 50,.load 1 false (.t 49),some (.t 48,
  true)⟩,⟨.t 51,.bin .eql (.t 50) (.c (.v (.str ⟨⟨[]⟩⟩))),some (.t 48,true)⟩,nn (.t 52) (.pick (.t 48) (.t 51) (.c (.v (.bool false)))),ma 2
  52]).seq PC.ret) ((PC.reg [nn (.t 54) (.bin .eql (.v 22) (.c (.v (.int .i64 2)))),nn (.t 53) (.mv true (.t 54))]).seq (PC.cond (.t 53) ((PC.reg [nn
  (.t 55) (.fadr 3 3 (.v 1)),nn (.t 56) (.load 1 false (.t 55)),nn (.t 57) (.bin .eql (.t 56) (.c (.v (.int .i64 0)))),nn (.t 58) (.mv false (.t
  57)),⟨.t 59,.fadr 4 4 (.v 1),some (.t 58,true)⟩,⟨.t 60,.load 1 false (.t 59),some (.t 58,true)⟩,⟨.t 61,.bin .eql (.t 60) (.c (.v (.int .i64
  0))),some (.t 58,true)⟩,nn (.t 62) (.pick (.t 58) (.t 61) (.c (.v (.bool false)))),nn (.t 63) (.mv false (.t 62)),⟨.t 64,.fadr 5 5 (.v 1),some
  (.t 63,true)⟩,⟨.t 65,.load 1 false (.t 64),some (.t 63,true)⟩,⟨.t 66,.call 90 [.t 65],some (.t 63,true)⟩,nn (.t 67) (.pick (.t 63) (.t 66)
  (.c (.v (.bool false)))),nn (.t 68) (.mv false (.t 67)),⟨.t 69,.fadr 6 6 (.v 1),some (.t 68,true)⟩,⟨.t 70,.load 1 false (.t 69),some (.t 68,
  true)⟩,⟨.t 71,.lenT (.t 70),some (.t 68,true)⟩,⟨.t 72,.bin .leq (.t 71) (.c (.v (.int .i64 200))),some (.t 68,true)⟩,nn (.t 73) (.pick (.t
  68) (.t 72) (.c (.v (.bool false)))),ma 2 73]).seq PC.ret) ((PC.reg [nn (.t 75) (.bin .eql (.v 22) (.c (.v (.int .i64 3)))),nn (.t 74) (.mv true
  (.t 75))]).seq (PC.cond (.t 74) ((PC.reg [nn (.t 76) (.fadr 3 3 (.v 1)),nn (.t 77) (.load 1 false (.t 76)),nn (.t 78) (.bin .eql (.t 77) (.c (.v
  (.int .i64 0)))),nn (.t 79) (.mv false (.t 78)),⟨.t 80,.fadr 4 4 (.v 1),some (.t 79,true)⟩,⟨.t 81,.load 1 false (.t 80),some (.t 79,true)⟩,
  ⟨.t 82,.bin .eql (.t 81) (.c (.v (.int .i64 0))),some (.t 79,true)⟩,nn (.t 83) (.pick (.t 79) (.t 82) (.c (.v (.bool false)))),nn (.t 84) (.mv
  false (.t 83)),⟨.t 85,.fadr 5 5 (.v 1),some (.t 84,true)⟩,⟨.t 86,.load 1 false (.t 85),some (.t 84,true)⟩,⟨.t 87,.call 90 [.t 86],some (.t
  84,true)⟩,nn (.t 88) (.pick (.t 84) (.t 87) (.c (.v (.bool false)))),nn (.t 89) (.mv false (.t 88)),⟨.t 90,.fadr 6 6 (.v 1),some (.t 89,
  true)⟩,⟨.t 91,.load 1 false (.t 90),some (.t 89,true)⟩,⟨.t 92,.bin .eql (.t 91) (.c (.v (.str ⟨⟨[]⟩⟩))),some (.t 89,true)⟩,nn (.t 93) (.pick
  (.t 89) (.t 92) (.c (.v (.bool false)))),ma 2 93]).seq PC.ret) PC.skip)))))))).seq ((PC.reg [nn (.v 2) (.mv true (.c (.v (.bool false))))]).seq
  PC.ret)))) [(.v 2,none)]
def ZTc:Spec1
 |[y],G,Q=>∃t:TxS,(y=t.v∧t.key.size < 1000000000∧t.val.size < 1000000000)∧Q (.v (.int .i64 (if t.may=true then 0 else 1))) G
 |_,_,_=>False
theorem ZTc_eq {y}:ZTc [y] G Q=(∃t:TxS,(y=t.v∧t.key.size < 1000000000∧t.val.size < 1000000000)∧Q (.v (.int .i64 (if t.may=true then 0 else 1))) G):=rfl
def ZTm:Spec1
 |[y],G,Q=>∃t:TxS,(y=t.v∧t.key.size < 1000000000∧t.val.size < 1000000000)∧Q (.v (.bool t.may)) G
 |_,_,_=>False
theorem ZTm_eq {y}:ZTm [y] G Q=(∃t:TxS,(y=t.v∧t.key.size < 1000000000∧t.val.size < 1000000000)∧Q (.v (.bool t.may)) G):=rfl
theorem walk37 {t:TxS} (hK:Abs.look l 90=some ZKy) (hk:t.key.size < 1000000000) (hv:t.val.size < 1000000000) (h:Q (.v (.bool t.may)) G):Wf E (specOf l) pf37 [t.v] G Q:=by
 obtain⟨fr,no,ki,to,am,key,val⟩:=t
 dsimp only at hk hv
 simp -implicitDefEqProofs only[pf37,TxS.v,hK,ZKy_eq,bs_eq,go_sem,↓reduceIte]
 repeat' first|exact hk|(intro _)|apply And.intro
 all_goals first
  |exact hk
  |(refine finB h ?_
    unfold TxS.may TxS.May
    dsimp only
    grind)
theorem walk116 {t:TxS} (hK:Abs.look l 137=some ZKy) (hW:Abs.look l 136=some ZWt) (hk:t.key.size < 1000000000) (hv:t.val.size < 1000000000) (h:Q (.v (.int .i64 (if t.may=true then 0 else 1))) G):Wf E (specOf l) pf116 [t.v] G Q:=by
 obtain⟨fr,no,ki,to,am,key,val⟩:=t
 dsimp only at hk hv
 have fin0:TxS.May ⟨fr,no,ki,to,am,key,val⟩→Q (.v (.int .i64 0)) G:=fun hm=>by rw[if_pos (by unfold TxS.may;rw[decide_eq_true_iff];exact hm)]at h;exact h
 have fin1:¬TxS.May ⟨fr,no,ki,to,am,key,val⟩→Q (.v (.int .i64 1)) G:=fun hm=>by rw[if_neg (by unfold TxS.may;rw[decide_eq_true_iff];exact hm)]at h;exact h
 unfold TxS.May at fin0 fin1
 dsimp only at fin0 fin1
 simp -implicitDefEqProofs only[pf116,TxS.v,hK,ZKy_eq,hW,ZWt_eq,bs_eq,go_sem,↓reduceIte]
 repeat' first|exact hk|(intro _)|apply And.intro
 all_goals first
  |(refine fin1 ?_;grind)
  |(refine fin0 ?_;grind)
def lp83_0:PC:=
 (PC.reg [nn (.v 21) (.bin .lss (.v 20) (.v 19))]).seq ((PC.cond (.v 21) PC.skip (PC.exit 0)).seq ((PC.block 1 ((PC.reg [nn (.v 22) (.iadrS 1 (.v 18)
  (.v 20)),nn (.v 23) (.load 1 false (.v 22)),nn (.v 6) (.mv true (.v 23))]).seq (PC.reg [nn (.v 24) (.mv false (.v 0)),nn (.v 25) (.mv false (.v
  6)),nn (.v 26) (.conv .u64 (.v 25)),nn (.v 27) (.call 31 [.v 24,.v 26]),nn (.v 0) (.mv true (.v 27))]))).seq (PC.reg [nn (.v 28) (.bin .add (.v
  20) (.c (.v (.int .i64 1)))),nn (.v 20) (.mv false (.v 28))])))
def pf83:PF:=
 PF.mk 2 31 58 ((PC.reg [nn (.v 3) (.box (.v 1)),nn (.v 4) (.mv true (.c (.own .nils)))]).seq (((PC.reg [nn (.v 7) (.load 7 true (.v 3)),nn (.v 8)
  (.call 116 [.v 7]),nn (.v 9) (.bin .neq (.v 8) (.c (.v (.int .i64 0))))]).seq (PC.cond (.v 9) ((PC.reg [nn (.v 10) (.mv false (.v 0)),nn (.v 11)
  (.call 79 [.v 10]),nn (.v 4) (.mv true (.v 11))]).seq PC.ret) PC.skip)).seq (((PC.reg [nn (.v 12) (.fadr 0 0 (.v 3)),nn (.v 13) (.load 1 false (.v
  12)),nn (.v 14) (.fadr 1 1 (.v 3)),nn (.v 15) (.load 1 false (.v 14)),nn (.v 16) (.fadr 2 2 (.v 3)),nn (.v 17) (.load 1 false (.v 16)),nn (.v
  18) (.buildS (some .i64) 1 (.int .i64 0) 3 [(0,.v 13),(1,.v 15),(2,.v 17)]),nn (.v 19) (.len (.v 18)),nn (.v 20) (.mv false (.c (.v (.int .i64
  0))))]).seq (PC.block 0 (PC.loop [0,3,18,19,20] lp83_0))).seq (((PC.reg [nn (.v 29) (.fadr 2 2 (.v 3)),nn (.v 30) (.load 1 false (.v 29))]).seq
  (PC.block 2 ((PC.reg [nn (.t 32) (.bin .eql (.v 30) (.c (.v (.int .i64 1)))),nn (.t 31) (.mv true (.t 32))]).seq (PC.cond (.t 31) ((PC.regD 0 [mm 33
  0,nn (.t 34) (.fadr 3 3 (.v 3)),nn (.t 35) (.load 1 false (.t 34)),nn (.t 36) (.conv .u64 (.t 35)),nn (.t 37) (.call 31 [.t 33,.t 36]),nn (.t
  38) (.fadr 4 4 (.v 3)),nn (.t 39) (.load 1 false (.t 38)),nn (.t 40) (.conv .u64 (.t 39)),nn (.t 41) (.call 31 [.t 37,.t 40]),ma 4 41] []).seq
  PC.ret) ((PC.reg [nn (.t 43) (.bin .eql (.v 30) (.c (.v (.int .i64 2)))),nn (.t 42) (.mv true (.t 43))]).seq (PC.cond (.t 42) ((PC.regD 0 [mm 44 0,
  nn (.t 45) (.fadr 5 5 (.v 3)),nn (.t 46) (.load 1 false (.t 45)),nn (.t 47) (.s2b false (.t 46)),nn (.t 48) (.call 86 [.t 44,.t 47]),nn (.t 49)
  (.fadr 6 6 (.v 3)),nn (.t 50) (.load 1 false (.t 49)),nn (.t 51) (.s2b false (.t 50)),nn (.t 52) (.call 86 [.t 48,.t 51]),ma 4 52] []).seq
  PC.ret) PC.skip)))))).seq ((PC.reg [mm 53 0,nn (.t 54) (.fadr 5 5 (.v 3)),nn (.t 55) (.load 1 false (.t 54)),nn (.t 56) (.s2b false (.t 55)),nn
  (.t 57) (.call 86 [.t 53,.t 56]),ma 4 57]).seq PC.ret))))) [(.v 4,none)]
def pf54:PF:=
 PF.mk 1 4 49 ((PC.reg [nn (.v 1) (.box (.v 0)),nn (.v 2) (.mv true (.c (.own .nils)))]).seq ((PC.regD 0 [nn (.t 4) (.fadr 0 0 (.v 1)),nn (.t 5)
  (.load 1 false (.t 4)),nn (.t 6) (.conv .u64 (.t 5)),nn (.t 7) (.call 104 [.t 6]),nn (.t 8) (.fadr 1 1 (.v 1)),nn (.t 9) (.load 1 false (.t 8)),
  nn (.t 10) (.conv .u64 (.t 9)),nn (.t 11) (.call 104 [.t 10]),nn (.t 12) (.app (some .u8) 1 1 (.t 7) (.t 11)),ma 3 12] []).seq ((PC.reg [nn (.t
  13) (.mv true (.v 3)),nn (.t 14) (.fadr 2 2 (.v 1)),nn (.t 15) (.load 1 false (.t 14)),nn (.t 16) (.conv .u8 (.t 15)),nn (.t 17) (.buildS (some
  .u8) 1 (.int .u8 0) 1 [(0,.t 16)]),nn (.t 18) (.app (some .u8) 1 1 (.t 13) (.t 17)),ma 3 18]).seq (((PC.reg [nn (.t 19) (.fadr 2 2 (.v 1)),nn (.t
  20) (.load 1 false (.t 19)),nn (.t 21) (.bin .eql (.t 20) (.c (.v (.int .i64 1))))]).seq (PC.cond (.t 21) ((PC.regD 0 [nn (.t 22) (.mv true (.v 3)),
  nn (.t 23) (.fadr 3 3 (.v 1)),nn (.t 24) (.load 1 false (.t 23)),nn (.t 25) (.conv .u64 (.t 24)),nn (.t 26) (.call 104 [.t 25]),nn (.t 27) (.app
  (some .u8) 1 1 (.t 22) (.t 26)),nn (.t 28) (.fadr 4 4 (.v 1)),nn (.t 29) (.load 1 false (.t 28)),nn (.t 30) (.conv .u64 (.t 29)),nn (.t 31)
  (.call 104 [.t 30]),nn (.t 32) (.app (some .u8) 1 1 (.t 27) (.t 31)),ma 2 32] []).seq PC.ret) PC.skip)).seq ((PC.reg [nn (.t 33) (.mv true (.v 3)),
  nn (.t 34) (.fadr 5 5 (.v 1)),nn (.t 35) (.load 1 false (.t 34)),nn (.t 36) (.s2b false (.t 35)),nn (.t 37) (.call 56 [.t 36]),nn (.t 38) (.app
  (some .u8) 1 1 (.t 33) (.t 37)),ma 3 38]).seq (((PC.reg [nn (.t 39) (.fadr 2 2 (.v 1)),nn (.t 40) (.load 1 false (.t 39)),nn (.t 41) (.bin .eql
  (.t 40) (.c (.v (.int .i64 2))))]).seq (PC.cond (.t 41) (PC.reg [nn (.t 42) (.mv true (.v 3)),nn (.t 43) (.fadr 6 6 (.v 1)),nn (.t 44) (.load 1
  false (.t 43)),nn (.t 45) (.s2b false (.t 44)),nn (.t 46) (.call 56 [.t 45]),nn (.t 47) (.app (some .u8) 1 1 (.t 42) (.t 46)),ma 3 47])
  PC.skip)).seq ((PC.reg [nn (.t 48) (.mv true (.v 3)),ma 2 48]).seq PC.ret))))))) [(.v 2,none)]
def ZPt:Spec1
 |[x,y],G,Q=>∃(b:List Int) (t:TxS),(byV x=some b∧b.length < 100000000∧y=t.v∧t.key.size < 1000000000∧t.val.size < 1000000000)∧Q (.own (.sli .u8 (if t.may=true then b++t.bytes else b))) G
 |_,_,_=>False
theorem ZPt_eq {x y}:ZPt [x,y] G Q=(∃(b:List Int) (t:TxS),(byV x=some b∧b.length < 100000000∧y=t.v∧t.key.size < 1000000000∧t.val.size < 1000000000)∧Q (.own (.sli .u8 (if t.may=true then b++t.bytes else b))) G):=rfl
def ZBt:Spec1
 |[y],G,Q=>∃(t:TxS),(y=t.v∧t.May)∧Q (.own (.sli .u8 t.bytes)) G
 |_,_,_=>False
theorem ZBt_eq {y}:ZBt [y] G Q=(∃(t:TxS),(y=t.v∧t.May)∧Q (.own (.sli .u8 t.bytes)) G):=rfl
theorem loop83 {QQ:Ex→St→Prop} {x:V} {b:List Int} {fr no ki:Int} {tv:Bx} (hN:Abs.look l 31=some SNu) (hx:byV x=some b) (hb:b.length < 100000000) (h1:0≤fr∧fr≤1099511627776) (h2:0≤no∧no≤1099511627776) (h3:0≤ki∧ki≤1099511627776)
  (h:∀ts v21,QQ (.exit 0) ⟨[some (.own (.sli .u8 (b++num fr.toNat++num no.toNat++num ki.toNat))),none,none,some (.lp 0 []),none,none,none,none,none,none,none,none,none,none,none,none,none,none,some (.own (.sli .i64 [fr,no,ki])),some (.v (.int .i64 3)),some (.v (.int .i64 3)),v21,none,none,none,none,none,none,none,none,none],ts,[tv],G⟩):WL (W E (specOf l) lp83_0) [0,3,18,19,20] QQ 4 ⟨[some (.v x),none,none,some (.lp 0 []),none,none,none,none,none,none,none,none,none,none,none,none,none,none,some (.own (.sli .i64 [fr,no,ki])),some (.v (.int .i64 3)),some (.v (.int .i64 0)),none,none,none,none,none,none,none,none,none,none],[],[tv],G⟩:=by
 have u1:IntKind.u64.wrap fr=fr:=u64_of (by omega) (by omega)
 have u2:IntKind.u64.wrap no=no:=u64_of (by omega) (by omega)
 have u3:IntKind.u64.wrap ki=ki:=u64_of (by omega) (by omega)
 obtain⟨_,l1⟩:=num_ok (n:=fr.toNat) (by omega)
 obtain⟨_,l2⟩:=num_ok (n:=no.toNat) (by omega)
 obtain⟨_,l3⟩:=num_ok (n:=ki.toNat) (by omega)
 have i1:IntKind.i64.wrap 1=1:=by decide
 have i2:IntKind.i64.wrap 2=2:=by decide
 have i3:IntKind.i64.wrap 3=3:=by decide
 refine WL_in lp83_0.eq_1 ?_
 simp -implicitDefEqProofs only[hN,SNu_eq,u1,i1,go_sem,↓reduceIte]
 refine⟨b,⟨hx,by omega,by omega,by omega⟩,?_⟩
 refine WL_in lp83_0.eq_1 ?_
 simp -implicitDefEqProofs only[hN,SNu_eq,u2,i2,go_sem,↓reduceIte]
 refine⟨b++num fr.toNat,⟨rfl,by rw[List.length_append];omega,by omega,by omega⟩,?_⟩
 refine WL_in lp83_0.eq_1 ?_
 simp -implicitDefEqProofs only[hN,SNu_eq,u3,i3,go_sem,↓reduceIte]
 refine⟨b++num fr.toNat++num no.toNat,⟨rfl,by rw[List.length_append,List.length_append];omega,by omega,by omega⟩,?_⟩
 refine WL_in lp83_0.eq_1 ?_
 simp -implicitDefEqProofs only[go_sem,↓reduceIte]
 exact h _ _
theorem walk83 {x:V} {b:List Int} {t:TxS} (hC:Abs.look l 116=some ZTc) (hN:Abs.look l 31=some SNu) (hT:Abs.look l 86=some ZTt) (hK:Abs.look l 79=some SCl)
  (hx:byV x=some b) (hb:b.length < 100000000) (hk:t.key.size < 1000000000) (hv:t.val.size < 1000000000) (h:Q (.own (.sli .u8 (if t.may=true then b++t.bytes else b))) G):Wf E (specOf l) pf83 [x,t.v] G Q:=by
 obtain⟨fr,no,ki,to,am,key,val⟩:=t
 dsimp only at hk hv
 by_cases hm:TxS.may ⟨fr,no,ki,to,am,key,val⟩=true
 ·rw[if_pos hm]at h
  have hM:TxS.May ⟨fr,no,ki,to,am,key,val⟩:=of_decide_eq_true hm
  obtain⟨⟨a1,a2⟩,⟨b1,b2⟩,hM⟩:=hM
  dsimp only at a1 a2 b1 b2 hM
  unfold TxS.bytes at h
  dsimp only at h
  simp -implicitDefEqProofs only[pf83,TxS.v,hC,ZTc_eq,go_sem,↓reduceIte]
  refine⟨⟨fr,no,ki,to,am,key,val⟩,⟨rfl,hk,hv⟩,?_⟩
  rw[if_pos hm]
  simp -implicitDefEqProofs only[go_sem,↓reduceIte]
  refine⟨4,?_⟩
  simp -implicitDefEqProofs only[go_sem,↓reduceIte]
  have kk:0≤ki∧ki≤3:=by omega
  obtain⟨_,l1⟩:=num_ok (n:=fr.toNat) (by omega)
  obtain⟨_,l2⟩:=num_ok (n:=no.toNat) (by omega)
  obtain⟨_,l3⟩:=num_ok (n:=ki.toNat) (by omega)
  have L3:(b++num fr.toNat++num no.toNat++num ki.toNat).length < 900000000:=by simp only[List.length_append];omega
  have eB:∀y,b++num fr.toNat++num no.toNat++num ki.toNat++y=b++(num fr.toNat++num no.toNat++num ki.toNat++y):=fun y=>by simp only[List.append_assoc]
  refine loop83 hN hx hb (by omega) (by omega) (by omega) (fun ts v21=> ?_)
  rw[←eB]at h
  generalize b++num fr.toNat++num no.toNat++num ki.toNat=bb at*
  rcases hM with⟨rfl,c,d,rfl,rfl⟩|⟨rfl,rfl,rfl,⟨_,k3,k4⟩,v⟩|⟨rfl,rfl,rfl,⟨_,k3,k4⟩,rfl⟩
  ·have u4:IntKind.u64.wrap to=to:=u64_of (by omega) (by omega)
   have u5:IntKind.u64.wrap am=am:=u64_of (by omega) (by omega)
   obtain⟨_,l4⟩:=num_ok (n:=to.toNat) (by omega)
   simp -implicitDefEqProofs only[hN,SNu_eq,u4,u5,go_sem,↓reduceIte]
   rw[if_pos rfl,←List.append_assoc]at h
   exact⟨bb,⟨rfl,by omega,by omega,by omega⟩,bb++num to.toNat,⟨rfl,by rw[List.length_append];omega,by omega,by omega⟩,h⟩
  ·simp -implicitDefEqProofs only[hT,ZTt_eq,go_sem,↓reduceIte]
   rw[if_neg (by decide),if_pos rfl,←List.append_assoc]at h
   have z:=txt_ok (b:=byS key) byS_byt (by omega)
   exact⟨bb,⟨rfl,by omega,by omega⟩,bb++txt (byS key),⟨rfl,by rw[List.length_append];omega,by rw[byS_len];omega⟩,h⟩
  ·simp -implicitDefEqProofs only[hT,ZTt_eq,go_sem,↓reduceIte]
   rw[if_neg (by decide),if_neg (by decide),List.append_nil]at h
   exact⟨bb,⟨rfl,by omega,by omega⟩,h⟩
 ·rw[if_neg hm]at h
  simp -implicitDefEqProofs only[pf83,TxS.v,hC,ZTc_eq,go_sem,↓reduceIte]
  refine⟨⟨fr,no,ki,to,am,key,val⟩,⟨rfl,hk,hv⟩,?_⟩
  rw[if_neg hm]
  simp -implicitDefEqProofs only[hK,SCl_eq,go_sem,↓reduceIte]
  exact⟨b,⟨hx,by omega⟩,h⟩
theorem walk54 {t:TxS} (hN:Abs.look l 104=some (SRn 10)) (hT:Abs.look l 56=some ZXt) (hM:t.May) (h:Q (.own (.sli .u8 t.bytes)) G):Wf E (specOf l) pf54 [t.v] G Q:=by
 obtain⟨fr,no,ki,to,am,key,val⟩:=t
 obtain⟨⟨a1,a2⟩,⟨b1,b2⟩,hM⟩:=hM
 dsimp only at a1 a2 b1 b2 hM
 unfold TxS.bytes at h
 dsimp only at h
 have kk:0≤ki∧ki≤3:=by omega
 have u1:IntKind.u64.wrap fr=fr:=u64_of (by omega) (by omega)
 have u2:IntKind.u64.wrap no=no:=u64_of (by omega) (by omega)
 have u3:IntKind.u8.wrap ki=ki:=by simp only[IntKind.wrap,IntKind.bits,IntKind.signed];simp;omega
 have p10:∀n:Int,0≤n→n≤1099511627776→n.toNat < 128 ^ 10:=fun n h1 h2=>by
  have:(128:Nat) ^ 10=1180591620717411303424:=by decide
  omega
 have ek:num ki.toNat=[ki]:=by rw[num_small (by omega)];rw[Int.toNat_of_nonneg kk.1]
 obtain⟨_,l1⟩:=num_ok (n:=fr.toNat) (by omega)
 obtain⟨_,l2⟩:=num_ok (n:=no.toNat) (by omega)
 rw[ek]at h
 rcases hM with⟨rfl,c,d,rfl,rfl⟩|⟨rfl,rfl,rfl,⟨_,k3,k4⟩,v⟩|⟨rfl,rfl,rfl,⟨_,k3,k4⟩,rfl⟩
 ·have u4:IntKind.u64.wrap to=to:=u64_of (by omega) (by omega)
  have u5:IntKind.u64.wrap am=am:=u64_of (by omega) (by omega)
  obtain⟨_,l4⟩:=num_ok (n:=to.toNat) (by omega)
  obtain⟨_,l5⟩:=num_ok (n:=am.toNat) (by omega)
  rw[if_pos rfl]at h
  simp -implicitDefEqProofs only[pf54,TxS.v,hN,SRn_eq,u1,u2,u3,u4,u5,go_sem,↓reduceIte]
  have q1:=p10 fr (by omega) (by omega);have q2:=p10 no (by omega) (by omega);have q3:=p10 to (by omega) (by omega);have q4:=p10 am (by omega) (by omega)
  rw[←List.append_assoc]at h
  exact⟨⟨by omega,q1,by omega⟩,⟨by omega,q2,by omega⟩,by omega,by omega,⟨by omega,q3,by omega⟩,by omega,⟨by omega,q4,by omega⟩,by omega,h⟩
 ·rw[if_neg (by decide),if_pos rfl]at h
  simp -implicitDefEqProofs only[pf54,TxS.v,hN,SRn_eq,u1,u2,u3,hT,ZXt_eq,go_sem,↓reduceIte]
  have q1:=p10 fr (by omega) (by omega);have q2:=p10 no (by omega) (by omega)
  have z1:=(txt_ok (b:=byS key) byS_byt (by omega)).2
  have z2:=(txt_ok (b:=byS val) byS_byt (by rw[byS_len];omega)).2
  rw[byS_len]at z2
  rw[←List.append_assoc]at h
  exact⟨⟨by omega,q1,by omega⟩,⟨by omega,q2,by omega⟩,by omega,by omega,by omega,by omega,by rw[byS_len];omega,by omega,h⟩
 ·rw[if_neg (by decide),if_neg (by decide),List.append_nil]at h
  simp -implicitDefEqProofs only[pf54,TxS.v,hN,SRn_eq,u1,u2,u3,hT,ZXt_eq,go_sem,↓reduceIte]
  have q1:=p10 fr (by omega) (by omega);have q2:=p10 no (by omega) (by omega)
  have z1:=(txt_ok (b:=byS key) byS_byt (by omega)).2
  exact⟨⟨by omega,q1,by omega⟩,⟨by omega,q2,by omega⟩,by omega,by omega,by omega,by omega,h⟩
def pf99:PF:=
 PF.mk 1 14 47 ((PC.reg [nn (.v 2) (.alloc (.agg [.int .i64 0,.int .i64 0,.int .i64 0,.int .i64 0,.int .i64 0,.str ⟨⟨[]⟩⟩,.str ⟨⟨[]⟩⟩])),nn (.v
  3) (.mv true (.c (.v (.bool false))))]).seq ((PC.reg [nn (.v 5) (.mv false (.v 0)),nn (.v 6) (.call 48 [.v 5,.c (.v (.int .i64 40))]),nn (.v 7)
  (.mv false (.v 0)),nn (.v 8) (.call 48 [.v 7,.c (.v (.int .i64 1099511627776))]),nn (.v 9) (.mv false (.v 0)),nn (.v 10) (.call 48 [.v 9,.c (.v
  (.int .i64 3))]),nn (.v 11) (.build (.agg [.int .i64 0,.int .i64 0,.int .i64 0,.int .i64 0,.int .i64 0,.str ⟨⟨[]⟩⟩,.str ⟨⟨[]⟩⟩]) [(0,.v 6),
  (1,.v 8),(2,.v 10)]),nn (.v 4) (.alloc (.agg [.int .i64 0,.int .i64 0,.int .i64 0,.int .i64 0,.int .i64 0,.str ⟨⟨[]⟩⟩,.str ⟨⟨[]⟩⟩])),nn
  .no (.store 7 (.v 4) (.v 11))]).seq (((PC.reg [nn (.v 12) (.fadr 2 2 (.v 4)),nn (.v 13) (.load 1 false (.v 12))]).seq (PC.block 0 ((PC.reg [nn (.t
  15) (.bin .eql (.v 13) (.c (.v (.int .i64 1)))),nn (.t 14) (.mv true (.t 15))]).seq (PC.cond (.t 14) (PC.reg [mm 16 0,nn (.t 17) (.call 48 [.t 16,
  .c (.v (.int .i64 40))]),mm 18 0,nn (.t 19) (.call 48 [.t 18,.c (.v (.int .i64 1099511627776))]),nn (.t 20) (.fadr 3 3 (.v 4)),nn .no (.store 1
  (.t 20) (.t 17)),nn (.t 21) (.fadr 4 4 (.v 4)),nn .no (.store 1 (.t 21) (.t 19))]) ((PC.reg [nn (.t 23) (.bin .eql (.v 13) (.c (.v (.int .i64
  2)))),nn (.t 22) (.mv true (.t 23))]).seq (PC.cond (.t 22) (PC.regW 0 [(0,mm 24 0),(3,mm 27 0),(1,nn (.t 25) (.callW 101 [.t 24])),(2,nn (.t
  26) (.s2b true (.t 25))),(6,nn (.t 30) (.fadr 5 5 (.v 4))),(4,nn (.t 28) (.callW 101 [.t 27])),(5,nn (.t 29) (.s2b true (.t 28))),(7,nn .no
  (.store 1 (.t 30) (.t 26))),(8,nn (.t 31) (.fadr 6 6 (.v 4))),(9,nn .no (.store 1 (.t 31) (.t 29)))] []) ((PC.reg [nn (.t 33) (.bin .eql (.v 13)
  (.c (.v (.int .i64 3)))),nn (.t 32) (.mv true (.t 33))]).seq (PC.cond (.t 32) (PC.reg [mm 34 0,nn (.t 35) (.call 101 [.t 34]),nn (.t 36) (.s2b
  true (.t 35)),nn (.t 37) (.fadr 5 5 (.v 4)),nn .no (.store 1 (.t 37) (.t 36))]) PC.skip)))))))).seq (((PC.reg [mm 38 0,nn (.t 39) (.call 121 [.t
  38]),nn (.t 40) (.mv false (.t 39)),⟨.t 41,.load 7 true (.v 4),some (.t 40,false)⟩,⟨.t 42,.call 116 [.t 41],some (.t 40,false)⟩,⟨.t 43,
  .bin .neq (.t 42) (.c (.v (.int .i64 0))),some (.t 40,false)⟩,nn (.t 44) (.pick (.t 40) (.c (.v (.bool true))) (.t 43))]).seq (PC.cond (.t 44)
  ((PC.reg [nn (.t 45) (.build (.agg [.int .i64 0,.int .i64 0,.int .i64 0,.int .i64 0,.int .i64 0,.str ⟨⟨[]⟩⟩,.str ⟨⟨[]⟩⟩]) []),nn .no (.store 7
  (.v 2) (.t 45)),nn (.v 3) (.mv true (.c (.v (.bool false))))]).seq PC.ret) PC.skip)).seq ((PC.reg [nn (.t 46) (.load 7 true (.v 4)),nn .no (.store
  7 (.v 2) (.t 46)),nn (.v 3) (.mv true (.c (.v (.bool true))))]).seq PC.ret))))) [(.v 2,some (7,true)),(.v 3,none)]
def ZQt:Spec1
 |[.ptr id],G,Q=>∃b w t r w2,(Abs.look G id=some (.agg [.sli .u8 b,.bool w])∧Byt b∧b.length < 100000000∧rdTx (b,w)=(t,r,w2))∧Q (.tup [(txR t w2).v,.bool (!w2&&t.may)]) (Abs.upd G id (.agg [.sli .u8 r,.bool w2]))
 |_,_,_=>False
theorem ZQt_eq {id}:ZQt [.ptr id] G Q=(∃b w t r w2,(Abs.look G id=some (.agg [.sli .u8 b,.bool w])∧Byt b∧b.length < 100000000∧rdTx (b,w)=(t,r,w2))∧Q (.tup [(txR t w2).v,.bool (!w2&&t.may)]) (Abs.upd G id (.agg [.sli .u8 r,.bool w2]))):=rfl
theorem txV_str {t:List Int} {w:Bool} (h:w=true→t=[]):bsV true (some (txV t w))=some (.str (stS t)):=by
 unfold txV;cases w with
 |true=>rw[h rfl];rfl
 |false=>rfl
theorem rdText_no {b t r:List Int} {w w2:Bool} (h:rdText (b,w)=(t,r,w2)) (hw:w2=true):t=[]:=by
 unfold rdText at h;subst hw
 split at h
 ·cases h;rfl
 ·split at h
  ·cases h;rfl
  ·cases h
theorem txR_no {t:TxS} {w:Bool} (h:w=true∨t.may=false):txR t w= .zero∧(!w&&t.may)=false:=by
 unfold txR;rcases h with rfl|h
 ·exact⟨rfl,rfl⟩
 ·rw[h];cases w<;>exact⟨rfl,rfl⟩
theorem walk99 {id:Nat} {b r:List Int} {t:TxS} {w w2:Bool} (hU:Abs.look l 48=some SUp) (hT:Abs.look l 101=some ZTr) (hO:Abs.look l 121=some SOff) (hC:Abs.look l 116=some ZTc)
  (hG:Abs.look G id=some (.agg [.sli .u8 b,.bool w])) (hb:Byt b) (hl:b.length < 100000000) (he:rdTx (b,w)=(t,r,w2))
  (h:Q (.tup [(txR t w2).v,.bool (!w2&&t.may)]) (Abs.upd G id (.agg [.sli .u8 r,.bool w2]))):Wf E (specOf l) pf99 [.ptr id] G Q:=by
 have ok:=rdTx_all he hb
 rcases e1:rdUpto 40 (b,w)with⟨n1,r1,w1⟩
 rcases e2:rdUpto 1099511627776 (r1,w1)with⟨n2,r2,w2'⟩
 rcases e3:rdUpto 3 (r2,w2')with⟨n3,r3,w3⟩
 obtain⟨z11,z12,_,_,_,_⟩:=rdUpto_all e1 hb (by omega)
 obtain⟨z21,z22,_,_,_,_⟩:=rdUpto_all e2 z11 (by omega)
 obtain⟨z31,z32,z33,z34,_,_⟩:=rdUpto_all e3 z21 (by omega)
 have g:∀x,Abs.look (Abs.upd G id x) id=some x:=fun x=>look_upd_same hG
 have okk:=ok.key;have okv:=ok.val
 unfold rdTx at he
 simp only[e1,e2,e3]at he
 have fin1:t.may=true→w2=false→Q (.tup [t.v,.bool true]) (Abs.upd G id (.agg [.sli .u8 r,.bool w2])):=fun h1 h2=>by
  subst h2;unfold txR at h;rw[h1]at h;exact h
 have finw:w2=true→Q (.tup [TxS.zero.v,.bool false]) (Abs.upd G id (.agg [.sli .u8 r,.bool w2])):=fun h2=>by
  obtain⟨h3,h4⟩:=txR_no (t:=t) (w:=w2) (.inl h2)
  rw[h3,h4]at h;exact h
 have fin0:t.may=false→Q (.tup [TxS.zero.v,.bool false]) (Abs.upd G id (.agg [.sli .u8 r,.bool w2])):=fun h2=>by
  obtain⟨h3,h4⟩:=txR_no (t:=t) (w:=w2) (.inr h2)
  rw[h3,h4]at h;exact h
 have ifm:∀{t:TxS},¬(if t.may=true then (0:Int)else 1)=0→t.may=false:=fun {t} hh=>by cases hq:t.may with
  |false=>rfl
  |true=>rw[hq]at hh;exact absurd rfl hh
 have ift:∀{t:TxS},(if t.may=true then (0:Int)else 1)=0→t.may=true:=fun {t} hh=>by cases hq:t.may with
  |true=>rfl
  |false=>rw[hq]at hh;exact absurd hh (by decide)
 clear h
 simp -implicitDefEqProofs only[pf99,hU,SUp_eq,hT,ZTr_eq,g,hO,SOff_eq,hC,ZTc_eq,upd_upd,go_sem,↓reduceIte]
 refine⟨b,w,n1,r1,w1,⟨hG,hb,by omega,e1⟩,r1,w1,n2,r2,w2',⟨rfl,z11,by omega,e2⟩,r2,w2',n3,r3,w3,⟨rfl,z21,by omega,e3⟩,fun c1=> ?_,fun c1=>⟨fun c2=> ?_,fun c2=>⟨fun c3=> ?_,fun c3=> ?_⟩⟩⟩
 ·rcases e4:rdUpto 40 (r3,w3)with⟨n4,r4,w4⟩
  rcases e5:rdUpto 1099511627776 (r4,w4)with⟨n5,r5,w5⟩
  obtain⟨z41,z42,_,_,_,_⟩:=rdUpto_all e4 z31 (by omega)
  obtain⟨z51,z52,_,_,_,_⟩:=rdUpto_all e5 z41 (by omega)
  rw[if_pos c1]at he;simp only[e4,e5]at he;cases he
  refine⟨r3,w3,n4,r4,w4,⟨rfl,z31,by omega,e4⟩,r4,w4,n5,r,w2,⟨rfl,z41,by omega,e5⟩,?_⟩
  exact⟨_,_,rfl,fun hw=>finw hw,fun hw=>⟨⟨n1,n2,n3,n4,n5,nos,nos⟩,⟨rfl,by omega,by omega⟩,fun hm=>fin0 (ifm hm),fun hm=>fin1 (ift hm) hw⟩⟩
 ·rw[if_neg c1,if_pos c2]at he
  rcases e4:rdText (r3,w3)with⟨n4,r4,w4⟩
  rcases e5:rdText (r4,w4)with⟨n5,r5,w5⟩
  obtain⟨z41,z42,_⟩:=rdText_all e4 z31
  obtain⟨z51,z52,_⟩:=rdText_all e5 z41
  simp only[e4,e5]at he;cases he
  refine⟨r3,w3,n4,r4,w4,⟨rfl,z31,by omega,e4⟩,?_⟩
  simp -implicitDefEqProofs only[txV_str (rdText_no e4),hT,ZTr_eq,g,hO,SOff_eq,hC,ZTc_eq,upd_upd,go_sem,↓reduceIte]
  refine⟨r4,w4,n5,r,w2,⟨rfl,z41,by omega,e5⟩,?_⟩
  simp -implicitDefEqProofs only[txV_str (rdText_no e5),g,hO,SOff_eq,hC,ZTc_eq,upd_upd,go_sem,↓reduceIte]
  exact⟨_,_,rfl,fun hw=>finw hw,fun hw=>⟨⟨n1,n2,n3,0,0,stS n4,stS n5⟩,⟨rfl,by omega,by omega⟩,fun hm=>fin0 (ifm hm),fun hm=>fin1 (ift hm) hw⟩⟩
 ·rw[if_neg c1,if_neg c2,if_pos c3]at he
  rcases e4:rdText (r3,w3)with⟨n4,r4,w4⟩
  obtain⟨z41,z42,_⟩:=rdText_all e4 z31
  simp only[e4]at he;cases he
  refine⟨r3,w3,n4,r,w2,⟨rfl,z31,by omega,e4⟩,?_⟩
  simp -implicitDefEqProofs only[txV_str (rdText_no e4),g,hO,SOff_eq,hC,ZTc_eq,upd_upd,go_sem,↓reduceIte]
  exact⟨_,_,rfl,fun hw=>finw hw,fun hw=>⟨⟨n1,n2,n3,0,0,stS n4,nos⟩,⟨rfl,by omega,by omega⟩,fun hm=>fin0 (ifm hm),fun hm=>fin1 (ift hm) hw⟩⟩
 ·rw[if_neg c1,if_neg c2,if_neg c3]at he
  cases he
  exact⟨_,_,rfl,fun hw=>finw hw,fun hw=>⟨⟨n1,n2,n3,0,0,nos,nos⟩,⟨rfl,by omega,by omega⟩,fun hm=>fin0 (ifm hm),fun hm=>fin1 (ift hm) hw⟩⟩
end Go.Proofs.Ytegamlopcdjiaaa.Sha
