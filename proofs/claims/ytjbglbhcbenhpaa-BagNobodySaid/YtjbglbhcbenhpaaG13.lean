/- Laws over plain values, and what functions of the program hand back; no conditions. -/
import Derived.Test.YtjbglbhcbenhpaaWBag3
namespace Go.Proofs.Ytjbglbhcbenhpaa.Sha
open Go Go.Abs Go.Abs.Sha Go.Abs.Srt
set_option linter.unusedSimpArgs false
set_option linter.unusedVariables false
set_option maxRecDepth 100000
def lp12_0:PC:=
 ((PC.reg [mm 11 7,mm 12 1,nn (.t 13) (.len (.t 12)),nn (.t 14) (.bin .lss (.t 11) (.t 13))]).seq (PC.cond (.t 14) PC.skip (PC.exit 0))).seq
  ((PC.block 1 ((PC.reg [mm 17 1,mm 18 7,nn (.t 19) (.iadrS 349 (.t 17) (.t 18)),nn (.t 20) (.load 349 true (.t 19)),nn (.t 21) (.call 23 [.t 20]),
  nn (.t 22) (.mv false (.t 21)),gm 23 6 22 true,⟨.t 24,.len (.t 23),some (.t 22,true)⟩,⟨.t 25,.bin .lss (.t 24) (.c (.v (.int .i64 400))),some
  (.t 22,true)⟩,nn (.t 26) (.pick (.t 22) (.t 25) (.c (.v (.bool false))))]).seq (PC.cond (.t 26) (PC.reg [nn (.t 27) (.mv true (.v 6)),mm 28 1,mm
  29 7,nn (.t 30) (.iadrS 349 (.t 28) (.t 29)),nn (.t 31) (.load 349 true (.t 30)),nn (.t 32) (.buildS none 349 (.agg [.int .i64 0,.int .i64 0,
  .int .i64 0,.agg [.int .i64 0,.int .i64 0,.int .i64 0,.int .i64 0,.arr .u8 32 [0,0,0,0,0,0,0,0,0,0,0,0,0,0,0,0,0,0,0,0,0,0,
  0,0,0,0,0,0,0,0,0,0],.int .i64 0,.arr .u8 32 [0,0,0,0,0,0,0,0,0,0,0,0,0,0,0,0,0,0,0,0,0,0,0,0,0,0,0,0,0,0,0,
  0],.arr .u8 32 zz2],.agg [.agg [.int .i64 0,.int .i64
  0,.int .i64 0,.int .i64 0,.arr .u8 32 zz2,.int .i64
  0,.arr .u8 32 zz2,.arr .u8 32 [0,0,0,0,0,0,0,0,
  0,0,0,0,0,0,0,0,0,0,0,0,0,0,0,0,0,0,0,0,0,0,0,0]],.nils],.agg [.int .i64 0,.int .i64 0,.int .i64 0,.arr .u8 32 [0,0,0,
  0,0,0,0,0,0,0,0,0,0,0,0,0,0,0,0,0,0,0,0,0,0,0,0,0,0,0,0,0],.nils,.arr .u8 32 [0,0,0,0,0,0,0,0,0,0,0,0,0,0,
  0,0,0,0,0,0,0,0,0,0,0,0,0,0,0,0,0,0]],.agg [.arr .u8 32 [0,0,0,0,0,0,0,0,0,0,0,0,0,0,0,0,0,0,0,0,0,0,0,0,0,
  0,0,0,0,0,0,0],.int .i64 0,.int .i64 0,.int .i64 0,.nils],.arr .u8 32 [0,0,0,0,0,0,0,0,0,0,0,0,0,0,0,0,0,0,0,0,0,0,
  0,0,0,0,0,0,0,0,0,0],.agg [.int .i64 0,.int .i64 0,.int .i64 0,.int .i64 0,.int .i64 0,.str ⟨⟨[]⟩⟩,.str ⟨⟨[]⟩⟩]]) 1 [(0,.t 31)]),nn
  (.t 33) (.app none 349 616 (.t 27) (.t 32)),ma 6 33]) PC.skip))).seq (PC.reg [mm 15 7,nn (.t 16) (.bin .add (.t 15) (.c (.v (.int .i64 1)))),ma 7
  16]))
def pf12:PF:=
 PF.mk 2 8 40 ((PC.reg [nn (.v 4) (.mv true (.c (.own .nils))),nn (.v 5) (.mv true (.c (.v (.int .i64 0))))]).seq ((PC.reg [nn (.t 8) (.buildS none 349
  (.agg [.int .i64 0,.int .i64 0,.int .i64 0,.agg [.int .i64 0,.int .i64 0,.int .i64 0,.int .i64 0,.arr .u8 32 [0,0,0,0,0,0,0,0,0,0,0,
  0,0,0,0,0,0,0,0,0,0,0,0,0,0,0,0,0,0,0,0,0],.int .i64 0,.arr .u8 32 [0,0,0,0,0,0,0,0,0,0,0,0,0,0,0,0,0,0,0,0,
  0,0,0,0,0,0,0,0,0,0,0,0],.arr .u8 32 zz2],
  .agg [.agg [.int .i64 0,.int .i64 0,.int .i64 0,.int .i64 0,.arr .u8 32 [0,0,0,0,0,0,0,0,0,0,0,0,0,0,0,0,0,0,0,0,0,0,0,0,
  0,0,0,0,0,0,0,0],.int .i64 0,.arr .u8 32 zz2,
  .arr .u8 32 zz2],.nils],.agg [.int .i64 0,.int .i64
  0,.int .i64 0,.arr .u8 32 zz2,.nils,.arr .u8 32 [0,
  0,0,0,0,0,0,0,0,0,0,0,0,0,0,0,0,0,0,0,0,0,0,0,0,0,0,0,0,0,0,0]],.agg [.arr .u8 32 [0,0,0,0,0,0,0,0,0,0,0,0,
  0,0,0,0,0,0,0,0,0,0,0,0,0,0,0,0,0,0,0,0],.int .i64 0,.int .i64 0,.int .i64 0,.nils],.arr .u8 32 [0,0,0,0,0,0,0,0,0,
  0,0,0,0,0,0,0,0,0,0,0,0,0,0,0,0,0,0,0,0,0,0,0],.agg [.int .i64 0,.int .i64 0,.int .i64 0,.int .i64 0,.int .i64 0,.str
  ⟨⟨[]⟩⟩,.str ⟨⟨[]⟩⟩]]) 0 []),mm 9 0,nn (.t 10) (.app none 349 616 (.t 8) (.t 9)),ma 6 10]).seq (((PC.reg [nn (.v 7) (.mv true (.c (.v (.int .i64
  0))))]).seq (PC.block 0 (PC.loop [0,1,6,7] lp12_0))).seq ((PC.reg [mm 34 6,mm 35 6,nn (.t 36) (.len (.t 35)),mm 37 0,nn (.t 38) (.len (.t
  37)),nn (.t 39) (.bin .sub (.t 36) (.t 38)),ma 4 34,ma 5 39]).seq PC.ret)))) [(.v 4,none),(.v 5,none)]
def pf16:PF:=
 PF.mk 2 5 15 ((PC.reg [nn (.v 4) (.mv true (.c (.own .nils)))]).seq ((PC.regD 0 [nn (.t 5) (.buildS none 349 (.agg [.int .i64 0,.int .i64 0,.int .i64
  0,.agg [.int .i64 0,.int .i64 0,.int .i64 0,.int .i64 0,.arr .u8 32 [0,0,0,0,0,0,0,0,0,0,0,0,0,0,0,0,0,0,0,0,0,0,0,0,0,
  0,0,0,0,0,0,0],.int .i64 0,.arr .u8 32 zz2,.arr
  .u8 32 zz2],.agg [.agg [.int .i64 0,.int .i64 0,.int
  .i64 0,.int .i64 0,.arr .u8 32 zz2,.int .i64 0,.arr
  .u8 32 zz2,.arr .u8 32 [0,0,0,0,0,0,0,0,0,0,
  0,0,0,0,0,0,0,0,0,0,0,0,0,0,0,0,0,0,0,0,0,0]],.nils],.agg [.int .i64 0,.int .i64 0,.int .i64 0,.arr .u8 32 [0,0,0,0,0,
  0,0,0,0,0,0,0,0,0,0,0,0,0,0,0,0,0,0,0,0,0,0,0,0,0,0,0],.nils,.arr .u8 32 [0,0,0,0,0,0,0,0,0,0,0,0,0,0,0,0,
  0,0,0,0,0,0,0,0,0,0,0,0,0,0,0,0]],.agg [.arr .u8 32 [0,0,0,0,0,0,0,0,0,0,0,0,0,0,0,0,0,0,0,0,0,0,0,0,0,0,0,
  0,0,0,0,0],.int .i64 0,.int .i64 0,.int .i64 0,.nils],.arr .u8 32 [0,0,0,0,0,0,0,0,0,0,0,0,0,0,0,0,0,0,0,0,0,0,0,0,
  0,0,0,0,0,0,0,0],.agg [.int .i64 0,.int .i64 0,.int .i64 0,.int .i64 0,.int .i64 0,.str ⟨⟨[]⟩⟩,.str ⟨⟨[]⟩⟩]]) 0 []),mm 6 0,mm 7 1,nn
  (.t 8) (.slcS 349 (.t 6) none (some (.t 7)) none),nn (.t 9) (.app none 349 616 (.t 5) (.t 8)),mm 10 0,mm 11 1,nn (.t 12) (.bin .add (.t 11) (.c
  (.v (.int .i64 1)))),nn (.t 13) (.slcS 349 (.t 10) (some (.t 12)) none none),nn (.t 14) (.app none 349 616 (.t 9) (.t 13)),ma 4 14] []).seq
  PC.ret)) [(.v 4,none)]
def lp19_0:PC:=
 ((PC.reg [mm 11 5,mm 12 0,nn (.t 13) (.len (.t 12)),nn (.t 14) (.bin .lss (.t 11) (.t 13))]).seq (PC.cond (.t 14) PC.skip (PC.exit 0))).seq
  ((PC.block 1 ((PC.regD 0 [mm 17 0,mm 18 5,nn (.t 19) (.iadrS 349 (.t 17) (.t 18)),nn (.t 20) (.load 349 true (.t 19)),mm 21 1,mm 22 5,nn (.t
  23) (.iadrS 349 (.t 21) (.t 22)),nn (.t 24) (.load 349 true (.t 23)),nn (.t 25) (.call 15 [.t 20,.t 24]),nn (.t 26) (.un .not (.t 25))] []).seq
  (PC.cond (.t 26) ((PC.reg [nn (.v 4) (.mv true (.c (.v (.bool false))))]).seq PC.ret) PC.skip))).seq (PC.reg [mm 15 5,nn (.t 16) (.bin .add (.t 15)
  (.c (.v (.int .i64 1)))),ma 5 16]))
def pf19:PF:=
 PF.mk 2 6 27 ((PC.reg [nn (.v 4) (.mv true (.c (.v (.bool false))))]).seq (((PC.reg [mm 6 0,nn (.t 7) (.len (.t 6)),mm 8 1,nn (.t 9) (.len (.t 8)),
  nn (.t 10) (.bin .neq (.t 7) (.t 9))]).seq (PC.cond (.t 10) ((PC.reg [nn (.v 4) (.mv true (.c (.v (.bool false))))]).seq PC.ret) PC.skip)).seq
  (((PC.reg [nn (.v 5) (.mv true (.c (.v (.int .i64 0))))]).seq (PC.block 0 (PC.loop [0,1,5] lp19_0))).seq ((PC.reg [nn (.v 4) (.mv true (.c (.v
  (.bool true))))]).seq PC.ret)))) [(.v 4,none)]
attribute [local irreducible] W Wops WopsD WL Wop WopD
variable {E:Env} {C:Abs.Spec} {l:List (Nat×Spec1)} {G:List (Nat×V)} {Q:R→List (Nat×V)→Prop}
set_option maxHeartbeats 1000000
theorem putB_len:∀(l r:List MsgS),((putB l r).1.length:Int)=l.length+(putB l r).2∧0≤(putB l r).2∧(putB l r).2≤r.length∧(l.length≤400→(putB l r).1.length≤400)
 |l,[]=>by simp[putB]
 |l,m::r=>by
  unfold putB
  split
  ·rename_i h
   obtain⟨h1,h2,h3,h4⟩:=putB_len (l++[m]) r
   rw[List.length_append,List.length_singleton]at h1 h4
   simp only[List.length_cons]
   exact⟨by omega,by omega,by omega,fun _=>h4 (by omega)⟩
  ·obtain⟨h1,h2,h3,h4⟩:=putB_len l r
   simp only[List.length_cons]
   exact⟨h1,h2,by omega,h4⟩
def ZRp:Spec1
 |[x,y],G,Q=>∃l ms:List MsgS,(x= .sle 349 (l.map MsgS.v)∧y= .sle 349 (ms.map MsgS.v)∧(∀m∈ms,m.ok)∧ms.length < 1000000∧l.length≤400)∧Q (.tup [.sle 349 ((putB l ms).1.map MsgS.v),.int .i64 (putB l ms).2]) G
 |_,_,_=>False
theorem ZRp_eq {x y}:ZRp [x,y] G Q=(∃l ms:List MsgS,(x= .sle 349 (l.map MsgS.v)∧y= .sle 349 (ms.map MsgS.v)∧(∀m∈ms,m.ok)∧ms.length < 1000000∧l.length≤400)∧Q (.tup [.sle 349 ((putB l ms).1.map MsgS.v),.int .i64 (putB l ms).2]) G):=rfl
theorem loop12 (hM:Abs.look l 23=some ZYm) {QQ:Ex→St→Prop} {x:V} {ms:List MsgS} (hok:∀m∈ms,m.ok) (hl:ms.length < 1000000):
  ∀(r:List MsgS) (j:Nat) (l2:List MsgS),ms.drop j=r→j≤ms.length→l2.length≤400→
   (∀ts,QQ (.exit 0) ⟨[some (.v x),some (.v (.sle 349 (ms.map MsgS.v))),none,none,none,none,some (.own (.sle 349 ((putB l2 r).1.map MsgS.v))),some (.v (.int .i64 (ms.length:Nat)))],ts,[],G⟩)→
   WL (W E (specOf l) lp12_0) [0,1,6,7] QQ (r.length+1) ⟨[some (.v x),some (.v (.sle 349 (ms.map MsgS.v))),none,none,none,none,some (.own (.sle 349 (l2.map MsgS.v))),some (.v (.int .i64 (j:Nat)))],[],[],G⟩:=by
 intro r
 induction r with
 |nil=>
  intro j l2 hd hj hl4 hx
  have:=drop_none hd
  have c1:¬(j:Int) < (ms.length:Int):=by omega
  obtain rfl:j=ms.length:=by omega
  refine WL_in lp12_0.eq_1 ?_
  simp -implicitDefEqProofs only[c1,List.length_map,go_sem,↓reduceIte]
  exact hx _
 |cons p r ih=>
  intro j l2 hd hj hl4 hx
  obtain⟨hd2,hj2,hlen⟩:=drop_one hd
  have g:=getD_ms hd
  have c1:(j:Int) < (ms.length:Int):=by omega
  have c2:(0:Int)≤(j:Int):=by omega
  have w1:IntKind.i64.wrap ((j:Int)+1)=((j+1:Nat):Int):=wc (by omega) (by omega)
  obtain⟨z1,z2⟩:=MsgS.vs p
  unfold V.isAgg at z2
  have pok:p.ok:=hok p (List.mem_of_mem_drop (by rw[hd];exact List.mem_cons_self ..))
  have sm:V.same p.v (.agg [.int .i64 0,.int .i64 0,.int .i64 0,.agg [.int .i64 0,.int .i64 0,.int .i64 0,.int .i64 0,.arr .u8 32 zz2,.int .i64 0,.arr .u8 32 zz2,.arr .u8 32 zz2],.agg [.agg [.int .i64 0,.int .i64 0,.int .i64 0,.int .i64 0,.arr .u8 32 zz2,.int .i64 0,.arr .u8 32 zz2,.arr .u8 32 zz2],.nils],.agg [.int .i64 0,.int .i64 0,.int .i64 0,.arr .u8 32 zz2,.nils,.arr .u8 32 zz2],.agg [.arr .u8 32 zz2,.int .i64 0,.int .i64 0,.int .i64 0,.nils],.arr .u8 32 zz2,.agg [.int .i64 0,.int .i64 0,.int .i64 0,.int .i64 0,.int .i64 0,.str ⟨⟨[]⟩⟩,.str ⟨⟨[]⟩⟩]])=true:=rfl
  have skip:¬(l2.length < 400∧p.may=true)→putB l2 (p::r)=putB l2 r:=fun e=>by rw[putB,if_neg e]
  refine WL_in lp12_0.eq_1 ?_
  simp -implicitDefEqProofs only[c1,c2,g,w1,z1,z2,sm,Int.toNat_natCast,List.length_map,hM,ZYm_eq,go_sem,↓reduceIte]
  refine⟨p,⟨V.Wk.refl _,pok⟩,fun e5=>⟨fun e4=>⟨by omega,?_⟩,fun e4=> ?_⟩,fun e5=> ?_⟩
  ·have e:putB l2 (p::r)=((putB (l2++[p]) r).1,(putB (l2++[p]) r).2+1):=by rw[putB,if_pos ⟨by omega,e5⟩]
   rw[e]at hx
   have:=ih (j+1) (l2++[p]) hd2 (by omega) (by rw[List.length_append,List.length_singleton];omega) hx
   rw[List.map_append]at this
   exact this
  ·rw[skip (fun h=>by omega)]at hx
   exact ih (j+1) l2 hd2 (by omega) hl4 hx
  ·rw[skip (fun h=>by rw[h.2]at e5;cases e5)]at hx
   exact ih (j+1) l2 hd2 (by omega) hl4 hx
theorem walk12 (hM:Abs.look l 23=some ZYm) {l2 ms:List MsgS} (hok:∀m∈ms,m.ok) (hl:ms.length < 1000000) (hl4:l2.length≤400)
  (h:Q (.tup [.sle 349 ((putB l2 ms).1.map MsgS.v),.int .i64 (putB l2 ms).2]) G):Wf E (specOf l) pf12 [.sle 349 (l2.map MsgS.v),.sle 349 (ms.map MsgS.v)] G Q:=by
 obtain⟨h1,h2,h3,h4⟩:=putB_len l2 ms
 have h4:=h4 hl4
 have w1:IntKind.i64.wrap (((putB l2 ms).1.length:Int)-(l2.length:Int))=(putB l2 ms).2:=by rw[h1,show (l2.length:Int)+(putB l2 ms).2-l2.length=(putB l2 ms).2 by omega];exact w64 (by omega) (by omega)
 simp -implicitDefEqProofs only[pf12,List.length_map,go_sem,↓reduceIte]
 refine⟨by omega,ms.length+1,?_⟩
 try simp -implicitDefEqProofs only[go_sem,↓reduceIte]
 refine loop12 hM hok hl ms 0 l2 rfl (Nat.zero_le _) hl4 (fun ts=> ?_)
 simp -implicitDefEqProofs only[List.length_map,w1,go_sem,↓reduceIte]
 exact h
def ZRd6:Spec1
 |[x,.int .i64 i],G,Q=>∃(l:List MsgS) (k:Nat),(x= .sle 349 (l.map MsgS.v)∧i=(k:Nat)∧k < l.length∧l.length≤400)∧Q (.own (.sle 349 ((l.eraseIdx k).map MsgS.v))) G
 |_,_,_=>False
theorem ZRd6_eq {x i}:ZRd6 [x,.int .i64 i] G Q=(∃(l:List MsgS) (k:Nat),(x= .sle 349 (l.map MsgS.v)∧i=(k:Nat)∧k < l.length∧l.length≤400)∧Q (.own (.sle 349 ((l.eraseIdx k).map MsgS.v))) G):=rfl
theorem walk16 {l2:List MsgS} {k:Nat} (hk:k < l2.length) (hl4:l2.length≤400) (h:Q (.own (.sle 349 ((l2.eraseIdx k).map MsgS.v))) G):Wf E C pf16 [.sle 349 (l2.map MsgS.v),.int .i64 (k:Nat)] G Q:=by
 have w1:IntKind.i64.wrap ((k:Int)+1)=((k+1:Nat):Int):=wc (by omega) (by omega)
 simp -implicitDefEqProofs only[pf16,List.length_map,w1,go_sem,↓reduceIte]
 have e1:((k:Nat):Int).toNat=k:=by omega
 have e2:((k+1:Nat):Int).toNat=k+1:=by omega
 have e3:((l2.length:Nat):Int).toNat=l2.length:=by omega
 have e4:List.take l2.length (List.map MsgS.v l2)=List.map MsgS.v l2:=List.take_of_length_le (by rw[List.length_map];omega)
 rw[e1,e2,e3,e4,List.drop_zero]
 rw[List.eraseIdx_eq_take_drop_succ,List.map_append,List.map_take,List.map_drop]at h
 exact⟨⟨by omega,by omega⟩,by rw[List.length_take,List.length_map];omega,⟨by omega,by omega,by omega⟩,by rw[List.length_take,List.length_drop,List.length_map];omega,h⟩
def ZSm6:Spec1
 |[x,y],G,Q=>∃a b:List MsgS,(x= .sle 349 (a.map MsgS.v)∧y= .sle 349 (b.map MsgS.v)∧(∀m∈a,MsgS.sh m)∧(∀m∈b,MsgS.sh m)∧a.length < 1000000)∧Q (.v (.bool (decide (a=b)))) G
 |_,_,_=>False
theorem ZSm6_eq {x y}:ZSm6 [x,y] G Q=(∃a b:List MsgS,(x= .sle 349 (a.map MsgS.v)∧y= .sle 349 (b.map MsgS.v)∧(∀m∈a,MsgS.sh m)∧(∀m∈b,MsgS.sh m)∧a.length < 1000000)∧Q (.v (.bool (decide (a=b)))) G):=rfl
theorem loop19 (hS:Abs.look l 15=some ZMs) {QQ:Ex→St→Prop} {a b:List MsgS} (hl:a.length < 1000000) (h2:a.length=b.length) (ha:∀m∈a,MsgS.sh m) (hb:∀m∈b,MsgS.sh m)
  (hx:∀ts,a=b→QQ (.exit 0) ⟨[some (.v (.sle 349 (a.map MsgS.v))),some (.v (.sle 349 (b.map MsgS.v))),none,none,none,some (.v (.int .i64 (a.length:Nat)))],ts,[],G⟩) (hr:∀ts (v5:Option D),a≠b→QQ .ret ⟨[some (.v (.sle 349 (a.map MsgS.v))),some (.v (.sle 349 (b.map MsgS.v))),none,none,some (.v (.bool false)),v5],ts,[],G⟩):
  ∀(e i:Nat),i+e=a.length→a.take i=b.take i→WL (W E (specOf l) lp19_0) [0,1,5] QQ (e+1) ⟨[some (.v (.sle 349 (a.map MsgS.v))),some (.v (.sle 349 (b.map MsgS.v))),none,none,none,some (.v (.int .i64 (i:Nat)))],[],[],G⟩:=by
 intro e
 induction e with
 |zero=>
  intro i hi ht
  obtain rfl:i=a.length:=by omega
  rw[List.take_of_length_le (Nat.le_refl _),List.take_of_length_le (by omega)]at ht
  refine WL_in lp19_0.eq_1 ?_
  simp -implicitDefEqProofs only[List.length_map,Int.lt_irrefl,go_sem,↓reduceIte]
  exact hx _ ht
 |succ e ih=>
  intro i hi ht
  have c1:(i:Int) < (a.length:Int):=by omega
  have c2:(i:Int) < (b.length:Int):=by omega
  have c3:(0:Int)≤i:=by omega
  have w1:IntKind.i64.wrap ((i:Int)+1)=((i+1:Nat):Int):=wc (by omega) (by omega)
  obtain⟨p,r,hp⟩:∃p r,a.drop i=p::r:=by
   cases hq:a.drop i with
   |nil=>have:=drop_none hq;omega
   |cons p r=>exact⟨p,r,rfl⟩
  obtain⟨p2,r2,hp2⟩:∃p r,b.drop i=p::r:=by
   cases hq:b.drop i with
   |nil=>have:=drop_none hq;omega
   |cons p r=>exact⟨p,r,rfl⟩
  have a1:=at_drop2 hp
  have a2:=at_drop2 hp2
  have ihh:p=p2→_:=fun h=>ih (i+1) (by omega) (by rw[List.take_add_one,List.take_add_one,a1,a2,ht,h])
  have hno:p≠p2→a≠b:=fun h h3=>h (by rw[h3,a2]at a1;exact (Option.some.inj a1).symm)
  have g1:=getD_ms hp
  have g2:=getD_ms hp2
  obtain⟨z1,z2⟩:=MsgS.vs p
  obtain⟨z3,z4⟩:=MsgS.vs p2
  unfold V.isAgg at z2 z4
  refine WL_in lp19_0.eq_1 ?_
  simp -implicitDefEqProofs only[c1,c2,c3,w1,g1,g2,z1,z2,z3,z4,Int.toNat_natCast,List.length_map,hS,ZMs_eq,go_sem,↓reduceIte]
  exact⟨p,p2,⟨V.Wk.refl _,V.Wk.refl _,ha p (List.mem_of_getElem? a1),hb p2 (List.mem_of_getElem? a2)⟩,fun e=>hr _ _ (hno e),fun e=>ihh e⟩
theorem walk19 (hS:Abs.look l 15=some ZMs) {a b:List MsgS} (hl:a.length < 1000000) (ha:∀m∈a,MsgS.sh m) (hb:∀m∈b,MsgS.sh m) (h:Q (.v (.bool (decide (a=b)))) G):Wf E (specOf l) pf19 [.sle 349 (a.map MsgS.v),.sle 349 (b.map MsgS.v)] G Q:=by
 simp -implicitDefEqProofs only[pf19,List.length_map,go_sem,↓reduceIte]
 refine⟨fun hn=>finB h (by rw[decide_eq_false_iff_not];rintro rfl;exact hn rfl),fun he=>⟨a.length+1,?_⟩⟩
 try simp -implicitDefEqProofs only[go_sem,↓reduceIte]
 refine loop19 hS hl (by omega) ha hb (fun ts he=> ?_) (fun ts v5 hn=> ?_) _ 0 (by omega) rfl
 ·simp -implicitDefEqProofs only[go_sem,↓reduceIte]
  exact finB h (by rw[decide_eq_true_iff];exact he)
 ·simp -implicitDefEqProofs only[go_sem,↓reduceIte]
  exact finB h (by rw[decide_eq_false_iff_not];exact hn)
def lp9_0:PC:=
 ((PC.reg [mm 22 4,mm 23 0,mm 24 3,nn (.t 25) (.iadrS 3 (.t 23) (.t 24)),nn (.t 26) (.fadr 1 1 (.t 25)),nn (.t 27) (.load 1 false (.t 26)),nn (.t
  28) (.len (.t 27)),nn (.t 29) (.bin .lss (.t 22) (.t 28))]).seq (PC.cond (.t 29) PC.skip (PC.exit 2))).seq ((PC.block 3 ((PC.reg [mm 32 0,mm 33 3,
  nn (.t 34) (.iadrS 3 (.t 32) (.t 33)),nn (.t 35) (.fadr 1 1 (.t 34)),nn (.t 36) (.load 1 false (.t 35)),mm 37 4,nn (.t 38) (.iadrS 349 (.t 36)
  (.t 37)),nn (.t 39) (.load 349 true (.t 38)),nn (.t 40) (.call 22 [.t 39]),nn (.t 41) (.un .not (.t 40))]).seq (PC.cond (.t 41) ((PC.reg [nn (.v
  2) (.mv true (.c (.v (.bool false))))]).seq PC.ret) PC.skip))).seq (PC.reg [mm 30 4,nn (.t 31) (.bin .add (.t 30) (.c (.v (.int .i64 1)))),ma 4
  31]))
def lp9_1:PC:=
 ((PC.reg [mm 5 3,mm 6 0,nn (.t 7) (.len (.t 6)),nn (.t 8) (.bin .lss (.t 5) (.t 7)),nn (.t 9) (.mv false (.t 8)),gm 10 3 9 true,⟨.t 11,.bin .leq
  (.t 10) (.c (.v (.int .i64 40))),some (.t 9,true)⟩,nn (.t 12) (.pick (.t 9) (.t 11) (.c (.v (.bool false))))]).seq (PC.cond (.t 12) PC.skip
  (PC.exit 0))).seq ((PC.block 1 (((PC.reg [mm 15 0,mm 16 3,nn (.t 17) (.iadrS 3 (.t 15) (.t 16)),nn (.t 18) (.fadr 1 1 (.t 17)),nn (.t 19) (.load
  1 false (.t 18)),nn (.t 20) (.len (.t 19)),nn (.t 21) (.bin .gtr (.t 20) (.c (.v (.int .i64 20))))]).seq (PC.cond (.t 21) ((PC.reg [nn (.v 2) (.mv
  true (.c (.v (.bool false))))]).seq PC.ret) PC.skip)).seq ((PC.reg [nn (.v 4) (.mv true (.c (.v (.int .i64 0))))]).seq (PC.block 2 (PC.loop [0,3,4]
  lp9_0))))).seq (PC.reg [mm 13 3,nn (.t 14) (.bin .add (.t 13) (.c (.v (.int .i64 1)))),ma 3 14]))
def pf9:PF:=
 PF.mk 1 5 45 ((PC.reg [nn (.v 2) (.mv true (.c (.v (.bool false))))]).seq (((PC.reg [nn (.v 3) (.mv true (.c (.v (.int .i64 0))))]).seq (PC.block 0
  (PC.loop [0,3] lp9_1))).seq ((PC.reg [mm 42 0,nn (.t 43) (.len (.t 42)),nn (.t 44) (.bin .leq (.t 43) (.c (.v (.int .i64 40)))),ma 2 44]).seq
  PC.ret))) [(.v 2,none)]
def pf10:PF:=
 PF.mk 0 6 46 ((PC.reg [nn (.v 0) (.mv true (.c (.v (.bool false))))]).seq ((PC.reg [nn (.t 6) (.call 11 []),ma 1 6]).seq ((PC.reg [mm 7 1,nn (.t 8)
  (.build (.agg [.int .i64 0,.int .i64 0,.int .i64 0,.agg [.int .i64 0,.int .i64 0,.int .i64 0,.int .i64 0,.arr .u8 32 [0,0,0,0,0,0,0,0,
  0,0,0,0,0,0,0,0,0,0,0,0,0,0,0,0,0,0,0,0,0,0,0,0],.int .i64 0,.arr .u8 32 [0,0,0,0,0,0,0,0,0,0,0,0,0,0,0,0,0,
  0,0,0,0,0,0,0,0,0,0,0,0,0,0,0],.arr .u8 32 [0,0,0,0,0,0,0,0,0,0,0,0,0,0,0,0,0,0,0,0,0,0,0,0,0,0,0,0,0,0,
  0,0]],.agg [.agg [.int .i64 0,.int .i64 0,.int .i64 0,.int .i64 0,.arr .u8 32 [0,0,0,0,0,0,0,0,0,0,0,0,0,0,0,0,0,0,0,0,0,
  0,0,0,0,0,0,0,0,0,0,0],.int .i64 0,.arr .u8 32 [0,0,0,0,0,0,0,0,0,0,0,0,0,0,0,0,0,0,0,0,0,0,0,0,0,0,0,0,0,0,
  0,0],.arr .u8 32 zz2],.nils],.agg [.int .i64 0,.int
  .i64 0,.int .i64 0,.arr .u8 32 zz2,.nils,.arr .u8 32
  zz2],.agg [.arr .u8 32 [0,0,0,0,0,0,0,0,0,0,
  0,0,0,0,0,0,0,0,0,0,0,0,0,0,0,0,0,0,0,0,0,0],.int .i64 0,.int .i64 0,.int .i64 0,.nils],.arr .u8 32 [0,0,0,0,0,0,0,
  0,0,0,0,0,0,0,0,0,0,0,0,0,0,0,0,0,0,0,0,0,0,0,0,0],.agg [.int .i64 0,.int .i64 0,.int .i64 0,.int .i64 0,.int .i64 0,
  .str ⟨⟨[]⟩⟩,.str ⟨⟨[]⟩⟩]]) [(0,.c (.v (.int .i64 7))),(1,.c (.v (.int .i64 1))),(2,.c (.v (.int .i64 2)))]),nn (.t 9) (.build (.agg [.int .i64
  0,.int .i64 0,.int .i64 0,.agg [.int .i64 0,.int .i64 0,.int .i64 0,.int .i64 0,.arr .u8 32 [0,0,0,0,0,0,0,0,0,0,0,0,0,0,0,0,
  0,0,0,0,0,0,0,0,0,0,0,0,0,0,0,0],.int .i64 0,.arr .u8 32 [0,0,0,0,0,0,0,0,0,0,0,0,0,0,0,0,0,0,0,0,0,0,0,0,0,
  0,0,0,0,0,0,0],.arr .u8 32 zz2],.agg [.agg [.int
  .i64 0,.int .i64 0,.int .i64 0,.int .i64 0,.arr .u8 32 [0,0,0,0,0,0,0,0,0,0,0,0,0,0,0,0,0,0,0,0,0,0,0,0,0,0,0,0,0,0,
  0,0],.int .i64 0,.arr .u8 32 zz2,.arr .u8 32 [0,0,
  0,0,0,0,0,0,0,0,0,0,0,0,0,0,0,0,0,0,0,0,0,0,0,0,0,0,0,0,0,0]],.nils],.agg [.int .i64 0,.int .i64 0,.int .i64 0,.arr
  .u8 32 zz2,.nils,.arr .u8 32 [0,0,0,0,0,0,0,0,
  0,0,0,0,0,0,0,0,0,0,0,0,0,0,0,0,0,0,0,0,0,0,0,0]],.agg [.arr .u8 32 [0,0,0,0,0,0,0,0,0,0,0,0,0,0,0,0,0,0,0,
  0,0,0,0,0,0,0,0,0,0,0,0,0],.int .i64 0,.int .i64 0,.int .i64 0,.nils],.arr .u8 32 [0,0,0,0,0,0,0,0,0,0,0,0,0,0,0,0,
  0,0,0,0,0,0,0,0,0,0,0,0,0,0,0,0],.agg [.int .i64 0,.int .i64 0,.int .i64 0,.int .i64 0,.int .i64 0,.str ⟨⟨[]⟩⟩,.str ⟨⟨[]⟩⟩]])
  []),nn (.t 10) (.buildS none 349 (.agg [.int .i64 0,.int .i64 0,.int .i64 0,.agg [.int .i64 0,.int .i64 0,.int .i64 0,.int .i64 0,.arr .u8 32
  zz2,.int .i64 0,.arr .u8 32 [0,0,0,0,0,0,0,0,
  0,0,0,0,0,0,0,0,0,0,0,0,0,0,0,0,0,0,0,0,0,0,0,0],.arr .u8 32 [0,0,0,0,0,0,0,0,0,0,0,0,0,0,0,0,0,0,0,0,0,
  0,0,0,0,0,0,0,0,0,0,0]],.agg [.agg [.int .i64 0,.int .i64 0,.int .i64 0,.int .i64 0,.arr .u8 32 [0,0,0,0,0,0,0,0,0,0,0,0,
  0,0,0,0,0,0,0,0,0,0,0,0,0,0,0,0,0,0,0,0],.int .i64 0,.arr .u8 32 [0,0,0,0,0,0,0,0,0,0,0,0,0,0,0,0,0,0,0,0,0,
  0,0,0,0,0,0,0,0,0,0,0],.arr .u8 32 zz2],
  .nils],.agg [.int .i64 0,.int .i64 0,.int .i64 0,.arr .u8 32 [0,0,0,0,0,0,0,0,0,0,0,0,0,0,0,0,0,0,0,0,0,0,0,0,0,0,0,0,
  0,0,0,0],.nils,.arr .u8 32 zz2],.agg [.arr .u8 32
  zz2,.int .i64 0,.int .i64 0,.int .i64 0,.nils],.arr
  .u8 32 zz2,.agg [.int .i64 0,.int .i64 0,.int .i64 0,
  .int .i64 0,.int .i64 0,.str ⟨⟨[]⟩⟩,.str ⟨⟨[]⟩⟩]]) 2 [(0,.t 8),(1,.t 9)]),nn (.t 11) (.call 13 [.t 7,.t 10]),ma 2 11]).seq ((PC.reg [mm 12
  1,nn (.t 13) (.call 17 [.t 12,.c (.v (.int .i64 0))]),ma 3 13]).seq ((PC.reg [mm 15 1,nn (.t 16) (.call 14 [.t 15,.c (.v (.int .i64 0))]),nn
  (.t 14) (.mv false (.t 16)),nn (.t 17) (.ext (.t 14) 0),nn (.t 18) (.ext (.t 14) 1),nn (.v 4) (.alloc (.agg [.int .i64 0,.int .i64 0,.int .i64
  0,.agg [.int .i64 0,.int .i64 0,.int .i64 0,.int .i64 0,.arr .u8 32 [0,0,0,0,0,0,0,0,0,0,0,0,0,0,0,0,0,0,0,0,0,0,0,0,0,
  0,0,0,0,0,0,0],.int .i64 0,.arr .u8 32 zz2,.arr
  .u8 32 zz2],.agg [.agg [.int .i64 0,.int .i64 0,.int
  .i64 0,.int .i64 0,.arr .u8 32 zz2,.int .i64 0,.arr
  .u8 32 zz2,.arr .u8 32 [0,0,0,0,0,0,0,0,0,0,
  0,0,0,0,0,0,0,0,0,0,0,0,0,0,0,0,0,0,0,0,0,0]],.nils],.agg [.int .i64 0,.int .i64 0,.int .i64 0,.arr .u8 32 [0,0,0,0,0,
  0,0,0,0,0,0,0,0,0,0,0,0,0,0,0,0,0,0,0,0,0,0,0,0,0,0,0],.nils,.arr .u8 32 [0,0,0,0,0,0,0,0,0,0,0,0,0,0,0,0,
  0,0,0,0,0,0,0,0,0,0,0,0,0,0,0,0]],.agg [.arr .u8 32 [0,0,0,0,0,0,0,0,0,0,0,0,0,0,0,0,0,0,0,0,0,0,0,0,0,0,0,
  0,0,0,0,0],.int .i64 0,.int .i64 0,.int .i64 0,.nils],.arr .u8 32 [0,0,0,0,0,0,0,0,0,0,0,0,0,0,0,0,0,0,0,0,0,0,0,0,
  0,0,0,0,0,0,0,0],.agg [.int .i64 0,.int .i64 0,.int .i64 0,.int .i64 0,.int .i64 0,.str ⟨⟨[]⟩⟩,.str ⟨⟨[]⟩⟩]])),nn .no (.store 349 (.v
  4) (.t 17)),ma 5 18]).seq ((PC.reg [mm 19 2,nn (.t 20) (.bin .eql (.t 19) (.c (.v (.int .i64 1)))),nn (.t 21) (.mv false (.t 20)),gm 22 3 21
  true,⟨.t 23,.bin .eql (.t 22) (.c (.v (.int .i64 0))),some (.t 21,true)⟩,nn (.t 24) (.pick (.t 21) (.t 23) (.c (.v (.bool false)))),nn (.t 25)
  (.mv false (.t 24)),gm 26 5 25 true,⟨.t 27,.bin .eql (.t 26) (.c (.v (.int .i64 0))),some (.t 25,true)⟩,nn (.t 28) (.pick (.t 25) (.t 27) (.c
  (.v (.bool false)))),nn (.t 29) (.mv false (.t 28)),⟨.t 30,.fadr 2 2 (.v 4),some (.t 29,true)⟩,⟨.t 31,.load 1 false (.t 30),some (.t 29,
  true)⟩,⟨.t 32,.bin .eql (.t 31) (.c (.v (.int .i64 2))),some (.t 29,true)⟩,nn (.t 33) (.pick (.t 29) (.t 32) (.c (.v (.bool false)))),nn (.t
  34) (.mv false (.t 33)),gm 35 1 34 true,⟨.t 36,.call 20 [.t 35],some (.t 34,true)⟩,⟨.t 37,.len (.t 36),some (.t 34,true)⟩,⟨.t 38,.bin .eql
  (.t 37) (.c (.v (.int .i64 1))),some (.t 34,true)⟩,nn (.t 39) (.pick (.t 34) (.t 38) (.c (.v (.bool false)))),nn (.t 40) (.mv false (.t 39)),gm
  41 1 40 true,⟨.t 42,.call 21 [.t 41,.c (.v (.int .i64 2))],some (.t 40,true)⟩,⟨.t 43,.len (.t 42),some (.t 40,true)⟩,⟨.t 44,.bin .eql (.t
  43) (.c (.v (.int .i64 1))),some (.t 40,true)⟩,nn (.t 45) (.pick (.t 40) (.t 44) (.c (.v (.bool false)))),ma 0 45]).seq PC.ret)))))) [(.v 0,
  none)]
structure ActS where
 do_:Int
 l:List MsgS
 n:Int
def ActS.v (a:ActS):V:= .agg [.int .i64 a.do_,.sle 349 (a.l.map MsgS.v),.int .i64 a.n]
def lightA (a:ActS):Bool:=decide (a.l.length≤20∧∀m∈a.l,lightM m=true)
def lightAs (l:List ActS):Bool:=decide (l.length≤40∧∀a∈l,lightA a=true)
def ZLa:Spec1
 |[y],G,Q=>∃l:List ActS,y= .sle 3 (l.map ActS.v)∧Q (.v (.bool (lightAs l))) G
 |_,_,_=>False
theorem ZLa_eq {y}:ZLa [y] G Q=(∃l:List ActS,y= .sle 3 (l.map ActS.v)∧Q (.v (.bool (lightAs l))) G):=rfl
theorem getD_as {l:List ActS} {j:Nat} {p:ActS} {r:List ActS} (h:l.drop j=p::r):(l.map ActS.v).getD j V.nilp=p.v:=by
 have:(l.drop j)[0]? =some p:=by rw[h];rfl
 rw[List.getElem?_drop,Nat.add_zero]at this
 simp[List.getD,this]
theorem inner9 (hT:Abs.look l 22=some ZLm) {QQ:Ex→St→Prop} {as_:List ActS} {i:Nat} {a:ActS} {ra:List ActS} (ha:as_.drop i=a::ra) (hl:a.l.length≤20)
  (hx:∀ts,(∀m∈a.l,lightM m=true)→QQ (.exit 2) ⟨[some (.v (.sle 3 (as_.map ActS.v))),none,none,some (.v (.int .i64 (i:Nat))),some (.v (.int .i64 (a.l.length:Nat)))],ts,[],G⟩) (hr:∀ts (v4:Option D) m,m∈a.l→lightM m=false→QQ .ret ⟨[some (.v (.sle 3 (as_.map ActS.v))),none,some (.v (.bool false)),some (.v (.int .i64 (i:Nat))),v4],ts,[],G⟩):
  ∀(r:List MsgS) (k:Nat),a.l.drop k=r→k≤a.l.length→(∀m∈a.l.take k,lightM m=true)→WL (W E (specOf l) lp9_0) [0,3,4] QQ (r.length+1) ⟨[some (.v (.sle 3 (as_.map ActS.v))),none,none,some (.v (.int .i64 (i:Nat))),some (.v (.int .i64 (k:Nat)))],[],[],G⟩:=by
 have g:=getD_as ha
 have hi:=(drop_one ha).2.2
 have c0:(i:Int) < (as_.length:Int):=by have:=drop_one ha;omega
 have c00:(0:Int)≤(i:Int):=by omega
 obtain⟨a1,a2,a3⟩:=a
 have gv:ActS.v ⟨a1,a2,a3⟩= .agg [.int .i64 a1,.sle 349 (a2.map MsgS.v),.int .i64 a3]:=rfl
 rw[gv]at g
 intro r
 induction r with
 |nil=>
  intro k hd hk ht
  have:=drop_none hd
  dsimp only at this hk ht
  have c1:¬(k:Int) < (a2.length:Int):=by omega
  obtain rfl:k=a2.length:=by omega
  refine WL_in lp9_0.eq_1 ?_
  simp -implicitDefEqProofs only[c0,c00,c1,g,Int.toNat_natCast,List.length_map,go_sem,↓reduceIte]
  exact hx _ (by rw[List.take_of_length_le (Nat.le_refl _)]at ht;exact ht)
 |cons p r ih=>
  intro k hd hk ht
  obtain⟨hd2,hj2,hlen⟩:=drop_one hd
  dsimp only at hlen hk ht hl
  have gm:=getD_ms hd
  dsimp only at gm
  have c1:(k:Int) < (a2.length:Int):=by dsimp only at hj2;omega
  have c2:(0:Int)≤(k:Int):=by omega
  have w1:IntKind.i64.wrap ((k:Int)+1)=((k+1:Nat):Int):=wc (by omega) (by omega)
  obtain⟨z1,z2⟩:=MsgS.vs p
  unfold V.isAgg at z2
  have pm:p∈a2:=List.mem_of_mem_drop (i:=k) (by rw[hd];exact List.mem_cons_self ..)
  refine WL_in lp9_0.eq_1 ?_
  simp -implicitDefEqProofs only[c0,c00,c1,c2,w1,g,gm,z1,z2,Int.toNat_natCast,List.length_map,hT,ZLm_eq,go_sem,↓reduceIte]
  refine⟨p,V.Wk.refl _,fun e=>hr _ _ p pm e,fun e=>ih (k+1) hd2 (by omega) (fun m hm=> ?_)⟩
  have a1:=at_drop2 hd
  dsimp only at hm a1
  rw[List.take_add_one,a1]at hm
  rcases List.mem_append.1 hm with hm|hm
  ·exact ht m hm
  ·simp at hm;rw[hm];exact e
theorem loop9 (hT:Abs.look l 22=some ZLm) {QQ:Ex→St→Prop} {as_:List ActS} {n:Nat} (hn:n=min as_.length 41)
  (hx:∀ts,(∀a∈as_.take n,lightA a=true)→QQ (.exit 0) ⟨[some (.v (.sle 3 (as_.map ActS.v))),none,none,some (.v (.int .i64 (n:Nat))),none],ts,[],G⟩) (hr:∀ts (v3 v4:Option D) a,a∈as_→lightA a=false→QQ .ret ⟨[some (.v (.sle 3 (as_.map ActS.v))),none,some (.v (.bool false)),v3,v4],ts,[],G⟩):
  ∀(e i:Nat),i+e=n→(∀a∈as_.take i,lightA a=true)→WL (W E (specOf l) lp9_1) [0,3] QQ (e+1) ⟨[some (.v (.sle 3 (as_.map ActS.v))),none,none,some (.v (.int .i64 (i:Nat))),none],[],[],G⟩:=by
 intro e
 induction e with
 |zero=>
  intro i hi ht
  obtain rfl:i=n:=by omega
  refine WL_in lp9_1.eq_1 ?_
  by_cases c1:(i:Int) < (as_.length:Int)
  ·have c2:¬(i:Int)≤40:=by omega
   simp -implicitDefEqProofs only[List.length_map,c1,c2,go_sem,↓reduceIte]
   exact hx _ ht
  ·simp -implicitDefEqProofs only[List.length_map,c1,go_sem,↓reduceIte]
   exact hx _ ht
 |succ e ih=>
  intro i hi ht
  have c1:(i:Int) < (as_.length:Int):=by omega
  have c2:(i:Int)≤40:=by omega
  have c3:(0:Int)≤i:=by omega
  have w1:IntKind.i64.wrap ((i:Int)+1)=((i+1:Nat):Int):=wc (by omega) (by omega)
  obtain⟨a,ra,hp⟩:∃p r,as_.drop i=p::r:=by
   cases hq:as_.drop i with
   |nil=>have:=drop_none hq;omega
   |cons p r=>exact⟨p,r,rfl⟩
  have a1:=at_drop2 hp
  have am:a∈as_:=List.mem_of_getElem? a1
  have g:=getD_as hp
  have gv:a.v= .agg [.int .i64 a.do_,.sle 349 (a.l.map MsgS.v),.int .i64 a.n]:=rfl
  rw[gv]at g
  refine WL_in lp9_1.eq_1 ?_
  by_cases c5:a.l.length≤20
  ·have c6:¬(20:Int) < (a.l.length:Int):=by omega
   simp -implicitDefEqProofs only[c1,c2,c3,c6,g,w1,Int.toNat_natCast,List.length_map,go_sem,↓reduceIte]
   refine⟨a.l.length+1,inner9 hT hp c5 (fun ts hall=> ?_) (fun ts v4 m hm hf=> ?_) a.l 0 rfl (Nat.zero_le _) (fun m hm=>by simp at hm)⟩
   ·simp -implicitDefEqProofs only[w1,go_sem,↓reduceIte]
    refine ih (i+1) (by omega) (fun b hb=> ?_)
    rw[List.take_add_one,a1]at hb
    rcases List.mem_append.1 hb with hb|hb
    ·exact ht b hb
    ·simp at hb;rw[hb];exact decide_eq_true ⟨c5,hall⟩
   ·simp -implicitDefEqProofs only[go_sem,↓reduceIte]
    exact hr _ _ _ a am (decide_eq_false (fun h=>by rw[h.2 m hm]at hf;cases hf))
  ·have c6:(20:Int) < (a.l.length:Int):=by omega
   simp -implicitDefEqProofs only[c1,c2,c3,c6,g,w1,Int.toNat_natCast,List.length_map,go_sem,↓reduceIte]
   exact hr _ _ _ a am (decide_eq_false (fun h=>c5 h.1))
theorem walk9 (hT:Abs.look l 22=some ZLm) {as_:List ActS} (h:Q (.v (.bool (lightAs as_))) G):Wf E (specOf l) pf9 [.sle 3 (as_.map ActS.v)] G Q:=by
 have key:∀c:Bool,lightAs as_=c→Q (.v (.bool c)) G:=fun c e=>by rw[←e];exact h
 simp -implicitDefEqProofs only[pf9,go_sem,↓reduceIte]
 refine⟨min as_.length 41+1,?_⟩
 try simp -implicitDefEqProofs only[go_sem,↓reduceIte]
 refine loop9 (n:=min as_.length 41) hT rfl (fun ts ht=> ?_) (fun ts v3 v4 a ha hf=> ?_) _ 0 (by omega) (fun a ha=>by simp at ha)
 ·simp -implicitDefEqProofs only[List.length_map,go_sem,↓reduceIte]
  refine key _ ?_
  unfold lightAs
  rw[decide_eq_decide]
  refine⟨fun h=>by omega,fun h=>⟨by omega,fun t hm=>ht t ?_⟩⟩
  rw[List.take_of_length_le (by omega)];exact hm
 ·simp -implicitDefEqProofs only[go_sem,↓reduceIte]
  refine key _ ?_
  unfold lightAs
  rw[decide_eq_false_iff_not]
  intro hh
  rw[hh.2 a ha]at hf;cases hf
theorem walk10 (hN:Abs.look l 11=some ZNb) (hP:Abs.look l 13=some ZPb) (hC:Abs.look l 17=some ZCy6) (hT:Abs.look l 14=some ZTk) (hA:Abs.look l 20=some ZAl) (hO:Abs.look l 21=some ZTo)
  (h:∀G',Q (.v (.bool true)) G'):Wf E (specOf l) pf10 [] G Q:=by
 have ok:=MsgS.bare_ok 7 1 2
 have hM:(MsgS.bare 7 1 2).May:=⟨by decide,rfl,rfl⟩
 have hmay:(MsgS.bare 7 1 2).may=true:=decide_eq_true hM
 have hz:MsgS.zero.may=false:=by
  unfold MsgS.may;rw[decide_eq_false_iff_not];intro h;exact absurd h.1.1.1 (by decide)
 have p1:putB [] [.bare 7 1 2,.zero]=([.bare 7 1 2],1):=by
  rw[putB,if_pos ⟨by decide,hmay⟩,putB,if_neg (fun h=>by rw[hz]at h;cases h.2),putB];rfl
 simp -implicitDefEqProofs only[pf10,hN,ZNb,go_sem,↓reduceIte]
 intro id hid
 simp -implicitDefEqProofs only[hP,ZPb,go_sem,↓reduceIte]
 refine⟨[],true,[.bare 7 1 2,.zero],⟨⟨.nils,Row.nil (fun j x hj=> ?_)⟩,?_,fun m hm=> ?_,by decide,by decide⟩,fun G1 h1=> ?_⟩
 ·rw[look_cons]at hj
  split at hj
  ·rename_i e;cases hj;rw[look_cons,if_pos e]
  ·cases hj
 ·unfold V.Wk;exact⟨_,rfl,wkL_cons (wk_msg (m:= .bare 7 1 2) wk_ce wk_ac wk_bl) (wkL_cons (wk_msg (m:= .zero) wk_ce wk_ac wk_bl) wkL_nil)⟩
 ·rcases List.mem_cons.1 hm with rfl|hm
  ·exact ok
  ·rw[List.mem_singleton.1 hm];exact MsgS.bare_ok 0 0 0
 ·rw[if_pos rfl,p1]at h1
  rw[if_pos rfl,p1]
  simp -implicitDefEqProofs only[hC,ZCy6,go_sem,↓reduceIte]
  have c1:copE [.bare 7 1 2] true 0=0:=rfl
  have c2:copyB [.bare 7 1 2] true 0=[.bare 7 1 2,.bare 7 1 2]:=rfl
  refine⟨[.bare 7 1 2],true,⟨h1,by decide⟩,fun G2 h2=> ?_⟩
  rw[c2]at h2
  rw[c1]
  simp -implicitDefEqProofs only[hT,ZTk,go_sem,↓reduceIte]
  have t1:atE [.bare 7 1 2,.bare 7 1 2] true 0=0:=rfl
  have t2:takeB [.bare 7 1 2,.bare 7 1 2] true 0=(.bare 7 1 2,[.bare 7 1 2]):=rfl
  have hv:(MsgS.bare 7 1 2).v= .agg [.int .i64 7,.int .i64 1,.int .i64 2,.agg [.int .i64 0,.int .i64 0,.int .i64 0,.int .i64 0,.arr .u8 32 zz2,.int .i64 0,.arr .u8 32 zz2,.arr .u8 32 zz2],.agg [.agg [.int .i64 0,.int .i64 0,.int .i64 0,.int .i64 0,.arr .u8 32 zz2,.int .i64 0,.arr .u8 32 zz2,.arr .u8 32 zz2],.sle 33 []],.agg [.int .i64 0,.int .i64 0,.int .i64 0,.arr .u8 32 zz2,.sli .i64 [],.arr .u8 32 zz2],.agg [.arr .u8 32 zz2,.int .i64 0,.int .i64 0,.int .i64 0,.sle 7 []],.arr .u8 32 zz2,.agg [.int .i64 0,.int .i64 0,.int .i64 0,.int .i64 0,.int .i64 0,.str ⟨⟨[]⟩⟩,.str ⟨⟨[]⟩⟩]]:=rfl
  refine⟨[.bare 7 1 2,.bare 7 1 2],true,⟨h2,by decide⟩,fun G3 h3=> ?_⟩
  rw[t2]at h3
  rw[t2,t1]
  dsimp only
  rw[hv]
  simp -implicitDefEqProofs only[hA,ZAl,go_sem,↓reduceIte]
  refine⟨[.bare 7 1 2],true,⟨h3,by decide⟩,?_⟩
  simp -implicitDefEqProofs only[hO,ZTo,List.length_map,go_sem,↓reduceIte]
  exact⟨[.bare 7 1 2],true,⟨h3,by decide⟩,h G3⟩
def ZAw6:Spec1
 |[],G,Q=>∀G',Q (.v (.bool true)) G'
 |_,_,_=>False
end Go.Proofs.Ytjbglbhcbenhpaa.Sha
