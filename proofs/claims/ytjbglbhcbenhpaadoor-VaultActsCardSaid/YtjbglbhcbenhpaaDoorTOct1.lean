/- Laws over plain values, and what functions of the program hand back; no conditions. -/
import Derived.Test.YtjbglbhcbenhpaaDoorG3
namespace Go.Proofs.YtjbglbhcbenhpaaDoor.Sha
open Go Go.Abs Go.Abs.Sha
set_option linter.unusedSimpArgs false
set_option linter.unusedVariables false
set_option maxRecDepth 100000
def lp130_0:PC:=
 ((PC.reg [mm 7 5,mm 8 0,nn (.t 9) (.len (.t 8)),nn (.t 10) (.bin .lss (.t 7) (.t 9)),nn (.t 11) (.mv false (.t 10)),gm 12 5 11 true,⟨.t 13,.bin
  .lss (.t 12) (.c (.v (.int .i64 10))),some (.t 11,true)⟩,nn (.t 14) (.pick (.t 11) (.t 13) (.c (.v (.bool false))))]).seq (PC.cond (.t 14) PC.skip
  (PC.exit 0))).seq ((PC.block 1 ((PC.reg [mm 17 0,mm 18 5,nn (.t 19) (.iadrS 1 (.t 17) (.t 18)),nn (.t 20) (.load 1 false (.t 19)),ma 6 20]).seq
  (((PC.reg [mm 21 5,nn (.t 22) (.bin .eql (.t 21) (.c (.v (.int .i64 9)))),nn (.t 23) (.mv false (.t 22)),gm 24 6 23 true,⟨.t 25,.bin .gtr (.t
  24) (.c (.v (.int .u8 1))),some (.t 23,true)⟩,nn (.t 26) (.pick (.t 23) (.t 25) (.c (.v (.bool false)))),nn (.t 27) (.mv false (.t 26)),gm 28 5
  27 false,⟨.t 29,.bin .gtr (.t 28) (.c (.v (.int .i64 0))),some (.t 27,false)⟩,⟨.t 30,.mv false (.t 29),some (.t 27,false)⟩,gm 31 6 30 true,
  ⟨.t 32,.bin .eql (.t 31) (.c (.v (.int .u8 0))),some (.t 30,true)⟩,⟨.t 33,.pick (.t 30) (.t 32) (.c (.v (.bool false))),some (.t 27,false)⟩,
  nn (.t 34) (.pick (.t 27) (.c (.v (.bool true))) (.t 33))]).seq (PC.cond (.t 34) ((PC.reg [nn (.v 2) (.mv true (.c (.v (.int .u64 0)))),nn (.v 3)
  (.mv true (.c (.v (.int .i64 0))))]).seq PC.ret) PC.skip)).seq ((PC.reg [mm 35 4,mm 36 6,nn (.t 37) (.bin .and (.t 36) (.c (.v (.int .u8 127)))),
  nn (.t 38) (.conv .u64 (.t 37)),mm 39 5,nn (.t 40) (.bin .mul (.c (.v (.int .i64 7))) (.t 39)),nn (.t 41) (.bin .shl (.t 38) (.t 40)),nn (.t 42)
  (.bin .or (.t 35) (.t 41)),ma 4 42]).seq ((PC.reg [mm 43 6,nn (.t 44) (.bin .lss (.t 43) (.c (.v (.int .u8 128))))]).seq (PC.cond (.t 44) ((PC.reg
  [mm 45 4,mm 46 5,nn (.t 47) (.bin .add (.t 46) (.c (.v (.int .i64 1)))),ma 2 45,ma 3 47]).seq PC.ret) PC.skip)))))).seq (PC.reg [mm 15 5,nn (.t
  16) (.bin .add (.t 15) (.c (.v (.int .i64 1)))),ma 5 16]))
def pf130:PF:=
 PF.mk 1 7 48 ((PC.reg [nn (.v 2) (.mv true (.c (.v (.int .u64 0)))),nn (.v 3) (.mv true (.c (.v (.int .i64 0))))]).seq ((PC.reg [nn (.v 4) (.mv true
  (.c (.v (.int .u64 0))))]).seq (((PC.reg [nn (.v 5) (.mv true (.c (.v (.int .i64 0))))]).seq (PC.block 0 (PC.loop [0,4,5] lp130_0))).seq ((PC.reg
  [nn (.v 2) (.mv true (.c (.v (.int .u64 0)))),nn (.v 3) (.mv true (.c (.v (.int .i64 0))))]).seq PC.ret)))) [(.v 2,none),(.v 3,none)]
def pf117:PF:=
 PF.mk 1 3 11 ((PC.reg [nn (.v 2) (.mv true (.c (.v (.bool false))))]).seq ((PC.reg [mm 3 0,nn (.t 4) (.binP .eql (.t 3) (.c (.v .nilp))),nn (.t 5)
  (.mv false (.t 4)),gm 6 0 5 false,⟨.t 7,.nilc (.t 6),some (.t 5,false)⟩,⟨.t 8,.fadr 1 1 (.t 7),some (.t 5,false)⟩,⟨.t 9,.load 1 false (.t
  8),some (.t 5,false)⟩,nn (.t 10) (.pick (.t 5) (.c (.v (.bool true))) (.t 9)),ma 2 10]).seq PC.ret)) [(.v 2,none)]
def pf118:PF:=
 PF.mk 1 5 30 ((PC.reg [nn (.v 2) (.mv true (.c (.v (.int .u64 0))))]).seq (((PC.reg [mm 5 0,nn (.t 6) (.call 117 [.t 5])]).seq (PC.cond (.t 6)
  ((PC.reg [nn (.v 2) (.mv true (.c (.v (.int .u64 0))))]).seq PC.ret) PC.skip)).seq ((PC.reg [mm 8 0,nn (.t 9) (.nilc (.t 8)),nn (.t 10) (.fadr 0 0
  (.t 9)),nn (.t 11) (.load 1 false (.t 10)),nn (.t 12) (.call 130 [.t 11]),nn (.t 7) (.mv false (.t 12)),nn (.t 13) (.ext (.t 7) 0),nn (.t 14)
  (.ext (.t 7) 1),ma 3 13,ma 4 14]).seq (((PC.reg [mm 15 4,nn (.t 16) (.bin .eql (.t 15) (.c (.v (.int .i64 0))))]).seq (PC.cond (.t 16) ((PC.reg
  [mm 17 0,nn (.t 18) (.nilc (.t 17)),nn (.t 19) (.fadr 1 1 (.t 18)),nn .no (.store 1 (.t 19) (.c (.v (.bool true))))]).seq ((PC.reg [nn (.v 2) (.mv
  true (.c (.v (.int .u64 0))))]).seq PC.ret)) PC.skip)).seq ((PC.reg [mm 20 0,mm 21 0,nn (.t 22) (.nilc (.t 21)),nn (.t 23) (.fadr 0 0 (.t 22)),nn
  (.t 24) (.load 1 false (.t 23)),mm 25 4,nn (.t 26) (.slcS 1 (.t 24) (some (.t 25)) none none),nn (.t 27) (.nilc (.t 20)),nn (.t 28) (.fadr 0 0
  (.t 27)),nn .no (.store 1 (.t 28) (.t 26))]).seq ((PC.reg [nn (.t 29) (.mv true (.v 3)),ma 2 29]).seq PC.ret)))))) [(.v 2,none)]
def pf91:PF:=
 PF.mk 2 7 38 ((PC.reg [nn (.v 4) (.mv true (.c (.v (.int .i64 0))))]).seq (((PC.reg [mm 7 0,nn (.t 8) (.call 117 [.t 7])]).seq (PC.cond (.t 8)
  ((PC.reg [nn (.v 4) (.mv true (.c (.v (.int .i64 0))))]).seq PC.ret) PC.skip)).seq ((PC.reg [mm 9 0,nn (.t 10) (.nilc (.t 9)),nn (.t 11) (.fadr 0 0
  (.t 10)),nn (.t 12) (.load 1 false (.t 11)),ma 5 12]).seq ((PC.reg [mm 13 0,nn (.t 14) (.call 118 [.t 13]),ma 6 14]).seq (((PC.reg [mm 15 0,nn
  (.t 16) (.nilc (.t 15)),nn (.t 17) (.fadr 1 1 (.t 16)),nn (.t 18) (.load 1 false (.t 17)),nn (.t 19) (.mv false (.t 18)),gm 20 1 19 false,⟨.t
  21,.bin .lss (.t 20) (.c (.v (.int .i64 0))),some (.t 19,false)⟩,nn (.t 22) (.pick (.t 19) (.c (.v (.bool true))) (.t 21)),nn (.t 23) (.mv false
  (.t 22)),gm 24 6 23 false,gm 25 1 23 false,⟨.t 26,.conv .u64 (.t 25),some (.t 23,false)⟩,⟨.t 27,.bin .gtr (.t 24) (.t 26),some (.t 23,
  false)⟩,nn (.t 28) (.pick (.t 23) (.c (.v (.bool true))) (.t 27))]).seq (PC.cond (.t 28) ((PC.reg [mm 29 0,mm 30 0,mm 31 5,nn (.t 32) (.nilc (.t
  29)),nn (.t 33) (.fadr 0 0 (.t 32)),nn .no (.store 1 (.t 33) (.t 31)),nn (.t 34) (.nilc (.t 30)),nn (.t 35) (.fadr 1 1 (.t 34)),nn .no (.store 1
  (.t 35) (.c (.v (.bool true))))]).seq ((PC.reg [nn (.v 4) (.mv true (.c (.v (.int .i64 0))))]).seq PC.ret)) PC.skip)).seq ((PC.reg [mm 36 6,nn (.t
  37) (.conv .i64 (.t 36)),ma 4 37]).seq PC.ret)))))) [(.v 4,none)]
def pf92:PF:=
 PF.mk 1 4 32 ((PC.reg [nn (.v 2) (.alloc (.arr .u8 32 [0,0,0,0,0,0,0,0,0,0,0,0,0,0,0,0,0,0,0,0,0,0,0,0,0,0,0,0,0,0,0,
  0]))]).seq ((PC.reg [nn (.v 3) (.alloc (.arr .u8 32 [0,0,0,0,0,0,0,0,0,0,0,0,0,0,0,0,0,0,0,0,0,0,0,0,0,0,0,0,0,0,0,
  0]))]).seq (((PC.reg [mm 4 0,nn (.t 5) (.call 117 [.t 4])]).seq (PC.cond (.t 5) ((PC.reg [nn (.t 6) (.load 32 true (.v 3)),nn .no (.store 32 (.v 2)
  (.t 6))]).seq PC.ret) PC.skip)).seq (((PC.reg [mm 7 0,nn (.t 8) (.nilc (.t 7)),nn (.t 9) (.fadr 0 0 (.t 8)),nn (.t 10) (.load 1 false (.t 9)),nn
  (.t 11) (.len (.t 10)),nn (.t 12) (.bin .lss (.t 11) (.c (.v (.int .i64 32))))]).seq (PC.cond (.t 12) ((PC.reg [mm 13 0,nn (.t 14) (.nilc (.t 13)),
  nn (.t 15) (.fadr 1 1 (.t 14)),nn .no (.store 1 (.t 15) (.c (.v (.bool true))))]).seq ((PC.reg [nn (.t 16) (.load 32 true (.v 3)),nn .no (.store 32
  (.v 2) (.t 16))]).seq PC.ret)) PC.skip)).seq ((PC.regD 0 [nn (.t 17) (.slcA 32 true (.v 3) none none none),mm 18 0,nn (.t 19) (.nilc (.t 18)),nn
  (.t 20) (.fadr 0 0 (.t 19)),nn (.t 21) (.load 1 false (.t 20)),nn (.t 22) (.copy (.t 17) (.t 21))] []).seq ((PC.reg [mm 23 0,mm 24 0,nn (.t 25)
  (.nilc (.t 24)),nn (.t 26) (.fadr 0 0 (.t 25)),nn (.t 27) (.load 1 false (.t 26)),nn (.t 28) (.slcS 1 (.t 27) (some (.c (.v (.int .i64 32)))) none
  none),nn (.t 29) (.nilc (.t 23)),nn (.t 30) (.fadr 0 0 (.t 29)),nn .no (.store 1 (.t 30) (.t 28))]).seq ((PC.reg [nn (.t 31) (.load 32 true (.v
  3)),nn .no (.store 32 (.v 2) (.t 31))]).seq PC.ret))))))) [(.v 2,some (32,true))]
def pf93:PF:=
 PF.mk 1 3 14 ((PC.reg [nn (.v 2) (.mv true (.c (.v (.bool false))))]).seq ((PC.reg [mm 3 0,nn (.t 4) (.call 117 [.t 3]),nn (.t 5) (.un .not (.t 4)),
  nn (.t 6) (.mv false (.t 5)),gm 7 0 6 true,⟨.t 8,.nilc (.t 7),some (.t 6,true)⟩,⟨.t 9,.fadr 0 0 (.t 8),some (.t 6,true)⟩,⟨.t 10,.load 1
  false (.t 9),some (.t 6,true)⟩,⟨.t 11,.len (.t 10),some (.t 6,true)⟩,⟨.t 12,.bin .eql (.t 11) (.c (.v (.int .i64 0))),some (.t 6,true)⟩,nn
  (.t 13) (.pick (.t 6) (.t 12) (.c (.v (.bool false)))),ma 2 13]).seq PC.ret)) [(.v 2,none)]
def pf90:PF:=
 PF.mk 1 3 7 ((PC.reg [nn (.v 2) (.mv true (.c (.v .nilp)))]).seq ((PC.reg [mm 3 0,nn (.t 4) (.call 50 [.t 3]),nn (.t 5) (.build (.agg [.nils,.bool
  false]) [(0,.t 4)]),nn (.t 6) (.newB (.t 5)),ma 2 6]).seq PC.ret)) [(.v 2,none)]
attribute [local irreducible] W Wops WopsD WL Wop WopD
variable {E:Env} {C:Abs.Spec} {l:List (Nat×Spec1)} {G:List (Nat×V)} {Q:R→List (Nat×V)→Prop}
set_option maxHeartbeats 1000000
def decR (b:List Int):Int×Int:=match decN b with
 |none=>(0,0)
 |some (n,k)=>((n:Int),(k:Int))
def SNb:Spec1
 |[.sli .u8 b],G,Q=>(Byt b∧b.length < 1000000000000)∧Q (.tup [.int .u64 (decR b).1,.int .i64 (decR b).2]) G
 |_,_,_=>False
theorem SNb_eq {b}:SNb [.sli .u8 b] G Q=((Byt b∧b.length < 1000000000000)∧Q (.tup [.int .u64 (decR b).1,.int .i64 (decR b).2]) G):=rfl
def SOff:Spec1
 |[.ptr id],G,Q=>∃b w,(Abs.look G id=some (.agg [.sli .u8 b,.bool w]))∧Q (.v (.bool w)) G
 |_,_,_=>False
theorem SOff_eq {id}:SOff [.ptr id] G Q=(∃b w,(Abs.look G id=some (.agg [.sli .u8 b,.bool w]))∧Q (.v (.bool w)) G):=rfl
def SNm:Spec1
 |[.ptr id],G,Q=>∃b w,(Abs.look G id=some (.agg [.sli .u8 b,.bool w])∧Byt b∧b.length < 1000000000000)∧Q (.v (.int .u64 (rdNum (b,w)).1)) (Abs.upd G id (Rd.v (rdNum (b,w)).2))
 |_,_,_=>False
theorem SNm_eq {id}:SNm [.ptr id] G Q=(∃b w,(Abs.look G id=some (.agg [.sli .u8 b,.bool w])∧Byt b∧b.length < 1000000000000)∧Q (.v (.int .u64 (rdNum (b,w)).1)) (Abs.upd G id (Rd.v (rdNum (b,w)).2))):=rfl
def SUp:Spec1
 |[.ptr id,.int .i64 top],G,Q=>∃b w n r w2,(Abs.look G id=some (.agg [.sli .u8 b,.bool w])∧Byt b∧b.length < 1000000000000∧(0≤top∧top < 9000000000000000000)∧rdUpto top (b,w)=(n,r,w2))∧Q (.v (.int .i64 n)) (Abs.upd G id (.agg [.sli .u8 r,.bool w2]))
 |_,_,_=>False
theorem SUp_eq {id top}:SUp [.ptr id,.int .i64 top] G Q=(∃b w n r w2,(Abs.look G id=some (.agg [.sli .u8 b,.bool w])∧Byt b∧b.length < 1000000000000∧(0≤top∧top < 9000000000000000000)∧rdUpto top (b,w)=(n,r,w2))∧Q (.v (.int .i64 n)) (Abs.upd G id (.agg [.sli .u8 r,.bool w2]))):=rfl
def SHs:Spec1
 |[.ptr id],G,Q=>∃b w hh r w2,(Abs.look G id=some (.agg [.sli .u8 b,.bool w])∧Byt b∧b.length < 1000000000000∧rdHash (b,w)=(hh,r,w2))∧Q (.v (.arr .u8 32 hh)) (Abs.upd G id (.agg [.sli .u8 r,.bool w2]))
 |_,_,_=>False
theorem SHs_eq {id}:SHs [.ptr id] G Q=(∃b w hh r w2,(Abs.look G id=some (.agg [.sli .u8 b,.bool w])∧Byt b∧b.length < 1000000000000∧rdHash (b,w)=(hh,r,w2))∧Q (.v (.arr .u8 32 hh)) (Abs.upd G id (.agg [.sli .u8 r,.bool w2]))):=rfl
def SDn:Spec1
 |[.ptr id],G,Q=>∃b w,(Abs.look G id=some (.agg [.sli .u8 b,.bool w]))∧Q (.v (.bool (!w&&decide (b.length=0)))) G
 |_,_,_=>False
theorem SDn_eq {id}:SDn [.ptr id] G Q=(∃b w,(Abs.look G id=some (.agg [.sli .u8 b,.bool w]))∧Q (.v (.bool (!w&&decide (b.length=0)))) G):=rfl
def SRd:Spec1
 |[x],G,Q=>∃b,(byV x=some b∧b.length < 1000000000000)∧∀id,Abs.look G id=none→Q (.v (.ptr id)) ((id,.agg [.sli .u8 b,.bool false])::G)
 |_,_,_=>False
theorem SRd_eq {x}:SRd [x] G Q=(∃b,(byV x=some b∧b.length < 1000000000000)∧∀id,Abs.look G id=none→Q (.v (.ptr id)) ((id,.agg [.sli .u8 b,.bool false])::G)):=rfl
theorem loop130 {b:List Int} {QQ:Ex→St→Prop} (hb:Byt b) (hl:b.length < 1000000000000)
  (hx:∀(acc:Int) (i:Nat) ts,decN b=none→QQ (.exit 0) ⟨[some (.v (.sli .u8 b)),none,none,none,some (.v (.int .u64 acc)),some (.v (.int .i64 i)),none],ts,[],G⟩)
  (hr:∀(n k acc c:Int) (i:Nat) ts,(n,k)=decR b→QQ .ret ⟨[some (.v (.sli .u8 b)),none,some (.v (.int .u64 n)),some (.v (.int .i64 k)),some (.v (.int .u64 acc)),some (.v (.int .i64 i)),some (.v (.int .u8 c))],ts,[],G⟩):
  ∀(m i acc:Nat),i+m=10→acc < 128 ^ i→decN b=decI i acc (b.drop i)→i≤b.length→WL (W E C lp130_0) [0,4,5] QQ (m+1) ⟨[some (.v (.sli .u8 b)),none,none,none,some (.v (.int .u64 acc)),some (.v (.int .i64 i)),none],[],[],G⟩:=by
 intro m
 induction m with
 |zero=>
  intro i acc hi ha hd hil
  obtain rfl:i=10:=by omega
  have hN:decN b=none:=by
   rw[hd];cases hq:b.drop 10 with
   |nil=>rfl
   |cons c r=>simp[decI]
  have h10:¬(10:Int) < 10:=by omega
  refine WL_in lp130_0.eq_1 ?_
  simp (maxSteps:=1000000) (implicitDefEqProofs:=false) only[h10,go_sem,↓reduceIte]
  repeat' first|(intro _)|constructor
  all_goals exact hx _ 10 _ hN
 |succ m ih=>
  intro i acc hi ha hd hil
  refine WL_in lp130_0.eq_1 ?_
  by_cases hlt:i < b.length
  ·have h1:(i:Int) < (b.length:Int):=by omega
   have h2:(i:Int) < 10:=by omega
   have h3:(0:Int)≤i:=by omega
   have hc:0≤b.getD i 0∧b.getD i 0≤255:=by
    have e:b.getD i 0=b[i]:=by simp[hlt]
    rw[e];exact hb _ (List.getElem_mem hlt)
   have hdr:=drop_cons hlt
   have hih:=ih (i+1)
   generalize hcd:b.getD i 0=c at*
   rw[hdr]at hd
   simp only[decI]at hd
   rw[if_neg (by omega)]at hd
   have ew:IntKind.i64.wrap ((i:Int)+1)=((i+1:Nat):Int):=by rw[w64 (by omega) (by omega)];simp
   have e7:IntKind.i64.wrap (7*(i:Int))=((7*i:Nat):Int):=by rw[w64 (by omega) (by omega)];simp
   have e7':(0:Int)≤((7*i:Nat):Int):=by omega
   have ea:=and127 hc
   have eu:IntKind.u64.wrap ((c.toNat % 128:Nat):Int)=((c.toNat % 128:Nat):Int):=w64u (by omega)
   by_cases hbad:(i=9∧1 < c)∨(0 < i∧c=0)
   ·rw[if_pos hbad]at hd
    have hR:((0:Int),(0:Int))=decR b:=by unfold decR;rw[hd]
    simp (maxSteps:=1000000) (implicitDefEqProofs:=false) only[h1,h2,h3,Int.toNat_natCast,hcd,go_sem,↓reduceIte]
    repeat' first|(intro _)|constructor
    all_goals first
     |exact hr 0 0 _ _ i _ hR
     |(exfalso;omega)
   ·rw[if_neg hbad]at hd
    have eo:bOr .u64 (acc:Int) (IntKind.u64.wrap (((c.toNat % 128:Nat):Int)*2 ^ (min (7*i) 64)))=((acc+(c.toNat % 128)*128 ^ i:Nat):Int):=or7 (by omega) ha (by omega) (by intro h9;omega)
    by_cases hlt8:c < 128
    ·rw[if_pos hlt8]at hd
     have hR:(((acc+(c.toNat % 128)*128 ^ i:Nat):Int),((i+1:Nat):Int))=decR b:=by
      unfold decR;rw[hd,show c.toNat % 128=c.toNat by omega]
     simp (maxSteps:=1000000) (implicitDefEqProofs:=false) only[h1,h2,h3,Int.toNat_natCast,hcd,ew,e7,e7',ea,eu,eo,hlt8,go_sem,↓reduceIte]
     repeat' first|(intro _)|constructor
     all_goals first
      |(exfalso;omega)
      |exact hr _ _ _ _ i _ hR
    ·rw[if_neg hlt8]at hd
     have hnn:c.toNat % 128=c.toNat-128:=by omega
     have hP:128 ^ (i+1)=128 ^ i*128:=Nat.pow_succ ..
     have hpos:=(pow_le9 (show i≤9 by omega)).1
     have ha2:acc+(c.toNat % 128)*128 ^ i < 128 ^ (i+1):=by
      have:(c.toNat % 128)*128 ^ i≤127*128 ^ i:=Nat.mul_le_mul_right _ (by omega)
      omega
     have ihh:=hih (acc+(c.toNat % 128)*128 ^ i) (by omega) ha2 (by rw[hd,hnn]) (by omega)
     simp (maxSteps:=1000000) (implicitDefEqProofs:=false) only[h1,h2,h3,Int.toNat_natCast,hcd,ew,e7,e7',ea,eu,eo,hlt8,go_sem,↓reduceIte]
     repeat' first|(intro _)|constructor
     all_goals first
      |(exfalso;omega)
      |exact ihh
  ·have h1:¬(i:Int) < (b.length:Int):=by omega
   have hN:decN b=none:=by
    rw[hd,List.drop_eq_nil_of_le (by omega)];simp[decI]
   simp (maxSteps:=1000000) (implicitDefEqProofs:=false) only[h1,go_sem,↓reduceIte]
   exact hx _ i _ hN
theorem walk130 {b:List Int} (hb:Byt b) (hl:b.length < 1000000000000) (h:Q (.tup [.int .u64 (decR b).1,.int .i64 (decR b).2]) G):Wf E C pf130 [.sli .u8 b] G Q:=by
 simp (maxSteps:=1000000) (implicitDefEqProofs:=false) only[pf130,go_sem,↓reduceIte]
 refine⟨11,?_⟩
 simp (maxSteps:=1000000) (implicitDefEqProofs:=false) only[go_sem,↓reduceIte]
 refine loop130 hb hl (fun acc i ts hN=> ?_) (fun n k acc c i ts hR=> ?_) 10 0 0 rfl (by decide) rfl (by omega)
 ·have e:decR b=(0,0):=by unfold decR;rw[hN]
  rw[e]at h
  simp (maxSteps:=1000000) (implicitDefEqProofs:=false) only[go_sem,↓reduceIte]
  exact h
 ·rw[←hR]at h
  simp (maxSteps:=1000000) (implicitDefEqProofs:=false) only[go_sem,↓reduceIte]
  exact h
theorem walk117 {id:Nat} {b:List Int} {w:Bool} (hG:Abs.look G id=some (.agg [.sli .u8 b,.bool w])) (h:Q (.v (.bool w)) G):Wf E C pf117 [.ptr id] G Q:=by
 simp (maxSteps:=1000000) (implicitDefEqProofs:=false) only[pf117,hG,go_sem,↓reduceIte]
 exact h
theorem walk93 {id:Nat} {b:List Int} {w:Bool} (h58:Abs.look l 117=some SOff) (hG:Abs.look G id=some (.agg [.sli .u8 b,.bool w])) (h:Q (.v (.bool (!w&&decide (b.length=0)))) G):Wf E (specOf l) pf93 [.ptr id] G Q:=by
 simp (maxSteps:=1000000) (implicitDefEqProofs:=false) only[pf93,h58,SOff_eq,go_sem,↓reduceIte]
 refine⟨b,w,hG,?_⟩
 cases w with
 |true=>try simp (maxSteps:=1000000) (implicitDefEqProofs:=false) only[go_sem,↓reduceIte];exact finB h (by simp)
 |false=>simp (maxSteps:=1000000) (implicitDefEqProofs:=false) only[hG,go_sem,↓reduceIte];exact finB h (by simp)
theorem walk118 {id:Nat} {b:List Int} {w:Bool} (h58:Abs.look l 117=some SOff) (h68:Abs.look l 130=some SNb) (hG:Abs.look G id=some (.agg [.sli .u8 b,.bool w])) (hb:Byt b) (hl:b.length < 1000000000000)
  (h:Q (.v (.int .u64 (rdNum (b,w)).1)) (Abs.upd G id (Rd.v (rdNum (b,w)).2))):Wf E (specOf l) pf118 [.ptr id] G Q:=by
 simp (maxSteps:=1000000) (implicitDefEqProofs:=false) only[pf118,h58,SOff_eq,go_sem,↓reduceIte]
 refine⟨b,w,hG,?_⟩
 cases w with
 |true=>
  have e:rdNum (b,true)=(0,(b,true)):=rfl
  rw[e,show Rd.v (b,true)= .agg [.sli .u8 b,.bool true]from rfl,upd_self hG]at h
  simp (maxSteps:=1000000) (implicitDefEqProofs:=false) only[go_sem,↓reduceIte]
  exact h
 |false=>
  cases hd:decN b with
  |none=>
   have e:rdNum (b,false)=(0,(b,true)):=by unfold rdNum;simp only[hd];rfl
   have eR:decR b=(0,0):=by unfold decR;rw[hd]
   rw[e]at h
   simp (maxSteps:=1000000) (implicitDefEqProofs:=false) only[hG,h68,SNb_eq,eR,upd_upd,go_sem,↓reduceIte]
   repeat' (first|assumption|omega|rfl|refine⟨?_,?_⟩)
  |some p=>
   obtain⟨n,k⟩:=p
   obtain⟨h1,h2,h3,h4⟩:=decN_spec hb hd
   have hk:=num_pos n
   have hk0:¬(k:Int)=0:=by omega
   have e:rdNum (b,false)=(n,(b.drop k,false)):=by unfold rdNum;simp only[hd];rfl
   have eR:decR b=((n:Int),(k:Int)):=by unfold decR;rw[hd]
   rw[e]at h
   have ht:b.take b.length=b:=List.take_of_length_le (Nat.le_refl _)
   simp (maxSteps:=1000000) (implicitDefEqProofs:=false) only[hG,h68,SNb_eq,eR,hk0,upd_upd,Int.toNat_natCast,ht,go_sem,↓reduceIte]
   repeat' (first|assumption|omega|rfl|refine⟨?_,?_⟩)
theorem walk91 {id:Nat} {b:List Int} {w:Bool} {top:Int} (h58:Abs.look l 117=some SOff) (h59:Abs.look l 118=some SNm) (hG:Abs.look G id=some (.agg [.sli .u8 b,.bool w])) (hb:Byt b) (hl:b.length < 1000000000000) (ht:0≤top∧top < 9000000000000000000)
  (h:Q (.v (.int .i64 (rdUpto top (b,w)).1)) (Abs.upd G id (Rd.v (rdUpto top (b,w)).2))):Wf E (specOf l) pf91 [.ptr id,.int .i64 top] G Q:=by
 simp (maxSteps:=1000000) (implicitDefEqProofs:=false) only[pf91,h58,SOff_eq,go_sem,↓reduceIte]
 refine⟨b,w,hG,?_⟩
 have hnt:¬top < 0:=by omega
 have et:IntKind.u64.wrap top=top:=by simp only[IntKind.wrap,IntKind.bits,IntKind.signed];simp;omega
 cases w with
 |true=>
  have e:rdUpto top (b,true)=(0,(b,true)):=rfl
  rw[e,show Rd.v (b,true)= .agg [.sli .u8 b,.bool true]from rfl,upd_self hG]at h
  simp (maxSteps:=1000000) (implicitDefEqProofs:=false) only[go_sem,↓reduceIte]
  exact h
 |false=>
  cases hd:decN b with
  |none=>
   have e:rdUpto top (b,false)=(0,(b,true)):=by unfold rdUpto;simp only[hd];rfl
   have eN:rdNum (b,false)=(0,(b,true)):=by unfold rdNum;simp only[hd];rfl
   have hG2:Abs.look (Abs.upd G id (.agg [.sli .u8 b,.bool true])) id=some (.agg [.sli .u8 b,.bool true]):=look_upd_same hG
   rw[e]at h
   simp (maxSteps:=1000000) (implicitDefEqProofs:=false) only[hG,h59,SNm_eq,go_sem,↓reduceIte]
   refine⟨b,false,⟨by first|exact hG|rfl,hb,hl⟩,?_⟩
   rw[eN]
   unfold Rd.v at*
   have hG3:Abs.look (Abs.upd G id (.agg [.sli .u8 b,.bool true])) id=some (.agg [.sli .u8 b,.bool true]):=look_upd_same hG
   simp (maxSteps:=1000000) (implicitDefEqProofs:=false) only[hG2,upd_upd,go_sem,↓reduceIte]
   exact h
  |some p=>
   obtain⟨n,k⟩:=p
   have eN:rdNum (b,false)=(n,(b.drop k,false)):=by unfold rdNum;simp only[hd];rfl
   have hG2:Abs.look (Abs.upd G id (.agg [.sli .u8 (b.drop k),.bool false])) id=some (.agg [.sli .u8 (b.drop k),.bool false]):=look_upd_same hG
   by_cases hn:top < (n:Int)
   ·have e:rdUpto top (b,false)=(0,(b,true)):=by unfold rdUpto;rw[if_neg (fun e=>by cases e)];simp only[hd];rw[if_pos (.inr hn)]
    have hG3:Abs.look (Abs.upd G id (.agg [.sli .u8 b,.bool false])) id=some (.agg [.sli .u8 b,.bool false]):=look_upd_same hG
    rw[e]at h
    simp (maxSteps:=1000000) (implicitDefEqProofs:=false) only[hG,h59,SNm_eq,go_sem,↓reduceIte]
    refine⟨b,false,⟨by first|exact hG|rfl,hb,hl⟩,?_⟩
    rw[eN]
    unfold Rd.v at*
    simp (maxSteps:=1000000) (implicitDefEqProofs:=false) only[hG2,hG3,hnt,et,hn,upd_upd,go_sem,↓reduceIte]
    exact h
   ·have e:rdUpto top (b,false)=((n:Int),(b.drop k,false)):=by unfold rdUpto;rw[if_neg (fun e=>by cases e)];simp only[hd];rw[if_neg (by omega)]
    have en:IntKind.i64.wrap (n:Int)=n:=w64 (by omega) (by omega)
    rw[e]at h
    simp (maxSteps:=1000000) (implicitDefEqProofs:=false) only[hG,h59,SNm_eq,go_sem,↓reduceIte]
    refine⟨b,false,⟨by first|exact hG|rfl,hb,hl⟩,?_⟩
    rw[eN]
    unfold Rd.v at*
    simp (maxSteps:=1000000) (implicitDefEqProofs:=false) only[hG2,hnt,et,hn,upd_upd,en,go_sem,↓reduceIte]
    exact h
theorem walk92 {id:Nat} {b:List Int} {w:Bool} (h58:Abs.look l 117=some SOff) (hG:Abs.look G id=some (.agg [.sli .u8 b,.bool w])) (hb:Byt b) (hl:b.length < 1000000000000)
  (h:Q (.v (.arr .u8 32 (rdHash (b,w)).1)) (Abs.upd G id (Rd.v (rdHash (b,w)).2))):Wf E (specOf l) pf92 [.ptr id] G Q:=by
 simp (maxSteps:=1000000) (implicitDefEqProofs:=false) only[pf92,h58,SOff_eq,go_sem,↓reduceIte]
 refine⟨b,w,hG,?_⟩
 cases w with
 |true=>
  have e:rdHash (b,true)=(zero32,(b,true)):=rfl
  rw[e,show Rd.v (b,true)= .agg [.sli .u8 b,.bool true]from rfl,upd_self hG]at h
  simp (maxSteps:=1000000) (implicitDefEqProofs:=false) only[go_sem,↓reduceIte]
  exact h
 |false=>
  by_cases h32:b.length < 32
  ·have e:rdHash (b,false)=(zero32,(b,true)):=by unfold rdHash;simp only[h32];rfl
   have h32':(b.length:Int) < 32:=by omega
   rw[e]at h
   simp (maxSteps:=1000000) (implicitDefEqProofs:=false) only[hG,h32',go_sem,↓reduceIte]
   exact h
  ·have e:rdHash (b,false)=(b.take 32,(b.drop 32,false)):=by unfold rdHash;simp only[h32];rfl
   have h32':¬(b.length:Int) < 32:=by omega
   have ht:b.take b.length=b:=List.take_of_length_le (Nat.le_refl _)
   have e2:b.take 32++List.drop b.length [0,0,0,0,0,0,0,0,0,0,0,0,0,0,0,0,0,0,0,0,0,0,0,0,0,0,0,0,0,0,0,0]=b.take 32:=by
    rw[List.drop_eq_nil_of_le (by simp;omega),List.append_nil]
   rw[e]at h
   simp (maxSteps:=1000000) (implicitDefEqProofs:=false) only[hG,h32',ht,e2,Int.toNat_natCast,go_sem,↓reduceIte]
   repeat' (first|assumption|omega|rfl|refine⟨?_,?_⟩)
theorem walk90 {b:List Int} (h50:Abs.look l 50=some SCl) (hb:b.length < 1000000000000) (h:∀id,Abs.look G id=none→Q (.v (.ptr id)) ((id,.agg [.sli .u8 b,.bool false])::G)):Wf E (specOf l) pf90 [.sli .u8 b] G Q:=by
 simp (maxSteps:=1000000) (implicitDefEqProofs:=false) only[pf90,h50,SCl_eq,go_sem,↓reduceIte]
 exact⟨b,⟨rfl,by omega⟩,h⟩
end Go.Proofs.YtjbglbhcbenhpaaDoor.Sha
