/- Bags: put, all. -/
import Derived.Test.YtjbglbhcbenhpaaWBag1
namespace Go.Proofs.Ytjbglbhcbenhpaa.Sha
open Go Go.Abs Go.Abs.Sha Go.Abs.Srt
set_option linter.unusedSimpArgs false
set_option linter.unusedVariables false
set_option maxRecDepth 100000
def lp13_0:PC:=
 (PC.reg [nn (.t 20) (.bin .lss (.v 19) (.v 18))]).seq ((PC.cond (.t 20) PC.skip (PC.exit 0)).seq ((PC.block 1 ((PC.reg [nn (.t 21) (.iadrS 349 (.v 17)
  (.v 19)),nn (.t 22) (.load 349 true (.t 21)),nn (.v 7) (.alloc (.agg [.int .i64 0,.int .i64 0,.int .i64 0,.agg [.int .i64 0,.int .i64 0,.int
  .i64 0,.int .i64 0,.arr .u8 32 zz2,.int .i64 0,.arr
  .u8 32 zz2,.arr .u8 32 [0,0,0,0,0,0,0,0,0,0,
  0,0,0,0,0,0,0,0,0,0,0,0,0,0,0,0,0,0,0,0,0,0]],.agg [.agg [.int .i64 0,.int .i64 0,.int .i64 0,.int .i64 0,.arr .u8 32 [0,
  0,0,0,0,0,0,0,0,0,0,0,0,0,0,0,0,0,0,0,0,0,0,0,0,0,0,0,0,0,0,0],.int .i64 0,.arr .u8 32 [0,0,0,0,0,0,0,0,0,0,
  0,0,0,0,0,0,0,0,0,0,0,0,0,0,0,0,0,0,0,0,0,0],.arr .u8 32 [0,0,0,0,0,0,0,0,0,0,0,0,0,0,0,0,0,0,0,0,0,0,0,
  0,0,0,0,0,0,0,0,0]],.nils],.agg [.int .i64 0,.int .i64 0,.int .i64 0,.arr .u8 32 [0,0,0,0,0,0,0,0,0,0,0,0,0,0,0,0,0,0,
  0,0,0,0,0,0,0,0,0,0,0,0,0,0],.nils,.arr .u8 32 [0,0,0,0,0,0,0,0,0,0,0,0,0,0,0,0,0,0,0,0,0,0,0,0,0,0,0,0,0,
  0,0,0]],.agg [.arr .u8 32 zz2,.int .i64 0,.int .i64
  0,.int .i64 0,.nils],.arr .u8 32 zz2,.agg [.int .i64
  0,.int .i64 0,.int .i64 0,.int .i64 0,.int .i64 0,.str ⟨⟨[]⟩⟩,.str ⟨⟨[]⟩⟩]])),nn .no (.store 349 (.v 7) (.t 22))]).seq ((PC.reg [mm 23 0,nn
  (.t 24) (.nilc (.t 23)),nn (.t 25) (.fadr 0 0 (.t 24)),nn (.t 26) (.load 1 false (.t 25)),nn (.t 27) (.len (.t 26)),nn (.t 28) (.bin .lss (.t 27)
  (.c (.v (.int .i64 400)))),nn (.t 29) (.mv false (.t 28)),⟨.t 30,.load 349 true (.v 7),some (.t 29,true)⟩,⟨.t 31,.call 43 [.t 30],some (.t
  29,true)⟩,⟨.t 32,.bin .eql (.t 31) (.c (.v (.int .i64 0))),some (.t 29,true)⟩,nn (.t 33) (.pick (.t 29) (.t 32) (.c (.v (.bool false))))]).seq
  (PC.cond (.t 33) ((PC.regW 0 [(0,mm 34 0),(1,mm 35 0),(2,nn (.t 36) (.nilc (.t 35))),(3,nn (.t 37) (.fadr 0 0 (.t 36))),(4,nn (.t 38) (.load
  1 false (.t 37))),(5,nn (.t 39) (.load 349 true (.v 7))),(6,nn (.t 40) (.buildS none 349 (.agg [.int .i64 0,.int .i64 0,.int .i64 0,.agg [.int
  .i64 0,.int .i64 0,.int .i64 0,.int .i64 0,.arr .u8 32 [0,0,0,0,0,0,0,0,0,0,0,0,0,0,0,0,0,0,0,0,0,0,0,0,0,0,0,0,0,0,
  0,0],.int .i64 0,.arr .u8 32 zz2,.arr .u8 32 [0,0,
  0,0,0,0,0,0,0,0,0,0,0,0,0,0,0,0,0,0,0,0,0,0,0,0,0,0,0,0,0,0]],.agg [.agg [.int .i64 0,.int .i64 0,.int .i64 0,.int
  .i64 0,.arr .u8 32 zz2,.int .i64 0,.arr .u8 32 [0,0,
  0,0,0,0,0,0,0,0,0,0,0,0,0,0,0,0,0,0,0,0,0,0,0,0,0,0,0,0,0,0],.arr .u8 32 [0,0,0,0,0,0,0,0,0,0,0,0,0,0,0,
  0,0,0,0,0,0,0,0,0,0,0,0,0,0,0,0,0]],.nils],.agg [.int .i64 0,.int .i64 0,.int .i64 0,.arr .u8 32 [0,0,0,0,0,0,0,0,0,0,
  0,0,0,0,0,0,0,0,0,0,0,0,0,0,0,0,0,0,0,0,0,0],.nils,.arr .u8 32 [0,0,0,0,0,0,0,0,0,0,0,0,0,0,0,0,0,0,0,0,0,
  0,0,0,0,0,0,0,0,0,0,0]],.agg [.arr .u8 32 [0,0,0,0,0,0,0,0,0,0,0,0,0,0,0,0,0,0,0,0,0,0,0,0,0,0,0,0,0,0,0,
  0],.int .i64 0,.int .i64 0,.int .i64 0,.nils],.arr .u8 32 [0,0,0,0,0,0,0,0,0,0,0,0,0,0,0,0,0,0,0,0,0,0,0,0,0,0,0,0,
  0,0,0,0],.agg [.int .i64 0,.int .i64 0,.int .i64 0,.int .i64 0,.int .i64 0,.str ⟨⟨[]⟩⟩,.str ⟨⟨[]⟩⟩]]) 1 [(0,.t 39)])),(7,nn (.t 41)
  (.appR 349 616 (.agg [.int .i64 0,.int .i64 0,.int .i64 0,.agg [.int .i64 0,.int .i64 0,.int .i64 0,.int .i64 0,.arr .u8 32 [0,0,0,0,0,0,
  0,0,0,0,0,0,0,0,0,0,0,0,0,0,0,0,0,0,0,0,0,0,0,0,0,0],.int .i64 0,.arr .u8 32 [0,0,0,0,0,0,0,0,0,0,0,0,0,0,0,
  0,0,0,0,0,0,0,0,0,0,0,0,0,0,0,0,0],.arr .u8 32 [0,0,0,0,0,0,0,0,0,0,0,0,0,0,0,0,0,0,0,0,0,0,0,0,0,0,0,0,
  0,0,0,0]],.agg [.agg [.int .i64 0,.int .i64 0,.int .i64 0,.int .i64 0,.arr .u8 32 [0,0,0,0,0,0,0,0,0,0,0,0,0,0,0,0,0,0,0,
  0,0,0,0,0,0,0,0,0,0,0,0,0],.int .i64 0,.arr .u8 32 [0,0,0,0,0,0,0,0,0,0,0,0,0,0,0,0,0,0,0,0,0,0,0,0,0,0,0,0,
  0,0,0,0],.arr .u8 32 zz2],.nils],.agg [.int .i64
  0,.int .i64 0,.int .i64 0,.arr .u8 32 zz2,.nils,
  .arr .u8 32 zz2],.agg [.arr .u8 32 [0,0,0,0,0,0,
  0,0,0,0,0,0,0,0,0,0,0,0,0,0,0,0,0,0,0,0,0,0,0,0,0,0],.int .i64 0,.int .i64 0,.int .i64 0,.nils],.arr .u8 32 [0,0,0,
  0,0,0,0,0,0,0,0,0,0,0,0,0,0,0,0,0,0,0,0,0,0,0,0,0,0,0,0,0],.agg [.int .i64 0,.int .i64 0,.int .i64 0,.int .i64 0,
  .int .i64 0,.str ⟨⟨[]⟩⟩,.str ⟨⟨[]⟩⟩]]) (.t 38) (.t 40))),(8,nn (.t 42) (.nilc (.t 34))),(9,nn (.t 43) (.fadr 0 0 (.t 42))),(10,nn .no (.store
  1 (.t 43) (.t 41)))] []).seq (PC.reg [mm 44 5,nn (.t 45) (.bin .add (.t 44) (.c (.v (.int .i64 1)))),ma 5 45])) PC.skip)))).seq (PC.reg [nn (.t 46)
  (.bin .add (.v 19) (.c (.v (.int .i64 1)))),nn (.v 19) (.mv false (.t 46))])))
def pf13:PF:=
 PF.mk 2 20 48 ((PC.reg [nn (.v 4) (.mv true (.c (.v (.int .i64 0))))]).seq (((PC.reg [nn (.v 8) (.mv false (.v 0)),nn (.v 9) (.binP .eql (.v 8) (.c
  (.v .nilp))),nn (.v 10) (.mv false (.v 9)),⟨.v 11,.mv false (.v 0),some (.v 10,false)⟩,⟨.v 12,.nilc (.v 11),some (.v 10,false)⟩,⟨.v 13,
  .fadr 1 1 (.v 12),some (.v 10,false)⟩,⟨.v 14,.load 1 false (.v 13),some (.v 10,false)⟩,⟨.v 15,.un .not (.v 14),some (.v 10,false)⟩,nn (.v
  16) (.pick (.v 10) (.c (.v (.bool true))) (.v 15))]).seq (PC.cond (.v 16) ((PC.reg [nn (.v 4) (.mv true (.c (.v (.int .i64 0))))]).seq PC.ret)
  PC.skip)).seq ((PC.reg [nn (.v 5) (.mv true (.c (.v (.int .i64 0))))]).seq (((PC.reg [nn (.v 17) (.mv false (.v 1)),nn (.v 18) (.len (.v 17)),nn
  (.v 19) (.mv false (.c (.v (.int .i64 0))))]).seq (PC.block 0 (PC.loop [0,5,17,18,19] lp13_0))).seq ((PC.reg [nn (.t 47) (.mv true (.v 5)),ma 4
  47]).seq PC.ret))))) [(.v 4,none)]
attribute [local irreducible] W Wops WopsD WL Wop WopD
variable {E:Env} {C:Abs.Spec} {l:List (Nat×Spec1)} {G:List (Nat×V)} {Q:R→List (Nat×V)→Prop}
set_option maxHeartbeats 1000000
def ZCl6:Spec1
 |[x],G,Q=>∃(G0:List (Nat×V)) (l:List MsgS),(Row G0 G 349 (.agg [.int .i64 0,.int .i64 0,.int .i64 0,.agg [.int .i64 0,.int .i64 0,.int .i64 0,.int .i64 0,.arr .u8 32 zz2,.int .i64 0,.arr .u8 32 zz2,.arr .u8 32 zz2],.agg [.agg [.int .i64 0,.int .i64 0,.int .i64 0,.int .i64 0,.arr .u8 32 zz2,.int .i64 0,.arr .u8 32 zz2,.arr .u8 32 zz2],.nils],.agg [.int .i64 0,.int .i64 0,.int .i64 0,.arr .u8 32 zz2,.nils,.arr .u8 32 zz2],.agg [.arr .u8 32 zz2,.int .i64 0,.int .i64 0,.int .i64 0,.nils],.arr .u8 32 zz2,.agg [.int .i64 0,.int .i64 0,.int .i64 0,.int .i64 0,.int .i64 0,.str ⟨⟨[]⟩⟩,.str ⟨⟨[]⟩⟩]]) x (l.map MsgS.v)∧l.length < 1000000)∧Q (.v (.sle 349 (l.map MsgS.v))) G
 |_,_,_=>False
theorem low_row {x:V} {els:List V} {G':List (Nat×V)} (h:Row G G' 349 (.agg [.int .i64 0,.int .i64 0,.int .i64 0,.agg [.int .i64 0,.int .i64 0,.int .i64 0,.int .i64 0,.arr .u8 32 zz2,.int .i64 0,.arr .u8 32 zz2,.arr .u8 32 zz2],.agg [.agg [.int .i64 0,.int .i64 0,.int .i64 0,.int .i64 0,.arr .u8 32 zz2,.int .i64 0,.arr .u8 32 zz2,.arr .u8 32 zz2],.nils],.agg [.int .i64 0,.int .i64 0,.int .i64 0,.arr .u8 32 zz2,.nils,.arr .u8 32 zz2],.agg [.arr .u8 32 zz2,.int .i64 0,.int .i64 0,.int .i64 0,.nils],.arr .u8 32 zz2,.agg [.int .i64 0,.int .i64 0,.int .i64 0,.int .i64 0,.int .i64 0,.str ⟨⟨[]⟩⟩,.str ⟨⟨[]⟩⟩]]) x els):Low G (.v x) G' (.v (.sle 349 els)) G:=
 h.fz (fun y=> .v y) (fun id L k y hy=>by simp only[R.Fz];exact⟨_,rfl,hy⟩) (fun y hy=>by simp only[R.Wk];exact⟨_,rfl,hy⟩)
theorem low_nil {sz:Nat}:Low G (.own .nils) G (.v (.sle sz [])) G:= .wk (by unfold R.Wk;exact .inl ⟨_,rfl,wk_nils⟩) (WkG.refl _) (.refl _ _)
theorem walk49 {x:V} {G0:List (Nat×V)} {l2:List MsgS} (hR:Row G0 G 349 (.agg [.int .i64 0,.int .i64 0,.int .i64 0,.agg [.int .i64 0,.int .i64 0,.int .i64 0,.int .i64 0,.arr .u8 32 zz2,.int .i64 0,.arr .u8 32 zz2,.arr .u8 32 zz2],.agg [.agg [.int .i64 0,.int .i64 0,.int .i64 0,.int .i64 0,.arr .u8 32 zz2,.int .i64 0,.arr .u8 32 zz2,.arr .u8 32 zz2],.nils],.agg [.int .i64 0,.int .i64 0,.int .i64 0,.arr .u8 32 zz2,.nils,.arr .u8 32 zz2],.agg [.arr .u8 32 zz2,.int .i64 0,.int .i64 0,.int .i64 0,.nils],.arr .u8 32 zz2,.agg [.int .i64 0,.int .i64 0,.int .i64 0,.int .i64 0,.int .i64 0,.str ⟨⟨[]⟩⟩,.str ⟨⟨[]⟩⟩]]) x (l2.map MsgS.v)) (hl:l2.length < 1000000)
  (h:Q (.v (.sle 349 (l2.map MsgS.v))) G):Wf E C pf49 [x] G (fun r G'=>∃r2 G2,Low G r G' r2 G2∧Q r2 G2):=by
 obtain⟨he,⟨rfl,h0⟩|⟨id,c,L,rfl,h1,h2,h3,h4,h5,h6⟩⟩:=hR
 ·have h0:=List.map_eq_nil_iff.1 h0
  subst h0
  simp -implicitDefEqProofs only[pf49,go_sem,↓reduceIte]
  exact fun b=>⟨fun _=>⟨_,_,low_nil,h⟩,fun _=>⟨(fun x hx=>by cases hx),_,_,.refl _ _,h⟩⟩
 ·have hall:(L.all fun x=>x.size==349)=true:=List.all_eq_true.2 fun y hy=>by rw[(h6 y hy).1];rfl
  rw[List.length_map]at h3 h5
  have h7:l2.length≤L.length:=by omega
  have hz:l2.length=0→l2=[]:=List.eq_nil_of_length_eq_zero
  simp -implicitDefEqProofs only[pf49,List.length_map,h2,hall,h7,List.drop_zero,h5,go_sem,↓reduceIte]
  refine fun b hb=>⟨fun e=> ?_,fun e=> ?_⟩
  ·have:=hz (by have:=hb e;omega)
   subst this;exact⟨_,_,low_nil,h⟩
  ·refine⟨⟨by omega,fun x hx=>(rw_map hx).1⟩,fun e=> ?_,fun _ id' c' hid hc=>⟨_,_,low_row (els:=l2.map MsgS.v) ⟨Ext.cons hid,.inr ⟨id',c',_,by rw[List.length_map],hid,by rw[look_cons,if_pos rfl],by rw[List.length_map];exact hc,by simp;omega,by rw[List.take_left],fun y hy=> ?_⟩⟩,h⟩⟩
   ·have:=List.map_eq_nil_iff.1 e
    subst this;exact⟨_,_,.refl _ _,h⟩
   ·rcases List.mem_append.1 hy with hy|hy
    ·exact rw_map hy
    ·rw[List.eq_of_mem_replicate hy];exact⟨rfl,rfl⟩
def putB:List MsgS→List MsgS→List MsgS×Int
 |l,[]=>(l,0)
 |l,m::r=>if l.length < 400∧m.may=true then ((putB (l++[m]) r).1,(putB (l++[m]) r).2+1)else putB l r
def ZPb:Spec1
 |[.nilp,y],G,Q=>Q (.v (.int .i64 0)) G
 |[.ptr id,y],G,Q=>∃l b ms,(BagAt G id l b∧V.Wk y (.sle 349 (ms.map MsgS.v))∧(∀m∈ms,m.ok)∧ms.length < 1000000∧l.length≤400)∧∀G',BagAt G' id (if b=true then (putB l ms).1 else l) b→Q (.v (.int .i64 (if b=true then (putB l ms).2 else 0))) G'
 |_,_,_=>False
theorem getD_ms {l:List MsgS} {j:Nat} {p:MsgS} {r:List MsgS} (h:l.drop j=p::r):(l.map MsgS.v).getD j V.nilp=p.v:=by
 have:(l.drop j)[0]? =some p:=by rw[h];rfl
 rw[List.getElem?_drop,Nat.add_zero]at this
 simp[List.getD,this]
theorem loop13 (hC:Abs.look l 43=some ZCh) {QQ:Ex→St→Prop} {id:Nat} {ms:List MsgS} (hok:∀m∈ms,m.ok) (hl:ms.length < 1000000):
  ∀(r:List MsgS) (j:Nat) (did:Int) (l2:List MsgS) (G:List (Nat×V)) (rest:List Bx),ms.drop j=r→j≤ms.length→(0≤did∧did≤j)→BagAt G id l2 true→l2.length≤400→
   (∀ts G' L,BagAt G' id (putB l2 r).1 true→QQ (.exit 0) ⟨[some (.v (.ptr id)),none,none,none,none,some (.v (.int .i64 (did+(putB l2 r).2))),none,none,none,none,none,none,none,none,none,none,none,some (.v (.sle 349 (ms.map MsgS.v))),some (.v (.int .i64 (ms.length:Nat))),some (.v (.int .i64 (ms.length:Nat)))],ts,L,G'⟩)→
   WL (W E (specOf l) lp13_0) [0,5,17,18,19] QQ (r.length+1) ⟨[some (.v (.ptr id)),none,none,none,none,some (.v (.int .i64 (did))),none,none,none,none,none,none,none,none,none,none,none,some (.v (.sle 349 (ms.map MsgS.v))),some (.v (.int .i64 (ms.length:Nat))),some (.v (.int .i64 (j:Nat)))],[],rest,G⟩:=by
 intro r
 induction r with
 |nil=>
  intro j did l2 G rest hd hj hdid hB hl4 hx
  have:=drop_none hd
  have c1:¬(j:Int) < (ms.length:Int):=by omega
  obtain rfl:j=ms.length:=by omega
  refine WL_in lp13_0.eq_1 ?_
  simp -implicitDefEqProofs only[c1,go_sem,↓reduceIte]
  simp only[putB,Int.add_zero]at hx
  exact hx _ _ _ hB
 |cons p r ih=>
  intro j did l2 G rest hd hj hdid hB hl4 hx
  obtain⟨hd2,hj2,hlen⟩:=drop_one hd
  have g:=getD_ms hd
  have c1:(j:Int) < (ms.length:Int):=by omega
  have c2:(0:Int)≤(j:Int):=by omega
  have w1:IntKind.i64.wrap ((j:Int)+1)=((j+1:Nat):Int):=wc (by omega) (by omega)
  have w2:IntKind.i64.wrap (did+1)=did+1:=w64 (by omega) (by omega)
  have hB0:=hB
  obtain⟨x,hR⟩:=hB
  have h1:Abs.look G id=some (.agg [x,.bool true]):=hR.1 id _ (by rw[look_cons,if_pos rfl])
  have h2:=hR.lenI
  rw[List.length_map]at h2
  obtain⟨h3,h4⟩:=hR.one
  unfold V.isAgg at h4
  unfold V.lenI at h2
  obtain⟨z1,z2⟩:=MsgS.vs p
  unfold V.isAgg at z2
  have pok:p.ok:=hok p (List.mem_of_mem_drop (by rw[hd];exact List.mem_cons_self ..))
  have sm:V.same p.v (.agg [.int .i64 0,.int .i64 0,.int .i64 0,.agg [.int .i64 0,.int .i64 0,.int .i64 0,.int .i64 0,.arr .u8 32 zz2,.int .i64 0,.arr .u8 32 zz2,.arr .u8 32 zz2],.agg [.agg [.int .i64 0,.int .i64 0,.int .i64 0,.int .i64 0,.arr .u8 32 zz2,.int .i64 0,.arr .u8 32 zz2,.arr .u8 32 zz2],.nils],.agg [.int .i64 0,.int .i64 0,.int .i64 0,.arr .u8 32 zz2,.nils,.arr .u8 32 zz2],.agg [.arr .u8 32 zz2,.int .i64 0,.int .i64 0,.int .i64 0,.nils],.arr .u8 32 zz2,.agg [.int .i64 0,.int .i64 0,.int .i64 0,.int .i64 0,.int .i64 0,.str ⟨⟨[]⟩⟩,.str ⟨⟨[]⟩⟩]])=true:=rfl
  have hA:∀x:Bx,(rest++[x])[rest.length]? =some x:=fun x=>by simp
  have hS:∀x z:Bx,(rest++[x]).set rest.length z=rest++[z]:=fun x z=>by simp
  refine WL_in lp13_0.eq_1 ?_
  simp -implicitDefEqProofs only[c1,c2,g,w1,w2,z1,z2,sm,h1,h2,h3,h4,Int.toNat_natCast,List.length_map,hA,hS,hC,ZCh_eq,go_sem,↓reduceIte]
  have skip:¬(l2.length < 400∧p.may=true)→putB l2 (p::r)=putB l2 r:=fun e=>by rw[putB,if_neg e]
  refine⟨fun e4=>⟨p,⟨V.Wk.refl _,pok⟩,fun e5=> ?_,fun e5=> ?_⟩,fun e4=> ?_⟩
  ·have pm:p.may=true:=by
    cases hq:p.may with
    |true=>rfl
    |false=>rw[hq]at e5;exact absurd e5 (by decide)
   have e:putB l2 (p::r)=((putB (l2++[p]) r).1,(putB (l2++[p]) r).2+1):=by rw[putB,if_pos ⟨by omega,pm⟩]
   refine Row.app (G0:=[(id,.agg [x,.bool true])]) (sz:=349) (z:= .agg [.int .i64 0,.int .i64 0,.int .i64 0,.agg [.int .i64 0,.int .i64 0,.int .i64 0,.int .i64 0,.arr .u8 32 zz2,.int .i64 0,.arr .u8 32 zz2,.arr .u8 32 zz2],.agg [.agg [.int .i64 0,.int .i64 0,.int .i64 0,.int .i64 0,.arr .u8 32 zz2,.int .i64 0,.arr .u8 32 zz2,.arr .u8 32 zz2],.nils],.agg [.int .i64 0,.int .i64 0,.int .i64 0,.arr .u8 32 zz2,.nils,.arr .u8 32 zz2],.agg [.arr .u8 32 zz2,.int .i64 0,.int .i64 0,.int .i64 0,.nils],.arr .u8 32 zz2,.agg [.int .i64 0,.int .i64 0,.int .i64 0,.int .i64 0,.int .i64 0,.str ⟨⟨[]⟩⟩,.str ⟨⟨[]⟩⟩]]) (y:=p.v) (els:=l2.map MsgS.v) hR (by rw[List.length_map];omega) ⟨rfl,rfl⟩ rfl (fun u hu=>rw_map hu) (fun x' G2 hr2=> ?_)
   obtain⟨q1,q2⟩:=hr2.one
   unfold V.isAgg at q2
   have yl:=hR.like hr2
   have h1':Abs.look G2 id=some (.agg [x,.bool true]):=hr2.1 id _ (by rw[look_cons,if_pos rfl])
   have hup:=hr2.upd (id:=id) (u:= .agg [x,.bool true]) (y:= .agg [x',.bool true]) (by rw[look_cons,if_pos rfl])
   simp -implicitDefEqProofs only[h1',q1,q2,h3,h4,yl,w1,w2,go_sem,↓reduceIte]
   refine ih (j+1) (did+1) (l2++[p]) _ _ hd2 (by omega) (by omega) ⟨x',?_⟩ (by rw[List.length_append,List.length_singleton];omega) (fun ts G' L hB'=> ?_)
   ·rw[List.map_append]
    have e9:Abs.upd [(id,V.agg [x,.bool true])] id (.agg [x',.bool true])=[(id,V.agg [x',.bool true])]:=by simp[Abs.upd]
    rw[e9]at hup;exact hup
   ·have:=hx ts G' L (by rw[e];exact hB')
    rw[e]at this
    dsimp only at this
    rw[show did+((putB (l2++[p]) r).2+1)=did+1+(putB (l2++[p]) r).2 by omega]at this
    exact this
  ·rw[skip (fun h=>e5 (by rw[h.2];rfl))]at hx
   exact ih (j+1) did l2 G _ hd2 (by omega) (by omega) hB0 hl4 hx
  ·rw[skip (fun h=>by omega)]at hx
   exact ih (j+1) did l2 G _ hd2 (by omega) (by omega) hB0 hl4 hx
theorem walk13n {y:V} (h:Q (.v (.int .i64 0)) G):Wf E C pf13 [.nilp,y] G Q:=by
 simp -implicitDefEqProofs only[pf13,go_sem,↓reduceIte]
 exact h
theorem walk13 {id:Nat} {l2 ms:List MsgS} {b:Bool} (hC:Abs.look l 43=some ZCh) (hB:BagAt G id l2 b) (hok:∀m∈ms,m.ok) (hl:ms.length < 1000000) (hl4:l2.length≤400)
  (h:∀G',BagAt G' id (if b=true then (putB l2 ms).1 else l2) b→Q (.v (.int .i64 (if b=true then (putB l2 ms).2 else 0))) G'):Wf E (specOf l) pf13 [.ptr id,.sle 349 (ms.map MsgS.v)] G Q:=by
 obtain⟨x,h1,h2,h3,h4⟩:=hB.at
 unfold V.isAgg at h4
 cases b with
 |false=>
  simp -implicitDefEqProofs only[pf13,h1,h3,h4,go_sem,↓reduceIte]
  exact h G hB
 |true=>
  simp -implicitDefEqProofs only[pf13,h1,h3,h4,List.length_map,go_sem,↓reduceIte]
  refine⟨ms.length+1,?_⟩
  try simp -implicitDefEqProofs only[go_sem,↓reduceIte]
  refine loop13 hC hok hl ms 0 0 l2 G [] rfl (Nat.zero_le _) ⟨by omega,by omega⟩ hB hl4 (fun ts G' L hB'=> ?_)
  have hq:=h G' hB'
  simp -implicitDefEqProofs only[go_sem,↓reduceIte]
  rw[Int.zero_add];exact hq
end Go.Proofs.Ytjbglbhcbenhpaa.Sha
