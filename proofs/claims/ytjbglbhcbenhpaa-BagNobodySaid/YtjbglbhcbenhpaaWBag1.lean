/- Bags. -/
import Derived.Test.YtjbglbhcbenhpaaG9
namespace Go.Proofs.Ytjbglbhcbenhpaa.Sha
open Go Go.Abs Go.Abs.Sha Go.Abs.Srt
set_option linter.unusedSimpArgs false
set_option linter.unusedVariables false
set_option maxRecDepth 100000
def pf45:PF:=
 PF.mk 3 8 33 ((PC.reg [nn (.v 6) (.mv true (.c (.own .nils)))]).seq ((PC.reg [mm 8 0,mm 9 1,mm 10 2,mm 11 0,nn (.t 12) (.len (.t 11)),nn (.t 13)
  (.slcS 349 (.t 8) (some (.t 9)) (some (.t 10)) (some (.t 12)))]).seq (((PC.reg [mm 14 1,mm 15 2,nn (.t 16) (.bin .eql (.t 14) (.t 15))]).seq
  (PC.cond (.t 16) ((PC.reg [nn (.t 17) (.mv true (.v 0)),ma 6 17]).seq PC.ret) PC.skip)).seq ((PC.reg [mm 18 0,nn (.t 19) (.len (.t 18)),ma 7
  19]).seq ((PC.regW 0 [(0,mm 20 0),(1,mm 21 1),(2,nn (.t 22) (.slcS 349 (.t 20) none (some (.t 21)) none)),(3,mm 23 0),(4,mm 24 2),(5,nn
  (.t 25) (.slcS 349 (.t 23) (some (.t 24)) none none)),(6,nn (.t 26) (.appR 349 616 (.agg [.int .i64 0,.int .i64 0,.int .i64 0,.agg [.int .i64 0,
  .int .i64 0,.int .i64 0,.int .i64 0,.arr .u8 32 zz2,
  .int .i64 0,.arr .u8 32 zz2,.arr .u8 32 [0,0,0,0,
  0,0,0,0,0,0,0,0,0,0,0,0,0,0,0,0,0,0,0,0,0,0,0,0,0,0,0,0]],.agg [.agg [.int .i64 0,.int .i64 0,.int .i64 0,.int .i64 0,
  .arr .u8 32 zz2,.int .i64 0,.arr .u8 32 [0,0,0,0,
  0,0,0,0,0,0,0,0,0,0,0,0,0,0,0,0,0,0,0,0,0,0,0,0,0,0,0,0],.arr .u8 32 [0,0,0,0,0,0,0,0,0,0,0,0,0,0,0,0,0,
  0,0,0,0,0,0,0,0,0,0,0,0,0,0,0]],.nils],.agg [.int .i64 0,.int .i64 0,.int .i64 0,.arr .u8 32 [0,0,0,0,0,0,0,0,0,0,0,0,
  0,0,0,0,0,0,0,0,0,0,0,0,0,0,0,0,0,0,0,0],.nils,.arr .u8 32 [0,0,0,0,0,0,0,0,0,0,0,0,0,0,0,0,0,0,0,0,0,0,0,
  0,0,0,0,0,0,0,0,0]],.agg [.arr .u8 32 zz2,.int
  .i64 0,.int .i64 0,.int .i64 0,.nils],.arr .u8 32 [0,0,0,0,0,0,0,0,0,0,0,0,0,0,0,0,0,0,0,0,0,0,0,0,0,0,0,0,0,0,0,
  0],.agg [.int .i64 0,.int .i64 0,.int .i64 0,.int .i64 0,.int .i64 0,.str ⟨⟨[]⟩⟩,.str ⟨⟨[]⟩⟩]]) (.t 22) (.t 25))),(7,ma 0 26)] []).seq
  ((PC.reg [mm 27 0,mm 28 0,nn (.t 29) (.len (.t 28)),mm 30 7,nn (.t 31) (.slcS 349 (.t 27) (some (.t 29)) (some (.t 30)) none),nn .no (.clr 349
  (.agg [.int .i64 0,.int .i64 0,.int .i64 0,.agg [.int .i64 0,.int .i64 0,.int .i64 0,.int .i64 0,.arr .u8 32 [0,0,0,0,0,0,0,0,0,0,0,
  0,0,0,0,0,0,0,0,0,0,0,0,0,0,0,0,0,0,0,0,0],.int .i64 0,.arr .u8 32 [0,0,0,0,0,0,0,0,0,0,0,0,0,0,0,0,0,0,0,0,
  0,0,0,0,0,0,0,0,0,0,0,0],.arr .u8 32 zz2],
  .agg [.agg [.int .i64 0,.int .i64 0,.int .i64 0,.int .i64 0,.arr .u8 32 [0,0,0,0,0,0,0,0,0,0,0,0,0,0,0,0,0,0,0,0,0,0,0,0,
  0,0,0,0,0,0,0,0],.int .i64 0,.arr .u8 32 zz2,
  .arr .u8 32 zz2],.nils],.agg [.int .i64 0,.int .i64
  0,.int .i64 0,.arr .u8 32 zz2,.nils,.arr .u8 32 [0,
  0,0,0,0,0,0,0,0,0,0,0,0,0,0,0,0,0,0,0,0,0,0,0,0,0,0,0,0,0,0,0]],.agg [.arr .u8 32 [0,0,0,0,0,0,0,0,0,0,0,0,
  0,0,0,0,0,0,0,0,0,0,0,0,0,0,0,0,0,0,0,0],.int .i64 0,.int .i64 0,.int .i64 0,.nils],.arr .u8 32 [0,0,0,0,0,0,0,0,0,
  0,0,0,0,0,0,0,0,0,0,0,0,0,0,0,0,0,0,0,0,0,0,0],.agg [.int .i64 0,.int .i64 0,.int .i64 0,.int .i64 0,.int .i64 0,.str
  ⟨⟨[]⟩⟩,.str ⟨⟨[]⟩⟩]]) (.t 31))]).seq ((PC.reg [nn (.t 32) (.mv true (.v 0)),ma 6 32]).seq PC.ret))))))) [(.v 6,none)]
def pf49:PF:=
 PF.mk 1 3 8 ((PC.reg [nn (.v 2) (.mv true (.c (.own .nils)))]).seq (((PC.reg [mm 3 0,nn (.t 4) (.nileq false (.t 3))]).seq (PC.cond (.t 4) ((PC.reg
  [nn (.v 2) (.mv true (.c (.own .nils)))]).seq PC.ret) PC.skip)).seq ((PC.reg [nn (.t 5) (.slcZ (.c (.own .nils))),mm 6 0,nn (.t 7) (.appR 349 616
  (.agg [.int .i64 0,.int .i64 0,.int .i64 0,.agg [.int .i64 0,.int .i64 0,.int .i64 0,.int .i64 0,.arr .u8 32 [0,0,0,0,0,0,0,0,0,0,0,
  0,0,0,0,0,0,0,0,0,0,0,0,0,0,0,0,0,0,0,0,0],.int .i64 0,.arr .u8 32 [0,0,0,0,0,0,0,0,0,0,0,0,0,0,0,0,0,0,0,0,
  0,0,0,0,0,0,0,0,0,0,0,0],.arr .u8 32 zz2],
  .agg [.agg [.int .i64 0,.int .i64 0,.int .i64 0,.int .i64 0,.arr .u8 32 [0,0,0,0,0,0,0,0,0,0,0,0,0,0,0,0,0,0,0,0,0,0,0,0,
  0,0,0,0,0,0,0,0],.int .i64 0,.arr .u8 32 zz2,
  .arr .u8 32 zz2],.nils],.agg [.int .i64 0,.int .i64
  0,.int .i64 0,.arr .u8 32 zz2,.nils,.arr .u8 32 [0,
  0,0,0,0,0,0,0,0,0,0,0,0,0,0,0,0,0,0,0,0,0,0,0,0,0,0,0,0,0,0,0]],.agg [.arr .u8 32 [0,0,0,0,0,0,0,0,0,0,0,0,
  0,0,0,0,0,0,0,0,0,0,0,0,0,0,0,0,0,0,0,0],.int .i64 0,.int .i64 0,.int .i64 0,.nils],.arr .u8 32 [0,0,0,0,0,0,0,0,0,
  0,0,0,0,0,0,0,0,0,0,0,0,0,0,0,0,0,0,0,0,0,0,0],.agg [.int .i64 0,.int .i64 0,.int .i64 0,.int .i64 0,.int .i64 0,.str
  ⟨⟨[]⟩⟩,.str ⟨⟨[]⟩⟩]]) (.t 5) (.t 6)),ma 2 7]).seq PC.ret))) [(.v 2,none)]
def pf11:PF:=
 PF.mk 0 1 3 ((PC.reg [nn (.v 0) (.mv true (.c (.v .nilp)))]).seq ((PC.reg [nn (.t 1) (.build (.agg [.nils,.bool false]) [(1,.c (.v (.bool true)))]),
  nn (.t 2) (.newB (.t 1)),ma 0 2]).seq PC.ret)) [(.v 0,none)]
def pf44:PF:=
 PF.mk 2 5 27 ((PC.reg [nn (.v 4) (.mv true (.c (.v (.int .i64 0))))]).seq ((PC.block 0 ((PC.reg [mm 6 0,nn (.t 7) (.binP .eql (.t 6) (.c (.v .nilp))),
  nn (.t 8) (.mv false (.t 7)),gm 9 0 8 false,⟨.t 10,.nilc (.t 9),some (.t 8,false)⟩,⟨.t 11,.fadr 1 1 (.t 10),some (.t 8,false)⟩,⟨.t 12,
  .load 1 false (.t 11),some (.t 8,false)⟩,⟨.t 13,.un .not (.t 12),some (.t 8,false)⟩,nn (.t 14) (.pick (.t 8) (.c (.v (.bool true))) (.t 13)),
  nn (.t 5) (.mv true (.t 14))]).seq (PC.cond (.t 5) ((PC.reg [nn (.v 4) (.mv true (.c (.v (.int .i64 5))))]).seq PC.ret) ((PC.reg [mm 16 1,nn (.t 17)
  (.bin .lss (.t 16) (.c (.v (.int .i64 0)))),nn (.t 18) (.mv false (.t 17)),gm 19 1 18 false,gm 20 0 18 false,⟨.t 21,.nilc (.t 20),some (.t 18,
  false)⟩,⟨.t 22,.fadr 0 0 (.t 21),some (.t 18,false)⟩,⟨.t 23,.load 1 false (.t 22),some (.t 18,false)⟩,⟨.t 24,.len (.t 23),some (.t 18,
  false)⟩,⟨.t 25,.bin .geq (.t 19) (.t 24),some (.t 18,false)⟩,nn (.t 26) (.pick (.t 18) (.c (.v (.bool true))) (.t 25)),nn (.t 15) (.mv true (.t
  26))]).seq (PC.cond (.t 15) ((PC.reg [nn (.v 4) (.mv true (.c (.v (.int .i64 3))))]).seq PC.ret) PC.skip))))).seq ((PC.reg [nn (.v 4) (.mv true (.c
  (.v (.int .i64 0))))]).seq PC.ret))) [(.v 4,none)]
attribute [local irreducible] W Wops WopsD WL Wop WopD
variable {E:Env} {C:Abs.Spec} {l:List (Nat×Spec1)} {G:List (Nat×V)} {Q:R→List (Nat×V)→Prop}
set_option maxHeartbeats 1000000
def BagAt (G:List (Nat×V)) (id:Nat) (l:List MsgS) (b:Bool):Prop:=∃x,Row [(id,.agg [x,.bool b])] G 349 (.agg [.int .i64 0,.int .i64 0,.int .i64 0,.agg [.int .i64 0,.int .i64 0,.int .i64 0,.int .i64 0,.arr .u8 32 zz2,.int .i64 0,.arr .u8 32 zz2,.arr .u8 32 zz2],.agg [.agg [.int .i64 0,.int .i64 0,.int .i64 0,.int .i64 0,.arr .u8 32 zz2,.int .i64 0,.arr .u8 32 zz2,.arr .u8 32 zz2],.nils],.agg [.int .i64 0,.int .i64 0,.int .i64 0,.arr .u8 32 zz2,.nils,.arr .u8 32 zz2],.agg [.arr .u8 32 zz2,.int .i64 0,.int .i64 0,.int .i64 0,.nils],.arr .u8 32 zz2,.agg [.int .i64 0,.int .i64 0,.int .i64 0,.int .i64 0,.int .i64 0,.str ⟨⟨[]⟩⟩,.str ⟨⟨[]⟩⟩]]) x (l.map MsgS.v)
theorem BagAt.at {G:List (Nat×V)} {id:Nat} {l:List MsgS} {b:Bool} (h:BagAt G id l b):∃x,Abs.look G id=some (.agg [x,.bool b])∧x.lenI=some (l.length:Int)∧(V.size x=1∧V.isAgg x=false):=by
 obtain⟨x,h⟩:=h
 refine⟨x,h.1 id _ (by rw[look_cons,if_pos rfl]),?_,h.one⟩
 have:=h.lenI
 rwa [List.length_map]at this
theorem BagAt.new {G:List (Nat×V)} {id:Nat} {b:Bool}:BagAt ((id,.agg [.nils,.bool b])::G) id [] b:=⟨.nils,Row.nil fun j x hj=>by
  rw[look_cons]at hj
  split at hj
  ·rename_i e;cases hj;rw[look_cons,if_pos e]
  ·cases hj⟩
def ZNb:Spec1
 |[],G,Q=>∀id,Abs.look G id=none→Q (.v (.ptr id)) ((id,.agg [.nils,.bool true])::G)
 |_,_,_=>False
theorem walk11 (h:∀id,Abs.look G id=none→Q (.v (.ptr id)) ((id,.agg [.nils,.bool true])::G)):Wf E C pf11 [] G Q:=by
 simp -implicitDefEqProofs only[pf11,go_sem,↓reduceIte]
 exact fun id hid=>h id hid
def atE (l:List MsgS) (b:Bool) (i:Int):Int:=if b=false then 5 else if i < 0∨(l.length:Int)≤i then 3 else 0
def ZAt:Spec1
 |[.nilp,.int .i64 i],G,Q=>Q (.v (.int .i64 5)) G
 |[.ptr id,.int .i64 i],G,Q=>∃l b,BagAt G id l b∧Q (.v (.int .i64 (atE l b i))) G
 |_,_,_=>False
theorem walk44n {i:Int} (h:Q (.v (.int .i64 5)) G):Wf E C pf44 [.nilp,.int .i64 i] G Q:=by
 simp -implicitDefEqProofs only[pf44,go_sem,↓reduceIte]
 exact h
theorem walk44 {id:Nat} {i:Int} {l2:List MsgS} {b:Bool} (hB:BagAt G id l2 b) (h:Q (.v (.int .i64 (atE l2 b i))) G):Wf E C pf44 [.ptr id,.int .i64 i] G Q:=by
 obtain⟨x,h1,h2,h3,h4⟩:=hB.at
 unfold V.isAgg at h4
 unfold V.lenI at h2
 have key:∀n,atE l2 b i=n→Q (.v (.int .i64 n)) G:=fun n e=>by rw[←e];exact h
 cases b with
 |false=>
  simp -implicitDefEqProofs only[pf44,h1,h2,h3,h4,go_sem,↓reduceIte]
  exact key _ rfl
 |true=>
  simp -implicitDefEqProofs only[pf44,h1,h2,h3,h4,go_sem,↓reduceIte]
  refine⟨fun e=>key _ ?_,fun e=>⟨fun e2=>key _ ?_,fun e2=>key _ ?_⟩⟩
  ·unfold atE;rw[if_neg (by decide),if_pos (.inl e)]
  ·unfold atE;rw[if_neg (by decide),if_pos (.inr e2)]
  ·unfold atE;rw[if_neg (by decide),if_neg (by omega)]
theorem rw_map {l:List MsgS} {u:V} (h:u∈l.map MsgS.v):V.size u=349∧V.same u (.agg [.int .i64 0,.int .i64 0,.int .i64 0,.agg [.int .i64 0,.int .i64 0,.int .i64 0,.int .i64 0,.arr .u8 32 zz2,.int .i64 0,.arr .u8 32 zz2,.arr .u8 32 zz2],.agg [.agg [.int .i64 0,.int .i64 0,.int .i64 0,.int .i64 0,.arr .u8 32 zz2,.int .i64 0,.arr .u8 32 zz2,.arr .u8 32 zz2],.nils],.agg [.int .i64 0,.int .i64 0,.int .i64 0,.arr .u8 32 zz2,.nils,.arr .u8 32 zz2],.agg [.arr .u8 32 zz2,.int .i64 0,.int .i64 0,.int .i64 0,.nils],.arr .u8 32 zz2,.agg [.int .i64 0,.int .i64 0,.int .i64 0,.int .i64 0,.int .i64 0,.str ⟨⟨[]⟩⟩,.str ⟨⟨[]⟩⟩]])=true:=by
 obtain⟨m,_,rfl⟩:=List.mem_map.1 h;exact⟨rfl,rfl⟩
theorem putL_len {L ys:List V} {off:Nat} (h:off+ys.length≤L.length):(putL L off ys).length=L.length:=by
 unfold putL;simp only[List.length_append,List.length_take,List.length_drop];omega
theorem putL_mem {L ys:List V} {off:Nat} {P:V→Prop} (h:∀y∈L,P y) (h2:∀y∈ys,P y):∀y∈putL L off ys,P y:=fun y hy=>by
 unfold putL at hy
 rcases List.mem_append.1 hy with hy|hy
 ·exact h y (List.mem_of_mem_take hy)
 ·rcases List.mem_append.1 hy with hy|hy
  ·exact h2 y hy
  ·exact h y (List.mem_of_mem_drop hy)
theorem putL_take {L ys:List V} {off m:Nat} (h:m≤off) (h2:off≤L.length):(putL L off ys).take m=L.take m:=by
 unfold putL
 rw[List.take_append_of_le_length (by rw[List.length_take];omega),List.take_take,Nat.min_eq_left h]
theorem putL_take2 {L ys:List V} {off:Nat} (h:off≤L.length):(putL L off ys).take (off+ys.length)=L.take off++ys:=by
 unfold putL
 have e:(L.take off).length=off:=by rw[List.length_take];omega
 rw[List.take_append,e,List.take_of_length_le (by omega),Nat.add_sub_cancel_left,List.take_left]
theorem sameL_all {z:V}:∀{L M:List V},L.length=M.length→(∀y∈L,y.same z=true)→(∀y∈M,y.same z=true)→V.sameL L M=true
 |[],[],_,_,_=>rfl
 |x::L,y::M,hl,h1,h2=>by
  simp only[V.sameL,Bool.and_eq_true]
  exact⟨V.same_trans' (h1 x (List.mem_cons_self ..)) (V.same_symm (h2 y (List.mem_cons_self ..))),sameL_all (by simpa using hl) (fun u hu=>h1 u (List.mem_cons_of_mem _ hu)) (fun u hu=>h2 u (List.mem_cons_of_mem _ hu))⟩
 |[],y::M,hl,_,_=>by simp at hl
 |x::L,[],hl,_,_=>by simp at hl
def ZDe:Spec1
 |[x,.int .i64 i,.int .i64 j],G,Q=>∃(G0:List (Nat×V)) (l:List MsgS) (k:Nat),(Row G0 G 349 (.agg [.int .i64 0,.int .i64 0,.int .i64 0,.agg [.int .i64 0,.int .i64 0,.int .i64 0,.int .i64 0,.arr .u8 32 zz2,.int .i64 0,.arr .u8 32 zz2,.arr .u8 32 zz2],.agg [.agg [.int .i64 0,.int .i64 0,.int .i64 0,.int .i64 0,.arr .u8 32 zz2,.int .i64 0,.arr .u8 32 zz2,.arr .u8 32 zz2],.nils],.agg [.int .i64 0,.int .i64 0,.int .i64 0,.arr .u8 32 zz2,.nils,.arr .u8 32 zz2],.agg [.arr .u8 32 zz2,.int .i64 0,.int .i64 0,.int .i64 0,.nils],.arr .u8 32 zz2,.agg [.int .i64 0,.int .i64 0,.int .i64 0,.int .i64 0,.int .i64 0,.str ⟨⟨[]⟩⟩,.str ⟨⟨[]⟩⟩]]) x (l.map MsgS.v)∧i=(k:Nat)∧j=((k+1:Nat):Int)∧k < l.length∧l.length < 1000000)∧∀x' G',Row G0 G' 349 (.agg [.int .i64 0,.int .i64 0,.int .i64 0,.agg [.int .i64 0,.int .i64 0,.int .i64 0,.int .i64 0,.arr .u8 32 zz2,.int .i64 0,.arr .u8 32 zz2,.arr .u8 32 zz2],.agg [.agg [.int .i64 0,.int .i64 0,.int .i64 0,.int .i64 0,.arr .u8 32 zz2,.int .i64 0,.arr .u8 32 zz2,.arr .u8 32 zz2],.nils],.agg [.int .i64 0,.int .i64 0,.int .i64 0,.arr .u8 32 zz2,.nils,.arr .u8 32 zz2],.agg [.arr .u8 32 zz2,.int .i64 0,.int .i64 0,.int .i64 0,.nils],.arr .u8 32 zz2,.agg [.int .i64 0,.int .i64 0,.int .i64 0,.int .i64 0,.int .i64 0,.str ⟨⟨[]⟩⟩,.str ⟨⟨[]⟩⟩]]) x' ((l.eraseIdx k).map MsgS.v)→Q (.v x') G'
 |_,_,_=>False
theorem walk45 {x:V} {G0:List (Nat×V)} {l2:List MsgS} {k:Nat} (hR:Row G0 G 349 (.agg [.int .i64 0,.int .i64 0,.int .i64 0,.agg [.int .i64 0,.int .i64 0,.int .i64 0,.int .i64 0,.arr .u8 32 zz2,.int .i64 0,.arr .u8 32 zz2,.arr .u8 32 zz2],.agg [.agg [.int .i64 0,.int .i64 0,.int .i64 0,.int .i64 0,.arr .u8 32 zz2,.int .i64 0,.arr .u8 32 zz2,.arr .u8 32 zz2],.nils],.agg [.int .i64 0,.int .i64 0,.int .i64 0,.arr .u8 32 zz2,.nils,.arr .u8 32 zz2],.agg [.arr .u8 32 zz2,.int .i64 0,.int .i64 0,.int .i64 0,.nils],.arr .u8 32 zz2,.agg [.int .i64 0,.int .i64 0,.int .i64 0,.int .i64 0,.int .i64 0,.str ⟨⟨[]⟩⟩,.str ⟨⟨[]⟩⟩]]) x (l2.map MsgS.v)) (hk:k < l2.length) (hl:l2.length < 1000000)
  (h:∀x' G',Row G0 G' 349 (.agg [.int .i64 0,.int .i64 0,.int .i64 0,.agg [.int .i64 0,.int .i64 0,.int .i64 0,.int .i64 0,.arr .u8 32 zz2,.int .i64 0,.arr .u8 32 zz2,.arr .u8 32 zz2],.agg [.agg [.int .i64 0,.int .i64 0,.int .i64 0,.int .i64 0,.arr .u8 32 zz2,.int .i64 0,.arr .u8 32 zz2,.arr .u8 32 zz2],.nils],.agg [.int .i64 0,.int .i64 0,.int .i64 0,.arr .u8 32 zz2,.nils,.arr .u8 32 zz2],.agg [.arr .u8 32 zz2,.int .i64 0,.int .i64 0,.int .i64 0,.nils],.arr .u8 32 zz2,.agg [.int .i64 0,.int .i64 0,.int .i64 0,.int .i64 0,.int .i64 0,.str ⟨⟨[]⟩⟩,.str ⟨⟨[]⟩⟩]]) x' ((l2.eraseIdx k).map MsgS.v)→Q (.v x') G'):Wf E C pf45 [x,.int .i64 (k:Nat),.int .i64 ((k+1:Nat):Int)] G Q:=by
 obtain⟨he,⟨rfl,h0⟩|⟨id,c,L,rfl,h1,h2,h3,h4,h5,h6⟩⟩:=hR
 ·rw[List.map_eq_nil_iff.1 h0]at hk;simp at hk
 rw[List.length_map]at h3 h5
 simp -implicitDefEqProofs only[pf45,List.length_map,oSlcR,oSlcR3,Option.isNone_none,Option.isSome_some,Option.isNone_some,beq_self_eq_true,Bool.and_self,Bool.false_and,h2,go_sem,↓reduceIte]
 refine⟨⟨by omega,by omega,by omega,by omega⟩,fun e=>by omega,fun _=>⟨⟨by omega,by omega⟩,⟨by omega,by omega,by omega⟩,?_⟩⟩
 have hall:(L.all fun x=>x.size==349)=true:=List.all_eq_true.2 fun y hy=>by rw[(h6 y hy).1];rfl
 have e1:((k:Nat):Int).toNat=k:=by omega
 have e2:(((k+1:Nat):Int)).toNat=k+1:=by omega
 have e3:((l2.length:Int)-((k+1:Nat):Int)).toNat=l2.length-(k+1):=by omega
 have ly:((L.drop (k+1)).take (l2.length-(k+1))).length=l2.length-(k+1):=by rw[List.length_take,List.length_drop];omega
 have hys:∀y∈(L.drop (k+1)).take (l2.length-(k+1)),y∈L:=fun y hy=>List.mem_of_mem_drop (List.mem_of_mem_take hy)
 rw[e2,e3,if_pos ⟨by omega,hall⟩]
 generalize hY:(L.drop (k+1)).take (l2.length-(k+1))=ys at ly hys
 have zs:V.size (.agg [.int .i64 0,.int .i64 0,.int .i64 0,.agg [.int .i64 0,.int .i64 0,.int .i64 0,.int .i64 0,.arr .u8 32 zz2,.int .i64 0,.arr .u8 32 zz2,.arr .u8 32 zz2],.agg [.agg [.int .i64 0,.int .i64 0,.int .i64 0,.int .i64 0,.arr .u8 32 zz2,.int .i64 0,.arr .u8 32 zz2,.arr .u8 32 zz2],.nils],.agg [.int .i64 0,.int .i64 0,.int .i64 0,.arr .u8 32 zz2,.nils,.arr .u8 32 zz2],.agg [.arr .u8 32 zz2,.int .i64 0,.int .i64 0,.int .i64 0,.nils],.arr .u8 32 zz2,.agg [.int .i64 0,.int .i64 0,.int .i64 0,.int .i64 0,.int .i64 0,.str ⟨⟨[]⟩⟩,.str ⟨⟨[]⟩⟩]])=349∧V.same (.agg [.int .i64 0,.int .i64 0,.int .i64 0,.agg [.int .i64 0,.int .i64 0,.int .i64 0,.int .i64 0,.arr .u8 32 zz2,.int .i64 0,.arr .u8 32 zz2,.arr .u8 32 zz2],.agg [.agg [.int .i64 0,.int .i64 0,.int .i64 0,.int .i64 0,.arr .u8 32 zz2,.int .i64 0,.arr .u8 32 zz2,.arr .u8 32 zz2],.nils],.agg [.int .i64 0,.int .i64 0,.int .i64 0,.arr .u8 32 zz2,.nils,.arr .u8 32 zz2],.agg [.arr .u8 32 zz2,.int .i64 0,.int .i64 0,.int .i64 0,.nils],.arr .u8 32 zz2,.agg [.int .i64 0,.int .i64 0,.int .i64 0,.int .i64 0,.int .i64 0,.str ⟨⟨[]⟩⟩,.str ⟨⟨[]⟩⟩]]) (.agg [.int .i64 0,.int .i64 0,.int .i64 0,.agg [.int .i64 0,.int .i64 0,.int .i64 0,.int .i64 0,.arr .u8 32 zz2,.int .i64 0,.arr .u8 32 zz2,.arr .u8 32 zz2],.agg [.agg [.int .i64 0,.int .i64 0,.int .i64 0,.int .i64 0,.arr .u8 32 zz2,.int .i64 0,.arr .u8 32 zz2,.arr .u8 32 zz2],.nils],.agg [.int .i64 0,.int .i64 0,.int .i64 0,.arr .u8 32 zz2,.nils,.arr .u8 32 zz2],.agg [.arr .u8 32 zz2,.int .i64 0,.int .i64 0,.int .i64 0,.nils],.arr .u8 32 zz2,.agg [.int .i64 0,.int .i64 0,.int .i64 0,.int .i64 0,.int .i64 0,.str ⟨⟨[]⟩⟩,.str ⟨⟨[]⟩⟩]])=true:=⟨rfl,rfl⟩
 have m1:=putL_mem (L:=L) (off:=k) (ys:=ys) (P:=fun y=>V.size y=349∧V.same y (.agg [.int .i64 0,.int .i64 0,.int .i64 0,.agg [.int .i64 0,.int .i64 0,.int .i64 0,.int .i64 0,.arr .u8 32 zz2,.int .i64 0,.arr .u8 32 zz2,.arr .u8 32 zz2],.agg [.agg [.int .i64 0,.int .i64 0,.int .i64 0,.int .i64 0,.arr .u8 32 zz2,.int .i64 0,.arr .u8 32 zz2,.arr .u8 32 zz2],.nils],.agg [.int .i64 0,.int .i64 0,.int .i64 0,.arr .u8 32 zz2,.nils,.arr .u8 32 zz2],.agg [.arr .u8 32 zz2,.int .i64 0,.int .i64 0,.int .i64 0,.nils],.arr .u8 32 zz2,.agg [.int .i64 0,.int .i64 0,.int .i64 0,.int .i64 0,.int .i64 0,.str ⟨⟨[]⟩⟩,.str ⟨⟨[]⟩⟩]])=true) h6 (fun y hy=>h6 y (hys y hy))
 have n1:(putL L k ys).length=L.length:=putL_len (by omega)
 have t1:(putL L k ys).take (k+ys.length)=(l2.eraseIdx k).map MsgS.v:=by
  rw[putL_take2 (by omega),List.eraseIdx_eq_take_drop_succ,List.map_append,List.map_take,List.map_drop,←h5,←hY]
  congr 1
  ·rw[List.take_take];congr 1;omega
  ·rw[List.drop_take]
 have m2:=putL_mem (L:=putL L k ys) (off:=k+ys.length) (ys:=List.replicate 1 (.agg [.int .i64 0,.int .i64 0,.int .i64 0,.agg [.int .i64 0,.int .i64 0,.int .i64 0,.int .i64 0,.arr .u8 32 zz2,.int .i64 0,.arr .u8 32 zz2,.arr .u8 32 zz2],.agg [.agg [.int .i64 0,.int .i64 0,.int .i64 0,.int .i64 0,.arr .u8 32 zz2,.int .i64 0,.arr .u8 32 zz2,.arr .u8 32 zz2],.nils],.agg [.int .i64 0,.int .i64 0,.int .i64 0,.arr .u8 32 zz2,.nils,.arr .u8 32 zz2],.agg [.arr .u8 32 zz2,.int .i64 0,.int .i64 0,.int .i64 0,.nils],.arr .u8 32 zz2,.agg [.int .i64 0,.int .i64 0,.int .i64 0,.int .i64 0,.int .i64 0,.str ⟨⟨[]⟩⟩,.str ⟨⟨[]⟩⟩]])) (P:=fun y=>V.size y=349∧V.same y (.agg [.int .i64 0,.int .i64 0,.int .i64 0,.agg [.int .i64 0,.int .i64 0,.int .i64 0,.int .i64 0,.arr .u8 32 zz2,.int .i64 0,.arr .u8 32 zz2,.arr .u8 32 zz2],.agg [.agg [.int .i64 0,.int .i64 0,.int .i64 0,.int .i64 0,.arr .u8 32 zz2,.int .i64 0,.arr .u8 32 zz2,.arr .u8 32 zz2],.nils],.agg [.int .i64 0,.int .i64 0,.int .i64 0,.arr .u8 32 zz2,.nils,.arr .u8 32 zz2],.agg [.arr .u8 32 zz2,.int .i64 0,.int .i64 0,.int .i64 0,.nils],.arr .u8 32 zz2,.agg [.int .i64 0,.int .i64 0,.int .i64 0,.int .i64 0,.int .i64 0,.str ⟨⟨[]⟩⟩,.str ⟨⟨[]⟩⟩]])=true) m1 (fun y hy=>by rw[List.eq_of_mem_replicate hy];exact zs)
 have n2:(putL (putL L k ys) (k+ys.length) (List.replicate 1 (.agg [.int .i64 0,.int .i64 0,.int .i64 0,.agg [.int .i64 0,.int .i64 0,.int .i64 0,.int .i64 0,.arr .u8 32 zz2,.int .i64 0,.arr .u8 32 zz2,.arr .u8 32 zz2],.agg [.agg [.int .i64 0,.int .i64 0,.int .i64 0,.int .i64 0,.arr .u8 32 zz2,.int .i64 0,.arr .u8 32 zz2,.arr .u8 32 zz2],.nils],.agg [.int .i64 0,.int .i64 0,.int .i64 0,.arr .u8 32 zz2,.nils,.arr .u8 32 zz2],.agg [.arr .u8 32 zz2,.int .i64 0,.int .i64 0,.int .i64 0,.nils],.arr .u8 32 zz2,.agg [.int .i64 0,.int .i64 0,.int .i64 0,.int .i64 0,.int .i64 0,.str ⟨⟨[]⟩⟩,.str ⟨⟨[]⟩⟩]]))).length=L.length:=by rw[putL_len (by rw[n1,List.length_replicate];omega),n1]
 have ln:(l2.eraseIdx k).length=k+ys.length:=by rw[List.length_eraseIdx,if_pos hk];omega
 refine⟨rfl,?_⟩
 rw[h2]
 simp only[e1,Int.sub_zero,Nat.zero_add,Nat.sub_zero,Int.toNat_zero]
 have z0:(0:Nat)+k=k:=Nat.zero_add k
 have e4:(((k+ys.length:Nat):Int)).toNat=k+ys.length:=by omega
 have e5:((l2.length:Int)-((k+ys.length:Nat):Int)).toNat=1:=by omega
 refine⟨⟨by rw[ly];omega,by omega,by omega,fun y hy=>(h6 y hy).1,fun y hy=>(h6 y (hys y hy)).1⟩,fun hc=> ?_,fun hc=>absurd hc (by omega)⟩
 rw[z0]
 refine⟨sameL_all n1 (fun y hy=>(m1 y hy).2) (fun y hy=>(h6 y hy).2),?_⟩
 generalize putL L k ys=L1 at m1 n1 t1 m2 n2⊢
 have g1:Abs.look (Abs.upd G id (.agg L1)) id=some (.agg L1):=look_upd_same h2
 simp -implicitDefEqProofs only[g1,List.length_map,oSlcR,oSlcR3,Option.isNone_none,Option.isSome_some,Option.isNone_some,beq_self_eq_true,Bool.and_self,Bool.false_and,go_sem,↓reduceIte]
 simp only[e4,e5]
 refine⟨⟨by omega,by omega,by omega⟩,⟨by omega,fun y hy=>(m1 y hy).1,sameL_all (L:=putL L1 (k+ys.length) (List.replicate 1 (.agg [.int .i64 0,.int .i64 0,.int .i64 0,.agg [.int .i64 0,.int .i64 0,.int .i64 0,.int .i64 0,.arr .u8 32 zz2,.int .i64 0,.arr .u8 32 zz2,.arr .u8 32 zz2],.agg [.agg [.int .i64 0,.int .i64 0,.int .i64 0,.int .i64 0,.arr .u8 32 zz2,.int .i64 0,.arr .u8 32 zz2,.arr .u8 32 zz2],.nils],.agg [.int .i64 0,.int .i64 0,.int .i64 0,.arr .u8 32 zz2,.nils,.arr .u8 32 zz2],.agg [.arr .u8 32 zz2,.int .i64 0,.int .i64 0,.int .i64 0,.nils],.arr .u8 32 zz2,.agg [.int .i64 0,.int .i64 0,.int .i64 0,.int .i64 0,.int .i64 0,.str ⟨⟨[]⟩⟩,.str ⟨⟨[]⟩⟩]]))) (by rw[n2,n1]) (fun y hy=>(m2 y hy).2) (fun y hy=>(m1 y hy).2)⟩,?_⟩
 refine h _ _ ⟨he.upd h1,.inr ⟨id,c,putL L1 (k+ys.length) (List.replicate 1 (.agg [.int .i64 0,.int .i64 0,.int .i64 0,.agg [.int .i64 0,.int .i64 0,.int .i64 0,.int .i64 0,.arr .u8 32 zz2,.int .i64 0,.arr .u8 32 zz2,.arr .u8 32 zz2],.agg [.agg [.int .i64 0,.int .i64 0,.int .i64 0,.int .i64 0,.arr .u8 32 zz2,.int .i64 0,.arr .u8 32 zz2,.arr .u8 32 zz2],.nils],.agg [.int .i64 0,.int .i64 0,.int .i64 0,.arr .u8 32 zz2,.nils,.arr .u8 32 zz2],.agg [.arr .u8 32 zz2,.int .i64 0,.int .i64 0,.int .i64 0,.nils],.arr .u8 32 zz2,.agg [.int .i64 0,.int .i64 0,.int .i64 0,.int .i64 0,.int .i64 0,.str ⟨⟨[]⟩⟩,.str ⟨⟨[]⟩⟩]])),?_,h1,look_upd_same h2,?_,?_,?_,m2⟩⟩
 ·rw[List.length_map,ln]
 ·rw[List.length_map,ln];omega
 ·rw[n2];omega
 ·rw[List.length_map,ln,putL_take (Nat.le_refl _) (by omega),t1]
end Go.Proofs.Ytjbglbhcbenhpaa.Sha
