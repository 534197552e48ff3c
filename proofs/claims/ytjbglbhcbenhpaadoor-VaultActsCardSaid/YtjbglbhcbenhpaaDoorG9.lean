/- Laws over plain values, and what functions of the program hand back; no conditions. -/
import Derived.Test.YtjbglbhcbenhpaaDoorG8
namespace Go.Proofs.YtjbglbhcbenhpaaDoor.Sha
open Go Go.Abs Go.Abs.Sha
set_option linter.unusedSimpArgs false
set_option linter.unusedVariables false
set_option maxRecDepth 100000
def lp9_0:PC:=
 ((PC.reg [mm 4 3,mm 5 0,nn (.t 6) (.len (.t 5)),nn (.t 7) (.bin .lss (.t 4) (.t 6)),nn (.t 8) (.mv false (.t 7)),gm 9 3 8 true,⟨.t 10,.bin .leq
  (.t 9) (.c (.v (.int .i64 40))),some (.t 8,true)⟩,nn (.t 11) (.pick (.t 8) (.t 10) (.c (.v (.bool false))))]).seq (PC.cond (.t 11) PC.skip
  (PC.exit 0))).seq ((PC.block 1 ((PC.reg [mm 14 0,mm 15 3,nn (.t 16) (.iadrS 40 (.t 14) (.t 15)),nn (.t 17) (.fadr 5 39 (.t 16)),nn (.t 18) (.load
  1 false (.t 17)),nn (.t 19) (.len (.t 18)),nn (.t 20) (.bin .gtr (.t 19) (.c (.v (.int .i64 1200))))]).seq (PC.cond (.t 20) ((PC.reg [nn (.v 2)
  (.mv true (.c (.v (.bool false))))]).seq PC.ret) PC.skip))).seq (PC.reg [mm 12 3,nn (.t 13) (.bin .add (.t 12) (.c (.v (.int .i64 1)))),ma 3 13]))
def pf9:PF:=
 PF.mk 1 4 24 ((PC.reg [nn (.v 2) (.mv true (.c (.v (.bool false))))]).seq (((PC.reg [nn (.v 3) (.mv true (.c (.v (.int .i64 0))))]).seq (PC.block 0
  (PC.loop [0,3] lp9_0))).seq ((PC.reg [mm 21 0,nn (.t 22) (.len (.t 21)),nn (.t 23) (.bin .leq (.t 22) (.c (.v (.int .i64 40)))),ma 2 23]).seq
  PC.ret))) [(.v 2,none)]
attribute [local irreducible] W Wops WopsD WL Wop WopD
variable {E:Env} {C:Abs.Spec} {l:List (Nat×Spec1)} {G:List (Nat×V)} {Q:R→List (Nat×V)→Prop}
set_option maxHeartbeats 1000000
def loadD (kt:List Int) (s:VS):SealS×Int:=if s.d=true then (.zero,6)else loadV kt s.i s.n (byB s.s0) (byB s.s1)
def SLd2 (kt:List Int):Spec1
 |[x],G,Q=>∃s:VS,(s.at G x∧s.good)∧∀G',Ext G G'→Q (.tup [(loadD kt s).1.v,.int .i64 (loadD kt s).2]) G'
 |_,_,_=>False
theorem SLd2_eq {kt x}:SLd2 kt [x] G Q=(∃s:VS,(s.at G x∧s.good)∧∀G',Ext G G'→Q (.tup [(loadD kt s).1.v,.int .i64 (loadD kt s).2]) G'):=rfl
theorem byB_of {x:V} {b:List Int} (h:byV x=some b):byB x=b:=by unfold byB;rw[h];rfl
theorem keepS_good {kt:List Int} {s:VS} {x:SealS} (h:s.good) (hw:x.wf) (hn:0≤s.n∧s.n < 1099511627776):(keepS kt s x).1.good:=by
 unfold keepS
 by_cases hd:s.d=true
 ·rw[if_pos hd];exact h
 rw[if_neg hd]
 by_cases hm:x.May
 ·rw[if_neg (fun c=>c hm)]
  obtain⟨bb,bl⟩:=blob_byt (kt:=kt) (i:=s.i) hw hm (ve:=s.n+1) (by omega)
  have h1:=stepS_good h
  have hk:(s.n+1).tmod 2=0∨(s.n+1).tmod 2=1:=by rw[Int.tmod_eq_emod_of_nonneg (by omega)];omega
  generalize x.blob kt s.i (s.n+1)=b at*
  split
  ·exact⟨⟨b,rfl,by omega,bb⟩,hk,h1.a,h1.i,h1.z0,h1.z1⟩
  ·have h2:=stepS_good (put_good (k:=(s.n+1).tmod 2) h1 (by omega:b.length≤1000) bb)
   split
   ·exact h2
   ·exact⟨h2.h,h2.k,h2.a,h2.i,h2.z0,h2.z1⟩
 ·rw[if_pos hm];exact h
theorem am1: -1≤(-1:Int)∧(-1:Int)≤9223372036854775807:=by decide
theorem torn_len (p o:List Int) (hp:p.length≤1000) (ho:o.length≤1000):(torn p o).length≤1000:=by
 unfold torn
 rw[List.length_append,List.length_drop]
 split<;>omega
theorem byt_take {b:List Int} (c:Nat) (h:Byt b):Byt (b.take c):=fun x hx=>h x (List.mem_of_mem_take hx)
theorem byt_drop {b:List Int} (c:Nat) (h:Byt b):Byt (b.drop c):=fun x hx=>h x (List.mem_of_mem_drop hx)
theorem crashS_good {s:VS} {m:Int} (h:s.good):(crashS s m).good:=by
 unfold crashS
 obtain⟨bh,zh,lh,yh⟩:=h.h
 obtain⟨b0,z0,l0,y0⟩:=h.z0
 obtain⟨b1,z1,l1,y1⟩:=h.z1
 by_cases hz:(byB s.h).length=0
 ·rw[if_pos hz]
  exact⟨⟨[],rfl,by simp,fun x hx=>by simp at hx⟩,h.k,am1,h.i,h.z0,h.z1⟩
 ·rw[if_neg hz,byB_of zh]
  have lp:(bh.take (cutN m bh.length).toNat).length≤1000:=by rw[List.length_take];omega
  have yp:=byt_take (cutN m bh.length).toNat yh
  generalize bh.take (cutN m bh.length).toNat=p at*
  rcases h.k with hk|hk
  ·have:byB (s.slot s.k)=b0:=by rw[hk];exact byB_of z0
   rw[this,hk]
   exact⟨⟨[],rfl,by simp,fun x hx=>by simp at hx⟩,.inl hk,am1,h.i,⟨_,rfl,torn_len _ _ lp l0,byt_app yp (byt_drop _ y0)⟩,h.z1⟩
  ·have:byB (s.slot s.k)=b1:=by rw[hk];exact byB_of z1
   rw[this,hk]
   exact⟨⟨[],rfl,by simp,fun x hx=>by simp at hx⟩,.inr hk,am1,h.i,h.z0,⟨_,rfl,torn_len _ _ lp l1,byt_app yp (byt_drop _ y1)⟩⟩
theorem walk219 {kt:List Int} {x:V} (h1:Abs.look l 42=some SIs) (h3:Abs.look l 24=some SVat) (h4:Abs.look l 49=some (SBg kt)) (hh:SLd2 kt [x] G Q):Wf E (specOf l) pf19 [x] G Q:=by
 obtain⟨s,⟨hs,hg⟩,h⟩:=hh
 obtain⟨b0,z0,l0,y0⟩:=hg.z0
 obtain⟨b1,z1,l1,y1⟩:=hg.z1
 cases hd:s.d with
 |false=>
  refine walk19 h1 h3 h4 (.inr ⟨s,b0,b1,⟨hs,hd,z0,z1,⟨y0,y1⟩,by omega,by omega⟩,fun G' e=> ?_⟩)
  have:=h G' e
  unfold loadD at this
  rw[if_neg (by rw[hd];simp),byB_of z0,byB_of z1]at this
  exact this
 |true=>
  have hs':=hs
  obtain⟨rfl,hv,hc,hne,hok,_,_⟩:=hs
  have g0:=(by_size z0).1
  have g1:=(by_size z1).1
  unfold VS.val at hv
  rw[hd]at hv
  have:=h G (Ext.refl G)
  unfold loadD at this
  rw[if_pos hd]at this
  simp (maxSteps:=1000000) (implicitDefEqProofs:=false) only[pf19,h1,SIs_eq,go_sem,↓reduceIte]
  refine⟨true,.inr ⟨s,hs',rfl⟩,?_⟩
  simp (maxSteps:=1000000) (implicitDefEqProofs:=false) only[hv,g0,g1,go_sem,↓reduceIte]
  exact this
def AS (e:V):Prop:=∃do_ a1 a2 a3 a4 n m k bs,e= .agg [.int .i64 do_,.agg [.int .i64 a1,.int .i64 a2,.int .i64 a3,.arr .u8 32 a4],.int .i64 n,.int .i64 m,.int .i64 k,.sli .u8 bs]∧(⟨a1,a2,a3,a4⟩:SealS).wf∧I64 n
def blen:V→Nat
 | .agg [_,_,_,_,_,.sli _ bs]=>bs.length
 |_=>0
def lightA (l:List V):Bool:=((l.take 41).all fun e=>decide (blen e≤1200))&&decide (l.length≤40)
def SLi:Spec1
 |[.sle 40 l],G,Q=>((∀e∈l,AS e)∧l.length < 9223372036854775808)∧Q (.v (.bool (lightA l))) G
 |_,_,_=>False
theorem SLi_eq {a}:SLi [.sle 40 a] G Q=(((∀e∈a,AS e)∧a.length < 9223372036854775808)∧Q (.v (.bool (lightA a))) G):=rfl
theorem loop9 {as:List V} {QQ:Ex→St→Prop} (hA:∀e∈as,AS e) (hl:as.length < 9223372036854775808)
  (hr:∀σ:St,σ.G=G→lightA as=false→St.ev σ (.v 2)=some (.v (.bool false))→QQ .ret σ) (hx:∀i ts,((as.take 41).all fun e=>decide (blen e≤1200))=true→QQ (.exit 0) ⟨[some (.v (.sle 40 as)),none,none,some (.v (.int .i64 i))],ts,[],G⟩):
  ∀(r:List V) (i:Nat),(as.take 41).drop i=r→i≤(as.take 41).length→(∀e∈(as.take 41).take i,blen e≤1200)→WL (W E C lp9_0) [0,3] QQ (r.length+1) ⟨[some (.v (.sle 40 as)),none,none,some (.v (.int .i64 i))],[],[],G⟩:=by
 intro r
 have htl:(as.take 41).length=min 41 as.length:=by rw[List.length_take]
 induction r with
 |nil=>
  intro i hr' hi hd
  have hi2:i=(as.take 41).length:=by
   have:=congrArg List.length hr'
   rw[List.length_drop,List.length_nil]at this;omega
  refine WL_in lp9_0.eq_1 ?_
  simp (maxSteps:=1000000) (implicitDefEqProofs:=false) only[go_sem,↓reduceIte]
  have hall:((as.take 41).all fun e=>decide (blen e≤1200))=true:=by
   rw[List.all_eq_true];intro e he
   rw[hi2,List.take_length]at hd
   exact decide_eq_true (hd e he)
  exact⟨fun c=>⟨fun c2=>by omega,fun c2=>hx _ _ hall⟩,fun c=>hx _ _ hall⟩
 |cons e r ih=>
  intro i hr' hi hd
  have hlen:=congrArg List.length hr'
  rw[List.length_drop,List.length_cons]at hlen
  have hg:(as.take 41)[i]? =some e:=by
   have:((as.take 41).drop i)[0]? =some e:=by rw[hr'];rfl
   rwa [List.getElem?_drop,Nat.add_zero]at this
  have he:e∈as.take 41:=List.mem_of_getElem? hg
  have hgd:as.getD i .nilp=e:=by
   rw[List.getElem?_take,if_pos (by omega)]at hg
   rw[List.getD_eq_getElem?_getD,hg];rfl
  have hr2:(as.take 41).drop (i+1)=r:=by rw[←List.drop_drop,hr'];rfl
  obtain⟨do_,a1,a2,a3,a4,n,m,k,bs,rfl,_,_⟩:=hA e (List.mem_of_mem_take he)
  have c1:(i:Int) < as.length:=by omega
  have c2:(i:Int)≤40:=by omega
  have ew:IntKind.i64.wrap ((i:Int)+1)=((i+1:Nat):Int):=by rw[w64 (by omega) (by omega)];simp
  refine WL_in lp9_0.eq_1 ?_
  by_cases c3:(1200:Int) < bs.length
  ·simp (maxSteps:=1000000) (implicitDefEqProofs:=false) only[c1,c2,hgd,Int.toNat_natCast,c3,go_sem,↓reduceIte]
   refine⟨by omega,hr _ rfl ?_ rfl⟩
   have:((as.take 41).all fun e=>decide (blen e≤1200))=false:=by
    rw[List.all_eq_false]
    exact⟨_,he,by show ¬(decide (bs.length≤1200)=true);rw[decide_eq_true_eq];omega⟩
   unfold lightA;rw[this];rfl
  ·simp (maxSteps:=1000000) (implicitDefEqProofs:=false) only[c1,c2,hgd,Int.toNat_natCast,c3,ew,go_sem,↓reduceIte]
   refine⟨by omega,ih (i+1) hr2 (by omega) (fun e' he'=> ?_)⟩
   rw[List.take_add_one,hg]at he'
   rcases List.mem_append.1 he' with h|h
   ·exact hd e' h
   ·simp only[Option.toList_some,List.mem_singleton]at h
    subst h
    simp only[blen];omega
theorem walk9 {as:List V} (hA:∀e∈as,AS e) (hl:as.length < 9223372036854775808) (h:Q (.v (.bool (lightA as))) G):Wf E C pf9 [.sle 40 as] G Q:=by
 simp (maxSteps:=1000000) (implicitDefEqProofs:=false) only[pf9,go_sem,↓reduceIte]
 refine⟨(as.take 41).length+1,?_⟩
 simp (maxSteps:=1000000) (implicitDefEqProofs:=false) only[go_sem,↓reduceIte]
 refine loop9 (G:=G) hA hl (fun σ hG hf hv=> ?_) (fun i ts hall=> ?_) (as.take 41) 0 rfl (by omega) (fun e he=>by simp at he)
 ·show resQ Q σ.G (rD (St.ev σ (.v 2)))
  rw[hG,hv]
  rw[hf]at h
  exact h
 ·simp (maxSteps:=1000000) (implicitDefEqProofs:=false) only[go_sem,↓reduceIte]
  have e:decide ((as.length:Int)≤40)=lightA as:=by
   unfold lightA
   rw[hall,Bool.true_and]
   exact decide_eq_decide.2 (by omega)
  rw[e]
  exact h
end Go.Proofs.YtjbglbhcbenhpaaDoor.Sha
namespace Go.Proofs.YtjbglbhcbenhpaaDoor.Sha
open Go Go.Abs Go.Abs.Sha
set_option linter.unusedSimpArgs false
set_option linter.unusedVariables false
set_option maxRecDepth 100000
attribute [local irreducible] W Wops WopsD WL Wop WopD
variable {E:Env} {C:Abs.Spec} {l:List (Nat×Spec1)} {G:List (Nat×V)} {Q:R→List (Nat×V)→Prop}
set_option maxHeartbeats 1000000
theorem newV_good {n:Int} {c id:Nat} {i:Int} (hi:1≤i∧i≤21):(newV i n c id).good:=⟨⟨[],rfl,by simp,fun x hx=>by simp at hx⟩,.inl rfl,am1,hi,⟨[],rfl,by simp,fun x hx=>by simp at hx⟩,⟨[],rfl,by simp,fun x hx=>by simp at hx⟩⟩
theorem keep_live {kt:List Int} {s:VS} {x:SealS} (hd:s.d=false) (ha:s.a= -1) (hm:x.May):keepS kt s x=({ s.put ((s.n+1).tmod 2) (.sli .u8 (x.blob kt s.i (s.n+1)))with n:=s.n+1 },0):=by
 have st:∀t:VS,t.a= -1→stepS t=(t,true):=fun t ht=>by unfold stepS;rw[if_neg (by omega),if_neg (by omega)]
 have pa:∀k y,(s.put k y).a= -1:=fun k y=>by unfold VS.put;split<;>exact ha
 unfold keepS
 rw[if_neg (by rw[hd];simp),if_neg (fun c=>c hm),st s ha,if_neg (by simp)]
 simp only
 rw[st _ (pa _ _),if_neg (by simp)]
end Go.Proofs.YtjbglbhcbenhpaaDoor.Sha
namespace Go.Proofs.YtjbglbhcbenhpaaDoor.Sha
open Go Go.Abs Go.Abs.Sha
set_option linter.unusedSimpArgs false
set_option linter.unusedVariables false
set_option maxRecDepth 100000
attribute [local irreducible] W Wops WopsD WL Wop WopD
variable {E:Env} {C:Abs.Spec} {l:List (Nat×Spec1)} {G:List (Nat×V)} {Q:R→List (Nat×V)→Prop}
set_option maxHeartbeats 1000000
def SCr2:Spec1
 |[x,.int .i64 n],G,Q=>∃s:VS,(s.at G x∧s.good)∧Q (.tup []) (setG G (crashS s n))
 |_,_,_=>False
theorem SCr2_eq {x n}:SCr2 [x,.int .i64 n] G Q=(∃s:VS,(s.at G x∧s.good)∧Q (.tup []) (setG G (crashS s n))):=rfl
theorem detSArm2:SArm2.Det:=by
 intro vs G Q h
 unfold SArm2 at h⊢
 split at h
 ·rcases h with⟨hn,h⟩|⟨s,hp,h⟩
  ·exact⟨_,h.2,fun Q' h'=> .inl ⟨hn,h'⟩⟩
  ·exact⟨_,h.2,fun Q' h'=> .inr ⟨s,hp,by rw[h.1];exact h'⟩⟩
 ·exact h.elim
theorem detSLd2 (kt:List Int):(SLd2 kt).Det:=by
 intro vs G Q h
 unfold SLd2 at h⊢
 split at h
 ·obtain⟨s,hp,h⟩:=h
  exact⟨_,(h _ (Ext.refl _)).2,fun Q' h'=>⟨s,hp,fun G' e=>by rw[(h G' e).1];exact h'⟩⟩
 ·exact h.elim
theorem crashS_like (s:VS) (m:Int):Like s (crashS s m)∧(crashS s m).n=s.n:=by
 unfold crashS
 split
 ·exact⟨⟨rfl,rfl,rfl⟩,rfl⟩
 ·have p:=put_like s s.k (.sli .u8 (torn ((byB s.h).take (cutN m (byB s.h).length).toNat) (byB (s.slot s.k))))
  exact⟨⟨p.id,p.c,p.i⟩,by show (VS.put _ _ _).n=_;unfold VS.put;split<;>rfl⟩
end Go.Proofs.YtjbglbhcbenhpaaDoor.Sha
namespace Go.Proofs.YtjbglbhcbenhpaaDoor.Sha
open Go Go.Abs Go.Abs.Sha
set_option linter.unusedSimpArgs false
set_option linter.unusedVariables false
set_option maxRecDepth 100000
def pf12:PF:=
 PF.mk 2 5 8 ((PC.reg [nn (.v 4) (.alloc (.agg [.int .i64 0,.agg [.nils,.nils],.int .i64 0,.int .i64 0,.bool false,.nils,.int .i64 0]))]).seq
  ((PC.reg [mm 5 0,mm 6 1,nn (.t 7) (.build (.agg [.int .i64 0,.agg [.nils,.nils],.int .i64 0,.int .i64 0,.bool false,.nils,.int .i64 0]) [(0,
  .t 5),(2,.t 6),(3,.c (.v (.int .i64 ((-1)))))]),nn .no (.store 8 (.v 4) (.t 7))]).seq PC.ret)) [(.v 4,some (8,true))]
def pf84:PF:=
 PF.mk 1 4 17 ((PC.reg [nn (.v 1) (.box (.v 0)),nn (.v 2) (.alloc (.agg [.int .i64 0,.agg [.nils,.nils],.int .i64 0,.int .i64 0,.bool false,
  .nils,.int .i64 0])),nn (.v 3) (.mv true (.c (.v (.bool false))))]).seq (((PC.reg [nn (.t 4) (.fadr 3 4 (.v 1)),nn (.t 5) (.load 1 false (.t 4)),
  nn (.t 6) (.bin .eql (.t 5) (.c (.v (.int .i64 0))))]).seq (PC.cond (.t 6) ((PC.reg [nn (.t 7) (.fadr 4 5 (.v 1)),nn .no (.store 1 (.t 7) (.c (.v
  (.bool true))))]).seq ((PC.reg [nn (.t 8) (.load 8 true (.v 1)),nn .no (.store 8 (.v 2) (.t 8)),nn (.v 3) (.mv true (.c (.v (.bool false))))]).seq
  PC.ret)) PC.skip)).seq (((PC.reg [nn (.t 9) (.fadr 3 4 (.v 1)),nn (.t 10) (.load 1 false (.t 9)),nn (.t 11) (.bin .gtr (.t 10) (.c (.v (.int .i64
  0))))]).seq (PC.cond (.t 11) (PC.reg [nn (.t 12) (.fadr 3 4 (.v 1)),nn (.t 13) (.load 1 false (.t 12)),nn (.t 14) (.bin .sub (.t 13) (.c (.v (.int
  .i64 1)))),nn (.t 15) (.fadr 3 4 (.v 1)),nn .no (.store 1 (.t 15) (.t 14))]) PC.skip)).seq ((PC.reg [nn (.t 16) (.load 8 true (.v 1)),nn .no
  (.store 8 (.v 2) (.t 16)),nn (.v 3) (.mv true (.c (.v (.bool true))))]).seq PC.ret)))) [(.v 2,some (8,true)),(.v 3,none)]
def pf38:PF:=
 PF.mk 2 12 63 ((PC.reg [nn (.v 2) (.box (.v 0)),nn (.v 3) (.box (.v 1)),nn (.v 4) (.alloc (.agg [.int .i64 0,.agg [.nils,.nils],.int .i64 0,.int
  .i64 0,.bool false,.nils,.int .i64 0])),nn (.v 5) (.mv true (.c (.v (.int .i64 0))))]).seq (((PC.reg [nn (.t 12) (.fadr 4 5 (.v 2)),nn (.t 13)
  (.load 1 false (.t 12))]).seq (PC.cond (.t 13) ((PC.reg [nn (.t 14) (.load 8 true (.v 2)),nn .no (.store 8 (.v 4) (.t 14)),nn (.v 5) (.mv true (.c
  (.v (.int .i64 6))))]).seq PC.ret) PC.skip)).seq (((PC.reg [nn (.t 15) (.load 35 true (.v 3)),nn (.t 16) (.call 16 [.t 15]),nn (.t 17) (.un .not
  (.t 16))]).seq (PC.cond (.t 17) ((PC.reg [nn (.t 18) (.load 8 true (.v 2)),nn .no (.store 8 (.v 4) (.t 18)),nn (.v 5) (.mv true (.c (.v (.int .i64
  1))))]).seq PC.ret) PC.skip)).seq (((PC.reg [nn (.t 19) (.fadr 2 3 (.v 2)),nn (.t 20) (.load 1 false (.t 19)),nn (.t 21) (.bin .geq (.t 20) (.c (.v
  (.int .i64 1099511627776))))]).seq (PC.cond (.t 21) ((PC.reg [nn (.t 22) (.load 8 true (.v 2)),nn .no (.store 8 (.v 4) (.t 22)),nn (.v 5) (.mv true
  (.c (.v (.int .i64 9))))]).seq PC.ret) PC.skip)).seq ((PC.reg [nn (.t 23) (.fadr 0 0 (.v 2)),nn (.t 24) (.load 1 false (.t 23)),nn (.t 25) (.fadr 2
  3 (.v 2)),nn (.t 26) (.load 1 false (.t 25)),nn (.t 27) (.bin .add (.t 26) (.c (.v (.int .i64 1)))),nn (.t 28) (.load 35 true (.v 3)),nn (.t 29)
  (.call 53 [.t 24,.t 27,.t 28]),ma 6 29]).seq ((PC.reg [nn (.t 30) (.fadr 2 3 (.v 2)),nn (.t 31) (.load 1 false (.t 30)),nn (.t 32) (.bin .add
  (.t 31) (.c (.v (.int .i64 1)))),nn (.t 33) (.bin .rem (.t 32) (.c (.v (.int .i64 2)))),ma 7 33]).seq ((PC.reg [nn (.t 35) (.load 8 true (.v 2)),
  nn (.t 36) (.call 84 [.t 35]),nn (.t 34) (.mv false (.t 36)),nn (.t 37) (.ext (.t 34) 0),nn (.t 38) (.ext (.t 34) 1),nn (.v 8) (.alloc (.agg
  [.int .i64 0,.agg [.nils,.nils],.int .i64 0,.int .i64 0,.bool false,.nils,.int .i64 0])),nn .no (.store 8 (.v 8) (.t 37)),ma 9 38]).seq
  (((PC.reg [mm 39 9,nn (.t 40) (.un .not (.t 39))]).seq (PC.cond (.t 40) ((PC.reg [mm 41 6,nn (.t 42) (.fadr 5 6 (.v 8)),nn .no (.store 1 (.t 42)
  (.t 41))]).seq ((PC.reg [mm 43 7,nn (.t 44) (.fadr 6 7 (.v 8)),nn .no (.store 1 (.t 44) (.t 43))]).seq ((PC.reg [nn (.t 45) (.load 8 true (.v 8)),
  nn .no (.store 8 (.v 4) (.t 45)),nn (.v 5) (.mv true (.c (.v (.int .i64 6))))]).seq PC.ret))) PC.skip)).seq ((PC.reg [mm 46 7,mm 47 6,nn (.t 48)
  (.fadr 1 1 (.v 8)),nn (.t 49) (.iadrG 2 1 (.t 48) (.t 46)),nn .no (.store 1 (.t 49) (.t 47))]).seq ((PC.reg [nn (.t 51) (.load 8 true (.v 8)),nn
  (.t 52) (.call 84 [.t 51]),nn (.t 50) (.mv false (.t 52)),nn (.t 53) (.ext (.t 50) 0),nn (.t 54) (.ext (.t 50) 1),nn (.v 10) (.alloc (.agg [.int
  .i64 0,.agg [.nils,.nils],.int .i64 0,.int .i64 0,.bool false,.nils,.int .i64 0])),nn .no (.store 8 (.v 10) (.t 53)),ma 11 54]).seq
  (((PC.reg [mm 55 11,nn (.t 56) (.un .not (.t 55))]).seq (PC.cond (.t 56) ((PC.reg [nn (.t 57) (.load 8 true (.v 10)),nn .no (.store 8 (.v 4) (.t
  57)),nn (.v 5) (.mv true (.c (.v (.int .i64 6))))]).seq PC.ret) PC.skip)).seq ((PC.reg [nn (.t 58) (.fadr 2 3 (.v 10)),nn (.t 59) (.load 1 false
  (.t 58)),nn (.t 60) (.bin .add (.t 59) (.c (.v (.int .i64 1)))),nn (.t 61) (.fadr 2 3 (.v 10)),nn .no (.store 1 (.t 61) (.t 60))]).seq ((PC.reg
  [nn (.t 62) (.load 8 true (.v 10)),nn .no (.store 8 (.v 4) (.t 62)),nn (.v 5) (.mv true (.c (.v (.int .i64 0))))]).seq PC.ret))))))))))))) [(.v 4,
  some (8,true)),(.v 5,none)]
def lp39_0:PC:=
 ((PC.reg [mm 15 4,nn (.t 16) (.bin .lss (.t 15) (.c (.v (.int .i64 2))))]).seq (PC.cond (.t 16) PC.skip (PC.exit 0))).seq ((PC.block 1 ((PC.regD 1 [nn
  (.t 20) (.fadr 0 0 (.v 1)),nn (.t 21) (.load 1 false (.t 20)),mm 22 4,nn (.t 23) (.fadr 1 1 (.v 1)),nn (.t 24) (.iadrG 2 1 (.t 23) (.t 22)),nn
  (.t 25) (.load 1 false (.t 24)),nn (.t 26) (.call 22 [.t 21,.t 25]),nn (.t 19) (.mv false (.t 26)),nn (.t 27) (.ext (.t 19) 0),nn (.t 28) (.ext
  (.t 19) 1),nn (.t 29) (.ext (.t 19) 2),nn (.v 6) (.allocAt 1 (.agg [.int .i64 0,.int .i64 0,.int .i64 0,.arr .u8 32 [0,0,0,0,0,0,0,0,0,
  0,0,0,0,0,0,0,0,0,0,0,0,0,0,0,0,0,0,0,0,0,0,0]])),ma 5 27,nn .no (.store 35 (.v 6) (.t 28)),ma 7 29] [(0,11),(1,11),(3,
  11),(4,11),(5,11)]).seq ((PC.reg [mm 30 7,nn (.t 31) (.bin .eql (.t 30) (.c (.v (.int .i64 0)))),nn (.t 32) (.mv false (.t 31)),gm 33 5 32
  true,⟨.t 34,.fadr 2 3 (.v 1),some (.t 32,true)⟩,⟨.t 35,.load 1 false (.t 34),some (.t 32,true)⟩,⟨.t 36,.bin .eql (.t 33) (.t 35),some (.t
  32,true)⟩,nn (.t 37) (.pick (.t 32) (.t 36) (.c (.v (.bool false))))]).seq (PC.cond (.t 37) ((PC.reg [nn (.t 38) (.load 35 true (.v 6)),nn .no
  (.store 35 (.v 2) (.t 38)),nn (.v 3) (.mv true (.c (.v (.int .i64 0))))]).seq PC.ret) PC.skip)))).seq (PC.reg [mm 17 4,nn (.t 18) (.bin .add (.t
  17) (.c (.v (.int .i64 1)))),ma 4 18]))
def pf39:PF:=
 PF.mk 1 8 40 ((PC.reg [nn (.v 1) (.box (.v 0)),nn (.v 2) (.alloc (.agg [.int .i64 0,.int .i64 0,.int .i64 0,.arr .u8 32 [0,0,0,0,0,0,0,0,0,
  0,0,0,0,0,0,0,0,0,0,0,0,0,0,0,0,0,0,0,0,0,0,0]])),nn (.v 3) (.mv true (.c (.v (.int .i64 0))))]).seq (((PC.reg [nn (.t 8)
  (.fadr 4 5 (.v 1)),nn (.t 9) (.load 1 false (.t 8))]).seq (PC.cond (.t 9) ((PC.reg [nn (.t 10) (.build (.agg [.int .i64 0,.int .i64 0,.int .i64 0,
  .arr .u8 32 [0,0,0,0,0,0,0,0,0,0,0,0,0,0,0,0,0,0,0,0,0,0,0,0,0,0,0,0,0,0,0,0]]) []),nn .no (.store 35 (.v 2) (.t
  10)),nn (.v 3) (.mv true (.c (.v (.int .i64 6))))]).seq PC.ret) PC.skip)).seq (((PC.reg [nn (.t 11) (.fadr 2 3 (.v 1)),nn (.t 12) (.load 1 false
  (.t 11)),nn (.t 13) (.bin .eql (.t 12) (.c (.v (.int .i64 0))))]).seq (PC.cond (.t 13) ((PC.reg [nn (.t 14) (.build (.agg [.int .i64 0,.int .i64 0,
  .int .i64 0,.arr .u8 32 [0,0,0,0,0,0,0,0,0,0,0,0,0,0,0,0,0,0,0,0,0,0,0,0,0,0,0,0,0,0,0,0]]) []),nn .no (.store 35
  (.v 2) (.t 14)),nn (.v 3) (.mv true (.c (.v (.int .i64 0))))]).seq PC.ret) PC.skip)).seq (((PC.reg [nn (.v 4) (.mv true (.c (.v (.int .i64
  0))))]).seq (PC.block 0 (PC.loop [1,2,4] lp39_0))).seq ((PC.reg [nn (.t 39) (.build (.agg [.int .i64 0,.int .i64 0,.int .i64 0,.arr .u8 32 [0,
  0,0,0,0,0,0,0,0,0,0,0,0,0,0,0,0,0,0,0,0,0,0,0,0,0,0,0,0,0,0,0]]) []),nn .no (.store 35 (.v 2) (.t 39)),nn (.v 3) (.mv
  true (.c (.v (.int .i64 8))))]).seq PC.ret))))) [(.v 2,some (35,true)),(.v 3,none)]
attribute [local irreducible] W Wops WopsD WL Wop WopD
variable {E:Env} {C:Abs.Spec} {l:List (Nat×Spec1)} {G:List (Nat×V)} {Q:R→List (Nat×V)→Prop}
set_option maxHeartbeats 1000000
abbrev VS.ref (t:VS):V:= .agg [.int .i64 t.i,.agg [t.s0,t.s1],.int .i64 t.n,.int .i64 t.a,.bool t.d,t.h,.int .i64 t.k]
def keepT (kt:List Int) (s:VS) (x:SealS):VS×Int:=if s.d=true then (s,6)else if ¬x.May then (s,1)else if 1099511627776≤s.n then (s,9)else keepS kt s x
theorem VS.good.sz {t:VS} (h:t.good):(V.size t.s0=1∧V.isAgg t.s0=false)∧(V.size t.s1=1∧V.isAgg t.s1=false)∧(V.size t.h=1∧V.isAgg t.h=false):=by
 obtain⟨_,e0,_⟩:=h.z0
 obtain⟨_,e1,_⟩:=h.z1
 obtain⟨_,e2,_⟩:=h.h
 exact⟨by_size e0,by_size e1,by_size e2⟩
theorem by_same {x:V} {b:List Int} (h:byV x=some b):V.same x .nils=true:=by
 rcases byV_cases h with rfl|⟨rfl,rfl⟩<;>rfl
theorem VS.good.sm {t:VS} (h:t.good):V.same t.s0 .nils=true∧V.same t.s1 .nils=true∧V.same t.h .nils=true:=by
 obtain⟨_,e0,_⟩:=h.z0
 obtain⟨_,e1,_⟩:=h.z1
 obtain⟨_,e2,_⟩:=h.h
 exact⟨by_same e0,by_same e1,by_same e2⟩
def SVn:Spec1
 |[.int .i64 i,.int .i64 n],G,Q=>Q (.v (newV i n 0 0).ref) G
 |_,_,_=>False
theorem SVn_eq {i n}:SVn [.int .i64 i,.int .i64 n] G Q=(Q (.v (newV i n 0 0).ref) G):=rfl
def SVs:Spec1
 |[x],G,Q=>∃t:VS,(x=t.ref∧t.good)∧Q (.tup [(stepS t).1.ref,.bool (stepS t).2]) G
 |_,_,_=>False
theorem SVs_eq {x}:SVs [x] G Q=(∃t:VS,(x=t.ref∧t.good)∧Q (.tup [(stepS t).1.ref,.bool (stepS t).2]) G):=rfl
def SVk (kt:List Int):Spec1
 |[x,.agg [.int .i64 a1,.int .i64 a2,.int .i64 a3,.arr .u8 32 a4]],G,Q=>∃t:VS,(x=t.ref∧t.good∧okC t.n∧(⟨a1,a2,a3,a4⟩:SealS).wf)∧Q (.tup [(keepT kt t (⟨a1,a2,a3,a4⟩:SealS)).1.ref,.int .i64 (keepT kt t (⟨a1,a2,a3,a4⟩:SealS)).2]) G
 |_,_,_=>False
theorem SVk_eq {kt x a1 a2 a3 a4}:SVk kt [x,.agg [.int .i64 a1,.int .i64 a2,.int .i64 a3,.arr .u8 32 a4]] G Q=(∃t:VS,(x=t.ref∧t.good∧okC t.n∧(⟨a1,a2,a3,a4⟩:SealS).wf)∧Q (.tup [(keepT kt t (⟨a1,a2,a3,a4⟩:SealS)).1.ref,.int .i64 (keepT kt t (⟨a1,a2,a3,a4⟩:SealS)).2]) G):=rfl
def SVl (kt:List Int):Spec1
 |[x],G,Q=>∃t:VS,(x=t.ref∧t.good)∧Q (.tup [(loadD kt t).1.v,.int .i64 (loadD kt t).2]) G
 |_,_,_=>False
theorem SVl_eq {kt x}:SVl kt [x] G Q=(∃t:VS,(x=t.ref∧t.good)∧Q (.tup [(loadD kt t).1.v,.int .i64 (loadD kt t).2]) G):=rfl
def SBh2 (kt:List Int):Spec1
 |[.int .i64 i,y],G,Q=>∃b,(byV y=some b∧Byt b∧b.length < 100000000000)∧Q (getR (getBlob kt i b)) G
 |_,_,_=>False
theorem SBh2_eq {kt i y}:SBh2 kt [.int .i64 i,y] G Q=(∃b,(byV y=some b∧Byt b∧b.length < 100000000000)∧Q (getR (getBlob kt i b)) G):=rfl
theorem walk12 {i n:Int} (h:Q (.v (newV i n 0 0).ref) G):Wf E C pf12 [.int .i64 i,.int .i64 n] G Q:=by
 simp (maxSteps:=1000000) (implicitDefEqProofs:=false) only[pf12,go_sem,↓reduceIte]
 exact h
theorem walk84 {x:V} {t:VS} (hx:x=t.ref) (hg:t.good) (h:Q (.tup [(stepS t).1.ref,.bool (stepS t).2]) G):Wf E C pf84 [x] G Q:=by
 subst hx
 obtain⟨⟨z0,_⟩,⟨z1,_⟩,⟨z2,_⟩⟩:=hg.sz
 obtain⟨m0,m1,m2⟩:=hg.sm
 have ha:=hg.a
 obtain⟨i,s0,s1,c,a,dd,hh,k,id,n⟩:=t
 simp only at z0 z1 z2 ha m0 m1 m2
 unfold stepS at h
 by_cases c0:a=0
 ·simp only[if_pos c0]at h
  subst c0
  simp (maxSteps:=1000000) (implicitDefEqProofs:=false) only[pf84,z0,z1,z2,m0,m1,m2,go_sem,↓reduceIte]
  exact h
 ·simp only[if_neg c0]at h
  by_cases c1:0 < a
  ·simp only[if_pos c1]at h
   have ew:IntKind.i64.wrap (a-1)=a-1:=w64 (by omega) (by omega)
   simp (maxSteps:=1000000) (implicitDefEqProofs:=false) only[pf84,z0,z1,z2,m0,m1,m2,c0,c1,ew,go_sem,↓reduceIte]
   exact h
  ·simp only[if_neg c1]at h
   simp (maxSteps:=1000000) (implicitDefEqProofs:=false) only[pf84,z0,z1,z2,m0,m1,m2,c0,c1,go_sem,↓reduceIte]
   exact h
theorem walk38 {kt:List Int} {x:V} {a1 a2 a3:Int} {a4:List Int} {t:VS} (h1:Abs.look l 16=some SBm) (h2:Abs.look l 53=some (SBr kt)) (h3:Abs.look l 84=some SVs)
  (hx:x=t.ref) (hg:t.good) (hok:okC t.n) (hw:(⟨a1,a2,a3,a4⟩:SealS).wf) (h:Q (.tup [(keepT kt t (⟨a1,a2,a3,a4⟩:SealS)).1.ref,.int .i64 (keepT kt t (⟨a1,a2,a3,a4⟩:SealS)).2]) G):Wf E (specOf l) pf38 [x,.agg [.int .i64 a1,.int .i64 a2,.int .i64 a3,.arr .u8 32 a4]] G Q:=by
 subst hx
 have hok2:=hok
 unfold okC at hok2
 obtain⟨⟨z0,_⟩,⟨z1,_⟩,⟨z2,_⟩⟩:=hg.sz
 obtain⟨m0,m1,m2⟩:=hg.sm
 have hi:=hg.i
 unfold keepT at h
 by_cases hd:t.d=true
 ·rw[if_pos hd]at h
  simp (maxSteps:=1000000) (implicitDefEqProofs:=false) only[pf38,z0,z1,z2,m0,m1,m2,hd,go_sem,↓reduceIte]
  exact h
 rw[if_neg hd]at h
 have hd':t.d=false:=by simpa using hd
 by_cases hm:(⟨a1,a2,a3,a4⟩:SealS).May
 ·have hmay:(⟨a1,a2,a3,a4⟩:SealS).may=true:=decide_eq_true hm
  rw[if_neg (fun c=>c hm)]at h
  by_cases hn:1099511627776≤t.n
  ·rw[if_pos hn]at h
   simp (maxSteps:=1000000) (implicitDefEqProofs:=false) only[pf38,z0,z1,z2,m0,m1,m2,hd',h1,SBm_eq,hmay,hn,go_sem,↓reduceIte]
   exact⟨hw,h⟩
  rw[if_neg hn]at h
  unfold keepS at h
  rw[if_neg hd,if_neg (fun c=>c hm)]at h
  have hw1:IntKind.i64.wrap (t.n+1)=t.n+1:=w64 (by omega) (by omega)
  have hk:(t.n+1).tmod 2=0∨(t.n+1).tmod 2=1:=by rw[Int.tmod_eq_emod_of_nonneg (by omega)];omega
  obtain⟨bb1,bl1⟩:=blob_byt (kt:=kt) (i:=t.i) hw hm (ve:=t.n+1) (by omega)
  simp (maxSteps:=1000000) (implicitDefEqProofs:=false) only[pf38,z0,z1,z2,m0,m1,m2,hd',h1,SBm_eq,hmay,hn,hw1,h2,SBr_eq,h3,SVs_eq,go_sem,↓reduceIte]
  refine⟨hw,⟨hw,hm,by omega⟩,t,⟨by unfold VS.ref;rw[hd'],hg⟩,?_⟩
  have hg1:=stepS_good hg
  obtain⟨⟨y0,_⟩,⟨y1,_⟩,⟨y2,_⟩⟩:=hg1.sz
  obtain⟨u0,u1,u2⟩:=hg1.sm
  obtain⟨_,q1,q2,q3,q4,q5⟩:=stepS_like t
  generalize (t.n+1).tmod 2=k at hk h⊢
  generalize (⟨a1,a2,a3,a4⟩:SealS).blob kt t.i (t.n+1)=bb at*
  rcases hst:stepS t with⟨t1,ok⟩
  rw[hst]at h hg1 y0 y1 y2 q1 u0 u1 u2
  simp only at h hg1 y0 y1 y2 q1 u0 u1 u2
  cases ok with
  |false=>
   rw[if_pos rfl]at h
   have a2':=hg1.sz.2.2.2
   unfold V.isAgg at a2'
   simp (maxSteps:=1000000) (implicitDefEqProofs:=false) only[y0,y1,y2,u0,u1,u2,a2',go_sem,↓reduceIte]
   exact h
  |true=>
   have hg2:=put_good (k:=k) hg1 (by omega:bb.length≤1000) bb1
   have n2:(t1.put k (.sli .u8 bb)).n=t.n:=by
    have:(t1.put k (.sli .u8 bb)).n=t1.n:=by unfold VS.put;split<;>rfl
    rw[this];exact q1
   rw[if_neg (by simp)]at h
   have a0:=hg1.sz.1.2
   have a1':=hg1.sz.2.1.2
   unfold V.isAgg at a0 a1'
   have two:=two_sz y0 y1
   rcases hk with rfl|rfl<;>simp (maxSteps:=1000000) (implicitDefEqProofs:=false) only[y0,y1,y2,u0,u1,u2,a0,a1',h3,SVs_eq,go_sem,↓reduceIte]
   ·refine⟨two,t1.put 0 (.sli .u8 bb),⟨rfl,hg2⟩,?_⟩
    generalize t1.put 0 (.sli .u8 bb)=t2 at*
    have hg3:=stepS_good hg2
    obtain⟨⟨x0,_⟩,⟨x1,_⟩,⟨x2,_⟩⟩:=hg3.sz
    obtain⟨p0,p1,p2⟩:=hg3.sm
    obtain⟨_,r1,_⟩:=stepS_like t2
    rcases hst2:stepS t2 with⟨t3,ok2⟩
    rw[hst2]at h hg3 x0 x1 x2 r1 p0 p1 p2
    simp only at h hg3 x0 x1 x2 r1 p0 p1 p2
    have n3:IntKind.i64.wrap (t3.n+1)=t.n+1:=by rw[r1,n2];exact hw1
    cases ok2<;>simp (maxSteps:=1000000) (implicitDefEqProofs:=false) only[x0,x1,x2,p0,p1,p2,n3,go_sem,↓reduceIte]<;>exact h
   ·refine⟨two,t1.put 1 (.sli .u8 bb),⟨rfl,hg2⟩,?_⟩
    generalize t1.put 1 (.sli .u8 bb)=t2 at*
    have hg3:=stepS_good hg2
    obtain⟨⟨x0,_⟩,⟨x1,_⟩,⟨x2,_⟩⟩:=hg3.sz
    obtain⟨p0,p1,p2⟩:=hg3.sm
    obtain⟨_,r1,_⟩:=stepS_like t2
    rcases hst2:stepS t2 with⟨t3,ok2⟩
    rw[hst2]at h hg3 x0 x1 x2 r1 p0 p1 p2
    simp only at h hg3 x0 x1 x2 r1 p0 p1 p2
    have n3:IntKind.i64.wrap (t3.n+1)=t.n+1:=by rw[r1,n2];exact hw1
    cases ok2<;>simp (maxSteps:=1000000) (implicitDefEqProofs:=false) only[x0,x1,x2,p0,p1,p2,n3,go_sem,↓reduceIte]<;>exact h
 ·have hmay:(⟨a1,a2,a3,a4⟩:SealS).may=false:=decide_eq_false hm
  rw[if_pos hm]at h
  simp (maxSteps:=1000000) (implicitDefEqProofs:=false) only[pf38,z0,z1,z2,m0,m1,m2,hd',h1,SBm_eq,hmay,go_sem,↓reduceIte]
  exact⟨hw,h⟩
theorem walk39 {kt:List Int} {x:V} {t:VS} (h1:Abs.look l 22=some (SBh2 kt)) (hx:x=t.ref) (hg:t.good) (h:Q (.tup [(loadD kt t).1.v,.int .i64 (loadD kt t).2]) G):Wf E (specOf l) pf39 [x] G Q:=by
 subst hx
 have hsz:=hg.sz
 obtain⟨b0,e0,l0,y0⟩:=hg.z0
 obtain⟨b1,e1,l1,y1⟩:=hg.z1
 unfold loadD at h
 rw[byB_of e0,byB_of e1]at h
 obtain⟨i,s0,s1,c,a,dd,hh,k,id,n⟩:=t
 simp only at hsz e0 e1 h
 obtain⟨⟨z0,w0⟩,⟨z1,w1⟩,⟨z2,w2⟩⟩:=hsz
 have hsm:=hg.sm
 simp only at hsm
 obtain⟨m0,m1,m2⟩:=hsm
 unfold V.isAgg at w0 w1
 cases dd with
 |true=>
  simp (maxSteps:=1000000) (implicitDefEqProofs:=false) only[pf39,z0,z1,z2,m0,m1,m2,go_sem,↓reduceIte]
  exact h
 |false=>
  rw[if_neg (by simp)]at h
  unfold loadV at h
  by_cases hz:n=0
  ·rw[if_pos hz]at h
   simp (maxSteps:=1000000) (implicitDefEqProofs:=false) only[pf39,z0,z1,z2,m0,m1,m2,hz,go_sem,↓reduceIte]
   exact h
  rw[if_neg hz]at h
  simp (maxSteps:=1000000) (implicitDefEqProofs:=false) only[pf39,z0,z1,z2,m0,m1,m2,hz,go_sem,↓reduceIte]
  refine⟨3,?_⟩
  simp (maxSteps:=1000000) (implicitDefEqProofs:=false) only[go_sem,↓reduceIte]
  have two:=two_sza ⟨z0,(by unfold V.isAgg;exact w0)⟩ ⟨z1,(by unfold V.isAgg;exact w1)⟩
  have two':=two_sz z0 z1
  refine WL_in lp39_0.eq_1 ?_
  simp (maxSteps:=1000000) (implicitDefEqProofs:=false) only[z0,z1,z2,w0,w1,h1,SBh2_eq,go_sem,↓reduceIte]
  refine⟨two',b0,⟨e0,y0,by omega⟩,?_⟩
  rcases hg0:getBlob kt i b0 with⟨v,⟨q1,q2,q3,q4⟩,e⟩
  rw[hg0]at h
  have hgR:getR (v,⟨q1,q2,q3,q4⟩,e)= .tup [.int .i64 v,.agg [.int .i64 q1,.int .i64 q2,.int .i64 q3,.arr .u8 32 q4],.int .i64 e]:=rfl
  rw[hgR]
  by_cases c1:e=0∧v=n
  ·obtain⟨rfl,rfl⟩:=c1
   rw[if_pos ⟨rfl,rfl⟩]at h
   simp (maxSteps:=1000000) (implicitDefEqProofs:=false) only[z0,z1,z2,w0,w1,h1,SBh2_eq,go_sem,↓reduceIte]
   exact h
  rw[if_neg c1]at h
  have key:∀A B:Prop,B→((e=0→(v=n→A)∧(¬v=n→B))∧(¬e=0→B)):=fun A B hB=>⟨fun c=>⟨fun c2=>absurd ⟨c,c2⟩ c1,fun _=>hB⟩,fun _=>hB⟩
  simp (maxSteps:=1000000) (implicitDefEqProofs:=false) only[z0,z1,z2,w0,w1,h1,SBh2_eq,go_sem,↓reduceIte]
  refine key _ _ ?_
  have w1_:IntKind.i64.wrap 1=1:=by decide
  have w2_:IntKind.i64.wrap 2=2:=by decide
  refine WL_in lp39_0.eq_1 ?_
  simp (maxSteps:=1000000) (implicitDefEqProofs:=false) only[z0,z1,z2,w0,w1,h1,SBh2_eq,w1_,go_sem,↓reduceIte]
  refine⟨two',b1,⟨e1,y1,by omega⟩,?_⟩
  rcases hg1:getBlob kt i b1 with⟨v',⟨r1,r2,r3,r4⟩,e'⟩
  rw[hg1]at h
  have hgR:getR (v',⟨r1,r2,r3,r4⟩,e')= .tup [.int .i64 v',.agg [.int .i64 r1,.int .i64 r2,.int .i64 r3,.arr .u8 32 r4],.int .i64 e']:=rfl
  rw[hgR]
  by_cases c2:e'=0∧v'=n
  ·obtain⟨rfl,rfl⟩:=c2
   rw[if_pos ⟨rfl,rfl⟩]at h
   simp (maxSteps:=1000000) (implicitDefEqProofs:=false) only[z0,z1,z2,w0,w1,h1,SBh2_eq,go_sem,↓reduceIte]
   exact h
  rw[if_neg c2]at h
  have key:∀A B:Prop,B→((e'=0→(v'=n→A)∧(¬v'=n→B))∧(¬e'=0→B)):=fun A B hB=>⟨fun c=>⟨fun c3=>absurd ⟨c,c3⟩ c2,fun _=>hB⟩,fun _=>hB⟩
  simp (maxSteps:=1000000) (implicitDefEqProofs:=false) only[z0,z1,z2,w0,w1,h1,SBh2_eq,go_sem,↓reduceIte]
  refine key _ _ ?_
  refine WL_in lp39_0.eq_1 ?_
  simp (maxSteps:=1000000) (implicitDefEqProofs:=false) only[z0,z1,z2,w0,w1,h1,SBh2_eq,w2_,w1_,go_sem,↓reduceIte]
  exact h
end Go.Proofs.YtjbglbhcbenhpaaDoor.Sha
