/- Views: of each part the greatest view is kept. -/
import Derived.Test.YtjbglbhcbenhpaaG3
namespace Go.Proofs.Ytjbglbhcbenhpaa.Sha
open Go Go.Abs Go.Abs.Sha Go.Abs.Srt
set_option linter.unusedSimpArgs false
set_option linter.unusedVariables false
set_option maxRecDepth 100000
def lp8_0:PC:=
 ((PC.reg [mm 56 11,mm 57 1,nn (.t 58) (.len (.t 57)),nn (.t 59) (.bin .lss (.t 56) (.t 58))]).seq (PC.cond (.t 59) PC.skip (PC.exit 4))).seq
  ((PC.block 5 ((PC.reg [mm 62 1,mm 63 11,nn (.t 64) (.iadrS 2 (.t 62) (.t 63)),nn (.t 65) (.iadrA 2 (.t 64) (.c (.v (.int .i64 0)))),nn (.t 66)
  (.load 1 false (.t 65)),mm 67 9,nn (.t 68) (.bin .eql (.t 66) (.t 67)),nn (.t 69) (.mv false (.t 68)),gm 70 1 69 true,gm 71 11 69 true,⟨.t 72,
  .iadrS 2 (.t 70) (.t 71),some (.t 69,true)⟩,⟨.t 73,.iadrA 2 (.t 72) (.c (.v (.int .i64 1))),some (.t 69,true)⟩,⟨.t 74,.load 1 false (.t 73),
  some (.t 69,true)⟩,gm 75 10 69 true,⟨.t 76,.bin .gtr (.t 74) (.t 75),some (.t 69,true)⟩,nn (.t 77) (.pick (.t 69) (.t 76) (.c (.v (.bool
  false)))),nn (.t 78) (.mv false (.t 77)),gm 79 1 78 true,gm 80 11 78 true,⟨.t 81,.iadrS 2 (.t 79) (.t 80),some (.t 78,true)⟩,⟨.t 82,.iadrA 2
  (.t 81) (.c (.v (.int .i64 1))),some (.t 78,true)⟩,⟨.t 83,.load 1 false (.t 82),some (.t 78,true)⟩,⟨.t 84,.bin .leq (.t 83) (.c (.v (.int
  .i64 1099511627776))),some (.t 78,true)⟩,nn (.t 85) (.pick (.t 78) (.t 84) (.c (.v (.bool false))))]).seq (PC.cond (.t 85) (PC.reg [mm 86 1,mm 87
  11,nn (.t 88) (.iadrS 2 (.t 86) (.t 87)),nn (.t 89) (.iadrA 2 (.t 88) (.c (.v (.int .i64 1)))),nn (.t 90) (.load 1 false (.t 89)),ma 10 90])
  PC.skip))).seq (PC.reg [mm 60 11,nn (.t 61) (.bin .add (.t 60) (.c (.v (.int .i64 1)))),ma 11 61]))
def lp8_1:PC:=
 ((PC.reg [mm 51 9,mm 52 0,nn (.t 53) (.bin .leq (.t 51) (.t 52))]).seq (PC.cond (.t 53) PC.skip (PC.exit 2))).seq ((PC.block 3 ((PC.reg [nn (.v 10)
  (.mv true (.c (.v (.int .i64 0))))]).seq (((PC.reg [nn (.v 11) (.mv true (.c (.v (.int .i64 0))))]).seq (PC.block 4 (PC.loop [0,1,5,9,10,11]
  lp8_0))).seq ((PC.reg [mm 91 5,mm 92 9,nn (.t 93) (.bin .sub (.t 92) (.c (.v (.int .i64 1)))),nn (.t 94) (.iadrS 1 (.t 91) (.t 93)),nn (.t 95)
  (.load 1 false (.t 94)),mm 96 10,nn (.t 97) (.bin .neq (.t 95) (.t 96))]).seq (PC.cond (.t 97) ((PC.reg [nn (.v 4) (.mv true (.c (.v (.bool
  false))))]).seq PC.ret) PC.skip))))).seq (PC.reg [mm 54 9,nn (.t 55) (.bin .add (.t 54) (.c (.v (.int .i64 1)))),ma 9 55]))
def lp8_2:PC:=
 ((PC.reg [mm 23 6,mm 24 1,nn (.t 25) (.len (.t 24)),nn (.t 26) (.bin .lss (.t 23) (.t 25))]).seq (PC.cond (.t 26) PC.skip (PC.exit 0))).seq
  ((PC.block 1 ((PC.regD 0 [mm 30 5,mm 31 1,mm 32 6,nn (.t 33) (.iadrS 2 (.t 31) (.t 32)),nn (.t 34) (.iadrA 2 (.t 33) (.c (.v (.int .i64 0)))),nn
  (.t 35) (.load 1 false (.t 34)),mm 36 1,mm 37 6,nn (.t 38) (.iadrS 2 (.t 36) (.t 37)),nn (.t 39) (.iadrA 2 (.t 38) (.c (.v (.int .i64 1)))),nn
  (.t 40) (.load 1 false (.t 39)),nn (.t 41) (.call 33 [.t 30,.t 35,.t 40]),nn (.t 29) (.mv false (.t 41)),nn (.t 42) (.ext (.t 29) 0),nn (.t 43)
  (.ext (.t 29) 1),ma 7 42,ma 8 43] []).seq ((PC.reg [mm 44 8,nn (.t 45) (.bin .eql (.t 44) (.c (.v (.int .i64 0))))]).seq (PC.cond (.t 45) (PC.reg
  [nn (.t 46) (.mv true (.v 7)),ma 5 46]) PC.skip)))).seq (PC.reg [mm 27 6,nn (.t 28) (.bin .add (.t 27) (.c (.v (.int .i64 1)))),ma 6 28]))
def pf8:PF:=
 PF.mk 2 12 99 ((PC.reg [nn (.v 4) (.mv true (.c (.v (.bool false))))]).seq (((PC.reg [mm 12 0,nn (.t 13) (.call 37 [.t 12]),nn (.t 14) (.bin .eql (.t
  13) (.c (.v (.int .i64 0)))),nn (.t 15) (.mv false (.t 14)),gm 16 1 15 false,⟨.t 17,.len (.t 16),some (.t 15,false)⟩,⟨.t 18,.bin .gtr (.t 17)
  (.c (.v (.int .i64 60))),some (.t 15,false)⟩,nn (.t 19) (.pick (.t 15) (.c (.v (.bool true))) (.t 18))]).seq (PC.cond (.t 19) ((PC.reg [nn (.t 20)
  (.call 32 []),ma 4 20]).seq PC.ret) PC.skip)).seq ((PC.reg [mm 21 0,nn (.t 22) (.call 36 [.t 21]),ma 5 22]).seq (((PC.reg [nn (.v 6) (.mv true (.c
  (.v (.int .i64 0))))]).seq (PC.block 0 (PC.loop [0,1,5,6] lp8_2))).seq (((PC.reg [mm 47 5,nn (.t 48) (.len (.t 47)),mm 49 0,nn (.t 50) (.bin
  .neq (.t 48) (.t 49))]).seq (PC.cond (.t 50) ((PC.reg [nn (.v 4) (.mv true (.c (.v (.bool false))))]).seq PC.ret) PC.skip)).seq (((PC.reg [nn (.v 9)
  (.mv true (.c (.v (.int .i64 1))))]).seq (PC.block 2 (PC.loop [0,1,5,9] lp8_1))).seq ((PC.reg [nn (.t 98) (.call 32 []),ma 4 98]).seq
  PC.ret))))))) [(.v 4,none)]
attribute [local irreducible] W Wops WopsD WL Wop WopD
variable {E:Env} {C:Abs.Spec} {l:List (Nat×Spec1)} {G:List (Nat×V)} {Q:R→List (Nat×V)→Prop}
set_option maxHeartbeats 1000000
def hearS:List Int→List (Int×Int)→List Int
 |s,[]=>s
 |s,p::r=>hearS (if hdE s p.1 p.2=0 then s.set (p.1-1).toNat p.2 else s) r
def mostV (k:Int):Int→List (Int×Int)→Int
 |m,[]=>m
 |m,p::r=>mostV k (if p.1=k∧m < p.2∧p.2≤1099511627776 then p.2 else m) r
theorem hear_len:∀{ps:List (Int×Int)} {s:List Int},(hearS s ps).length=s.length
 |[],s=>rfl
 |p::r,s=>by
  rw[hearS,hear_len];split
  ·exact List.length_set
  ·rfl
theorem may_at {s:List Int} {k:Nat} (h:mayV s=true):0≤s.getD k 0:=by
 rw[List.getD_eq_getElem?_getD]
 cases e:s[k]? with
 |none=>exact Int.le_refl _
 |some v=>exact ((mayV_iff.1 h).2 v (List.mem_of_getElem? e)).1
theorem hear_most:∀{ps:List (Int×Int)} {s:List Int} {k:Int},mayV s=true→1≤k→k≤s.length→(hearS s ps).getD (k-1).toNat 0=mostV k (s.getD (k-1).toNat 0) ps
 |[],s,k,_,_,_=>rfl
 |p::r,s,k,hm,h1,h2=>by
  rw[hearS,mostV]
  by_cases he:hdE s p.1 p.2=0
  ·obtain⟨q,hlt,_⟩:=hd_zero he
   have m2:mayV (s.set (p.1-1).toNat p.2)=true:=may_set hm (by omega) (by omega)
   rw[if_pos he,hear_most m2 h1 (by rw[List.length_set];exact h2)]
   by_cases hk:p.1=k
   ·rw[if_pos ⟨hk,by rw[←hk];exact hlt,q.2.2.2.2⟩,←hk]
    congr 1
    rw[List.getD_eq_getElem?_getD,List.getElem?_set_self (by omega)];rfl
   ·rw[if_neg (fun e=>hk e.1)]
    congr 1
    rw[List.getD_eq_getElem?_getD,List.getElem?_set_ne (by omega),←List.getD_eq_getElem?_getD]
  ·rw[if_neg he,hear_most hm h1 h2]
   congr 1
   rw[if_neg]
   intro e
   have:=may_at (k:=(k-1).toNat) hm
   have c:mayV s=true∧1≤p.1∧p.1≤s.length∧1≤p.2∧p.2≤1099511627776:=⟨hm,by omega,by omega,by omega,by omega⟩
   exact he (hd_ok c (by rw[e.1];omega)).1
def IsS (d5:D) (xs:List Int):Prop:=d5= .own (.sli .i64 xs)∨d5= .v (.sli .i64 xs)
theorem loop8A (hH:Abs.look l 33=some ZHv) {QQ:Ex→St→Prop} {ps:List (Int×Int)} {n:Int} (hn:quo n≠0) (hl:ps.length≤60) (hw:∀p∈ps,I64 p.1∧I64 p.2) {s0:List Int}
  (hx:∀i t8 d5,IsS d5 (hearS s0 ps)→QQ (.exit 0) ⟨[some (.v (.int .i64 n)),some (.v (.sle 2 (ps.map pV))),none,none,none,some d5,some (.v (.int .i64 (i:Nat))),none,none,none,none,none],t8,[],G⟩):
  ∀(r:List (Int×Int)) (i:Nat) (xs:List Int) (d5:D),ps.drop i=r→i≤ps.length→IsS d5 xs→(xs.length:Int)=n→mayV xs=true→hearS s0 ps=hearS xs r→WL (W E (specOf l) lp8_2) [0,1,5,6] QQ (r.length+1) ⟨[some (.v (.int .i64 n)),some (.v (.sle 2 (ps.map pV))),none,none,none,some d5,some (.v (.int .i64 (i:Nat))),none,none,none,none,none],[],[],G⟩:=by
 have hnn:=quo_le hn
 intro r
 induction r with
 |nil=>
  intro i xs d5 h1 h2 h3 h4 h5 h6
  have:=drop_none h1
  have c1:¬(i:Int) < (ps.length:Int):=by omega
  refine WL_in lp8_2.eq_1 ?_
  simp -implicitDefEqProofs only[c1,List.length_map,go_sem,↓reduceIte]
  exact hx _ _ _ (by rw[h6];exact h3)
 |cons p r ih=>
  intro i xs d5 h1 h2 h3 h4 h5 h6
  obtain⟨hd,hj,hlen⟩:=drop_one h1
  have g:=getD_pv h1
  have hp:=hw p (List.mem_of_getElem? (at_drop2 h1))
  have c1:(i:Int) < (ps.length:Int):=by omega
  have c3:(0:Int)≤i:=by omega
  have w1:IntKind.i64.wrap ((i:Int)+1)=((i+1:Nat):Int):=wc (by omega) (by omega)
  have hlx:xs.length < 1000000:=by omega
  rw[hearS]at h6
  refine WL_in lp8_2.eq_1 ?_
  by_cases he:hdE xs p.1 p.2=0
  ·obtain⟨q,hlt,e2⟩:=hd_zero he
   have m2:mayV (xs.set (p.1-1).toNat p.2)=true:=may_set h5 (by omega) (by omega)
   rw[if_pos he]at h6
   rcases h3 with rfl|rfl
   ·simp -implicitDefEqProofs only[c1,c3,g,hH,ZHv_eq,List.length_map,Int.toNat_natCast,w1,go_sem,↓reduceIte]
    refine⟨xs,⟨.inl rfl,hlx,hp.1,hp.2⟩,fun _=> ?_,fun hne=>(hne he).elim⟩
    rw[e2]
    exact ih (i+1) _ _ hd (by omega) (.inr rfl) (by rw[List.length_set];exact h4) m2 h6
   ·simp -implicitDefEqProofs only[c1,c3,g,hH,ZHv_eq,List.length_map,Int.toNat_natCast,w1,go_sem,↓reduceIte]
    refine⟨xs,⟨.inl rfl,hlx,hp.1,hp.2⟩,fun _=> ?_,fun hne=>(hne he).elim⟩
    rw[e2]
    exact ih (i+1) _ _ hd (by omega) (.inr rfl) (by rw[List.length_set];exact h4) m2 h6
  ·rw[if_neg he]at h6
   rcases h3 with rfl|rfl
   ·simp -implicitDefEqProofs only[c1,c3,g,hH,ZHv_eq,List.length_map,Int.toNat_natCast,w1,go_sem,↓reduceIte]
    refine⟨xs,⟨.inl rfl,hlx,hp.1,hp.2⟩,fun h0=>(he h0).elim,fun _=> ?_⟩
    exact ih (i+1) _ _ hd (by omega) (.inl rfl) h4 h5 h6
   ·simp -implicitDefEqProofs only[c1,c3,g,hH,ZHv_eq,List.length_map,Int.toNat_natCast,w1,go_sem,↓reduceIte]
    refine⟨xs,⟨.inl rfl,hlx,hp.1,hp.2⟩,fun h0=>(he h0).elim,fun _=> ?_⟩
    exact ih (i+1) _ _ hd (by omega) (.inr rfl) h4 h5 h6
theorem loop8C {QQ:Ex→St→Prop} {ps:List (Int×Int)} {n k:Int} {d5:D} (hl:ps.length≤60)
  (hx:∀i t8,QQ (.exit 4) ⟨[some (.v (.int .i64 n)),some (.v (.sle 2 (ps.map pV))),none,none,none,some d5,none,none,none,some (.v (.int .i64 k)),some (.v (.int .i64 (mostV k 0 ps))),some (.v (.int .i64 (i:Nat)))],t8,[],G⟩):
  ∀(r:List (Int×Int)) (i:Nat) (m:Int),ps.drop i=r→i≤ps.length→mostV k 0 ps=mostV k m r→WL (W E C lp8_0) [0,1,5,9,10,11] QQ (r.length+1) ⟨[some (.v (.int .i64 n)),some (.v (.sle 2 (ps.map pV))),none,none,none,some d5,none,none,none,some (.v (.int .i64 k)),some (.v (.int .i64 m)),some (.v (.int .i64 (i:Nat)))],[],[],G⟩:=by
 intro r
 induction r with
 |nil=>
  intro i m h1 h2 h3
  have:=drop_none h1
  have c1:¬(i:Int) < (ps.length:Int):=by omega
  rw[mostV]at h3
  refine WL_in lp8_0.eq_1 ?_
  simp -implicitDefEqProofs only[c1,List.length_map,go_sem,↓reduceIte]
  rw[←h3]
  exact hx _ _
 |cons p r ih=>
  intro i m h1 h2 h3
  obtain⟨hd,hj,hlen⟩:=drop_one h1
  have g:=getD_pv h1
  have c1:(i:Int) < (ps.length:Int):=by omega
  have c3:(0:Int)≤i:=by omega
  have w1:IntKind.i64.wrap ((i:Int)+1)=((i+1:Nat):Int):=wc (by omega) (by omega)
  rw[mostV]at h3
  refine WL_in lp8_0.eq_1 ?_
  by_cases b1:p.1=k
  ·by_cases b2:m < p.2
   ·by_cases b3:p.2≤1099511627776
    ·rw[if_pos ⟨b1,b2,b3⟩]at h3
     simp -implicitDefEqProofs only[c1,c3,g,List.length_map,Int.toNat_natCast,w1,b1,b2,b3,go_sem,↓reduceIte]
     exact ih (i+1) _ hd (by omega) h3
    ·rw[if_neg (fun e=>b3 e.2.2)]at h3
     simp -implicitDefEqProofs only[c1,c3,g,List.length_map,Int.toNat_natCast,w1,b1,b2,b3,go_sem,↓reduceIte]
     first|exact ih (i+1) _ hd (by omega) h3|exact fun _=>ih (i+1) _ hd (by omega) h3
   ·rw[if_neg (fun e=>b2 e.2.1)]at h3
    simp -implicitDefEqProofs only[c1,c3,g,List.length_map,Int.toNat_natCast,w1,b1,b2,go_sem,↓reduceIte]
    first|exact ih (i+1) _ hd (by omega) h3|exact fun _=>ih (i+1) _ hd (by omega) h3
  ·rw[if_neg (fun e=>b1 e.1)]at h3
   simp -implicitDefEqProofs only[c1,c3,g,List.length_map,Int.toNat_natCast,w1,b1,go_sem,↓reduceIte]
   first|exact ih (i+1) _ hd (by omega) h3|exact fun _=>ih (i+1) _ hd (by omega) h3
theorem loop8B {QQ:Ex→St→Prop} {ps:List (Int×Int)} {n:Int} {F:List Int} {d5:D} (hd5:IsS d5 F) (hn:1≤n∧n≤21) (hF:(F.length:Int)=n) (hl:ps.length≤60) (hm:∀k:Int,1≤k→k≤n→F.getD (k-1).toNat 0=mostV k 0 ps)
  (hx:∀k t8,QQ (.exit 2) ⟨[some (.v (.int .i64 n)),some (.v (.sle 2 (ps.map pV))),none,none,none,some d5,none,none,none,some (.v (.int .i64 k)),none,none],t8,[],G⟩):
  ∀(e:Nat) (k:Int),1≤k→k+e=n+1→WL (W E C lp8_1) [0,1,5,9] QQ (e+1) ⟨[some (.v (.int .i64 n)),some (.v (.sle 2 (ps.map pV))),none,none,none,some d5,none,none,none,some (.v (.int .i64 k)),none,none],[],[],G⟩:=by
 intro e
 induction e with
 |zero=>
  intro k hk he
  have c1:¬k≤n:=by omega
  refine WL_in lp8_1.eq_1 ?_
  simp -implicitDefEqProofs only[c1,go_sem,↓reduceIte]
  exact hx _ _
 |succ e ih=>
  intro k hk he
  have c1:k≤n:=by omega
  have w1:IntKind.i64.wrap (k+1)=k+1:=w64 (by omega) (by omega)
  have w2:IntKind.i64.wrap (k-1)=k-1:=w64 (by omega) (by omega)
  have c2:(0:Int)≤k-1:=by omega
  have c3:k-1 < (F.length:Int):=by omega
  have hmk:=hm k hk c1
  refine WL_in lp8_1.eq_1 ?_
  simp -implicitDefEqProofs only[c1,go_sem,↓reduceIte]
  refine⟨ps.length+1,?_⟩
  refine loop8C hl (fun i t8=> ?_) ps 0 0 rfl (by omega) rfl
  rcases hd5 with rfl|rfl
  ·simp -implicitDefEqProofs only[w1,w2,c2,c3,hmk,go_sem,↓reduceIte]
   exact ih (k+1) (by omega) (by omega)
  ·simp -implicitDefEqProofs only[w1,w2,c2,c3,hmk,go_sem,↓reduceIte]
   exact ih (k+1) (by omega) (by omega)
theorem walk8 {ps:List (Int×Int)} {n:Int} (hA:Abs.look l 32=some ZAv0) (hN:Abs.look l 36=some ZNv) (hQ:Abs.look l 37=some ZQu) (hH:Abs.look l 33=some ZHv)
  (hi:I64 n) (hw:∀p∈ps,I64 p.1∧I64 p.2) (h:Q (.v (.bool true)) G):Wf E (specOf l) pf8 [.int .i64 n,.sle 2 (ps.map pV)] G Q:=by
 simp -implicitDefEqProofs only[pf8,hQ,ZQu_eq,List.length_map,go_sem,↓reduceIte]
 refine⟨hi,?_⟩
 by_cases hn:quo n=0
 ·simp -implicitDefEqProofs only[hn,hA,ZAv0_eq,go_sem,↓reduceIte]
  exact h
 ·by_cases hl:(60:Int) < ps.length
  ·simp -implicitDefEqProofs only[hn,hl,hA,ZAv0_eq,go_sem,↓reduceIte]
   exact⟨h,fun hc=>absurd hc (by omega)⟩
  ·have e1:newV n= .sli .i64 (List.replicate n.toNat 0):=by unfold newV;rw[if_neg hn]
   have hnn:=quo_le hn
   have e3:(((List.replicate n.toNat (0:Int)).length:Nat):Int)=n:=by rw[List.length_replicate];omega
   have m0:mayV (List.replicate n.toNat 0)=true:=by
    rw[mayV_iff,e3]
    refine⟨by omega,fun y hy=> ?_⟩
    rw[(List.mem_replicate.1 hy).2];omega
   have hF:(((hearS (List.replicate n.toNat 0) ps).length:Nat):Int)=n:=by rw[hear_len];exact e3
   have hm:∀k:Int,1≤k→k≤n→(hearS (List.replicate n.toNat 0) ps).getD (k-1).toNat 0=mostV k 0 ps:=by
    intro k h1 h2
    rw[hear_most m0 h1 (by omega)]
    congr 1
    rw[List.getD_eq_getElem?_getD,List.getElem?_replicate]
    split<;>rfl
   simp -implicitDefEqProofs only[hn,hl,hN,ZNv_eq,e1,go_sem,↓reduceIte]
   refine fun _=>⟨hi,?_⟩
   refine⟨ps.length+1,?_⟩
   refine loop8A hH hn (by omega) hw (fun i t8 d5 hd=> ?_) ps 0 _ _ rfl (by omega) (.inl rfl) e3 m0 rfl
   have hd0:=hd
   rcases hd with rfl|rfl
   ·simp -implicitDefEqProofs only[hF,go_sem,↓reduceIte]
    refine⟨n.toNat+1,?_⟩
    refine loop8B hd0 (by omega) hF (by omega) hm (fun k t8=> ?_) n.toNat 1 (by omega) (by omega)
    simp -implicitDefEqProofs only[hA,ZAv0_eq,go_sem,↓reduceIte]
    exact h
   ·simp -implicitDefEqProofs only[hF,go_sem,↓reduceIte]
    refine⟨n.toNat+1,?_⟩
    refine loop8B hd0 (by omega) hF (by omega) hm (fun k t8=> ?_) n.toNat 1 (by omega) (by omega)
    simp -implicitDefEqProofs only[hA,ZAv0_eq,go_sem,↓reduceIte]
    exact h
