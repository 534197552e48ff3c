/- Laws over plain values, and what functions of the program hand back; no conditions. -/
import Derived.Test.YtjbglbhcbenhpaaG2
import Derived.Test.YtjbglbhcbenhpaaG1
import Derived.Test.YtjbglbhcbenhpaaPlain6
import Derived.Test.YtjbglbhcbenhpaaProg
namespace Go.Proofs.Ytjbglbhcbenhpaa.Sha
open Go Go.Abs Go.Abs.Sha Go.Abs.Srt
set_option linter.unusedSimpArgs false
set_option linter.unusedVariables false
set_option maxRecDepth 100000
def pf32:PF:=
 PF.mk 0 3 31 ((PC.reg [nn (.v 0) (.mv true (.c (.v (.bool false))))]).seq ((PC.reg [nn (.t 4) (.call 36 [.c (.v (.int .i64 3))]),nn (.t 5) (.call 33
  [.t 4,.c (.v (.int .i64 2)),.c (.v (.int .i64 5))]),nn (.t 3) (.mv false (.t 5)),nn (.t 6) (.ext (.t 3) 0),nn (.t 7) (.ext (.t 3) 1),ma 1 6,ma
  2 7]).seq ((PC.reg [mm 8 2,nn (.t 9) (.bin .eql (.t 8) (.c (.v (.int .i64 0)))),nn (.t 10) (.mv false (.t 9)),gm 11 1 10 true,⟨.t 12,.len (.t
  11),some (.t 10,true)⟩,⟨.t 13,.bin .eql (.t 12) (.c (.v (.int .i64 3))),some (.t 10,true)⟩,nn (.t 14) (.pick (.t 10) (.t 13) (.c (.v (.bool
  false)))),nn (.t 15) (.mv false (.t 14)),gm 16 1 15 true,⟨.t 17,.iadrS 1 (.t 16) (.c (.v (.int .i64 1))),some (.t 15,true)⟩,⟨.t 18,.load 1
  false (.t 17),some (.t 15,true)⟩,⟨.t 19,.bin .eql (.t 18) (.c (.v (.int .i64 5))),some (.t 15,true)⟩,nn (.t 20) (.pick (.t 15) (.t 19) (.c (.v
  (.bool false)))),nn (.t 21) (.mv false (.t 20)),⟨.t 22,.buildS (some .i64) 1 (.int .i64 0) 3 [(0,.c (.v (.int .i64 5))),(1,.c (.v (.int .i64
  2))),(2,.c (.v (.int .i64 3)))],some (.t 21,true)⟩,⟨.t 23,.call 39 [.t 22],some (.t 21,true)⟩,⟨.t 24,.bin .eql (.t 23) (.c (.v (.int .i64
  3))),some (.t 21,true)⟩,nn (.t 25) (.pick (.t 21) (.t 24) (.c (.v (.bool false)))),nn (.t 26) (.mv false (.t 25)),⟨.t 27,.buildS (some .i64) 1
  (.int .i64 0) 3 [(0,.c (.v (.int .i64 5))),(1,.c (.v (.int .i64 2))),(2,.c (.v (.int .i64 3)))],some (.t 26,true)⟩,⟨.t 28,.call 40 [.t 27,
  .c (.v (.int .i64 2))],some (.t 26,true)⟩,⟨.t 29,.bin .eql (.t 28) (.c (.v (.int .i64 2))),some (.t 26,true)⟩,nn (.t 30) (.pick (.t 26) (.t
  29) (.c (.v (.bool false)))),ma 0 30]).seq PC.ret))) [(.v 0,none)]
attribute [local irreducible] W Wops WopsD WL Wop WopD
variable {E:Env} {C:Abs.Spec} {l:List (Nat×Spec1)} {G:List (Nat×V)} {Q:R→List (Nat×V)→Prop}
set_option maxHeartbeats 1000000
theorem asc_perm (xs:List Int):(Try.asc xs).Perm xs:=List.mergeSort_perm xs _
theorem asc_sorted (xs:List Int):(Try.asc xs).Pairwise (·≤·):=by
 have:=List.pairwise_mergeSort (le:=fun (x y:Int)=>decide (x≤y)) (fun a b c h1 h2=>by simp at*;omega) (fun a b=>by simp;omega) xs
 exact this.imp (fun h=>by simpa using h)
theorem cntE_asc (w:Int) (xs:List Int):cntE w xs=cntE w (Try.asc xs):=by
 unfold cntE;rw[(asc_perm xs).countP_eq]
theorem at_sorted' {a c:List Int} {v:Int} (hs:(a++v::c).Pairwise (·≤·)):((c.length+1:Nat):Int)≤cntE v (a++v::c)∧∀w,v < w→cntE w (a++v::c) < ((c.length+1:Nat):Int):=by
 rw[List.pairwise_append]at hs
 obtain⟨p1,p2,p3⟩:=hs
 rw[List.pairwise_cons]at p2
 constructor
 ·have:c.countP (fun y=>decide (v≤y))=c.length:=by
   rw[List.countP_eq_length];intro x hx;simpa using p2.1 x hx
  unfold cntE
  rw[List.countP_append,List.countP_cons,this,if_pos (by simp)];omega
 ·intro w hw
  have z:a.countP (fun y=>decide (w≤y))=0:=by
   rw[List.countP_eq_zero];intro x hx
   have:=p3 x hx v List.mem_cons_self
   simp;omega
  have:=List.countP_le_length (p:=fun y=>decide (w≤y)) (l:=c)
  unfold cntE
  rw[List.countP_append,List.countP_cons,z,if_neg (by simp;omega)];omega
theorem at_sorted {s:List Int} (hs:s.Pairwise (·≤·)) {k:Nat} (hk:k < s.length):((s.length-k:Nat):Int)≤cntE (s.getD k 0) s∧∀w,s.getD k 0 < w→cntE w s < ((s.length-k:Nat):Int):=by
 have e:s.take k++s[k]::s.drop (k+1)=s:=by rw[←List.drop_eq_getElem_cons hk,List.take_append_drop]
 have g:s.getD k 0=s[k]:=by rw[List.getD_eq_getElem?_getD,List.getElem?_eq_getElem hk];rfl
 have h:=at_sorted' (a:=s.take k) (c:=s.drop (k+1)) (v:=s[k]) (by rw[e];exact hs)
 rw[e]at h
 have hd:(s.drop (k+1)).length+1=s.length-k:=by rw[List.length_drop];omega
 rw[hd]at h
 rw[g];exact h
theorem mayV_iff {xs:List Int}:mayV xs=true↔0 < quo xs.length∧∀y∈xs,0≤y∧y≤1099511627776:=by
 unfold mayV badV
 rw[Bool.and_eq_true,decide_eq_true_eq,Bool.not_eq_true',List.any_eq_false]
 refine and_congr_right fun _=>forall_congr' fun y=>forall_congr' fun _=> ?_
 simp
theorem jmp_spec {xs:List Int} (h:mayV xs=true):jmpV xs∈xs∧quo xs.length≤cntE (jmpV xs) xs∧(∀w,jmpV xs < w→cntE w xs < quo xs.length)∧0≤jmpV xs:=by
 obtain⟨q1,q2,q3,q4⟩:=mayV_q h
 have e:jmpV xs=(Try.asc xs).getD (xs.length-(quo xs.length).toNat) 0:=by unfold jmpV;rw[if_pos h]
 have hlen:=asc_length xs
 have hk:xs.length-(quo xs.length).toNat < (Try.asc xs).length:=by omega
 obtain⟨a1,a2⟩:=at_sorted (asc_sorted xs) hk
 rw[←e,hlen,←cntE_asc]at a1
 rw[←e]at a2
 have hm:jmpV xs∈xs:=by
  rw[e,List.getD_eq_getElem?_getD,List.getElem?_eq_getElem hk]
  exact (asc_perm xs).mem_iff.1 (List.getElem_mem hk)
 refine⟨hm,by omega,fun w hw=> ?_,((mayV_iff.1 h).2 _ hm).1⟩
 have:=a2 w hw
 rw[←cntE_asc,hlen]at this
 omega
theorem rj_ge {xs:List Int}:∀{r:List Int} {b:Int},b≤rjF xs b r
 |[],b=>Int.le_refl _
 |p::r,b=>by
  rw[rjF]
  split
  ·rename_i h;exact Int.le_trans (by omega) rj_ge
  ·exact rj_ge
theorem rj_hit {xs:List Int}:∀{r:List Int} {b p:Int},p∈r→quo xs.length≤cntE p xs→p≤rjF xs b r
 |q::r,b,p,hp,hq=>by
  rw[rjF]
  rcases List.mem_cons.1 hp with rfl|hp
  ·split
   ·exact rj_ge
   ·rename_i h;exact Int.le_trans (by apply Decidable.byContradiction;intro e;exact h ⟨by omega,hq⟩) rj_ge
  ·split
   ·exact rj_hit hp hq
   ·exact rj_hit hp hq
theorem rj_le {xs:List Int} {v:Int}:∀{r:List Int} {b:Int},b≤v→(∀p∈r,quo xs.length≤cntE p xs→p≤v)→rjF xs b r≤v
 |[],b,hb,_=>hb
 |p::r,b,hb,h=>by
  rw[rjF]
  split
  ·rename_i hc;exact rj_le (h p List.mem_cons_self hc.2) (fun q hq=>h q (List.mem_cons_of_mem _ hq))
  ·exact rj_le hb (fun q hq=>h q (List.mem_cons_of_mem _ hq))
theorem jmp_rj {xs:List Int} (h:mayV xs=true):jmpV xs=rjF xs 0 xs:=by
 obtain⟨h1,h2,h3,h4⟩:=jmp_spec h
 refine Int.le_antisymm (rj_hit h1 h2) (rj_le h4 fun p hp hq=> ?_)
 apply Decidable.byContradiction
 intro e
 have:=h3 p (by omega)
 omega
theorem cntG_E {xs:List Int} {v:Int}:cntG v xs=cntE (v+1) xs:=by
 unfold cntG cntE
 congr 1
theorem may_set {xs:List Int} {k:Nat} {v:Int} (h:mayV xs=true) (h1:0≤v) (h2:v≤1099511627776):mayV (xs.set k v)=true:=by
 rw[mayV_iff]at*
 rw[List.length_set]
 refine⟨h.1,fun y hy=> ?_⟩
 rcases List.mem_or_eq_of_mem_set hy with hy|rfl
 ·exact h.2 y hy
 ·exact⟨h1,h2⟩
theorem cntE_set {w v:Int}:∀{xs:List Int} {k:Nat},xs.getD k 0≤v→cntE w xs≤cntE w (xs.set k v)
 |[],k,_=>by simp
 |x::xs,0,h=>by
  unfold cntE
  rw[List.set_cons_zero,List.countP_cons,List.countP_cons]
  have h:x≤v:=h
  by_cases hw:w≤x
  ·rw[if_pos (by simpa using hw),if_pos (by simp;omega)];omega
  ·rw[if_neg (by simpa using hw)];omega
 |x::xs,k+1,h=>by
  have ih:=cntE_set (w:=w) (v:=v) (xs:=xs) (k:=k) h
  unfold cntE at*
  rw[List.set_cons_succ,List.countP_cons,List.countP_cons]
  omega
theorem jmp_mono {xs:List Int} {k:Nat} {v:Int} (h:mayV xs=true) (h1:xs.getD k 0≤v) (h0:0≤v) (h2:v≤1099511627776):jmpV xs≤jmpV (xs.set k v):=by
 obtain⟨a1,a2,a3,a4⟩:=jmp_spec h
 obtain⟨b1,b2,b3,b4⟩:=jmp_spec (may_set (k:=k) h h0 h2)
 apply Decidable.byContradiction
 intro e
 have:=b3 (jmpV xs) (by omega)
 have:=cntE_set (w:=jmpV xs) h1
 rw[List.length_set]at*
 omega
theorem ahd_lt {xs:List Int} (h:mayV xs=true):ahdV xs (jmpV xs) < quo xs.length:=by
 unfold ahdV;rw[if_pos h,cntG_E]
 exact (jmp_spec h).2.2.1 _ (by omega)
theorem walk32 (hN:Abs.look l 36=some ZNv) (hH:Abs.look l 33=some ZHv) (hJ:Abs.look l 39=some ZJv) (hA:Abs.look l 40=some ZAv) (h:Q (.v (.bool true)) G):Wf E (specOf l) pf32 [] G Q:=by
 have n3:newV 3= .sli .i64 [0,0,0]:=rfl
 have e1:hdE [0,0,0] 2 5=0:=by decide
 have e2:hdV [0,0,0] 2 5= .sli .i64 [0,5,0]:=by unfold hdV;rw[e1];rfl
 have m1:mayV [5,2,3]=true:=by decide
 have j1:jmpV [5,2,3]=3:=by rw[jmp_rj m1];decide
 have a1:ahdV [5,2,3] 2=2:=by decide
 simp -implicitDefEqProofs only[pf32,hN,ZNv_eq,go_sem,↓reduceIte]
 refine⟨by unfold I64;omega,?_⟩
 simp -implicitDefEqProofs only[n3,hH,ZHv_eq,go_sem,↓reduceIte]
 refine⟨[0,0,0],⟨.inl rfl,by decide,by unfold I64;omega,by unfold I64;omega⟩,?_⟩
 simp -implicitDefEqProofs only[e1,e2,hJ,ZJv_eq,hA,ZAv_eq,go_sem,↓reduceIte]
 refine⟨[5,2,3],⟨.inl rfl,by decide⟩,fun _=>⟨[5,2,3],⟨.inl rfl,by decide⟩,?_⟩,fun hn=>(hn j1).elim⟩
 rw[a1];exact h
def ZAv0:Spec1
 |[],G,Q=>Q (.v (.bool true)) G
 |_,_,_=>False
theorem ZAv0_eq:ZAv0 [] G Q=Q (.v (.bool true)) G:=rfl
def lp7_0:PC:=
 ((PC.reg [mm 24 8,mm 25 1,nn (.t 26) (.len (.t 25)),nn (.t 27) (.bin .lss (.t 24) (.t 26))]).seq (PC.cond (.t 27) PC.skip (PC.exit 0))).seq
  ((PC.block 1 ((PC.regD 0 [mm 31 6,mm 32 1,mm 33 8,nn (.t 34) (.iadrS 2 (.t 32) (.t 33)),nn (.t 35) (.iadrA 2 (.t 34) (.c (.v (.int .i64 0)))),nn
  (.t 36) (.load 1 false (.t 35)),mm 37 1,mm 38 8,nn (.t 39) (.iadrS 2 (.t 37) (.t 38)),nn (.t 40) (.iadrA 2 (.t 39) (.c (.v (.int .i64 1)))),nn
  (.t 41) (.load 1 false (.t 40)),nn (.t 42) (.call 33 [.t 31,.t 36,.t 41]),nn (.t 30) (.mv false (.t 42)),nn (.t 43) (.ext (.t 30) 0),nn (.t 44)
  (.ext (.t 30) 1),ma 9 43,ma 10 44] []).seq (((PC.reg [mm 45 10,nn (.t 46) (.bin .eql (.t 45) (.c (.v (.int .i64 0))))]).seq (PC.cond (.t 46)
  (PC.reg [nn (.t 47) (.mv true (.v 9)),ma 6 47]) PC.skip)).seq ((PC.reg [mm 48 6,nn (.t 49) (.call 39 [.t 48]),ma 11 49]).seq (((PC.reg [mm 50 11,
  mm 51 7,nn (.t 52) (.bin .lss (.t 50) (.t 51)),nn (.t 53) (.mv false (.t 52)),gm 54 6 53 false,gm 55 11 53 false,⟨.t 56,.call 42 [.t 54,.t
  55],some (.t 53,false)⟩,gm 57 5 53 false,⟨.t 58,.bin .lss (.t 56) (.t 57),some (.t 53,false)⟩,nn (.t 59) (.pick (.t 53) (.c (.v (.bool
  true))) (.t 58)),nn (.t 60) (.mv false (.t 59)),gm 61 6 60 false,gm 62 11 60 false,⟨.t 63,.call 40 [.t 61,.t 62],some (.t 60,false)⟩,gm 64 5
  60 false,⟨.t 65,.bin .geq (.t 63) (.t 64),some (.t 60,false)⟩,nn (.t 66) (.pick (.t 60) (.c (.v (.bool true))) (.t 65))]).seq (PC.cond (.t 66)
  ((PC.reg [nn (.v 4) (.mv true (.c (.v (.bool false))))]).seq PC.ret) PC.skip)).seq (PC.reg [nn (.t 67) (.mv true (.v 11)),ma 7 67])))))).seq (PC.reg
  [mm 28 8,nn (.t 29) (.bin .add (.t 28) (.c (.v (.int .i64 1)))),ma 8 29]))
def pf7:PF:=
 PF.mk 2 12 69 ((PC.reg [nn (.v 4) (.mv true (.c (.v (.bool false))))]).seq ((PC.reg [mm 12 0,nn (.t 13) (.call 37 [.t 12]),ma 5 13]).seq (((PC.reg
  [mm 14 5,nn (.t 15) (.bin .eql (.t 14) (.c (.v (.int .i64 0)))),nn (.t 16) (.mv false (.t 15)),gm 17 1 16 false,⟨.t 18,.len (.t 17),some (.t
  16,false)⟩,⟨.t 19,.bin .gtr (.t 18) (.c (.v (.int .i64 60))),some (.t 16,false)⟩,nn (.t 20) (.pick (.t 16) (.c (.v (.bool true))) (.t
  19))]).seq (PC.cond (.t 20) ((PC.reg [nn (.t 21) (.call 32 []),ma 4 21]).seq PC.ret) PC.skip)).seq ((PC.reg [mm 22 0,nn (.t 23) (.call 36 [.t 22]),
  ma 6 23]).seq ((PC.reg [nn (.v 7) (.mv true (.c (.v (.int .i64 0))))]).seq (((PC.reg [nn (.v 8) (.mv true (.c (.v (.int .i64 0))))]).seq (PC.block 0
  (PC.loop [1,5,6,7,8] lp7_0))).seq ((PC.reg [nn (.t 68) (.call 32 []),ma 4 68]).seq PC.ret))))))) [(.v 4,none)]
def pV (p:Int×Int):V:= .arr .i64 2 [p.1,p.2]
theorem getD_pv {l:List (Int×Int)} {j:Nat} {p:Int×Int} {r:List (Int×Int)} (h:l.drop j=p::r):(l.map pV).getD j V.nilp= .arr .i64 2 [p.1,p.2]:=by
 rw[List.getD_eq_getElem?_getD,List.getElem?_map,at_drop2 h];rfl
theorem hd_zero {xs:List Int} {i v:Int} (h:hdE xs i v=0):(mayV xs=true∧1≤i∧i≤xs.length∧1≤v∧v≤1099511627776)∧xs.getD (i-1).toNat 0 < v∧hdV xs i v= .sli .i64 (xs.set (i-1).toNat v):=by
 by_cases c:mayV xs=true∧1≤i∧i≤xs.length∧1≤v∧v≤1099511627776
 ·by_cases c2:v≤xs.getD (i-1).toNat 0
  ·rw[(hd_old c c2).1]at h;cases h
  ·exact⟨c,by omega,(hd_ok c c2).2⟩
 ·rw[(hd_no c).1]at h;cases h
theorem loop7 (hH:Abs.look l 33=some ZHv) (hJ:Abs.look l 39=some ZJv) (hR:Abs.look l 42=some ZRv) (hD:Abs.look l 40=some ZAv) {QQ:Ex→St→Prop} {ps:List (Int×Int)} {n:Int} (hn:quo n≠0) (hl:ps.length≤60) (hw:∀p∈ps,I64 p.1∧I64 p.2)
  (hx:∀i t8 d6 j,QQ (.exit 0) ⟨[none,some (.v (.sle 2 (ps.map pV))),none,none,none,some (.v (.int .i64 (quo n))),some d6,some (.v (.int .i64 j)),some (.v (.int .i64 (i:Nat))),none,none,none],t8,[],G⟩):
  ∀(r:List (Int×Int)) (i:Nat) (xs:List Int) (d6:D) (j:Int),ps.drop i=r→i≤ps.length→(d6= .own (.sli .i64 xs)∨d6= .v (.sli .i64 xs))→(xs.length:Int)=n→mayV xs=true→j≤jmpV xs→WL (W E (specOf l) lp7_0) [1,5,6,7,8] QQ (r.length+1) ⟨[none,some (.v (.sle 2 (ps.map pV))),none,none,none,some (.v (.int .i64 (quo n))),some d6,some (.v (.int .i64 j)),some (.v (.int .i64 (i:Nat))),none,none,none],[],[],G⟩:=by
 have hnn:=quo_le hn
 intro r
 induction r with
 |nil=>
  intro i xs d6 j h1 h2 h3 h4 h5 h6
  have:=drop_none h1
  have c1:¬(i:Int) < (ps.length:Int):=by omega
  refine WL_in lp7_0.eq_1 ?_
  simp -implicitDefEqProofs only[c1,List.length_map,go_sem,↓reduceIte]
  exact hx _ _ _ _
 |cons p r ih=>
  intro i xs d6 j h1 h2 h3 h4 h5 h6
  obtain⟨hd,hj,hlen⟩:=drop_one h1
  have g:=getD_pv h1
  have hp:=hw p (List.mem_of_getElem? (at_drop2 h1))
  have c1:(i:Int) < (ps.length:Int):=by omega
  have c3:(0:Int)≤i:=by omega
  have w1:IntKind.i64.wrap ((i:Int)+1)=((i+1:Nat):Int):=wc (by omega) (by omega)
  have hlx:xs.length < 1000000:=by omega
  refine WL_in lp7_0.eq_1 ?_
  by_cases he:hdE xs p.1 p.2=0
  ·obtain⟨q,hlt,e2⟩:=hd_zero he
   have m2:mayV (xs.set (p.1-1).toNat p.2)=true:=may_set h5 (by omega) (by omega)
   have jm:=jmp_mono (k:=(p.1-1).toNat) (v:=p.2) h5 (by omega) (by omega) (by omega)
   have js:=jmp_spec m2
   have al:=ahd_lt m2
   rw[List.length_set,h4]at js al
   have f1:¬jmpV (xs.set (p.1-1).toNat p.2) < j:=by omega
   have f2:¬cntE (jmpV (xs.set (p.1-1).toNat p.2)) (xs.set (p.1-1).toNat p.2) < quo n:=by omega
   have f3:¬quo n≤ahdV (xs.set (p.1-1).toNat p.2) (jmpV (xs.set (p.1-1).toNat p.2)):=by omega
   have hl2:(xs.set (p.1-1).toNat p.2).length < 1000000:=by rw[List.length_set];exact hlx
   rcases h3 with rfl|rfl
   ·simp -implicitDefEqProofs only[c1,c3,g,hH,ZHv_eq,List.length_map,Int.toNat_natCast,go_sem,↓reduceIte]
    refine⟨xs,⟨.inl rfl,hlx,hp.1,hp.2⟩,fun _=> ?_,fun hne=>(hne he).elim⟩
    rw[e2]
    simp -implicitDefEqProofs only[hJ,ZJv_eq,go_sem,↓reduceIte]
    refine⟨_,⟨.inl rfl,hl2⟩,fun hc=>(f1 hc).elim,fun _=> ?_⟩
    simp -implicitDefEqProofs only[hR,ZRv_eq,go_sem,↓reduceIte]
    refine⟨_,⟨.inl rfl,hl2⟩,fun hc=>(f2 hc).elim,fun _=> ?_⟩
    simp -implicitDefEqProofs only[hD,ZAv_eq,go_sem,↓reduceIte]
    refine⟨_,⟨.inl rfl,hl2⟩,fun hc=>(f3 hc).elim,fun _=> ?_⟩
    simp -implicitDefEqProofs only[w1,go_sem,↓reduceIte]
    exact ih (i+1) (xs.set (p.1-1).toNat p.2) _ _ hd (by omega) (.inr rfl) (by rw[List.length_set];exact h4) m2 (Int.le_refl _)
   ·simp -implicitDefEqProofs only[c1,c3,g,hH,ZHv_eq,List.length_map,Int.toNat_natCast,go_sem,↓reduceIte]
    refine⟨xs,⟨.inl rfl,hlx,hp.1,hp.2⟩,fun _=> ?_,fun hne=>(hne he).elim⟩
    rw[e2]
    simp -implicitDefEqProofs only[hJ,ZJv_eq,go_sem,↓reduceIte]
    refine⟨_,⟨.inl rfl,hl2⟩,fun hc=>(f1 hc).elim,fun _=> ?_⟩
    simp -implicitDefEqProofs only[hR,ZRv_eq,go_sem,↓reduceIte]
    refine⟨_,⟨.inl rfl,hl2⟩,fun hc=>(f2 hc).elim,fun _=> ?_⟩
    simp -implicitDefEqProofs only[hD,ZAv_eq,go_sem,↓reduceIte]
    refine⟨_,⟨.inl rfl,hl2⟩,fun hc=>(f3 hc).elim,fun _=> ?_⟩
    simp -implicitDefEqProofs only[w1,go_sem,↓reduceIte]
    exact ih (i+1) (xs.set (p.1-1).toNat p.2) _ _ hd (by omega) (.inr rfl) (by rw[List.length_set];exact h4) m2 (Int.le_refl _)
  ·have js:=jmp_spec h5
   have al:=ahd_lt h5
   rw[h4]at js al
   have f1:¬jmpV xs < j:=by omega
   have f2:¬cntE (jmpV xs) xs < quo n:=by omega
   have f3:¬quo n≤ahdV xs (jmpV xs):=by omega
   rcases h3 with rfl|rfl
   ·simp -implicitDefEqProofs only[c1,c3,g,hH,ZHv_eq,List.length_map,Int.toNat_natCast,go_sem,↓reduceIte]
    refine⟨xs,⟨.inl rfl,hlx,hp.1,hp.2⟩,fun h0=>(he h0).elim,fun _=> ?_⟩
    simp -implicitDefEqProofs only[hJ,ZJv_eq,go_sem,↓reduceIte]
    refine⟨_,⟨.inl rfl,hlx⟩,fun hc=>(f1 hc).elim,fun _=> ?_⟩
    simp -implicitDefEqProofs only[hR,ZRv_eq,go_sem,↓reduceIte]
    refine⟨_,⟨.inl rfl,hlx⟩,fun hc=>(f2 hc).elim,fun _=> ?_⟩
    simp -implicitDefEqProofs only[hD,ZAv_eq,go_sem,↓reduceIte]
    refine⟨_,⟨.inl rfl,hlx⟩,fun hc=>(f3 hc).elim,fun _=> ?_⟩
    simp -implicitDefEqProofs only[w1,go_sem,↓reduceIte]
    exact ih (i+1) xs _ _ hd (by omega) (.inl rfl) h4 h5 (Int.le_refl _)
   ·simp -implicitDefEqProofs only[c1,c3,g,hH,ZHv_eq,List.length_map,Int.toNat_natCast,go_sem,↓reduceIte]
    refine⟨xs,⟨.inl rfl,hlx,hp.1,hp.2⟩,fun h0=>(he h0).elim,fun _=> ?_⟩
    simp -implicitDefEqProofs only[hJ,ZJv_eq,go_sem,↓reduceIte]
    refine⟨_,⟨.inl rfl,hlx⟩,fun hc=>(f1 hc).elim,fun _=> ?_⟩
    simp -implicitDefEqProofs only[hR,ZRv_eq,go_sem,↓reduceIte]
    refine⟨_,⟨.inl rfl,hlx⟩,fun hc=>(f2 hc).elim,fun _=> ?_⟩
    simp -implicitDefEqProofs only[hD,ZAv_eq,go_sem,↓reduceIte]
    refine⟨_,⟨.inl rfl,hlx⟩,fun hc=>(f3 hc).elim,fun _=> ?_⟩
    simp -implicitDefEqProofs only[w1,go_sem,↓reduceIte]
    exact ih (i+1) xs _ _ hd (by omega) (.inr rfl) h4 h5 (Int.le_refl _)
theorem walk7 {ps:List (Int×Int)} {n:Int} (hA:Abs.look l 32=some ZAv0) (hN:Abs.look l 36=some ZNv) (hQ:Abs.look l 37=some ZQu) (hH:Abs.look l 33=some ZHv) (hJ:Abs.look l 39=some ZJv) (hR:Abs.look l 42=some ZRv) (hD:Abs.look l 40=some ZAv)
  (hi:I64 n) (hw:∀p∈ps,I64 p.1∧I64 p.2) (h:Q (.v (.bool true)) G):Wf E (specOf l) pf7 [.int .i64 n,.sle 2 (ps.map pV)] G Q:=by
 simp -implicitDefEqProofs only[pf7,hQ,ZQu_eq,List.length_map,go_sem,↓reduceIte]
 refine⟨hi,?_⟩
 by_cases hn:quo n=0
 ·simp -implicitDefEqProofs only[hn,hA,ZAv0_eq,go_sem,↓reduceIte]
  exact h
 ·by_cases hl:(60:Int) < ps.length
  ·simp -implicitDefEqProofs only[hn,hl,hA,ZAv0_eq,go_sem,↓reduceIte]
   exact⟨h,fun hc=>absurd hc (by omega)⟩
  ·have e1:newV n= .sli .i64 (List.replicate n.toNat 0):=by unfold newV;rw[if_neg hn]
   have hnn:=quo_le hn
   have e3:(((List.replicate n.toNat (0:Int)).length:Nat):Int)=n:=by rw[List.length_replicate];omega
   have m0:mayV (List.replicate n.toNat 0)=true:=by
    rw[mayV_iff,e3]
    refine⟨by omega,fun y hy=> ?_⟩
    rw[(List.mem_replicate.1 hy).2];omega
   simp -implicitDefEqProofs only[hn,hl,hN,ZNv_eq,e1,go_sem,↓reduceIte]
   refine fun _=>⟨hi,?_⟩
   refine⟨ps.length+1,?_⟩
   refine loop7 hH hJ hR hD hn (by omega) hw (fun i t8 d6 j=> ?_) ps 0 _ _ 0 rfl (by omega) (.inl rfl) e3 m0 (jmp_spec m0).2.2.2
   simp -implicitDefEqProofs only[hA,ZAv0_eq,go_sem,↓reduceIte]
   exact h
open Go Go.Abs Go.RowKit Go.Abs.Sha
theorem int_of {n:Nat} {x:V} (h:TyV Try.prog (n+1) 3 x):∃i,x= .int .i64 i∧I64 i:=by
 unfold TyV at h;simp only[Try.underlying3]at h
 obtain⟨i,rfl,h⟩:=h;exact⟨i,rfl,wf64 h⟩
theorem ints_of {n:Nat} {x:V} (h:TyV Try.prog (n+1) 41 x):∃l,x= .sli .i64 l∧∀i∈l,I64 i:=by
 have hk:intK Try.prog 3=some .i64:=by kernel_rfl
 unfold TyV at h;simp only[Try.underlying41,hk]at h
 obtain⟨l,rfl,h1,h2⟩:=h;exact⟨l,rfl,fun i hi=>wf64 (h1 i hi)⟩
theorem pair_of {n:Nat} {x:V} (h:TyV Try.prog (n+1) 88 x):∃p:Int×Int,x=pV p∧I64 p.1∧I64 p.2:=by
 have hk:intK Try.prog 3=some .i64:=by kernel_rfl
 unfold TyV at h;simp only[Try.underlying88,hk]at h
 obtain⟨xs,rfl,h1,h2⟩:=h
 match xs,h1,h2 with
 |[a,b],_,h2=>exact⟨(a,b),rfl,wf64 (h2 a (by simp)),wf64 (h2 b (by simp))⟩
theorem plist_of:∀{xs:List V},(∀e∈xs,∃p:Int×Int,e=pV p∧I64 p.1∧I64 p.2)→∃l:List (Int×Int),xs=l.map pV∧∀p∈l,I64 p.1∧I64 p.2
 |[],_=>⟨[],rfl,fun _ h=>absurd h (by simp)⟩
 |x::xs,h=>by
  obtain⟨p,rfl,hp⟩:=h x List.mem_cons_self
  obtain⟨l,rfl,hl⟩:=plist_of fun e he=>h e (List.mem_cons_of_mem _ he)
  refine⟨p::l,rfl,fun q hq=> ?_⟩
  rcases List.mem_cons.1 hq with rfl|hq
  ·exact hp
  ·exact hl q hq
theorem pairs_of {n:Nat} {x:V} (h:TyV Try.prog (n+2) 87 x):∃l:List (Int×Int),x= .sle 2 (l.map pV)∧∀p∈l,I64 p.1∧I64 p.2:=by
 have hk:intK Try.prog 88=none:=by kernel_rfl
 have hc:Try.prog.cellsOf 88=2:=by kernel_rfl
 unfold TyV at h;simp only[Try.underlying87,hk,hc]at h
 obtain⟨xs,rfl,h,hl⟩:=h
 obtain⟨l,rfl,hw⟩:=plist_of (xs:=xs) fun e he=>pair_of (h e he)
 exact⟨l,rfl,hw⟩
end Go.Proofs.Ytjbglbhcbenhpaa.Sha
