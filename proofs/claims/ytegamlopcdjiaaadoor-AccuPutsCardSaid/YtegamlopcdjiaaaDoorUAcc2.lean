/- Rows, certificates, accumulations. -/
import Derived.Test.YtegamlopcdjiaaaDoorUAcc1
namespace Go.Proofs.YtegamlopcdjiaaaDoor.Sha
open Go Go.Abs Go.Abs.Sha Go.Abs.Srt
set_option linter.unusedSimpArgs false
set_option linter.unusedVariables false
set_option maxRecDepth 100000
def pf10:PF:=
 PF.mk 2 6 47 ((PC.reg [nn (.v 3) (.box (.v 1)),nn (.v 4) (.mv true (.c (.v (.bool false))))]).seq ((PC.reg [mm 6 0,nn (.t 7) (.call 44 [.t 6]),ma 5
  7]).seq ((PC.regD 0 [mm 8 5,nn (.t 9) (.bin .gtr (.t 8) (.c (.v (.int .i64 0)))),nn (.t 10) (.mv false (.t 9)),⟨.t 11,.load 68 true (.v 3),some
  (.t 10,true)⟩,⟨.t 12,.call 45 [.t 11],some (.t 10,true)⟩,nn (.t 13) (.pick (.t 10) (.t 12) (.c (.v (.bool false)))),nn (.t 14) (.mv false (.t
  13)),⟨.t 15,.fadr 0 0 (.v 3),some (.t 14,true)⟩,⟨.t 16,.load 1 false (.t 15),some (.t 14,true)⟩,gm 17 0 14 true,⟨.t 18,.bin .leq (.t 16)
  (.t 17),some (.t 14,true)⟩,nn (.t 19) (.pick (.t 14) (.t 18) (.c (.v (.bool false)))),nn (.t 20) (.mv false (.t 19)),⟨.t 21,.fadr 4 35 (.v 3),
  some (.t 20,true)⟩,⟨.t 22,.load 1 false (.t 21),some (.t 20,true)⟩,⟨.t 23,.len (.t 22),some (.t 20,true)⟩,gm 24 5 20 true,⟨.t 25,.bin
  .eql (.t 23) (.t 24),some (.t 20,true)⟩,nn (.t 26) (.pick (.t 20) (.t 25) (.c (.v (.bool false)))),nn (.t 27) (.mv false (.t 26)),⟨.t 28,.fadr
  4 35 (.v 3),some (.t 27,true)⟩,⟨.t 29,.load 1 false (.t 28),some (.t 27,true)⟩,gm 30 5 27 true,⟨.t 31,.bin .sub (.t 30) (.c (.v (.int .i64
  1))),some (.t 27,true)⟩,⟨.t 32,.iadrS 1 (.t 29) (.t 31),some (.t 27,true)⟩,⟨.t 33,.load 1 false (.t 32),some (.t 27,true)⟩,gm 34 0 27
  true,⟨.t 35,.bin .leq (.t 33) (.t 34),some (.t 27,true)⟩,nn (.t 36) (.pick (.t 27) (.t 35) (.c (.v (.bool false)))),nn (.t 37) (.mv false (.t
  36)),⟨.t 38,.fadr 0 0 (.v 3),some (.t 37,true)⟩,⟨.t 39,.load 1 false (.t 38),some (.t 37,true)⟩,⟨.t 40,.fadr 5 36 (.v 3),some (.t 37,
  true)⟩,⟨.t 41,.load 32 true (.t 40),some (.t 37,true)⟩,⟨.t 42,.load 68 true (.v 3),some (.t 37,true)⟩,⟨.t 43,.call 47 [.c (.own .nils),.t
  42],some (.t 37,true)⟩,⟨.t 44,.buildS none 1 .nils 1 [(0,.t 43)],some (.t 37,true)⟩,⟨.t 45,.call 46 [.t 39,.c (.v (.int .u8 2)),.t 41,.t
  44],some (.t 37,true)⟩,nn (.t 46) (.pick (.t 37) (.t 45) (.c (.v (.bool false)))),ma 4 46] []).seq PC.ret))) [(.v 4,none)]
attribute [local irreducible] W Wops WopsD WL Wop WopD
variable {E:Env} {C:Abs.Spec} {l:List (Nat×Spec1)} {G:List (Nat×V)} {Q:R→List (Nat×V)→Prop}
set_option maxHeartbeats 1000000
def sameA (a b:AccS):Bool:=decide (a.who=b.who∧a.vi=b.vi∧a.pv=b.pv∧a.ph=b.ph∧a.fr=b.fr∧a.ta=b.ta)
def ZS10:Spec1
 |[x,y],G,Q=>∃a b:AccS,(x=a.v∧y=b.v∧a.fr.length < 1000000∧b.fr.length < 1000000)∧Q (.v (.bool (sameA a b))) G
 |_,_,_=>False
theorem ZS10_eq {x y}:ZS10 [x,y] G Q=(∃a b:AccS,(x=a.v∧y=b.v∧a.fr.length < 1000000∧b.fr.length < 1000000)∧Q (.v (.bool (sameA a b))) G):=rfl
def ZRa (kt:List Int):Spec1
 |[.int .i64 n,x],G,Q=>∃a:AccS,(x=a.v∧a.wf∧a.fr.length < 1000000∧I64 n)∧Q (.v (.bool (a.right kt n))) G
 |_,_,_=>False
theorem ZRa_eq {kt n x}:ZRa kt [.int .i64 n,x] G Q=(∃a:AccS,(x=a.v∧a.wf∧a.fr.length < 1000000∧I64 n)∧Q (.v (.bool (a.right kt n))) G):=rfl
theorem loop47i {QQ:Ex→St→Prop} {fr T:List Int} {L:List Bx} (hN:Abs.look l 72=some SNu) (hl:fr.length < 1000000) (hT:T.length < 10000000000) (hfr:∀x∈fr,0≤x∧x≤21)
  (hx:∀(j:Nat) (pre:List Int) ts,pre=T→QQ (.exit 0) ⟨[some (.own (.sli .u8 pre)),none,none,none,none,none,none,none,none,none,none,none,none,none,none,none,none,none,none,none,none,none,none,none,none,none,some (.v (.sli .i64 fr)),some (.v (.int .i64 (fr.length:Nat))),some (.v (.int .i64 (j:Nat)))],ts,L,G⟩):
  ∀(r:List Int) (j:Nat) (pre:List Int),fr.drop j=r→j≤fr.length→pre++nums r=T→WL (W E (specOf l) lp47_0) [0,26,27,28] QQ (r.length+1) ⟨[some (.own (.sli .u8 pre)),none,none,none,none,none,none,none,none,none,none,none,none,none,none,none,none,none,none,none,none,none,none,none,none,none,some (.v (.sli .i64 fr)),some (.v (.int .i64 (fr.length:Nat))),some (.v (.int .i64 (j:Nat)))],[],L,G⟩:=by
 intro r
 induction r with
 |nil=>
  intro j pre h1 h2 h3
  have:=drop_none h1
  have c1:¬(j:Int) < (fr.length:Int):=by omega
  refine WL_in lp47_0.eq_1 ?_
  simp (maxSteps:=1000000) (implicitDefEqProofs:=false) only[c1,go_sem,↓reduceIte]
  exact hx _ _ _ (by simpa [nums]using h3)
 |cons p r ih=>
  intro j pre h1 h2 h3
  obtain⟨hd,hj,hlen⟩:=drop_one h1
  have g:=getD_at h1
  have hp:=hfr p (List.mem_of_getElem? (at_drop h1))
  have hpl:pre.length < 10000000000:=by have:=congrArg List.length h3;rw[List.length_append]at this;omega
  have c1:(j:Int) < (fr.length:Int):=by omega
  have c2:(0:Int)≤(j:Int):=by omega
  have w1:IntKind.i64.wrap ((j:Int)+1)=((j+1:Nat):Int):=wc (by omega) (by omega)
  have w2:IntKind.u64.wrap p=p:=u64_of hp.1 (by omega)
  refine WL_in lp47_0.eq_1 ?_
  simp (maxSteps:=1000000) (implicitDefEqProofs:=false) only[c1,c2,g,w1,w2,Int.toNat_natCast,hN,SNu_eq,go_sem,↓reduceIte]
  refine⟨_,⟨byV_u8 _,by omega,by omega,by omega⟩,?_⟩
  exact ih (j+1) (pre++num p.toNat) hd (by omega) (by rw[←h3];simp only[nums,List.append_assoc])
theorem walk47i {a1 a2 a3:Int} {a4 a6 fr:List Int} (hN:Abs.look l 72=some SNu) (hH:Abs.look l 71=some SHa) {b:List Int} (hb:b.length < 1000000000) (hw:(⟨a1,a2,a3,a4,fr,a6⟩:AccS).wf) (hm:(⟨a1,a2,a3,a4,fr,a6⟩:AccS).May) (h:Q (.own (.sli .u8 (b++(⟨a1,a2,a3,a4,fr,a6⟩:AccS).said))) G):Wf E (specOf l) pf47 [.sli .u8 b,.agg [.int .i64 a1,.int .i64 a2,.int .i64 a3,.arr .u8 32 a4,.sli .i64 fr,.arr .u8 32 a6]] G Q:=by
 obtain⟨l1,l2,l3⟩:=AccS.may_len hm
 obtain⟨m1,m2,m3,m4,m5⟩:=hm
 dsimp only at m1 m2 m3 m4 m5 l1 l2 l3
 obtain⟨r2,n2⟩:=num_ok (n:=a2.toNat) (by omega)
 obtain⟨r3,n3⟩:=num_ok (n:=a3.toNat) (by omega)
 obtain⟨r5,n5⟩:=num_ok (n:=fr.length) (by omega)
 obtain⟨r6,n6⟩:=nums_ok (l:=fr) fun x hx=>by have:=l3 x hx;omega
 have w2:=u64_of (n:=a2) (by omega) (by omega)
 have w3:=u64_of (n:=a3) (by omega) (by omega)
 have w5:=u64_of (n:=(fr.length:Int)) (by omega) (by omega)
 have l4:a4.length=32:=hw.ph.2
 unfold AccS.said at h
 dsimp only at h
 simp (maxSteps:=1000000) (implicitDefEqProofs:=false) only[pf47,hN,SNu_eq,hH,SHa_eq,w2,w3,w5,Int.toNat_natCast,go_sem,↓reduceIte]
 refine⟨_,⟨byV_u8 _,by omega,by omega,by omega⟩,_,⟨byV_u8 _,by simp only[List.length_append];omega,by omega,by omega⟩,_,⟨byV_u8 _,by simp only[List.length_append];omega,l4⟩,_,⟨byV_u8 _,by simp only[List.length_append];omega,by omega,by omega⟩,fr.length+1,?_⟩
 refine loop47i hN (by omega) (T:=b++(num a2.toNat++num a3.toNat++a4++num fr.length++nums fr)) (by simp only[List.length_append];omega) (fun x hx=>by have:=l3 x hx;omega) (fun j pre ts e=> ?_) fr 0 _ rfl (Nat.zero_le _) (by simp only[List.append_assoc])
 subst e
 simp (maxSteps:=1000000) (implicitDefEqProofs:=false) only[go_sem,↓reduceIte]
 exact h
theorem loop73i {QQ:Ex→St→Prop} {a1 a2 a3:Int} {a4 a6 fr:List Int} {T:List Int} (hl:fr.length < 1000000) (hT:T.length < 10000000000) (hfr:∀x∈fr,0≤x∧x≤21)
  (hx:∀(j:Nat) (pre:List Int) ts,pre=T→QQ (.exit 0) ⟨[none,some (.lp 0 []),none,some (.own (.sli .u8 pre)),some (.v (.int .i64 (j:Nat)))],ts,[⟨false,.agg [.int .i64 a1,.int .i64 a2,.int .i64 a3,.arr .u8 32 a4,.sli .i64 fr,.arr .u8 32 a6]⟩],G⟩):
  ∀(r:List Int) (j:Nat) (pre:List Int),fr.drop j=r→j≤fr.length→pre++r=T→WL (W E C lp73_0) [1,3,4] QQ (r.length+1) ⟨[none,some (.lp 0 []),none,some (.own (.sli .u8 pre)),some (.v (.int .i64 (j:Nat)))],[],[⟨false,.agg [.int .i64 a1,.int .i64 a2,.int .i64 a3,.arr .u8 32 a4,.sli .i64 fr,.arr .u8 32 a6]⟩],G⟩:=by
 intro r
 induction r with
 |nil=>
  intro j pre h1 h2 h3
  have:=drop_none h1
  have c1:¬(j:Int) < (fr.length:Int):=by omega
  refine WL_in lp73_0.eq_1 ?_
  simp (maxSteps:=1000000) (implicitDefEqProofs:=false) only[c1,go_sem,↓reduceIte]
  exact hx _ _ _ (by simpa using h3)
 |cons p r ih=>
  intro j pre h1 h2 h3
  obtain⟨hd,hj,hlen⟩:=drop_one h1
  have g:=getD_at h1
  have hp:=hfr p (List.mem_of_getElem? (at_drop h1))
  have hpl:pre.length < 10000000000:=by have:=congrArg List.length h3;rw[List.length_append]at this;omega
  have c1:(j:Int) < (fr.length:Int):=by omega
  have c2:(0:Int)≤(j:Int):=by omega
  have w1:IntKind.i64.wrap ((j:Int)+1)=((j+1:Nat):Int):=wc (by omega) (by omega)
  have w2:IntKind.u8.wrap p=p:=by simp only[IntKind.wrap,IntKind.bits,IntKind.signed];simp;omega
  refine WL_in lp73_0.eq_1 ?_
  simp (maxSteps:=1000000) (implicitDefEqProofs:=false) only[c1,c2,g,w1,w2,Int.toNat_natCast,go_sem,↓reduceIte]
  refine⟨by omega,?_⟩
  exact ih (j+1) (pre++[p]) hd (by omega) (by rw[←h3];simp)
theorem walk73i {a1 a2 a3:Int} {a4 a6 fr:List Int} (hN:Abs.look l 103=some (SRn 10)) (hB:Abs.look l 74=some SBy) (hw:(⟨a1,a2,a3,a4,fr,a6⟩:AccS).wf) (hm:(⟨a1,a2,a3,a4,fr,a6⟩:AccS).May) (h:Q (.own (.sli .u8 (⟨a1,a2,a3,a4,fr,a6⟩:AccS).said)) G):Wf E (specOf l) pf73 [.agg [.int .i64 a1,.int .i64 a2,.int .i64 a3,.arr .u8 32 a4,.sli .i64 fr,.arr .u8 32 a6]] G Q:=by
 obtain⟨l1,l2,l3⟩:=AccS.may_len hm
 obtain⟨m1,m2,m3,m4,m5⟩:=hm
 dsimp only at m1 m2 m3 m4 m5 l1 l2 l3
 obtain⟨r2,n2⟩:=num_ok (n:=a2.toNat) (by omega)
 obtain⟨r3,n3⟩:=num_ok (n:=a3.toNat) (by omega)
 have w2:=u64_of (n:=a2) (by omega) (by omega)
 have w3:=u64_of (n:=a3) (by omega) (by omega)
 have w5:IntKind.u8.wrap (fr.length:Int)=(fr.length:Int):=by simp only[IntKind.wrap,IntKind.bits,IntKind.signed];simp;omega
 have l4:a4.length=32:=hw.ph.2
 have big:∀n:Nat,n < 2000000000000→n < 128 ^ 10:=fun n hn=>Nat.lt_of_lt_of_le hn (by decide)
 unfold AccS.said at h
 dsimp only at h
 rw[num_small (n:=fr.length) (by omega),nums_small (l:=fr) fun x hx=>by have:=l3 x hx;omega]at h
 simp (maxSteps:=1000000) (implicitDefEqProofs:=false) only[pf73,hN,SRn_eq,hB,SBy_eq,w2,w3,w5,l4,Int.toNat_natCast,go_sem,↓reduceIte]
 refine⟨⟨by omega,big _ (by omega),by omega⟩,⟨by omega,big _ (by omega),by omega⟩,by omega,by omega,by omega,fr.length+1,?_⟩
 refine loop73i (by omega) (T:=num a2.toNat++num a3.toNat++a4++[(fr.length:Int)]++fr) (by simp only[List.length_append,List.length_cons,List.length_nil];omega) (fun x hx=>by have:=l3 x hx;omega) (fun j pre ts e=> ?_) fr 0 _ rfl (Nat.zero_le _) rfl
 subst e
 simp (maxSteps:=1000000) (implicitDefEqProofs:=false) only[go_sem,↓reduceIte]
 exact h
theorem loop47s {QQ:Ex→St→Prop} {fr T:List Int} {L:List Bx} {id c:Nat} {LL:List V} (hG:Abs.look G id=some (.agg LL)) (hLL:∀(i:Nat) p,fr[i]? =some p→LL[i]? =some (.int .i64 p)) (hfl:fr.length≤LL.length) (hsz:∀y∈LL,V.size y=1) (hN:Abs.look l 72=some SNu) (hl:fr.length < 1000000) (hT:T.length < 10000000000) (hfr:∀x∈fr,0≤x∧x≤21)
  (hx:∀(j:Nat) (pre:List Int) ts,pre=T→QQ (.exit 0) ⟨[some (.own (.sli .u8 pre)),none,none,none,none,none,none,none,none,none,none,none,none,none,none,none,none,none,none,none,none,none,none,none,none,none,some (.v (.sob id 1 0 fr.length c)),some (.v (.int .i64 (fr.length:Nat))),some (.v (.int .i64 (j:Nat)))],ts,L,G⟩):
  ∀(r:List Int) (j:Nat) (pre:List Int),fr.drop j=r→j≤fr.length→pre++nums r=T→WL (W E (specOf l) lp47_0) [0,26,27,28] QQ (r.length+1) ⟨[some (.own (.sli .u8 pre)),none,none,none,none,none,none,none,none,none,none,none,none,none,none,none,none,none,none,none,none,none,none,none,none,none,some (.v (.sob id 1 0 fr.length c)),some (.v (.int .i64 (fr.length:Nat))),some (.v (.int .i64 (j:Nat)))],[],L,G⟩:=by
 intro r
 induction r with
 |nil=>
  intro j pre h1 h2 h3
  have:=drop_none h1
  have c1:¬(j:Int) < (fr.length:Int):=by omega
  refine WL_in lp47_0.eq_1 ?_
  simp (maxSteps:=1000000) (implicitDefEqProofs:=false) only[c1,go_sem,↓reduceIte]
  exact hx _ _ _ (by simpa [nums]using h3)
 |cons p r ih=>
  intro j pre h1 h2 h3
  obtain⟨hd,hj,hlen⟩:=drop_one h1
  have g:=hLL j p (at_drop h1)
  have hp:=hfr p (List.mem_of_getElem? (at_drop h1))
  have hpl:pre.length < 10000000000:=by have:=congrArg List.length h3;rw[List.length_append]at this;omega
  have c1:(j:Int) < (fr.length:Int):=by omega
  have c2:(0:Int)≤(j:Int):=by omega
  have w1:IntKind.i64.wrap ((j:Int)+1)=((j+1:Nat):Int):=wc (by omega) (by omega)
  have w2:IntKind.u64.wrap p=p:=u64_of hp.1 (by omega)
  refine WL_in lp47_0.eq_1 ?_
  simp (maxSteps:=1000000) (implicitDefEqProofs:=false) only[c1,c2,g,hG,w1,w2,Int.toNat_natCast,hN,SNu_eq,go_sem,↓reduceIte]
  refine And.intro ⟨by omega,hsz⟩ <| ⟨_,⟨byV_u8 _,by omega,by omega,by omega⟩,?_⟩
  exact ih (j+1) (pre++num p.toNat) hd (by omega) (by rw[←h3];simp only[nums,List.append_assoc])
theorem walk47s {a1 a2 a3:Int} {a4 a6 fr:List Int} {id c:Nat} {LL:List V} (hG:Abs.look G id=some (.agg LL)) (hLL:∀(i:Nat) p,fr[i]? =some p→LL[i]? =some (.int .i64 p)) (hfl:fr.length≤LL.length) (hsz:∀y∈LL,V.size y=1) (hN:Abs.look l 72=some SNu) (hH:Abs.look l 71=some SHa) {b:List Int} (hb:b.length < 1000000000) (hw:(⟨a1,a2,a3,a4,fr,a6⟩:AccS).wf) (hm:(⟨a1,a2,a3,a4,fr,a6⟩:AccS).May) (h:Q (.own (.sli .u8 (b++(⟨a1,a2,a3,a4,fr,a6⟩:AccS).said))) G):Wf E (specOf l) pf47 [.sli .u8 b,.agg [.int .i64 a1,.int .i64 a2,.int .i64 a3,.arr .u8 32 a4,.sob id 1 0 fr.length c,.arr .u8 32 a6]] G Q:=by
 obtain⟨l1,l2,l3⟩:=AccS.may_len hm
 obtain⟨m1,m2,m3,m4,m5⟩:=hm
 dsimp only at m1 m2 m3 m4 m5 l1 l2 l3
 obtain⟨r2,n2⟩:=num_ok (n:=a2.toNat) (by omega)
 obtain⟨r3,n3⟩:=num_ok (n:=a3.toNat) (by omega)
 obtain⟨r5,n5⟩:=num_ok (n:=fr.length) (by omega)
 obtain⟨r6,n6⟩:=nums_ok (l:=fr) fun x hx=>by have:=l3 x hx;omega
 have w2:=u64_of (n:=a2) (by omega) (by omega)
 have w3:=u64_of (n:=a3) (by omega) (by omega)
 have w5:=u64_of (n:=(fr.length:Int)) (by omega) (by omega)
 have l4:a4.length=32:=hw.ph.2
 unfold AccS.said at h
 dsimp only at h
 simp (maxSteps:=1000000) (implicitDefEqProofs:=false) only[pf47,hN,SNu_eq,hH,SHa_eq,w2,w3,w5,Int.toNat_natCast,go_sem,↓reduceIte]
 refine⟨_,⟨byV_u8 _,by omega,by omega,by omega⟩,_,⟨byV_u8 _,by simp only[List.length_append];omega,by omega,by omega⟩,_,⟨byV_u8 _,by simp only[List.length_append];omega,l4⟩,_,⟨byV_u8 _,by simp only[List.length_append];omega,by omega,by omega⟩,fr.length+1,?_⟩
 refine loop47s hG hLL hfl hsz hN (by omega) (T:=b++(num a2.toNat++num a3.toNat++a4++num fr.length++nums fr)) (by simp only[List.length_append];omega) (fun x hx=>by have:=l3 x hx;omega) (fun j pre ts e=> ?_) fr 0 _ rfl (Nat.zero_le _) (by simp only[List.append_assoc])
 subst e
 simp (maxSteps:=1000000) (implicitDefEqProofs:=false) only[go_sem,↓reduceIte]
 exact h
theorem loop73s {QQ:Ex→St→Prop} {a1 a2 a3:Int} {a4 a6 fr:List Int} {T:List Int} {id c:Nat} {LL:List V} (hG:Abs.look G id=some (.agg LL)) (hLL:∀(i:Nat) p,fr[i]? =some p→LL[i]? =some (.int .i64 p)) (hfl:fr.length≤LL.length) (hsz:∀y∈LL,V.size y=1) (hl:fr.length < 1000000) (hT:T.length < 10000000000) (hfr:∀x∈fr,0≤x∧x≤21)
  (hx:∀(j:Nat) (pre:List Int) ts,pre=T→QQ (.exit 0) ⟨[none,some (.lp 0 []),none,some (.own (.sli .u8 pre)),some (.v (.int .i64 (j:Nat)))],ts,[⟨false,.agg [.int .i64 a1,.int .i64 a2,.int .i64 a3,.arr .u8 32 a4,.sob id 1 0 fr.length c,.arr .u8 32 a6]⟩],G⟩):
  ∀(r:List Int) (j:Nat) (pre:List Int),fr.drop j=r→j≤fr.length→pre++r=T→WL (W E C lp73_0) [1,3,4] QQ (r.length+1) ⟨[none,some (.lp 0 []),none,some (.own (.sli .u8 pre)),some (.v (.int .i64 (j:Nat)))],[],[⟨false,.agg [.int .i64 a1,.int .i64 a2,.int .i64 a3,.arr .u8 32 a4,.sob id 1 0 fr.length c,.arr .u8 32 a6]⟩],G⟩:=by
 intro r
 induction r with
 |nil=>
  intro j pre h1 h2 h3
  have:=drop_none h1
  have c1:¬(j:Int) < (fr.length:Int):=by omega
  refine WL_in lp73_0.eq_1 ?_
  simp (maxSteps:=1000000) (implicitDefEqProofs:=false) only[c1,go_sem,↓reduceIte]
  exact hx _ _ _ (by simpa using h3)
 |cons p r ih=>
  intro j pre h1 h2 h3
  obtain⟨hd,hj,hlen⟩:=drop_one h1
  have g:=hLL j p (at_drop h1)
  have hp:=hfr p (List.mem_of_getElem? (at_drop h1))
  have hpl:pre.length < 10000000000:=by have:=congrArg List.length h3;rw[List.length_append]at this;omega
  have c1:(j:Int) < (fr.length:Int):=by omega
  have c2:(0:Int)≤(j:Int):=by omega
  have w1:IntKind.i64.wrap ((j:Int)+1)=((j+1:Nat):Int):=wc (by omega) (by omega)
  have w2:IntKind.u8.wrap p=p:=by simp only[IntKind.wrap,IntKind.bits,IntKind.signed];simp;omega
  refine WL_in lp73_0.eq_1 ?_
  simp (maxSteps:=1000000) (implicitDefEqProofs:=false) only[c1,c2,g,hG,w1,w2,Int.toNat_natCast,go_sem,↓reduceIte]
  refine And.intro ⟨by omega,hsz⟩ <| ⟨by omega,?_⟩
  exact ih (j+1) (pre++[p]) hd (by omega) (by rw[←h3];simp)
theorem walk73s {a1 a2 a3:Int} {a4 a6 fr:List Int} {id c:Nat} {LL:List V} (hG:Abs.look G id=some (.agg LL)) (hLL:∀(i:Nat) p,fr[i]? =some p→LL[i]? =some (.int .i64 p)) (hfl:fr.length≤LL.length) (hsz:∀y∈LL,V.size y=1) (hN:Abs.look l 103=some (SRn 10)) (hB:Abs.look l 74=some SBy) (hw:(⟨a1,a2,a3,a4,fr,a6⟩:AccS).wf) (hm:(⟨a1,a2,a3,a4,fr,a6⟩:AccS).May) (h:Q (.own (.sli .u8 (⟨a1,a2,a3,a4,fr,a6⟩:AccS).said)) G):Wf E (specOf l) pf73 [.agg [.int .i64 a1,.int .i64 a2,.int .i64 a3,.arr .u8 32 a4,.sob id 1 0 fr.length c,.arr .u8 32 a6]] G Q:=by
 obtain⟨l1,l2,l3⟩:=AccS.may_len hm
 obtain⟨m1,m2,m3,m4,m5⟩:=hm
 dsimp only at m1 m2 m3 m4 m5 l1 l2 l3
 obtain⟨r2,n2⟩:=num_ok (n:=a2.toNat) (by omega)
 obtain⟨r3,n3⟩:=num_ok (n:=a3.toNat) (by omega)
 have w2:=u64_of (n:=a2) (by omega) (by omega)
 have w3:=u64_of (n:=a3) (by omega) (by omega)
 have w5:IntKind.u8.wrap (fr.length:Int)=(fr.length:Int):=by simp only[IntKind.wrap,IntKind.bits,IntKind.signed];simp;omega
 have l4:a4.length=32:=hw.ph.2
 have big:∀n:Nat,n < 2000000000000→n < 128 ^ 10:=fun n hn=>Nat.lt_of_lt_of_le hn (by decide)
 unfold AccS.said at h
 dsimp only at h
 rw[num_small (n:=fr.length) (by omega),nums_small (l:=fr) fun x hx=>by have:=l3 x hx;omega]at h
 simp (maxSteps:=1000000) (implicitDefEqProofs:=false) only[pf73,hN,SRn_eq,hB,SBy_eq,w2,w3,w5,l4,Int.toNat_natCast,go_sem,↓reduceIte]
 refine⟨⟨by omega,big _ (by omega),by omega⟩,⟨by omega,big _ (by omega),by omega⟩,by omega,by omega,by omega,fr.length+1,?_⟩
 refine loop73s hG hLL hfl hsz (by omega) (T:=num a2.toNat++num a3.toNat++a4++[(fr.length:Int)]++fr) (by simp only[List.length_append,List.length_cons,List.length_nil];omega) (fun x hx=>by have:=l3 x hx;omega) (fun j pre ts e=> ?_) fr 0 _ rfl (Nat.zero_le _) rfl
 subst e
 simp (maxSteps:=1000000) (implicitDefEqProofs:=false) only[go_sem,↓reduceIte]
 exact h
theorem loop13 {QQ:Ex→St→Prop} {a1 a2 a3:Int} {a4 a6 fa:List Int} {b1 b2 b3:Int} {b4 b6 fb:List Int} {L:List Bx} (hL:L=[⟨false,.agg [.int .i64 a1,.int .i64 a2,.int .i64 a3,.arr .u8 32 a4,.sli .i64 fa,.arr .u8 32 a6]⟩,⟨false,.agg [.int .i64 b1,.int .i64 b2,.int .i64 b3,.arr .u8 32 b4,.sli .i64 fb,.arr .u8 32 b6]⟩]) (hll:fa.length=fb.length) (hl:fa.length < 1000000)
  (hx:∀(j:Nat) ts,fa=fb→QQ (.exit 0) ⟨[none,none,some (.lp 0 []),some (.lp 1 []),none,some (.v (.int .i64 (j:Nat)))],ts,L,G⟩) (hr:∀σ:St,σ.G=G→St.ev σ (.v 4)=some (.v (.bool false))→fa≠fb→QQ .ret σ):
  ∀(r r2:List Int) (j:Nat),fa.drop j=r→fb.drop j=r2→j≤fa.length→(fa=fb↔r=r2)→WL (W E C lp13_0) [2,3,5] QQ (r.length+1) ⟨[none,none,some (.lp 0 []),some (.lp 1 []),none,some (.v (.int .i64 (j:Nat)))],[],L,G⟩:=by
 subst hL
 intro r
 induction r with
 |nil=>
  intro r2 j h1 h0 h2 h3
  have:=drop_none h1
  have c1:¬(j:Int) < (fa.length:Int):=by omega
  refine WL_in lp13_0.eq_1 ?_
  simp (maxSteps:=1000000) (implicitDefEqProofs:=false) only[c1,go_sem,↓reduceIte]
  refine hx _ _ (h3.2 ?_)
  rw[←h0,List.drop_eq_nil_of_le (by omega)]
 |cons p r ih=>
  intro r2 j h1 h0 h2 h3
  obtain⟨hd,hj,hlen⟩:=drop_one h1
  obtain⟨p2,r2,rfl⟩:∃p2 r',r2=p2::r':=by
   cases r2 with
   |nil=>have:=drop_none h0;omega
   |cons p2 r2=>exact⟨_,_,rfl⟩
  obtain⟨hd2,hj2,hlen2⟩:=drop_one h0
  have g:=getD_at h1
  have g2:=getD_at h0
  have c1:(j:Int) < (fa.length:Int):=by omega
  have c3:(j:Int) < (fb.length:Int):=by omega
  have c2:(0:Int)≤(j:Int):=by omega
  have w1:IntKind.i64.wrap ((j:Int)+1)=((j+1:Nat):Int):=wc (by omega) (by omega)
  refine WL_in lp13_0.eq_1 ?_
  by_cases e:p=p2
  ·simp (maxSteps:=1000000) (implicitDefEqProofs:=false) only[c1,c2,c3,g,g2,w1,Int.toNat_natCast,e,go_sem,↓reduceIte]
   exact ih r2 (j+1) hd hd2 (by omega) (h3.trans (by rw[e];simp))
  ·simp (maxSteps:=1000000) (implicitDefEqProofs:=false) only[c1,c2,c3,g,g2,w1,Int.toNat_natCast,e,go_sem,↓reduceIte]
   exact hr _ rfl rfl fun h=>e (by have:=h3.1 h;simp at this;exact this.1)
theorem walk13 {a b:AccS} (hl:a.fr.length < 1000000) (hl2:b.fr.length < 1000000) (h:Q (.v (.bool (sameA a b))) G):Wf E C pf13 [a.v,b.v] G Q:=by
 obtain⟨a1,a2,a3,a4,fa,a6⟩:=a
 obtain⟨b1,b2,b3,b4,fb,b6⟩:=b
 have key:∀c:Bool,sameA ⟨a1,a2,a3,a4,fa,a6⟩ ⟨b1,b2,b3,b4,fb,b6⟩=c→Q (.v (.bool c)) G:=fun c e=>by rw[←e];exact h
 have no:¬(a1=b1∧a2=b2∧a3=b3∧a4=b4∧fa=fb∧a6=b6)→Q (.v (.bool false)) G:=fun e=>key _ (decide_eq_false e)
 simp (maxSteps:=1000000) (implicitDefEqProofs:=false) only[pf13,AccS.v,go_sem,↓reduceIte]
 by_cases q1:a1=b1
 case neg=>simp (maxSteps:=1000000) (implicitDefEqProofs:=false) only[q1,go_sem,↓reduceIte];exact no fun e=>q1 e.1
 by_cases q2:a2=b2
 case neg=>simp (maxSteps:=1000000) (implicitDefEqProofs:=false) only[q1,q2,go_sem,↓reduceIte];exact no fun e=>q2 e.2.1
 by_cases q3:a3=b3
 case neg=>simp (maxSteps:=1000000) (implicitDefEqProofs:=false) only[q1,q2,q3,go_sem,↓reduceIte];exact no fun e=>q3 e.2.2.1
 simp (maxSteps:=1000000) (implicitDefEqProofs:=false) only[q1,q2,q3,go_sem,↓reduceIte]
 by_cases q4:a4=b4
 case neg=>
  have q4':(a4==b4)=false:=by simpa using q4
  simp (maxSteps:=1000000) (implicitDefEqProofs:=false) only[q4',go_sem,↓reduceIte];exact no fun e=>q4 e.2.2.2.1
 have q4':(a4==b4)=true:=by simpa using q4
 by_cases q6:a6=b6
 case neg=>
  have q6':(a6==b6)=false:=by simpa using q6
  simp (maxSteps:=1000000) (implicitDefEqProofs:=false) only[q4',q6',go_sem,↓reduceIte];exact no fun e=>q6 e.2.2.2.2.2
 have q6':(a6==b6)=true:=by simpa using q6
 by_cases q5:fa.length=fb.length
 case neg=>
  have q5':¬((fa.length:Nat):Int)=(fb.length:Nat):=by omega
  simp (maxSteps:=1000000) (implicitDefEqProofs:=false) only[q4',q6',q5',go_sem,↓reduceIte];exact no fun e=>q5 (by rw[e.2.2.2.2.1])
 have q5':((fa.length:Nat):Int)=(fb.length:Nat):=by omega
 simp (maxSteps:=1000000) (implicitDefEqProofs:=false) only[q4',q6',q5',go_sem,↓reduceIte]
 refine⟨fa.length+1,?_⟩
 refine loop13 (a1:=a1) (a2:=a2) (a3:=a3) (a4:=a4) (a6:=a6) (b1:=b1) (b2:=b2) (b3:=b3) (b4:=b4) (b6:=b6) (fa:=fa) (fb:=fb) (by first|rfl|simp only[q1,q2,q3]) q5 hl (fun j ts e=> ?_) (fun σ e1 e2 e3=> ?_) fa fb 0 rfl rfl (Nat.zero_le _) Iff.rfl
 ·simp (maxSteps:=1000000) (implicitDefEqProofs:=false) only[go_sem,↓reduceIte]
  exact key _ (decide_eq_true ⟨q1,q2,q3,q4,e,q6⟩)
 ·show resQ Q σ.G (rD (St.ev σ (.v 4)))
  rw[e1,e2]
  exact no fun e=>e3 e.2.2.2.2.1
theorem getD_last {l:List Int}:l.getD (l.length-1) 0=l.getLast?.getD 0:=by
 rw[List.getD_eq_getElem?_getD,List.getLast?_eq_getElem?]
theorem walk10 {kt:List Int} (hQ:Abs.look l 44=some ZQu) (hM:Abs.look l 45=some ZMa) (hT:Abs.look l 47=some ZTg) (hC:Abs.look l 46=some (SCh kt)) {n:Int} {a:AccS} (hw:a.wf) (hl:a.fr.length < 1000000) (hI:I64 n) (h:Q (.v (.bool (a.right kt n))) G):Wf E (specOf l) pf10 [.int .i64 n,a.v] G Q:=by
 have hq0:=quo_nn n
 obtain⟨a1,a2,a3,a4,fr,a6⟩:=a
 have key:∀c:Bool,AccS.right kt n ⟨a1,a2,a3,a4,fr,a6⟩=c→Q (.v (.bool c)) G:=fun c e=>by rw[←e];exact h
 unfold AccS.right at key
 dsimp only at key
 simp (maxSteps:=1000000) (implicitDefEqProofs:=false) only[pf10,AccS.v,hQ,ZQu_eq,go_sem,↓reduceIte]
 refine⟨hI,?_⟩
 by_cases q0:quo n=0
 case pos=>
  simp (maxSteps:=1000000) (implicitDefEqProofs:=false) only[q0,Int.lt_irrefl,go_sem,↓reduceIte]
  first|exact key false (by simp[q0])|exact fun _=>key false (by simp[q0])
 have q0':0 < quo n:=by omega
 have q0n:¬quo n≤0:=by omega
 simp (maxSteps:=1000000) (implicitDefEqProofs:=false) only[q0',q0n,hM,ZMa_eq,go_sem,↓reduceIte]
 refine⟨fr,⟨.inl rfl,hw,hl⟩,?_⟩
 by_cases q1:AccS.May ⟨a1,a2,a3,a4,fr,a6⟩
 case neg=>
  have q1':AccS.may ⟨a1,a2,a3,a4,fr,a6⟩=false:=decide_eq_false q1
  simp (maxSteps:=1000000) (implicitDefEqProofs:=false) only[q1',go_sem,↓reduceIte]
  exact key false (by rw[q1'];simp)
 have q1':AccS.may ⟨a1,a2,a3,a4,fr,a6⟩=true:=decide_eq_true q1
 by_cases q2:a1≤n
 case neg=>
  simp (maxSteps:=1000000) (implicitDefEqProofs:=false) only[q1',q2,go_sem,↓reduceIte]
  first|exact key false (by simp[q2])|exact fun _=>key false (by simp[q2])
 have q2n:¬n < a1:=by omega
 by_cases q3:(fr.length:Int)=quo n
 case neg=>
  simp (maxSteps:=1000000) (implicitDefEqProofs:=false) only[q1',q2,q2n,q3,go_sem,↓reduceIte]
  first|exact key false (by simp[q3])|exact fun _=>key false (by simp[q3])
 have w1:IntKind.i64.wrap (quo n-1)=quo n-1:=w64 (by omega) (by omega)
 have b1:0≤quo n-1:=by omega
 have b2:quo n-1 < (fr.length:Int):=by omega
 have t1:(quo n-1).toNat=fr.length-1:=by omega
 simp (maxSteps:=1000000) (implicitDefEqProofs:=false) only[q1',q2,q2n,q3,w1,t1,getD_last,go_sem,↓reduceIte]
 rw[←q3]
 have b3:(0:Int)≤(fr.length:Int)-1:=by omega
 have b4:(fr.length:Int)-1 < (fr.length:Int):=by omega
 have t2:((fr.length:Int)-1).toNat=fr.length-1:=by omega
 refine⟨by omega,?_⟩
 by_cases q4:fr.getLast?.getD 0≤n
 case neg=>
  simp (maxSteps:=1000000) (implicitDefEqProofs:=false) only[q4,t2,getD_last,go_sem,↓reduceIte]
  first|exact key false (by simp[q4])|exact fun _=>key false (by simp[q4])
 obtain⟨s1,s2⟩:=AccS.said_ok hw q1
 have hn:decide (1≤a1∧a1≤21)=true:=decide_eq_true q1.1
 have q4n:¬n < fr.getLast?.getD 0:=by omega
 simp (maxSteps:=1000000) (implicitDefEqProofs:=false) only[q4,q4n,t2,getD_last,hT,ZTg_eq,hC,SCh_eq,go_sem,↓reduceIte]
 refine⟨[],fr,⟨rfl,by decide,.inl rfl,hw,q1⟩,AccS.said ⟨a1,a2,a3,a4,fr,a6⟩,_,⟨hw.ta,rowV_sle _,by simp,by simp[catL,byV],s1,by omega⟩,?_⟩
 rw[hn,Bool.true_and]
 refine key _ ?_
 rw[decide_eq_true q0,q1',decide_eq_true q2,decide_eq_true q3,decide_eq_true q4]
 simp only[Bool.true_and];rfl
end Go.Proofs.YtegamlopcdjiaaaDoor.Sha
