/- Laws over plain values, and what functions of the program hand back; no conditions. -/
import Derived.Test.YtjbglbhcbenhpaaG2
import Derived.Test.YtjbglbhcbenhpaaG1
import Derived.Test.YtjbglbhcbenhpaaPlain6
import Derived.Test.YtjbglbhcbenhpaaProg
namespace Go.Proofs.Ytjbglbhcbenhpaa.Sha
open Go Go.Abs Go.Abs.Sha Go.Abs.Srt
set_option linter.unusedSimpArgs false
set_option linter.unusedVariables false
set_option maxRecDepth 100000
attribute [local irreducible] W Wops WopsD WL Wop WopD
variable {E:Env} {C:Abs.Spec} {l:List (Nat×Spec1)} {G:List (Nat×V)} {Q:R→List (Nat×V)→Prop}
set_option maxHeartbeats 1000000
def hdE (xs:List Int) (i v:Int):Int:=if mayV xs=true∧1≤i∧i≤xs.length∧1≤v∧v≤1099511627776 then (if v≤xs.getD (i-1).toNat 0 then 11 else 0)else 1
def hdV (xs:List Int) (i v:Int):V:=if hdE xs i v=0 then .sli .i64 (xs.set (i-1).toNat v)else .nils
def ZLv:Spec1
 |[.sli .i64 xs],G,Q=>(1≤xs.length∧xs.length < 1000000)∧∀id c,Abs.look G id=none→xs.length≤c→Q (.v (.sob id 1 0 xs.length c)) ((id,.agg (xs.map (V.int .i64)++List.replicate (c-xs.length) (.int .i64 0)))::G)
 |_,_,_=>False
theorem detLvx {α:Prop} {A:Prop} {G:List (Nat×V)} {n:Nat} {x:Nat→Nat→V} {B:Nat→Nat→Prop} (h:A∧∀id c,Abs.look G id=none→n≤c→(((id,x id c)::G)=G∧B id c)):α:=by
 obtain⟨id,hid⟩:=fresh_id G
 have:=congrArg List.length (h.2 id n hid (Nat.le_refl _)).1
 simp at this
theorem ZLv_eq {xs}:ZLv [.sli .i64 xs] G Q=((1≤xs.length∧xs.length < 1000000)∧∀id c,Abs.look G id=none→xs.length≤c→Q (.v (.sob id 1 0 xs.length c)) ((id,.agg (xs.map (V.int .i64)++List.replicate (c-xs.length) (.int .i64 0)))::G)):=rfl
def ZHv:Spec1
 |[x,.int .i64 i,.int .i64 v],G,Q=>∃xs:List Int,(NV x xs∧xs.length < 1000000∧I64 i∧I64 v)∧Q (.tup [hdV xs i v,.int .i64 (hdE xs i v)]) G
 |_,_,_=>False
theorem ZHv_eq {x i v}:ZHv [x,.int .i64 i,.int .i64 v] G Q=(∃xs:List Int,(NV x xs∧xs.length < 1000000∧I64 i∧I64 v)∧Q (.tup [hdV xs i v,.int .i64 (hdE xs i v)]) G):=rfl
theorem walk65 {xs:List Int} (hp:1≤xs.length) (hl:xs.length < 1000000) (h:∀id c,Abs.look G id=none→xs.length≤c→Q (.v (.sob id 1 0 xs.length c)) ((id,.agg (xs.map (V.int .i64)++List.replicate (c-xs.length) (.int .i64 0)))::G)):Wf E C pf65 [.sli .i64 xs] G Q:=by
 have hne:¬List.map (V.int .i64) xs=[]:=fun e=>by rw[List.map_eq_nil_iff]at e;rw[e]at hp;simp at hp
 simp -implicitDefEqProofs only[pf65,List.length_map,go_sem,↓reduceIte]
 refine fun b hb=>⟨fun h1=> ?_,fun h1=>⟨⟨by omega,fun x hx=> ?_⟩,fun e=>(hne e).elim,fun _ id c h2 h3=>h id c h2 h3⟩⟩
 ·have:=hb h1
  omega
 ·obtain⟨y,_,rfl⟩:=List.mem_map.1 hx
  rfl
theorem row_set {xs:List Int} {k:Nat} {v:Int} {id c:Nat} (h2:Abs.look G id=none) (h3:xs.length≤c):
  Row G ((id,.agg ((xs.set k v).map (V.int .i64)++List.replicate (c-xs.length) (.int .i64 0)))::G) 1 (.int .i64 0) (.sob id 1 0 xs.length c) ((xs.set k v).map (V.int .i64)):=by
 refine⟨fun j x hj=> ?_,.inr ⟨id,c,_,by simp,h2,by rw[look_cons,if_pos rfl],by simpa using h3,by simp;omega,by simp,fun y hy=> ?_⟩⟩
 ·rw[look_cons,if_neg (fun e=>by rw[e,h2]at hj;cases hj)];exact hj
 ·rcases List.mem_append.1 hy with hy|hy
  ·obtain⟨z,_,rfl⟩:=List.mem_map.1 hy
   exact⟨rfl,rfl⟩
  ·rw[(List.mem_replicate.1 hy).2];exact⟨rfl,rfl⟩
theorem low_tupI {G0 G:List (Nat×V)} {z x e:V} {els:List Int} (h:Row G0 G 1 z x (els.map (V.int .i64))):Low G0 (.tup [x,e]) G (.tup [.sli .i64 els,e]) G0:=by
 refine h.fzI (fun y=> .tup [y,e]) (fun id L k y hy=> ?_) (fun y hy=> ?_)
 ·simp only[R.Fz]
  refine⟨_,rfl,?_⟩
  unfold V.FzL;exact⟨_,_,rfl,hy,V.FzL.refl _⟩
 ·simp only[R.Wk]
  refine⟨_,rfl,?_⟩
  unfold V.WkL;exact⟨_,_,rfl,hy,V.WkL.refl _⟩
theorem at_rep {xs:List Int} {k m:Nat} (hk:k < xs.length):(List.map (V.int .i64) xs++List.replicate m (V.int .i64 0))[k]? =some (.int .i64 (xs.getD k 0)):=by
 rw[List.getElem?_append_left (by simpa using hk),List.getElem?_map,List.getD_eq_getElem?_getD,List.getElem?_eq_getElem hk];rfl
theorem set_rep {xs:List Int} {k m:Nat} {v:Int} (hk:k < xs.length):(List.map (V.int .i64) xs++List.replicate m (V.int .i64 0)).set k (.int .i64 v)=(xs.set k v).map (V.int .i64)++List.replicate m (V.int .i64 0):=by
 rw[List.set_append_left _ _ (by simpa using hk),List.map_set]
theorem sz_rep {xs:List Int} {m:Nat}:∀(x:V),x∈List.map (V.int .i64) xs++List.replicate m (V.int .i64 0)→x.size=1:=by
 intro x hx
 rcases List.mem_append.1 hx with hx|hx
 ·obtain⟨z,_,rfl⟩:=List.mem_map.1 hx;rfl
 ·rw[(List.mem_replicate.1 hx).2];rfl
theorem hd_no {xs:List Int} {i v:Int} (h:¬(mayV xs=true∧1≤i∧i≤xs.length∧1≤v∧v≤1099511627776)):hdE xs i v=1∧hdV xs i v= .nils:=by
 have e:hdE xs i v=1:=by unfold hdE;rw[if_neg h]
 exact⟨e,by unfold hdV;rw[e,if_neg (by decide)]⟩
theorem hd_old {xs:List Int} {i v:Int} (h:mayV xs=true∧1≤i∧i≤xs.length∧1≤v∧v≤1099511627776) (h2:v≤xs.getD (i-1).toNat 0):hdE xs i v=11∧hdV xs i v= .nils:=by
 have e:hdE xs i v=11:=by unfold hdE;rw[if_pos h,if_pos h2]
 exact⟨e,by unfold hdV;rw[e,if_neg (by decide)]⟩
theorem hd_ok {xs:List Int} {i v:Int} (h:mayV xs=true∧1≤i∧i≤xs.length∧1≤v∧v≤1099511627776) (h2:¬v≤xs.getD (i-1).toNat 0):hdE xs i v=0∧hdV xs i v= .sli .i64 (xs.set (i-1).toNat v):=by
 have e:hdE xs i v=0:=by unfold hdE;rw[if_pos h,if_neg h2]
 exact⟨e,by unfold hdV;rw[e,if_pos rfl]⟩
theorem walk33 {x:V} {xs:List Int} {i v:Int} (hM:Abs.look l 64=some ZMv) (hC:Abs.look l 65=some ZLv) (hx:NV x xs) (hl:xs.length < 1000000) (hi:I64 i) (hv:I64 v) (h:Q (.tup [hdV xs i v,.int .i64 (hdE xs i v)]) G):Wf E (specOf l) pf33 [x,.int .i64 i,.int .i64 v] G (fun r G'=>∃r2 G2,Low G r G' r2 G2∧Q r2 G2):=by
 have hx0:=hx
 unfold I64 at hi hv
 have t1:mayV xs=false∨i < 1∨(xs.length:Int) < i∨v < 1∨1099511627776 < v→Q (.tup [.nils,.int .i64 1]) G:=fun hn=>by
  have:=hd_no (xs:=xs) (i:=i) (v:=v) (fun e=>by
   rcases hn with hn|hn|hn|hn|hn
   ·rw[hn]at e;exact Bool.false_ne_true e.1
   all_goals omega)
  rw[this.1,this.2]at h;exact h
 by_cases c0:mayV xs=true∧1≤i∧i≤xs.length∧1≤v∧v≤1099511627776
 ·have c00:=c0
  obtain⟨q0,q1,q2,q3,q4⟩:=c0
  rcases hx with rfl|⟨rfl,rfl⟩
  ·have w1:IntKind.i64.wrap (i-1)=i-1:=w64 (by omega) (by omega)
   have r1:¬i < 1:=by omega
   have r2:¬(xs.length:Int) < i:=by omega
   have r3:¬v < 1:=by omega
   have r4:¬1099511627776 < v:=by omega
   have r5:(0:Int)≤i-1:=by omega
   have r6:i-1 < (xs.length:Int):=by omega
   have hk:(i-1).toNat < xs.length:=by omega
   simp -implicitDefEqProofs only[pf33,hM,ZMv_eq,go_sem,↓reduceIte]
   refine⟨xs,⟨hx0,hl⟩,?_⟩
   simp -implicitDefEqProofs only[q0,r1,r2,r3,r4,r5,r6,w1,hC,ZLv_eq,go_sem,↓reduceIte]
   refine fun _ _ _ _=>⟨fun h1=> ?_,fun h1=>⟨⟨by omega,hl⟩,fun id c h2 h3=> ?_⟩⟩
   ·obtain⟨e1,e2⟩:=hd_old c00 h1
    rw[e1,e2]at h
    exact⟨_,_,.refl _ _,h⟩
   ·obtain⟨e1,e2⟩:=hd_ok c00 (by omega)
    rw[e1,e2]at h
    simp -implicitDefEqProofs only[at_rep hk,set_rep hk,r5,r6,w1,List.length_map,List.length_replicate,go_sem,↓reduceIte]
    refine⟨⟨by omega,sz_rep⟩,⟨_,_,low_tupI (row_set h2 h3),h⟩⟩
  ·simp at q2;omega
 ·have n1:Q (.tup [.nils,.int .i64 1]) G:=t1 (by
   by_cases e:mayV xs=true
   ·right
    by_cases e1:i < 1
    ·exact .inl e1
    ·by_cases e2:(xs.length:Int) < i
     ·exact .inr (.inl e2)
     ·by_cases e3:v < 1
      ·exact .inr (.inr (.inl e3))
      ·by_cases e4:1099511627776 < v
       ·exact .inr (.inr (.inr e4))
       ·exact (c0 ⟨e,by omega,by omega,by omega,by omega⟩).elim
   ·exact .inl (by simpa using e))
  have n2:∃r2 G2,Low G (.tup [.nils,.int .i64 1]) G r2 G2∧Q r2 G2:=⟨_,_,.refl _ _,n1⟩
  by_cases e:mayV xs=true
  ·rcases hx with rfl|⟨rfl,rfl⟩
   ·by_cases e1:i < 1
    ·have f1:¬1≤i:=by omega
     simp -implicitDefEqProofs only[pf33,hM,ZMv_eq,go_sem,↓reduceIte]
     refine⟨xs,⟨hx0,hl⟩,?_⟩
     simp -implicitDefEqProofs only[e,e1,f1,go_sem,↓reduceIte]
     first|exact n2|exact fun _=>n2|exact fun _ _=>n2|exact fun _ _ _=>n2|exact fun _ _ _ _=>n2
    ·have f1:1≤i:=by omega
     by_cases e2:(xs.length:Int) < i
     ·have f2:¬i≤xs.length:=by omega
      simp -implicitDefEqProofs only[pf33,hM,ZMv_eq,go_sem,↓reduceIte]
      refine⟨xs,⟨hx0,hl⟩,?_⟩
      simp -implicitDefEqProofs only[e,e1,f1,e2,f2,go_sem,↓reduceIte]
      first|exact n2|exact fun _=>n2|exact fun _ _=>n2|exact fun _ _ _=>n2|exact fun _ _ _ _=>n2
     ·have f2:i≤xs.length:=by omega
      by_cases e3:v < 1
      ·have f3:¬1≤v:=by omega
       simp -implicitDefEqProofs only[pf33,hM,ZMv_eq,go_sem,↓reduceIte]
       refine⟨xs,⟨hx0,hl⟩,?_⟩
       simp -implicitDefEqProofs only[e,e1,f1,e2,f2,e3,f3,go_sem,↓reduceIte]
       first|exact n2|exact fun _=>n2|exact fun _ _=>n2|exact fun _ _ _=>n2|exact fun _ _ _ _=>n2
      ·have f3:1≤v:=by omega
       have e4:1099511627776 < v:=by
        apply Decidable.byContradiction
        intro e4
        exact c0 ⟨e,f1,f2,f3,by omega⟩
       have f4:¬v≤1099511627776:=by omega
       simp -implicitDefEqProofs only[pf33,hM,ZMv_eq,go_sem,↓reduceIte]
       refine⟨xs,⟨hx0,hl⟩,?_⟩
       simp -implicitDefEqProofs only[e,e1,f1,e2,f2,e3,f3,e4,f4,go_sem,↓reduceIte]
       first|exact n2|exact fun _=>n2|exact fun _ _=>n2|exact fun _ _ _=>n2|exact fun _ _ _ _=>n2
   ·exact (Bool.false_ne_true e).elim
  ·have e:mayV xs=false:=by simpa using e
   simp -implicitDefEqProofs only[pf33,hM,ZMv_eq,go_sem,↓reduceIte]
   refine⟨xs,⟨hx0,hl⟩,?_⟩
   simp -implicitDefEqProofs only[e,go_sem,↓reduceIte]
   first|exact n2|exact fun _=>n2|exact fun _ _=>n2|exact fun _ _ _=>n2|exact fun _ _ _ _=>n2
theorem walk34 {x:V} {xs:List Int} {i v:Int} (hM:Abs.look l 38=some ZMv) (hx:NV x xs) (hl:xs.length < 1000000) (hi:I64 i) (hv:I64 v) (h:Q (.tup [hdV xs i v,.int .i64 (hdE xs i v)]) G):Wf E (specOf l) pf34 [x,.int .i64 i,.int .i64 v] G (fun r G'=>∃r2 G2,Low G r G' r2 G2∧Q r2 G2):=by
 have hx0:=hx
 unfold I64 at hi hv
 by_cases c0:mayV xs=true∧1≤i∧i≤xs.length∧1≤v∧v≤1099511627776
 ·have c00:=c0
  obtain⟨q0,q1,q2,q3,q4⟩:=c0
  rcases hx with rfl|⟨rfl,rfl⟩
  ·have w1:IntKind.i64.wrap (i-1)=i-1:=w64 (by omega) (by omega)
   have r1:¬i < 1:=by omega
   have r2:¬(xs.length:Int) < i:=by omega
   have r3:¬v < 1:=by omega
   have r4:¬1099511627776 < v:=by omega
   have r5:(0:Int)≤i-1:=by omega
   have r6:i-1 < (xs.length:Int):=by omega
   have hk:(i-1).toNat < xs.length:=by omega
   have hne:¬List.map (V.int .i64) xs=[]:=fun e=>by rw[List.map_eq_nil_iff]at e;rw[e]at hk;simp at hk
   simp -implicitDefEqProofs only[pf34,hM,ZMv_eq,go_sem,↓reduceIte]
   refine⟨xs,⟨hx0,hl⟩,?_⟩
   simp -implicitDefEqProofs only[q0,r1,r2,r3,r4,r5,r6,w1,List.length_map,hne,go_sem,↓reduceIte]
   refine fun _ _ _ _=>⟨fun h1=> ?_,fun h1=>⟨⟨by omega,fun x hx=>by obtain⟨z,_,rfl⟩:=List.mem_map.1 hx;rfl⟩,fun id c h2 h3=> ?_⟩⟩
   ·obtain⟨e1,e2⟩:=hd_old c00 h1
    rw[e1,e2]at h
    exact⟨_,_,.refl _ _,h⟩
   ·obtain⟨e1,e2⟩:=hd_ok c00 (by omega)
    rw[e1,e2]at h
    simp -implicitDefEqProofs only[at_rep hk,set_rep hk,r5,r6,w1,List.length_map,List.length_replicate,go_sem,↓reduceIte]
    refine⟨⟨by omega,sz_rep⟩,⟨_,_,low_tupI (row_set h2 h3),h⟩⟩
  ·simp at q2;omega
 ·have n1:Q (.tup [.nils,.int .i64 1]) G:=by
   have:=hd_no c0
   rw[this.1,this.2]at h;exact h
  have n2:∃r2 G2,Low G (.tup [.nils,.int .i64 1]) G r2 G2∧Q r2 G2:=⟨_,_,.refl _ _,n1⟩
  by_cases e:mayV xs=true
  ·rcases hx with rfl|⟨rfl,rfl⟩
   ·by_cases e1:i < 1
    ·have f1:¬1≤i:=by omega
     simp -implicitDefEqProofs only[pf34,hM,ZMv_eq,go_sem,↓reduceIte]
     refine⟨xs,⟨hx0,hl⟩,?_⟩
     simp -implicitDefEqProofs only[e,e1,f1,go_sem,↓reduceIte]
     first|exact n2|exact fun _=>n2|exact fun _ _=>n2|exact fun _ _ _=>n2|exact fun _ _ _ _=>n2
    ·have f1:1≤i:=by omega
     by_cases e2:(xs.length:Int) < i
     ·have f2:¬i≤xs.length:=by omega
      simp -implicitDefEqProofs only[pf34,hM,ZMv_eq,go_sem,↓reduceIte]
      refine⟨xs,⟨hx0,hl⟩,?_⟩
      simp -implicitDefEqProofs only[e,e1,f1,e2,f2,go_sem,↓reduceIte]
      first|exact n2|exact fun _=>n2|exact fun _ _=>n2|exact fun _ _ _=>n2|exact fun _ _ _ _=>n2
     ·have f2:i≤xs.length:=by omega
      by_cases e3:v < 1
      ·have f3:¬1≤v:=by omega
       simp -implicitDefEqProofs only[pf34,hM,ZMv_eq,go_sem,↓reduceIte]
       refine⟨xs,⟨hx0,hl⟩,?_⟩
       simp -implicitDefEqProofs only[e,e1,f1,e2,f2,e3,f3,go_sem,↓reduceIte]
       first|exact n2|exact fun _=>n2|exact fun _ _=>n2|exact fun _ _ _=>n2|exact fun _ _ _ _=>n2
      ·have f3:1≤v:=by omega
       have e4:1099511627776 < v:=by
        apply Decidable.byContradiction
        intro e4
        exact c0 ⟨e,f1,f2,f3,by omega⟩
       have f4:¬v≤1099511627776:=by omega
       simp -implicitDefEqProofs only[pf34,hM,ZMv_eq,go_sem,↓reduceIte]
       refine⟨xs,⟨hx0,hl⟩,?_⟩
       simp -implicitDefEqProofs only[e,e1,f1,e2,f2,e3,f3,e4,f4,go_sem,↓reduceIte]
       first|exact n2|exact fun _=>n2|exact fun _ _=>n2|exact fun _ _ _=>n2|exact fun _ _ _ _=>n2
   ·exact (Bool.false_ne_true e).elim
  ·have e:mayV xs=false:=by simpa using e
   simp -implicitDefEqProofs only[pf34,hM,ZMv_eq,go_sem,↓reduceIte]
   refine⟨xs,⟨hx0,hl⟩,?_⟩
   simp -implicitDefEqProofs only[e,go_sem,↓reduceIte]
   first|exact n2|exact fun _=>n2|exact fun _ _=>n2|exact fun _ _ _=>n2|exact fun _ _ _ _=>n2
def rjF (xs:List Int):Int→List Int→Int
 |b,[]=>b
 |b,p::r=>if b < p∧quo xs.length≤cntE p xs then rjF xs p r else rjF xs b r
def ZKv:Spec1
 |[x],G,Q=>∃xs:List Int,(NV x xs∧xs.length < 1000000)∧Q (.v (.int .i64 (rjF xs 0 xs))) G
 |_,_,_=>False
theorem ZKv_eq {x}:ZKv [x] G Q=(∃xs:List Int,(NV x xs∧xs.length < 1000000)∧Q (.v (.int .i64 (rjF xs 0 xs))) G):=rfl
theorem loop41 (hR:Abs.look l 42=some ZRv) (hQ:Abs.look l 37=some ZQu) {QQ:Ex→St→Prop} {xs:List Int} (hl:xs.length < 1000000)
  (hx:∀i t8,QQ (.exit 0) ⟨[some (.v (.sli .i64 xs)),none,none,some (.v (.int .i64 (rjF xs 0 xs))),some (.v (.int .i64 (i:Nat)))],t8,[],G⟩):
  ∀(r:List Int) (i:Nat) (b:Int),xs.drop i=r→i≤xs.length→rjF xs 0 xs=rjF xs b r→WL (W E (specOf l) lp41_0) [0,3,4] QQ (r.length+1) ⟨[some (.v (.sli .i64 xs)),none,none,some (.v (.int .i64 b)),some (.v (.int .i64 (i:Nat)))],[],[],G⟩:=by
 have hxx:NV (.sli .i64 xs) xs:= .inl rfl
 intro r
 induction r with
 |nil=>
  intro i b h1 h2 h3
  have:=drop_none h1
  have c1:¬(i:Int) < (xs.length:Int):=by omega
  rw[rjF]at h3
  subst h3
  refine WL_in lp41_0.eq_1 ?_
  simp -implicitDefEqProofs only[c1,go_sem,↓reduceIte]
  exact hx _ _
 |cons p r ih=>
  intro i b h1 h2 h3
  obtain⟨hd,hj,hlen⟩:=drop_one h1
  have g:=getD_iv h1
  have c1:(i:Int) < (xs.length:Int):=by omega
  have c3:(0:Int)≤i:=by omega
  have w1:IntKind.i64.wrap ((i:Int)+1)=((i+1:Nat):Int):=wc (by omega) (by omega)
  rw[rjF]at h3
  refine WL_in lp41_0.eq_1 ?_
  by_cases hb:b < p
  ·simp -implicitDefEqProofs only[c1,c3,g,w1,hb,hR,ZRv_eq,Int.toNat_natCast,go_sem,↓reduceIte]
   refine⟨xs,⟨hxx,hl⟩,?_⟩
   simp -implicitDefEqProofs only[hQ,ZQu_eq,c1,c3,g,w1,Int.toNat_natCast,go_sem,↓reduceIte]
   refine⟨I64_len hl,fun h4=> ?_,fun h4=> ?_⟩
   ·rw[if_pos ⟨hb,h4⟩]at h3
    exact ih (i+1) p hd (by omega) h3
   ·rw[if_neg (fun e=>by have:=e.2;omega)]at h3
    exact ih (i+1) b hd (by omega) h3
  ·rw[if_neg (fun e=>hb e.1)]at h3
   simp -implicitDefEqProofs only[c1,c3,g,w1,hb,Int.toNat_natCast,go_sem,↓reduceIte]
   first|exact ih (i+1) b hd (by omega) h3|exact fun _=>ih (i+1) b hd (by omega) h3
theorem walk41 {x:V} {xs:List Int} (hR:Abs.look l 42=some ZRv) (hQ:Abs.look l 37=some ZQu) (hx:NV x xs) (hl:xs.length < 1000000) (h:Q (.v (.int .i64 (rjF xs 0 xs))) G):Wf E (specOf l) pf41 [x] G Q:=by
 rcases hx with rfl|⟨rfl,rfl⟩
 ·simp -implicitDefEqProofs only[pf41,go_sem,↓reduceIte]
  refine⟨xs.length+1,?_⟩
  simp -implicitDefEqProofs only[go_sem,↓reduceIte]
  refine loop41 hR hQ hl (fun i t8=> ?_) xs 0 0 rfl (by omega) rfl
  simp -implicitDefEqProofs only[go_sem,↓reduceIte]
  exact h
 ·simp -implicitDefEqProofs only[pf41,go_sem,↓reduceIte]
  refine⟨1,?_⟩
  simp -implicitDefEqProofs only[go_sem,↓reduceIte]
  refine WL_in lp41_0.eq_1 ?_
  simp -implicitDefEqProofs only[Int.lt_irrefl,go_sem,↓reduceIte]
  exact h
def pf32:PF:=
 PF.mk 0 3 31 ((PC.reg [nn (.v 0) (.mv true (.c (.v (.bool false))))]).seq ((PC.reg [nn (.t 4) (.call 36 [.c (.v (.int .i64 3))]),nn (.t 5) (.call 33
  [.t 4,.c (.v (.int .i64 2)),.c (.v (.int .i64 5))]),nn (.t 3) (.mv false (.t 5)),nn (.t 6) (.ext (.t 3) 0),nn (.t 7) (.ext (.t 3) 1),ma 1 6,ma
  2 7]).seq ((PC.reg [mm 8 2,nn (.t 9) (.bin .eql (.t 8) (.c (.v (.int .i64 0)))),nn (.t 10) (.mv false (.t 9)),gm 11 1 10 true,⟨.t 12,.len (.t
  11),some (.t 10,true)⟩,⟨.t 13,.bin .eql (.t 12) (.c (.v (.int .i64 3))),some (.t 10,true)⟩,nn (.t 14) (.pick (.t 10) (.t 13) (.c (.v (.bool
  false)))),nn (.t 15) (.mv false (.t 14)),gm 16 1 15 true,⟨.t 17,.iadrS 1 (.t 16) (.c (.v (.int .i64 1))),some (.t 15,true)⟩,⟨.t 18,.load 1
  false (.t 17),some (.t 15,true)⟩,⟨.t 19,.bin .eql (.t 18) (.c (.v (.int .i64 5))),some (.t 15,true)⟩,nn (.t 20) (.pick (.t 15) (.t 19) (.c (.v
  (.bool false)))),nn (.t 21) (.mv false (.t 20)),⟨.t 22,.buildS (some .i64) 1 (.int .i64 0) 3 [(0,.c (.v (.int .i64 5))),(1,.c (.v (.int .i64
  2))),(2,.c (.v (.int .i64 3)))],some (.t 21,true)⟩,⟨.t 23,.call 39 [.t 22],some (.t 21,true)⟩,⟨.t 24,.bin .eql (.t 23) (.c (.v (.int .i64
  3))),some (.t 21,true)⟩,nn (.t 25) (.pick (.t 21) (.t 24) (.c (.v (.bool false)))),nn (.t 26) (.mv false (.t 25)),⟨.t 27,.buildS (some .i64) 1
  (.int .i64 0) 3 [(0,.c (.v (.int .i64 5))),(1,.c (.v (.int .i64 2))),(2,.c (.v (.int .i64 3)))],some (.t 26,true)⟩,⟨.t 28,.call 40 [.t 27,
  .c (.v (.int .i64 2))],some (.t 26,true)⟩,⟨.t 29,.bin .eql (.t 28) (.c (.v (.int .i64 2))),some (.t 26,true)⟩,nn (.t 30) (.pick (.t 26) (.t
  29) (.c (.v (.bool false)))),ma 0 30]).seq PC.ret))) [(.v 0,none)]
theorem asc_perm (xs:List Int):(Try.asc xs).Perm xs:=List.mergeSort_perm xs _
theorem asc_sorted (xs:List Int):(Try.asc xs).Pairwise (·≤·):=by
 have:=List.pairwise_mergeSort (le:=fun (x y:Int)=>decide (x≤y)) (fun a b c h1 h2=>by simp at*;omega) (fun a b=>by simp;omega) xs
 exact this.imp (fun h=>by simpa using h)
theorem cntE_asc (w:Int) (xs:List Int):cntE w xs=cntE w (Try.asc xs):=by
 unfold cntE;rw[(asc_perm xs).countP_eq]
theorem at_sorted' {a c:List Int} {v:Int} (hs:(a++v::c).Pairwise (·≤·)):((c.length+1:Nat):Int)≤cntE v (a++v::c)∧∀w,v < w→cntE w (a++v::c) < ((c.length+1:Nat):Int):=by
 rw[List.pairwise_append]at hs
 obtain⟨p1,p2,p3⟩:=hs
 rw[List.pairwise_cons]at p2
 constructor
 ·have:c.countP (fun y=>decide (v≤y))=c.length:=by
   rw[List.countP_eq_length];intro x hx;simpa using p2.1 x hx
  unfold cntE
  rw[List.countP_append,List.countP_cons,this,if_pos (by simp)];omega
 ·intro w hw
  have z:a.countP (fun y=>decide (w≤y))=0:=by
   rw[List.countP_eq_zero];intro x hx
   have:=p3 x hx v List.mem_cons_self
   simp;omega
  have:=List.countP_le_length (p:=fun y=>decide (w≤y)) (l:=c)
  unfold cntE
  rw[List.countP_append,List.countP_cons,z,if_neg (by simp;omega)];omega
theorem at_sorted {s:List Int} (hs:s.Pairwise (·≤·)) {k:Nat} (hk:k < s.length):((s.length-k:Nat):Int)≤cntE (s.getD k 0) s∧∀w,s.getD k 0 < w→cntE w s < ((s.length-k:Nat):Int):=by
 have e:s.take k++s[k]::s.drop (k+1)=s:=by rw[←List.drop_eq_getElem_cons hk,List.take_append_drop]
 have g:s.getD k 0=s[k]:=by rw[List.getD_eq_getElem?_getD,List.getElem?_eq_getElem hk];rfl
 have h:=at_sorted' (a:=s.take k) (c:=s.drop (k+1)) (v:=s[k]) (by rw[e];exact hs)
 rw[e]at h
 have hd:(s.drop (k+1)).length+1=s.length-k:=by rw[List.length_drop];omega
 rw[hd]at h
 rw[g];exact h
theorem mayV_iff {xs:List Int}:mayV xs=true↔0 < quo xs.length∧∀y∈xs,0≤y∧y≤1099511627776:=by
 unfold mayV badV
 rw[Bool.and_eq_true,decide_eq_true_eq,Bool.not_eq_true',List.any_eq_false]
 refine and_congr_right fun _=>forall_congr' fun y=>forall_congr' fun _=> ?_
 simp
theorem jmp_spec {xs:List Int} (h:mayV xs=true):jmpV xs∈xs∧quo xs.length≤cntE (jmpV xs) xs∧(∀w,jmpV xs < w→cntE w xs < quo xs.length)∧0≤jmpV xs:=by
 obtain⟨q1,q2,q3,q4⟩:=mayV_q h
 have e:jmpV xs=(Try.asc xs).getD (xs.length-(quo xs.length).toNat) 0:=by unfold jmpV;rw[if_pos h]
 have hlen:=asc_length xs
 have hk:xs.length-(quo xs.length).toNat < (Try.asc xs).length:=by omega
 obtain⟨a1,a2⟩:=at_sorted (asc_sorted xs) hk
 rw[←e,hlen,←cntE_asc]at a1
 rw[←e]at a2
 have hm:jmpV xs∈xs:=by
  rw[e,List.getD_eq_getElem?_getD,List.getElem?_eq_getElem hk]
  exact (asc_perm xs).mem_iff.1 (List.getElem_mem hk)
 refine⟨hm,by omega,fun w hw=> ?_,((mayV_iff.1 h).2 _ hm).1⟩
 have:=a2 w hw
 rw[←cntE_asc,hlen]at this
 omega
theorem rj_ge {xs:List Int}:∀{r:List Int} {b:Int},b≤rjF xs b r
 |[],b=>Int.le_refl _
 |p::r,b=>by
  rw[rjF]
  split
  ·rename_i h;exact Int.le_trans (by omega) rj_ge
  ·exact rj_ge
theorem rj_hit {xs:List Int}:∀{r:List Int} {b p:Int},p∈r→quo xs.length≤cntE p xs→p≤rjF xs b r
 |q::r,b,p,hp,hq=>by
  rw[rjF]
  rcases List.mem_cons.1 hp with rfl|hp
  ·split
   ·exact rj_ge
   ·rename_i h;exact Int.le_trans (by apply Decidable.byContradiction;intro e;exact h ⟨by omega,hq⟩) rj_ge
  ·split
   ·exact rj_hit hp hq
   ·exact rj_hit hp hq
theorem rj_le {xs:List Int} {v:Int}:∀{r:List Int} {b:Int},b≤v→(∀p∈r,quo xs.length≤cntE p xs→p≤v)→rjF xs b r≤v
 |[],b,hb,_=>hb
 |p::r,b,hb,h=>by
  rw[rjF]
  split
  ·rename_i hc;exact rj_le (h p List.mem_cons_self hc.2) (fun q hq=>h q (List.mem_cons_of_mem _ hq))
  ·exact rj_le hb (fun q hq=>h q (List.mem_cons_of_mem _ hq))
theorem jmp_rj {xs:List Int} (h:mayV xs=true):jmpV xs=rjF xs 0 xs:=by
 obtain⟨h1,h2,h3,h4⟩:=jmp_spec h
 refine Int.le_antisymm (rj_hit h1 h2) (rj_le h4 fun p hp hq=> ?_)
 apply Decidable.byContradiction
 intro e
 have:=h3 p (by omega)
 omega
theorem jmp_no {xs:List Int} (h:mayV xs=false):jmpV xs=0:=by unfold jmpV;rw[h,if_neg Bool.false_ne_true]
theorem ahd_no {xs:List Int} {v:Int} (h:mayV xs=false):ahdV xs v=0:=by unfold ahdV;rw[h,if_neg Bool.false_ne_true]
theorem walk32 (hN:Abs.look l 36=some ZNv) (hH:Abs.look l 33=some ZHv) (hJ:Abs.look l 39=some ZJv) (hA:Abs.look l 40=some ZAv) (h:Q (.v (.bool true)) G):Wf E (specOf l) pf32 [] G Q:=by
 have n3:newV 3= .sli .i64 [0,0,0]:=rfl
 have e1:hdE [0,0,0] 2 5=0:=by decide
 have e2:hdV [0,0,0] 2 5= .sli .i64 [0,5,0]:=by unfold hdV;rw[e1];rfl
 have m1:mayV [5,2,3]=true:=by decide
 have j1:jmpV [5,2,3]=3:=by rw[jmp_rj m1];decide
 have a1:ahdV [5,2,3] 2=2:=by decide
 simp -implicitDefEqProofs only[pf32,hN,ZNv_eq,go_sem,↓reduceIte]
 refine⟨by unfold I64;omega,?_⟩
 simp -implicitDefEqProofs only[n3,hH,ZHv_eq,go_sem,↓reduceIte]
 refine⟨[0,0,0],⟨.inl rfl,by decide,by unfold I64;omega,by unfold I64;omega⟩,?_⟩
 simp -implicitDefEqProofs only[e1,e2,hJ,ZJv_eq,hA,ZAv_eq,go_sem,↓reduceIte]
 refine⟨[5,2,3],⟨.inl rfl,by decide⟩,fun _=>⟨[5,2,3],⟨.inl rfl,by decide⟩,?_⟩,fun hn=>(hn j1).elim⟩
 rw[a1];exact h
def lp6_0:PC:=
 ((PC.reg [mm 78 12,mm 79 0,nn (.t 80) (.len (.t 79)),nn (.t 81) (.bin .lss (.t 78) (.t 80))]).seq (PC.cond (.t 81) PC.skip (PC.exit 0))).seq
  ((PC.block 1 ((PC.reg [mm 84 0,mm 85 12,nn (.t 86) (.iadrS 1 (.t 84) (.t 85)),nn (.t 87) (.load 1 false (.t 86)),mm 88 2,nn (.t 89) (.bin .gtr
  (.t 87) (.t 88))]).seq (PC.cond (.t 89) (PC.reg [mm 90 11,nn (.t 91) (.bin .add (.t 90) (.c (.v (.int .i64 1)))),ma 11 91]) PC.skip))).seq (PC.reg
  [mm 82 12,nn (.t 83) (.bin .add (.t 82) (.c (.v (.int .i64 1)))),ma 12 83]))
def pf6:PF:=
 PF.mk 3 13 107 ((PC.reg [nn (.v 6) (.mv true (.c (.v (.bool false))))]).seq (((PC.reg [mm 13 0,nn (.t 14) (.len (.t 13)),nn (.t 15) (.bin .gtr (.t
  14) (.c (.v (.int .i64 30))))]).seq (PC.cond (.t 15) ((PC.reg [nn (.t 16) (.call 32 []),ma 6 16]).seq PC.ret) PC.skip)).seq ((PC.reg [mm 18 0,mm 19
  1,mm 20 2,nn (.t 21) (.call 33 [.t 18,.t 19,.t 20]),nn (.t 17) (.mv false (.t 21)),nn (.t 22) (.ext (.t 17) 0),nn (.t 23) (.ext (.t 17) 1),ma
  7 22,ma 8 23]).seq ((PC.reg [mm 25 0,mm 26 1,mm 27 2,nn (.t 28) (.call 34 [.t 25,.t 26,.t 27]),nn (.t 24) (.mv false (.t 28)),nn (.t 29)
  (.ext (.t 24) 0),nn (.t 30) (.ext (.t 24) 1),ma 9 29,ma 10 30]).seq (((PC.reg [mm 31 7,mm 32 9,nn (.t 33) (.call 35 [.t 31,.t 32]),nn (.t 34)
  (.un .not (.t 33)),nn (.t 35) (.mv false (.t 34)),gm 36 8 35 false,gm 37 10 35 false,⟨.t 38,.bin .neq (.t 36) (.t 37),some (.t 35,false)⟩,nn
  (.t 39) (.pick (.t 35) (.c (.v (.bool true))) (.t 38)),nn (.t 40) (.mv false (.t 39)),gm 41 1 40 false,⟨.t 42,.call 36 [.t 41],some (.t 40,
  false)⟩,⟨.t 43,.len (.t 42),some (.t 40,false)⟩,⟨.t 44,.bin .neq (.t 43) (.c (.v (.int .i64 0))),some (.t 40,false)⟩,⟨.t 45,.mv false (.t
  44),some (.t 40,false)⟩,gm 46 1 45 true,⟨.t 47,.call 36 [.t 46],some (.t 45,true)⟩,⟨.t 48,.len (.t 47),some (.t 45,true)⟩,gm 49 1 45
  true,⟨.t 50,.bin .neq (.t 48) (.t 49),some (.t 45,true)⟩,⟨.t 51,.pick (.t 45) (.t 50) (.c (.v (.bool false))),some (.t 40,false)⟩,nn (.t 52)
  (.pick (.t 40) (.c (.v (.bool true))) (.t 51)),nn (.t 53) (.mv false (.t 52)),gm 54 1 53 false,⟨.t 55,.call 36 [.t 54],some (.t 53,false)⟩,⟨.t
  56,.len (.t 55),some (.t 53,false)⟩,⟨.t 57,.bin .eql (.t 56) (.c (.v (.int .i64 0))),some (.t 53,false)⟩,gm 58 1 53 false,⟨.t 59,.call 37
  [.t 58],some (.t 53,false)⟩,⟨.t 60,.bin .eql (.t 59) (.c (.v (.int .i64 0))),some (.t 53,false)⟩,⟨.t 61,.binB .neq (.t 57) (.t 60),some (.t
  53,false)⟩,nn (.t 62) (.pick (.t 53) (.c (.v (.bool true))) (.t 61))]).seq (PC.cond (.t 62) ((PC.reg [nn (.v 6) (.mv true (.c (.v (.bool
  false))))]).seq PC.ret) PC.skip)).seq (((PC.reg [mm 63 0,nn (.t 64) (.call 38 [.t 63]),nn (.t 65) (.un .not (.t 64))]).seq (PC.cond (.t 65)
  ((PC.reg [mm 66 0,nn (.t 67) (.call 39 [.t 66]),nn (.t 68) (.bin .eql (.t 67) (.c (.v (.int .i64 0)))),nn (.t 69) (.mv false (.t 68)),gm 70 0 69
  true,gm 71 2 69 true,⟨.t 72,.call 40 [.t 70,.t 71],some (.t 69,true)⟩,⟨.t 73,.bin .eql (.t 72) (.c (.v (.int .i64 0))),some (.t 69,true)⟩,
  nn (.t 74) (.pick (.t 69) (.t 73) (.c (.v (.bool false)))),nn (.t 75) (.mv false (.t 74)),⟨.t 76,.call 32 [],some (.t 75,true)⟩,nn (.t 77)
  (.pick (.t 75) (.t 76) (.c (.v (.bool false)))),ma 6 77]).seq PC.ret) PC.skip)).seq ((PC.reg [nn (.v 11) (.mv true (.c (.v (.int .i64 0))))]).seq
  (((PC.reg [nn (.v 12) (.mv true (.c (.v (.int .i64 0))))]).seq (PC.block 0 (PC.loop [0,2,11,12] lp6_0))).seq ((PC.reg [mm 92 0,nn (.t 93) (.call
  39 [.t 92]),mm 94 0,nn (.t 95) (.call 41 [.t 94]),nn (.t 96) (.bin .eql (.t 93) (.t 95)),nn (.t 97) (.mv false (.t 96)),gm 98 0 97 true,gm 99 2
  97 true,⟨.t 100,.call 40 [.t 98,.t 99],some (.t 97,true)⟩,gm 101 11 97 true,⟨.t 102,.bin .eql (.t 100) (.t 101),some (.t 97,true)⟩,nn (.t
  103) (.pick (.t 97) (.t 102) (.c (.v (.bool false)))),nn (.t 104) (.mv false (.t 103)),⟨.t 105,.call 32 [],some (.t 104,true)⟩,nn (.t 106)
  (.pick (.t 104) (.t 105) (.c (.v (.bool false)))),ma 6 106]).seq PC.ret))))))))) [(.v 6,none)]
def ZAv0:Spec1
 |[],G,Q=>Q (.v (.bool true)) G
 |_,_,_=>False
theorem ZAv0_eq:ZAv0 [] G Q=Q (.v (.bool true)) G:=rfl
def hdL (xs:List Int) (i v:Int):List Int:=if hdE xs i v=0 then xs.set (i-1).toNat v else []
theorem NV_hd {xs:List Int} {i v:Int}:NV (hdV xs i v) (hdL xs i v):=by
 unfold hdV hdL;split
 ·exact .inl rfl
 ·exact .inr ⟨rfl,rfl⟩
theorem hdL_len {xs:List Int} {i v:Int}:(hdL xs i v).length≤xs.length:=by
 unfold hdL;split
 ·rw[List.length_set];exact Nat.le_refl _
 ·exact Nat.zero_le _
theorem loop6 {QQ:Ex→St→Prop} {xs:List Int} {v:Int} (hl:xs.length < 1000000)
  (hx:∀i t8,QQ (.exit 0) ⟨[some (.v (.sli .i64 xs)),none,some (.v (.int .i64 v)),none,none,none,none,none,none,none,none,some (.v (.int .i64 (cntG v xs))),some (.v (.int .i64 (i:Nat)))],t8,[],G⟩):
  ∀(r:List Int) (i:Nat),xs.drop i=r→i≤xs.length→WL (W E C lp6_0) [0,2,11,12] QQ (r.length+1) ⟨[some (.v (.sli .i64 xs)),none,some (.v (.int .i64 v)),none,none,none,none,none,none,none,none,some (.v (.int .i64 (cntG v (xs.take i)))),some (.v (.int .i64 (i:Nat)))],[],[],G⟩:=by
 intro r
 induction r with
 |nil=>
  intro i h1 h2
  have:=drop_none h1
  have c1:¬(i:Int) < (xs.length:Int):=by omega
  have e:xs.take i=xs:=List.take_of_length_le this
  refine WL_in lp6_0.eq_1 ?_
  simp -implicitDefEqProofs only[c1,e,go_sem,↓reduceIte]
  exact hx _ _
 |cons p r ih=>
  intro i h1 h2
  obtain⟨hd,hj,hlen⟩:=drop_one h1
  have g:=getD_iv h1
  have c1:(i:Int) < (xs.length:Int):=by omega
  have c3:(0:Int)≤i:=by omega
  have w1:IntKind.i64.wrap ((i:Int)+1)=((i+1:Nat):Int):=wc (by omega) (by omega)
  have hb:=cntG_le (v:=v) (xs:=xs) (i:=i)
  have w2:IntKind.i64.wrap (cntG v (xs.take i)+1)=cntG v (xs.take i)+1:=w64 (by omega) (by omega)
  have hs:=cntG_take (v:=v) h1
  have ih':=ih (i+1) hd (by omega)
  refine WL_in lp6_0.eq_1 ?_
  by_cases hc:v < p
  ·rw[if_pos hc]at hs
   rw[hs]at ih'
   simp -implicitDefEqProofs only[c1,c3,g,w1,w2,hc,Int.toNat_natCast,go_sem,↓reduceIte]
   exact ih'
  ·rw[if_neg hc,Int.add_zero]at hs
   rw[hs]at ih'
   simp -implicitDefEqProofs only[c1,c3,g,w1,w2,hc,Int.toNat_natCast,go_sem,↓reduceIte]
   exact ih'
theorem walk6 {x:V} {xs:List Int} {i v:Int} (hA:Abs.look l 32=some ZAv0) (hH:Abs.look l 33=some ZHv) (hR:Abs.look l 34=some ZHv) (hS:Abs.look l 35=some ZSv) (hN:Abs.look l 36=some ZNv) (hQ:Abs.look l 37=some ZQu) (hM:Abs.look l 38=some ZMv) (hJ:Abs.look l 39=some ZJv) (hK:Abs.look l 41=some ZKv) (hD:Abs.look l 40=some ZAv)
  (hx:NV x xs) (hl:xs.length < 1000000∨30 < xs.length) (hi:I64 i) (hv:I64 v) (h:Q (.v (.bool true)) G):Wf E (specOf l) pf6 [x,.int .i64 i,.int .i64 v] G Q:=by
 have hx0:=hx
 have hln:=hx.lenI
 by_cases c0:30 < xs.length
 ·have c1:(30:Int) < xs.length:=by omega
  rcases hx with rfl|⟨rfl,rfl⟩
  ·simp -implicitDefEqProofs only[pf6,c1,hA,ZAv0_eq,go_sem,↓reduceIte]
   exact h
  ·simp at c0
 have c1:¬(30:Int) < xs.length:=by omega
 have hl:xs.length < 1000000:=by omega
 have hyy:=NV_hd (xs:=xs) (i:=i) (v:=v)
 have hyl:=hdL_len (xs:=xs) (i:=i) (v:=v)
 have hya:(hdV xs i v).isAgg=false:=by
  rcases hyy with e|⟨e,_⟩<;>rw[e]<;>rfl
 rcases hx with rfl|⟨rfl,rfl⟩
 ·simp -implicitDefEqProofs only[pf6,c1,hH,ZHv_eq,hR,go_sem,↓reduceIte]
  refine⟨xs,⟨hx0,hl,hi,hv⟩,?_⟩
  refine⟨xs,⟨hx0,hl,hi,hv⟩,?_⟩
  simp -implicitDefEqProofs only[hS,ZSv_eq,go_sem,↓reduceIte]
  refine⟨_,_,⟨hyy,hyy,by omega,by omega⟩,?_⟩
  have dt:∀a:List Int,decide (a=a)=true:=fun a=>decide_eq_true rfl
  by_cases hq:quo i=0
  ·have e1:newV i= .nils:=by unfold newV;rw[if_pos hq]
   simp -implicitDefEqProofs only[dt,hN,ZNv_eq,e1,hQ,ZQu_eq,hq,go_sem,↓reduceIte]
   refine⟨hi,hi,hi,?_⟩
   simp -implicitDefEqProofs only[hM,ZMv_eq,go_sem,↓reduceIte]
   refine⟨xs,⟨hx0,hl⟩,fun h1=> ?_,fun h1=> ?_⟩
   ·have j0:=jmp_no h1
    have a0:=ahd_no (v:=v) h1
    simp -implicitDefEqProofs only[hJ,ZJv_eq,go_sem,↓reduceIte]
    refine⟨xs,⟨hx0,hl⟩,?_⟩
    simp -implicitDefEqProofs only[j0,hD,ZAv_eq,go_sem,↓reduceIte]
    refine⟨xs,⟨hx0,hl⟩,?_⟩
    simp -implicitDefEqProofs only[a0,hA,ZAv0_eq,go_sem,↓reduceIte]
    exact h
   ·refine⟨xs.length+1,?_⟩
    simp -implicitDefEqProofs only[go_sem,↓reduceIte]
    refine loop6 hl (fun i2 t8=> ?_) xs 0 rfl (by omega)
    have jr:=jmp_rj h1
    have ad:ahdV xs v=cntG v xs:=by unfold ahdV;rw[if_pos h1]
    simp -implicitDefEqProofs only[hJ,ZJv_eq,go_sem,↓reduceIte]
    refine⟨xs,⟨hx0,hl⟩,?_⟩
    simp -implicitDefEqProofs only[hK,ZKv_eq,go_sem,↓reduceIte]
    refine⟨xs,⟨hx0,hl⟩,?_⟩
    simp -implicitDefEqProofs only[jr,hD,ZAv_eq,go_sem,↓reduceIte]
    refine⟨xs,⟨hx0,hl⟩,?_⟩
    simp -implicitDefEqProofs only[ad,hA,ZAv0_eq,go_sem,↓reduceIte]
    exact h
  ·have e1:newV i= .sli .i64 (List.replicate i.toNat 0):=by unfold newV;rw[if_neg hq]
   have e2:=quo_le hq
   have e3:((i.toNat:Nat):Int)=i:=by omega
   have e4:¬i=0:=by omega
   simp -implicitDefEqProofs only[dt,hN,ZNv_eq,e1,hQ,ZQu_eq,hq,List.length_replicate,e3,e4,go_sem,↓reduceIte]
   refine⟨hi,hi,hi,hi,?_⟩
   simp -implicitDefEqProofs only[hM,ZMv_eq,go_sem,↓reduceIte]
   refine⟨xs,⟨hx0,hl⟩,fun h1=> ?_,fun h1=> ?_⟩
   ·have j0:=jmp_no h1
    have a0:=ahd_no (v:=v) h1
    simp -implicitDefEqProofs only[hJ,ZJv_eq,go_sem,↓reduceIte]
    refine⟨xs,⟨hx0,hl⟩,?_⟩
    simp -implicitDefEqProofs only[j0,hD,ZAv_eq,go_sem,↓reduceIte]
    refine⟨xs,⟨hx0,hl⟩,?_⟩
    simp -implicitDefEqProofs only[a0,hA,ZAv0_eq,go_sem,↓reduceIte]
    exact h
   ·refine⟨xs.length+1,?_⟩
    simp -implicitDefEqProofs only[go_sem,↓reduceIte]
    refine loop6 hl (fun i2 t8=> ?_) xs 0 rfl (by omega)
    have jr:=jmp_rj h1
    have ad:ahdV xs v=cntG v xs:=by unfold ahdV;rw[if_pos h1]
    simp -implicitDefEqProofs only[hJ,ZJv_eq,go_sem,↓reduceIte]
    refine⟨xs,⟨hx0,hl⟩,?_⟩
    simp -implicitDefEqProofs only[hK,ZKv_eq,go_sem,↓reduceIte]
    refine⟨xs,⟨hx0,hl⟩,?_⟩
    simp -implicitDefEqProofs only[jr,hD,ZAv_eq,go_sem,↓reduceIte]
    refine⟨xs,⟨hx0,hl⟩,?_⟩
    simp -implicitDefEqProofs only[ad,hA,ZAv0_eq,go_sem,↓reduceIte]
    exact h
 ·simp -implicitDefEqProofs only[pf6,c1,hH,ZHv_eq,hR,go_sem,↓reduceIte]
  refine⟨([]:List Int),⟨hx0,hl,hi,hv⟩,?_⟩
  refine⟨([]:List Int),⟨hx0,hl,hi,hv⟩,?_⟩
  simp -implicitDefEqProofs only[hS,ZSv_eq,go_sem,↓reduceIte]
  refine⟨_,_,⟨hyy,hyy,by omega,by omega⟩,?_⟩
  have dt:∀a:List Int,decide (a=a)=true:=fun a=>decide_eq_true rfl
  by_cases hq:quo i=0
  ·have e1:newV i= .nils:=by unfold newV;rw[if_pos hq]
   simp -implicitDefEqProofs only[dt,hN,ZNv_eq,e1,hQ,ZQu_eq,hq,go_sem,↓reduceIte]
   refine⟨hi,hi,hi,?_⟩
   simp -implicitDefEqProofs only[hM,ZMv_eq,go_sem,↓reduceIte]
   refine⟨([]:List Int),⟨hx0,hl⟩,fun h1=> ?_,fun h1=> ?_⟩
   ·have j0:=jmp_no h1
    have a0:=ahd_no (v:=v) h1
    simp -implicitDefEqProofs only[hJ,ZJv_eq,go_sem,↓reduceIte]
    refine⟨([]:List Int),⟨hx0,hl⟩,?_⟩
    simp -implicitDefEqProofs only[j0,hD,ZAv_eq,go_sem,↓reduceIte]
    refine⟨([]:List Int),⟨hx0,hl⟩,?_⟩
    simp -implicitDefEqProofs only[a0,hA,ZAv0_eq,go_sem,↓reduceIte]
    exact h
   ·exact (Bool.false_ne_true h1).elim
  ·have e1:newV i= .sli .i64 (List.replicate i.toNat 0):=by unfold newV;rw[if_neg hq]
   have e2:=quo_le hq
   have e3:((i.toNat:Nat):Int)=i:=by omega
   have e4:¬i=0:=by omega
   simp -implicitDefEqProofs only[dt,hN,ZNv_eq,e1,hQ,ZQu_eq,hq,List.length_replicate,e3,e4,go_sem,↓reduceIte]
   refine⟨hi,hi,hi,hi,?_⟩
   simp -implicitDefEqProofs only[hM,ZMv_eq,go_sem,↓reduceIte]
   refine⟨([]:List Int),⟨hx0,hl⟩,fun h1=> ?_,fun h1=> ?_⟩
   ·have j0:=jmp_no h1
    have a0:=ahd_no (v:=v) h1
    simp -implicitDefEqProofs only[hJ,ZJv_eq,go_sem,↓reduceIte]
    refine⟨([]:List Int),⟨hx0,hl⟩,?_⟩
    simp -implicitDefEqProofs only[j0,hD,ZAv_eq,go_sem,↓reduceIte]
    refine⟨([]:List Int),⟨hx0,hl⟩,?_⟩
    simp -implicitDefEqProofs only[a0,hA,ZAv0_eq,go_sem,↓reduceIte]
    exact h
   ·exact (Bool.false_ne_true h1).elim
open Go Go.Abs Go.RowKit Go.Abs.Sha
theorem int_of {n:Nat} {x:V} (h:TyV Try.prog (n+1) 3 x):∃i,x= .int .i64 i∧I64 i:=by
 unfold TyV at h;simp only[Try.underlying3]at h
 obtain⟨i,rfl,h⟩:=h;exact⟨i,rfl,wf64 h⟩
theorem ints_of {n:Nat} {x:V} (h:TyV Try.prog (n+1) 41 x):∃l,x= .sli .i64 l∧∀i∈l,I64 i:=by
 have hk:intK Try.prog 3=some .i64:=by kernel_rfl
 unfold TyV at h;simp only[Try.underlying41,hk]at h
 obtain⟨l,rfl,h1,h2⟩:=h;exact⟨l,rfl,fun i hi=>wf64 (h1 i hi)⟩
end Go.Proofs.Ytjbglbhcbenhpaa.Sha
