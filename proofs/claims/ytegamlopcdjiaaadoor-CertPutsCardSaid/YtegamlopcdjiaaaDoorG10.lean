/- Laws over plain values, and what functions of the program hand back; no conditions. -/
import Derived.Test.YtegamlopcdjiaaaDoorG4
import Derived.Test.YtegamlopcdjiaaaDoorUSrt5
import Derived.Test.YtegamlopcdjiaaaDoorG1
namespace Go.Abs.Sha
open Go Go.Abs Go.Abs.Srt
set_option linter.unusedVariables false
set_option linter.unusedSimpArgs false
structure AccS where
 who:Int
 vi:Int
 pv:Int
 ph:List Int
 fr:List Int
 ta:List Int
def AccS.v (a:AccS):V:= .agg [.int .i64 a.who,.int .i64 a.vi,.int .i64 a.pv,.arr .u8 32 a.ph,.sli .i64 a.fr,.arr .u8 32 a.ta]
def AccS.zero:AccS:=⟨0,0,0,zero32,[],zero32⟩
structure AccS.wf (a:AccS):Prop where
 who:I64 a.who
 vi:I64 a.vi
 pv:I64 a.pv
 ph:H32 a.ph
 fr:∀x∈a.fr,I64 x
 ta:H32 a.ta
def riseI (n:Int):Int→List Int→Bool
 |_,[]=>true
 |low,w::ws=>if w≤low∨n < w then false else riseI n w ws
theorem riseI_all {n:Int}:∀{l:List Int} {low:Int},riseI n low l=true→∀x∈l,low < x∧x≤n
 |[],_,_=>fun x hx=>by cases hx
 |w::ws,low,h=>by
  unfold riseI at h
  split at h
  ·cases h
  ·rename_i hw
   intro x hx
   rcases List.mem_cons.1 hx with rfl|hx
   ·omega
   ·have:=riseI_all h x hx;omega
theorem riseI_len {n:Int}:∀{l:List Int} {low:Int},riseI n low l=true→l=[]∨(l.length:Int)≤n-low
 |[],_,_=> .inl rfl
 |w::ws,low,h=>by
  unfold riseI at h
  split at h
  ·cases h
  ·rename_i hw
   rcases riseI_len h with rfl|h2
   ·right;simp;omega
   ·right;simp only[List.length_cons];omega
def AccS.May (a:AccS):Prop:=(1≤a.who∧a.who≤21)∧(1≤a.vi∧a.vi≤1099511627776)∧(0≤a.pv∧a.pv < a.vi)∧a.fr≠[]∧riseI 21 0 a.fr=true
instance decMayA (a:AccS):Decidable a.May:=by unfold AccS.May;infer_instance
def AccS.may (a:AccS):Bool:=decide a.May
def nums:List Int→List Int
 |[]=>[]
 |x::l=>num x.toNat++nums l
theorem nums_ok:∀{l:List Int},(∀x∈l,0≤x∧x < 2000000000000)→Byt (nums l)∧(nums l).length≤10*l.length
 |[],_=>⟨byt_nil,by simp[nums]⟩
 |x::l,h=>by
  obtain⟨h1,h2⟩:=nums_ok (l:=l) fun y hy=>h y (List.mem_cons_of_mem _ hy)
  have hx:=h x (List.mem_cons_self ..)
  obtain⟨h3,h4⟩:=num_ok (n:=x.toNat) (by omega)
  refine⟨byt_app h3 h1,?_⟩
  simp only[nums,List.length_append,List.length_cons];omega
theorem nums_small:∀{l:List Int},(∀x∈l,0≤x∧x < 128)→nums l=l
 |[],_=>rfl
 |x::l,h=>by
  have hx:=h x (List.mem_cons_self ..)
  simp only[nums]
  rw[num_small (by omega),nums_small fun y hy=>h y (List.mem_cons_of_mem _ hy)]
  simp only[List.cons_append,List.nil_append,List.cons.injEq,and_true]
  omega
def AccS.said (a:AccS):List Int:=num a.vi.toNat++num a.pv.toNat++a.ph++num a.fr.length++nums a.fr
def AccS.tag (kt:List Int) (a:AccS):List Int:=tagH kt a.who 2 a.said
def AccS.right (kt:List Int) (n:Int) (a:AccS):Bool:=
 decide (quo n≠0)&&a.may&&decide (a.who≤n)&&decide ((a.fr.length:Int)=quo n)&&decide (a.fr.getLast?.getD 0≤n)&&decide (a.ta=a.tag kt)
theorem AccS.may_len {a:AccS} (h:a.May):a.fr.length≤21∧0 < a.fr.length∧∀x∈a.fr,0 < x∧x≤21:=by
 obtain⟨_,_,_,h4,h5⟩:=h
 refine⟨?_,List.length_pos_iff.2 h4,riseI_all h5⟩
 rcases riseI_len h5 with h|h
 ·exact absurd h h4
 ·omega
theorem AccS.said_ok {a:AccS} (h:a.wf) (hm:a.May):Byt a.said∧a.said.length≤300:=by
 obtain⟨l1,l2,l3⟩:=AccS.may_len hm
 obtain⟨m1,m2,m3,m4,m5⟩:=hm
 obtain⟨a1,a2⟩:=num_ok (n:=a.vi.toNat) (by omega)
 obtain⟨b1,b2⟩:=num_ok (n:=a.pv.toNat) (by omega)
 obtain⟨c1,c2⟩:=num_ok (n:=a.fr.length) (by omega)
 obtain⟨d1,d2⟩:=nums_ok (l:=a.fr) fun x hx=>by have:=l3 x hx;omega
 refine⟨byt_app (byt_app (byt_app (byt_app a1 b1) h.ph.1) c1) d1,?_⟩
 have:=h.ph.2
 simp only[AccS.said,List.length_append];omega
theorem AccS.zero_wf:AccS.zero.wf:=⟨by decide,by decide,by decide,h32_zero,(fun x hx=>by cases hx),h32_zero⟩
theorem h32_tagA (kt:List Int) (a:AccS):H32 (a.tag kt):=⟨byt_tagH _ _ _ _,tagH_len _ _ _ _⟩
def bestA:Int×List Int→List AttS→Int×List Int
 |b,[]=>b
 |b,a::l=>if b.1 < a.pv then bestA (a.pv,a.pa) l else bestA b l
theorem bestA_snoc {x:AttS}:∀{l:List AttS} {b:Int×List Int},bestA b (l++[x])=if (bestA b l).1 < x.pv then (x.pv,x.pa)else bestA b l
 |[],b=>rfl
 |y::l,b=>by
  simp only[List.cons_append,bestA]
  split<;>exact bestA_snoc
theorem bestA_ge:∀{l:List AttS} {b:Int×List Int},b.1≤(bestA b l).1∧∀a∈l,a.pv≤(bestA b l).1
 |[],b=>⟨Int.le_refl _,fun a ha=>by cases ha⟩
 |y::l,b=>by
  simp only[bestA]
  split
  ·rename_i h
   obtain⟨h1,h2⟩:=bestA_ge (l:=l) (b:=(y.pv,y.pa))
   dsimp only at h1
   refine⟨by omega,fun a ha=> ?_⟩
   rcases List.mem_cons.1 ha with rfl|ha
   ·exact h1
   ·exact h2 a ha
  ·rename_i h
   obtain⟨h1,h2⟩:=bestA_ge (l:=l) (b:=b)
   refine⟨h1,fun a ha=> ?_⟩
   rcases List.mem_cons.1 ha with rfl|ha
   ·omega
   ·exact h2 a ha
theorem bestA_mem:∀{l:List AttS} {b:Int×List Int},bestA b l=b∨∃a∈l,bestA b l=(a.pv,a.pa)
 |[],b=> .inl rfl
 |y::l,b=>by
  simp only[bestA]
  split
  ·rcases bestA_mem (l:=l) (b:=(y.pv,y.pa))with h|⟨a,ha,h⟩
   ·exact .inr ⟨y,List.mem_cons_self ..,h⟩
   ·exact .inr ⟨a,List.mem_cons_of_mem _ ha,h⟩
  ·rcases bestA_mem (l:=l) (b:=b)with h|⟨a,ha,h⟩
   ·exact .inl h
   ·exact .inr ⟨a,List.mem_cons_of_mem _ ha,h⟩
theorem bestA_start {l:List AttS} {b:Int×List Int} (hb:b.1 < 0) (h:∀a∈l,0≤a.pv) (hne:l≠[]):∃a∈l,bestA b l=(a.pv,a.pa):=by
 rcases bestA_mem (l:=l) (b:=b)with e|e
 ·obtain⟨a,r,rfl⟩:=List.exists_cons_of_ne_nil hne
  have h1:=(bestA_ge (l:=a::r) (b:=b)).2 a (List.mem_cons_self ..)
  have h2:=h a (List.mem_cons_self ..)
  rw[e]at h1;omega
 ·exact e
def badA (kt:List Int) (n view:Int) (x:AttS):Bool:= !(x.right kt)|| !decide (x.ki=1)|| !decide (x.vi=view)||decide (n < x.who)
def mkAccu (kt:List Int) (by_ n view:Int) (l:List AttS):AccS×Int:=
 if quo n=0∨by_ < 1∨n < by_∨view < 1∨1099511627776 < view then (.zero,1)
 else if (l.any (badA kt n view))=true then (.zero,7)
 else if ((firstsA n l).length:Int) < quo n then (.zero,3)
 else
  let fs:=(firstsA n l).take (quo n).toNat
  let b:=bestA (-1,zero32) fs
  let a:AccS:=⟨by_,view,b.1,b.2,fs.map (·.who),zero32⟩
  ({ a with ta:=a.tag kt },0)
theorem right_MayA {kt:List Int} {a:AttS} (h:a.right kt=true):a.May:=by
 unfold AttS.right at h;rw[Bool.and_eq_true]at h
 exact of_decide_eq_true h.1
theorem badA_not {kt:List Int} {n view:Int} {x:AttS} (h:badA kt n view x=false):x.right kt=true∧x.ki=1∧x.vi=view∧x.who≤n∧x.May∧0≤x.pv∧x.pv < view:=by
 unfold badA at h
 simp only[Bool.or_eq_false_iff,Bool.not_eq_false',decide_eq_true_eq,decide_eq_false_iff_not,Int.not_lt]at h
 obtain⟨⟨⟨h1,h2⟩,h3⟩,h4⟩:=h
 have hm:=right_MayA h1
 obtain⟨m1,m2,m3,m4,m5,m6⟩:=id hm
 exact⟨h1,h2,h3,h4,hm,m5,by omega⟩
theorem riseI_firsts {N n:Int} {l:List AttS} (hN:n≤N):∀(m s q:Nat) (low:Int),low < (s:Int)→(s:Int)+m≤n+1→riseI N low (((((List.range' s m).filterMap fun (k:Nat)=>l.find? fun a=>decide (a.who=(k:Int))).take q).map (·.who)))=true:=by
 intro m
 induction m with
 |zero=>intro s q low h1 h2;simp[riseI]
 |succ m ih=>
  intro s q low h1 h2
  rw[List.range'_succ,List.filterMap_cons]
  cases hf:l.find? fun a=>decide (a.who=(s:Int))with
  |none=>exact ih (s+1) q low (by omega) (by omega)
  |some x=>
   have hx:x.who=(s:Int):=by have:=List.find?_some hf;simpa using this
   cases q with
   |zero=>rfl
   |succ q=>
    show riseI N low (x.who::_)=true
    refine Eq.trans (if_neg (by omega)) ?_
    exact ih (s+1) q x.who (by omega) (by omega)
theorem firstsA_find {n:Int} {l:List AttS} {a:AttS} (h:a∈firstsA n l):l.find? (fun x=>decide (x.who=a.who))=some a:=by
 unfold firstsA at h
 obtain⟨k,hk,h⟩:=List.mem_filterMap.1 h
 have:=List.find?_some h
 have e:a.who=(k:Int):=by simpa using this
 rw[e];exact h
structure MkOk (kt:List Int) (by_ n view:Int) (l:List AttS) (a:AccS) (fs:List AttS):Prop where
 q0:quo n≠0
 ne:fs≠[]
 fr:a.fr=fs.map (·.who)
 len:(a.fr.length:Int)=quo n
 find:∀x∈fs,l.find? (fun y=>decide (y.who=x.who))=some x
 ge:∀x∈fs,x.pv≤a.pv
 told:∃x∈fs,x.pv=a.pv∧x.pa=a.ph
 right:a.right kt n=true
 may:a.May
 who:a.who=by_
theorem mk_okA {kt:List Int} {by_ n view:Int} {l:List AttS} (h:(mkAccu kt by_ n view l).2=0):∃fs,MkOk kt by_ n view l (mkAccu kt by_ n view l).1 fs:=by
 unfold mkAccu at h⊢
 by_cases c1:quo n=0∨by_ < 1∨n < by_∨view < 1∨1099511627776 < view
 ·rw[if_pos c1]at h;cases h
 rw[if_neg c1]at h⊢
 by_cases c2:(l.any (badA kt n view))=true
 ·rw[if_pos c2]at h;cases h
 rw[if_neg c2]at h⊢
 by_cases c3:((firstsA n l).length:Int) < quo n
 ·rw[if_pos c3]at h;cases h
 rw[if_neg c3]
 have q0:quo n≠0:=fun e=>c1 (.inl e)
 obtain⟨n1,n2,_,_⟩:=quo_le q0
 have qn:=quo_nn n
 have ql:((firstsA n l).take (quo n).toNat).length=(quo n).toNat:=by rw[List.length_take];omega
 have hbad:∀x∈l,badA kt n view x=false:=fun x hx=>by
  have:=List.any_eq_false.1 (by simpa using c2:(l.any (badA kt n view))=false) x hx
  simpa using this
 have hin:∀x∈(firstsA n l).take (quo n).toNat,x∈l:=fun x hx=>firstsA_mem (List.mem_of_mem_take hx)
 have hri:riseI 21 0 (((firstsA n l).take (quo n).toNat).map (·.who))=true:=by
  have:=riseI_firsts (N:=21) (n:=n) (l:=l) n2 n.toNat 1 (quo n).toNat 0 (by decide) (by omega)
  exact this
 have hfind:∀x∈(firstsA n l).take (quo n).toNat,l.find? (fun y=>decide (y.who=x.who))=some x:=fun x hx=>firstsA_find (List.mem_of_mem_take hx)
 generalize hfs:(firstsA n l).take (quo n).toNat=fs at*
 have hne:fs≠[]:=by
  intro e;rw[e]at ql;simp at ql;omega
 obtain⟨x,hx,e⟩:=bestA_start (b:=(-1,zero32)) (by decide) (fun a ha=>(badA_not (hbad a (hin a ha))).2.2.2.2.2.1) hne
 have hge:=(bestA_ge (l:=fs) (b:=(-1,zero32))).2
 have bx:=badA_not (hbad x (hin x hx))
 refine⟨fs,?_⟩
 have may:AccS.May ⟨by_,view,(bestA (-1,zero32) fs).1,(bestA (-1,zero32) fs).2,fs.map (·.who),AccS.tag kt ⟨by_,view,(bestA (-1,zero32) fs).1,(bestA (-1,zero32) fs).2,fs.map (·.who),zero32⟩⟩:=by
  refine⟨by dsimp only;omega,by dsimp only;omega,?_,by simpa using hne,hri⟩
  rw[e];exact⟨bx.2.2.2.2.2.1,bx.2.2.2.2.2.2⟩
 have hlen:((fs.map (·.who)).length:Int)=quo n:=by rw[List.length_map];omega
 have hlast:(fs.map (·.who)).getLast?.getD 0≤n:=by
  obtain⟨y,hy⟩:∃y,(fs.map (·.who)).getLast? =some y:=⟨_,List.getLast?_eq_some_getLast (by simpa using hne)⟩
  rw[hy]
  obtain⟨z,hz,rfl⟩:=List.mem_map.1 (List.mem_of_getLast? hy)
  exact (badA_not (hbad z (hin z hz))).2.2.2.1
 refine⟨q0,hne,rfl,hlen,hfind,fun x hx=>hge x hx,⟨x,hx,by dsimp only;rw[e],by dsimp only;rw[e]⟩,?_,may,rfl⟩
 unfold AccS.right AccS.may
 dsimp only
 rw[decide_eq_true q0,decide_eq_true may,decide_eq_true (by omega:by_≤n),decide_eq_true hlen,decide_eq_true hlast,decide_eq_true (by rfl)]
 rfl
theorem mk_wfA {kt:List Int} {by_ n view:Int} {l:List AttS} (hw:∀a∈l,a.wf) (h1:I64 by_) (h2:I64 view):(mkAccu kt by_ n view l).1.wf∧(mkAccu kt by_ n view l).1.fr.length≤11:=by
 unfold mkAccu
 split
 ·exact⟨AccS.zero_wf,by decide⟩
 split
 ·exact⟨AccS.zero_wf,by decide⟩
 split
 ·exact⟨AccS.zero_wf,by decide⟩
 have qn:=quo_nn n
 have hin:∀x∈(firstsA n l).take (quo n).toNat,x∈l:=fun x hx=>firstsA_mem (List.mem_of_mem_take hx)
 have ql:((firstsA n l).take (quo n).toNat).length≤11:=by rw[List.length_take];omega
 generalize (firstsA n l).take (quo n).toNat=fs at*
 have hb:I64 (bestA (-1,zero32) fs).1∧H32 (bestA (-1,zero32) fs).2:=by
  rcases bestA_mem (l:=fs) (b:=(-1,zero32))with e|⟨x,hx,e⟩
  ·rw[e];exact⟨by decide,h32_zero⟩
  ·rw[e];exact⟨(hw x (hin x hx)).pv,(hw x (hin x hx)).pa⟩
 refine⟨⟨h1,h2,hb.1,hb.2,fun x hx=> ?_,h32_tagA _ _⟩,by dsimp only;rw[List.length_map];exact ql⟩
 obtain⟨y,hy,rfl⟩:=List.mem_map.1 hx
 exact (hw y (hin y hy)).who
end Go.Abs.Sha
namespace Go.Abs
open Go Go.RowKit
set_option linter.unusedVariables false
set_option linter.unusedSimpArgs false
theorem intsV_map {k:IntKind}:∀{l:List Int},intsV k (l.map (V.int k))=some l
 |[]=>rfl
 |x::l=>by
  simp only[List.map_cons,intsV]
  rw[if_pos (by simp),intsV_map];rfl
theorem Row.fzI {G0 G:List (Nat×V)} {k:IntKind} {z x:V} {els:List Int} (h:Row G0 G 1 z x (els.map (V.int k))) (ctx:V→R) (hf:∀id L k y,V.Fz id L k x y→R.Fz id L k (ctx x) (ctx y)) (hw:∀y,V.Wk x y→R.Wk (ctx x) (ctx y)):Low G0 (ctx x) G (ctx (.sli k els)) G0:=by
 obtain⟨he,⟨rfl,e0⟩|⟨id,c,L,rfl,h1,h2,h3,h4,h5,h6⟩⟩:=h
 ·have:els=[]:=by simpa using e0
  subst this
  refine .wk (r1:=ctx (.sli k [])) (hw _ ?_) (WkG.refl _) (.dropAll he)
  unfold V.Wk;exact .inr (.inl ⟨_,rfl⟩)
 ·refine .fz id L (some k) h1 h2 (hf id L (some k) _ ?_) (fun j y hj=> ?_) (fun j r hj=>⟨r,hj,V.same_refl r⟩) (.refl _ _)
  ·unfold V.Fz
   refine .inr ⟨rfl,h3,by omega,fun y hy=>(h6 y hy).1,?_,fun k e=>rfl⟩
   unfold elemsV;rw[List.drop_zero,h5]
   simp only[intsV_map,Option.map_some]
  ·have hne:j≠id:=by rintro rfl;rw[h1]at hj;cases hj
   exact⟨hne,y,he j y hj,V.Fz.refl y⟩
namespace Sha
theorem low_accu {G0 G:List (Nat×V)} {z x:V} {els:List Int} {a b c d t e:V} (h:Row G0 G 1 z x (els.map (V.int .i64))):Low G0 (.tup [.agg [a,b,c,d,x,t],e]) G (.tup [.agg [a,b,c,d,.sli .i64 els,t],e]) G0:=by
 refine h.fzI (fun y=> .tup [.agg [a,b,c,d,y,t],e]) (fun id L k y hy=> ?_) (fun y hy=> ?_)
 ·simp only[R.Fz]
  refine⟨_,rfl,?_⟩
  unfold V.FzL;refine⟨_,_,rfl,?_,V.FzL.refl _⟩
  unfold V.Fz;refine⟨_,rfl,?_⟩
  unfold V.FzL;refine⟨_,_,rfl,V.Fz.refl _,?_⟩
  unfold V.FzL;refine⟨_,_,rfl,V.Fz.refl _,?_⟩
  unfold V.FzL;refine⟨_,_,rfl,V.Fz.refl _,?_⟩
  unfold V.FzL;refine⟨_,_,rfl,V.Fz.refl _,?_⟩
  unfold V.FzL;refine⟨_,_,rfl,hy,V.FzL.refl _⟩
 ·simp only[R.Wk]
  refine⟨_,rfl,?_⟩
  unfold V.WkL;refine⟨_,_,rfl,?_,V.WkL.refl _⟩
  unfold V.Wk;refine⟨_,rfl,?_⟩
  unfold V.WkL;refine⟨_,_,rfl,V.Wk.refl _,?_⟩
  unfold V.WkL;refine⟨_,_,rfl,V.Wk.refl _,?_⟩
  unfold V.WkL;refine⟨_,_,rfl,V.Wk.refl _,?_⟩
  unfold V.WkL;refine⟨_,_,rfl,V.Wk.refl _,?_⟩
  unfold V.WkL;refine⟨_,_,rfl,hy,V.WkL.refl _⟩
end Sha
end Go.Abs
namespace Go.Proofs.YtegamlopcdjiaaaDoor.Sha
open Go Go.Abs Go.Abs.Sha Go.Abs.Srt
set_option linter.unusedSimpArgs false
set_option linter.unusedVariables false
set_option maxRecDepth 100000
attribute [local irreducible] W Wops WopsD WL Wop WopD
variable {E:Env} {C:Abs.Spec} {l:List (Nat×Spec1)} {G:List (Nat×V)} {Q:R→List (Nat×V)→Prop}
set_option maxHeartbeats 1000000
theorem walk0121 {f:Nat} {caps:List V} (h:Q (.tup []) G):Wf E C pf121 [.sle 101 [],.int .i64 0,.int .i64 0,.fn f caps] G Q:=by
 have w1:IntKind.i64.wrap (0+1)=1:=by decide
 have w2:IntKind.i64.wrap 1=1:=by decide
 simp (maxSteps:=1000000) (implicitDefEqProofs:=false) only[pf121,w1,w2,go_sem,↓reduceIte]
 refine⟨0+1,?_⟩
 refine WL_in lp121_1.eq_1 ?_
 simp (maxSteps:=1000000) (implicitDefEqProofs:=false) only[go_sem,↓reduceIte]
 exact h
theorem walk0112 {T:List (Nat×Spec1)} (hIS:Abs.look l 121=some (ZIs T)) {f:Nat} {caps:List V} (h:Q (.tup []) G):Wf E (specOf l) pf112 [.sle 101 [],.int .i64 0,.fn f caps] G Q:=by
 simp (maxSteps:=1000000) (implicitDefEqProofs:=false) only[pf112,go_sem,↓reduceIte]
 refine⟨0+1,?_⟩
 refine WL_in lp112_2.eq_1 ?_
 simp (maxSteps:=1000000) (implicitDefEqProofs:=false) only[hIS,ZIs_nil,go_sem,↓reduceIte]
 refine⟨0+1,?_⟩
 refine WL_in lp112_1.eq_1 ?_
 simp (maxSteps:=1000000) (implicitDefEqProofs:=false) only[go_sem,↓reduceIte]
 exact h
theorem walk092 {T:List (Nat×Spec1)} (hST:Abs.look l 112=some (ZSb T)) {f:Nat} {caps:List V} (h:Q (.tup []) G):Wf E (specOf l) pf92 [.sle 101 [],.fn f caps] G Q:=by
 simp (maxSteps:=1000000) (implicitDefEqProofs:=false) only[pf92,hST,ZSb_nil,List.length_nil,Int.natCast_zero,go_sem,↓reduceIte]
 first|exact h|exact⟨rfl,h⟩
theorem walk095 {f:Nat} {caps:List V} (h:Q (.v (.sle 101 [])) G):Wf E C pf95 [.sle 101 [],.fn f caps] G Q:=by
 simp (maxSteps:=1000000) (implicitDefEqProofs:=false) only[pf95,List.length_nil,Int.natCast_zero,go_sem,↓reduceIte]
 exact h
end Go.Proofs.YtegamlopcdjiaaaDoor.Sha
namespace Go.Abs.Sha
open Go Go.Abs
set_option linter.unusedVariables false
set_option linter.unusedSimpArgs false
def decI:Nat→Nat→List Int→Option (Nat×Nat)
 |_,_,[]=>none
 |i,acc,c::r=>if 10≤i then none else if (i=9∧1 < c)∨(0 < i∧c=0)then none else
  if c < 128 then some (acc+c.toNat*128 ^ i,i+1)else decI (i+1) (acc+(c.toNat-128)*128 ^ i) r
theorem p9 {i:Nat} (h:i≤9):i=0∨i=1∨i=2∨i=3∨i=4∨i=5∨i=6∨i=7∨i=8∨i=9:=by omega
theorem pow_le9 {i:Nat} (h:i≤9):0 < 128 ^ i∧128 ^ i≤9223372036854775808:=by
 rcases p9 h with rfl|rfl|rfl|rfl|rfl|rfl|rfl|rfl|rfl|rfl<;>decide
theorem dec_num:∀(n i acc:Nat) (r:List Int),i≤9→n*128 ^ i < 18446744073709551616→(0 < i→0 < n)→decI i acc (num n++r)=some (acc+n*128 ^ i,i+(num n).length):=by
 intro n
 induction n using Nat.strongRecOn with
 |_ n ih=>
  intro i acc r hi hn h0
  have h9:i=9→n≤1:=by
   rintro rfl
   have:(128:Nat) ^ 9=9223372036854775808:=by decide
   omega
  by_cases hlt:n < 128
  ·rw[num_small hlt]
   simp only[List.cons_append,List.nil_append,decI,List.length_cons,List.length_nil]
   rw[if_neg (by omega),if_neg (by omega),if_pos (by omega)]
   simp
  ·have h8:i≤8:=by
    rcases p9 hi with rfl|rfl|rfl|rfl|rfl|rfl|rfl|rfl|rfl|rfl<;>first|omega|(have:=h9 rfl;omega)
   have hp:128 ^ (i+1)=128 ^ i*128:=Nat.pow_succ ..
   have hpos:=(pow_le9 hi).1
   have hm:n / 128*128 ^ (i+1)≤n*128 ^ i:=by
    rw[hp,Nat.mul_comm (128 ^ i) 128,←Nat.mul_assoc]
    exact Nat.mul_le_mul_right _ (Nat.div_mul_le_self _ _)
   have e:decI (i+1) (acc+n % 128*128 ^ i) (num (n / 128)++r)=some (acc+n % 128*128 ^ i+n / 128*128 ^ (i+1),i+1+(num (n / 128)).length):=
    ih (n / 128) (by omega) (i+1) _ r (by omega) (by omega) (by omega)
   rw[num_big hlt]
   simp only[List.cons_append,decI,List.length_cons]
   rw[if_neg (by omega),if_neg (by omega),if_neg (by omega)]
   have e2:((n % 128+128:Nat):Int).toNat-128=n % 128:=by omega
   rw[e2,e]
   have e3:n % 128*128 ^ i+n / 128*128 ^ (i+1)=n*128 ^ i:=by
    rw[hp,Nat.mul_comm (128 ^ i) 128,←Nat.mul_assoc,←Nat.add_mul,show n % 128+n / 128*128=n by omega]
   rw[Nat.add_assoc acc,e3,Nat.add_assoc i,Nat.add_comm 1]
theorem lt_mul64 {m i:Nat} (hi:i≤8) (h:m*128 ^ (i+1) < 18446744073709551616):m*128 ^ (i+1)+128 ^ (i+1)≤18446744073709551616:=by
 rcases p9 (show i≤9 by omega)with rfl|rfl|rfl|rfl|rfl|rfl|rfl|rfl|rfl|rfl<;>simp only[Nat.reduceAdd,Nat.reducePow]at h⊢<;>omega
theorem num_dec:∀(b:List Int) (i acc n k:Nat),Byt b→i≤9→decI i acc b=some (n,k)→
  ∃m r,n=acc+m*128 ^ i∧(0 < i→0 < m)∧m*128 ^ i < 18446744073709551616∧b=num m++r∧k=i+(num m).length
 |[],i,acc,n,k,hb,hi,h=>by simp[decI]at h
 |c::r,i,acc,n,k,hb,hi,h=>by
  have hc:=hb c (List.mem_cons_self ..)
  have hr:Byt r:=fun x hx=>hb x (List.mem_cons_of_mem _ hx)
  simp only[decI]at h
  rw[if_neg (by omega)]at h
  split at h
  ·cases h
  rename_i hbad
  split at h
  ·rename_i hlt;cases h
   refine⟨c.toNat,r,rfl,by omega,?_,?_,?_⟩
   ·by_cases h9:i=9
    ·subst h9
     have:(128:Nat) ^ 9=9223372036854775808:=by decide
     have:c.toNat≤1:=by omega
     calc c.toNat*128 ^ 9≤1*128 ^ 9:=Nat.mul_le_mul_right _ this
      _ < _:=by decide
    ·have h1:c.toNat*128 ^ i≤127*128 ^ i:=Nat.mul_le_mul_right _ (by omega)
     have h2:127*128 ^ i < 18446744073709551616:=by
      rcases p9 hi with rfl|rfl|rfl|rfl|rfl|rfl|rfl|rfl|rfl|rfl<;>first|decide|omega
     omega
   ·rw[num_small (by omega)];simp;omega
   ·rw[num_small (by omega)];simp
  ·rename_i hge
   have h8:i≤8:=by
    apply Classical.byContradiction
    intro hn
    have:i=9:=by omega
    subst this
    cases r with
    |nil=>simp[decI]at h
    |cons a r=>simp[decI]at h
   obtain⟨m,r',h1,h2,h3,h4,h5⟩:=num_dec r (i+1) _ n k hr (by omega) h
   have hm:0 < m:=h2 (by omega)
   have hp:128 ^ (i+1)=128 ^ i*128:=Nat.pow_succ ..
   have hpos:=(pow_le9 hi).1
   have e1:(c.toNat-128+128*m)*128 ^ i=(c.toNat-128)*128 ^ i+m*128 ^ (i+1):=by
    rw[Nat.add_mul,hp,Nat.mul_comm 128 m,Nat.mul_assoc,Nat.mul_comm 128 (128 ^ i)]
   refine⟨c.toNat-128+128*m,r',by rw[e1,h1];omega,fun _=>by omega,?_,?_,?_⟩
   ·rw[e1]
    have h6:=lt_mul64 h8 h3
    have h7:(c.toNat-128)*128 ^ i < 128 ^ (i+1):=by
     rw[hp,Nat.mul_comm (128 ^ i)]
     exact Nat.mul_lt_mul_of_pos_right (by omega) hpos
    omega
   ·rw[num_big (by omega),h4,show (c.toNat-128+128*m) / 128=m by omega]
    simp only[List.cons_append,List.cons.injEq,and_true]
    omega
   ·rw[num_big (by omega),show (c.toNat-128+128*m) / 128=m by omega,List.length_cons]
    omega
def decN (b:List Int):Option (Nat×Nat):=decI 0 0 b
theorem decN_num {n:Nat} (hn:n < 18446744073709551616) (r:List Int):decN (num n++r)=some (n,(num n).length):=by
 have:=dec_num n 0 0 r (by omega) (by simpa using hn) (by omega)
 simpa [decN]using this
theorem decN_spec {b:List Int} {n k:Nat} (hb:Byt b) (h:decN b=some (n,k)):n < 18446744073709551616∧k=(num n).length∧b=num n++b.drop k∧k≤b.length:=by
 obtain⟨m,r,h1,h2,h3,h4,h5⟩:=num_dec b 0 0 n k hb (by omega) h
 simp at h1 h3 h5;subst h1
 refine⟨h3,h5,?_,?_⟩
 ·rw[h5,h4,List.drop_left]
 ·rw[h5,h4];simp
theorem num_pos (n:Nat):0 < (num n).length:=by
 rw[num];split<;>simp
abbrev Rd:=List Int×Bool
def Rd.v (s:Rd):V:= .agg [.sli .u8 s.1,.bool s.2]
def rdNum (s:Rd):Nat×Rd:=if s.2=true then (0,s)else match decN s.1 with
 |none=>(0,(s.1,true))
 |some (n,k)=>(n,(s.1.drop k,false))
def rdUpto (top:Int) (s:Rd):Int×Rd:=if s.2=true then (0,s)else match decN s.1 with
 |none=>(0,(s.1,true))
 |some (n,k)=>if top < 0∨top < (n:Int)then (0,(s.1,true))else ((n:Int),(s.1.drop k,false))
def rdHash (s:Rd):List Int×Rd:=if s.2=true then (zero32,s)else if s.1.length < 32 then (zero32,(s.1,true))else (s.1.take 32,(s.1.drop 32,false))
structure Rd.Ok (s:Rd):Prop where
 byt:Byt s.1
theorem rdUpto_ok {top:Int} {s:Rd} (h:Byt s.1):Byt (rdUpto top s).2.1∧(rdUpto top s).2.1.length≤s.1.length∧0≤(rdUpto top s).1∧(0≤top→(rdUpto top s).1≤top):=by
 unfold rdUpto
 split
 ·exact⟨h,Nat.le_refl _,Int.le_refl _,fun h=>h⟩
 ·split
  ·exact⟨h,Nat.le_refl _,Int.le_refl _,fun h=>h⟩
  ·split
   ·exact⟨h,Nat.le_refl _,Int.le_refl _,fun h=>h⟩
   ·exact⟨byt_drop h _,by simp,by simp,fun _=>by simp only;omega⟩
theorem rdHash_ok {s:Rd} (h:Byt s.1):Byt (rdHash s).2.1∧(rdHash s).2.1.length≤s.1.length∧H32 (rdHash s).1:=by
 unfold rdHash
 split
 ·exact⟨h,Nat.le_refl _,h32_zero⟩
 ·split
  ·exact⟨h,Nat.le_refl _,h32_zero⟩
  ·exact⟨byt_drop h _,by simp,byt_take h _,by simp;omega⟩
theorem rdUpto_right {top:Int} {s:Rd} (hb:Byt s.1) (h:(rdUpto top s).2.2=false):s.2=false∧s.1=num (rdUpto top s).1.toNat++(rdUpto top s).2.1∧0≤(rdUpto top s).1∧(rdUpto top s).1≤top∧(rdUpto top s).1 < 18446744073709551616:=by
 unfold rdUpto at h⊢
 split at h
 ·rename_i hw;simp[hw]at h
 ·rename_i hw
  rw[if_neg hw]
  split at h
  ·cases h
  ·rename_i n k hd
   split at h
   ·cases h
   ·rename_i ht
    obtain⟨h1,h2,h3,h4⟩:=decN_spec hb hd
    rw[if_neg ht]
    exact⟨by simpa using hw,by simpa using h3,by simp,by simp only;omega,by simp only;omega⟩
theorem rdHash_right {s:Rd} (h:(rdHash s).2.2=false):s.2=false∧s.1=(rdHash s).1++(rdHash s).2.1∧(rdHash s).1.length=32:=by
 unfold rdHash at h⊢
 split at h
 ·rename_i hw;simp[hw]at h
 ·rename_i hw
  rw[if_neg hw]
  split at h
  ·cases h
  ·rename_i hl
   rw[if_neg hl]
   exact⟨by simpa using hw,by simp,by simp;omega⟩
theorem rdUpto_of {top:Int} {n:Nat} {r:List Int} (h1:(n:Int)≤top) (h2:n < 18446744073709551616):rdUpto top (num n++r,false)=((n:Int),(r,false)):=by
 unfold rdUpto
 simp only[Bool.false_eq_true,if_false,decN_num h2,List.drop_left]
 rw[if_neg (by omega)]
theorem rdHash_of {h r:List Int} (hl:h.length=32):rdHash (h++r,false)=(h,(r,false)):=by
 unfold rdHash
 simp only[Bool.false_eq_true,if_false,List.length_append,hl]
 rw[if_neg (by omega),←hl,List.take_left,List.drop_left]
end Go.Abs.Sha
namespace Go.Abs
namespace Sha
open Go
theorem and127 {c:Int} (h:0≤c∧c≤255):bAnd .u8 c 127=((c.toNat % 128:Nat):Int):=by
 have hd:∀k:Fin 256,bAnd .u8 (k.val:Int) 127=((k.val % 128:Nat):Int):=by decide+kernel
 have:=hd ⟨c.toNat,by omega⟩
 simp only at this
 rw[show ((c.toNat:Nat):Int)=c by omega]at this
 exact this
theorem pow128 (i:Nat):(2:Nat) ^ (7*i)=128 ^ i:=by rw[Nat.pow_mul]
theorem or7 {acc i d:Nat} (hi:i≤9) (ha:acc < 128 ^ i) (hd:d < 128) (h9:i=9→d≤1):
  bOr .u64 (acc:Int) (IntKind.u64.wrap ((d:Int)*2 ^ (min (7*i) 64)))=((acc+d*128 ^ i:Nat):Int):=by
 have e0:min (7*i) 64=7*i:=by omega
 have hP:=pow_le9 hi
 have hlt:d*128 ^ i < 18446744073709551616:=by
  by_cases h:i=9
  ·subst h
   have:(128:Nat) ^ 9=9223372036854775808:=by decide
   have:=h9 rfl;omega
  ·have h1:d*128 ^ i≤127*128 ^ i:=Nat.mul_le_mul_right _ (by omega)
   have h2:127*128 ^ i < 18446744073709551616:=by
    rcases p9 hi with rfl|rfl|rfl|rfl|rfl|rfl|rfl|rfl|rfl|rfl<;>first|exact absurd rfl h|decide
   omega
 have e1:((d:Int)*2 ^ (7*i))=((d*128 ^ i:Nat):Int):=by
  rw[←pow128];simp
 have w:∀n:Nat,n < 18446744073709551616→IntKind.u64.wrap (n:Int)=n:=fun n hn=>by
  simp only[IntKind.wrap,IntKind.bits,IntKind.signed];simp;omega
 rw[e0,e1,w _ hlt]
 show IntKind.u64.wrap ((BitVec.ofInt 64 (acc:Int)|||BitVec.ofInt 64 ((d*128 ^ i:Nat):Int)).toNat)=_
 have hacc:acc < 18446744073709551616:=by omega
 have e2:acc |||d*128 ^ i=acc+d*128 ^ i:=by
  rw[Nat.or_comm,←pow128,←Nat.shiftLeft_eq,←Nat.shiftLeft_add_eq_or_of_lt (by rw[pow128];exact ha),Nat.add_comm]
 have hsum:acc+d*128 ^ i < 18446744073709551616:=by
  by_cases h:i=9
  ·subst h
   have:(128:Nat) ^ 9=9223372036854775808:=by decide
   have:=h9 rfl;omega
  ·have h1:d*128 ^ i≤127*128 ^ i:=Nat.mul_le_mul_right _ (by omega)
   have h2:128*128 ^ i≤9223372036854775808:=by
    rcases p9 hi with rfl|rfl|rfl|rfl|rfl|rfl|rfl|rfl|rfl|rfl<;>first|exact absurd rfl h|decide
   omega
 rw[BitVec.toNat_or,BitVec.ofInt_natCast,BitVec.ofInt_natCast,BitVec.toNat_ofNat,BitVec.toNat_ofNat,Nat.mod_eq_of_lt hacc,Nat.mod_eq_of_lt hlt,e2,w _ hsum]
theorem w64u {n:Nat} (hn:n < 18446744073709551616):IntKind.u64.wrap (n:Int)=n:=by
 simp only[IntKind.wrap,IntKind.bits,IntKind.signed];simp;omega
theorem drop_cons {b:List Int} {i:Nat} (h:i < b.length):b.drop i=b.getD i 0::b.drop (i+1):=by
 rw[List.drop_eq_getElem_cons h];simp[h]
end Sha
end Go.Abs
namespace Go.Abs.Sha
open Go
set_option linter.unusedVariables false
theorem num_inj:∀{a b:Nat},num a=num b→a=b:=by
 intro a
 induction a using Nat.strongRecOn with
 |_ a ih=>
  intro b h
  by_cases ha:a < 128
  ·by_cases hb:b < 128
   ·rw[num_small ha,num_small hb]at h
    have:=(List.cons.inj h).1;omega
   ·rw[num_small ha,num_big hb]at h
    have:=congrArg List.length h
    have h2:=num_pos (b / 128)
    simp at this;simp[this]at h2
  ·by_cases hb:b < 128
   ·rw[num_big ha,num_small hb]at h
    have:=congrArg List.length h
    have h2:=num_pos (a / 128)
    simp at this;simp[this]at h2
   ·rw[num_big ha,num_big hb]at h
    obtain⟨h1,h2⟩:=List.cons.inj h
    have:=ih (a / 128) (by omega) h2
    omega
theorem num_last:∀{n:Nat} {l:List Int},num n=l++[0]→l=[]:=by
 intro n
 induction n using Nat.strongRecOn with
 |_ n ih=>
  intro l h
  by_cases hn:n < 128
  ·rw[num_small hn]at h
   cases l with
   |nil=>rfl
   |cons a l=>have:=congrArg List.length h;simp at this
  ·rw[num_big hn]at h
   cases l with
   |nil=>have:=congrArg List.length h;have h2:=num_pos (n / 128);simp at this;simp[this]at h2
   |cons a l=>
    simp only[List.cons_append,List.cons.injEq]at h
    have hl:=ih (n / 128) (by omega) h.2
    subst hl
    have h3:=h.2
    simp only[List.nil_append]at h3
    by_cases h4:n / 128 < 128
    ·rw[num_small h4]at h3
     have:=(List.cons.inj h3).1;omega
    ·rw[num_big h4]at h3
     have:=congrArg List.length h3;have h2:=num_pos (n / 128 / 128);simp at this;simp[this]at h2
theorem set_step {a z:List Int} {i:Nat} (hi:i < z.length) (hia:i < a.length):(a.take i++z.drop i).set i (a.getD i 0)=a.take (i+1)++z.drop (i+1):=by
 rw[List.set_append_right _ _ (by rw[List.length_take];omega),drop_cons hi]
 have e:i-(a.take i).length=0:=by rw[List.length_take];omega
 rw[e,List.set_cons_zero,List.take_add_one,List.append_assoc]
 congr 1
 simp[hia]
theorem rdUpto_suf {top:Int} {s:Rd} (hb:Byt s.1):∃u,s.1=u++(rdUpto top s).2.1:=by
 unfold rdUpto
 split
 ·exact⟨[],rfl⟩
 ·split
  ·exact⟨[],rfl⟩
  ·split
   ·exact⟨[],rfl⟩
   ·exact⟨s.1.take _,(List.take_append_drop ..).symm⟩
theorem rdHash_suf {s:Rd}:∃u,s.1=u++(rdHash s).2.1:=by
 unfold rdHash
 split
 ·exact⟨[],rfl⟩
 ·split
  ·exact⟨[],rfl⟩
  ·exact⟨s.1.take _,(List.take_append_drop ..).symm⟩
def rrV (B:List Int) (s:Rd):V:= .agg [.sli .u8 B,.int .i64 ((B.length:Int)-s.1.length),.bool s.2]
end Go.Abs.Sha
namespace Go.Abs.Sha
open Go
set_option linter.unusedVariables false
theorem rdUpto_all {top n:Int} {b r:List Int} {w w':Bool} (e:rdUpto top (b,w)=(n,r,w')) (hb:Byt b) (ht:0≤top):
  Byt r∧r.length≤b.length∧0≤n∧n≤top∧(∃u,b=u++r)∧(w'=false→w=false∧b=num n.toNat++r):=by
 have h1:=rdUpto_ok (top:=top) (s:=(b,w)) hb
 have h2:=rdUpto_suf (top:=top) (s:=(b,w)) hb
 have h3:=rdUpto_right (top:=top) (s:=(b,w)) hb
 rw[e]at h1 h2 h3
 exact⟨h1.1,h1.2.1,h1.2.2.1,h1.2.2.2 ht,h2,fun hw=>⟨(h3 hw).1,(h3 hw).2.1⟩⟩
theorem rdHash_all {hh:List Int} {b r:List Int} {w w':Bool} (e:rdHash (b,w)=(hh,r,w')) (hb:Byt b):
  Byt r∧r.length≤b.length∧H32 hh∧(∃u,b=u++r)∧(w'=false→w=false∧b=hh++r):=by
 have h1:=rdHash_ok (s:=(b,w)) hb
 have h2:=rdHash_suf (s:=(b,w))
 have h3:=rdHash_right (s:=(b,w))
 rw[e]at h1 h2 h3
 exact⟨h1.1,h1.2.1,h1.2.2,h2,fun hw=>⟨(h3 hw).1,(h3 hw).2.1⟩⟩
theorem i64_of {n:Int} (h:0≤n) (h2:n≤1099511627776):I64 n:=⟨by omega,by omega⟩
structure RdAtt (b:List Int) (w:Bool) (a:AttS) (r:List Int) (w':Bool):Prop where
 wf:a.wf
 byt:Byt r
 len:r.length≤b.length
 suf:∃u,b=u++r
 right:w'=false→w=false∧b=num a.who.toNat++a.said++a.ta++r
def AttS.bytes (a:AttS):List Int:=num a.who.toNat++a.said++a.ta
structure SealS where
 vi:Int
 ph:Int
 pv:Int
 pa:List Int
def SealS.v (s:SealS):V:= .agg [.int .i64 s.vi,.int .i64 s.ph,.int .i64 s.pv,.arr .u8 32 s.pa]
structure SealS.wf (s:SealS):Prop where
 vi:I64 s.vi
 ph:I64 s.ph
 pv:I64 s.pv
 pa:H32 s.pa
def SealS.zero:SealS:=⟨0,0,0,zero32⟩
theorem SealS.zero_wf:SealS.zero.wf:=⟨by decide,by decide,by decide,h32_zero⟩
def SealS.May (s:SealS):Prop:=(s.vi=0∧s.ph=0∧s.pv=0∧s.pa=zero32)∨((1≤s.vi∧s.vi≤1099511627776)∧(1≤s.ph∧s.ph≤3)∧0≤s.pv∧(s.pv < s.vi∨s.pv=s.vi∧s.ph=3))
instance (s:SealS):Decidable s.May:=by unfold SealS.May;infer_instance
def SealS.may (s:SealS):Bool:=decide s.May
def SealS.said (ve:Int) (s:SealS):List Int:=num ve.toNat++num s.vi.toNat++num s.ph.toNat++num s.pv.toNat++s.pa
theorem SealS.bounds {s:SealS} (h:s.May):(0≤s.vi∧s.vi≤1099511627776)∧(0≤s.ph∧s.ph≤3)∧0≤s.pv∧s.pv≤1099511627776:=by
 rcases h with⟨h1,h2,h3,_⟩|⟨h1,h2,h3,h4⟩<;>omega
theorem SealS.said_ok {s:SealS} {ve:Int} (hw:s.wf) (hm:s.May) (hv:0≤ve∧ve≤1099511627776):Byt (s.said ve)∧(s.said ve).length≤72:=by
 obtain⟨h1,h2,h3⟩:=SealS.bounds hm
 obtain⟨a1,a2⟩:=num_ok (n:=ve.toNat) (by omega)
 obtain⟨b1,b2⟩:=num_ok (n:=s.vi.toNat) (by omega)
 obtain⟨c1,c2⟩:=num_ok (n:=s.ph.toNat) (by omega)
 obtain⟨d1,d2⟩:=num_ok (n:=s.pv.toNat) (by omega)
 refine⟨byt_app (byt_app (byt_app (byt_app a1 b1) c1) d1) hw.pa.1,?_⟩
 have:=hw.pa.2
 simp only[SealS.said,List.length_append];omega
structure RdBlob (b:List Int) (w:Bool) (ve:Int) (s:SealS) (ta r:List Int) (w':Bool):Prop where
 wf:s.wf
 vr:0≤ve∧ve≤1099511627776
 tg:H32 ta
 byt:Byt r
 len:r.length≤b.length
 suf:∃u,b=u++r
 right:w'=false→w=false∧b=s.said ve++ta++r
end Go.Abs.Sha
