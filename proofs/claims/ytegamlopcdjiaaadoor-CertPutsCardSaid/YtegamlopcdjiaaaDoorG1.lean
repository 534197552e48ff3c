/- Laws over plain values, and what functions of the program hand back; no conditions. -/
import Derived.Test.YtegamlopcdjiaaaDoorPlain6
namespace Go.Abs.Srt
open Go Go.Abs
set_option linter.unusedVariables false
set_option linter.unusedSimpArgs false
section
variable {α:Type} (key:α→Int)
def Up (l:List α):Prop:=l.Pairwise fun a b=>key a≤key b
def at_ (k:Int) (l:List α):List α:=l.filter fun x=>decide (key x=k)
def ins (x:α):List α→List α
 |[]=>[x]
 |y::l=>if key x < key y then x::y::l else y::ins x l
def srt (l:List α):List α:=l.foldl (fun s x=>ins key x s) []
variable {key}
theorem mem_at {k:Int} {l:List α} {x:α}:x∈at_ key k l↔x∈l∧key x=k:=by simp[at_]
theorem at_append {k:Int} {l m:List α}:at_ key k (l++m)=at_ key k l++at_ key k m:=by simp[at_]
theorem at_cons {k:Int} {x:α} {l:List α}:at_ key k (x::l)=if key x=k then x::at_ key k l else at_ key k l:=by
 simp only[at_,List.filter_cons,decide_eq_true_eq]
theorem at_nil {k:Int}:at_ key k ([]:List α)=[]:=rfl
theorem mem_ins {x y:α}:∀{l:List α},y∈ins key x l↔y=x∨y∈l
 |[]=>by simp[ins]
 |z::l=>by
  simp only[ins];split
  ·simp
  ·simp only[List.mem_cons,mem_ins]
   constructor
   ·rintro (h|h|h)<;>simp[h]
   ·rintro (h|h|h)<;>simp[h]
theorem up_ins {x:α}:∀{l:List α},Up key l→Up key (ins key x l)
 |[],_=>by simp[ins,Up]
 |z::l,h=>by
  have h1:=List.pairwise_cons.1 h
  simp only[ins];split
  ·rename_i hlt
   refine List.pairwise_cons.2 ⟨fun y hy=> ?_,h⟩
   rcases List.mem_cons.1 hy with rfl|hy
   ·omega
   ·have:=h1.1 y hy;omega
  ·rename_i hlt
   refine List.pairwise_cons.2 ⟨fun y hy=> ?_,up_ins h1.2⟩
   rcases mem_ins.1 hy with rfl|hy
   ·omega
   ·exact h1.1 y hy
theorem at_ins {x:α} {k:Int}:∀{l:List α},Up key l→at_ key k (ins key x l)=at_ key k l++at_ key k [x]
 |[],_=>by simp[ins,at_nil]
 |z::l,h=>by
  have h1:=List.pairwise_cons.1 h
  simp only[ins];split
  ·rename_i hlt
   have e:key x=k→at_ key k (z::l)=[]:=by
    intro hk
    apply List.eq_nil_iff_forall_not_mem.2
    intro y hy
    obtain⟨h2,h3⟩:=mem_at.1 hy
    rcases List.mem_cons.1 h2 with rfl|h2
    ·omega
    ·have:=h1.1 y h2;omega
   by_cases hk:key x=k
   ·rw[at_cons,if_pos hk,e hk,at_cons,if_pos hk];rfl
   ·rw[at_cons,if_neg hk,at_cons (x:=x),if_neg hk,at_nil,List.append_nil]
  ·rw[at_cons,at_ins h1.2,at_cons (x:=z)]
   split<;>rfl
theorem up_foldl:∀{l s:List α},Up key s→Up key (l.foldl (fun s x=>ins key x s) s)
 |[],s,h=>h
 |x::l,s,h=>up_foldl (l:=l) (up_ins h)
theorem up_srt (l:List α):Up key (srt key l):=up_foldl (by simp[Up])
theorem at_foldl {k:Int}:∀{l s:List α},Up key s→at_ key k (l.foldl (fun s x=>ins key x s) s)=at_ key k s++at_ key k l
 |[],s,h=>by simp[at_nil]
 |x::l,s,h=>by
  simp only[List.foldl_cons]
  rw[at_foldl (up_ins h),at_ins h,List.append_assoc]
  congr 1
  simp only[at_cons (x:=x) (l:=l),at_cons (x:=x) (l:=[]),at_nil]
  split<;>rfl
theorem at_srt {k:Int} (l:List α):at_ key k (srt key l)=at_ key k l:=by
 unfold srt;rw[at_foldl (by simp[Up])];rfl
theorem up_unique:∀{s t:List α},Up key s→Up key t→(∀k,at_ key k s=at_ key k t)→s=t
 |[],[],_,_,_=>rfl
 |[],y::t,_,_,h=>by
  have:=h (key y);rw[at_cons,if_pos rfl]at this;cases this
 |x::s,[],_,_,h=>by
  have:=h (key x);rw[at_cons,if_pos rfl]at this;cases this
 |x::s,y::t,hs,ht,h=>by
  have hs1:=List.pairwise_cons.1 hs
  have ht1:=List.pairwise_cons.1 ht
  have k1:key x≤key y:=by
   have:y∈at_ key (key y) (x::s):=by rw[h,at_cons,if_pos rfl];exact List.mem_cons_self ..
   rcases List.mem_cons.1 (mem_at.1 this).1 with e|e
   ·rw[e];exact Int.le_refl _
   ·exact hs1.1 y e
  have k2:key y≤key x:=by
   have:x∈at_ key (key x) (y::t):=by rw[←h,at_cons,if_pos rfl];exact List.mem_cons_self ..
   rcases List.mem_cons.1 (mem_at.1 this).1 with e|e
   ·rw[e];exact Int.le_refl _
   ·exact ht1.1 x e
  have k3:key x=key y:=by omega
  have h0:=h (key x)
  rw[at_cons,if_pos rfl,at_cons,if_pos k3.symm]at h0
  injection h0 with e1 e2
  subst e1
  rw[up_unique hs1.2 ht1.2 fun k=> ?_]
  have:=h k
  rw[at_cons,at_cons]at this
  split at this
  ·injection this
  ·exact this
theorem srt_of {s l:List α} (hs:Up key s) (h:∀k,at_ key k s=at_ key k l):s=srt key l:=up_unique hs (up_srt l) fun k=>by rw[h,at_srt]
theorem srt_up {l:List α} (h:Up key l):srt key l=l:=(srt_of h fun _=>rfl).symm
theorem srt_congr {l m:List α} (h:∀k,at_ key k l=at_ key k m):srt key l=srt key m:=srt_of (up_srt l) fun k=>by rw[at_srt,h]
theorem srt_srt {l m:List α}:srt key (srt key l++srt key m)=srt key (l++m):=srt_congr fun k=>by rw[at_append,at_srt,at_srt,at_append]
theorem mem_srt {l:List α} {x:α}:x∈srt key l↔x∈l:=by
 constructor
 ·intro h
  have:x∈at_ key (key x) (srt key l):=mem_at.2 ⟨h,rfl⟩
  rw[at_srt]at this;exact (mem_at.1 this).1
 ·intro h
  have:x∈at_ key (key x) l:=mem_at.2 ⟨h,rfl⟩
  rw[←at_srt]at this;exact (mem_at.1 this).1
theorem ins_length {x:α}:∀{l:List α},(ins key x l).length=l.length+1
 |[]=>rfl
 |z::l=>by
  simp only[ins];split
  ·rfl
  ·simp[ins_length]
theorem foldl_length:∀{l s:List α},(l.foldl (fun s x=>ins key x s) s).length=s.length+l.length
 |[],s=>rfl
 |x::l,s=>by simp only[List.foldl_cons,foldl_length,ins_length,List.length_cons];omega
theorem srt_length (l:List α):(srt key l).length=l.length:=by unfold srt;rw[foldl_length];simp
theorem up_append {a b:List α} (ha:Up key a) (hb:Up key b) (h:∀x∈a,∀y∈b,key x≤key y):Up key (a++b):=List.pairwise_append.2 ⟨ha,hb,h⟩
theorem srt_put {l A B:List α} {x:α} (h:A++B=srt key l) (hA:∀y∈A,key y≤key x) (hB:∀y∈B,key x < key y):A++x::B=srt key (l++[x]):=by
 have hu:=up_srt (key:=key) l
 rw[←h]at hu
 have hp:=List.pairwise_append.1 hu
 refine srt_of ?_ fun k=> ?_
 ·refine up_append hp.1 (List.pairwise_cons.2 ⟨fun y hy=>Int.le_of_lt (hB y hy),hp.2.1⟩) fun a ha b hb=> ?_
  rcases List.mem_cons.1 hb with rfl|hb
  ·exact hA a ha
  ·exact hp.2.2 a ha b hb
 ·have e1:at_ key k (A++B)=at_ key k l:=by rw[h,at_srt]
  rw[at_append]at e1
  rw[at_append,at_append,←e1,at_cons,at_cons,at_nil]
  split
  ·rename_i hk
   have:at_ key k B=[]:=by
    apply List.eq_nil_iff_forall_not_mem.2
    intro y hy
    obtain⟨h2,h3⟩:=mem_at.1 hy
    have:=hB y h2;omega
   rw[this,List.append_nil]
  ·rw[List.append_nil]
theorem srt_split {A1 A2 B1 B2:List α} (hA:Up key (A1++A2)) (hB:Up key (B1++B2)) (h1:∀a∈A1,∀b∈B2,key a≤key b) (h2:∀b∈B1,∀a∈A2,key b < key a):
  srt key (A1++B1)++srt key (A2++B2)=srt key ((A1++A2)++(B1++B2)):=by
 have pA:=List.pairwise_append.1 hA
 have pB:=List.pairwise_append.1 hB
 refine srt_of (up_append (up_srt _) (up_srt _) fun x hx y hy=> ?_) fun k=> ?_
 ·rw[mem_srt,List.mem_append]at hx hy
  rcases hx with hx|hx<;>rcases hy with hy|hy
  ·exact pA.2.2 x hx y hy
  ·exact h1 x hx y hy
  ·exact Int.le_of_lt (h2 x hx y hy)
  ·exact pB.2.2 x hx y hy
 ·rw[at_append,at_srt,at_srt]
  simp only[at_append]
  have:at_ key k B1++at_ key k A2=at_ key k A2++at_ key k B1:=by
   cases e1:at_ key k B1 with
   |nil=>simp
   |cons b r=>
    cases e2:at_ key k A2 with
    |nil=>simp
    |cons a s=>
     exfalso
     have hb:=mem_at.1 (show b∈at_ key k B1 by rw[e1];exact List.mem_cons_self ..)
     have ha:=mem_at.1 (show a∈at_ key k A2 by rw[e2];exact List.mem_cons_self ..)
     have:=h2 b hb.1 a ha.1
     omega
  simp only[List.append_assoc]
  rw[←List.append_assoc (at_ key k B1),this,List.append_assoc]
/-! ### runs -/
def cpF (key:α→Int):Int→List α→List α
 |_,[]=>[]
 |k,y::l=>if key y=k then cpF key (key y) l else y::cpF key (key y) l
def cpt (key:α→Int):List α→List α
 |[]=>[]
 |x::l=>x::cpF key (key x) l
theorem cpF_length:∀{l:List α} {k:Int},(cpF key k l).length≤l.length
 |[],_=>Nat.le_refl _
 |y::l,k=>by
  simp only[cpF];split
  ·exact Nat.le_succ_of_le cpF_length
  ·exact Nat.succ_le_succ cpF_length
theorem cpt_length:∀{l:List α},(cpt key l).length≤l.length
 |[]=>Nat.le_refl _
 |x::l=>Nat.succ_le_succ cpF_length
theorem cpF_append:∀{l m:List α} {k:Int},cpF key k (l++m)=cpF key k l++cpF key ((l.getLast?.map key).getD k) m
 |[],m,k=>rfl
 |y::l,m,k=>by
  have e:((y::l).getLast?.map key).getD k=(l.getLast?.map key).getD (key y):=by
   cases l with
   |nil=>rfl
   |cons z l=>simp[List.getLast?_cons_cons];rw[List.getLast?_eq_some_getLast (by simp)];rfl
  simp only[List.cons_append,cpF,e]
  rw[cpF_append]
  split<;>rfl
theorem cpF_mem:∀{l:List α} {k:Int},(∀y∈l,k≤key y)→Up key l→∀x,x∈cpF key k l↔(key x≠k∧(at_ key (key x) l).head? =some x)
 |[],k,_,_,x=>by simp[cpF,at_nil]
 |y::l,k,hk,hu,x=>by
  have h1:=List.pairwise_cons.1 hu
  have ih:=cpF_mem (l:=l) (k:=key y) h1.1 h1.2 x
  have hky:=hk y (List.mem_cons_self ..)
  simp only[cpF];split
  ·rename_i e
   rw[ih,at_cons]
   by_cases hx:key y=key x
   ·rw[if_pos hx];constructor
    ·rintro⟨h,_⟩;exact absurd hx.symm h
    ·rintro⟨h,_⟩;exact absurd (hx.symm.trans e) h
   ·rw[if_neg hx,←e]
  ·rename_i e
   rw[List.mem_cons,ih,at_cons]
   by_cases hx:key y=key x
   ·rw[if_pos hx]
    simp only[List.head?_cons,Option.some.injEq]
    constructor
    ·rintro (rfl|⟨h,_⟩)
     ·exact⟨e,rfl⟩
     ·exact absurd hx.symm h
    ·rintro⟨_,rfl⟩;exact .inl rfl
   ·rw[if_neg hx]
    constructor
    ·rintro (rfl|⟨h,h2⟩)
     ·exact absurd rfl hx
     ·refine⟨fun hk2=> ?_,h2⟩
      have hm:x∈at_ key (key x) l:=List.mem_of_head? h2
      have:=h1.1 x (mem_at.1 hm).1
      omega
    ·rintro⟨_,h2⟩;exact .inr ⟨fun h=>hx h.symm,h2⟩
theorem cpt_mem {l:List α} (hu:Up key l) (x:α):x∈cpt key l↔(at_ key (key x) l).head? =some x:=by
 cases l with
 |nil=>simp[cpt,at_nil]
 |cons y l=>
  have h1:=List.pairwise_cons.1 hu
  simp only[cpt,List.mem_cons,cpF_mem h1.1 h1.2,at_cons]
  by_cases hx:key y=key x
  ·rw[if_pos hx]
   simp only[List.head?_cons,Option.some.injEq]
   constructor
   ·rintro (rfl|⟨h,_⟩)
    ·rfl
    ·exact absurd hx.symm h
   ·intro h;exact .inl h.symm
  ·rw[if_neg hx]
   constructor
   ·rintro (rfl|⟨h,h2⟩)
    ·exact absurd rfl hx
    ·exact h2
   ·intro h2;exact .inr ⟨fun h=>hx h.symm,h2⟩
theorem cpF_strict:∀{l:List α} {k:Int},(∀y∈l,k≤key y)→Up key l→(cpF key k l).Pairwise (fun a b=>key a < key b)
 |[],k,_,_=>List.Pairwise.nil
 |y::l,k,hk,hu=>by
  have h1:=List.pairwise_cons.1 hu
  have ih:=cpF_strict (l:=l) (k:=key y) h1.1 h1.2
  simp only[cpF];split
  ·exact ih
  ·refine List.pairwise_cons.2 ⟨fun x hx=> ?_,ih⟩
   obtain⟨h2,h3⟩:=(cpF_mem h1.1 h1.2 x).1 hx
   have:=h1.1 x (mem_at.1 (List.mem_of_head? h3)).1
   omega
theorem cpt_strict {l:List α} (hu:Up key l):(cpt key l).Pairwise (fun a b=>key a < key b):=by
 cases l with
 |nil=>exact List.Pairwise.nil
 |cons y l=>
  have h1:=List.pairwise_cons.1 hu
  refine List.pairwise_cons.2 ⟨fun x hx=> ?_,cpF_strict h1.1 h1.2⟩
  obtain⟨h2,h3⟩:=(cpF_mem h1.1 h1.2 x).1 hx
  have:=h1.1 x (mem_at.1 (List.mem_of_head? h3)).1
  omega
theorem strict_unique:∀{s t:List α},s.Pairwise (fun a b=>key a < key b)→t.Pairwise (fun a b=>key a < key b)→(∀x,x∈s↔x∈t)→s=t:=by
 intro s t hs ht h
 refine up_unique (key:=key) (hs.imp Int.le_of_lt) (ht.imp Int.le_of_lt) fun k=> ?_
 have one:∀{s:List α},s.Pairwise (fun a b=>key a < key b)→at_ key k s=[]∨∃x,at_ key k s=[x]:=by
  intro s hs
  induction s with
  |nil=>exact .inl rfl
  |cons y s ih=>
   have h1:=List.pairwise_cons.1 hs
   rw[at_cons]
   split
   ·rename_i hk
    right
    refine⟨y,?_⟩
    have:at_ key k s=[]:=by
     apply List.eq_nil_iff_forall_not_mem.2
     intro z hz
     obtain⟨h2,h3⟩:=mem_at.1 hz
     have:=h1.1 z h2;omega
    rw[this]
   ·exact ih h1.2
 have hm:∀x,x∈at_ key k s↔x∈at_ key k t:=fun x=>by rw[mem_at,mem_at,h]
 rcases one hs with e1|⟨x,e1⟩<;>rcases one ht with e2|⟨y,e2⟩<;>rw[e1,e2]at hm<;>rw[e1,e2]
 ·simpa using hm y
 ·simpa using hm x
 ·have:=(hm x).1 (List.mem_singleton.2 rfl)
  rw[List.mem_singleton.1 this]
theorem cpt_srt {l:List α} {n:Nat} (hn:∀x∈l,1≤key x∧key x≤n):cpt key (srt key l)=(List.range' 1 n).filterMap fun (k:Nat)=>l.find? fun x=>decide (key x=(k:Int)):=by
 have hf:∀k:Int,l.find? (fun x=>decide (key x=k))=(at_ key k l).head? :=fun k=>by
  unfold at_;rw[List.head?_filter]
 refine strict_unique (key:=key) (cpt_strict (up_srt l)) ?_ fun x=> ?_
 ·rw[List.pairwise_filterMap]
  refine (List.pairwise_lt_range' (n:=n) (s:=1)).imp ?_
  intro a b hab x hx y hy
  rw[hf]at hx hy
  have h1:=(mem_at.1 (List.mem_of_head? hx)).2
  have h2:=(mem_at.1 (List.mem_of_head? hy)).2
  omega
 ·rw[cpt_mem (up_srt l),at_srt,List.mem_filterMap]
  constructor
  ·intro h
   have hm:=(mem_at.1 (List.mem_of_head? h)).1
   obtain⟨h1,h2⟩:=hn x hm
   refine⟨(key x).toNat,by rw[List.mem_range'_1];omega,?_⟩
   rw[hf,show (((key x).toNat:Nat):Int)=key x by omega];exact h
  ·rintro⟨k,_,h⟩
   rw[hf]at h
   have:=(mem_at.1 (List.mem_of_head? h)).2
   rw[this];exact h
end
end Go.Abs.Srt
namespace Go.Abs
open Go Go.Abs.Srt
set_option linter.unusedVariables false
set_option linter.unusedSimpArgs false
attribute [go_sem] oIdR oSlcR
structure RowOk (sz:Nat) (z:V) (L:List V):Prop where
 all:∀x∈L,x.size=sz∧x.isAgg=true∧x.same z=true
theorem RowOk.get {sz z L} (h:RowOk sz z L) {i:Nat} {x:V} (hx:L[i]? =some x):x.size=sz∧x.isAgg=true∧x.same z=true:=h.all x (List.mem_of_getElem? hx)
theorem RowOk.sizes {sz z L} (h:RowOk sz z L):∀x∈L,V.size x=sz:=fun x hx=>(h.all x hx).1
theorem RowOk.same {sz z L} (h:RowOk sz z L) {i j:Nat} {x y:V} (hx:L[i]? =some x) (hy:L[j]? =some y):x.same y=true:=V.same_trans' (h.get hx).2.2 (V.same_symm (h.get hy).2.2)
theorem RowOk.mem {sz z L M} (h:RowOk sz z L) (hm:∀x∈M,x∈L):RowOk sz z M:=⟨fun x hx=>h.all x (hm x hx)⟩
theorem RowOk.set {sz z L} (h:RowOk sz z L) {i j:Nat} {y:V} (hy:L[j]? =some y):RowOk sz z (L.set i y):=h.mem fun w hw=>by
 rcases List.mem_or_eq_of_mem_set hw with h|rfl
 ·exact h
 ·exact List.mem_of_getElem? hy
theorem RowOk.sameL {sz z}:∀{L M:List V},RowOk sz z L→RowOk sz z M→L.length=M.length→V.sameL L M=true
 |[],[],_,_,_=>rfl
 |[],_::_,_,_,h=>by simp at h
 |_::_,[],_,_,h=>by simp at h
 |x::L,y::M,h1,h2,h=>by
  simp only[V.sameL,Bool.and_eq_true]
  exact⟨V.same_trans' (h1.all x (List.mem_cons_self ..)).2.2 (V.same_symm (h2.all y (List.mem_cons_self ..)).2.2),RowOk.sameL (h1.mem fun z hz=>List.mem_cons_of_mem _ hz) (h2.mem fun z hz=>List.mem_cons_of_mem _ hz) (by simpa using h)⟩
def KeyFn (T:List (Nat×Spec1)) (f:Nat) (caps:List V) (P:V→Prop) (key:V→Int):Prop:=
 (∃s,look T f=some s)∧∀x y G (Q:R→List (Nat×V)→Prop),P x→P y→(∀r:Int,(r < 0↔key x < key y)→Q (.v (.int .i64 r)) G)→runO (look T f) ([x,y]++caps) G Q
def EqFn (T:List (Nat×Spec1)) (f:Nat) (caps:List V) (P:V→Prop) (key:V→Int):Prop:=
 (∃s,look T f=some s)∧∀x y G (Q:R→List (Nat×V)→Prop),P x→P y→Q (.v (.bool (decide (key x=key y)))) G→runO (look T f) ([x,y]++caps) G Q
def PredFn (T:List (Nat×Spec1)) (f:Nat) (caps:List V) (G:List (Nat×V)) (P:V→Prop) (p:V→Bool):Prop:=
 (∃s,look T f=some s)∧∀x (Q:R→List (Nat×V)→Prop),P x→Q (.v (.bool (p x))) G→runO (look T f) ([x]++caps) G Q
def Sub (T l:List (Nat×Spec1)):Prop:=∀f s,look T f=some s→look l f=some s
theorem Sub.run {T l:List (Nat×Spec1)} (h:Sub T l) {f:Nat} (hf:∃s,look T f=some s) {vs G Q} (hq:runO (look T f) vs G Q):runO (look l f) vs G Q:=by
 obtain⟨s,hs⟩:=hf
 rw[h f s hs];rw[hs]at hq;exact hq
theorem ok_of {T:List (Nat×Spec1)} {ok:Nat→Bool} (h:(T.all fun p=>ok p.1)=true) {f:Nat} (hf:∃s,look T f=some s):ok f=true:=by
 induction T with
 |nil=>obtain⟨s,hs⟩:=hf;cases hs
 |cons p T ih=>
  obtain⟨k,s0⟩:=p
  simp only[List.all_cons,Bool.and_eq_true]at h
  by_cases e:f=k
  ·rw[e];exact h.1
  ·refine ih h.2 ?_
   obtain⟨s,hs⟩:=hf
   rw[look_cons,if_neg e]at hs
   exact⟨s,hs⟩
theorem set_mid {A B:List V} {x y:V} {i:Nat} (h:i=A.length):(A++x::B).set i y=A++y::B:=by subst h;simp
theorem get_mid {A B:List V} {x:V} {i:Nat} (h:i=A.length):(A++x::B)[i]? =some x:=by subst h;simp
theorem get_mid2 {A B:List V} {x y:V} {i:Nat} (h:i=A.length+1):(A++y::x::B)[i]? =some x:=by
 subst h;rw[List.getElem?_append_right (by omega)];simp
theorem set_mid2 {A B:List V} {x y z:V} {i:Nat} (h:i=A.length+1):(A++y::x::B).set i z=A++y::z::B:=by
 subst h;rw[List.set_append_right _ _ (by omega)];simp
theorem swap_mid {A B:List V} {x y:V} {i j:Nat} (h1:i=A.length) (h2:j=A.length+1):((A++y::x::B).set j y).set i x=A++x::y::B:=by rw[set_mid2 h2,set_mid h1]
theorem up_last {key:V→Int} {A:List V} {y:V} {k:Int} (h:Up key (A++[y])) (hk:key y≤k):∀w∈A++[y],key w≤k:=by
 intro w hw
 rcases List.mem_append.1 hw with hw|hw
 ·exact Int.le_trans ((List.pairwise_append.1 h).2.2 w hw y (by simp)) hk
 ·rw[List.mem_singleton.1 hw];exact hk
theorem up_init {key:V→Int} {A B:List V} (h:Up key (A++B)):Up key A:=(List.pairwise_append.1 h).1
theorem concat_cases {α:Type} (l:List α):l=[]∨∃m x,l=m++[x]:=by
 rcases List.eq_nil_or_concat l with h|⟨m,x,h⟩
 ·exact .inl h
 ·exact .inr ⟨m,x,by rw[h];simp⟩
end Go.Abs
namespace Go.Abs.Sha
open Go Go.Abs
set_option linter.unusedVariables false
set_option linter.unusedSimpArgs false
attribute [go_sem] decide_eq_true_eq decide_eq_false_iff_not ge_iff_le gt_iff_lt Int.not_le Int.not_lt Bool.not_eq_true' Bool.not_eq_false' Bool.and_eq_true Bool.and_eq_false_iff
def Wd (x:Int):Prop:=0≤x∧x < 4294967296
theorem wrap32 (n:Int):IntKind.u32.wrap n=n % 4294967296:=by simp[IntKind.wrap,IntKind.bits,IntKind.signed]
def rot (x:Int) (n:Nat):Int:=x / 2 ^ n+x % 2 ^ n*2 ^ (32-n)
def shf (x:Int) (n:Nat):Int:=x / 2 ^ n
theorem or_rot {x:Int} (h:Wd x) {n:Nat} (h1:1≤n) (h2:n≤31):
  bOr .u32 (IntKind.u32.wrap (x*2 ^ (32-n))) (x.fdiv (2 ^ n))=rot x n:=by
 show IntKind.u32.wrap ((BitVec.ofInt 32 (IntKind.u32.wrap (x*2 ^ (32-n)))|||BitVec.ofInt 32 (x.fdiv (2 ^ n))).toNat)=rot x n
 unfold Wd at h
 obtain⟨X,rfl⟩:∃X:Nat,x=X:=⟨x.toNat,by omega⟩
 have hX:X < 4294967296:=by omega
 have hpq:2 ^ n*2 ^ (32-n)=4294967296:=by rw[←Nat.pow_add,show n+(32-n)=32 by omega]
 have hp:0 < 2 ^ n:=Nat.pow_pos (by decide)
 have hq:0 < 2 ^ (32-n):=Nat.pow_pos (by decide)
 have e1:IntKind.u32.wrap ((X:Int)*2 ^ (32-n))=((X % 2 ^ n*2 ^ (32-n):Nat):Int):=by
  rw[wrap32]
  have:((X:Int)*2 ^ (32-n))=((X*2 ^ (32-n):Nat):Int):=by simp
  rw[this,show (4294967296:Int)=((4294967296:Nat):Int)from rfl,←Int.natCast_emod,←hpq,Nat.mul_mod_mul_right]
 have e2:(X:Int).fdiv (2 ^ n)=((X / 2 ^ n:Nat):Int):=by
  rw[Int.fdiv_eq_ediv_of_nonneg _ (by have:(0:Int) < 2 ^ n:=Int.pow_pos (by decide);omega)]
  simp
 have b1:X % 2 ^ n*2 ^ (32-n) < 4294967296:=by
  rw[←hpq];exact Nat.mul_lt_mul_of_pos_right (Nat.mod_lt _ hp) hq
 have b2:X / 2 ^ n < 2 ^ (32-n):=by rw[Nat.div_lt_iff_lt_mul hp,Nat.mul_comm,hpq];exact hX
 have b3:X / 2 ^ n < 4294967296:=Nat.lt_of_le_of_lt (Nat.div_le_self _ _) hX
 have e3:(BitVec.ofInt 32 ((X % 2 ^ n*2 ^ (32-n):Nat):Int)|||BitVec.ofInt 32 ((X / 2 ^ n:Nat):Int)).toNat=X % 2 ^ n*2 ^ (32-n)+X / 2 ^ n:=by
  rw[BitVec.toNat_or,BitVec.ofInt_natCast,BitVec.ofInt_natCast,BitVec.toNat_ofNat,BitVec.toNat_ofNat,Nat.mod_eq_of_lt b1,Nat.mod_eq_of_lt b3,
   ←Nat.shiftLeft_eq,←Nat.shiftLeft_add_eq_or_of_lt b2]
 rw[e1,e2,e3,wrap32]
 have b4:X % 2 ^ n*2 ^ (32-n)+X / 2 ^ n < 4294967296:=by
  have:X % 2 ^ n+1≤2 ^ n:=Nat.mod_lt _ hp
  have:=Nat.mul_le_mul_right (2 ^ (32-n)) this
  rw[hpq,Nat.add_mul]at this
  omega
 rw[Int.emod_eq_of_lt (by omega) (by omega)]
 unfold rot
 push_cast
 omega
/-! bits of words -/
/-! ### the hash -/
def word4 (b:List Int) (i:Nat):Int:=b.getD (4*i) 0*16777216+b.getD (4*i+1) 0*65536+b.getD (4*i+2) 0*256+b.getD (4*i+3) 0
def sig0 (x:Int):Int:=bXor .u32 (bXor .u32 (rot x 7) (rot x 18)) (shf x 3)
def sig1 (x:Int):Int:=bXor .u32 (bXor .u32 (rot x 17) (rot x 19)) (shf x 10)
def nextW (w:List Int) (i:Nat):Int:=(w.getD (i-16) 0+sig0 (w.getD (i-15) 0)+w.getD (i-7) 0+sig1 (w.getD (i-2) 0)) % 4294967296
def sched (b:List Int):Nat→List Int
 |0=>List.replicate 64 0
 |i+1=>(sched b i).set i (if i < 16 then word4 b i else nextW (sched b i) i)
structure Regs where
 a:Int
 b:Int
 c:Int
 d:Int
 e:Int
 f:Int
 g:Int
 h:Int
def big0 (x:Int):Int:=bXor .u32 (bXor .u32 (rot x 2) (rot x 13)) (rot x 22)
def big1 (x:Int):Int:=bXor .u32 (bXor .u32 (rot x 6) (rot x 11)) (rot x 25)
def cho (e f g:Int):Int:=bXor .u32 (bAnd .u32 e f) (bAnd .u32 (bNot .u32 e) g)
def maj (a b c:Int):Int:=bXor .u32 (bXor .u32 (bAnd .u32 a b) (bAnd .u32 a c)) (bAnd .u32 b c)
def tee (s:Regs) (k w:Int):Int:=(s.h+big1 s.e+cho s.e s.f s.g+k+w) % 4294967296
def you (s:Regs):Int:=(big0 s.a+maj s.a s.b s.c) % 4294967296
def rnd (s:Regs) (k w:Int):Regs:=⟨(tee s k w+you s) % 4294967296,s.a,s.b,s.c,(s.d+tee s k w) % 4294967296,s.e,s.f,s.g⟩
def rnds (k w:List Int) (s:Regs):Nat→Regs
 |0=>s
 |i+1=>rnd (rnds k w s i) (k.getD i 0) (w.getD i 0)
def Regs.ok (s:Regs):Prop:=Wd s.a∧Wd s.b∧Wd s.c∧Wd s.d∧Wd s.e∧Wd s.f∧Wd s.g∧Wd s.h
theorem wd_mod (n:Int):Wd (n % 4294967296):=by unfold Wd;omega
theorem rnd_ok {s:Regs} (h:s.ok) (k w:Int):(rnd s k w).ok:=by
 obtain⟨h1,h2,h3,h4,h5,h6,h7,h8⟩:=h
 exact⟨wd_mod _,h1,h2,h3,wd_mod _,h5,h6,h7⟩
theorem rnds_ok {k w:List Int} {s:Regs} (h:s.ok):∀i,(rnds k w s i).ok
 |0=>h
 |i+1=>rnd_ok (rnds_ok h i) _ _
def ofL (s:List Int):Regs:=⟨s.getD 0 0,s.getD 1 0,s.getD 2 0,s.getD 3 0,s.getD 4 0,s.getD 5 0,s.getD 6 0,s.getD 7 0⟩
def block (k:List Int) (s b:List Int):List Int:=
 let r:=rnds k (sched b 64) (ofL s) 64
 [(s.getD 0 0+r.a) % 4294967296,(s.getD 1 0+r.b) % 4294967296,(s.getD 2 0+r.c) % 4294967296,(s.getD 3 0+r.d) % 4294967296,(s.getD 4 0+r.e) % 4294967296,(s.getD 5 0+r.f) % 4294967296,(s.getD 6 0+r.g) % 4294967296,(s.getD 7 0+r.h) % 4294967296]
theorem sched_len (b:List Int):∀i,(sched b i).length=64
 |0=>by simp[sched]
 |i+1=>by simp[sched,sched_len b i]
def Byt (b:List Int):Prop:=∀x∈b,0≤x∧x≤255
theorem byt_getD {b:List Int} (h:Byt b) (i:Nat):0≤b.getD i 0∧b.getD i 0≤255:=by
 rw[List.getD_eq_getElem?_getD]
 cases hi:b[i]? with
 |none=>simp
 |some x=>exact h x (List.mem_of_getElem? hi)
theorem word4_wd {b:List Int} (h:Byt b) (i:Nat):Wd (word4 b i):=by
 have h0:=byt_getD h (4*i);have h1:=byt_getD h (4*i+1);have h2:=byt_getD h (4*i+2);have h3:=byt_getD h (4*i+3)
 unfold Wd word4;omega
theorem sched_wd {b:List Int} (h:Byt b):∀i,∀x∈sched b i,Wd x
 |0,x,hx=>by simp[sched]at hx;subst hx;unfold Wd;omega
 |i+1,x,hx=>by
  rcases List.mem_or_eq_of_mem_set hx with hx|rfl
  ·exact sched_wd h i x hx
  ·split
   ·exact word4_wd h i
   ·exact wd_mod _
theorem wd_getD {w:List Int} (h:∀x∈w,Wd x) (i:Nat):Wd (w.getD i 0):=by
 rw[List.getD_eq_getElem?_getD]
 cases hi:w[i]? with
 |none=>unfold Wd;simp
 |some x=>exact h x (List.mem_of_getElem? hi)
theorem or_byte {x c:Int} (hx:0≤x∧x < 16777216) (hc:0≤c∧c≤255):bOr .u32 (IntKind.u32.wrap (x*256)) (IntKind.u32.wrap c)=x*256+c:=by
 obtain⟨X,rfl⟩:∃X:Nat,x=X:=⟨x.toNat,by omega⟩
 obtain⟨C,rfl⟩:∃C:Nat,c=C:=⟨c.toNat,by omega⟩
 have e1:IntKind.u32.wrap ((X:Int)*256)=((X*256:Nat):Int):=by rw[wrap32];omega
 have e2:IntKind.u32.wrap (C:Int)=(C:Int):=by rw[wrap32];omega
 show IntKind.u32.wrap ((BitVec.ofInt 32 (IntKind.u32.wrap ((X:Int)*256))|||BitVec.ofInt 32 (IntKind.u32.wrap (C:Int))).toNat)=_
 have e3:(BitVec.ofInt 32 ((X*256:Nat):Int)|||BitVec.ofInt 32 (C:Int)).toNat=X*256+C:=by
  rw[BitVec.toNat_or,BitVec.ofInt_natCast,BitVec.ofInt_natCast,BitVec.toNat_ofNat,BitVec.toNat_ofNat,Nat.mod_eq_of_lt (by omega),Nat.mod_eq_of_lt (by omega),
   show X*256=X*2 ^ 8 from rfl,←Nat.shiftLeft_eq,←Nat.shiftLeft_add_eq_or_of_lt (by omega)]
 rw[e1,e2,e3,wrap32];omega
theorem getD_set_self {w:List Int} {i:Nat} {a:Int} (h:i < w.length):(w.set i a).getD i 0=a:=by
 rw[List.getD_eq_getElem?_getD,List.getElem?_set_self h];rfl
theorem sched_get0 {b:List Int}:∀{i j:Nat},i≤j→(sched b i).getD j 0=0
 |0,j,_=>by
  rw[List.getD_eq_getElem?_getD]
  show ((List.replicate 64 0)[j]?).getD 0=0
  rw[List.getElem?_replicate];split<;>rfl
 |i+1,j,h=>by
  rw[List.getD_eq_getElem?_getD]
  show (((sched b i).set i _)[j]?).getD 0=0
  rw[List.getElem?_set_ne (by omega),←List.getD_eq_getElem?_getD];exact sched_get0 (by omega)
theorem fd_shf {x:Int} (h:Wd x) (n:Nat) (hn:n≤32):x.fdiv (2 ^ min n 32)=shf x n:=by
 rw[Nat.min_eq_left hn,Int.fdiv_eq_ediv_of_nonneg _ (by have:(0:Int) < 2 ^ n:=Int.pow_pos (by decide);omega)];rfl
theorem pw8:(2:Int) ^ min 8 32=256:=rfl
end Go.Abs.Sha
namespace Go.Abs.Sha
open Go Go.Abs
set_option linter.unusedVariables false
set_option linter.unusedSimpArgs false
def byV:V→Option (List Int)
 | .sli .u8 xs=>some xs
 | .nils=>some []
 |_=>none
theorem byV_cases {x:V} {b:List Int} (h:byV x=some b):x= .sli .u8 b∨(x= .nils∧b=[]):=by
 unfold byV at h
 split at h
 ·left;cases h;rfl
 ·right;cases h;exact⟨rfl,rfl⟩
 ·cases h
def catL:List V→Option (List Int)
 |[]=>some []
 |x::l=>match byV x,catL l with
  |some a,some b=>some (a++b)
  |_,_=>none
def partsV:V→Option (List Int)
 | .sle 1 l=>catL l
 | .nils=>some []
 |_=>none
theorem catL_cons {x:V} {l:List V} {b:List Int} (h:catL (x::l)=some b):∃a c,byV x=some a∧catL l=some c∧b=a++c:=by
 unfold catL at h
 cases ha:byV x with
 |none=>rw[ha]at h;cases h
 |some a=>
  cases hc:catL l with
  |none=>rw[ha,hc]at h;cases h
  |some c=>rw[ha,hc]at h;cases h;exact⟨a,c,rfl,rfl,rfl⟩
theorem partsV_cases {x:V} {b:List Int} (h:partsV x=some b):(∃l,x= .sle 1 l∧catL l=some b)∨(x= .nils∧b=[]):=by
 unfold partsV at h
 split at h
 ·left;exact⟨_,rfl,h⟩
 ·right;cases h;exact⟨rfl,rfl⟩
 ·cases h
def rowV:V→Option (List V)
 | .sle 1 l=>some l
 | .nils=>some []
 |_=>none
def catP:List V→Option (List V)
 |[]=>some []
 |x::l=>match rowV x,catP l with
  |some a,some b=>some (a++b)
  |_,_=>none
theorem catP_cons {x:V} {l b:List V} (h:catP (x::l)=some b):∃a c,rowV x=some a∧catP l=some c∧b=a++c:=by
 unfold catP at h
 cases ha:rowV x with
 |none=>rw[ha]at h;cases h
 |some a=>
  cases hc:catP l with
  |none=>rw[ha,hc]at h;cases h
  |some c=>rw[ha,hc]at h;cases h;exact⟨a,c,rfl,rfl,rfl⟩
theorem rowV_cases {x:V} {b:List V} (h:rowV x=some b):x= .sle 1 b∨(x= .nils∧b=[]):=by
 unfold rowV at h
 split at h
 ·left;cases h;rfl
 ·right;cases h;exact⟨rfl,rfl⟩
 ·cases h
theorem catL_mk {x:V} {l:List V} {a c:List Int} (h1:byV x=some a) (h2:catL l=some c):catL (x::l)=some (a++c):=by
 unfold catL;rw[h1,h2]
theorem catP_mk {x:V} {l a c:List V} (h1:rowV x=some a) (h2:catP l=some c):catP (x::l)=some (a++c):=by
 unfold catP;rw[h1,h2]
theorem byV_u8 (b:List Int):byV (.sli .u8 b)=some b:=rfl
theorem rowV_sle (l:List V):rowV (.sle 1 l)=some l:=rfl
def lenB (n i:Nat):Int:=((8*n / 2 ^ (8*i)) % 256:Nat)
def lens (n:Nat):List Int:=[lenB n 7,lenB n 6,lenB n 5,lenB n 4,lenB n 3,lenB n 2,lenB n 1,lenB n 0]
def ending (n:Nat):List Int:=128::(List.replicate ((119-n % 64) % 64) 0++lens n)
def fillB (b:List Int):List Int:=b++ending b.length
theorem lens_len (n:Nat):(lens n).length=8:=rfl
theorem ending_len (n:Nat):(ending n).length=9+(119-n % 64) % 64:=by simp[ending,lens_len];omega
theorem fillB_len (b:List Int):(fillB b).length=64*((b.length+8) / 64+1):=by
 simp only[fillB,List.length_append,ending_len];omega
theorem byt_app {a b:List Int} (ha:Byt a) (hb:Byt b):Byt (a++b):=fun x hx=>by
 rcases List.mem_append.1 hx with h|h
 ·exact ha x h
 ·exact hb x h
theorem byt_nil:Byt []:=fun x h=>by cases h
theorem byt_cons {x:Int} {b:List Int} (hx:0≤x∧x≤255) (hb:Byt b):Byt (x::b):=fun y hy=>by
 rcases List.mem_cons.1 hy with rfl|h
 ·exact hx
 ·exact hb y h
theorem byt_rep (n:Nat):Byt (List.replicate n 0):=fun x hx=>by
 obtain⟨_,rfl⟩:=List.mem_replicate.1 hx;omega
theorem byt_take {b:List Int} (h:Byt b) (n:Nat):Byt (b.take n):=fun x hx=>h x (List.mem_of_mem_take hx)
theorem byt_drop {b:List Int} (h:Byt b) (n:Nat):Byt (b.drop n):=fun x hx=>h x (List.mem_of_mem_drop hx)
theorem lenB_by (n i:Nat):0≤lenB n i∧lenB n i≤255:=by unfold lenB;omega
theorem byt_lens (n:Nat):Byt (lens n):=by
 unfold lens
 exact byt_cons (lenB_by _ _) (byt_cons (lenB_by _ _) (byt_cons (lenB_by _ _) (byt_cons (lenB_by _ _) (byt_cons (lenB_by _ _) (byt_cons (lenB_by _ _) (byt_cons (lenB_by _ _) (byt_cons (lenB_by _ _) byt_nil)))))))
theorem byt_fill {b:List Int} (h:Byt b):Byt (fillB b):=
 byt_app h (byt_cons (by omega) (byt_app (byt_rep _) (byt_lens _)))
theorem lenB_eq {n:Nat} (hn:n < 1000000000000000000) {i:Nat} (hi:8*i≤64):
  IntKind.u8.wrap ((IntKind.u64.wrap (IntKind.u64.wrap (n:Int)*8)).fdiv (2 ^ min (8*i) 64))=lenB n i:=by
 have e1:IntKind.u64.wrap (n:Int)=n:=by simp only[IntKind.wrap,IntKind.bits,IntKind.signed];simp;omega
 have e2:IntKind.u64.wrap ((n:Int)*8)=((8*n:Nat):Int):=by simp only[IntKind.wrap,IntKind.bits,IntKind.signed];simp;omega
 rw[e1,e2,Nat.min_eq_left hi,Int.fdiv_eq_ediv_of_nonneg _ (by have:(0:Int) < 2 ^ (8*i):=Int.pow_pos (by decide);omega)]
 have e3:((8*n:Nat):Int) / 2 ^ (8*i)=((8*n / 2 ^ (8*i):Nat):Int):=by simp
 rw[e3]
 unfold lenB
 generalize 8*n / 2 ^ (8*i)=q
 simp only[IntKind.wrap,IntKind.bits,IntKind.signed];simp
def iter (k f s:List Int):Nat→List Int
 |0=>s
 |i+1=>block k (iter k f s i) ((f.drop (64*i)).take 64)
theorem block_ok {k s b:List Int}:(block k s b).length=8∧∀x∈block k s b,Wd x:=by
 refine⟨rfl,fun x hx=> ?_⟩
 simp only[block,List.mem_cons,List.not_mem_nil,or_false]at hx
 rcases hx with h|h|h|h|h|h|h|h<;>rw[h]<;>exact wd_mod _
theorem iter_ok {k f s:List Int} (hl:s.length=8) (hs:∀x∈s,Wd x):∀i,(iter k f s i).length=8∧∀x∈iter k f s i,Wd x
 |0=>⟨hl,hs⟩
 |i+1=>block_ok
def start8:List Int:=[1779033703,3144134277,1013904242,2773480762,1359893119,2600822924,528734635,1541459225]
theorem start8_ok:∀x∈start8,Wd x:=by
 intro x hx
 simp only[start8,List.mem_cons,List.not_mem_nil,or_false]at hx
 unfold Wd
 omega
def octOf (x:Int) (i:Nat):Int:=(x / 2 ^ (24-8*i)) % 256
theorem octOf_eq {x:Int} (h:Wd x):IntKind.u8.wrap (x.fdiv (2 ^ min 24 32))=octOf x 0∧IntKind.u8.wrap (x.fdiv (2 ^ min 16 32))=octOf x 1∧IntKind.u8.wrap (x.fdiv (2 ^ min 8 32))=octOf x 2∧IntKind.u8.wrap x=octOf x 3:=by
 unfold Wd at h
 have e:∀n:Nat,x.fdiv (2 ^ n)=x / 2 ^ n:=fun n=>Int.fdiv_eq_ediv_of_nonneg _ (by have:(0:Int) < 2 ^ n:=Int.pow_pos (by decide);omega)
 have w8:∀y:Int,IntKind.u8.wrap y=y % 256:=fun y=>by simp[IntKind.wrap,IntKind.bits,IntKind.signed]
 refine⟨?_,?_,?_,?_⟩
 ·rw[show min 24 32=24 from rfl,e,w8];rfl
 ·rw[show min 16 32=16 from rfl,e,w8];rfl
 ·rw[show min 8 32=8 from rfl,e,w8];rfl
 ·rw[w8];unfold octOf;rw[show (2:Int) ^ (24-8*3)=1 from rfl,Int.ediv_one]
def bytes4 (x:Int):List Int:=[octOf x 0,octOf x 1,octOf x 2,octOf x 3]
def sumB (k b:List Int):List Int:=(iter k (fillB b) start8 ((b.length+8) / 64+1)).flatMap bytes4
theorem flat_len:∀l:List Int,(l.flatMap bytes4).length=4*l.length
 |[]=>rfl
 |x::l=>by rw[List.flatMap_cons,List.length_append,flat_len l];simp[bytes4];omega
theorem sumB_len (k b:List Int):(sumB k b).length=32:=by
 unfold sumB;rw[flat_len,(iter_ok rfl start8_ok _).1]
theorem octOf_by (x:Int) (i:Nat):0≤octOf x i∧octOf x i≤255:=by unfold octOf;omega
theorem byt_sum (k b:List Int):Byt (sumB k b):=fun x hx=>by
 obtain⟨w,_,h⟩:=List.mem_flatMap.1 hx
 simp only[bytes4,List.mem_cons,List.not_mem_nil,or_false]at h
 rcases h with h|h|h|h<;>rw[h]<;>exact octOf_by _ _
/-! ### sums with a key -/
def keyB (k key:List Int):List Int:=if key.length > 64 then sumB k key++List.replicate 32 0 else key++List.replicate (64-key.length) 0
theorem keyB_len (k key:List Int):(keyB k key).length=64:=by
 unfold keyB;split<;>simp[sumB_len]
 omega
def turnB (b:List Int) (c:Int):List Int:=b.map fun x=>bXor .u8 x c
theorem xor8_by (x c:Int):0≤bXor .u8 x c∧bXor .u8 x c≤255:=by
 unfold bXor
 rw[show IntKind.u8.bits=8 from rfl]
 generalize (BitVec.ofInt 8 x ^^^ BitVec.ofInt 8 c)=b
 have:=b.isLt
 simp only[IntKind.wrap,IntKind.bits,IntKind.signed];simp
 omega
theorem byt_turn (b:List Int) (c:Int):Byt (turnB b c):=fun x hx=>by
 obtain⟨y,_,rfl⟩:=List.mem_map.1 hx
 exact xor8_by _ _
theorem turnB_len (b:List Int) (c:Int):(turnB b c).length=b.length:=List.length_map ..
theorem map_step {f:Int→Int} {b:List Int} {i:Nat} (h:i < b.length):((b.map f).take i++b.drop i).set i (f (((b.map f).take i++b.drop i).getD i 0))=(b.map f).take (i+1)++b.drop (i+1):=by
 obtain⟨b1,x,b2,rfl,hl⟩:∃b1 x b2,b=b1++x::b2∧b1.length=i:=⟨b.take i,b[i],b.drop (i+1),by simp,by simp;omega⟩
 subst hl
 have e1:(b1.map f).take (b1.length+1)=b1.map f:=List.take_of_length_le (by simp)
 have e2:b1.drop (b1.length+1)=[]:=List.drop_eq_nil_of_le (by omega)
 simp[List.take_append,List.drop_append,List.set_append,List.getD_eq_getElem?_getD,List.getElem?_append,e1,e2]
theorem snoc_step' {b:List Int} {i:Nat} (h:i < b.length):b.take i++[b.getD i 0]=b.take (i+1):=by
 rw[List.take_add_one,List.getD_eq_getElem?_getD,List.getElem?_eq_getElem h];rfl
/-! bytes held against each other -/
theorem b8 {x:Int} (h:0≤x∧x≤255):∃b:BitVec 8,x=b.toNat:=⟨BitVec.ofNat 8 x.toNat,by rw[BitVec.toNat_ofNat];omega⟩
theorem wrap8_toNat (b:BitVec 8):IntKind.u8.wrap (b.toNat:Int)=b.toNat:=by
 have:=b.isLt
 simp only[IntKind.wrap,IntKind.bits,IntKind.signed];simp;omega
theorem ofInt8_toNat (b:BitVec 8):BitVec.ofInt 8 (b.toNat:Int)=b:=by
 rw[BitVec.ofInt_natCast,BitVec.ofNat_toNat];simp
theorem or8_b (a b:BitVec 8):bOr .u8 a.toNat b.toNat=(a |||b).toNat:=by
 show IntKind.u8.wrap ((BitVec.ofInt 8 (a.toNat:Int)|||BitVec.ofInt 8 (b.toNat:Int)).toNat)=_
 rw[ofInt8_toNat,ofInt8_toNat,wrap8_toNat]
theorem xor8_b (a b:BitVec 8):bXor .u8 a.toNat b.toNat=(a ^^^ b).toNat:=by
 show IntKind.u8.wrap ((BitVec.ofInt 8 (a.toNat:Int) ^^^ BitVec.ofInt 8 (b.toNat:Int)).toNat)=_
 rw[ofInt8_toNat,ofInt8_toNat,wrap8_toNat]
theorem or8_by (x c:Int):0≤bOr .u8 x c∧bOr .u8 x c≤255:=by
 unfold bOr
 rw[show IntKind.u8.bits=8 from rfl]
 generalize (BitVec.ofInt 8 x |||BitVec.ofInt 8 c)=b
 have:=b.isLt
 simp only[IntKind.wrap,IntKind.bits,IntKind.signed];simp
 omega
theorem unlike_step {u x y:Int} (hu:0≤u∧u≤255) (hx:0≤x∧x≤255) (hy:0≤y∧y≤255):bOr .u8 u (bXor .u8 x y)=0↔u=0∧x=y:=by
 obtain⟨a,rfl⟩:=b8 hu
 obtain⟨b,rfl⟩:=b8 hx
 obtain⟨c,rfl⟩:=b8 hy
 rw[xor8_b,or8_b]
 have e:∀z:BitVec 8,((z.toNat:Int)=0↔z=0#8):=fun z=>by
  constructor
  ·intro h;apply BitVec.eq_of_toNat_eq;simpa using h
  ·intro h;subst h;rfl
 rw[e,e,BitVec.or_eq_zero_iff,BitVec.xor_eq_zero_iff]
 constructor
 ·rintro⟨h1,h2⟩;exact⟨h1,by rw[h2]⟩
 ·rintro⟨h1,h2⟩;exact⟨h1,BitVec.eq_of_toNat_eq (by omega)⟩
def macB (k key text:List Int):List Int:=sumB k (turnB (keyB k key) 92++sumB k (turnB (keyB k key) 54++text))
theorem macB_len (k key text:List Int):(macB k key text).length=32:=sumB_len _ _
theorem byt_mac (k key text:List Int):Byt (macB k key text):=byt_sum _ _
def seedB (i:Int):List Int:=[116,105,116,104,105,110,103,32,107,101,121,32]++[IntKind.u8.wrap i]
def zero32:List Int:=[0,0,0,0,0,0,0,0,0,0,0,0,0,0,0,0,0,0,0,0,0,0,0,0,0,0,0,0,0,0,0,0]
def keyH (k:List Int) (i:Int):List Int:=if 1≤i∧i≤21 then sumB k (seedB i)else zero32
def tagH (k:List Int) (i d:Int) (b:List Int):List Int:=if 1≤i∧i≤21 then macB k (keyH k i) ([d]++b)else zero32
theorem byt_zero:Byt zero32:=byt_rep 32
theorem keyH_len (k:List Int) (i:Int):(keyH k i).length=32:=by unfold keyH;split;exact sumB_len _ _;rfl
theorem byt_keyH (k:List Int) (i:Int):Byt (keyH k i):=by unfold keyH;split;exact byt_sum _ _;exact byt_zero
theorem tagH_len (k:List Int) (i d:Int) (b:List Int):(tagH k i d b).length=32:=by unfold tagH;split;exact macB_len _ _ _;rfl
theorem byt_tagH (k:List Int) (i d:Int) (b:List Int):Byt (tagH k i d b):=by unfold tagH;split;exact byt_mac _ _ _;exact byt_zero
theorem u8_by (i:Int):0≤IntKind.u8.wrap i∧IntKind.u8.wrap i≤255:=by
 simp only[IntKind.wrap,IntKind.bits,IntKind.signed];simp;omega
theorem byt_seed (i:Int):Byt (seedB i):=by
 refine byt_app ?_ (byt_cons (u8_by i) byt_nil)
 intro x hx
 simp only[List.mem_cons,List.not_mem_nil,or_false]at hx
 omega
end Go.Abs.Sha
namespace Go.Abs.Sha
open Go Go.Abs
set_option linter.unusedVariables false
set_option linter.unusedSimpArgs false
def num (n:Nat):List Int:=if n < 128 then [(n:Int)]else ((n % 128+128:Nat):Int)::num (n / 128)
termination_by n
decreasing_by omega
theorem num_small {n:Nat} (h:n < 128):num n=[(n:Int)]:=by rw[num,if_pos h]
theorem num_big {n:Nat} (h:¬n < 128):num n=((n % 128+128:Nat):Int)::num (n / 128):=by rw[num,if_neg h]
theorem byt_num:∀(k n:Nat),n < 128 ^ (k+1)→Byt (num n)∧(num n).length≤k+1
 |0,n,h=>by
  rw[num_small (by omega)]
  exact⟨byt_cons (by omega) byt_nil,by simp⟩
 |k+1,n,h=>by
  by_cases hn:n < 128
  ·rw[num_small hn]
   exact⟨byt_cons (by omega) byt_nil,by simp⟩
  ·rw[num_big hn]
   have h2:n / 128 < 128 ^ (k+1):=by
    rw[Nat.pow_succ]at h
    exact Nat.div_lt_of_lt_mul (by rw[Nat.mul_comm];exact h)
   obtain⟨h3,h4⟩:=byt_num k _ h2
   refine⟨byt_cons (by omega) h3,by simp only[List.length_cons];omega⟩
theorem num_ok {n:Nat} (h:n < 18446744073709551616):Byt (num n)∧(num n).length≤10:=
 byt_num 9 n (Nat.lt_of_lt_of_le h (by decide))
theorem or128 {n:Int} (h:0≤n):bOr .u8 (IntKind.u8.wrap n) 128=((n.toNat % 128+128:Nat):Int):=by
 have hd:∀k:Fin 256,bOr .u8 (k.val:Int) 128=((k.val % 128+128:Nat):Int):=by decide+kernel
 have e:IntKind.u8.wrap n=((n.toNat % 256:Nat):Int):=by
  simp only[IntKind.wrap,IntKind.bits,IntKind.signed];simp;omega
 have:=hd ⟨n.toNat % 256,Nat.mod_lt _ (by decide)⟩
 rw[e,this]
 simp only
 omega
structure AttS where
 who:Int
 ki:Int
 vi:Int
 ph:Int
 ha:List Int
 pv:Int
 pa:List Int
 ta:List Int
def AttS.v (a:AttS):V:= .agg [.int .i64 a.who,.int .i64 a.ki,.int .i64 a.vi,.int .i64 a.ph,.arr .u8 32 a.ha,.int .i64 a.pv,.arr .u8 32 a.pa,.arr .u8 32 a.ta]
def I64 (n:Int):Prop:= -9223372036854775808≤n∧n≤9223372036854775807
instance (n:Int):Decidable (I64 n):=by unfold I64;infer_instance
def H32 (h:List Int):Prop:=Byt h∧h.length=32
structure AttS.wf (a:AttS):Prop where
 who:I64 a.who
 ki:I64 a.ki
 vi:I64 a.vi
 ph:I64 a.ph
 pv:I64 a.pv
 ha:H32 a.ha
 pa:H32 a.pa
 ta:H32 a.ta
def AttS.May (a:AttS):Prop:=(1≤a.who∧a.who≤21)∧(1≤a.ki∧a.ki≤3)∧a.ph=a.ki∧(1≤a.vi∧a.vi≤1099511627776)∧0≤a.pv∧(a.pv < a.vi∨a.ki=3∧a.pv=a.vi)
instance (a:AttS):Decidable a.May:=by unfold AttS.May;infer_instance
def AttS.may (a:AttS):Bool:=decide a.May
def AttS.said (a:AttS):List Int:=num a.ki.toNat++num a.vi.toNat++num a.ph.toNat++a.ha++num a.pv.toNat++a.pa
def AttS.tag (kt:List Int) (a:AttS):List Int:=tagH kt a.who 1 a.said
def AttS.signed (kt:List Int) (a:AttS):AttS:={ a with ta:=a.tag kt }
def AttS.right (kt:List Int) (a:AttS):Bool:=a.may&&decide (a.ta=a.tag kt)
def AttS.zero:AttS:=⟨0,0,0,0,zero32,0,zero32,zero32⟩
def AttS.sign (kt:List Int) (a:AttS):AttS:=if a.may=true then a.signed kt else .zero
def AttS.alike (a b:AttS):Bool:=decide (a.ki=b.ki∧a.vi=b.vi∧a.ph=b.ph∧a.ha=b.ha∧a.pv=b.pv∧a.pa=b.pa)
theorem h32_zero:H32 zero32:=⟨byt_zero,rfl⟩
theorem AttS.zero_wf:AttS.zero.wf:=⟨by decide,by decide,by decide,by decide,by decide,h32_zero,h32_zero,h32_zero⟩
theorem h32_tag (kt:List Int) (a:AttS):H32 (a.tag kt):=⟨byt_tagH _ _ _ _,tagH_len _ _ _ _⟩
theorem AttS.signed_wf {kt:List Int} {a:AttS} (h:a.wf):(a.signed kt).wf:=⟨h.who,h.ki,h.vi,h.ph,h.pv,h.ha,h.pa,h32_tag _ _⟩
theorem AttS.nums {a:AttS} (h:a.wf) (hm:a.May):Byt (num a.ki.toNat)∧(num a.ki.toNat).length≤10∧Byt (num a.vi.toNat)∧(num a.vi.toNat).length≤10∧Byt (num a.ph.toNat)∧(num a.ph.toNat).length≤10∧Byt (num a.pv.toNat)∧(num a.pv.toNat).length≤10:=by
 obtain⟨h1,h2,h3,h4,h5,h6⟩:=hm
 obtain⟨a1,a2⟩:=num_ok (n:=a.ki.toNat) (by omega)
 obtain⟨b1,b2⟩:=num_ok (n:=a.vi.toNat) (by omega)
 obtain⟨c1,c2⟩:=num_ok (n:=a.ph.toNat) (by omega)
 obtain⟨d1,d2⟩:=num_ok (n:=a.pv.toNat) (by omega)
 exact⟨a1,a2,b1,b2,c1,c2,d1,d2⟩
theorem AttS.said_ok {a:AttS} (h:a.wf) (hm:a.May):Byt a.said∧a.said.length≤104:=by
 obtain⟨a1,a2,b1,b2,c1,c2,d1,d2⟩:=AttS.nums h hm
 refine⟨byt_app (byt_app (byt_app (byt_app (byt_app a1 b1) c1) h.ha.1) d1) h.pa.1,?_⟩
 have:=h.ha.2;have:=h.pa.2
 simp only[AttS.said,List.length_append];omega
theorem byV_wk {x:V} {b:List Int} (h:byV x=some b):Wk x (.sli .u8 b):=by
 rcases byV_cases h with rfl|⟨rfl,rfl⟩
 ·exact .inl rfl
 ·exact .inr ⟨rfl,.inl ⟨_,rfl⟩⟩
theorem wk_1 {x x':V} {l:List V} (h:Wk x x'):∀(i:Nat) z,(x'::l)[i]? =some z→∃y,(x::l)[i]? =some y∧Wk y z:=by
 intro i z hz
 cases i with
 |zero=>simp at hz;subst hz;exact⟨x,rfl,h⟩
 |succ i=>exact⟨z,by simpa using hz,.inl rfl⟩
theorem wk_11 {x x' y y':V} {l:List V} (h:Wk x x') (h2:Wk y y'):∀(i:Nat) z,(x'::y'::l)[i]? =some z→∃u,(x::y::l)[i]? =some u∧Wk u z:=by
 intro i z hz
 cases i with
 |zero=>simp at hz;subst hz;exact⟨x,rfl,h⟩
 |succ i=>exact wk_1 h2 i z (by simpa using hz)
end Go.Abs.Sha
