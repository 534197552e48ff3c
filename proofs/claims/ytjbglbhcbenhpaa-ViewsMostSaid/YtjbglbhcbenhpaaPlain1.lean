/- Pure values of Go data, and how they lie in the model's memory: definitions and plain laws. -/
import Derived.Calls
import Derived.Orders
import Derived.LoopN
import Derived.KernelRfl
import Derived.Below
namespace Go.Abs
open Go Go.RowKit
abbrev zz2:List Int:=[0,0,0,0,0,0,0,0,0,0,0,0,0,0,0,0,0,0,0,0,0,0,0,0,0,0,0,0,0,0,0,0]
inductive V where
 |int (k:IntKind) (n:Int)
 |bool (b:Bool)
 |str (s:ByteArray)
 |arr (k:IntKind) (n:Nat) (xs:List Int)
 |agg (l:List V)
 |sli (k:IntKind) (xs:List Int)
 |sle (sz:Nat) (l:List V)
 |nils
 |ptr (id:Nat)
 |nilp
 |nili
 |fn (f:Nat) (l:List V)
 |sob (id sz off n c:Nat)
 deriving Inhabited
mutual
/-- How many cells a value takes. -/
def V.size:V→Nat
 | .arr _ n _=>n
 | .agg l=>V.sizeL l
 |_=>1
def V.sizeL:List V→Nat
 |[]=>0
 |x::l=>x.size+V.sizeL l
end
def V.isAgg:V→Bool
 | .arr .. | .agg _=>true
 |_=>false
def Reads (w:World) (M:Nat→Nat→Prop) (a:Addr) (cs:List Value):Prop:=
 ∀i v,cs[i]? =some v→w.cell? (a.add i)=some v∧¬M a.block (a.off+i)
mutual
/-- The value lies in these cells. -/
def RepV (w:World) (M:Nat→Nat→Prop):V→List Value→Prop
 | .int k n,cs=>cs=[.int k n]
 | .bool b,cs=>cs=[.bool b]
 | .str s,cs=>cs=[.string s]
 | .arr k n xs,cs=>xs.length=n∧cs=xs.map (.int k)
 | .agg l,cs=>RepL w M l cs
 | .sli k xs,cs=>∃a cap,cs=[.slice a xs.length cap]∧xs.length≤cap∧(a=none→cap=0)∧∀p,a=some p→Reads w M p (xs.map (.int k))
 | .sle sz l,cs=>∃a cap,cs=[.slice a l.length cap]∧l.length≤cap∧(a=none→cap=0)∧∀p,a=some p→RepE w M sz l p
 | .nils,cs=>cs=[.slice none 0 0]
 | .ptr id,cs=>cs=[.pointer (some ⟨id,0,none⟩)]
 | .nilp,cs=>cs=[.pointer none]
 | .nili,cs=>cs=[.nilIface]
 | .fn f l,cs=>∃vs:List Value,cs=[.func (.func f) #[] vs.toArray]∧RepC w M l vs
 | .sob id sz off n c,cs=>n≤c∧∃ad,cs=[.slice ad n c]∧(c≠0→ad=some ⟨id,off*sz,none⟩)
/-- What a function value has captured. -/
def RepC (w:World) (M:Nat→Nat→Prop):List V→List Value→Prop
 |[],vs=>vs=[]
 |x::l,vs=>∃v r,vs=v::r∧((x.isAgg=true∧∃cs,v= .agg cs∧RepV w M x cs.toList)∨(x.isAgg=false∧RepV w M x [v]))∧RepC w M l r
def RepL (w:World) (M:Nat→Nat→Prop):List V→List Value→Prop
 |[],cs=>cs=[]
 |x::l,cs=>∃c1 c2,cs=c1++c2∧RepV w M x c1∧RepL w M l c2
def RepE (w:World) (M:Nat→Nat→Prop) (sz:Nat):List V→Addr→Prop
 |[],_=>True
 |x::l,a=>∃c,RepV w M x c∧c.length=sz∧Reads w M a c∧RepE w M sz l (a.add sz)
end
mutual
theorem RepV.len {w M}:∀{x cs},RepV w M x cs→cs.length=x.size
 | .int ..,_,h=>by simp[RepV]at h;simp[h,V.size]
 | .bool ..,_,h=>by simp[RepV]at h;simp[h,V.size]
 | .str ..,_,h=>by simp[RepV]at h;simp[h,V.size]
 | .arr ..,_,h=>by simp[RepV]at h;simp[h,V.size]
 | .agg l,_,h=>by simp[RepV]at h;simp[V.size,RepL.len h]
 | .sli ..,_,h=>by simp[RepV]at h;obtain⟨a,cap,rfl,_⟩:=h;simp[V.size]
 | .sle ..,_,h=>by simp[RepV]at h;obtain⟨a,cap,rfl,_⟩:=h;simp[V.size]
 | .nils,_,h=>by simp[RepV]at h;simp[h,V.size]
 | .ptr ..,_,h=>by simp[RepV]at h;simp[h,V.size]
 | .nilp,_,h=>by simp[RepV]at h;simp[h,V.size]
 | .nili,_,h=>by simp[RepV]at h;simp[h,V.size]
 | .fn ..,_,h=>by simp only[RepV]at h;obtain⟨vs,rfl,_⟩:=h;simp[V.size]
 | .sob ..,_,h=>by simp only[RepV]at h;obtain⟨_,ad,rfl,_⟩:=h;simp[V.size]
theorem RepL.len {w M}:∀{l cs},RepL w M l cs→cs.length=V.sizeL l
 |[],_,h=>by simp[RepL]at h;simp[h,V.sizeL]
 |x::l,_,h=>by simp only[RepL]at h;obtain⟨c1,c2,rfl,h1,h2⟩:=h;simp[V.sizeL,RepV.len h1,RepL.len h2]
end
def Goes (w:World) (M:Nat→Nat→Prop) (w':World) (M':Nat→Nat→Prop):Prop:=
 ∀a v,w.cell? a=some v→¬M a.block a.off→w'.cell? a=some v∧¬M' a.block a.off
theorem Addr.add_block (a:Addr) (i:Nat):(a.add i).block=a.block:=by unfold Addr.add;split<;>rfl
theorem Addr.add_off (a:Addr) (i:Nat):(a.add i).off=a.off+i:=by
 unfold Addr.add;split
 ·subst_vars;rfl
 ·rfl
theorem Addr.add_add (a:Addr) (i j:Nat):(a.add i).add j=a.add (i+j):=by
 unfold Addr.add
 by_cases hi:i=0<;>by_cases hj:j=0<;>simp[hi,hj]<;>omega
theorem Reads.goes {w M w' M' a cs} (g:Goes w M w' M') (h:Reads w M a cs):Reads w' M' a cs:=by
 intro i v hv
 obtain⟨h1,h2⟩:=h i v hv
 have:=g _ _ h1 (by rw[Addr.add_block,Addr.add_off];exact h2)
 rw[Addr.add_block,Addr.add_off]at this
 exact this
mutual
theorem RepV.goes {w M w' M'} (g:Goes w M w' M'):∀{x cs},RepV w M x cs→RepV w' M' x cs
 | .int ..,_,h=>by simpa [RepV]using h
 | .bool ..,_,h=>by simpa [RepV]using h
 | .str ..,_,h=>by simpa [RepV]using h
 | .arr ..,_,h=>by simpa [RepV]using h
 | .agg l,_,h=>by simp only[RepV]at h⊢;exact RepL.goes g h
 | .sli ..,_,h=>by
  simp only[RepV]at h⊢;obtain⟨a,cap,h1,h2,h3,h4⟩:=h
  exact⟨a,cap,h1,h2,h3,fun p hp=>(h4 p hp).goes g⟩
 | .sle ..,_,h=>by
  simp only[RepV]at h⊢;obtain⟨a,cap,h1,h2,h3,h4⟩:=h
  exact⟨a,cap,h1,h2,h3,fun p hp=>RepE.goes g (h4 p hp)⟩
 | .nils,_,h=>by simpa [RepV]using h
 | .ptr ..,_,h=>by simpa [RepV]using h
 | .nilp,_,h=>by simpa [RepV]using h
 | .nili,_,h=>by simpa [RepV]using h
 | .fn _ l,_,h=>by
  simp only[RepV]at h⊢;obtain⟨vs,h1,h2⟩:=h
  exact⟨vs,h1,RepC.goes g h2⟩
 | .sob ..,_,h=>by simpa [RepV]using h
theorem RepC.goes {w M w' M'} (g:Goes w M w' M'):∀{l vs},RepC w M l vs→RepC w' M' l vs
 |[],_,h=>by simpa [RepC]using h
 |x::l,_,h=>by
  simp only[RepC]at h⊢;obtain⟨v,r,h0,h1,h2⟩:=h
  refine⟨v,r,h0,?_,RepC.goes g h2⟩
  rcases h1 with⟨h3,cs,h4,h5⟩|⟨h3,h5⟩
  ·exact .inl ⟨h3,cs,h4,RepV.goes g h5⟩
  ·exact .inr ⟨h3,RepV.goes g h5⟩
theorem RepL.goes {w M w' M'} (g:Goes w M w' M'):∀{l cs},RepL w M l cs→RepL w' M' l cs
 |[],_,h=>by simpa [RepL]using h
 |x::l,_,h=>by
  simp only[RepL]at h⊢;obtain⟨c1,c2,h0,h1,h2⟩:=h
  exact⟨c1,c2,h0,RepV.goes g h1,RepL.goes g h2⟩
theorem RepE.goes {w M w' M' sz} (g:Goes w M w' M'):∀{l a},RepE w M sz l a→RepE w' M' sz l a
 |[],_,_=>by simp[RepE]
 |x::l,_,h=>by
  simp only[RepE]at h⊢;obtain⟨c,h0,h1,h2,h3⟩:=h
  exact⟨c,RepV.goes g h0,h1,h2.goes g,RepE.goes g h3⟩
end
theorem Goes.refl (w M):Goes w M w M:=fun _ _ h1 h2=>⟨h1,h2⟩
theorem Goes.trans {w M w' M' w'' M''} (g:Goes w M w' M') (h:Goes w' M' w'' M''):Goes w M w'' M'':=
 fun a v h1 h2=>let ⟨x,y⟩:=g a v h1 h2;h a v x y
mutual
/-- Two values of one shape. -/
def V.same:V→V→Bool
 | .agg l,y=>match y with
  | .agg m=>V.sameL l m
  |_=>false
 | .arr k n _,y=>match y with
  | .arr k' n' _=>k==k'&&n==n'
  |_=>false
 |_,y=> !y.isAgg
def V.sameL:List V→List V→Bool
 |[],m=>m.isEmpty
 |x::l,m=>match m with
  |y::m=>x.same y&&V.sameL l m
  |[]=>false
end
/-! ### the part of a value behind a path -/
def V.off:V→List Nat→Option Nat
 |_,[]=>some 0
 | .agg l,i::p=>match l[i]? with
  |some y=>(y.off p).map (V.sizeL (l.take i)+·)
  |none=>none
 | .arr _ n _,[i]=>if i < n then some i else none
 |_,_=>none
def V.sub:V→List Nat→Option V
 |x,[]=>some x
 | .agg l,i::p=>match l[i]? with
  |some y=>y.sub p
  |none=>none
 | .arr k n xs,[i]=>if i < n then some (.int k (xs.getD i 0))else none
 |_,_=>none
def V.upd:V→List Nat→V→Option V
 |x,[],y=>if y.same x=true then some y else none
 | .agg l,i::p,y=>match l[i]? with
  |some z=>(z.upd p y).map fun z'=> .agg (l.set i z')
  |none=>none
 | .arr k n xs,[i],.int k' y=>if k'=k∧i < n then some (.arr k n (xs.set i y))else none
 |_,_,_=>none
theorem RepL.append {w M l m cs}:RepL w M (l++m) cs↔∃c d,cs=c++d∧RepL w M l c∧RepL w M m d:=by
 induction l generalizing cs with
 |nil=>
  simp only[List.nil_append,RepL]
  constructor
  ·intro h;exact⟨[],cs,rfl,rfl,h⟩
  ·rintro⟨c,d,rfl,rfl,h⟩;exact h
 |cons x l ih=>
  simp only[List.cons_append,RepL,ih]
  constructor
  ·rintro⟨c1,c2,rfl,h1,c,d,rfl,h2,h3⟩
   exact⟨c1++c,d,by simp,⟨c1,c,rfl,h1,h2⟩,h3⟩
  ·rintro⟨c,d,rfl,⟨c1,c2,rfl,h1,h2⟩,h3⟩
   exact⟨c1,c2++d,by simp,h1,c2,d,rfl,h2,h3⟩
theorem RepV.sub {w M}:∀{p:List Nat} {x y cs o},RepV w M x cs→x.sub p=some y→x.off p=some o→RepV w M y ((cs.drop o).take y.size)∧o+y.size≤cs.length
 |[],x,y,cs,o,h,hs,ho=>by
  simp[V.sub]at hs;simp[V.off]at ho;subst hs ho
  have:=h.len
  simp[←this,h]
 |i::p,.agg l,y,cs,o,h,hs,ho=>by
  simp only[V.sub]at hs;simp only[V.off]at ho
  cases hz:l[i]? with
  |none=>simp[hz]at hs
  |some z=>
   simp only[hz]at hs ho
   obtain⟨o',ho',rfl⟩:=Option.map_eq_some_iff.1 ho
   simp only[RepV]at h
   have hi:i < l.length:=(List.getElem?_eq_some_iff.1 hz).1
   have hl:l=l.take i++(z::l.drop (i+1)):=by
    have e:l[i]=z:=(List.getElem?_eq_some_iff.1 hz).2
    rw[←e,List.getElem_cons_drop,List.take_append_drop]
   rw[hl]at h
   obtain⟨c,d,rfl,h1,h2⟩:=RepL.append.1 h
   simp only[RepL]at h2
   obtain⟨c1,c2,rfl,h3,h4⟩:=h2
   obtain⟨h5,h6⟩:=RepV.sub h3 hs ho'
   have hc:=h1.len
   have hlen:c.length=V.sizeL (List.take i l):=hc
   constructor
   ·have:List.take y.size (List.drop (V.sizeL (List.take i l)+o') (c++(c1++c2)))=List.take y.size (List.drop o' c1):=by
     rw[←hlen,←List.drop_drop,List.drop_left,List.drop_append_of_le_length (by omega),List.take_append_of_le_length (by simp;omega)]
    rw[this];exact h5
   ·simp;omega
 |[i],.arr k n xs,y,cs,o,h,hs,ho=>by
  simp only[V.sub]at hs;simp only[V.off]at ho
  split at hs<;>rename_i hin
  ·rw[if_pos hin]at ho;cases hs;cases ho
   simp only[RepV]at h;obtain⟨hn,rfl⟩:=h
   have hil:i < xs.length:=by omega
   simp only[RepV,V.size]
   constructor
   ·rw[List.drop_eq_getElem_cons (by simpa using hil)];simp[hil]
   ·simp;omega
  ·cases hs
 |i::j::p,.arr ..,_,_,_,_,hs,_=>by simp[V.sub]at hs
 |i::p,.int ..,_,_,_,_,hs,_=>by simp[V.sub]at hs
 |i::p,.bool ..,_,_,_,_,hs,_=>by simp[V.sub]at hs
 |i::p,.str ..,_,_,_,_,hs,_=>by simp[V.sub]at hs
 |i::p,.sli ..,_,_,_,_,hs,_=>by simp[V.sub]at hs
 |i::p,.sle ..,_,_,_,_,hs,_=>by simp[V.sub]at hs
 |i::p,.nils,_,_,_,_,hs,_=>by simp[V.sub]at hs
 |i::p,.ptr ..,_,_,_,_,hs,_=>by simp[V.sub]at hs
 |i::p,.nilp,_,_,_,_,hs,_=>by simp[V.sub]at hs
 |i::p,.nili,_,_,_,_,hs,_|i::p,.fn ..,_,_,_,_,hs,_|i::p,.sob ..,_,_,_,_,hs,_=>by simp[V.sub]at hs
def patch (cs:List Value) (o:Nat) (d:List Value):List Value:=cs.take o++(d++cs.drop (o+d.length))
theorem patch_length {cs o d} (h:o+d.length≤cs.length):(patch cs o d).length=cs.length:=by simp[patch];omega
mutual
theorem V.same_size:∀{x y:V},x.same y=true→x.size=y.size∧x.isAgg=y.isAgg
 | .agg l,.agg m,h=>by simp only[V.same]at h;simp[V.size,V.isAgg,V.sameL_size h]
 | .agg l,.int ..,h| .agg l,.bool ..,h| .agg l,.str ..,h| .agg l,.arr ..,h| .agg l,.sli ..,h| .agg l,.sle ..,h| .agg l,.nils,h| .agg l,.ptr ..,h| .agg l,.nilp,h| .agg l,.nili,h| .agg l,.fn ..,h| .agg l,.sob ..,h=>by simp[V.same]at h
 | .arr k n _,.arr k' n' _,h=>by simp[V.same]at h;simp[V.size,V.isAgg,h]
 | .arr ..,.int ..,h| .arr ..,.bool ..,h| .arr ..,.str ..,h| .arr ..,.agg ..,h| .arr ..,.sli ..,h| .arr ..,.sle ..,h| .arr ..,.nils,h| .arr ..,.ptr ..,h| .arr ..,.nilp,h| .arr ..,.nili,h| .arr ..,.fn ..,h| .arr ..,.sob ..,h=>by simp[V.same]at h
 | .int ..,y,h| .bool ..,y,h| .str ..,y,h| .sli ..,y,h| .sle ..,y,h| .nils,y,h| .ptr ..,y,h| .nilp,y,h| .nili,y,h| .fn ..,y,h| .sob ..,y,h=>by
  cases y<;>simp_all [V.same,V.isAgg,V.size]
theorem V.sameL_size:∀{l m:List V},V.sameL l m=true→V.sizeL l=V.sizeL m
 |[],m,h=>by simp[V.sameL]at h;simp[h]
 |x::l,[],h=>by simp[V.sameL]at h
 |x::l,y::m,h=>by
  simp[V.sameL]at h
  simp[V.sizeL,(V.same_size h.1).1,V.sameL_size h.2]
end
theorem V.sameL_get:∀{l m:List V} {i:Nat} {x:V},V.sameL l m=true→l[i]? =some x→∃y,m[i]? =some y∧x.same y=true∧V.sizeL (l.take i)=V.sizeL (m.take i)
 |[],m,i,x,h,hx=>by simp at hx
 |a::l,[],i,x,h,hx=>by simp[V.sameL]at h
 |a::l,b::m,0,x,h,hx=>by simp[V.sameL]at h;simp at hx;subst hx;exact⟨b,rfl,h.1,rfl⟩
 |a::l,b::m,i+1,x,h,hx=>by
  simp[V.sameL]at h;simp at hx
  obtain⟨y,h1,h2,h3⟩:=V.sameL_get h.2 hx
  exact⟨y,by simpa using h1,h2,by simp[V.sizeL,(V.same_size h.1).1,h3]⟩
theorem V.same_off:∀{p:List Nat} {x y:V} {o:Nat},x.same y=true→x.off p=some o→y.off p=some o
 |[],x,y,o,_,h=>by simp only[V.off]at h⊢;exact h
 |i::p,.agg l,y,o,hs,h=>by
  cases y<;>try (simp[V.same]at hs;done)
  rename_i m
  simp only[V.same]at hs
  simp only[V.off]at h⊢
  cases hz:l[i]? with
  |none=>simp[hz]at h
  |some z=>
   simp only[hz]at h
   obtain⟨o',h1,rfl⟩:=Option.map_eq_some_iff.1 h
   obtain⟨u,h2,h3,h4⟩:=V.sameL_get hs hz
   simp only[h2,V.same_off h3 h1,h4,Option.map_some]
 |[i],.arr k n xs,y,o,hs,h=>by
  cases y<;>try (simp[V.same]at hs;done)
  simp[V.same]at hs
  simp only[V.off]at h⊢
  rw[←hs.2];exact h
 |i::j::p,.arr ..,_,_,_,h=>by simp[V.off]at h
 |i::p,.int ..,_,_,_,h|i::p,.bool ..,_,_,_,h|i::p,.str ..,_,_,_,h|i::p,.sli ..,_,_,_,h|i::p,.sle ..,_,_,_,h|i::p,.nils,_,_,_,h|i::p,.ptr ..,_,_,_,h|i::p,.nilp,_,_,_,h|i::p,.nili,_,_,_,h|i::p,.fn ..,_,_,_,h|i::p,.sob ..,_,_,_,h=>by simp[V.off]at h
mutual
theorem V.same_refl:∀x:V,x.same x=true
 | .agg l=>by simp only[V.same];exact V.sameL_refl l
 | .arr k n xs=>by simp[V.same]
 | .int .. | .bool .. | .str .. | .sli .. | .sle .. | .nils| .ptr .. | .nilp| .nili| .fn .. | .sob .. =>by simp[V.same,V.isAgg]
theorem V.sameL_refl:∀l:List V,V.sameL l l=true
 |[]=>rfl
 |x::l=>by simp[V.sameL,V.same_refl x,V.sameL_refl l]
end
theorem V.sameL_set:∀{l:List V} {i:Nat} {x y:V},l[i]? =some x→y.same x=true→V.sameL (l.set i y) l=true
 |[],i,x,y,hx,_=>by simp at hx
 |a::l,0,x,y,hx,h=>by simp at hx;subst hx;simp[V.sameL,h,V.sameL_refl]
 |a::l,i+1,x,y,hx,h=>by simp at hx;simp[V.sameL,V.same_refl,V.sameL_set hx h]
theorem V.upd_same:∀{p:List Nat} {x y x':V},V.upd x p y=some x'→x'.same x=true
 |[],x,y,x',h=>by
  simp only[V.upd]at h;split at h<;>rename_i hc
  ·cases h;exact hc
  ·cases h
 |i::p,.agg l,y,x',h=>by
  simp only[V.upd]at h
  cases hz:l[i]? with
  |none=>simp[hz]at h
  |some z=>
   simp only[hz]at h
   obtain⟨z',h1,rfl⟩:=Option.map_eq_some_iff.1 h
   simp only[V.same]
   exact V.sameL_set hz (V.upd_same h1)
 |[i],.arr k n xs,.int k' y,x',h=>by
  simp only[V.upd]at h;split at h
  ·cases h;simp[V.same]
  ·cases h
theorem RepV.upd {w M}:∀{p:List Nat} {x y x':V} {cs d:List Value} {o:Nat},RepV w M x cs→V.upd x p y=some x'→x.off p=some o→RepV w M y d→RepV w M x' (patch cs o d)∧o+d.length≤cs.length
 |[],x,y,x',cs,d,o,h,hu,ho,hy=>by
  simp only[V.upd]at hu;split at hu<;>rename_i hc
  ·cases hu
   simp[V.off]at ho;subst ho
   have h1:=h.len;have h2:=hy.len;have h3:=(V.same_size hc).1
   have:patch cs 0 d=d:=by simp[patch];omega
   rw[this];exact⟨hy,by omega⟩
  ·cases hu
 |i::p,.agg l,y,x',cs,d,o,h,hu,ho,hy=>by
  simp only[V.upd]at hu;simp only[V.off]at ho
  cases hz:l[i]? with
  |none=>simp[hz]at hu
  |some z=>
   simp only[hz]at hu ho
   obtain⟨z',h1,rfl⟩:=Option.map_eq_some_iff.1 hu
   obtain⟨o',ho',rfl⟩:=Option.map_eq_some_iff.1 ho
   simp only[RepV]at h⊢
   have hi:i < l.length:=(List.getElem?_eq_some_iff.1 hz).1
   have e:l[i]=z:=(List.getElem?_eq_some_iff.1 hz).2
   have hl:l=l.take i++(z::l.drop (i+1)):=by rw[←e,List.getElem_cons_drop,List.take_append_drop]
   have hs:l.set i z'=l.take i++(z'::l.drop (i+1)):=by rw[List.set_eq_take_append_cons_drop,if_pos hi]
   rw[hl]at h;rw[hs]
   obtain⟨c,e,rfl,h2,h3⟩:=RepL.append.1 h
   simp only[RepL]at h3
   obtain⟨c1,c2,rfl,h4,h5⟩:=h3
   obtain⟨h6,h7⟩:=RepV.upd h4 h1 ho' hy
   have hlen:c.length=V.sizeL (List.take i l):=h2.len
   refine⟨RepL.append.2 ⟨c,patch c1 o' d++c2,?_,h2,?_⟩,by simp;omega⟩
   ·simp only[patch,←hlen]
    rw[List.take_length_add_append,List.take_append_of_le_length (by omega),←List.drop_drop,←List.drop_drop,List.drop_left,List.append_assoc,List.append_assoc]
    congr 1;congr 1;rw[List.append_assoc];congr 1
    rw[List.drop_drop,List.drop_append_of_le_length (by omega)]
   ·simp only[RepL];exact⟨_,_,rfl,h6,h5⟩
 |[i],.arr k n xs,.int k' y,x',cs,d,o,h,hu,ho,hy=>by
  simp only[V.upd]at hu;simp only[V.off]at ho
  split at hu<;>rename_i hc
  ·obtain⟨rfl,hin⟩:=hc
   cases hu;rw[if_pos hin]at ho;cases ho
   simp only[RepV]at h hy⊢;obtain⟨hn,rfl⟩:=h;subst hy
   have hil:i < xs.length:=by omega
   refine⟨⟨by simp[hn],?_⟩,by simp;omega⟩
   simp only[patch,List.length_singleton]
   rw[List.map_set,List.set_eq_take_append_cons_drop,if_pos (by simpa using hil)]
   rfl
  ·cases hu
mutual
theorem V.same_symm:∀{x y:V},x.same y=true→y.same x=true
 | .agg l,.agg m,h=>by simp only[V.same]at h⊢;exact V.sameL_symm h
 | .agg l,.int ..,h| .agg l,.bool ..,h| .agg l,.str ..,h| .agg l,.arr ..,h| .agg l,.sli ..,h| .agg l,.sle ..,h| .agg l,.nils,h| .agg l,.ptr ..,h| .agg l,.nilp,h| .agg l,.nili,h| .agg l,.fn ..,h| .agg l,.sob ..,h=>by simp[V.same]at h
 | .arr k n _,.arr k' n' _,h=>by simp[V.same]at h⊢;exact⟨h.1.symm,h.2.symm⟩
 | .arr ..,.int ..,h| .arr ..,.bool ..,h| .arr ..,.str ..,h| .arr ..,.agg ..,h| .arr ..,.sli ..,h| .arr ..,.sle ..,h| .arr ..,.nils,h| .arr ..,.ptr ..,h| .arr ..,.nilp,h| .arr ..,.nili,h| .arr ..,.fn ..,h| .arr ..,.sob ..,h=>by simp[V.same]at h
 | .int ..,y,h| .bool ..,y,h| .str ..,y,h| .sli ..,y,h| .sle ..,y,h| .nils,y,h| .ptr ..,y,h| .nilp,y,h| .nili,y,h| .fn ..,y,h| .sob ..,y,h=>by
  cases y<;>simp_all [V.same,V.isAgg]
theorem V.sameL_symm:∀{l m:List V},V.sameL l m=true→V.sameL m l=true
 |[],m,h=>by simp[V.sameL]at h;simp[h,V.sameL]
 |x::l,[],h=>by simp[V.sameL]at h
 |x::l,y::m,h=>by
  simp[V.sameL]at h⊢
  exact⟨V.same_symm h.1,V.sameL_symm h.2⟩
end
mutual
theorem V.same_trans':∀{x y z:V},x.same y=true→y.same z=true→x.same z=true
 | .agg l,.agg m,.agg n,h,h'=>by simp only[V.same]at h h'⊢;exact V.sameL_trans h h'
 | .agg l,.agg m,.int ..,_,h| .agg l,.agg m,.bool ..,_,h| .agg l,.agg m,.str ..,_,h| .agg l,.agg m,.arr ..,_,h| .agg l,.agg m,.sli ..,_,h| .agg l,.agg m,.sle ..,_,h| .agg l,.agg m,.nils,_,h| .agg l,.agg m,.ptr ..,_,h| .agg l,.agg m,.nilp,_,h| .agg l,.agg m,.nili,_,h| .agg l,.agg m,.fn ..,_,h| .agg l,.agg m,.sob ..,_,h=>by simp[V.same]at h
 | .agg l,.int ..,_,h,_| .agg l,.bool ..,_,h,_| .agg l,.str ..,_,h,_| .agg l,.arr ..,_,h,_| .agg l,.sli ..,_,h,_| .agg l,.sle ..,_,h,_| .agg l,.nils,_,h,_| .agg l,.ptr ..,_,h,_| .agg l,.nilp,_,h,_| .agg l,.nili,_,h,_| .agg l,.fn ..,_,h,_| .agg l,.sob ..,_,h,_=>by simp[V.same]at h
 | .arr k n _,y,z,h,h'=>by
  cases y<;>try (simp[V.same]at h;done)
  cases z<;>try (simp[V.same]at h';done)
  simp[V.same]at h h'⊢;exact⟨h.1.trans h'.1,h.2.trans h'.2⟩
 | .int ..,y,z,h,h'| .bool ..,y,z,h,h'| .str ..,y,z,h,h'| .sli ..,y,z,h,h'| .sle ..,y,z,h,h'| .nils,y,z,h,h'| .ptr ..,y,z,h,h'| .nilp,y,z,h,h'| .nili,y,z,h,h'| .fn ..,y,z,h,h'| .sob ..,y,z,h,h'=>by
  cases y<;>cases z<;>simp_all [V.same,V.isAgg]
theorem V.sameL_trans:∀{l m n:List V},V.sameL l m=true→V.sameL m n=true→V.sameL l n=true
 |[],m,n,h,h'=>by simp[V.sameL]at h;subst h;exact h'
 |x::l,[],n,h,_=>by simp[V.sameL]at h
 |x::l,y::m,[],_,h'=>by simp[V.sameL]at h'
 |x::l,y::m,z::n,h,h'=>by
  simp[V.sameL]at h h'⊢
  exact⟨V.same_trans' h.1 h'.1,V.sameL_trans h.2 h'.2⟩
end
end Go.Abs
namespace Go.Abs
open Go Go.RowKit
inductive D where
 |v (x:V)
 |own (x:V)
 |row (x:V)
 |gro (x:V)
 |jk
 |lp (k:Nat) (p:List Nat)
 |gp (id:Nat) (p:List Nat)
 |ep (x:V)
 |vw (k:Nat) (p:List Nat) (n:Nat)
 |tup (l:List V)
 |fn (f:Nat)
 |gl (g:Nat)
 |e0
 |un
 deriving Inhabited
structure Bx where
 fz:Bool
 x:V
def Bx.hole:Bx:=⟨true,.nili⟩
structure St where
 vs:List (Option D)
 ts:List (Nat×D)
 L:List Bx
 G:List (Nat×V)
def look {α:Type}:List (Nat×α)→Nat→Option α
 |[],_=>none
 |(k,d)::e,t=>bif t==k then some d else look e t
def upd {α:Type}:List (Nat×α)→Nat→α→List (Nat×α)
 |[],_,_=>[]
 |(k,d)::e,t,x=>bif t==k then (k,x)::e else (k,d)::upd e t x
def St.putV (σ:St) (t:Nat) (d:D):St:={ σ with vs:=σ.vs.set t (some d) }
def St.putT (σ:St) (t:Nat) (d:D):St:={ σ with ts:=(t,d)::σ.ts }
inductive Place where
 |slot (t:Nat)
 |box (k:Nat)
 |obj
 deriving DecidableEq
structure Ctx where
 P:Program
 N:Nat
 K:Nat
 Mc:Nat→Nat→Prop
 tab:List (Nat×V)
 w0:World
 B0:Nat→Prop
 G0:List (Nat×V)
def MM (Mc:Nat→Nat→Prop) (ow:Nat→Option Place) (lo:Nat→Nat):Nat→Nat→Prop:=fun b o=>Mc b o∨((ow b).isSome=true∧lo b≤o)
def RepW (w:World) (M:Nat→Nat→Prop) (x:V) (v:Value):Prop:=
 if x.isAgg=true then ∃cs,v= .agg cs∧RepV w M x cs.toList else RepV w M x [v]
def V.len:V→Nat
 | .sli _ xs=>xs.length
 | .sle _ l=>l.length
 | .sob _ _ _ n _=>n
 |_=>0
def V.stride:V→Nat
 | .sli .. =>1
 | .sle sz _=>sz
 |_=>0
def Spare (w:World) (ow:Nat→Option Place) (lo:Nat→Nat) (t:Nat) (x:V) (v:Value):Prop:=
 ∃a cap,v= .slice a x.len cap∧(cap=x.len∨∃b o e,x.stride≠0∧a=some ⟨b,o,none⟩∧ow b=some (.slot t)∧lo b=o+x.len*x.stride∧
  w.shape? b=some (e,o+cap*x.stride)∧∀j,j < o+cap*x.stride→w.frozen? ⟨b,j,none⟩=false)
structure Mem where
 lam:List (Option Nat)
 ow:Nat→Option Place
 lo:Nat→Nat
def RepD (c:Ctx) (m:Mem) (w:World) (L:List Bx) (G:List (Nat×V)) (t:Nat):D→Value→Prop
 | .v x,v=>RepW w (MM c.Mc m.ow m.lo) x v
 | .own x,v=>RepW w (MM c.Mc m.ow m.lo) x v∧Spare w m.ow m.lo t x v
 | .row x,v=>RepW w (MM c.Mc m.ow m.lo) x v∧∃b e,v= .slice (some ⟨b,0,none⟩) x.len x.len∧m.ow b=some (.slot t)∧m.lo b=x.len∧w.shape? b=some (e,x.len)∧∀j,w.frozen? ⟨b,j,none⟩=false
 | .gro x,v=>∃a L cap,v= .slice a L cap∧x.len≤L∧L≤cap∧RepW w (MM c.Mc m.ow m.lo) x (.slice a x.len cap)∧Spare w m.ow m.lo t x (.slice a x.len cap)
 | .jk,_=>True
 | .lp k p,v=>∃b r o,m.lam[k]? =some (some b)∧L[k]? =some r∧r.x.off p=some o∧v= .pointer (some ⟨b,o,none⟩)
 | .gp id p,v=>∃r o,look G id=some r∧r.off p=some o∧v= .pointer (some ⟨id,o,none⟩)
 | .ep x,v=>∃q cs,v= .pointer (some q)∧Reads w (MM c.Mc m.ow m.lo) q cs∧RepV w (MM c.Mc m.ow m.lo) x cs
 | .vw k p n,v=>∃b r o kk xs,m.lam[k]? =some (some b)∧L[k]? =some r∧r.x.off p=some o∧r.x.sub p=some (.arr kk n xs)∧v= .slice (some ⟨b,o,none⟩) n n
 | .tup l,v=>∃vs,v= .tuple vs∧vs.size=l.length∧∀(i:Nat) x,l[i]? =some x→∃u,vs[i]? =some u∧RepW w (MM c.Mc m.ow m.lo) x u
 | .fn f,v=>v= .func (.func f) #[] #[]
 | .gl g,v=>v= .pointer (some ⟨g,0,none⟩)
 | .e0,v=>∃ad,v= .slice ad 0 0
 | .un,v=>v=undef
def BoxAt (w:World) (M:Nat→Nat→Prop) (b:Nat) (x:V):Prop:=
 ∃cs e,w.shape? b=some (e,cs.length)∧(∀i v,cs[i]? =some v→w.cell? ⟨b,i,none⟩=some v)∧(∀j,w.frozen? ⟨b,j,none⟩=false)∧RepV w M x cs
structure InvW (c:Ctx) (m:Mem) (σ:St) (a:Act) (w:World):Prop where
 defers:a.defers=[]
 size:a.tmps.size=c.N
 os:w.os=c.w0.os
 tape:w.tape=c.w0.tape
 output:w.output=c.w0.output
 grown:c.w0.heap.size≤w.heap.size
 old:∀b,b < c.w0.heap.size→¬c.B0 b→w.heap[b]? =c.w0.heap[b]?
 oldB:∀b s,c.B0 b→c.w0.shape? b=some s→w.shape? b=some s∧∀j,w.frozen? ⟨b,j,none⟩=c.w0.frozen? ⟨b,j,none⟩
 mine:∀b,(m.ow b).isSome=true→b < w.heap.size∧(c.w0.heap.size≤b∨c.B0 b)∧∀o,¬c.Mc b o
 callers:∀b o,c.Mc b o→b < c.w0.heap.size
 lamL:m.lam.length=σ.L.length
 holes:∀k:Nat,σ.L[k]? =some Bx.hole→m.lam[k]? =some none
 boxes:∀(k:Nat) r b,σ.L[k]? =some r→m.lam[k]? =some (some b)→BoxAt w (MM c.Mc m.ow m.lo) b r.x∧c.w0.heap.size≤b∧
  (r.fz=false→m.ow b=some (.box k)∧m.lo b=0)∧(r.fz=true→∀o,¬MM c.Mc m.ow m.lo b o)
 objs:∀id x,look σ.G id=some x→BoxAt w (MM c.Mc m.ow m.lo) id x∧m.ow id=some .obj∧m.lo id=0
 blks:∀b,c.B0 b→m.ow b=some .obj
 objlo:∀b,m.ow b=some .obj→m.lo b=0
 objs0:∀id r,look c.G0 id=some r→∃r',look σ.G id=some r'∧r.same r'=true
 tabs:∀g x,look c.tab g=some x→∃cs,Reads w (MM c.Mc m.ow m.lo) ⟨g,0,none⟩ cs∧RepV w (MM c.Mc m.ow m.lo) x cs
 vsN:σ.vs.length≤c.N
 vsK:σ.vs.length=c.K
 envV:∀(t:Nat) d,σ.vs[t]? =some (some d)→RepD c m w σ.L σ.G t d (a.tmps.getD t undef)
 envT:∀t d,look σ.ts t=some d→σ.vs.length≤t∧t < c.N∧RepD c m w σ.L σ.G t d (a.tmps.getD t undef)
/-! ### laws of worlds -/
theorem cell_shape {w:World} {a:Addr} {v:Value} (h:w.cell? a=some v):∃e n,w.shape? a.block=some (e,n)∧a.off < n∧a.spot=none:=by
 unfold World.cell? at h;unfold World.shape?
 split at h
 ·rename_i c e f hb
  split at h
  ·cases h
  ·rename_i hs
   refine⟨e,c.size,rfl,?_,by simpa using hs⟩
   exact (Array.getElem?_eq_some_iff.1 h).1
 ·cases h
theorem shape_lt {w:World} {b:Nat} {s} (h:w.shape? b=some s):b < w.heap.size:=by
 unfold World.shape? at h
 by_cases hb:b < w.heap.size
 ·exact hb
 ·simp[Array.getElem?_eq_none (by omega:w.heap.size≤b)]at h
theorem cell_lt {w:World} {a:Addr} {v:Value} (h:w.cell? a=some v):a.block < w.heap.size:=by
 obtain⟨e,n,h1,_⟩:=cell_shape h;exact shape_lt h1
theorem frozen_addr (w:World) (a:Addr):w.frozen? a=w.frozen? ⟨a.block,a.off,none⟩:=rfl
theorem shape_of_heap {w w':World} {b:Nat} (h:w'.heap[b]? =w.heap[b]?):w'.shape? b=w.shape? b:=by simp[World.shape?,h]
/-! ### what a step leaves -/
structure Tr (c:Ctx) (m:Mem) (w:World) (L:List Bx) (G:List (Nat×V)) (m':Mem) (w':World) (L':List Bx) (G':List (Nat×V)) (ex:Nat→Prop):Prop where
 goes:Goes w (MM c.Mc m.ow m.lo) w' (MM c.Mc m'.ow m'.lo)
 shape:∀b s,w.shape? b=some s→w'.shape? b=some s
 frz:∀b,(w.shape? b).isSome=true→(∀t,m.ow b=some (.slot t)→¬ex t)→∀j,w'.frozen? ⟨b,j,none⟩=w.frozen? ⟨b,j,none⟩
 lam:∀(k b:Nat),m.lam[k]? =some (some b)→m'.lam[k]? =some (some b)
 locs:∀(k:Nat) r b,m.lam[k]? =some (some b)→L[k]? =some r→∃r',L'[k]? =some r'∧r.x.same r'.x=true
 objs:∀id r,look G id=some r→∃r',look G' id=some r'∧r.same r'=true
 own:∀t,¬ex t→∀b,m.ow b=some (.slot t)→m'.ow b=some (.slot t)∧m'.lo b=m.lo b
 ob:∀b,m.ow b=some .obj→m'.ow b=some .obj∧m'.lo b=m.lo b
 obN:∀b,m'.ow b=some .obj→m.ow b=some .obj∨m'.lo b=0
theorem RepW.goes {w M w' M' x v} (g:Goes w M w' M') (h:RepW w M x v):RepW w' M' x v:=by
 unfold RepW at*
 split at h<;>rename_i hx
 ·rw[if_pos hx];obtain⟨cs,h1,h2⟩:=h;exact⟨cs,h1,h2.goes g⟩
 ·rw[if_neg hx];exact h.goes g
theorem V.same_sub_arr:∀{p:List Nat} {x y:V} {k n xs},x.same y=true→x.sub p=some (.arr k n xs)→∃ys,y.sub p=some (.arr k n ys)
 |[],x,y,k,n,xs,hs,h=>by
  simp only[V.sub]at h⊢;cases h
  cases y<;>try (simp[V.same]at hs;done)
  simp[V.same]at hs;exact⟨_,by rw[hs.1,hs.2]⟩
 |i::p,.agg l,y,k,n,xs,hs,h=>by
  cases y<;>try (simp[V.same]at hs;done)
  rename_i m
  simp only[V.same]at hs
  simp only[V.sub]at h⊢
  cases hz:l[i]? with
  |none=>simp[hz]at h
  |some z=>
   simp only[hz]at h
   obtain⟨u,h2,h3,h4⟩:=V.sameL_get hs hz
   simp only[h2];exact V.same_sub_arr h3 h
 |[i],.arr k n xs,y,_,_,_,hs,h=>by simp only[V.sub]at h;split at h<;>cases h
 |i::j::p,.arr ..,_,_,_,_,_,h=>by simp[V.sub]at h
 |i::p,.int ..,_,_,_,_,_,h|i::p,.bool ..,_,_,_,_,_,h|i::p,.str ..,_,_,_,_,_,h|i::p,.sli ..,_,_,_,_,_,h|i::p,.sle ..,_,_,_,_,_,h|i::p,.nils,_,_,_,_,_,h|i::p,.ptr ..,_,_,_,_,_,h|i::p,.nilp,_,_,_,_,_,h|i::p,.nili,_,_,_,_,_,h|i::p,.fn ..,_,_,_,_,_,h|i::p,.sob ..,_,_,_,_,_,h=>by simp[V.sub]at h
theorem Spare.tr {c m w L G m' w' L' G' ex} (T:Tr c m w L G m' w' L' G' ex) {t:Nat} (ht:¬ex t) {x:V} {v:Value} (h:Spare w m.ow m.lo t x v):Spare w' m'.ow m'.lo t x v:=by
 obtain⟨a,cap,h2,h3⟩:=h
 refine⟨a,cap,h2,?_⟩
 rcases h3 with h3|⟨b,o,e,h0,h4,h5,h6,h7,h8⟩
 ·exact .inl h3
 ·obtain⟨h9,h10⟩:=T.own t ht b h5
  exact .inr ⟨b,o,e,h0,h4,h9,h10.trans h6,T.shape _ _ h7,fun j hj=>(T.frz b (by simp[h7]) (fun t' e'=>by rw[h5]at e';cases e';exact ht) j).trans (h8 j hj)⟩
theorem RepD.tr {c m w L G m' w' L' G' ex} (T:Tr c m w L G m' w' L' G' ex) {t:Nat} (ht:¬ex t):∀{d:D} {v:Value},RepD c m w L G t d v→RepD c m' w' L' G' t d v
 | .v x,v,h=>RepW.goes T.goes h
 | .own x,v,⟨h1,a,cap,h2,h3⟩=>by
  refine⟨RepW.goes T.goes h1,a,cap,h2,?_⟩
  rcases h3 with h3|⟨b,o,e,h0,h4,h5,h6,h7,h8⟩
  ·exact .inl h3
  ·obtain⟨h9,h10⟩:=T.own t ht b h5
   exact .inr ⟨b,o,e,h0,h4,h9,h10.trans h6,T.shape _ _ h7,fun j hj=>(T.frz b (by simp[h7]) (fun t' e'=>by rw[h5]at e';cases e';exact ht) j).trans (h8 j hj)⟩
 | .row x,v,⟨h1,b,e,h2,h3,h4,h5,h6⟩=>by
  obtain⟨h9,h10⟩:=T.own t ht b h3
  exact⟨RepW.goes T.goes h1,b,e,h2,h9,h10.trans h4,T.shape _ _ h5,fun j=>(T.frz b (by simp[h5]) (fun t' e'=>by rw[h3]at e';cases e';exact ht) j).trans (h6 j)⟩
 | .gro x,v,⟨a,l,cap,h1,h2,h3,h4,h5⟩=>⟨a,l,cap,h1,h2,h3,RepW.goes T.goes h4,Spare.tr T ht h5⟩
 | .jk,v,h=>trivial
 | .lp k p,v,⟨b,r,o,h1,h2,h3,h4⟩=>by
  obtain⟨r',h5,h6⟩:=T.locs k r b h1 h2
  exact⟨b,r',o,T.lam _ _ h1,h5,V.same_off h6 h3,h4⟩
 | .gp id p,v,⟨r,o,h2,h3,h4⟩=>by
  obtain⟨r',h5,h6⟩:=T.objs id r h2
  exact⟨r',o,h5,V.same_off h6 h3,h4⟩
 | .ep x,v,⟨q,cs,h1,h2,h3⟩=>⟨q,cs,h1,h2.goes T.goes,h3.goes T.goes⟩
 | .vw k p n,v,⟨b,r,o,kk,xs,h1,h2,h3,h4,h5⟩=>by
  obtain⟨r',h6,h7⟩:=T.locs k r b h1 h2
  obtain⟨ys,h8⟩:=V.same_sub_arr h7 h4
  exact⟨b,r',o,kk,ys,T.lam _ _ h1,h6,V.same_off h7 h3,h8,h5⟩
 | .tup l,v,⟨vs,h1,h2,h3⟩=>⟨vs,h1,h2,fun i x hx=>let ⟨u,hu,hr⟩:=h3 i x hx;⟨u,hu,hr.goes T.goes⟩⟩
 | .fn f,v,h=>h
 | .gl g,v,h=>h
 | .e0,v,h=>h
 | .un,v,h=>h
theorem BoxAt.tr {w M w' M' b x} (g:Goes w M w' M') (hs:∀s,w.shape? b=some s→w'.shape? b=some s) (hf:∀j,w'.frozen? ⟨b,j,none⟩=w.frozen? ⟨b,j,none⟩)
  (hc:∀i v,w.cell? ⟨b,i,none⟩=some v→w'.cell? ⟨b,i,none⟩=some v) (h:BoxAt w M b x):BoxAt w' M' b x:=by
 obtain⟨cs,e,h1,h2,h3,h4⟩:=h
 exact⟨cs,e,hs _ h1,fun i v hv=>hc i v (h2 i v hv),fun j=>(hf j).trans (h3 j),h4.goes g⟩
theorem Tr.refl (c m w L G):Tr c m w L G m w L G (fun _=>False):=
 ⟨Goes.refl _ _,fun _ _ h=>h,fun _ _ _ _=>rfl,fun _ _ h=>h,fun _ r _ _ h=>⟨r,h,V.same_refl _⟩,fun _ r h=>⟨r,h,V.same_refl _⟩,fun _ _ _ h=>⟨h,rfl⟩,fun _ h=>⟨h,rfl⟩,fun _ h=> .inl h⟩
theorem look_cons {α:Type} (k:Nat) (d:α) (e:List (Nat×α)) (t:Nat):look ((k,d)::e) t=if t=k then some d else look e t:=by
 by_cases h:t=k
 ·simp[look,h]
 ·have:(t==k)=false:=by simpa using h
  simp[look,h,this]
theorem getD_set {a:Array Value} {i j:Nat} {v:Value} (h:i < a.size):(a.setIfInBounds i v).getD j undef=if j=i then v else a.getD j undef:=by
 simp only[Array.getD_eq_getD_getElem?,Array.getElem?_setIfInBounds]
 by_cases hj:i=j
 ·subst hj;simp[h]
 ·rw[if_neg hj,if_neg (fun e=>hj e.symm)]
theorem InvW.putV {c m σ a w} (h:InvW c m σ a w) {t:Nat} {d:D} {v:Value} (ht:t < σ.vs.length) (hd:RepD c m w σ.L σ.G t d v):InvW c m (σ.putV t d) (a.put (some t) v) w:=by
 have hsz:t < a.tmps.size:=by rw[h.size];exact Nat.lt_of_lt_of_le ht h.vsN
 refine { h with vsN:=by simpa [St.putV]using h.vsN,vsK:=by simpa [St.putV]using h.vsK,envV:= ?_,envT:= ?_,size:=by simpa [Act.put]using h.size,defers:=h.defers }
 ·intro t' d' hg
  simp only[St.putV]at hg
  simp only[Act.put,getD_set hsz]
  by_cases e:t'=t
  ·subst e;rw[List.getElem?_set_self ht]at hg;rw[if_pos rfl];cases hg;exact hd
  ·rw[List.getElem?_set_ne (fun h=>e h.symm)]at hg;rw[if_neg e];exact h.envV t' d' hg
 ·intro t' d' hg
  obtain⟨h1,h2,h3⟩:=h.envT t' d' hg
  simp only[Act.put,getD_set hsz]
  rw[if_neg (by omega)]
  exact⟨by simpa [St.putV]using h1,h2,h3⟩
theorem InvW.putT {c m σ a w} (h:InvW c m σ a w) {t:Nat} {d:D} {v:Value} (ht:t < c.N) (hK:σ.vs.length≤t) (hd:RepD c m w σ.L σ.G t d v):InvW c m (σ.putT t d) (a.put (some t) v) w:=by
 have hsz:t < a.tmps.size:=by rw[h.size];exact ht
 refine { h with envV:= ?_,envT:= ?_,size:=by simpa [Act.put]using h.size,defers:=h.defers }
 ·intro t' d' hg
  have hlt:t' < σ.vs.length:=(List.getElem?_eq_some_iff.1 hg).1
  simp only[Act.put,getD_set hsz]
  rw[if_neg (by omega)];exact h.envV t' d' hg
 ·intro t' d' hg
  simp only[St.putT,look_cons]at hg
  simp only[Act.put,getD_set hsz]
  by_cases e:t'=t
  ·subst e;rw[if_pos rfl]at hg⊢;cases hg;exact⟨hK,ht,hd⟩
  ·rw[if_neg e]at hg⊢;exact h.envT t' d' hg
end Go.Abs
namespace Go.Abs
open Go Go.RowKit
theorem run_bind {α β:Type} {P:Program} {s:Sem α} {f:α→Sem β} {w w1:World} {x:α} (h:s.run P w= .ok x w1):(s >>= f).run P w=(f x).run P w1:=by
 rw[Sem.run_bind,h];rfl
theorem run_pure {α:Type} {P:Program} {w:World} (x:α):(pure x:Sem α).run P w= .ok x w:=rfl
theorem run_underlying {P:Program} {w:World} {t:TypeId} {d:TypeDesc} (h:P.underlying t=some d):(underlying t).run P w= .ok d w:=by
 unfold underlying
 rw[run_bind (x:=P) (w1:=w) rfl,h];rfl
theorem run_typeInfo {P:Program} {w:World} {t:TypeId} {i:TypeInfo} (h:P.info? t=some i):(typeInfo t).run P w= .ok i w:=by
 unfold typeInfo
 rw[run_bind (x:=P) (w1:=w) rfl,h];rfl
theorem run_sizeOf {P:Program} {w:World} {t:TypeId} {i:TypeInfo} (h:P.info? t=some i):(sizeOf t).run P w= .ok i.size w:=by
 unfold sizeOf;rw[run_bind (run_typeInfo h)];rfl
def aggB:TypeDesc→Bool
 | .struct _| .array _ _=>true
 |_=>false
theorem run_isAgg {P:Program} {w:World} {t:TypeId} {d:TypeDesc} (h:P.underlying t=some d):(isAgg t).run P w= .ok (aggB d) w:=by
 unfold isAgg;rw[run_bind (run_underlying h)];cases d<;>rfl
theorem run_load {P:Program} {w:World} {a:Addr} {v:Value} (h:w.cell? a=some v):(load a).run P w= .ok v w:=by
 simp[load,Sem.run,h]
theorem run_loadCellsFrom {P:Program} {w:World} {a:Addr}:∀(cs:List Value) (i:Nat) (acc:Array Value),(∀(j:Nat) v,cs[j]? =some v→w.cell? (a.add (i+j))=some v)→
  (loadCellsFrom a i cs.length acc).run P w= .ok (acc++cs.toArray) w
 |[],i,acc,_=>by simp[loadCellsFrom]
 |x::cs,i,acc,h=>by
  simp only[List.length_cons,loadCellsFrom]
  rw[run_bind (run_load (a:=a.add i) (h 0 x rfl))]
  rw[run_loadCellsFrom cs (i+1) (acc.push x) (fun j v hv=>by have:=h (j+1) v (by simpa using hv);rwa [show i+1+j=i+(j+1)by omega])]
  congr 1
  apply Array.toList_inj.1;simp
theorem run_loadCells {P:Program} {w:World} {a:Addr} {M} {cs:List Value} (h:Reads w M a cs):(loadCells a cs.length).run P w= .ok cs.toArray w:=by
 unfold loadCells
 rw[run_loadCellsFrom cs 0 #[] (fun j v hv=>by rw[Nat.zero_add];exact (h j v hv).1)]
 simp
def Cells (w:World) (a:Addr) (cs:List Value):Prop:=∀(i:Nat) v,cs[i]? =some v→w.cell? (a.add i)=some v
theorem Reads.cells {w M a cs} (h:Reads w M a cs):Cells w a cs:=fun i v hv=>(h i v hv).1
theorem run_loadCells' {P:Program} {w:World} {a:Addr} {cs:List Value} (h:Cells w a cs):(loadCells a cs.length).run P w= .ok cs.toArray w:=by
 unfold loadCells
 rw[run_loadCellsFrom cs 0 #[] (fun j v hv=>by rw[Nat.zero_add];exact h j v hv)]
 simp
theorem RepV.leaf {w M x cs} (h:RepV w M x cs) (hx:x.isAgg=false):∃v,cs=[v]∧RepV w M x [v]:=by
 have:=h.len
 cases x<;>simp[V.isAgg]at hx<;>simp only[V.size]at this<;>
  (obtain⟨v,rfl⟩:=List.length_eq_one_iff.1 this;exact⟨v,rfl,h⟩)
theorem run_loadVar {P:Program} {w:World} {a:Addr} {M} {cs:List Value} {x:V} {t:TypeId} {i:TypeInfo} {d:TypeDesc} (hi:P.info? t=some i) (hd:P.underlying t=some d)
  (hs:i.size=x.size) (hg:aggB d=x.isAgg) (hc:Cells w a cs) (hx:RepV w M x cs):∃v,(loadVar t a).run P w= .ok v w∧RepW w M x v:=by
 unfold loadVar
 rw[run_bind (run_isAgg hd),hg]
 cases e:x.isAgg with
 |true=>
  refine⟨.agg cs.toArray,?_,?_⟩
  ·simp only[if_true]
   rw[run_bind (run_sizeOf hi),hs,←hx.len,run_bind (run_loadCells' hc)];rfl
  ·simp only[RepW,e,if_true];exact⟨_,rfl,by simpa using hx⟩
 |false=>
  obtain⟨v,rfl,hv⟩:=hx.leaf e
  refine⟨v,?_,?_⟩
  ·simp only[Bool.false_eq_true,if_false]
   exact run_load (by have:=hc 0 v rfl;simpa [Addr.add]using this)
  ·simp only[RepW,e,Bool.false_eq_true,if_false];exact hv
theorem RepW.cells {w M x v} (h:RepW w M x v):RepV w M x v.cells.toList:=by
 unfold RepW at h
 split at h
 ·obtain⟨cs,rfl,h⟩:=h;exact h
 ·rename_i hx
  have hx:x.isAgg=false:=by simpa using hx
  cases x<;>simp[V.isAgg]at hx<;>simp only[RepV]at h<;>first
   |(cases h;simp[RepV,Value.cells];done)
   |(obtain⟨a,cap,h1,h2⟩:=h;cases h1;simp only[RepV,Value.cells];exact⟨a,cap,by simp,h2⟩)
   |(obtain⟨h0,ad,h1,h2⟩:=h;cases h1;simp only[RepV,Value.cells];exact⟨h0,ad,by simp,h2⟩)
   |(obtain⟨vs,h1,h2⟩:=h;cases h1;simp only[RepV,Value.cells];exact⟨vs,by simp,h2⟩)
theorem cell_setCell {w:World} {p q:Addr} {v u:Value} (h:w.cell? q=some u) (hp:∃u',w.cell? p=some u'):(w.setCell p v).cell? q=some (if q=p then v else u):=by
 obtain⟨u',hu'⟩:=hp
 obtain⟨e,n,h1,h2,h3⟩:=cell_shape h
 obtain⟨e',n',h1',h2',h3'⟩:=cell_shape hu'
 obtain⟨qb,qo,qs⟩:=q;obtain⟨pb,po,ps⟩:=p
 simp only at h3 h3';subst h3 h3'
 unfold World.cell? at h⊢
 simp only[World.setCell,Array.getElem?_modify]
 by_cases hb:pb=qb
 ·subst hb
  simp only[if_true]
  cases hh:w.heap[pb]? with
  |none=>simp[hh]at h
  |some o=>
   simp only[hh]at h
   cases o<;>simp only[Option.map_some]at h⊢<;>first
    |(cases h;done)
    |(simp only[Option.isSome_none,Bool.false_eq_true,if_false]at h⊢
      rw[Array.getElem?_setIfInBounds]
      by_cases ho:po=qo
      ·subst ho
       have:po < _:=(Array.getElem?_eq_some_iff.1 h).1
       simp[this]
      ·simp only[if_neg ho,h]
       rw[if_neg (by simp;omega)])
 ·rw[if_neg hb,h,if_neg (by simp;intro e;exact absurd e.symm hb)]
theorem shape_setCell (w:World) (p:Addr) (v:Value) (b:Nat):(w.setCell p v).shape? b=w.shape? b:=by
 unfold World.shape? World.setCell
 simp only[Array.getElem?_modify]
 by_cases hb:p.block=b
 ·rw[if_pos hb]
  cases hh:w.heap[b]? with
  |none=>rfl
  |some o=>
   cases o<;>simp
   by_cases hs:p.spot.isSome=true<;>simp[hs]
 ·rw[if_neg hb]
theorem frozen_setCell (w:World) (p q:Addr) (v:Value):(w.setCell p v).frozen? q=w.frozen? q:=by
 unfold World.frozen? World.setCell
 simp only[Array.getElem?_modify]
 by_cases hb:p.block=q.block
 ·rw[if_pos hb]
  cases hh:w.heap[q.block]? with
  |none=>rfl
  |some o=>cases o<;>simp
 ·rw[if_neg hb]
def plainV:Value→Bool
 | .agg _| .tuple _=>false
 |_=>true
mutual
theorem RepV.plain {w M}:∀{x cs},RepV w M x cs→∀v∈cs,plainV v=true
 | .int ..,_,h=>by simp only[RepV]at h;subst h;simp[plainV]
 | .bool ..,_,h=>by simp only[RepV]at h;subst h;simp[plainV]
 | .str ..,_,h=>by simp only[RepV]at h;subst h;simp[plainV]
 | .arr ..,_,h=>by simp only[RepV]at h;obtain⟨_,ad,rfl,_⟩:=h;simp[plainV]
 | .agg l,_,h=>by simp only[RepV]at h;exact RepL.plain h
 | .sli ..,_,h=>by simp only[RepV]at h;obtain⟨a,cap,rfl,_⟩:=h;simp[plainV]
 | .sle ..,_,h=>by simp only[RepV]at h;obtain⟨a,cap,rfl,_⟩:=h;simp[plainV]
 | .nils,_,h=>by simp only[RepV]at h;subst h;simp[plainV]
 | .ptr ..,_,h=>by simp only[RepV]at h;subst h;simp[plainV]
 | .nilp,_,h=>by simp only[RepV]at h;subst h;simp[plainV]
 | .nili,_,h=>by simp only[RepV]at h;subst h;simp[plainV]
 | .fn ..,_,h=>by simp only[RepV]at h;obtain⟨vs,rfl,_⟩:=h;simp[plainV]
 | .sob ..,_,h=>by simp only[RepV]at h;obtain⟨_,ad,rfl,_⟩:=h;simp[plainV]
theorem RepL.plain {w M}:∀{l cs},RepL w M l cs→∀v∈cs,plainV v=true
 |[],_,h=>by simp only[RepL]at h;subst h;simp
 |x::l,_,h=>by
  simp only[RepL]at h;obtain⟨c1,c2,rfl,h1,h2⟩:=h
  intro v hv
  rcases List.mem_append.1 hv with hv|hv
  ·exact RepV.plain h1 v hv
  ·exact RepL.plain h2 v hv
end
theorem run_store {P:Program} {w:World} {a:Addr} {v u:Value} (hc:w.cell? a=some u) (hf:w.frozen? a=false) (hv:plainV v=true):(store a v).run P w= .ok () (w.setCell a v):=by
 cases v<;>first
  |(simp[plainV]at hv;done)
  |simp[store,Sem.run,hc,hf]
def World.setCells (w:World) (a:Addr):List Value→Nat→World
 |[],_=>w
 |v::l,i=>World.setCells (w.setCell (a.add i) v) a l (i+1)
theorem run_storeCells {P:Program} {a:Addr}:∀(l:List Value) (w:World) (i:Nat),(∀j,j < l.length→∃u,w.cell? (a.add (i+j))=some u)→
  (∀j,j < l.length→w.frozen? (a.add (i+j))=false)→(∀v∈l,plainV v=true)→(storeCells a l i).run P w= .ok () (World.setCells w a l i)
 |[],w,i,_,_,_=>rfl
 |v::l,w,i,hc,hf,hv=>by
  simp only[storeCells,World.setCells]
  obtain⟨u,hu⟩:=hc 0 (by simp)
  rw[run_bind (run_store (a:=a.add i) hu (hf 0 (by simp)) (hv v (by simp)))]
  apply run_storeCells l
  ·intro j hj
   obtain⟨u',hu'⟩:=hc (j+1) (by simp;omega)
   rw[show i+(j+1)=i+1+j by omega]at hu'
   exact⟨_,cell_setCell hu' ⟨_,hu⟩⟩
  ·intro j hj
   rw[frozen_setCell];have:=hf (j+1) (by simp;omega);rwa [show i+(j+1)=i+1+j by omega]at this
  ·intro v' hv';exact hv v' (by simp[hv'])
end Go.Abs
namespace Go.Abs
open Go Go.RowKit
set_option linter.unusedVariables false
theorem InvW.stepX {c m σ a w} (h:InvW c m σ a w) {m':Mem} {w1:World} {L':List Bx} {G':List (Nat×V)} {vs':List (Option D)} {ts':List (Nat×D)} {ex:Nat→Prop}
  (T:Tr c m w σ.L σ.G m' w1 L' G' ex) (X:Nat→Prop) (hX:∀b,X b→(m.ow b).isSome=true)
  (hkeep:∀b,b < w.heap.size→¬X b→w1.heap[b]? =w.heap[b]?)
  (hos:w1.os=w.os) (htape:w1.tape=w.tape) (hout:w1.output=w.output) (hsz:w.heap.size≤w1.heap.size)
  (hmine:∀b,(m'.ow b).isSome=true→(m.ow b).isSome=true∨(w.heap.size≤b∧b < w1.heap.size))
  (hlam:m'.lam.length=L'.length)
  (hboxes:∀(k:Nat) r b,L'[k]? =some r→m'.lam[k]? =some (some b)→BoxAt w1 (MM c.Mc m'.ow m'.lo) b r.x∧c.w0.heap.size≤b∧
   (r.fz=false→m'.ow b=some (.box k)∧m'.lo b=0)∧(r.fz=true→∀o,¬MM c.Mc m'.ow m'.lo b o))
  (hobjs:∀id x,look G' id=some x→BoxAt w1 (MM c.Mc m'.ow m'.lo) id x∧m'.ow id=some .obj∧m'.lo id=0)
  (hvs:vs'.length=σ.vs.length)
  (hV:∀(t:Nat) d,vs'[t]? =some (some d)→RepD c m' w1 L' G' t d (a.tmps.getD t undef))
  (hT:∀t d,look ts' t=some d→σ.vs.length≤t∧t < c.N∧RepD c m' w1 L' G' t d (a.tmps.getD t undef))
  (hH:∀k:Nat,L'[k]? =some Bx.hole→m'.lam[k]? =some none):
  InvW c m' { vs:=vs',ts:=ts',L:=L',G:=G' } a w1 where
 defers:=h.defers
 size:=h.size
 os:=hos.trans h.os
 tape:=htape.trans h.tape
 output:=hout.trans h.output
 grown:=Nat.le_trans h.grown hsz
 old:=fun b hb hB=>by
  rw[hkeep b (Nat.lt_of_lt_of_le hb h.grown) (fun e=>by
   have:=(h.mine b (hX b e)).2.1
   rcases this with h1|h1
   ·omega
   ·exact hB h1)]
  exact h.old b hb hB
 oldB:=fun b s hB hs=>by
  obtain⟨h1,h2⟩:=h.oldB b s hB hs
  exact⟨T.shape _ _ h1,fun j=>(T.frz b (by simp[h1]) (fun t e'=>by rw[h.blks b hB]at e';cases e') j).trans (h2 j)⟩
 mine:=fun b hb=>by
  rcases hmine b hb with h1|⟨h1,h2⟩
  ·obtain⟨h3,h4,h5⟩:=h.mine b h1;exact⟨by omega,h4,h5⟩
  ·refine⟨h2,.inl (by have:=h.grown;omega),fun o ho=> ?_⟩
   have:=h.callers b o ho;have:=h.grown;omega
 callers:=h.callers
 lamL:=hlam
 holes:=hH
 boxes:=hboxes
 objs:=hobjs
 blks:=fun b hb=>(T.ob b (h.blks b hb)).1
 objlo:=fun b hb=>by
  rcases T.obN b hb with h1|h1
  ·rw[(T.ob b h1).2];exact h.objlo b h1
  ·exact h1
 objs0:=fun id r hr=>by
  obtain⟨r1,h1,h2⟩:=h.objs0 id r hr
  obtain⟨r2,h3,h4⟩:=T.objs id r1 h1
  exact⟨r2,h3,V.same_trans' h2 h4⟩
 tabs:=fun g x hx=>by
  obtain⟨cs,h1,h2⟩:=h.tabs g x hx
  exact⟨cs,h1.goes T.goes,h2.goes T.goes⟩
 vsN:=by rw[hvs];exact h.vsN
 vsK:=by rw[hvs];exact h.vsK
 envV:=hV
 envT:=fun t d hd=>by rw[hvs];exact hT t d hd
theorem InvW.step {c m σ a w} (h:InvW c m σ a w) {m':Mem} {w1:World} {L':List Bx} {G':List (Nat×V)} {vs':List (Option D)} {ts':List (Nat×D)} {ex:Nat→Prop}
  (T:Tr c m w σ.L σ.G m' w1 L' G' ex) (tb:Option Nat) (htb:∀b,tb=some b→(m.ow b).isSome=true)
  (hkeep:∀b,b < w.heap.size→tb≠some b→w1.heap[b]? =w.heap[b]?)
  (hos:w1.os=w.os) (htape:w1.tape=w.tape) (hout:w1.output=w.output) (hsz:w.heap.size≤w1.heap.size)
  (hmine:∀b,(m'.ow b).isSome=true→(m.ow b).isSome=true∨(w.heap.size≤b∧b < w1.heap.size))
  (hlam:m'.lam.length=L'.length)
  (hboxes:∀(k:Nat) r b,L'[k]? =some r→m'.lam[k]? =some (some b)→BoxAt w1 (MM c.Mc m'.ow m'.lo) b r.x∧c.w0.heap.size≤b∧
   (r.fz=false→m'.ow b=some (.box k)∧m'.lo b=0)∧(r.fz=true→∀o,¬MM c.Mc m'.ow m'.lo b o))
  (hobjs:∀id x,look G' id=some x→BoxAt w1 (MM c.Mc m'.ow m'.lo) id x∧m'.ow id=some .obj∧m'.lo id=0)
  (hvs:vs'.length=σ.vs.length)
  (hV:∀(t:Nat) d,vs'[t]? =some (some d)→RepD c m' w1 L' G' t d (a.tmps.getD t undef))
  (hT:∀t d,look ts' t=some d→σ.vs.length≤t∧t < c.N∧RepD c m' w1 L' G' t d (a.tmps.getD t undef))
  (hH:∀k:Nat,L'[k]? =some Bx.hole→m'.lam[k]? =some none):
  InvW c m' { vs:=vs',ts:=ts',L:=L',G:=G' } a w1:=
 h.stepX T (fun b=>tb=some b) htb hkeep hos htape hout hsz hmine hlam hboxes hobjs hvs hV hT hH
theorem heap_alloc_lt {w:World} {o:Obj} {b:Nat} (h:b < w.heap.size):(w.alloc o).heap[b]? =w.heap[b]? :=by
 show (w.heap.push o)[b]? =_
 rw[Array.getElem?_push,if_neg (by omega)]
theorem heap_alloc_eq {w:World} {o:Obj}:(w.alloc o).heap[w.heap.size]? =some o:=by
 show (w.heap.push o)[w.heap.size]? =_
 rw[Array.getElem?_push,if_pos rfl]
theorem size_alloc {w:World} {o:Obj}:(w.alloc o).heap.size=w.heap.size+1:=by
 show (w.heap.push o).size=_;simp
theorem cell_alloc {w:World} {o:Obj} {a:Addr} {v:Value} (h:w.cell? a=some v):(w.alloc o).cell? a=some v:=by
 rw[World.cell?_of_block (heap_alloc_lt (cell_lt h))];exact h
theorem shape_alloc {w:World} {o:Obj} {b:Nat} {s} (h:w.shape? b=some s):(w.alloc o).shape? b=some s:=by
 rw[shape_of_heap (heap_alloc_lt (shape_lt h))];exact h
theorem frozen_alloc {w:World} {o:Obj} {b j:Nat} (h:b < w.heap.size):(w.alloc o).frozen? ⟨b,j,none⟩=w.frozen? ⟨b,j,none⟩:=by
 simp only[World.frozen?,heap_alloc_lt h]
def Mem.own1 (m:Mem) (b:Nat) (pl:Option Place) (l:Nat):Mem:={ m with ow:=fun b'=>if b'=b then pl else m.ow b',lo:=fun b'=>if b'=b then l else m.lo b' }
theorem goes_new {c m w σ a} (h:InvW c m σ a w) {o:Obj} {pl:Option Place} {l:Nat} {lam:List (Option Nat)}:
  Goes w (MM c.Mc m.ow m.lo) (w.alloc o) (MM c.Mc ({ m.own1 w.heap.size pl l with lam:=lam }:Mem).ow ({ m.own1 w.heap.size pl l with lam:=lam }:Mem).lo):=by
 intro q v hv hM
 have hlt:=cell_lt hv
 refine⟨cell_alloc hv,fun hM'=>hM ?_⟩
 simp only[MM,Mem.own1]at hM'⊢
 rw[if_neg (by omega),if_neg (by omega)]at hM'
 exact hM'
theorem tr_new {c m w σ a} (h:InvW c m σ a w) {o:Obj} {pl:Option Place} {l:Nat} (hpo:pl=some .obj→l=0) (xs:List (Option Nat)) (ys:List Bx):
  Tr c m w σ.L σ.G { m.own1 w.heap.size pl l with lam:=m.lam++xs } (w.alloc o) (σ.L++ys) σ.G (fun _=>False) where
 goes:=goes_new h
 shape:=fun b s hs=>shape_alloc hs
 frz:=fun b hb _ j=>by
  cases hs:w.shape? b with
  |none=>simp[hs]at hb
  |some s=>exact frozen_alloc (shape_lt hs)
 lam:=fun k b hk=>by
  have:k < m.lam.length:=(List.getElem?_eq_some_iff.1 hk).1
  show (m.lam++xs)[k]? =_
  rw[List.getElem?_append_left this];exact hk
 locs:=fun k r b _ hk=>by
  have:k < σ.L.length:=(List.getElem?_eq_some_iff.1 hk).1
  exact⟨r,by rw[List.getElem?_append_left this];exact hk,V.same_refl _⟩
 objs:=fun id r hr=>⟨r,hr,V.same_refl _⟩
 own:=fun t _ b hb=>by
  have:=(h.mine b (by simp[hb])).1
  simp only[Mem.own1];rw[if_neg (by omega),if_neg (by omega)];exact⟨hb,rfl⟩
 ob:=fun b hb=>by
  have:=(h.mine b (by simp[hb])).1
  simp only[Mem.own1];rw[if_neg (by omega),if_neg (by omega)];exact⟨hb,rfl⟩
 obN:=fun b hb=>by
  simp only[Mem.own1]at hb⊢
  by_cases e:b=w.heap.size
  ·rw[if_pos e]at hb⊢;exact .inr (hpo hb)
  ·rw[if_neg e]at hb;exact .inl hb
theorem BoxAt.lt {w M b x} (h:BoxAt w M b x):b < w.heap.size:=by
 obtain⟨cs,e,h1,_⟩:=h;exact shape_lt h1
theorem BoxAt.new {w M M' b x o} (h:BoxAt w M b x) (g:Goes w M (w.alloc o) M'):BoxAt (w.alloc o) M' b x:=by
 have hlt:=h.lt
 exact BoxAt.tr g (fun s hs=>shape_alloc hs) (fun j=>frozen_alloc hlt) (fun i v hv=>cell_alloc hv) h
theorem InvW.box {c m σ a w} (h:InvW c m σ a w) {x:V} {cs:List Value} {e:TypeId} (hx:RepV w (MM c.Mc m.ow m.lo) x cs):
  InvW c { m.own1 w.heap.size (some (.box σ.L.length)) 0 with lam:=m.lam++[some w.heap.size] } { σ with L:=σ.L++[⟨false,x⟩] } a (w.alloc (.cells cs.toArray e)):=by
 have T:=tr_new h (o:= .cells cs.toArray e) (pl:=some (.box σ.L.length)) (l:=0) (fun h=>by cases h) [some w.heap.size] [⟨false,x⟩]
 refine h.step T none (fun _ h=>by cases h) (fun b hb _=>heap_alloc_lt hb) rfl rfl rfl (by rw[size_alloc];omega) ?_ ?_ ?_ ?_ rfl ?_ ?_ ?hh
 case hh=>
  intro k hk
  have hk':(σ.L++[⟨false,x⟩])[k]? =some Bx.hole:=hk
  by_cases hlt:k < σ.L.length
  ·rw[List.getElem?_append_left hlt]at hk'
   show (m.lam++[some w.heap.size])[k]? =_
   rw[List.getElem?_append_left (by rw[h.lamL];exact hlt)];exact h.holes k hk'
  ·rw[List.getElem?_append_right (by omega)]at hk'
   have:=(List.getElem?_eq_some_iff.1 hk').1
   have e0:k-σ.L.length=0:=by simp at this;omega
   rw[e0]at hk';simp[Bx.hole]at hk'
 ·intro b hb
  simp only[Mem.own1]at hb
  by_cases e:b=w.heap.size
  ·exact .inr ⟨by omega,by rw[size_alloc];omega⟩
  ·rw[if_neg e]at hb;exact .inl hb
 ·simp[h.lamL]
 ·intro k r b hk hb
  have hk':(σ.L++[⟨false,x⟩])[k]? =some r:=hk
  have hb':(m.lam++[some w.heap.size])[k]? =some (some b):=hb
  by_cases hlt:k < σ.L.length
  ·rw[List.getElem?_append_left hlt]at hk'
   rw[List.getElem?_append_left (by rw[h.lamL];exact hlt)]at hb'
   obtain⟨h1,h2,h3,h4⟩:=h.boxes k r b hk' hb'
   have hbl:=h1.lt
   refine⟨h1.new T.goes,h2,fun hf=> ?_,fun hf o=> ?_⟩
   ·obtain⟨h5,h6⟩:=h3 hf
    simp only[Mem.own1];rw[if_neg (by omega),if_neg (by omega)];exact⟨h5,h6⟩
   ·have:=h4 hf o
    simp only[MM,Mem.own1]at this⊢;rw[if_neg (by omega),if_neg (by omega)];exact this
  ·rw[List.getElem?_append_right (by omega)]at hk'
   rw[List.getElem?_append_right (by rw[h.lamL];omega),h.lamL]at hb'
   have hk0:k-σ.L.length=0:=by
    have:=(List.getElem?_eq_some_iff.1 hk').1;simp at this;omega
   rw[hk0]at hk' hb';simp at hk' hb';subst hk' hb'
   have hkl:k=σ.L.length:=by omega
   refine⟨⟨cs,e,?_,?_,?_,hx.goes T.goes⟩,h.grown,fun _=> ?_,fun hf=>by cases hf⟩
   ·simp only[World.shape?,heap_alloc_eq,List.size_toArray]
   ·intro i v hv;simp only[World.cell?,heap_alloc_eq,Option.isSome_none,Bool.false_eq_true,if_false];simpa using hv
   ·intro j;simp only[World.frozen?,heap_alloc_eq];simp
   ·simp[Mem.own1,hkl]
 ·intro id y hy
  obtain⟨h1,h2,h3⟩:=h.objs id y hy
  have:=h1.lt
  refine⟨h1.new T.goes,?_⟩
  simp only[Mem.own1];rw[if_neg (by omega),if_neg (by omega)];exact⟨h2,h3⟩
 ·intro t d hd
  exact (h.envV t d hd).tr T (fun h=>h)
 ·intro t d hd
  obtain⟨h1,h2,h3⟩:=h.envT t d hd
  exact⟨h1,h2,h3.tr T (fun h=>h)⟩
theorem InvW.newO {c m σ a w} (h : InvW c m σ a w) {x : V} {cs : List Value} {e : TypeId} (hx : RepV w (MM c.Mc m.ow m.lo) x cs) :
    look σ.G w.heap.size = none ∧ InvW c (m.own1 w.heap.size (some .obj) 0) { σ with G := (w.heap.size, x) :: σ.G } a (w.alloc (.cells cs.toArray e)) := by
  have hlt : ∀ id r, look σ.G id = some r → id < w.heap.size := fun id r hr => (h.objs id r hr).1.lt
  have hnone : look σ.G w.heap.size = none := by
    cases e : look σ.G w.heap.size with
    | none => rfl
    | some r => have := hlt _ _ e; omega
  refine ⟨hnone, ?_⟩
  have T0 := tr_new h (o := .cells cs.toArray e) (pl := some .obj) (l := 0) (fun _ => rfl) [] []
  have T : Tr c m w σ.L σ.G (m.own1 w.heap.size (some .obj) 0) (w.alloc (.cells cs.toArray e)) σ.L ((w.heap.size, x) :: σ.G) (fun _ => False) :=
    { goes := T0.goes, shape := T0.shape, frz := T0.frz, lam := fun _ _ h => h, locs := fun _ r _ _ h => ⟨r, h, V.same_refl _⟩
      objs := fun id r hr => ⟨r, by rw [look_cons, if_neg (by have := hlt id r hr; omega)]; exact hr, V.same_refl _⟩
      own := T0.own, ob := T0.ob, obN := T0.obN }
  refine h.step T none (fun _ h => by cases h) (fun b hb _ => heap_alloc_lt hb) rfl rfl rfl (by rw [size_alloc]; omega) ?_ h.lamL ?_ ?_ rfl ?_ ?_ h.holes
  · intro b hb
    simp only [Mem.own1] at hb
    by_cases e : b = w.heap.size
    · exact .inr ⟨by omega, by rw [size_alloc]; omega⟩
    · rw [if_neg e] at hb; exact .inl hb
  · intro k r b hk hb
    obtain ⟨h1, h2, h3, h4⟩ := h.boxes k r b hk hb
    have hbl := h1.lt
    refine ⟨h1.new T.goes, h2, fun hf => ?_, fun hf o => ?_⟩
    · obtain ⟨h5, h6⟩ := h3 hf
      simp only [Mem.own1]; rw [if_neg (by omega), if_neg (by omega)]; exact ⟨h5, h6⟩
    · have := h4 hf o
      simp only [MM, Mem.own1] at this ⊢; rw [if_neg (by omega), if_neg (by omega)]; exact this
  · intro id y hy
    rw [look_cons] at hy
    by_cases e1 : id = w.heap.size
    · rw [if_pos e1] at hy; cases hy
      subst e1
      refine ⟨⟨cs, e, ?_, ?_, ?_, hx.goes T.goes⟩, by simp [Mem.own1], by simp [Mem.own1]⟩
      · simp only [World.shape?, heap_alloc_eq, List.size_toArray]
      · intro i v hv; simp only [World.cell?, heap_alloc_eq, Option.isSome_none, Bool.false_eq_true, if_false]; simpa using hv
      · intro j; simp only [World.frozen?, heap_alloc_eq]; simp
    · rw [if_neg e1] at hy
      obtain ⟨h1, h2, h3⟩ := h.objs id y hy
      have := h1.lt
      refine ⟨h1.new T.goes, ?_⟩
      simp only [Mem.own1]; rw [if_neg (by omega), if_neg (by omega)]; exact ⟨h2, h3⟩
  · intro t d hd
    exact (h.envV t d hd).tr T (fun h => h)
  · intro t d hd
    obtain ⟨h1, h2, h3⟩ := h.envT t d hd
    exact ⟨h1, h2, h3.tr T (fun h => h)⟩
theorem InvW.fill {c m σ a w} (h : InvW c m σ a w) {k : Nat} (hk : σ.L[k]? = some Bx.hole) {x : V} {cs : List Value} {e : TypeId} (hx : RepV w (MM c.Mc m.ow m.lo) x cs) :
    InvW c { m.own1 w.heap.size (some (.box k)) 0 with lam := m.lam.set k (some w.heap.size) } { σ with L := σ.L.set k ⟨false, x⟩ } a (w.alloc (.cells cs.toArray e)) := by
  have T0 := tr_new h (o := .cells cs.toArray e) (pl := some (.box k)) (l := 0) (fun h => by cases h) [] []
  have hlk := h.holes k hk
  have hkl : k < σ.L.length := (List.getElem?_eq_some_iff.1 hk).1
  have hkm : k < m.lam.length := by rw [h.lamL]; exact hkl
  have hne : ∀ (k' b : Nat), m.lam[k']? = some (some b) → k' ≠ k := fun k' b hb e => by rw [e, hlk] at hb; cases hb
  have T : Tr c m w σ.L σ.G { m.own1 w.heap.size (some (.box k)) 0 with lam := m.lam.set k (some w.heap.size) } (w.alloc (.cells cs.toArray e)) (σ.L.set k ⟨false, x⟩) σ.G (fun _ => False) :=
    { goes := T0.goes, shape := T0.shape, frz := T0.frz
      lam := fun k' b hb => by
        show (m.lam.set k _)[k']? = _
        rw [List.getElem?_set_ne (fun e => hne k' b hb e.symm)]; exact hb
      locs := fun k' r b hb hr => ⟨r, by rw [List.getElem?_set_ne (fun e => hne k' b hb e.symm)]; exact hr, V.same_refl _⟩
      objs := T0.objs, own := T0.own, ob := T0.ob, obN := T0.obN }
  refine h.step T none (fun _ h => by cases h) (fun b hb _ => heap_alloc_lt hb) rfl rfl rfl (by rw [size_alloc]; omega) ?_ ?_ ?_ ?_ rfl ?_ ?_ ?_
  · intro b hb
    simp only [Mem.own1] at hb
    by_cases e : b = w.heap.size
    · exact .inr ⟨by omega, by rw [size_alloc]; omega⟩
    · rw [if_neg e] at hb; exact .inl hb
  · simp [h.lamL]
  · intro k' r b hk' hb
    have hk' : (σ.L.set k ⟨false, x⟩)[k']? = some r := hk'
    have hb' : (m.lam.set k (some w.heap.size))[k']? = some (some b) := hb
    by_cases ek : k' = k
    · subst ek
      rw [List.getElem?_set_self hkl] at hk'; rw [List.getElem?_set_self hkm] at hb'
      cases hk'; cases hb'
      refine ⟨⟨cs, e, ?_, ?_, ?_, hx.goes T.goes⟩, h.grown, fun _ => ?_, fun hf => by cases hf⟩
      · simp only [World.shape?, heap_alloc_eq, List.size_toArray]
      · intro i v hv; simp only [World.cell?, heap_alloc_eq, Option.isSome_none, Bool.false_eq_true, if_false]; simpa using hv
      · intro j; simp only [World.frozen?, heap_alloc_eq]; simp
      · simp [Mem.own1]
    · rw [List.getElem?_set_ne (fun h => ek h.symm)] at hk' hb'
      obtain ⟨h1, h2, h3, h4⟩ := h.boxes k' r b hk' hb'
      have hbl := h1.lt
      refine ⟨h1.new T.goes, h2, fun hf => ?_, fun hf o => ?_⟩
      · obtain ⟨h5, h6⟩ := h3 hf
        simp only [Mem.own1]; rw [if_neg (by omega), if_neg (by omega)]; exact ⟨h5, h6⟩
      · have := h4 hf o
        simp only [MM, Mem.own1] at this ⊢; rw [if_neg (by omega), if_neg (by omega)]; exact this
  · intro id y hy
    obtain ⟨h1, h2, h3⟩ := h.objs id y hy
    have := h1.lt
    refine ⟨h1.new T.goes, ?_⟩
    simp only [Mem.own1]; rw [if_neg (by omega), if_neg (by omega)]; exact ⟨h2, h3⟩
  · intro t d hd
    exact (h.envV t d hd).tr T (fun h => h)
  · intro t d hd
    obtain ⟨h1, h2, h3⟩ := h.envT t d hd
    exact ⟨h1, h2, h3.tr T (fun h => h)⟩
  · intro k' hk'
    have hk' : (σ.L.set k ⟨false, x⟩)[k']? = some Bx.hole := hk'
    show (m.lam.set k _)[k']? = _
    by_cases e : k' = k
    · subst e; rw [List.getElem?_set_self hkl] at hk'; simp [Bx.hole] at hk'
    · rw [List.getElem?_set_ne (fun h => e h.symm)] at hk' ⊢; exact h.holes k' hk'
theorem InvW.more {c m σ a w} (h : InvW c m σ a w) (n : Nat) : InvW c { m with lam := m.lam ++ List.replicate n none } { σ with L := σ.L ++ List.replicate n Bx.hole } a w := by
  have T : Tr c m w σ.L σ.G { m with lam := m.lam ++ List.replicate n none } w (σ.L ++ List.replicate n Bx.hole) σ.G (fun _ => False) :=
    { goes := Goes.refl _ _, shape := fun _ _ h => h, frz := fun _ _ _ _ => rfl
      lam := fun k b hk => by
        show (m.lam ++ _)[k]? = _
        rw [List.getElem?_append_left (List.getElem?_eq_some_iff.1 hk).1]; exact hk
      locs := fun k r b _ hk => ⟨r, by rw [List.getElem?_append_left (List.getElem?_eq_some_iff.1 hk).1]; exact hk, V.same_refl _⟩
      objs := fun _ r h => ⟨r, h, V.same_refl _⟩, own := fun _ _ _ h => ⟨h, rfl⟩, ob := fun _ h => ⟨h, rfl⟩, obN := fun _ h => .inl h }
  refine h.step T none (fun _ h => by cases h) (fun _ _ _ => rfl) rfl rfl rfl (Nat.le_refl _) (fun _ h => .inl h) (by simp [h.lamL]) ?_ h.objs rfl ?_ ?_ ?_
  · intro k r b hk hb
    have hk : (σ.L ++ List.replicate n Bx.hole)[k]? = some r := hk
    have hb : (m.lam ++ List.replicate n none)[k]? = some (some b) := hb
    by_cases hlt : k < m.lam.length
    · rw [List.getElem?_append_left hlt] at hb
      rw [List.getElem?_append_left (by rw [← h.lamL]; exact hlt)] at hk
      exact h.boxes k r b hk hb
    · rw [List.getElem?_append_right (by omega), List.getElem?_replicate] at hb
      split at hb <;> cases hb
  · intro t d hd
    exact (h.envV t d hd).tr T (fun h => h)
  · intro t d hd
    obtain ⟨h1, h2, h3⟩ := h.envT t d hd
    exact ⟨h1, h2, h3.tr T (fun h => h)⟩
  · intro k hk
    have hk : (σ.L ++ List.replicate n Bx.hole)[k]? = some Bx.hole := hk
    show (m.lam ++ List.replicate n none)[k]? = some none
    by_cases hlt : k < σ.L.length
    · rw [List.getElem?_append_left hlt] at hk
      rw [List.getElem?_append_left (by rw [h.lamL]; exact hlt)]; exact h.holes k hk
    · have hn := (List.getElem?_eq_some_iff.1 hk).1
      rw [List.getElem?_append_right (by rw [h.lamL]; omega), List.getElem?_replicate, if_pos (by simp at hn; rw [h.lamL]; omega)]
theorem InvW.drew {c m σ a w} (h:InvW c m σ a w) (n:Nat):InvW c m σ a { w with drawn:=w.drawn+n }:=by
 have T:Tr c m w σ.L σ.G m { w with drawn:=w.drawn+n } σ.L σ.G (fun _=>False):=
  ⟨fun _ _ h1 h2=>⟨h1,h2⟩,fun _ _ h=>h,fun _ _ _ _=>rfl,fun _ _ h=>h,fun _ r _ _ h=>⟨r,h,V.same_refl _⟩,fun _ r h=>⟨r,h,V.same_refl _⟩,fun _ _ _ h=>⟨h,rfl⟩,fun _ h=>⟨h,rfl⟩,fun _ h=> .inl h⟩
 refine h.step T none (fun _ h=>by cases h) (fun _ _ _=>rfl) rfl rfl rfl (Nat.le_refl _) (fun _ h=> .inl h) h.lamL ?_ ?_ rfl ?_ ?_ h.holes
 ·intro k r b hk hb
  obtain⟨h1,h2⟩:=h.boxes k r b hk hb
  exact⟨h1.tr T.goes (fun _ h=>h) (fun _=>rfl) (fun _ _ h=>h),h2⟩
 ·intro id x hx
  obtain⟨h1,h2⟩:=h.objs id x hx
  exact⟨h1.tr T.goes (fun _ h=>h) (fun _=>rfl) (fun _ _ h=>h),h2⟩
 ·intro t d hd
  exact (h.envV t d hd).tr T (fun h=>h)
 ·intro t d hd
  obtain⟨h1,h2,h3⟩:=h.envT t d hd
  exact⟨h1,h2,h3.tr T (fun h=>h)⟩
/-! ### cells that are written -/
theorem setCells_spec:∀(l:List Value) (w:World) (a:Addr) (i:Nat),(∀j,j < l.length→∃u,w.cell? (a.add (i+j))=some u)→
  (World.setCells w a l i).os=w.os∧(World.setCells w a l i).tape=w.tape∧(World.setCells w a l i).output=w.output∧(World.setCells w a l i).heap.size=w.heap.size∧
  (∀b,(World.setCells w a l i).shape? b=w.shape? b)∧(∀q,(World.setCells w a l i).frozen? q=w.frozen? q)∧
  (∀b,b≠a.block→(World.setCells w a l i).heap[b]? =w.heap[b]?)∧
  (∀q u,w.cell? q=some u→(World.setCells w a l i).cell? q=some (if q.block=a.block∧a.off+i≤q.off∧q.off < a.off+i+l.length then l.getD (q.off-(a.off+i)) u else u))
 |[],w,a,i,_=>by
  refine⟨rfl,rfl,rfl,rfl,fun _=>rfl,fun _=>rfl,fun _ _=>rfl,fun q u hu=> ?_⟩
  simp only[World.setCells,List.length_nil]
  rw[if_neg (by omega)];exact hu
 |v::l,w,a,i,hc=>by
  obtain⟨u0,hu0⟩:=hc 0 (by simp)
  rw[Nat.add_zero]at hu0
  have hc':∀j,j < l.length→∃u,(w.setCell (a.add i) v).cell? (a.add (i+1+j))=some u:=by
   intro j hj
   obtain⟨u',hu'⟩:=hc (j+1) (by simp;omega)
   rw[show i+(j+1)=i+1+j by omega]at hu'
   exact⟨_,cell_setCell hu' ⟨_,hu0⟩⟩
  obtain⟨h1,h2,h3,h4,h5,h6,h7,h8⟩:=setCells_spec l (w.setCell (a.add i) v) a (i+1) hc'
  simp only[World.setCells]
  refine⟨h1,h2,h3,by rw[h4];simp[World.setCell],fun b=>(h5 b).trans (shape_setCell _ _ _ _),fun q=>(h6 q).trans (frozen_setCell _ _ _ _),?_,?_⟩
  ·intro b hb
   rw[h7 b hb]
   simp only[World.setCell,Array.getElem?_modify,Addr.add_block]
   rw[if_neg (fun e=>hb e.symm)]
  ·intro q u hu
   have hq:=cell_setCell (v:=v) hu ⟨_,hu0⟩
   rw[h8 q _ hq]
   obtain⟨_,_,_,_,hs1⟩:=cell_shape hu
   obtain⟨_,_,_,_,hs2⟩:=cell_shape hu0
   have hb:=Addr.add_block a i
   have ho:=Addr.add_off a i
   by_cases e:q=a.add i
   ·rw[if_pos e]
    have e1:q.block=a.block:=by rw[e,hb]
    have e2:q.off=a.off+i:=by rw[e,ho]
    rw[if_neg (by omega),if_pos ⟨e1,by omega,by simp;omega⟩]
    rw[show q.off-(a.off+i)=0 by omega];rfl
   ·rw[if_neg e]
    have hne:¬(q.block=a.block∧q.off=a.off+i):=by
     rintro⟨e1,e2⟩
     apply e
     cases q;cases hq':a.add i
     simp only[hq']at hb ho hs2
     simp_all
    by_cases hin:q.block=a.block∧a.off+(i+1)≤q.off∧q.off < a.off+(i+1)+l.length
    ·rw[if_pos hin,if_pos ⟨hin.1,by omega,by simp;omega⟩]
     rw[show q.off-(a.off+i)=(q.off-(a.off+(i+1)))+1 by omega];rfl
    ·rw[if_neg hin,if_neg]
     rintro⟨e1,e2,e3⟩
     simp at e3
     have:q.off≠a.off+i:=fun e=>hne ⟨e1,e⟩
     exact hin ⟨e1,by omega,by omega⟩
theorem getElem_patch {cs d:List Value} {o i:Nat} (h:o+d.length≤cs.length):(patch cs o d)[i]? =if o≤i∧i < o+d.length then d[i-o]? else cs[i]? :=by
 unfold patch
 by_cases h1:i < o
 ·rw[List.getElem?_append_left (by simp;omega),if_neg (by omega),List.getElem?_take,if_pos h1]
 ·rw[List.getElem?_append_right (by simp;omega)]
  have e:(cs.take o).length=o:=by simp;omega
  rw[e]
  by_cases h2:i < o+d.length
  ·rw[if_pos ⟨by omega,h2⟩,List.getElem?_append_left (by omega)]
  ·rw[if_neg (by omega),List.getElem?_append_right (by omega),List.getElem?_drop]
   congr 1;omega
theorem addr_add (b o j:Nat):({ block:=b,off:=o,spot:=none }:Addr).add j=⟨b,o+j,none⟩:=by
 unfold Addr.add;split<;>simp_all
theorem BoxAt.cells {w M b x y x' p o d} (hb:BoxAt w M b x) (hd:RepV w M y d) (ho:x.off p=some o) (hu:V.upd x p y=some x'):
  ∀j,j < d.length→∃u,w.cell? (({ block:=b,off:=o,spot:=none }:Addr).add (0+j))=some u:=by
 obtain⟨cs0,e,h1,h2,h3,h4⟩:=hb
 obtain⟨h5,h6⟩:=h4.upd hu ho hd
 intro j hj
 have hlt:o+j < cs0.length:=by omega
 refine⟨cs0[o+j],?_⟩
 have:=h2 (o+j) cs0[o+j] (by simp[hlt])
 rw[Nat.zero_add,addr_add];exact this
theorem BoxAt.write {w M M' b x y x' p o d} (hb:BoxAt w M b x) (hd:RepV w M y d) (ho:x.off p=some o) (hu:V.upd x p y=some x')
  (g:Goes w M (World.setCells w ⟨b,o,none⟩ d 0) M'):BoxAt (World.setCells w ⟨b,o,none⟩ d 0) M' b x':=by
 have hc:=hb.cells hd ho hu
 obtain⟨cs0,e,h1,h2,h3,h4⟩:=hb
 obtain⟨h5,h6⟩:=h4.upd hu ho hd
 obtain⟨_,_,_,_,k1,k2,_,k3⟩:=setCells_spec d w ⟨b,o,none⟩ 0 hc
 refine⟨patch cs0 o d,e,?_,?_,?_,h5.goes g⟩
 ·rw[k1,h1,patch_length h6]
 ·intro i v hv
  rw[getElem_patch h6]at hv
  by_cases hin:o≤i∧i < o+d.length
  ·rw[if_pos hin]at hv
   have hlt:i < cs0.length:=by omega
   have hq:=h2 i cs0[i] (by simp[hlt])
   rw[k3 _ _ hq,if_pos ⟨rfl,by simp;omega,by simp;omega⟩]
   congr 1
   simp only[Nat.add_zero,List.getD_eq_getElem?_getD,hv,Option.getD_some]
  ·rw[if_neg hin]at hv
   have hq:=h2 i v hv
   rw[k3 _ _ hq,if_neg]
   rintro⟨_,e2,e3⟩;simp only at e2 e3;exact hin ⟨by omega,by omega⟩
 ·intro j;rw[k2];exact h3 j
theorem BoxAt.cells2 {w M b x x' o d} (hb:BoxAt w M b x) (H:∀cs,RepV w M x cs→RepV w M x' (patch cs o d)∧o+d.length≤cs.length):
  ∀j,j < d.length→∃u,w.cell? (({ block:=b,off:=o,spot:=none }:Addr).add (0+j))=some u:=by
 obtain⟨cs0,e,h1,h2,h3,h4⟩:=hb
 obtain⟨h5,h6⟩:=H _ h4
 intro j hj
 have hlt:o+j < cs0.length:=by omega
 refine⟨cs0[o+j],?_⟩
 have:=h2 (o+j) cs0[o+j] (by simp[hlt])
 rw[Nat.zero_add,addr_add];exact this
theorem BoxAt.write2 {w M M' b x x' o d} (hb:BoxAt w M b x) (H:∀cs,RepV w M x cs→RepV w M x' (patch cs o d)∧o+d.length≤cs.length)
  (g:Goes w M (World.setCells w ⟨b,o,none⟩ d 0) M'):BoxAt (World.setCells w ⟨b,o,none⟩ d 0) M' b x':=by
 have hc:=hb.cells2 H
 obtain⟨cs0,e,h1,h2,h3,h4⟩:=hb
 obtain⟨h5,h6⟩:=H _ h4
 obtain⟨_,_,_,_,k1,k2,_,k3⟩:=setCells_spec d w ⟨b,o,none⟩ 0 hc
 refine⟨patch cs0 o d,e,?_,?_,?_,h5.goes g⟩
 ·rw[k1,h1,patch_length h6]
 ·intro i v hv
  rw[getElem_patch h6]at hv
  by_cases hin:o≤i∧i < o+d.length
  ·rw[if_pos hin]at hv
   have hlt:i < cs0.length:=by omega
   have hq:=h2 i cs0[i] (by simp[hlt])
   rw[k3 _ _ hq,if_pos ⟨rfl,by simp;omega,by simp;omega⟩]
   congr 1
   simp only[Nat.add_zero,List.getD_eq_getElem?_getD,hv,Option.getD_some]
  ·rw[if_neg hin]at hv
   have hq:=h2 i v hv
   rw[k3 _ _ hq,if_neg]
   rintro⟨_,e2,e3⟩;simp only at e2 e3;exact hin ⟨by omega,by omega⟩
 ·intro j;rw[k2];exact h3 j
theorem InvW.storeL {c m σ a w} (h : InvW c m σ a w) {k b o : Nat} {r : Bx} {p : List Nat} {y x' : V} {d : List Value}
    (hk : σ.L[k]? = some r) (hf : r.fz = false) (hb : m.lam[k]? = some (some b)) (ho : r.x.off p = some o) (hu : V.upd r.x p y = some x') (hy : RepV w (MM c.Mc m.ow m.lo) y d) :
    InvW c m { σ with L := σ.L.set k ⟨false, x'⟩ } a (World.setCells w ⟨b, o, none⟩ d 0) ∧ (∀ j, j < d.length → ∃ u, w.cell? (({ block := b, off := o, spot := none } : Addr).add (0 + j)) = some u) ∧
      (∀ j, w.frozen? (({ block := b, off := o, spot := none } : Addr).add j) = false) := by
  obtain ⟨hB, hB2, hB3, _⟩ := h.boxes k r b hk hb
  obtain ⟨how, hlo⟩ := hB3 hf
  have hc := hB.cells hy ho hu
  obtain ⟨k1, k2, k3, k4, k5, k6, k7, k8⟩ := setCells_spec d w ⟨b, o, none⟩ 0 hc
  have T : Tr c m w σ.L σ.G m (World.setCells w ⟨b, o, none⟩ d 0) (σ.L.set k ⟨false, x'⟩) σ.G (fun _ => False) :=
    { goes := fun q u hq hM => by
        have hne : q.block ≠ b := fun e => hM (.inr ⟨by simp [e, how], by rw [e, hlo]; exact Nat.zero_le _⟩)
        exact ⟨by rw [k8 q u hq, if_neg (by rintro ⟨e1, _⟩; exact hne e1)], hM⟩
      shape := fun b' s hs => by rw [k5]; exact hs
      frz := fun b' _ _ j => k6 _
      lam := fun _ _ h => h
      locs := fun k' r' _ _ hk' => by
        by_cases e : k' = k
        · subst e
          rw [hk] at hk'; cases hk'
          refine ⟨⟨false, x'⟩, by rw [List.getElem?_set_self (List.getElem?_eq_some_iff.1 hk).1], V.same_symm (V.upd_same hu)⟩
        · exact ⟨r', by rw [List.getElem?_set_ne (fun h => e h.symm)]; exact hk', V.same_refl _⟩
      objs := fun id r' hr => ⟨r', hr, V.same_refl _⟩
      own := fun t _ b' hb' => ⟨hb', rfl⟩
      ob := fun _ h => ⟨h, rfl⟩
      obN := fun _ h => .inl h }
  have hnew := hB.write hy ho hu T.goes
  refine ⟨?_, hc, fun j => ?_⟩
  · refine h.step T (some b) (fun b' e => by cases e; simp [how]) (fun b' hb' hne => k7 b' (fun e => hne (by rw [e]))) k1 k2 k3 (by rw [k4]; exact Nat.le_refl _) (fun _ h => .inl h) (by simp [h.lamL]) ?_ ?_ rfl ?_ ?_ (fun k' hk' => by
      have hk' : (σ.L.set k ⟨false, x'⟩)[k']? = some Bx.hole := hk'
      by_cases e : k' = k
      · subst e; rw [List.getElem?_set_self (List.getElem?_eq_some_iff.1 hk).1] at hk'; simp [Bx.hole] at hk'
      · rw [List.getElem?_set_ne (fun h => e h.symm)] at hk'; exact h.holes k' hk')
    · intro k' r' b' hk' hb'
      by_cases e : k' = k
      · subst e
        rw [hb] at hb'; cases hb'
        have hlt := (List.getElem?_eq_some_iff.1 hk).1
        rw [List.getElem?_set_self hlt] at hk'; cases hk'
        exact ⟨hnew, hB2, fun _ => ⟨how, hlo⟩, fun hf => by cases hf⟩
      · rw [List.getElem?_set_ne (fun h => e h.symm)] at hk'
        obtain ⟨h1, h2, h3, h4⟩ := h.boxes k' r' b' hk' hb'
        have hne : b' ≠ b := by
          intro e'; subst e'
          cases hfz : r'.fz with
          | false => have := (h3 hfz).1; rw [how] at this; cases this; exact e rfl
          | true => exact h4 hfz 0 (.inr ⟨by simp [how], by rw [hlo]; exact Nat.le_refl _⟩)
        refine ⟨h1.tr T.goes (fun s hs => by rw [k5]; exact hs) (fun j => k6 _) (fun i v hv => ?_), h2, h3, h4⟩
        rw [k8 _ _ hv, if_neg (by rintro ⟨e1, _⟩; exact hne e1)]
    · intro id x hx
      obtain ⟨h1, h2, h3⟩ := h.objs id x hx
      have hne : id ≠ b := by intro e; subst e; rw [how] at h2; cases h2
      refine ⟨h1.tr T.goes (fun s hs => by rw [k5]; exact hs) (fun j => k6 _) (fun i v hv => ?_), h2, h3⟩
      rw [k8 _ _ hv, if_neg (by rintro ⟨e1, _⟩; exact hne e1)]
    · intro t d hd
      exact (h.envV t d hd).tr T (fun h => h)
    · intro t d hd
      obtain ⟨h1, h2, h3⟩ := h.envT t d hd
      exact ⟨h1, h2, h3.tr T (fun h => h)⟩
  · obtain ⟨_, _, _, _, h3, _⟩ := hB
    rw [frozen_addr, Addr.add_block, Addr.add_off]; exact h3 _
end Go.Abs
namespace Go.Abs
open Go Go.RowKit
set_option linter.unusedVariables false
inductive AO where
 |v (t:Nat)
 |t (t:Nat)
 |c (d:D)
inductive AD where
 |v (t:Nat)
 |t (t:Nat)
 |no
mutual
/-- How values of a type are held against each other. -/
inductive ET where
 |int
 |bool
 |str
 |arr (n:Nat)
 |agg (l:EL)
inductive EL where
 |nil
 |cons (off n:Nat) (g:Bool) (e:ET) (l:EL)
end
inductive PO where
 |mv (feeds:Bool) (x:AO)
 |pick (c a b:AO)
 |alloc (z:V)
 |box (x:AO)
 |allocAt (r:Nat) (z:V)
 |boxAt (r:Nat) (x:AO)
 |build (z:V) (ps:List (Nat×AO))
 |buildS (k:Option IntKind) (sz:Nat) (z:V) (len:Nat) (ps:List (Nat×AO))
 |buildR (k:Option IntKind) (sz:Nat) (z:V) (len:Nat) (ps:List (Nat×AO))
 |cvt (x:AO)
 |capN (x:AO)
 |appZ (k:Option IntKind) (sz bytes:Nat) (z:V) (x n:AO)
 |appG (k:Option IntKind) (sz bytes:Nat) (z:V) (x n:AO)
 |cutG (sz:Nat) (x h:AO)
 |load (n:Nat) (ag:Bool) (x:AO)
 |store (n:Nat) (a x:AO)
 |nilc (x:AO)
 |bin (op:BinOp) (x y:AO)
 |binB (op:BinOp) (x y:AO)
 |binP (op:BinOp) (x y:AO)
 |eqa (neg:Bool) (e:ET) (x y:AO)
 |un (op:UnOp) (x:AO)
 |conv (k:IntKind) (x:AO)
 |fadr (f off:Nat) (x:AO)
 |fld (f off:Nat) (n:Nat) (ag:Bool) (x:AO)
 |iadrA (n:Nat) (x i:AO)
 |iadrG (n sz:Nat) (x i:AO)
 |iadrS (sz:Nat) (x i:AO)
 |idxS (x i:AO)
 |idxA (n:Nat) (x i:AO)
 |slcA (n:Nat) (vw:Bool) (x:AO) (lo hi mx:Option AO)
 |slcS (sz:Nat) (x:AO) (lo hi mx:Option AO)
 |slcT (x:AO) (lo hi:Option AO)
 |ext (x:AO) (i:Nat)
 |len (x:AO)
 |lenT (x:AO)
 |app (k:Option IntKind) (sz bytes:Nat) (x y:AO)
 |copy (x y:AO)
 |mkS (k:Option IntKind) (sz bytes:Nat) (z:V) (l c:AO)
 |s2a (n:Nat) (x:AO)
 |mm (max:Bool) (xs:List AO)
 |call (g:Nat) (xs:List AO)
 |callW (g:Nat) (xs:List AO)
 |nileq (neg:Bool) (x:AO)
 |new (z:V)
 |newB (x:AO)
 |mkFn (f:Nat) (xs:List AO)
 |callV (x:AO) (xs:List AO)
 |appR (sz bytes:Nat) (z:V) (x y:AO)
 |appI (sz:Nat) (x y:AO)
 |clr (sz:Nat) (z:V) (x:AO)
 |slcZ (x:AO)
 |s2b (r:Bool) (x:AO)
 |fad0 (x:AO)
 |atLd (x:AO)
 |atSt (a x:AO)
 |atAdd (a x:AO)
 |bad
structure PI where
 dst:AD
 op:PO
 guard:Option (AO×Bool)
inductive PC where
 |skip
 |ret
 |seq (a b:PC)
 |cond (c:AO) (a b:PC)
 |block (id:Nat) (c:PC)
 |loop (keep:List Nat) (c:PC)
 |exit (id:Nat)
 |reg (ops:List PI)
 |regD (n:Nat) (ops:List PI) (dep:List (Nat×Nat))
 |regW (n:Nat) (ops:List (Nat×PI)) (dep:List (Nat×Nat))
inductive Ex where
 |normal
 |exit (id:Nat)
 |ret
/-! ### reading -/
def getv:List (Option D)→Nat→Option D
 |[],_=>none
 |o::_,0=>o
 |_::l,n+1=>getv l n
def St.ev (σ:St):AO→Option D
 | .v t=>getv σ.vs t
 | .t t=>look σ.ts t
 | .c d=>some d
def asV:Option D→Option V
 |some (.v x)=>some x
 |some (.own x)=>some x
 |some (.fn f)=>some (.fn f [])
 |some .e0=>some (.sli .u8 [])
 |_=>none
def asB:Option D→Option Bool
 |some (.v (.bool b))=>some b
 |_=>none
def asI:Option D→Option Int
 |some (.v (.int _ n))=>some n
 |_=>none
def St.put (σ:St) (t:AD) (d:D):St:=match t with
 | .v t=>σ.putV t d
 | .t t=>σ.putT t d
 | .no=>σ
def AO.ad:AO→AD
 | .v i=> .v i
 | .t i=> .t i
 | .c _=> .no
def consO {α:Type}:Option α→Option (List α)→Option (List α)
 |some x,some l=>some (x::l)
 |_,_=>none
def St.evs (σ:St):List AO→Option (List V)
 |[]=>some []
 |x::l=>consO (asV (σ.ev x)) (σ.evs l)
def consP:Nat→Option V→Option (List (Nat×V))→Option (List (Nat×V))
 |i,some x,some l=>some ((i,x)::l)
 |_,_,_=>none
def St.parts (σ:St):List (Nat×AO)→Option (List (Nat×V))
 |[]=>some []
 |(i,x)::l=>consP i (asV (σ.ev x)) (σ.parts l)
def bxO:Option Bx→List Nat→Option (V×List Nat)
 |some r,p=>some (r.x,p)
 |none,_=>none
def vO:Option V→List Nat→Option (V×List Nat)
 |some r,p=>some (r,p)
 |none,_=>none
def atO (tab:List (Nat×V)) (σ:St):Option D→Option (V×List Nat)
 |some (.lp k p)=>bxO σ.L[k]? p
 |some (.gp id p)=>vO (look σ.G id) p
 |some (.v (.ptr id))=>vO (look σ.G id) []
 |some (.ep x)=>some (x,[])
 |some (.gl g)=>vO (look tab g) []
 |_=>none
def subO:Option (V×List Nat)→Option V
 |some (r,p)=>r.sub p
 |none=>none
/-! ### plain operations -/
def bAnd (k:IntKind) (a b:Int):Int:=k.wrap (BitVec.ofInt k.bits a&&& BitVec.ofInt k.bits b).toNat
def bOr (k:IntKind) (a b:Int):Int:=k.wrap (BitVec.ofInt k.bits a |||BitVec.ofInt k.bits b).toNat
def bXor (k:IntKind) (a b:Int):Int:=k.wrap (BitVec.ofInt k.bits a ^^^ BitVec.ofInt k.bits b).toNat
def bAndNot (k:IntKind) (a b:Int):Int:=k.wrap (BitVec.ofInt k.bits a&&& ~~~(BitVec.ofInt k.bits b)).toNat
def bNot (k:IntKind) (n:Int):Int:=k.wrap (BitVec.ofInt k.bits (if k.signed then -1 else k.max) ^^^ BitVec.ofInt k.bits n).toNat
def arith (op:BinOp) (k:IntKind) (a b:Int):Option (Prop×V):=match op with
 | .add=>some (True,.int k (k.wrap (a+b)))
 | .sub=>some (True,.int k (k.wrap (a-b)))
 | .mul=>some (True,.int k (k.wrap (a*b)))
 | .quo=>some (b≠0,.int k (k.wrap (a.tdiv b)))
 | .rem=>some (b≠0,.int k (a.tmod b))
 | .and=>some (True,.int k (bAnd k a b))
 | .or=>some (True,.int k (bOr k a b))
 | .xor=>some (True,.int k (bXor k a b))
 | .andNot=>some (True,.int k (bAndNot k a b))
 | .eql=>some (True,.bool (decide (a=b)))
 | .neq=>some (True,.bool (!decide (a=b)))
 | .lss=>some (True,.bool (decide (a < b)))
 | .leq=>some (True,.bool (decide (a≤b)))
 | .gtr=>some (True,.bool (decide (a > b)))
 | .geq=>some (True,.bool (decide (a≥b)))
 | .shl=>some (0≤b,.int k (k.wrap (a*2 ^ (min b.toNat k.bits))))
 | .shr=>some (0≤b,.int k (a.fdiv (2 ^ (min b.toNat k.bits))))
def isShift:BinOp→Bool
 | .shl| .shr=>true
 |_=>false
def strOp (op:BinOp) (a b:ByteArray):Option (Prop×V):=match op with
 | .eql=>some (True,.bool (a.toList==b.toList))
 | .neq=>some (True,.bool (!(a.toList==b.toList)))
 | .add=>some (((a.size+b.size:Nat):Int)≤9223372036854775807,.str (a++b))
 | .lss=>some (True,.bool (Op.bytesLess a.toList b.toList))
 | .leq=>some (True,.bool (Op.bytesLess a.toList b.toList ||a.toList==b.toList))
 | .gtr=>some (True,.bool (!(Op.bytesLess a.toList b.toList ||a.toList==b.toList)))
 | .geq=>some (True,.bool (!Op.bytesLess a.toList b.toList))
 |_=>none
def eqOp (op:BinOp) (b:Bool):Option (Prop×V):=match op with
 | .eql=>some (True,.bool b)
 | .neq=>some (True,.bool (!b))
 |_=>none
def binI (op:BinOp) (k:IntKind) (a:Int):V→Option (Prop×V)
 | .int k' b=>if (isShift op ||k==k')=true then arith op k a b else none
 |_=>none
def binT (op:BinOp) (a:ByteArray):V→Option (Prop×V)
 | .str b=>strOp op a b
 |_=>none
def binVV (op:BinOp):V→V→Option (Prop×V)
 | .int k a,y=>binI op k a y
 | .str a,y=>binT op a y
 |_,_=>none
def binV (op:BinOp):Option V→Option V→Option (Prop×V)
 |some x,some y=>binVV op x y
 |_,_=>none
def binVB (op:BinOp):Option V→Option V→Option (Prop×V)
 |some (.bool a),some (.bool b)=>eqOp op (a==b)
 |_,_=>none
def binVP (op:BinOp):Option V→Option V→Option (Prop×V)
 |some (.ptr _),some .nilp=>eqOp op false
 |some .nilp,some (.ptr _)=>eqOp op false
 |some .nilp,some .nilp=>eqOp op true
 |_,_=>none
def unV:UnOp→Option V→Option V
 | .not,some (.bool b)=>some (.bool (!b))
 | .neg,some (.int k n)=>some (.int k (k.wrap (0-n)))
 | .xor,some (.int k n)=>some (.int k (bNot k n))
 |_,_=>none
def eqI:V→V→Option Bool
 | .int k a,.int k' b=>if (k==k')=true then some (decide (a=b))else none
 |_,_=>none
def eqB:V→V→Option Bool
 | .bool a,.bool b=>some (a==b)
 |_,_=>none
def eqS:V→V→Option Bool
 | .str a,.str b=>some (a.toList==b.toList)
 |_,_=>none
def eqA (n:Nat):V→V→Option Bool
 | .arr k n1 xs,.arr k' n2 ys=>if (k==k'&&n1==n&&n2==n)=true then some (xs==ys)else none
 |_,_=>none
def andO:Option Bool→Option Bool→Option Bool
 |some a,some b=>some (a&&b)
 |_,_=>none
mutual
/-- Are two values of one type the same? -/
def eqT:ET→V→V→Option Bool
 | .int,x,y=>eqI x y
 | .bool,x,y=>eqB x y
 | .str,x,y=>eqS x y
 | .arr n,x,y=>eqA n x y
 | .agg l,x,y=>match x,y with
  | .agg a,.agg b=>eqL l 0 a b
  |_,_=>none
def eqL:EL→Nat→List V→List V→Option Bool
 | .nil,_,a,b=>match a,b with
  |[],[]=>some true
  |_,_=>none
 | .cons off n g e l,o,a,b=>match a,b with
  |x::a,y::b=>if (o==off&&x.size==n&&y.size==n&&x.isAgg==g&&y.isAgg==g)=true then andO (eqT e x y) (eqL l (o+n) a b)else none
  |_,_=>none
end
def fillV:Option V→List (Nat×V)→Option V
 |z,[]=>z
 |some z,(i,y)::r=>fillV (z.upd [i] y) r
 |none,_=>none
def catV (k:Option IntKind) (sz:Nat):V→V→Option V
 | .nils,.nils=>some .nils
 | .nils,.sli k' ys=>if k=some k' then some (.sli k' ys)else none
 | .nils,.sle sz' ys=>if k=none∧sz=sz' then some (.sle sz ys)else none
 | .sli k' xs,.nils=>if k=some k' then some (.sli k' xs)else none
 | .sle sz' xs,.nils=>if k=none∧sz=sz' then some (.sle sz xs)else none
 | .sli k' xs,.sli k'' ys=>if k=some k'∧k'=k'' then some (.sli k' (xs++ys))else none
 | .sle sz' xs,.sle sz'' ys=>if k=none∧sz=sz'∧sz=sz'' then some (.sle sz (xs++ys))else none
 | .nils,.str s=>if k=some .u8 then some (.sli .u8 (s.data.toList.map fun b=>(b.toNat:Int)))else none
 | .sli k' xs,.str s=>if k=some .u8∧k'= .u8 then some (.sli .u8 (xs++s.data.toList.map fun b=>(b.toNat:Int)))else none
 |_,_=>none
def V.lenI:V→Option Int
 | .sli _ xs=>some xs.length
 | .sle _ l=>some l.length
 | .nils=>some 0
 | .sob _ _ _ n _=>some n
 |_=>none
def lenT:Option V→Option V
 |some (.str s)=>some (.int .i64 s.size)
 |_=>none
def intsV (k:IntKind):List V→Option (List Int)
 |[]=>some []
 | .int k' n::l=>if (k'==k)=true then (intsV k l).map (n::·)else none
 |_=>none
def elemsV (k:Option IntKind) (sz:Nat) (l:List V):Option V:=match k with
 |none=>some (.sle sz l)
 |some k=>(intsV k l).map (.sli k)
/-! ### operations -/
abbrev Res:=Option (Prop×St)
def putO (σ:St) (t:AD) (p:Prop):Option D→Res
 |some d=>some (p,σ.put t d)
 |none=>none
def putPV (σ:St) (t:AD):Option (Prop×V)→Res
 |some (p,x)=>some (p,σ.put t (.v x))
 |none=>none
def putVO (σ:St) (t:AD):Option V→Res
 |some x=>some (True,σ.put t (.v x))
 |none=>none
def oMv (feeds:Bool) (x:AO) (σ:St) (t:AD):Option D→Res
 |some (.own y)=>if (feeds)=true then some (True,(σ.put x.ad (.v y)).put t (.own y))else some (True,σ.put t (.v y))
 |some (.row y)=>some (True,σ.put t (.v y))
 |some (.gro y)=>some (True,σ.put t .jk)
 |some d=>some (True,σ.put t d)
 |none=>none
def oBox (σ:St) (t:AD):Option V→Res
 |some y=>some (True,({ σ with L:=σ.L++[⟨false,y⟩] }:St).put t (.lp σ.L.length []))
 |none=>none
def oFill (k:Nat) (y:V) (σ:St) (t:AD):Option Bx→Res
 |some ⟨true,.nili⟩=>some (True,({ σ with L:=σ.L.set k ⟨false,y⟩ }:St).put t (.lp k []))
 |_=>none
def oBoxAt (r:Nat) (σ:St) (t:AD):Option V→Res
 |some y=>oFill (σ.L.length-r) y σ t σ.L[σ.L.length-r]?
 |none=>none
def oBuild (z:V) (σ:St) (t:AD):Option (List (Nat×V))→Res
 |some l=>putVO σ t (fillV (some z) l)
 |none=>none
def oElems (k:Option IntKind) (sz:Nat) (σ:St) (t:AD):Option V→Res
 |some (.agg m)=>putO σ t True ((elemsV k sz m).map .own)
 |_=>none
def oBuildS (k:Option IntKind) (sz:Nat) (z:V) (len:Nat) (σ:St) (t:AD):Option (List (Nat×V))→Res
 |some l=>oElems k sz σ t (fillV (some (.agg (List.replicate len z))) l)
 |none=>none
def oElemsR (k:Option IntKind) (sz:Nat) (σ:St) (t:AD):Option V→Res
 |some (.agg m)=>if sz=1 then putO σ t True ((elemsV k sz m).map .row)else none
 |_=>none
def oBuildR (k:Option IntKind) (sz:Nat) (z:V) (len:Nat) (σ:St) (t:AD):Option (List (Nat×V))→Res
 |some l=>oElemsR k sz σ t (fillV (some (.agg (List.replicate len z))) l)
 |none=>none
def oCvt (x:AO) (σ:St) (t:AD):Option D→Res
 |some (.row y)=>some (True,(σ.put x.ad (.v y)).put t (.own y))
 |_=>none
def capO:Option V→Option V
 |some .nils=>some (.int .i64 0)
 |some (.sob _ _ _ _ c)=>some (.int .i64 c)
 |_=>none
def oLoad (n:Nat) (ag:Bool) (σ:St) (t:AD):Option V→Res
 |some y=>if y.size=n∧y.isAgg=ag then some (True,σ.put t (.v y))else none
 |none=>none
def oStoL (n k:Nat) (σ:St) (y:V):Option V→Res
 |some z=>if y.size=n then some (True,{ σ with L:=σ.L.set k ⟨false,z⟩ })else none
 |none=>none
def oStoG (n id:Nat) (σ:St) (y:V):Option V→Res
 |some z=>if y.size=n then some (True,{ σ with G:=upd σ.G id z })else none
 |none=>none
def oStoB (n k:Nat) (p:List Nat) (σ:St) (y:V):Option Bx→Res
 |some r=>if (r.fz)=true then none else oStoL n k σ y (r.x.upd p y)
 |none=>none
def oStoH (n id:Nat) (p:List Nat) (σ:St) (y:V):Option V→Res
 |some r=>oStoG n id σ y (r.upd p y)
 |none=>none
def oStore (n:Nat) (σ:St):Option D→Option V→Res
 |some (.lp k p),some y=>oStoB n k p σ y σ.L[k]?
 |some (.gp id p),some y=>oStoH n id p σ y (look σ.G id)
 |some (.v (.ptr id)),some y=>oStoH n id [] σ y (look σ.G id)
 |_,_=>none
def oNilc (σ:St) (t:AD):Option D→Res
 |some (.lp k p)=>some (True,σ.put t (.lp k p))
 |some (.gp k p)=>some (True,σ.put t (.gp k p))
 |some (.ep y)=>some (True,σ.put t (.ep y))
 |some (.v (.ptr id))=>some (True,σ.put t (.v (.ptr id)))
 |some (.fn f)=>some (True,σ.put t (.fn f))
 |_=>none
def oEqa (neg:Bool) (e:ET) (σ:St) (t:AD):Option V→Option V→Res
 |some x,some y=>putVO σ t ((eqT e x y).map fun b=> .bool (neg ^^ b))
 |_,_=>none
def oConv (k:IntKind) (σ:St) (t:AD):Option V→Res
 |some (.int _ n)=>some (True,σ.put t (.v (.int k (k.wrap n))))
 |_=>none
def oFadr (f off:Nat) (d:D) (σ:St) (t:AD):Option V→Res
 |some (.agg l)=>if V.sizeL (l.take f)=off∧f < l.length then some (True,σ.put t d)else none
 |_=>none
def oFadE (f off:Nat) (l:List V) (σ:St) (t:AD):Option V→Res
 |some y=>if V.sizeL (l.take f)=off then some (True,σ.put t (.ep y))else none
 |none=>none
def orR:Res→Res→Res
 |some r,_=>some r
 |none,r=>r
def oFadP (f off id:Nat) (σ:St) (t:AD) (r:Option V):Res:=orR (oFadr f off (.gp id [f]) σ t r) (oFadr f off (.gp id [0,f]) σ t (subO (vO r [0])))
def oFad0 (σ:St) (t:AD):Option V→Res
 |some (.ptr id)=>some (True,σ.put t (.v (.ptr id)))
 |_=>none
def oFad (tab:List (Nat×V)) (f off:Nat) (σ:St) (t:AD):Option D→Res
 |some (.lp k p)=>oFadr f off (.lp k (p++[f])) σ t (subO (bxO σ.L[k]? p))
 |some (.gp id p)=>oFadr f off (.gp id (p++[f])) σ t (subO (vO (look σ.G id) p))
 |some (.v (.ptr id))=>oFadP f off id σ t (look σ.G id)
 |some (.ep (.agg l))=>oFadE f off l σ t l[f]?
 |_=>none
def oFld (f off n:Nat) (ag:Bool) (σ:St) (t:AD) (l:List V):Option V→Res
 |some y=>if V.sizeL (l.take f)=off∧y.size=n∧y.isAgg=ag then some (True,σ.put t (.v y))else none
 |none=>none
def oField (f off n:Nat) (ag:Bool) (σ:St) (t:AD):Option V→Res
 |some (.agg l)=>oFld f off n ag σ t l l[f]?
 |_=>none
def oIdA (n:Nat) (j:Int) (d:D) (σ:St) (t:AD):Option V→Res
 |some (.arr _ n' _)=>if n'=n then some (0≤j∧j < (n:Int),σ.put t d)else none
 |_=>none
def oIdT (n:Nat) (j:Int) (σ:St) (t:AD):Option V→Res
 |some (.arr k n' xs)=>if n'=n then some (0≤j∧j < (n:Int),σ.put t (.ep (.int k (xs.getD j.toNat 0))))else none
 |_=>none
def oIadrA (tab:List (Nat×V)) (n:Nat) (σ:St) (t:AD):Option D→Option Int→Res
 |some (.lp k p),some j=>oIdA n j (.lp k (p++[j.toNat])) σ t (subO (bxO σ.L[k]? p))
 |some (.gp id p),some j=>oIdA n j (.gp id (p++[j.toNat])) σ t (subO (vO (look σ.G id) p))
 |some (.gl g),some j=>oIdT n j σ t (look tab g)
 |some (.ep x),some j=>oIdT n j σ t (some x)
 |_,_=>none
def oIdG (n sz:Nat) (j:Int) (d:D) (σ:St) (t:AD):Option V→Res
 |some (.agg l)=>if l.length=n then some ((0≤j∧j < (n:Int))∧∀x∈l,V.size x=sz,σ.put t d)else none
 |_=>none
def oIdE (n sz:Nat) (j:Int) (σ:St) (t:AD):V→Res
 | .agg l=>if l.length=n then some ((0≤j∧j < (n:Int))∧∀x∈l,V.size x=sz,σ.put t (.ep (l.getD j.toNat .nilp)))else none
 |_=>none
def oIadrG (tab:List (Nat×V)) (n sz:Nat) (σ:St) (t:AD):Option D→Option Int→Res
 |some (.lp k p),some j=>oIdG n sz j (.lp k (p++[j.toNat])) σ t (subO (bxO σ.L[k]? p))
 |some (.gp id p),some j=>oIdG n sz j (.gp id (p++[j.toNat])) σ t (subO (vO (look σ.G id) p))
 |some (.ep x),some j=>oIdE n sz j σ t x
 |_,_=>none
def oIdR (sz id off n:Nat) (j:Int) (σ:St) (t:AD):Option V→Res
 |some (.agg l)=>some ((0≤j∧j < (n:Int))∧off+j.toNat < l.length∧∀x∈l,V.size x=sz,σ.put t (.gp id [off+j.toNat]))
 |_=>none
def oIadrS (sz:Nat) (σ:St) (t:AD):Option V→Option Int→Res
 |some (.sli k xs),some j=>if sz=1 then some (0≤j∧j < (xs.length:Int),σ.put t (.ep (.int k (xs.getD j.toNat 0))))else none
 |some (.sle sz' l),some j=>if sz=sz' then some (0≤j∧j < (l.length:Int),σ.put t (.ep (l.getD j.toNat .nilp)))else none
 |some (.sob id sz' off n _),some j=>if sz=sz' then oIdR sz id off n j σ t (look σ.G id)else none
 |_,_=>none
def oIdxS (σ:St) (t:AD):Option V→Option Int→Res
 |some (.str s),some j=>some (0≤j∧j < (s.size:Int),σ.put t (.v (.int .u8 ((s.data.toList.getD j.toNat 0).toNat:Int))))
 |_,_=>none
def oIdxA (n:Nat) (σ:St) (t:AD):Option V→Option Int→Res
 |some (.arr k n' xs),some j=>if n'=n then some (0≤j∧j < (n:Int),σ.put t (.v (.int k (xs.getD j.toNat 0))))else none
 |some (.agg l),some j=>if l.length=n then some ((0≤j∧j < (n:Int))∧∀x∈l,V.size x=1∧V.isAgg x=false,σ.put t (.v (l.getD j.toNat .nilp)))else none
 |_,_=>none
def St.opt (σ:St) (o:Option AO) (d:Int):Option Int:=match o with
 |none=>some d
 |some x=>asI (σ.ev x)
def oSlcF (k:Nat) (x:V) (kk:IntKind) (n:Nat) (xs:List Int) (σ:St) (t:AD):Option Int→Option Int→Res
 |some l,some h=>some (0≤l∧l≤h∧h≤(n:Int),({ σ with L:=σ.L.set k ⟨true,x⟩ }:St).put t (.v (.sli kk ((xs.take h.toNat).drop l.toNat))))
 |_,_=>none
def oSlcB (n0:Nat) (vw:Bool) (k:Nat) (p:List Nat) (x:V) (lo hi:Option AO) (σ:St) (t:AD):Option V→Res
 |some (.arr kk n xs)=>if n≠n0 then none else if vw=true then (if (lo.isNone&&hi.isNone)=true then some (True,σ.put t (.vw k p n))else none)
  else oSlcF k x kk n xs σ t (σ.opt lo 0) (σ.opt hi n)
 |_=>none
def oSlcX (n0:Nat) (vw:Bool) (k:Nat) (p:List Nat) (lo hi:Option AO) (σ:St) (t:AD):Option Bx→Res
 |some r=>oSlcB n0 vw k p r.x lo hi σ t (r.x.sub p)
 |none=>none
def oSlcA (n0:Nat) (vw:Bool) (lo hi mx:Option AO) (σ:St) (t:AD):Option D→Res
 |some (.lp k p)=>if (mx.isNone)=true then oSlcX n0 vw k p lo hi σ t σ.L[k]? else none
 |_=>none
def cutV (l h:Int):V→Option V
 | .sli k xs=>some (.sli k ((xs.take h.toNat).drop l.toNat))
 | .sle sz xs=>some (.sle sz ((xs.take h.toNat).drop l.toNat))
 | .nils=>some .nils
 |_=>none
def strideOk (sz:Nat):V→Bool
 | .sli _ _=>sz==1
 | .sle sz' _=>sz==sz'
 | .nils=>true
 |_=>false
def sliD:V→D
 | .nils=> .own .nils
 |z=> .v z
def oSlcS3 (sz:Nat) (y:V) (n:Int) (σ:St) (t:AD):Option Int→Option Int→Option (Option Int)→Option V→Res
 |some l,some h,some none,some z=>if (strideOk sz y)=true then some (0≤l∧l≤h∧h≤n,σ.put t (sliD z))else none
 |some l,some h,some (some q),some z=>if (strideOk sz y)=true then some (0≤l∧l≤h∧h=q∧h≤n,σ.put t (.own z))else none
 |_,_,_,_=>none
def cutO (y:V):Option Int→Option Int→Option V
 |some l,some h=>cutV l h y
 |_,_=>none
def St.opt2 (σ:St) (o:Option AO):Option (Option Int):=match o with
 |none=>some none
 |some x=>(asI (σ.ev x)).map some
def oSlcS2 (sz:Nat) (lo hi mx:Option AO) (y:V) (σ:St) (t:AD):Option Int→Res
 |some n=>if (mx.isSome&&hi.isNone)=true then none else oSlcS3 sz y n σ t (σ.opt lo 0) (σ.opt hi n) (σ.opt2 mx) (cutO y (σ.opt lo 0) (σ.opt hi n))
 |none=>none
def oSlcR (sz id off c:Nat) (σ:St) (t:AD):Option Int→Option Int→Res
 |some l,some h=>some (0≤l∧l≤h∧h≤(c:Int),σ.put t (.v (.sob id sz (off+l.toNat) (h-l).toNat (c-l.toNat))))
 |_,_=>none
def oSlcR3 (sz id off c:Nat) (σ:St) (t:AD):Option Int→Option Int→Option (Option Int)→Res
 |some l,some h,some (some q)=>some (0≤l∧l≤h∧h≤q∧q≤(c:Int),σ.put t (.v (.sob id sz (off+l.toNat) (h-l).toNat (q-l).toNat)))
 |_,_,_=>none
def oSlcS (sz:Nat) (lo hi mx:Option AO) (σ:St) (t:AD):Option V→Res
 |some (.sob id sz' off n c)=>if (mx.isNone&&sz==sz')=true then oSlcR sz id off c σ t (σ.opt lo 0) (σ.opt hi n)else if (hi.isSome&&sz==sz')=true then oSlcR3 sz id off c σ t (σ.opt lo 0) (σ.opt hi n) (σ.opt2 mx)else none
 |some y=>oSlcS2 sz lo hi mx y σ t y.lenI
 |none=>none
def oSlcT2 (s:ByteArray) (σ:St) (t:AD):Option Int→Option Int→Res
 |some l,some h=>some (0≤l∧l≤h∧h≤(s.size:Int),σ.put t (.v (.str (s.extract l.toNat h.toNat))))
 |_,_=>none
def oSlcT (lo hi:Option AO) (σ:St) (t:AD):Option V→Res
 |some (.str s)=>oSlcT2 s σ t (σ.opt lo 0) (σ.opt hi s.size)
 |_=>none
def oExt (i:Nat) (σ:St) (t:AD):Option D→Res
 |some (.tup l)=>putVO σ t l[i]?
 |_=>none
def lenO:Option V→Option V
 |some y=>(y.lenI).map fun n=> .int .i64 n
 |none=>none
def oApp2 (bytes:Nat) (x:AO) (a:V) (σ:St) (t:AD):Option V→Res
 |some z=>some ((z.len:Int)*(bytes:Int)≤140737488355328,(σ.put x.ad (.v a)).put t (.own z))
 |none=>none
def oApp (k:Option IntKind) (sz bytes:Nat) (x:AO) (σ:St) (t:AD):Option D→Option V→Res
 |some (.own a),some b=>oApp2 bytes x a σ t (catV k sz a b)
 |_,_=>none
def oS2a (n:Nat) (σ:St) (t:AD):Option V→Res
 |some (.sli k xs)=>some ((n:Int)≤xs.length,σ.put t (.ep (.arr k n (xs.take n))))
 |_=>none
def oCpy3 (k m:Nat) (σ:St) (t:AD):Option V→Res
 |some z=>some (True,({ σ with L:=σ.L.set k ⟨false,z⟩ }:St).put t (.v (.int .i64 (m:Int))))
 |none=>none
def oCpy2 (k:Nat) (p:List Nat) (x:V) (kk:IntKind) (ys:List Int) (σ:St) (t:AD):Option V→Res
 |some (.arr kk' n xs)=>if (kk==kk')=true then oCpy3 k (min ys.length n) σ t (x.upd p (.arr kk n (ys.take n++xs.drop ys.length)))else none
 |_=>none
def oCpy1 (k:Nat) (p:List Nat) (kk:IntKind) (ys:List Int) (σ:St) (t:AD):Option Bx→Res
 |some r=>if (r.fz)=true then none else oCpy2 k p r.x kk ys σ t (r.x.sub p)
 |none=>none
def oCopy (σ:St) (t:AD):Option D→Option V→Res
 |some (.vw k p _),some (.sli kk ys)=>oCpy1 k p kk ys σ t σ.L[k]?
 |some (.vw k p _),some .nils=>some (True,σ.put t (.v (.int .i64 0)))
 |_,_=>none
def foldMM (mx:Bool):Int→List V→Option Int
 |a,[]=>some a
 |a,.int _ b::l=>foldMM mx (if (mx)=true then (if b > a then b else a)else (if b < a then b else a)) l
 |_,_=>none
def oMM (mx:Bool) (σ:St) (t:AD):Option (List V)→Res
 |some (.int k a::l)=>putVO σ t ((foldMM mx a l).map (.int k))
 |_=>none
def zerosV (k:Option IntKind) (sz:Nat) (z:V) (n:Nat):V:=match k with
 |some k=> .sli k (List.replicate n 0)
 |none=> .sle sz (List.replicate n z)
def oMkS (k:Option IntKind) (sz bytes:Nat) (z:V) (σ:St) (t:AD):Option Int→Option Int→Res
 |some l,some c=>some (0≤l∧l≤c∧(bytes:Int)*c≤140737488355328,σ.put t (.own (zerosV k sz z l.toNat)))
 |_,_=>none
def oAppZ2 (bytes:Nat) (x:AO) (a:V) (n:Int) (σ:St) (t:AD):Option V→Res
 |some z=>some (0≤n∧(z.len:Int)*(bytes:Int)≤140737488355328,(σ.put x.ad (.v a)).put t (.own z))
 |none=>none
def oAppZ (k:Option IntKind) (sz bytes:Nat) (z:V) (x:AO) (σ:St) (t:AD):Option D→Option Int→Res
 |some (.own a),some n=>oAppZ2 bytes x a n σ t (catV k sz a (zerosV k sz z n.toNat))
 |_,_=>none
def oAppG (k:Option IntKind) (sz bytes:Nat) (z:V) (σ:St) (t:AD):Option V→Option Int→Res
 |some .nils,some n=>some (0 < n∧n*(bytes:Int)≤140737488355328,σ.put t (.gro (zerosV k sz z 0)))
 |_,_=>none
def oCutG (sz:Nat) (x:AO) (σ:St) (t:AD):Option D→Option Int→Res
 |some (.gro y),some j=>if (strideOk sz y)=true then some (j=(y.len:Int),(σ.put x.ad .jk).put t (.own y))else none
 |_,_=>none
def rowL (G:List (Nat×V)) (sz:Nat):V→Option (List V)
 | .nils=>some []
 | .sle sz' l=>if sz'=sz then some l else none
 | .sli k xs=>if sz=1 then some (xs.map (.int k))else none
 | .sob id sz' off n _=>match look G id with
  |some (.agg L)=>if sz'=sz∧off+n≤L.length∧(L.all fun x=>V.size x==sz)=true then some ((L.drop off).take n)else none
  |_=>none
 |_=>none
def rowO (G:List (Nat×V)) (sz:Nat):Option V→Option (List V)
 |some y=>rowL G sz y
 |none=>none
def putL (L:List V) (i:Nat) (ys:List V):List V:=L.take i++(ys++L.drop (i+ys.length))
def oAppI3 (sz id off n c:Nat) (ys:List V) (σ:St) (t:AD):Option V→Res
 |some (.agg L)=>some (n+ys.length≤c∧off+c≤L.length∧(∀x∈L,V.size x=sz)∧(∀x∈ys,V.size x=sz)∧V.sameL (putL L (off+n) ys) L=true,
   ({ σ with G:=upd σ.G id (.agg (putL L (off+n) ys)) }:St).put t (.v (.sob id sz off (n+ys.length) c)))
 |_=>none
def oAppI (sz:Nat) (σ:St) (t:AD):Option V→Option (List V)→Res
 |some (.sob id sz' off n c),some ys=>if sz=sz' then oAppI3 sz id off n c ys σ t (look σ.G id)else none
 |_,_=>none
def oClr3 (sz id off n:Nat) (z:V) (σ:St) (t:AD):Option V→Res
 |some (.agg L)=>some (off+n≤L.length∧(∀x∈L,V.size x=sz)∧V.size z=sz∧V.sameL (putL L off (List.replicate n z)) L=true,
   ({ σ with G:=upd σ.G id (.agg (putL L off (List.replicate n z))) }:St).put t (.tup []))
 |_=>none
def oClr (sz:Nat) (z:V) (σ:St) (t:AD):Option V→Res
 |some (.sob id sz' off n _)=>if sz=sz' then oClr3 sz id off n z σ t (look σ.G id)else none
 |_=>none
def oSlcZ (σ:St) (t:AD):Option Int→Res
 |some _=>some (True,σ.put t .e0)
 |none=>none
def lenIO:Option V→Option Int
 |some y=>y.lenI
 |none=>none
def oMkFn (f:Nat) (σ:St) (t:AD):Option (List V)→Res
 |some l=>some (True,σ.put t (.v (.fn f l)))
 |none=>none
def byS (s:ByteArray):List Int:=s.data.toList.map fun b=>(b.toNat:Int)
def stS (xs:List Int):ByteArray:=⟨⟨xs.map fun n=>UInt8.ofNat n.toNat⟩⟩
def bsV:Bool→Option V→Option V
 |false,some (.str s)=>some (.sli .u8 (byS s))
 |true,some (.sli .u8 xs)=>some (.str (stS xs))
 |true,some .nils=>some (.str ⟨⟨[]⟩⟩)
 |_,_=>none
def oS2b (r:Bool) (σ:St) (t:AD) (x:Option V):Res:=putVO σ t (bsV r x)
def putR (t:AD) (d:D):Res→Res
 |some (p,σ')=>some (p,σ'.put t d)
 |none=>none
def oAtAdd (σ:St) (t:AD):Option D→Option V→Option V→Res
 |some (.gp id p),some (.int .i64 a),some (.int .i64 b)=>putR t (.v (.int .i64 (IntKind.i64.wrap (a+b)))) (oStoH 1 id p σ (.int .i64 (IntKind.i64.wrap (a+b))) (look σ.G id))
 |_,_,_=>none
def oAtSt (σ:St) (t:AD):Option D→Option V→Res
 |some (.gp id p),some (.int .i64 b)=>putR t (.tup []) (oStoH 1 id p σ (.int .i64 b) (look σ.G id))
 |_,_=>none
def oAtLd (σ:St) (t:AD):Option V→Res
 |some (.int .i64 n)=>some (True,σ.put t (.v (.int .i64 n)))
 |_=>none
def evalOp (tab:List (Nat×V)) (o:PO) (t:AD) (σ:St):Res:=match o with
 | .mv feeds x=>oMv feeds x σ t (σ.ev x)
 | .alloc z=>oBox σ t (some z)
 | .box x=>oBox σ t (asV (σ.ev x))
 | .allocAt r z=>oBoxAt r σ t (some z)
 | .boxAt r x=>oBoxAt r σ t (asV (σ.ev x))
 | .build z ps=>oBuild z σ t (σ.parts ps)
 | .buildS k sz z len ps=>oBuildS k sz z len σ t (σ.parts ps)
 | .buildR k sz z len ps=>oBuildR k sz z len σ t (σ.parts ps)
 | .cvt x=>oCvt x σ t (σ.ev x)
 | .capN x=>putVO σ t (capO (asV (σ.ev x)))
 | .appZ k sz bytes z x n=>oAppZ k sz bytes z x σ t (σ.ev x) (asI (σ.ev n))
 | .appG k sz bytes z x n=>oAppG k sz bytes z σ t (asV (σ.ev x)) (asI (σ.ev n))
 | .cutG sz x h=>oCutG sz x σ t (σ.ev x) (asI (σ.ev h))
 | .load n ag x=>oLoad n ag σ t (subO (atO tab σ (σ.ev x)))
 | .store n a x=>oStore n σ (σ.ev a) (asV (σ.ev x))
 | .nilc x=>oNilc σ t (σ.ev x)
 | .bin op x y=>putPV σ t (binV op (asV (σ.ev x)) (asV (σ.ev y)))
 | .binB op x y=>putPV σ t (binVB op (asV (σ.ev x)) (asV (σ.ev y)))
 | .binP op x y=>putPV σ t (binVP op (asV (σ.ev x)) (asV (σ.ev y)))
 | .eqa neg e x y=>oEqa neg e σ t (asV (σ.ev x)) (asV (σ.ev y))
 | .un op x=>putVO σ t (unV op (asV (σ.ev x)))
 | .conv k x=>oConv k σ t (asV (σ.ev x))
 | .fadr f off x=>oFad tab f off σ t (σ.ev x)
 | .fld f off n ag x=>oField f off n ag σ t (asV (σ.ev x))
 | .iadrA n x i=>oIadrA tab n σ t (σ.ev x) (asI (σ.ev i))
 | .iadrG n sz x i=>oIadrG tab n sz σ t (σ.ev x) (asI (σ.ev i))
 | .iadrS sz x i=>oIadrS sz σ t (asV (σ.ev x)) (asI (σ.ev i))
 | .idxS x i=>oIdxS σ t (asV (σ.ev x)) (asI (σ.ev i))
 | .idxA n x i=>oIdxA n σ t (asV (σ.ev x)) (asI (σ.ev i))
 | .slcA n vw x lo hi mx=>oSlcA n vw lo hi mx σ t (σ.ev x)
 | .slcS sz x lo hi mx=>oSlcS sz lo hi mx σ t (asV (σ.ev x))
 | .slcT x lo hi=>oSlcT lo hi σ t (asV (σ.ev x))
 | .ext x i=>oExt i σ t (σ.ev x)
 | .len x=>putVO σ t (lenO (asV (σ.ev x)))
 | .lenT x=>putVO σ t (lenT (asV (σ.ev x)))
 | .app k sz bytes x y=>oApp k sz bytes x σ t (σ.ev x) (asV (σ.ev y))
 | .copy x y=>oCopy σ t (σ.ev x) (asV (σ.ev y))
 | .mkS k sz bytes z l c=>oMkS k sz bytes z σ t (asI (σ.ev l)) (asI (σ.ev c))
 | .s2a n x=>oS2a n σ t (asV (σ.ev x))
 | .mm mx xs=>oMM mx σ t (σ.evs xs)
 | .mkFn f xs=>oMkFn f σ t (σ.evs xs)
 | .appI sz x y=>oAppI sz σ t (asV (σ.ev x)) (rowO σ.G sz (asV (σ.ev y)))
 | .clr sz z x=>oClr sz z σ t (asV (σ.ev x))
 | .slcZ x=>oSlcZ σ t (lenIO (asV (σ.ev x)))
 | .s2b r x=>oS2b r σ t (asV (σ.ev x))
 | .fad0 x=>oFad0 σ t (asV (σ.ev x))
 | .atLd x=>oAtLd σ t (subO (atO tab σ (σ.ev x)))
 | .atSt a x=>oAtSt σ t (σ.ev a) (asV (σ.ev x))
 | .atAdd a x=>oAtAdd σ t (σ.ev a) (subO (atO tab σ (σ.ev a))) (asV (σ.ev x))
 | .pick .. | .call .. | .callW .. | .nileq .. | .new .. | .newB .. | .callV .. | .appR .. | .bad=>none
inductive R where
 |v (x:V)
 |own (x:V)
 |tup (l:List V)
def R.D:R→D
 | .v x=> .v x
 | .own x=> .own x
 | .tup l=> .tup l
structure Env where
 P:Program
 tab:List (Nat×V)
abbrev Spec:=Nat→List V→List (Nat×V)→(R→List (Nat×V)→Prop)→Prop
def callK (C:Spec) (g:Nat) (vs:List V) (K:St→Prop) (σ:St) (dst:AD):Prop:=C g vs σ.G fun r G'=>K (({ σ with G:=G' }:St).put dst r.D)
def callO (C:Spec) (g:Nat) (o:Option (List V)) (K:St→Prop) (σ:St) (dst:AD):Prop:=match o with
 |some vs=>callK C g vs K σ dst
 |none=>False
def ranO (o:Res) (K:St→Prop):Prop:=match o with
 |some (p,σ')=>p∧K σ'
 |none=>False
def pickO (q:Option Bool) (a b:Option V) (dst:AD) (K:St→Prop) (σ:St):Prop:=match q with
 |some true=>(match a with
  |some x=>K (σ.put dst (.v x))
  |none=>False)
 |some false=>(match b with
  |some x=>K (σ.put dst (.v x))
  |none=>False)
 |none=>False
def nilO (neg:Bool) (x:Option Int) (dst:AD) (K:St→Prop) (σ:St):Prop:=match x with
 |some n=>∀b:Bool,(b=true→n=0)→K (σ.put dst (.v (.bool (neg ^^ b))))
 |none=>False
def newK (z:Option V) (dst:AD) (K:St→Prop) (σ:St):Prop:=match z with
 |some x=>∀id,look σ.G id=none→K (({ σ with G:=(id,x)::σ.G }:St).put dst (.v (.ptr id)))
 |none=>False
def appNew (sz:Nat) (z:V) (els:List V) (K:St→Prop) (σ:St) (dst:AD):Prop:=
 ∀id c:Nat,look σ.G id=none→els.length≤c→K (({ σ with G:=(id,.agg (els++List.replicate (c-els.length) z))::σ.G }:St).put dst (.v (.sob id sz 0 els.length c)))
def appR0 (sz bytes:Nat) (z:V) (d0:D) (ys:List V) (K:St→Prop) (σ:St) (dst:AD):Prop:=
 ((ys.length:Int)*bytes≤140737488355328∧∀x∈ys,V.size x=sz)∧(ys=[]→K (σ.put dst d0))∧(ys≠[]→appNew sz z ys K σ dst)
def appR1 (sz bytes:Nat) (z:V) (id off n c:Nat) (ys:List V) (K:St→Prop) (σ:St) (dst:AD):Option V→Prop
 |some (.agg L)=>(((n+ys.length:Nat):Int)*bytes≤140737488355328∧n≤c∧off+c≤L.length∧(∀x∈L,V.size x=sz)∧∀x∈ys,V.size x=sz)∧
   (n+ys.length≤c→V.sameL (putL L (off+n) ys) L=true∧K (({ σ with G:=upd σ.G id (.agg (putL L (off+n) ys)) }:St).put dst (.v (.sob id sz off (n+ys.length) c))))∧
   (c < n+ys.length→appNew sz z ((L.drop off).take n++ys) K σ dst)
 |_=>False
def e0D (sz:Nat):V→D
 | .int .u8 _=> .e0
 |_=> .v (.sle sz [])
def appRK (sz bytes:Nat) (z:V) (K:St→Prop) (σ:St) (dst:AD):Option D→Option (List V)→Prop
 |some (.v .nils),some ys=>appR0 sz bytes z (.v .nils) ys K σ dst
 |some (.own .nils),some ys=>appR0 sz bytes z (.v .nils) ys K σ dst
 |some .e0,some ys=>appR0 sz bytes z (e0D sz z) ys K σ dst
 |some (.v (.sob id sz' off n c)),some ys=>sz=sz'∧appR1 sz bytes z id off n c ys K σ dst (look σ.G id)
 |_,_=>False
def calleeOk (P:Program) (g:Nat):Bool:=match P.funcs[g]? with
 |some fn=> !(fn.name== "runtime.NumGoroutine")&&fn.body.isSome
 |none=>false
def callVK (C:Spec) (ok:Nat→Bool) (K:St→Prop) (σ:St) (dst:AD):Option V→Option (List V)→Prop
 |some (.fn f caps),some vs=>ok f=true∧callK C f (vs++caps) K σ dst
 |_,_=>False
def lenV:Option V→Option Int
 |some y=>y.lenI
 |none=>none
section
variable (E:Env) (C:Spec)
def Wop (dst:AD) (o:PO) (K:St→Prop) (σ:St):Prop:=match o with
 | .pick c a b=>pickO (asB (σ.ev c)) (asV (σ.ev a)) (asV (σ.ev b)) dst K σ
 | .call g xs=>callO C g (σ.evs xs) K σ dst
 | .callW g xs=>callO C g (σ.evs xs) K σ dst
 | .nileq neg x=>nilO neg (lenV (asV (σ.ev x))) dst K σ
 | .new z=>newK (some z) dst K σ
 | .newB x=>newK (asV (σ.ev x)) dst K σ
 | .callV x xs=>callVK C (calleeOk E.P) K σ dst (asV (σ.ev x)) (σ.evs xs)
 | .appR sz bytes z x y=>appRK sz bytes z K σ dst (σ.ev x) (rowO σ.G sz (asV (σ.ev y)))
 |op=>ranO (evalOp E.tab op dst σ) K
def guardO (t:AO) (want:Bool) (d:Option D) (f h:St→Prop) (σ:St):Prop:=match d with
 |some (.v (.bool true))=>if want=true then f (σ.put t.ad (.v (.bool true)))else h (σ.put t.ad (.v (.bool true)))
 |some (.v (.bool false))=>if want=true then h (σ.put t.ad (.v (.bool false)))else f (σ.put t.ad (.v (.bool false)))
 |some .un=>h σ
 |_=>False
def skipK (dst:AD) (K:St→Prop) (σ:St):Prop:=K (σ.put dst .un)
def Wops:List PI→(St→Prop)→St→Prop
 |[],K,σ=>K σ
 |i::r,K,σ=>match i.guard with
  |none=>Wop E C i.dst i.op (Wops r K) σ
  |some (t,want)=>guardO t want (σ.ev t) (Wop E C i.dst i.op (Wops r K)) (skipK i.dst (Wops r K)) σ
def keepL:Nat→List Nat→List (Option D)→List (Option D)
 |_,_,[]=>[]
 |n,ks,o::l=>(if (ks.contains n)=true then o else none)::keepL (n+1) ks l
def St.keep (σ:St) (ks:List Nat):St:={ σ with vs:=keepL 0 ks σ.vs,ts:=[] }
def seqK (f:(Ex→St→Prop)→St→Prop) (Q:Ex→St→Prop) (e:Ex) (σ:St):Prop:=match e with
 | .normal=>f Q σ
 |e=>Q e σ
def blkK (id:Nat) (Q:Ex→St→Prop) (e:Ex) (σ:St):Prop:=match e with
 | .exit j=>if (j==id)=true then Q .normal σ else Q (.exit j) σ
 |e=>Q e σ
def WL (f:(Ex→St→Prop)→St→Prop) (ks:List Nat) (Q:Ex→St→Prop):Nat→St→Prop
 |0,_=>False
 |n+1,σ=>f (fun e σ'=>match e with
  | .normal=>WL f ks Q n (σ'.keep ks)
  |e=>Q e σ') σ
def condO (q:Option Bool) (A B:Prop):Prop:=match q with
 |some true=>A
 |some false=>B
 |none=>False
def loopK (f:(Ex→St→Prop)→St→Prop) (ks:List Nat) (Q:Ex→St→Prop) (σ:St):Prop:=∃n,WL f ks Q n (σ.keep ks)
def clearK (K:St→Prop) (σ:St):Prop:=K { σ with ts:=[] }
/-! regions that draw their order -/
structure Foot where
 r:Option Nat
 w:Option Nat
 s:Option Nat
 n:Option Nat
 gr:Bool
 gw:Bool
def noF:Foot:=⟨none,none,none,none,false,false⟩
def footR:Option D→Foot
 |some (.lp k _)=>⟨some k,none,none,none,false,false⟩
 |some (.gp _ _)=>⟨none,none,none,none,true,false⟩
 |some (.v _)=>⟨none,none,none,none,true,false⟩
 |_=>noF
def footW:Option D→Foot
 |some (.lp k _)=>⟨none,some k,none,none,false,false⟩
 |some (.vw k _ _)=>⟨none,some k,none,none,false,false⟩
 |some (.gp _ _)=>⟨none,none,none,none,false,true⟩
 |some (.v _)=>⟨none,none,none,none,false,true⟩
 |_=>noF
def footS:Option D→Foot
 |some (.lp k _)=>⟨none,none,some k,none,false,false⟩
 |_=>noF
def foot (σ:St):PO→Foot
 | .load _ _ x=>footR (σ.ev x)
 | .store _ a _=>footW (σ.ev a)
 | .copy a _=>footW (σ.ev a)
 | .slcA _ vw x _ _ _=>if vw=true then footS (σ.ev x)else footW (σ.ev x)
 | .fadr _ _ x=>footS (σ.ev x)
 | .iadrA _ x _=>footS (σ.ev x)
 | .iadrG _ _ x _=>footS (σ.ev x)
 | .allocAt r _=>⟨none,none,none,some (σ.L.length-r),false,false⟩
 | .boxAt r _=>⟨none,none,none,some (σ.L.length-r),false,false⟩
 | .call .. =>⟨none,none,none,none,true,false⟩
 | .callV .. =>⟨none,none,none,none,true,false⟩
 | .callW .. =>⟨none,none,none,none,true,true⟩
 | .appR .. =>⟨none,none,none,none,true,true⟩
 | .new _=>⟨none,none,none,none,true,true⟩
 | .newB _=>⟨none,none,none,none,true,true⟩
 | .appI .. =>⟨none,none,none,none,true,true⟩
 | .clr .. =>⟨none,none,none,none,true,true⟩
 | .atLd x=>footR (σ.ev x)
 |_=>noF
def neO:Option Nat→Option Nat→Bool
 |some a,some b=> !(a==b)
 |_,_=>true
def apartF (a b:Foot):Bool:=
 neO a.n b.n&&neO a.n b.r&&neO a.n b.w&&neO a.n b.s&&neO b.n a.r&&neO b.n a.w&&neO b.n a.s&&
 neO a.w b.w&&neO a.w b.r&&neO b.w a.r&& !(a.gw&&(b.gr ||b.gw))&& !(b.gw&&a.gr)
def getF:List Foot→Nat→Foot
 |[],_=>noF
 |f::_,0=>f
 |_::l,n+1=>getF l n
def pairsOk:List (Nat×Nat)→List Foot→Prop
 |[],_=>True
 |(i,j)::l,fs=>apartF (getF fs i) (getF fs j)=true∧pairsOk l fs
def endD (dep:List (Nat×Nat)) (K:St→Prop) (fs:List Foot) (σ:St):Prop:=pairsOk dep fs∧K σ
def startD (n:Nat) (K:St→Prop) (σ:St):Prop:=K { σ with ts:=[],L:=σ.L++List.replicate n Bx.hole }
def callD (C:Spec) (g:Nat) (vs:List V) (K:St→Prop) (σ:St) (dst:AD):Prop:=C g vs σ.G fun r G'=>G'=σ.G∧K (σ.put dst r.D)
def callDO (C:Spec) (g:Nat) (o:Option (List V)) (K:St→Prop) (σ:St) (dst:AD):Prop:=match o with
 |some vs=>callD C g vs K σ dst
 |none=>False
def callVD (C:Spec) (ok:Nat→Bool) (K:St→Prop) (σ:St) (dst:AD):Option V→Option (List V)→Prop
 |some (.fn f caps),some vs=>ok f=true∧callD C f (vs++caps) K σ dst
 |_,_=>False
def WopD (dst:AD) (o:PO) (K:St→Prop) (σ:St):Prop:=match o with
 | .call g xs=>callDO C g (σ.evs xs) K σ dst
 | .nileq _ _=>False
 | .callW .. =>False
 | .new _=>False
 | .newB _=>False
 | .callV x xs=>callVD C (calleeOk E.P) K σ dst (asV (σ.ev x)) (σ.evs xs)
 | .appR .. =>False
 | .atSt .. =>False
 | .appI .. =>False
 | .clr .. =>False
 | .atLd .. =>False
 | .atAdd .. =>False
 | .alloc _=>False
 | .box _=>False
 |op=>Wop E C dst op K σ
def WopsD:List PI→List Foot→(List Foot→St→Prop)→St→Prop
 |[],fs,K,σ=>K fs σ
 |i::r,fs,K,σ=>match i.guard with
  |none=>WopD E C i.dst i.op (WopsD r (fs++[foot σ i.op]) K) σ
  |some (t,want)=>guardO t want (σ.ev t) (WopD E C i.dst i.op (WopsD r (fs++[foot σ i.op]) K)) (skipK i.dst (WopsD r (fs++[noF]) K)) σ
def wild:PO→Bool
 | .callW .. =>true
 | .appR .. =>true
 | .new _=>true
 | .newB _=>true
 |_=>false
def WopW (dst:AD) (o:PO) (K:St→Prop) (σ:St):Prop:=match o with
 | .callW g xs=>callO C g (σ.evs xs) K σ dst
 | .appR sz bytes z x y=>appRK sz bytes z K σ dst (σ.ev x) (rowO σ.G sz (asV (σ.ev y)))
 | .new z=>newK (some z) dst K σ
 | .newB x=>newK (asV (σ.ev x)) dst K σ
 |op=>WopD E C dst op K σ
def getA:List (Nat×Foot)→Nat→Foot
 |[],_=>noF
 |(k,f)::l,a=>bif a==k then f else getA l a
def chkL:List (Nat×Nat)→Nat→List (Nat×Foot)→Foot→Prop
 |[],_,_,_=>True
 |(a,b)::l,j,fs,f=>(b=j→apartF (getA fs a) f=true)∧chkL l j fs f
def WopsW:List (Nat×PI)→List (Nat×Foot)→List (Nat×Nat)→(St→Prop)→St→Prop
 |[],_,_,K,σ=>K σ
 |(j,i)::r,fs,dep,K,σ=>match i.guard with
  |none=>chkL dep j fs (foot σ i.op)∧WopW E C i.dst i.op (WopsW r ((j,foot σ i.op)::fs) dep K) σ
  |some (t,want)=>guardO t want (σ.ev t) (fun τ=>chkL dep j fs (foot σ i.op)∧WopW E C i.dst i.op (WopsW r ((j,foot σ i.op)::fs) dep K) τ) (skipK i.dst (WopsW r ((j,noF)::fs) dep K)) σ
def W:PC→(Ex→St→Prop)→St→Prop
 | .skip,Q,σ=>Q .normal σ
 | .ret,Q,σ=>Q .ret σ
 | .exit id,Q,σ=>Q (.exit id) σ
 | .seq a b,Q,σ=>W a (seqK (W b) Q) σ
 | .cond c a b,Q,σ=>condO (asB (σ.ev c)) (W a Q σ) (W b Q σ)
 | .block id c,Q,σ=>W c (blkK id Q) σ
 | .loop ks c,Q,σ=>loopK (W c) ks Q σ
 | .reg ops,Q,σ=>clearK (Wops E C ops (Q .normal)) σ
 | .regD n ops dep,Q,σ=>startD n (WopsD E C ops [] (endD dep (Q .normal))) σ
 | .regW n ops dep,Q,σ=>startD n (WopsW E C ops [] dep (Q .normal)) σ
end
end Go.Abs
