/- Laws over plain values, and what functions of the program hand back; no conditions. -/
import Derived.Test.YtjbglbhcbenhpaaPlain6
namespace Go.Abs.Srt
open Go Go.Abs
set_option linter.unusedVariables false
set_option linter.unusedSimpArgs false
section
variable {α:Type} (key:α→Int)
variable {key}
/-! ### runs -/
end
end Go.Abs.Srt
namespace Go.Abs
open Go Go.Abs.Srt
set_option linter.unusedVariables false
set_option linter.unusedSimpArgs false
attribute [go_sem] oIdR oSlcR
structure RowOk (sz:Nat) (z:V) (L:List V):Prop where
 all:∀x∈L,x.size=sz∧x.isAgg=true∧x.same z=true
theorem RowOk.get {sz z L} (h:RowOk sz z L) {i:Nat} {x:V} (hx:L[i]? =some x):x.size=sz∧x.isAgg=true∧x.same z=true:=h.all x (List.mem_of_getElem? hx)
theorem RowOk.same {sz z L} (h:RowOk sz z L) {i j:Nat} {x y:V} (hx:L[i]? =some x) (hy:L[j]? =some y):x.same y=true:=V.same_trans' (h.get hx).2.2 (V.same_symm (h.get hy).2.2)
theorem RowOk.mem {sz z L M} (h:RowOk sz z L) (hm:∀x∈M,x∈L):RowOk sz z M:=⟨fun x hx=>h.all x (hm x hx)⟩
theorem RowOk.set {sz z L} (h:RowOk sz z L) {i j:Nat} {y:V} (hy:L[j]? =some y):RowOk sz z (L.set i y):=h.mem fun w hw=>by
 rcases List.mem_or_eq_of_mem_set hw with h|rfl
 ·exact h
 ·exact List.mem_of_getElem? hy
theorem RowOk.sameL {sz z}:∀{L M:List V},RowOk sz z L→RowOk sz z M→L.length=M.length→V.sameL L M=true
 |[],[],_,_,_=>rfl
 |[],_::_,_,_,h=>by simp at h
 |_::_,[],_,_,h=>by simp at h
 |x::L,y::M,h1,h2,h=>by
  simp only[V.sameL,Bool.and_eq_true]
  exact⟨V.same_trans' (h1.all x (List.mem_cons_self ..)).2.2 (V.same_symm (h2.all y (List.mem_cons_self ..)).2.2),RowOk.sameL (h1.mem fun z hz=>List.mem_cons_of_mem _ hz) (h2.mem fun z hz=>List.mem_cons_of_mem _ hz) (by simpa using h)⟩
def Sub (T l:List (Nat×Spec1)):Prop:=∀f s,look T f=some s→look l f=some s
theorem Sub.run {T l:List (Nat×Spec1)} (h:Sub T l) {f:Nat} (hf:∃s,look T f=some s) {vs G Q} (hq:runO (look T f) vs G Q):runO (look l f) vs G Q:=by
 obtain⟨s,hs⟩:=hf
 rw[h f s hs];rw[hs]at hq;exact hq
end Go.Abs
namespace Go.Abs.Sha
open Go Go.Abs
set_option linter.unusedVariables false
set_option linter.unusedSimpArgs false
attribute [go_sem] decide_eq_true_eq decide_eq_false_iff_not ge_iff_le gt_iff_lt Int.not_le Int.not_lt Bool.not_eq_true' Bool.not_eq_false' Bool.and_eq_true Bool.and_eq_false_iff
def Wd (x:Int):Prop:=0≤x∧x < 4294967296
def rot (x:Int) (n:Nat):Int:=x / 2 ^ n+x % 2 ^ n*2 ^ (32-n)
def shf (x:Int) (n:Nat):Int:=x / 2 ^ n
/-! bits of words -/
/-! ### the hash -/
def word4 (b:List Int) (i:Nat):Int:=b.getD (4*i) 0*16777216+b.getD (4*i+1) 0*65536+b.getD (4*i+2) 0*256+b.getD (4*i+3) 0
def sig0 (x:Int):Int:=bXor .u32 (bXor .u32 (rot x 7) (rot x 18)) (shf x 3)
def sig1 (x:Int):Int:=bXor .u32 (bXor .u32 (rot x 17) (rot x 19)) (shf x 10)
def nextW (w:List Int) (i:Nat):Int:=(w.getD (i-16) 0+sig0 (w.getD (i-15) 0)+w.getD (i-7) 0+sig1 (w.getD (i-2) 0)) % 4294967296
def sched (b:List Int):Nat→List Int
 |0=>List.replicate 64 0
 |i+1=>(sched b i).set i (if i < 16 then word4 b i else nextW (sched b i) i)
structure Regs where
 a:Int
 b:Int
 c:Int
 d:Int
 e:Int
 f:Int
 g:Int
 h:Int
def big0 (x:Int):Int:=bXor .u32 (bXor .u32 (rot x 2) (rot x 13)) (rot x 22)
def big1 (x:Int):Int:=bXor .u32 (bXor .u32 (rot x 6) (rot x 11)) (rot x 25)
def cho (e f g:Int):Int:=bXor .u32 (bAnd .u32 e f) (bAnd .u32 (bNot .u32 e) g)
def maj (a b c:Int):Int:=bXor .u32 (bXor .u32 (bAnd .u32 a b) (bAnd .u32 a c)) (bAnd .u32 b c)
def tee (s:Regs) (k w:Int):Int:=(s.h+big1 s.e+cho s.e s.f s.g+k+w) % 4294967296
def you (s:Regs):Int:=(big0 s.a+maj s.a s.b s.c) % 4294967296
def rnd (s:Regs) (k w:Int):Regs:=⟨(tee s k w+you s) % 4294967296,s.a,s.b,s.c,(s.d+tee s k w) % 4294967296,s.e,s.f,s.g⟩
def rnds (k w:List Int) (s:Regs):Nat→Regs
 |0=>s
 |i+1=>rnd (rnds k w s i) (k.getD i 0) (w.getD i 0)
def Regs.ok (s:Regs):Prop:=Wd s.a∧Wd s.b∧Wd s.c∧Wd s.d∧Wd s.e∧Wd s.f∧Wd s.g∧Wd s.h
def ofL (s:List Int):Regs:=⟨s.getD 0 0,s.getD 1 0,s.getD 2 0,s.getD 3 0,s.getD 4 0,s.getD 5 0,s.getD 6 0,s.getD 7 0⟩
def block (k:List Int) (s b:List Int):List Int:=
 let r:=rnds k (sched b 64) (ofL s) 64
 [(s.getD 0 0+r.a) % 4294967296,(s.getD 1 0+r.b) % 4294967296,(s.getD 2 0+r.c) % 4294967296,(s.getD 3 0+r.d) % 4294967296,(s.getD 4 0+r.e) % 4294967296,(s.getD 5 0+r.f) % 4294967296,(s.getD 6 0+r.g) % 4294967296,(s.getD 7 0+r.h) % 4294967296]
def Byt (b:List Int):Prop:=∀x∈b,0≤x∧x≤255
def lenB (n i:Nat):Int:=((8*n / 2 ^ (8*i)) % 256:Nat)
def lens (n:Nat):List Int:=[lenB n 7,lenB n 6,lenB n 5,lenB n 4,lenB n 3,lenB n 2,lenB n 1,lenB n 0]
def ending (n:Nat):List Int:=128::(List.replicate ((119-n % 64) % 64) 0++lens n)
def fillB (b:List Int):List Int:=b++ending b.length
theorem byt_nil:Byt []:=fun x h=>by cases h
theorem byt_cons {x:Int} {b:List Int} (hx:0≤x∧x≤255) (hb:Byt b):Byt (x::b):=fun y hy=>by
 rcases List.mem_cons.1 hy with rfl|h
 ·exact hx
 ·exact hb y h
def iter (k f s:List Int):Nat→List Int
 |0=>s
 |i+1=>block k (iter k f s i) ((f.drop (64*i)).take 64)
def start8:List Int:=[1779033703,3144134277,1013904242,2773480762,1359893119,2600822924,528734635,1541459225]
def octOf (x:Int) (i:Nat):Int:=(x / 2 ^ (24-8*i)) % 256
def bytes4 (x:Int):List Int:=[octOf x 0,octOf x 1,octOf x 2,octOf x 3]
def sumB (k b:List Int):List Int:=(iter k (fillB b) start8 ((b.length+8) / 64+1)).flatMap bytes4
/-! ### sums with a key -/
def keyB (k key:List Int):List Int:=if key.length > 64 then sumB k key++List.replicate 32 0 else key++List.replicate (64-key.length) 0
def turnB (b:List Int) (c:Int):List Int:=b.map fun x=>bXor .u8 x c
/-! bytes held against each other -/
def macB (k key text:List Int):List Int:=sumB k (turnB (keyB k key) 92++sumB k (turnB (keyB k key) 54++text))
def seedB (i:Int):List Int:=[116,105,116,104,105,110,103,32,107,101,121,32]++[IntKind.u8.wrap i]
def zero32:List Int:=zz2
def keyH (k:List Int) (i:Int):List Int:=if 1≤i∧i≤21 then sumB k (seedB i)else zero32
def tagH (k:List Int) (i d:Int) (b:List Int):List Int:=if 1≤i∧i≤21 then macB k (keyH k i) ([d]++b)else zero32
def num (n:Nat):List Int:=if n < 128 then [(n:Int)]else ((n % 128+128:Nat):Int)::num (n / 128)
termination_by n
decreasing_by omega
theorem num_small {n:Nat} (h:n < 128):num n=[(n:Int)]:=by rw[num,if_pos h]
theorem num_big {n:Nat} (h:¬n < 128):num n=((n % 128+128:Nat):Int)::num (n / 128):=by rw[num,if_neg h]
theorem byt_num:∀(k n:Nat),n < 128 ^ (k+1)→Byt (num n)∧(num n).length≤k+1
 |0,n,h=>by
  rw[num_small (by omega)]
  exact⟨byt_cons (by omega) byt_nil,by simp⟩
 |k+1,n,h=>by
  by_cases hn:n < 128
  ·rw[num_small hn]
   exact⟨byt_cons (by omega) byt_nil,by simp⟩
  ·rw[num_big hn]
   have h2:n / 128 < 128 ^ (k+1):=by
    rw[Nat.pow_succ]at h
    exact Nat.div_lt_of_lt_mul (by rw[Nat.mul_comm];exact h)
   obtain⟨h3,h4⟩:=byt_num k _ h2
   refine⟨byt_cons (by omega) h3,by simp only[List.length_cons];omega⟩
theorem num_ok {n:Nat} (h:n < 18446744073709551616):Byt (num n)∧(num n).length≤10:=
 byt_num 9 n (Nat.lt_of_lt_of_le h (by decide))
structure AttS where
 who:Int
 ki:Int
 vi:Int
 ph:Int
 ha:List Int
 pv:Int
 pa:List Int
 ta:List Int
def AttS.v (a:AttS):V:= .agg [.int .i64 a.who,.int .i64 a.ki,.int .i64 a.vi,.int .i64 a.ph,.arr .u8 32 a.ha,.int .i64 a.pv,.arr .u8 32 a.pa,.arr .u8 32 a.ta]
def I64 (n:Int):Prop:= -9223372036854775808≤n∧n≤9223372036854775807
instance (n:Int):Decidable (I64 n):=by unfold I64;infer_instance
def H32 (h:List Int):Prop:=Byt h∧h.length=32
structure AttS.wf (a:AttS):Prop where
 who:I64 a.who
 ki:I64 a.ki
 vi:I64 a.vi
 ph:I64 a.ph
 pv:I64 a.pv
 ha:H32 a.ha
 pa:H32 a.pa
 ta:H32 a.ta
def AttS.May (a:AttS):Prop:=(1≤a.who∧a.who≤21)∧(1≤a.ki∧a.ki≤3)∧a.ph=a.ki∧(1≤a.vi∧a.vi≤1099511627776)∧0≤a.pv∧(a.pv < a.vi∨a.ki=3∧a.pv=a.vi)
instance (a:AttS):Decidable a.May:=by unfold AttS.May;infer_instance
def AttS.may (a:AttS):Bool:=decide a.May
def AttS.said (a:AttS):List Int:=num a.ki.toNat++num a.vi.toNat++num a.ph.toNat++a.ha++num a.pv.toNat++a.pa
def AttS.tag (kt:List Int) (a:AttS):List Int:=tagH kt a.who 1 a.said
def AttS.signed (kt:List Int) (a:AttS):AttS:={ a with ta:=a.tag kt }
def AttS.right (kt:List Int) (a:AttS):Bool:=a.may&&decide (a.ta=a.tag kt)
def AttS.zero:AttS:=⟨0,0,0,0,zero32,0,zero32,zero32⟩
theorem AttS.nums {a:AttS} (h:a.wf) (hm:a.May):Byt (num a.ki.toNat)∧(num a.ki.toNat).length≤10∧Byt (num a.vi.toNat)∧(num a.vi.toNat).length≤10∧Byt (num a.ph.toNat)∧(num a.ph.toNat).length≤10∧Byt (num a.pv.toNat)∧(num a.pv.toNat).length≤10:=by
 obtain⟨h1,h2,h3,h4,h5,h6⟩:=hm
 obtain⟨a1,a2⟩:=num_ok (n:=a.ki.toNat) (by omega)
 obtain⟨b1,b2⟩:=num_ok (n:=a.vi.toNat) (by omega)
 obtain⟨c1,c2⟩:=num_ok (n:=a.ph.toNat) (by omega)
 obtain⟨d1,d2⟩:=num_ok (n:=a.pv.toNat) (by omega)
 exact⟨a1,a2,b1,b2,c1,c2,d1,d2⟩
end Go.Abs.Sha
namespace Go.Proofs.Ytjbglbhcbenhpaa.Sha
open Go Go.Abs Go.Abs.Sha Go.Abs.Srt
set_option linter.unusedSimpArgs false
set_option linter.unusedVariables false
set_option maxRecDepth 100000
attribute [local irreducible] W Wops WopsD WL Wop WopD
variable {E:Env} {C:Abs.Spec} {l:List (Nat×Spec1)} {G:List (Nat×V)} {Q:R→List (Nat×V)→Prop}
set_option maxHeartbeats 1000000
theorem wc {x:Int} {k:Nat} (h:x=(k:Int)) (h2:k < 9000000000000000000):IntKind.i64.wrap x=(k:Int):=by rw[h];exact w64 (by omega) (by omega)
open Go Go.Abs Go.Abs.Sha
def pf69:PF:=
 PF.mk 1 3 9 ((PC.reg [nn (.v 2) (.mv true (.c (.v (.bool false))))]).seq ((PC.reg [mm 3 0,nn (.t 4) (.bin .geq (.t 3) (.c (.v (.int .i64 1)))),nn (.t
  5) (.mv false (.t 4)),gm 6 0 5 true,⟨.t 7,.bin .leq (.t 6) (.c (.v (.int .i64 21))),some (.t 5,true)⟩,nn (.t 8) (.pick (.t 5) (.t 7) (.c (.v
  (.bool false)))),ma 2 8]).seq PC.ret)) [(.v 2,none)]
def SNo:Spec1
 |[.int .i64 n],G,Q=>Q (.v (.bool (decide (1≤n∧n≤21)))) G
 |_,_,_=>False
theorem SNo_eq {n}:SNo [.int .i64 n] G Q=(Q (.v (.bool (decide (1≤n∧n≤21)))) G):=rfl
theorem walk69 {n:Int} (h:Q (.v (.bool (decide (1≤n∧n≤21)))) G):Wf E C pf69 [.int .i64 n] G Q:=by
 by_cases h1:1≤n<;>by_cases h2:n≤21
 all_goals
  simp -implicitDefEqProofs only[pf69,h1,h2,go_sem,↓reduceIte]
  try (exact finB h (by simp[h1,h2]))
end Go.Proofs.Ytjbglbhcbenhpaa.Sha
namespace Go.Abs.Sha
open Go Go.Abs
set_option maxRecDepth 100000
open Go Go.Abs Go.Abs.Srt
set_option linter.unusedVariables false
set_option linter.unusedSimpArgs false
structure CertS where
 att:AttS
 sigs:List (Int×List Int)
def sgV (p:Int×List Int):V:= .agg [.int .i64 p.1,.arr .u8 32 p.2]
def CertS.v (c:CertS):V:= .agg [c.att.v,.sle 33 (c.sigs.map sgV)]
def CertS.zero:CertS:=⟨.zero,[]⟩
def quo (n:Int):Int:=if 1≤n∧n≤21∧n % 2=1 then n / 2+1 else 0
theorem quo_le {n:Int} (h:quo n≠0):1≤n∧n≤21∧n % 2=1∧quo n=n / 2+1:=by
 unfold quo at*;split at h
 ·rename_i c;rw[if_pos c];exact⟨c.1,c.2.1,c.2.2,rfl⟩
 ·exact absurd rfl h
theorem _root_.Go.Abs.Row.one {G0 G:List (Nat×V)} {sz:Nat} {z x:V} {els:List V} (h:Row G0 G sz z x els):x.size=1∧x.isAgg=false:=by
 obtain⟨_,⟨rfl,_⟩|⟨id,c,L,rfl,_⟩⟩:=h<;>exact⟨rfl,rfl⟩
theorem _root_.Go.Abs.Row.base {G0 G1 G:List (Nat×V)} {sz:Nat} {z x:V} {els:List V} (h:Row G1 G sz z x els) (he:Go.Abs.Ext G0 G1):Row G0 G sz z x els:=by
 obtain⟨h0,h⟩:=h
 refine⟨he.trans h0,?_⟩
 rcases h with h|⟨id,c,L,h1,h2,h3⟩
 ·exact .inl h
 ·exact .inr ⟨id,c,L,h1,he.none h2,h3⟩
end Go.Abs.Sha
namespace Go.Proofs.Ytjbglbhcbenhpaa.Sha
open Go Go.Abs Go.Abs.Sha Go.Abs.Srt
set_option linter.unusedSimpArgs false
set_option linter.unusedVariables false
set_option maxRecDepth 100000
def pf66:PF:=
 PF.mk 1 3 14 ((PC.reg [nn (.v 2) (.mv true (.c (.v (.int .i64 0))))]).seq (((PC.reg [mm 3 0,nn (.t 4) (.call 69 [.t 3]),nn (.t 5) (.un .not (.t 4)),
  nn (.t 6) (.mv false (.t 5)),gm 7 0 6 false,⟨.t 8,.bin .rem (.t 7) (.c (.v (.int .i64 2))),some (.t 6,false)⟩,⟨.t 9,.bin .eql (.t 8) (.c (.v
  (.int .i64 0))),some (.t 6,false)⟩,nn (.t 10) (.pick (.t 6) (.c (.v (.bool true))) (.t 9))]).seq (PC.cond (.t 10) ((PC.reg [nn (.v 2) (.mv true
  (.c (.v (.int .i64 0))))]).seq PC.ret) PC.skip)).seq ((PC.reg [mm 11 0,nn (.t 12) (.bin .quo (.t 11) (.c (.v (.int .i64 2)))),nn (.t 13) (.bin .add
  (.t 12) (.c (.v (.int .i64 1)))),ma 2 13]).seq PC.ret))) [(.v 2,none)]
def lp37_0:PC:=
 ((PC.reg [mm 4 3,nn (.t 5) (.bin .leq (.t 4) (.c (.v (.int .i64 10))))]).seq (PC.cond (.t 5) PC.skip (PC.exit 0))).seq ((PC.block 1 ((PC.reg [mm 8 0,
  mm 9 3,nn (.t 10) (.bin .mul (.c (.v (.int .i64 2))) (.t 9)),nn (.t 11) (.bin .add (.t 10) (.c (.v (.int .i64 1)))),nn (.t 12) (.bin .eql (.t 8)
  (.t 11))]).seq (PC.cond (.t 12) ((PC.reg [mm 13 3,nn (.t 14) (.bin .add (.t 13) (.c (.v (.int .i64 1)))),ma 2 14]).seq PC.ret) PC.skip))).seq
  (PC.reg [mm 6 3,nn (.t 7) (.bin .add (.t 6) (.c (.v (.int .i64 1)))),ma 3 7]))
def pf37:PF:=
 PF.mk 1 4 15 ((PC.reg [nn (.v 2) (.mv true (.c (.v (.int .i64 0))))]).seq (((PC.reg [nn (.v 3) (.mv true (.c (.v (.int .i64 0))))]).seq (PC.block 0
  (PC.loop [0,3] lp37_0))).seq ((PC.reg [nn (.v 2) (.mv true (.c (.v (.int .i64 0))))]).seq PC.ret))) [(.v 2,none)]
attribute [local irreducible] W Wops WopsD WL Wop WopD
variable {E:Env} {C:Abs.Spec} {l:List (Nat×Spec1)} {G:List (Nat×V)} {Q:R→List (Nat×V)→Prop}
set_option maxHeartbeats 1000000
def ZQu:Spec1
 |[.int .i64 n],G,Q=>I64 n∧Q (.v (.int .i64 (quo n))) G
 |_,_,_=>False
theorem ZQu_eq {n}:ZQu [.int .i64 n] G Q=(I64 n∧Q (.v (.int .i64 (quo n))) G):=rfl
theorem walk66 {n:Int} (h37:Abs.look l 69=some SNo) (hn:I64 n) (h:Q (.v (.int .i64 (quo n))) G):Wf E (specOf l) pf66 [.int .i64 n] G Q:=by
 unfold I64 at hn
 simp -implicitDefEqProofs only[pf66,h37,SNo_eq,go_sem,↓reduceIte]
 have t2:0≤n→n.tmod 2=n % 2:=fun h=>Int.tmod_eq_emod_of_nonneg h
 have d2:0≤n→n.tdiv 2=n / 2:=fun h=>Int.tdiv_eq_ediv_of_nonneg h
 by_cases h1:1≤n∧n≤21
 ·have t2:=t2 (by omega)
  have d2:=d2 (by omega)
  have w1:IntKind.i64.wrap (n / 2)=n / 2:=w64 (by omega) (by omega)
  have w2:IntKind.i64.wrap (n / 2+1)=n / 2+1:=w64 (by omega) (by omega)
  by_cases h2:n % 2=0
  ·have e:quo n=0:=by unfold quo;rw[if_neg (by omega)]
   rw[e]at h
   simp -implicitDefEqProofs only[h1,t2,h2,go_sem,↓reduceIte]
   first|exact h|((repeat' (first|(intro _)|constructor))<;>first|exact h|omega)
  ·have e:quo n=n / 2+1:=by unfold quo;rw[if_pos (by omega)]
   rw[e]at h
   simp -implicitDefEqProofs only[h1,t2,h2,d2,w1,w2,go_sem,↓reduceIte]
   first|exact h|((repeat' (first|(intro _)|constructor))<;>first|exact h|omega)
 ·have e:quo n=0:=by unfold quo;rw[if_neg (by omega)]
  rw[e]at h
  simp -implicitDefEqProofs only[h1,go_sem,↓reduceIte]
  first|exact h|((repeat' (first|(intro _)|constructor))<;>first|exact h|omega)
theorem loop37 {n:Int} {QQ:Ex→St→Prop} (hx:∀i ts,quo n=0→QQ (.exit 0) ⟨[some (.v (.int .i64 n)),none,none,some (.v (.int .i64 (i:Nat)))],ts,[],G⟩) (hr:∀σ:St,σ.G=G→St.ev σ (.v 2)=some (.v (.int .i64 (quo n)))→QQ .ret σ):
  ∀(k i:Nat),i+k=11→(∀j:Nat,j < i→n≠2*(j:Int)+1)→WL (W E C lp37_0) [0,3] QQ (k+1) ⟨[some (.v (.int .i64 n)),none,none,some (.v (.int .i64 (i:Nat)))],[],[],G⟩:=by
 intro k
 induction k with
 |zero=>
  intro i hi hj
  have c1:¬(i:Int)≤10:=by omega
  refine WL_in lp37_0.eq_1 ?_
  simp -implicitDefEqProofs only[c1,go_sem,↓reduceIte]
  refine hx i _ ?_
  unfold quo
  rw[if_neg]
  rintro⟨h1,h2,h3⟩
  exact hj (n / 2).toNat (by omega) (by omega)
 |succ k ih=>
  intro i hi hj
  have c1:(i:Int)≤10:=by omega
  have w1:IntKind.i64.wrap (2*(i:Int))=((2*i:Nat):Int):=wc (by omega) (by omega)
  have w2:IntKind.i64.wrap (((2*i:Nat):Int)+1)=((2*i+1:Nat):Int):=wc (by omega) (by omega)
  have w3:IntKind.i64.wrap ((i:Int)+1)=((i+1:Nat):Int):=wc (by omega) (by omega)
  refine WL_in lp37_0.eq_1 ?_
  by_cases e:n=((2*i+1:Nat):Int)
  ·simp -implicitDefEqProofs only[c1,w1,w2,w3,e,go_sem,↓reduceIte]
   have q:quo n=((i+1:Nat):Int):=by
    unfold quo;rw[if_pos (by omega)];omega
   rw[←e,←q]at*
   exact hr _ rfl rfl
  ·simp -implicitDefEqProofs only[c1,w1,w2,w3,e,go_sem,↓reduceIte]
   refine ih (i+1) (by omega) fun j hj2=> ?_
   by_cases e2:j=i
   ·subst e2;intro h;exact e (by omega)
   ·exact hj j (by omega)
theorem walk37 {n:Int} (h:Q (.v (.int .i64 (quo n))) G):Wf E C pf37 [.int .i64 n] G Q:=by
 simp -implicitDefEqProofs only[pf37,go_sem,↓reduceIte]
 refine⟨12,?_⟩
 simp -implicitDefEqProofs only[go_sem,↓reduceIte]
 refine loop37 (fun i ts e=> ?_) (fun σ e1 e2=> ?_) 11 0 rfl (fun j hj=>by omega)
 ·simp -implicitDefEqProofs only[go_sem,↓reduceIte]
  rw[e]at h;exact h
 ·show resQ Q σ.G (rD (St.ev σ (.v 2)))
  rw[e1,e2];exact h
def risesB (n:Int):Int→List Int→Bool
 |_,[]=>true
 |low,w::ws=>if w≤low∨n < w then false else risesB n w ws
def _root_.Go.Abs.Sha.CertS.wf (c:CertS):Prop:=c.att.wf∧(∀p∈c.sigs,I64 p.1∧H32 p.2)
def withS (a:AttS) (p:Int×List Int):AttS:={ a with who:=p.1,ta:=p.2 }
def _root_.Go.Abs.Sha.CertS.right (kt:List Int) (n:Int) (c:CertS):Bool:=
 if quo n=0∨(c.sigs.length:Int)≠quo n∨risesB n 0 (c.sigs.map (·.1))=false∨c.att.who≠0∨c.att.ta≠zero32 then false else c.sigs.all fun p=>(withS c.att p).right kt
def SgV (G:List (Nat×V)) (x:V) (sg:List (Int×List Int)):Prop:=
 x= .sle 33 (sg.map sgV)∨(x= .nils∧sg=[])∨∃id c LL,x= .sob id 33 0 sg.length c∧Abs.look G id=some (.agg LL)∧(∀(i:Nat) p,sg[i]? =some p→LL[i]? =some (sgV p))∧sg.length≤LL.length∧∀y∈LL,V.size y=33
theorem SgV.one {x:V} {sg:List (Int×List Int)} (h:SgV G x sg):V.size x=1∧V.isAgg x=false:=by
 rcases h with rfl|⟨rfl,_⟩|⟨id,c,LL,rfl,_⟩<;>exact⟨rfl,rfl⟩
theorem at_drop2 {α:Type} {l:List α} {j:Nat} {p:α} {r:List α} (h:l.drop j=p::r):l[j]? =some p:=by
 have:(l.drop j)[0]? =some p:=by rw[h];rfl
 rwa [List.getElem?_drop,Nat.add_zero]at this
theorem drop_one {α:Type} {l r:List α} {j:Nat} {p:α} (h:l.drop j=p::r):l.drop (j+1)=r∧j < l.length∧l.length=j+1+r.length:=by
 have e:l.drop (j+1)=r:=by rw[←List.drop_drop,h];rfl
 have:=congrArg List.length h
 rw[List.length_drop,List.length_cons]at this
 exact⟨e,by omega,by omega⟩
theorem drop_none {α:Type} {l:List α} {j:Nat} (h:l.drop j=[]):l.length≤j:=by
 have:=congrArg List.length h
 rw[List.length_drop,List.length_nil]at this;omega
def pf88:PF:=
 PF.mk 1 3 9 ((PC.reg [nn (.v 2) (.mv true (.c (.v (.bool false))))]).seq ((PC.reg [mm 3 0,nn (.t 4) (.bin .lss (.t 3) (.c (.v (.int .i64 0)))),nn (.t
  5) (.mv false (.t 4)),gm 6 0 5 false,⟨.t 7,.bin .gtr (.t 6) (.c (.v (.int .i64 1099511627776))),some (.t 5,false)⟩,nn (.t 8) (.pick (.t 5) (.c
  (.v (.bool true))) (.t 7)),ma 2 8]).seq PC.ret)) [(.v 2,none)]
def lp110_0:PC:=
 (PC.reg [nn (.t 9) (.bin .lss (.v 8) (.v 7))]).seq ((PC.cond (.t 9) PC.skip (PC.exit 0)).seq ((PC.block 1 ((PC.reg [nn (.t 10) (.mv true (.v 8)),ma 5
  10]).seq ((PC.reg [mm 11 1,mm 12 0,mm 13 5,nn (.t 14) (.iadrS 1 (.t 12) (.t 13)),nn (.t 15) (.load 1 false (.t 14)),nn (.t 16) (.callV (.t 11)
  [.t 15])]).seq (PC.cond (.t 16) ((PC.reg [nn (.t 17) (.mv true (.v 5)),ma 4 17]).seq PC.ret) PC.skip)))).seq (PC.reg [nn (.t 18) (.bin .add (.v 8)
  (.c (.v (.int .i64 1)))),nn (.v 8) (.mv false (.t 18))])))
def pf110:PF:=
 PF.mk 2 9 19 ((PC.reg [nn (.v 4) (.mv true (.c (.v (.int .i64 0))))]).seq (((PC.reg [nn (.v 6) (.mv false (.v 0)),nn (.v 7) (.len (.v 6)),nn (.v 8)
  (.mv false (.c (.v (.int .i64 0))))]).seq (PC.block 0 (PC.loop [0,1,7,8] lp110_0))).seq ((PC.reg [nn (.v 4) (.mv true (.c (.v (.int .i64
  ((-1))))))]).seq PC.ret))) [(.v 4,none)]
def pf87:PF:=
 PF.mk 2 5 9 ((PC.reg [nn (.v 4) (.mv true (.c (.v (.bool false))))]).seq ((PC.reg [mm 5 0,mm 6 1,nn (.t 7) (.call 110 [.t 5,.t 6]),nn (.t 8) (.bin
  .geq (.t 7) (.c (.v (.int .i64 0)))),ma 4 8]).seq PC.ret)) [(.v 4,none)]
def pf64:PF:=
 PF.mk 1 3 12 ((PC.reg [nn (.v 2) (.mv true (.c (.v (.bool false))))]).seq ((PC.reg [mm 3 0,nn (.t 4) (.len (.t 3)),nn (.t 5) (.call 66 [.t 4]),nn
  (.t 6) (.bin .gtr (.t 5) (.c (.v (.int .i64 0)))),nn (.t 7) (.mv false (.t 6)),gm 8 0 7 true,⟨.t 9,.call 87 [.t 8,.c (.fn 88)],some (.t 7,
  true)⟩,⟨.t 10,.un .not (.t 9),some (.t 7,true)⟩,nn (.t 11) (.pick (.t 7) (.t 10) (.c (.v (.bool false)))),ma 2 11]).seq PC.ret)) [(.v 2,none)]
def pf36:PF:=
 PF.mk 1 3 8 ((PC.reg [nn (.v 2) (.mv true (.c (.own .nils)))]).seq (((PC.reg [mm 3 0,nn (.t 4) (.call 66 [.t 3]),nn (.t 5) (.bin .eql (.t 4) (.c (.v
  (.int .i64 0))))]).seq (PC.cond (.t 5) ((PC.reg [nn (.v 2) (.mv true (.c (.own .nils)))]).seq PC.ret) PC.skip)).seq ((PC.reg [mm 6 0,nn (.t 7) (.mkS
  (some .i64) 1 8 (.int .i64 0) (.t 6) (.t 6)),ma 2 7]).seq PC.ret))) [(.v 2,none)]
def lp42_0:PC:=
 ((PC.reg [mm 7 6,mm 8 0,nn (.t 9) (.len (.t 8)),nn (.t 10) (.bin .lss (.t 7) (.t 9))]).seq (PC.cond (.t 10) PC.skip (PC.exit 0))).seq ((PC.block 1
  ((PC.reg [mm 13 0,mm 14 6,nn (.t 15) (.iadrS 1 (.t 13) (.t 14)),nn (.t 16) (.load 1 false (.t 15)),mm 17 1,nn (.t 18) (.bin .geq (.t 16) (.t
  17))]).seq (PC.cond (.t 18) (PC.reg [mm 19 5,nn (.t 20) (.bin .add (.t 19) (.c (.v (.int .i64 1)))),ma 5 20]) PC.skip))).seq (PC.reg [mm 11 6,nn
  (.t 12) (.bin .add (.t 11) (.c (.v (.int .i64 1)))),ma 6 12]))
def pf42:PF:=
 PF.mk 2 7 22 ((PC.reg [nn (.v 4) (.mv true (.c (.v (.int .i64 0))))]).seq ((PC.reg [nn (.v 5) (.mv true (.c (.v (.int .i64 0))))]).seq (((PC.reg [nn
  (.v 6) (.mv true (.c (.v (.int .i64 0))))]).seq (PC.block 0 (PC.loop [0,1,5,6] lp42_0))).seq ((PC.reg [nn (.t 21) (.mv true (.v 5)),ma 4 21]).seq
  PC.ret)))) [(.v 4,none)]
def lp40_0:PC:=
 (PC.reg [nn (.t 14) (.bin .lss (.v 13) (.v 12))]).seq ((PC.cond (.t 14) PC.skip (PC.exit 0)).seq ((PC.block 1 ((PC.reg [nn (.t 15) (.iadrS 1 (.v 11)
  (.v 13)),nn (.t 16) (.load 1 false (.t 15)),ma 7 16]).seq ((PC.reg [mm 17 7,mm 18 1,nn (.t 19) (.bin .gtr (.t 17) (.t 18))]).seq (PC.cond (.t 19)
  (PC.reg [mm 20 5,nn (.t 21) (.bin .add (.t 20) (.c (.v (.int .i64 1)))),ma 5 21]) PC.skip)))).seq (PC.reg [nn (.t 22) (.bin .add (.v 13) (.c (.v
  (.int .i64 1)))),nn (.v 13) (.mv false (.t 22))])))
def pf40:PF:=
 PF.mk 2 14 24 ((PC.reg [nn (.v 4) (.mv true (.c (.v (.int .i64 0))))]).seq ((PC.reg [nn (.v 5) (.mv true (.c (.v (.int .i64 0))))]).seq (((PC.reg [nn
  (.v 8) (.mv false (.v 0)),nn (.v 9) (.call 64 [.v 8]),nn (.v 10) (.un .not (.v 9))]).seq (PC.cond (.v 10) ((PC.reg [nn (.v 4) (.mv true (.c (.v
  (.int .i64 0))))]).seq PC.ret) PC.skip)).seq (((PC.reg [nn (.v 11) (.mv false (.v 0)),nn (.v 12) (.len (.v 11)),nn (.v 13) (.mv false (.c (.v (.int
  .i64 0))))]).seq (PC.block 0 (PC.loop [1,5,11,12,13] lp40_0))).seq ((PC.reg [nn (.t 23) (.mv true (.v 5)),ma 4 23]).seq PC.ret))))) [(.v 4,
  none)]
def badV (v:Int):Bool:=decide (v < 0)||decide (1099511627776 < v)
def idxV:Nat→List Int→Int
 |_,[]=> -1
 |i,t::l=>if badV t=true then (i:Int)else idxV (i+1) l
theorem idxV_any:∀{l:List Int} {i:Nat},decide (0≤idxV i l)=l.any badV
 |[],i=>rfl
 |t::l,i=>by
  simp only[idxV,List.any_cons]
  split
  ·rename_i h;rw[h];simp
  ·rename_i h;have h:badV t=false:=by simpa using h
   rw[h,Bool.false_or,idxV_any]
def NV (x:V) (xs:List Int):Prop:=x= .sli .i64 xs∨(x= .nils∧xs=[])
def mayV (xs:List Int):Bool:=decide (0 < quo xs.length)&& !(xs.any badV)
def cntG (v:Int) (xs:List Int):Int:=(xs.countP fun y=>decide (v < y):Nat)
def cntE (v:Int) (xs:List Int):Int:=(xs.countP fun y=>decide (v≤y):Nat)
def ahdV (xs:List Int) (v:Int):Int:=if mayV xs=true then cntG v xs else 0
def newV (n:Int):V:=if quo n=0 then .nils else .sli .i64 (List.replicate n.toNat 0)
def ZMc:Spec1
 |[.int .i64 v],G,Q=>Q (.v (.bool (badV v))) G
 |_,_,_=>False
def ZIv:Spec1
 |[x,.fn 88 []],G,Q=>∃xs:List Int,(NV x xs∧xs.length < 1000000)∧Q (.v (.int .i64 (idxV 0 xs))) G
 |_,_,_=>False
theorem ZIv_eq {x}:ZIv [x,.fn 88 []] G Q=(∃xs:List Int,(NV x xs∧xs.length < 1000000)∧Q (.v (.int .i64 (idxV 0 xs))) G):=rfl
def ZCv:Spec1
 |[x,.fn 88 []],G,Q=>∃xs:List Int,(NV x xs∧xs.length < 1000000)∧Q (.v (.bool (xs.any badV))) G
 |_,_,_=>False
theorem ZCv_eq {x}:ZCv [x,.fn 88 []] G Q=(∃xs:List Int,(NV x xs∧xs.length < 1000000)∧Q (.v (.bool (xs.any badV))) G):=rfl
def ZMv:Spec1
 |[x],G,Q=>∃xs:List Int,(NV x xs∧xs.length < 1000000)∧Q (.v (.bool (mayV xs))) G
 |_,_,_=>False
theorem ZMv_eq {x}:ZMv [x] G Q=(∃xs:List Int,(NV x xs∧xs.length < 1000000)∧Q (.v (.bool (mayV xs))) G):=rfl
def ZNv:Spec1
 |[.int .i64 n],G,Q=>I64 n∧Q (.own (newV n)) G
 |_,_,_=>False
theorem ZNv_eq {n}:ZNv [.int .i64 n] G Q=(I64 n∧Q (.own (newV n)) G):=rfl
def ZRv:Spec1
 |[x,.int .i64 v],G,Q=>∃xs:List Int,(NV x xs∧xs.length < 1000000)∧Q (.v (.int .i64 (cntE v xs))) G
 |_,_,_=>False
theorem ZRv_eq {x v}:ZRv [x,.int .i64 v] G Q=(∃xs:List Int,(NV x xs∧xs.length < 1000000)∧Q (.v (.int .i64 (cntE v xs))) G):=rfl
def ZAv:Spec1
 |[x,.int .i64 v],G,Q=>∃xs:List Int,(NV x xs∧xs.length < 1000000)∧Q (.v (.int .i64 (ahdV xs v))) G
 |_,_,_=>False
theorem ZAv_eq {x v}:ZAv [x,.int .i64 v] G Q=(∃xs:List Int,(NV x xs∧xs.length < 1000000)∧Q (.v (.int .i64 (ahdV xs v))) G):=rfl
theorem getD_iv {l:List Int} {j:Nat} {p:Int} {r:List Int} (h:l.drop j=p::r):l.getD j 0=p:=by
 rw[List.getD_eq_getElem?_getD,at_drop2 h];rfl
theorem walk88 {v:Int} (h:Q (.v (.bool (badV v))) G):Wf E C pf88 [.int .i64 v] G Q:=by
 simp -implicitDefEqProofs only[pf88,go_sem,↓reduceIte]
 unfold badV at h
 refine⟨fun h1=> ?_,fun h1=> ?_⟩
 ·have e:decide (v < 0)=true:=by simpa using h1
  rw[e]at h;exact h
 ·have e:decide (v < 0)=false:=by simpa using h1
  rw[e,Bool.false_or]at h;exact h
theorem loop110 {QQ:Ex→St→Prop} {xs:List Int} (hC:Abs.look l 88=some ZMc) (hok:calleeOk E.P 88=true) (hl:xs.length < 1000000)
  (hx:∀i t8,idxV 0 xs= -1→QQ (.exit 0) ⟨[some (.v (.sli .i64 xs)),some (.v (.fn 88 [])),none,none,none,none,none,some (.v (.int .i64 (xs.length:Nat))),some (.v (.int .i64 (i:Nat)))],t8,[],G⟩) (hr:∀(σ:St) (i:Nat),σ.G=G→St.ev σ (.v 4)=some (.v (.int .i64 (i:Nat)))→idxV 0 xs=(i:Nat)→QQ .ret σ):
  ∀(r:List Int) (i:Nat),xs.drop i=r→i≤xs.length→idxV 0 xs=idxV i r→WL (W E (specOf l) lp110_0) [0,1,7,8] QQ (r.length+1) ⟨[some (.v (.sli .i64 xs)),some (.v (.fn 88 [])),none,none,none,none,none,some (.v (.int .i64 (xs.length:Nat))),some (.v (.int .i64 (i:Nat)))],[],[],G⟩:=by
 intro r
 induction r with
 |nil=>
  intro i h1 h2 h3
  have:=drop_none h1
  have c1:¬(i:Int) < (xs.length:Int):=by omega
  refine WL_in lp110_0.eq_1 ?_
  simp -implicitDefEqProofs only[c1,go_sem,↓reduceIte]
  exact hx _ _ h3
 |cons p r ih=>
  intro i h1 h2 h3
  obtain⟨hd,hj,hlen⟩:=drop_one h1
  have g:=getD_iv h1
  have c1:(i:Int) < (xs.length:Int):=by omega
  have c3:(0:Int)≤i:=by omega
  have w1:IntKind.i64.wrap ((i:Int)+1)=((i+1:Nat):Int):=wc (by omega) (by omega)
  refine WL_in lp110_0.eq_1 ?_
  simp -implicitDefEqProofs only[c1,c3,g,w1,hC,ZMc,hok,Int.toNat_natCast,go_sem,↓reduceIte]
  refine⟨fun hm=> ?_,fun hm=> ?_⟩
  ·refine hr _ i rfl rfl ?_
   rw[h3];simp only[idxV];rw[if_pos hm]
  ·refine ih (i+1) hd (by omega) ?_
   rw[h3];simp only[idxV];rw[if_neg (by rw[hm];exact Bool.false_ne_true)]
theorem walk110 {x:V} {xs:List Int} (hC:Abs.look l 88=some ZMc) (hok:calleeOk E.P 88=true) (hx:NV x xs) (hl:xs.length < 1000000) (h:Q (.v (.int .i64 (idxV 0 xs))) G):Wf E (specOf l) pf110 [x,.fn 88 []] G Q:=by
 rcases hx with rfl|⟨rfl,rfl⟩
 ·simp -implicitDefEqProofs only[pf110,go_sem,↓reduceIte]
  refine⟨xs.length+1,?_⟩
  simp -implicitDefEqProofs only[go_sem,↓reduceIte]
  refine loop110 hC hok hl (fun i t8 hi=> ?_) (fun σ i hG2 hv hi=> ?_) xs 0 rfl (by omega) rfl
  ·rw[hi]at h
   simp -implicitDefEqProofs only[go_sem,↓reduceIte]
   exact h
  ·rw[hi]at h
   obtain⟨vs,ts2,L2,G2⟩:=σ
   dsimp only at hG2;subst hG2
   simp -implicitDefEqProofs only[hv,go_sem,↓reduceIte]
   exact h
 ·simp -implicitDefEqProofs only[pf110,go_sem,↓reduceIte]
  refine⟨1,?_⟩
  simp -implicitDefEqProofs only[go_sem,↓reduceIte]
  refine WL_in lp110_0.eq_1 ?_
  simp -implicitDefEqProofs only[Int.lt_irrefl,go_sem,↓reduceIte]
  exact h
theorem walk87 {x:V} {xs:List Int} (hI:Abs.look l 110=some ZIv) (hx:NV x xs) (hl:xs.length < 1000000) (h:Q (.v (.bool (xs.any badV))) G):Wf E (specOf l) pf87 [x,.fn 88 []] G Q:=by
 simp -implicitDefEqProofs only[pf87,hI,ZIv_eq,go_sem,↓reduceIte]
 refine⟨xs,⟨hx,hl⟩,?_⟩
 rw[idxV_any];exact h
theorem NV.lenI {x:V} {xs:List Int} (h:NV x xs):x.lenI=some (xs.length:Int):=by
 rcases h with rfl|⟨rfl,rfl⟩<;>rfl
theorem I64_len {α:Type} {xs:List α} (h:xs.length < 1000000):I64 (xs.length:Int):=by unfold I64;omega
theorem walk64 {x:V} {xs:List Int} (hQ:Abs.look l 66=some ZQu) (hC:Abs.look l 87=some ZCv) (hx:NV x xs) (hl:xs.length < 1000000) (h:Q (.v (.bool (mayV xs))) G):Wf E (specOf l) pf64 [x] G Q:=by
 have hx0:=hx
 have h0:=I64_len hl
 unfold mayV at h
 rcases hx with rfl|⟨rfl,rfl⟩
 ·simp -implicitDefEqProofs only[pf64,hQ,ZQu_eq,hC,ZCv_eq,go_sem,↓reduceIte]
  refine⟨h0,fun h1=>⟨_,⟨hx0,hl⟩,?_⟩,fun h1=> ?_⟩
  ·have e:decide (0 < quo (xs.length:Int))=true:=by simpa using h1
   rw[e]at h;exact h
  ·have e:decide (0 < quo (xs.length:Int))=false:=by simpa using h1
   rw[e]at h;exact h
 ·simp -implicitDefEqProofs only[pf64,hQ,ZQu_eq,hC,ZCv_eq,go_sem,↓reduceIte]
  refine⟨h0,fun h1=>⟨_,⟨hx0,hl⟩,?_⟩,fun h1=> ?_⟩
  ·have e:decide (0 < quo (([]:List Int).length:Int))=true:=by simpa using h1
   rw[e]at h;exact h
  ·have e:decide (0 < quo (([]:List Int).length:Int))=false:=by simpa using h1
   rw[e]at h;exact h
theorem walk36 {n:Int} (hQ:Abs.look l 66=some ZQu) (hn:I64 n) (h:Q (.own (newV n)) G):Wf E (specOf l) pf36 [.int .i64 n] G Q:=by
 unfold newV at h
 simp -implicitDefEqProofs only[pf36,hQ,ZQu_eq,go_sem,↓reduceIte]
 refine⟨hn,fun h1=> ?_,fun h1=> ?_⟩
 ·rw[if_pos h1]at h;exact h
 ·rw[if_neg h1]at h
  have hq:=quo_le h1
  trace_state
  exact⟨⟨by omega,by omega,by omega⟩,h⟩
theorem cntE_take {v:Int} {xs:List Int} {i:Nat} {p:Int} {r:List Int} (h:xs.drop i=p::r):cntE v (xs.take (i+1))=cntE v (xs.take i)+(if v≤p then 1 else 0):=by
 unfold cntE
 rw[List.take_add_one,at_drop2 h,List.countP_append]
 simp only[Option.toList_some,List.countP_singleton,decide_eq_true_eq]
 split<;>simp
theorem cntG_take {v:Int} {xs:List Int} {i:Nat} {p:Int} {r:List Int} (h:xs.drop i=p::r):cntG v (xs.take (i+1))=cntG v (xs.take i)+(if v < p then 1 else 0):=by
 unfold cntG
 rw[List.take_add_one,at_drop2 h,List.countP_append]
 simp only[Option.toList_some,List.countP_singleton,decide_eq_true_eq]
 split<;>simp
theorem cntE_le {v:Int} {xs:List Int} {i:Nat}:0≤cntE v (xs.take i)∧cntE v (xs.take i)≤i:=by
 unfold cntE
 have:=List.countP_le_length (p:=fun y=>decide (v≤y)) (l:=xs.take i)
 have:=List.length_take_le i xs
 omega
theorem cntG_le {v:Int} {xs:List Int} {i:Nat}:0≤cntG v (xs.take i)∧cntG v (xs.take i)≤i:=by
 unfold cntG
 have:=List.countP_le_length (p:=fun y=>decide (v < y)) (l:=xs.take i)
 have:=List.length_take_le i xs
 omega
theorem loop42 {QQ:Ex→St→Prop} {xs:List Int} {v:Int} (hl:xs.length < 1000000)
  (hx:∀i t8,QQ (.exit 0) ⟨[some (.v (.sli .i64 xs)),some (.v (.int .i64 v)),none,none,none,some (.v (.int .i64 (cntE v xs))),some (.v (.int .i64 (i:Nat)))],t8,[],G⟩):
  ∀(r:List Int) (i:Nat),xs.drop i=r→i≤xs.length→WL (W E C lp42_0) [0,1,5,6] QQ (r.length+1) ⟨[some (.v (.sli .i64 xs)),some (.v (.int .i64 v)),none,none,none,some (.v (.int .i64 (cntE v (xs.take i)))),some (.v (.int .i64 (i:Nat)))],[],[],G⟩:=by
 intro r
 induction r with
 |nil=>
  intro i h1 h2
  have:=drop_none h1
  have c1:¬(i:Int) < (xs.length:Int):=by omega
  have e:xs.take i=xs:=List.take_of_length_le this
  refine WL_in lp42_0.eq_1 ?_
  simp -implicitDefEqProofs only[c1,e,go_sem,↓reduceIte]
  exact hx _ _
 |cons p r ih=>
  intro i h1 h2
  obtain⟨hd,hj,hlen⟩:=drop_one h1
  have g:=getD_iv h1
  have c1:(i:Int) < (xs.length:Int):=by omega
  have c3:(0:Int)≤i:=by omega
  have w1:IntKind.i64.wrap ((i:Int)+1)=((i+1:Nat):Int):=wc (by omega) (by omega)
  have hb:=cntE_le (v:=v) (xs:=xs) (i:=i)
  have w2:IntKind.i64.wrap (cntE v (xs.take i)+1)=cntE v (xs.take i)+1:=w64 (by omega) (by omega)
  have hs:=cntE_take (v:=v) h1
  have ih':=ih (i+1) hd (by omega)
  refine WL_in lp42_0.eq_1 ?_
  by_cases hc:v≤p
  ·rw[if_pos hc]at hs
   rw[hs]at ih'
   simp -implicitDefEqProofs only[c1,c3,g,w1,w2,hc,Int.toNat_natCast,go_sem,↓reduceIte]
   exact ih'
  ·rw[if_neg hc,Int.add_zero]at hs
   rw[hs]at ih'
   simp -implicitDefEqProofs only[c1,c3,g,w1,w2,hc,Int.toNat_natCast,go_sem,↓reduceIte]
   exact ih'
theorem loop40 {QQ:Ex→St→Prop} {xs:List Int} {v:Int} (hl:xs.length < 1000000)
  (hx:∀i t8,QQ (.exit 0) ⟨[none,some (.v (.int .i64 v)),none,none,none,some (.v (.int .i64 (cntG v xs))),none,none,none,none,none,some (.v (.sli .i64 xs)),some (.v (.int .i64 (xs.length:Nat))),some (.v (.int .i64 (i:Nat)))],t8,[],G⟩):
  ∀(r:List Int) (i:Nat),xs.drop i=r→i≤xs.length→WL (W E C lp40_0) [1,5,11,12,13] QQ (r.length+1) ⟨[none,some (.v (.int .i64 v)),none,none,none,some (.v (.int .i64 (cntG v (xs.take i)))),none,none,none,none,none,some (.v (.sli .i64 xs)),some (.v (.int .i64 (xs.length:Nat))),some (.v (.int .i64 (i:Nat)))],[],[],G⟩:=by
 intro r
 induction r with
 |nil=>
  intro i h1 h2
  have:=drop_none h1
  have c1:¬(i:Int) < (xs.length:Int):=by omega
  have e:xs.take i=xs:=List.take_of_length_le this
  refine WL_in lp40_0.eq_1 ?_
  simp -implicitDefEqProofs only[c1,e,go_sem,↓reduceIte]
  exact hx _ _
 |cons p r ih=>
  intro i h1 h2
  obtain⟨hd,hj,hlen⟩:=drop_one h1
  have g:=getD_iv h1
  have c1:(i:Int) < (xs.length:Int):=by omega
  have c3:(0:Int)≤i:=by omega
  have w1:IntKind.i64.wrap ((i:Int)+1)=((i+1:Nat):Int):=wc (by omega) (by omega)
  have hb:=cntG_le (v:=v) (xs:=xs) (i:=i)
  have w2:IntKind.i64.wrap (cntG v (xs.take i)+1)=cntG v (xs.take i)+1:=w64 (by omega) (by omega)
  have hs:=cntG_take (v:=v) h1
  have ih':=ih (i+1) hd (by omega)
  refine WL_in lp40_0.eq_1 ?_
  by_cases hc:v < p
  ·rw[if_pos hc]at hs
   rw[hs]at ih'
   simp -implicitDefEqProofs only[c1,c3,g,w1,w2,hc,Int.toNat_natCast,go_sem,↓reduceIte]
   exact ih'
  ·rw[if_neg hc,Int.add_zero]at hs
   rw[hs]at ih'
   simp -implicitDefEqProofs only[c1,c3,g,w1,w2,hc,Int.toNat_natCast,go_sem,↓reduceIte]
   exact ih'
theorem walk42 {x:V} {xs:List Int} {v:Int} (hx:NV x xs) (hl:xs.length < 1000000) (h:Q (.v (.int .i64 (cntE v xs))) G):Wf E C pf42 [x,.int .i64 v] G Q:=by
 rcases hx with rfl|⟨rfl,rfl⟩
 ·simp -implicitDefEqProofs only[pf42,go_sem,↓reduceIte]
  refine⟨xs.length+1,?_⟩
  simp -implicitDefEqProofs only[go_sem,↓reduceIte]
  refine loop42 hl (fun i t8=> ?_) xs 0 rfl (by omega)
  simp -implicitDefEqProofs only[go_sem,↓reduceIte]
  exact h
 ·simp -implicitDefEqProofs only[pf42,go_sem,↓reduceIte]
  refine⟨1,?_⟩
  simp -implicitDefEqProofs only[go_sem,↓reduceIte]
  refine WL_in lp42_0.eq_1 ?_
  simp -implicitDefEqProofs only[Int.lt_irrefl,go_sem,↓reduceIte]
  exact h
theorem walk40 {x:V} {xs:List Int} {v:Int} (hM:Abs.look l 64=some ZMv) (hx:NV x xs) (hl:xs.length < 1000000) (h:Q (.v (.int .i64 (ahdV xs v))) G):Wf E (specOf l) pf40 [x,.int .i64 v] G Q:=by
 have hx0:=hx
 unfold ahdV at h
 rcases hx with rfl|⟨rfl,rfl⟩
 ·simp -implicitDefEqProofs only[pf40,hM,ZMv_eq,go_sem,↓reduceIte]
  refine⟨xs,⟨hx0,hl⟩,fun h1=> ?_,fun h1=> ?_⟩
  ·rw[h1,if_neg Bool.false_ne_true]at h;exact h
  ·rw[h1,if_pos rfl]at h
   refine⟨xs.length+1,?_⟩
   refine loop40 hl (fun i t8=> ?_) xs 0 rfl (by omega)
   simp -implicitDefEqProofs only[go_sem,↓reduceIte]
   exact h
 ·simp -implicitDefEqProofs only[pf40,hM,ZMv_eq,go_sem,↓reduceIte]
  refine⟨[],⟨hx0,hl⟩,fun h1=> ?_,fun h1=> ?_⟩
  ·rw[h1,if_neg Bool.false_ne_true]at h;exact h
  ·exact (Bool.false_ne_true h1).elim
end Go.Proofs.Ytjbglbhcbenhpaa.Sha
