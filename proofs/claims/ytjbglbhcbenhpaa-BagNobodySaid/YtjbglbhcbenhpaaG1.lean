/- Laws over plain values, and what functions of the program hand back; no conditions. -/
import Derived.Test.YtjbglbhcbenhpaaPlain6
namespace Go.Abs.Srt
open Go Go.Abs
set_option linter.unusedVariables false
set_option linter.unusedSimpArgs false
section
variable {α:Type} (key:α→Int)
def at_ (k:Int) (l:List α):List α:=l.filter fun x=>decide (key x=k)
variable {key}
/-! ### runs -/
end
end Go.Abs.Srt
namespace Go.Abs
open Go Go.Abs.Srt
set_option linter.unusedVariables false
set_option linter.unusedSimpArgs false
attribute [go_sem] oIdR oSlcR
structure RowOk (sz:Nat) (z:V) (L:List V):Prop where
 all:∀x∈L,x.size=sz∧x.isAgg=true∧x.same z=true
theorem RowOk.get {sz z L} (h:RowOk sz z L) {i:Nat} {x:V} (hx:L[i]? =some x):x.size=sz∧x.isAgg=true∧x.same z=true:=h.all x (List.mem_of_getElem? hx)
theorem RowOk.same {sz z L} (h:RowOk sz z L) {i j:Nat} {x y:V} (hx:L[i]? =some x) (hy:L[j]? =some y):x.same y=true:=V.same_trans' (h.get hx).2.2 (V.same_symm (h.get hy).2.2)
theorem RowOk.mem {sz z L M} (h:RowOk sz z L) (hm:∀x∈M,x∈L):RowOk sz z M:=⟨fun x hx=>h.all x (hm x hx)⟩
theorem RowOk.set {sz z L} (h:RowOk sz z L) {i j:Nat} {y:V} (hy:L[j]? =some y):RowOk sz z (L.set i y):=h.mem fun w hw=>by
 rcases List.mem_or_eq_of_mem_set hw with h|rfl
 ·exact h
 ·exact List.mem_of_getElem? hy
theorem RowOk.sameL {sz z}:∀{L M:List V},RowOk sz z L→RowOk sz z M→L.length=M.length→V.sameL L M=true
 |[],[],_,_,_=>rfl
 |[],_::_,_,_,h=>by simp at h
 |_::_,[],_,_,h=>by simp at h
 |x::L,y::M,h1,h2,h=>by
  simp only[V.sameL,Bool.and_eq_true]
  exact⟨V.same_trans' (h1.all x (List.mem_cons_self ..)).2.2 (V.same_symm (h2.all y (List.mem_cons_self ..)).2.2),RowOk.sameL (h1.mem fun z hz=>List.mem_cons_of_mem _ hz) (h2.mem fun z hz=>List.mem_cons_of_mem _ hz) (by simpa using h)⟩
def Sub (T l:List (Nat×Spec1)):Prop:=∀f s,look T f=some s→look l f=some s
theorem Sub.run {T l:List (Nat×Spec1)} (h:Sub T l) {f:Nat} (hf:∃s,look T f=some s) {vs G Q} (hq:runO (look T f) vs G Q):runO (look l f) vs G Q:=by
 obtain⟨s,hs⟩:=hf
 rw[h f s hs];rw[hs]at hq;exact hq
end Go.Abs
namespace Go.Abs.Sha
open Go Go.Abs
set_option linter.unusedVariables false
set_option linter.unusedSimpArgs false
attribute [go_sem] decide_eq_true_eq decide_eq_false_iff_not ge_iff_le gt_iff_lt Int.not_le Int.not_lt Bool.not_eq_true' Bool.not_eq_false' Bool.and_eq_true Bool.and_eq_false_iff
def Wd (x:Int):Prop:=0≤x∧x < 4294967296
def rot (x:Int) (n:Nat):Int:=x / 2 ^ n+x % 2 ^ n*2 ^ (32-n)
def shf (x:Int) (n:Nat):Int:=x / 2 ^ n
/-! bits of words -/
/-! ### the hash -/
def word4 (b:List Int) (i:Nat):Int:=b.getD (4*i) 0*16777216+b.getD (4*i+1) 0*65536+b.getD (4*i+2) 0*256+b.getD (4*i+3) 0
def sig0 (x:Int):Int:=bXor .u32 (bXor .u32 (rot x 7) (rot x 18)) (shf x 3)
def sig1 (x:Int):Int:=bXor .u32 (bXor .u32 (rot x 17) (rot x 19)) (shf x 10)
def nextW (w:List Int) (i:Nat):Int:=(w.getD (i-16) 0+sig0 (w.getD (i-15) 0)+w.getD (i-7) 0+sig1 (w.getD (i-2) 0)) % 4294967296
def sched (b:List Int):Nat→List Int
 |0=>List.replicate 64 0
 |i+1=>(sched b i).set i (if i < 16 then word4 b i else nextW (sched b i) i)
structure Regs where
 a:Int
 b:Int
 c:Int
 d:Int
 e:Int
 f:Int
 g:Int
 h:Int
def big0 (x:Int):Int:=bXor .u32 (bXor .u32 (rot x 2) (rot x 13)) (rot x 22)
def big1 (x:Int):Int:=bXor .u32 (bXor .u32 (rot x 6) (rot x 11)) (rot x 25)
def cho (e f g:Int):Int:=bXor .u32 (bAnd .u32 e f) (bAnd .u32 (bNot .u32 e) g)
def maj (a b c:Int):Int:=bXor .u32 (bXor .u32 (bAnd .u32 a b) (bAnd .u32 a c)) (bAnd .u32 b c)
def tee (s:Regs) (k w:Int):Int:=(s.h+big1 s.e+cho s.e s.f s.g+k+w) % 4294967296
def you (s:Regs):Int:=(big0 s.a+maj s.a s.b s.c) % 4294967296
def rnd (s:Regs) (k w:Int):Regs:=⟨(tee s k w+you s) % 4294967296,s.a,s.b,s.c,(s.d+tee s k w) % 4294967296,s.e,s.f,s.g⟩
def rnds (k w:List Int) (s:Regs):Nat→Regs
 |0=>s
 |i+1=>rnd (rnds k w s i) (k.getD i 0) (w.getD i 0)
def Regs.ok (s:Regs):Prop:=Wd s.a∧Wd s.b∧Wd s.c∧Wd s.d∧Wd s.e∧Wd s.f∧Wd s.g∧Wd s.h
def ofL (s:List Int):Regs:=⟨s.getD 0 0,s.getD 1 0,s.getD 2 0,s.getD 3 0,s.getD 4 0,s.getD 5 0,s.getD 6 0,s.getD 7 0⟩
def block (k:List Int) (s b:List Int):List Int:=
 let r:=rnds k (sched b 64) (ofL s) 64
 [(s.getD 0 0+r.a) % 4294967296,(s.getD 1 0+r.b) % 4294967296,(s.getD 2 0+r.c) % 4294967296,(s.getD 3 0+r.d) % 4294967296,(s.getD 4 0+r.e) % 4294967296,(s.getD 5 0+r.f) % 4294967296,(s.getD 6 0+r.g) % 4294967296,(s.getD 7 0+r.h) % 4294967296]
def Byt (b:List Int):Prop:=∀x∈b,0≤x∧x≤255
theorem byt_getD {b:List Int} (h:Byt b) (i:Nat):0≤b.getD i 0∧b.getD i 0≤255:=by
 rw[List.getD_eq_getElem?_getD]
 cases hi:b[i]? with
 |none=>simp
 |some x=>exact h x (List.mem_of_getElem? hi)
def byV:V→Option (List Int)
 | .sli .u8 xs=>some xs
 | .nils=>some []
 |_=>none
theorem byV_cases {x:V} {b:List Int} (h:byV x=some b):x= .sli .u8 b∨(x= .nils∧b=[]):=by
 unfold byV at h
 split at h
 ·left;cases h;rfl
 ·right;cases h;exact⟨rfl,rfl⟩
 ·cases h
theorem byV_u8 (b:List Int):byV (.sli .u8 b)=some b:=rfl
def lenB (n i:Nat):Int:=((8*n / 2 ^ (8*i)) % 256:Nat)
def lens (n:Nat):List Int:=[lenB n 7,lenB n 6,lenB n 5,lenB n 4,lenB n 3,lenB n 2,lenB n 1,lenB n 0]
def ending (n:Nat):List Int:=128::(List.replicate ((119-n % 64) % 64) 0++lens n)
def fillB (b:List Int):List Int:=b++ending b.length
theorem byt_app {a b:List Int} (ha:Byt a) (hb:Byt b):Byt (a++b):=fun x hx=>by
 rcases List.mem_append.1 hx with h|h
 ·exact ha x h
 ·exact hb x h
theorem byt_nil:Byt []:=fun x h=>by cases h
theorem byt_cons {x:Int} {b:List Int} (hx:0≤x∧x≤255) (hb:Byt b):Byt (x::b):=fun y hy=>by
 rcases List.mem_cons.1 hy with rfl|h
 ·exact hx
 ·exact hb y h
theorem byt_rep (n:Nat):Byt (List.replicate n 0):=fun x hx=>by
 obtain⟨_,rfl⟩:=List.mem_replicate.1 hx;omega
def iter (k f s:List Int):Nat→List Int
 |0=>s
 |i+1=>block k (iter k f s i) ((f.drop (64*i)).take 64)
def start8:List Int:=[1779033703,3144134277,1013904242,2773480762,1359893119,2600822924,528734635,1541459225]
def octOf (x:Int) (i:Nat):Int:=(x / 2 ^ (24-8*i)) % 256
def bytes4 (x:Int):List Int:=[octOf x 0,octOf x 1,octOf x 2,octOf x 3]
def sumB (k b:List Int):List Int:=(iter k (fillB b) start8 ((b.length+8) / 64+1)).flatMap bytes4
/-! ### sums with a key -/
def keyB (k key:List Int):List Int:=if key.length > 64 then sumB k key++List.replicate 32 0 else key++List.replicate (64-key.length) 0
def turnB (b:List Int) (c:Int):List Int:=b.map fun x=>bXor .u8 x c
/-! bytes held against each other -/
theorem b8 {x:Int} (h:0≤x∧x≤255):∃b:BitVec 8,x=b.toNat:=⟨BitVec.ofNat 8 x.toNat,by rw[BitVec.toNat_ofNat];omega⟩
def macB (k key text:List Int):List Int:=sumB k (turnB (keyB k key) 92++sumB k (turnB (keyB k key) 54++text))
def seedB (i:Int):List Int:=[116,105,116,104,105,110,103,32,107,101,121,32]++[IntKind.u8.wrap i]
def zero32:List Int:=zz2
def keyH (k:List Int) (i:Int):List Int:=if 1≤i∧i≤21 then sumB k (seedB i)else zero32
def tagH (k:List Int) (i d:Int) (b:List Int):List Int:=if 1≤i∧i≤21 then macB k (keyH k i) ([d]++b)else zero32
theorem byt_zero:Byt zero32:=byt_rep 32
def num (n:Nat):List Int:=if n < 128 then [(n:Int)]else ((n % 128+128:Nat):Int)::num (n / 128)
termination_by n
decreasing_by omega
theorem num_small {n:Nat} (h:n < 128):num n=[(n:Int)]:=by rw[num,if_pos h]
theorem num_big {n:Nat} (h:¬n < 128):num n=((n % 128+128:Nat):Int)::num (n / 128):=by rw[num,if_neg h]
theorem byt_num:∀(k n:Nat),n < 128 ^ (k+1)→Byt (num n)∧(num n).length≤k+1
 |0,n,h=>by
  rw[num_small (by omega)]
  exact⟨byt_cons (by omega) byt_nil,by simp⟩
 |k+1,n,h=>by
  by_cases hn:n < 128
  ·rw[num_small hn]
   exact⟨byt_cons (by omega) byt_nil,by simp⟩
  ·rw[num_big hn]
   have h2:n / 128 < 128 ^ (k+1):=by
    rw[Nat.pow_succ]at h
    exact Nat.div_lt_of_lt_mul (by rw[Nat.mul_comm];exact h)
   obtain⟨h3,h4⟩:=byt_num k _ h2
   refine⟨byt_cons (by omega) h3,by simp only[List.length_cons];omega⟩
theorem num_ok {n:Nat} (h:n < 18446744073709551616):Byt (num n)∧(num n).length≤10:=
 byt_num 9 n (Nat.lt_of_lt_of_le h (by decide))
theorem or128 {n:Int} (h:0≤n):bOr .u8 (IntKind.u8.wrap n) 128=((n.toNat % 128+128:Nat):Int):=by
 have hd:∀k:Fin 256,bOr .u8 (k.val:Int) 128=((k.val % 128+128:Nat):Int):=by decide+kernel
 have e:IntKind.u8.wrap n=((n.toNat % 256:Nat):Int):=by
  simp only[IntKind.wrap,IntKind.bits,IntKind.signed];simp;omega
 have:=hd ⟨n.toNat % 256,Nat.mod_lt _ (by decide)⟩
 rw[e,this]
 simp only
 omega
structure AttS where
 who:Int
 ki:Int
 vi:Int
 ph:Int
 ha:List Int
 pv:Int
 pa:List Int
 ta:List Int
def AttS.v (a:AttS):V:= .agg [.int .i64 a.who,.int .i64 a.ki,.int .i64 a.vi,.int .i64 a.ph,.arr .u8 32 a.ha,.int .i64 a.pv,.arr .u8 32 a.pa,.arr .u8 32 a.ta]
def I64 (n:Int):Prop:= -9223372036854775808≤n∧n≤9223372036854775807
instance (n:Int):Decidable (I64 n):=by unfold I64;infer_instance
def H32 (h:List Int):Prop:=Byt h∧h.length=32
structure AttS.wf (a:AttS):Prop where
 who:I64 a.who
 ki:I64 a.ki
 vi:I64 a.vi
 ph:I64 a.ph
 pv:I64 a.pv
 ha:H32 a.ha
 pa:H32 a.pa
 ta:H32 a.ta
def AttS.May (a:AttS):Prop:=(1≤a.who∧a.who≤21)∧(1≤a.ki∧a.ki≤3)∧a.ph=a.ki∧(1≤a.vi∧a.vi≤1099511627776)∧0≤a.pv∧(a.pv < a.vi∨a.ki=3∧a.pv=a.vi)
instance (a:AttS):Decidable a.May:=by unfold AttS.May;infer_instance
def AttS.may (a:AttS):Bool:=decide a.May
def AttS.said (a:AttS):List Int:=num a.ki.toNat++num a.vi.toNat++num a.ph.toNat++a.ha++num a.pv.toNat++a.pa
def AttS.tag (kt:List Int) (a:AttS):List Int:=tagH kt a.who 1 a.said
def AttS.signed (kt:List Int) (a:AttS):AttS:={ a with ta:=a.tag kt }
def AttS.right (kt:List Int) (a:AttS):Bool:=a.may&&decide (a.ta=a.tag kt)
def AttS.zero:AttS:=⟨0,0,0,0,zero32,0,zero32,zero32⟩
theorem h32_zero:H32 zero32:=⟨byt_zero,rfl⟩
theorem AttS.zero_wf:AttS.zero.wf:=⟨by decide,by decide,by decide,by decide,by decide,h32_zero,h32_zero,h32_zero⟩
theorem AttS.nums {a:AttS} (h:a.wf) (hm:a.May):Byt (num a.ki.toNat)∧(num a.ki.toNat).length≤10∧Byt (num a.vi.toNat)∧(num a.vi.toNat).length≤10∧Byt (num a.ph.toNat)∧(num a.ph.toNat).length≤10∧Byt (num a.pv.toNat)∧(num a.pv.toNat).length≤10:=by
 obtain⟨h1,h2,h3,h4,h5,h6⟩:=hm
 obtain⟨a1,a2⟩:=num_ok (n:=a.ki.toNat) (by omega)
 obtain⟨b1,b2⟩:=num_ok (n:=a.vi.toNat) (by omega)
 obtain⟨c1,c2⟩:=num_ok (n:=a.ph.toNat) (by omega)
 obtain⟨d1,d2⟩:=num_ok (n:=a.pv.toNat) (by omega)
 exact⟨a1,a2,b1,b2,c1,c2,d1,d2⟩
theorem AttS.said_ok {a:AttS} (h:a.wf) (hm:a.May):Byt a.said∧a.said.length≤104:=by
 obtain⟨a1,a2,b1,b2,c1,c2,d1,d2⟩:=AttS.nums h hm
 refine⟨byt_app (byt_app (byt_app (byt_app (byt_app a1 b1) c1) h.ha.1) d1) h.pa.1,?_⟩
 have:=h.ha.2;have:=h.pa.2
 simp only[AttS.said,List.length_append];omega
theorem byV_wk {x:V} {b:List Int} (h:byV x=some b):Wk x (.sli .u8 b):=by
 rcases byV_cases h with rfl|⟨rfl,rfl⟩
 ·exact .inl rfl
 ·exact .inr ⟨rfl,.inl ⟨_,rfl⟩⟩
theorem wk_1 {x x':V} {l:List V} (h:Wk x x'):∀(i:Nat) z,(x'::l)[i]? =some z→∃y,(x::l)[i]? =some y∧Wk y z:=by
 intro i z hz
 cases i with
 |zero=>simp at hz;subst hz;exact⟨x,rfl,h⟩
 |succ i=>exact⟨z,by simpa using hz,.inl rfl⟩
end Go.Abs.Sha
namespace Go.Proofs.Ytjbglbhcbenhpaa.Sha
open Go Go.Abs Go.Abs.Sha Go.Abs.Srt
set_option linter.unusedSimpArgs false
set_option linter.unusedVariables false
set_option maxRecDepth 100000
attribute [local irreducible] W Wops WopsD WL Wop WopD
variable {E:Env} {C:Abs.Spec} {l:List (Nat×Spec1)} {G:List (Nat×V)} {Q:R→List (Nat×V)→Prop}
set_option maxHeartbeats 1000000
theorem wc {x:Int} {k:Nat} (h:x=(k:Int)) (h2:k < 9000000000000000000):IntKind.i64.wrap x=(k:Int):=by rw[h];exact w64 (by omega) (by omega)
open Go Go.Abs Go.Abs.Sha
def pf69:PF:=
 PF.mk 1 3 9 ((PC.reg [nn (.v 2) (.mv true (.c (.v (.bool false))))]).seq ((PC.reg [mm 3 0,nn (.t 4) (.bin .geq (.t 3) (.c (.v (.int .i64 1)))),nn (.t
  5) (.mv false (.t 4)),gm 6 0 5 true,⟨.t 7,.bin .leq (.t 6) (.c (.v (.int .i64 21))),some (.t 5,true)⟩,nn (.t 8) (.pick (.t 5) (.t 7) (.c (.v
  (.bool false)))),ma 2 8]).seq PC.ret)) [(.v 2,none)]
def SNo:Spec1
 |[.int .i64 n],G,Q=>Q (.v (.bool (decide (1≤n∧n≤21)))) G
 |_,_,_=>False
theorem SNo_eq {n}:SNo [.int .i64 n] G Q=(Q (.v (.bool (decide (1≤n∧n≤21)))) G):=rfl
theorem walk69 {n:Int} (h:Q (.v (.bool (decide (1≤n∧n≤21)))) G):Wf E C pf69 [.int .i64 n] G Q:=by
 by_cases h1:1≤n<;>by_cases h2:n≤21
 all_goals
  simp -implicitDefEqProofs only[pf69,h1,h2,go_sem,↓reduceIte]
  try (exact finB h (by simp[h1,h2]))
def pf118:PF:=
 PF.mk 1 3 8 ((PC.reg [nn (.v 2) (.mv true (.c (.own .nils)))]).seq (((PC.reg [mm 3 0,nn (.t 4) (.nileq false (.t 3))]).seq (PC.cond (.t 4) ((PC.reg
  [nn (.v 2) (.mv true (.c (.own .nils)))]).seq PC.ret) PC.skip)).seq ((PC.reg [nn (.t 5) (.buildS (some .u8) 1 (.int .u8 0) 0 []),mm 6 0,nn (.t 7)
  (.app (some .u8) 1 1 (.t 5) (.t 6)),ma 2 7]).seq PC.ret))) [(.v 2,none)]
def pf97:PF:=
 PF.mk 2 5 9 ((PC.reg [nn (.v 3) (.box (.v 1)),nn (.v 4) (.mv true (.c (.own .nils)))]).seq ((PC.regD 0 [mm 5 0,nn (.t 6) (.call 118 [.t 5]),nn (.t
  7) (.slcA 32 false (.v 3) none none none),nn (.t 8) (.app (some .u8) 1 1 (.t 6) (.t 7)),ma 4 8] [(1,2)]).seq PC.ret)) [(.v 4,none)]
def lp120_0:PC:=
 ((PC.reg [mm 8 1,nn (.t 9) (.bin .geq (.t 8) (.c (.v (.int .u64 128))))]).seq (PC.cond (.t 9) PC.skip (PC.exit 0))).seq (PC.block 1 ((PC.reg [nn (.t
  10) (.mv true (.v 5)),mm 11 1,nn (.t 12) (.conv .u8 (.t 11)),nn (.t 13) (.bin .or (.t 12) (.c (.v (.int .u8 128)))),nn (.t 14) (.buildS (some
  .u8) 1 (.int .u8 0) 1 [(0,.t 13)]),nn (.t 15) (.app (some .u8) 1 1 (.t 10) (.t 14)),ma 5 15]).seq (PC.reg [mm 16 1,nn (.t 17) (.bin .shr (.t 16)
  (.c (.v (.int .u64 7)))),ma 1 17])))
def pf120:PF:=
 PF.mk 2 6 23 ((PC.reg [nn (.v 4) (.mv true (.c (.own .nils)))]).seq ((PC.reg [mm 6 0,nn (.t 7) (.call 118 [.t 6]),ma 5 7]).seq ((PC.block 0 (PC.loop
  [1,5] lp120_0)).seq ((PC.reg [nn (.t 18) (.mv true (.v 5)),mm 19 1,nn (.t 20) (.conv .u8 (.t 19)),nn (.t 21) (.buildS (some .u8) 1 (.int .u8 0) 1
  [(0,.t 20)]),nn (.t 22) (.app (some .u8) 1 1 (.t 18) (.t 21)),ma 4 22]).seq PC.ret)))) [(.v 4,none)]
def pf51:PF:=
 PF.mk 1 3 60 ((PC.reg [nn (.v 1) (.box (.v 0)),nn (.v 2) (.mv true (.c (.v (.bool false))))]).seq (((PC.reg [nn (.t 3) (.fadr 0 0 (.v 1)),nn (.t 4)
  (.load 1 false (.t 3)),nn (.t 5) (.bin .lss (.t 4) (.c (.v (.int .i64 1)))),nn (.t 6) (.mv false (.t 5)),⟨.t 7,.fadr 0 0 (.v 1),some (.t 6,
  false)⟩,⟨.t 8,.load 1 false (.t 7),some (.t 6,false)⟩,⟨.t 9,.bin .gtr (.t 8) (.c (.v (.int .i64 21))),some (.t 6,false)⟩,nn (.t 10) (.pick
  (.t 6) (.c (.v (.bool true))) (.t 9)),nn (.t 11) (.mv false (.t 10)),⟨.t 12,.fadr 1 1 (.v 1),some (.t 11,false)⟩,⟨.t 13,.load 1 false (.t 12),
  some (.t 11,false)⟩,⟨.t 14,.bin .lss (.t 13) (.c (.v (.int .i64 1))),some (.t 11,false)⟩,nn (.t 15) (.pick (.t 11) (.c (.v (.bool true))) (.t
  14)),nn (.t 16) (.mv false (.t 15)),⟨.t 17,.fadr 1 1 (.v 1),some (.t 16,false)⟩,⟨.t 18,.load 1 false (.t 17),some (.t 16,false)⟩,⟨.t 19,
  .bin .gtr (.t 18) (.c (.v (.int .i64 3))),some (.t 16,false)⟩,nn (.t 20) (.pick (.t 16) (.c (.v (.bool true))) (.t 19)),nn (.t 21) (.mv false (.t
  20)),⟨.t 22,.fadr 3 3 (.v 1),some (.t 21,false)⟩,⟨.t 23,.load 1 false (.t 22),some (.t 21,false)⟩,⟨.t 24,.fadr 1 1 (.v 1),some (.t 21,
  false)⟩,⟨.t 25,.load 1 false (.t 24),some (.t 21,false)⟩,⟨.t 26,.bin .neq (.t 23) (.t 25),some (.t 21,false)⟩,nn (.t 27) (.pick (.t 21) (.c
  (.v (.bool true))) (.t 26)),nn (.t 28) (.mv false (.t 27)),⟨.t 29,.fadr 2 2 (.v 1),some (.t 28,false)⟩,⟨.t 30,.load 1 false (.t 29),some (.t
  28,false)⟩,⟨.t 31,.bin .lss (.t 30) (.c (.v (.int .i64 1))),some (.t 28,false)⟩,nn (.t 32) (.pick (.t 28) (.c (.v (.bool true))) (.t 31)),nn
  (.t 33) (.mv false (.t 32)),⟨.t 34,.fadr 2 2 (.v 1),some (.t 33,false)⟩,⟨.t 35,.load 1 false (.t 34),some (.t 33,false)⟩,⟨.t 36,.bin .gtr
  (.t 35) (.c (.v (.int .i64 1099511627776))),some (.t 33,false)⟩,nn (.t 37) (.pick (.t 33) (.c (.v (.bool true))) (.t 36)),nn (.t 38) (.mv false
  (.t 37)),⟨.t 39,.fadr 5 36 (.v 1),some (.t 38,false)⟩,⟨.t 40,.load 1 false (.t 39),some (.t 38,false)⟩,⟨.t 41,.bin .lss (.t 40) (.c (.v
  (.int .i64 0))),some (.t 38,false)⟩,nn (.t 42) (.pick (.t 38) (.c (.v (.bool true))) (.t 41))]).seq (PC.cond (.t 42) ((PC.reg [nn (.v 2) (.mv true
  (.c (.v (.bool false))))]).seq PC.ret) PC.skip)).seq ((PC.reg [nn (.t 43) (.fadr 5 36 (.v 1)),nn (.t 44) (.load 1 false (.t 43)),nn (.t 45) (.fadr
  2 2 (.v 1)),nn (.t 46) (.load 1 false (.t 45)),nn (.t 47) (.bin .lss (.t 44) (.t 46)),nn (.t 48) (.mv false (.t 47)),⟨.t 49,.fadr 1 1 (.v 1),
  some (.t 48,false)⟩,⟨.t 50,.load 1 false (.t 49),some (.t 48,false)⟩,⟨.t 51,.bin .eql (.t 50) (.c (.v (.int .i64 3))),some (.t 48,false)⟩,
  ⟨.t 52,.mv false (.t 51),some (.t 48,false)⟩,⟨.t 53,.fadr 5 36 (.v 1),some (.t 52,true)⟩,⟨.t 54,.load 1 false (.t 53),some (.t 52,true)⟩,
  ⟨.t 55,.fadr 2 2 (.v 1),some (.t 52,true)⟩,⟨.t 56,.load 1 false (.t 55),some (.t 52,true)⟩,⟨.t 57,.bin .eql (.t 54) (.t 56),some (.t 52,
  true)⟩,⟨.t 58,.pick (.t 52) (.t 57) (.c (.v (.bool false))),some (.t 48,false)⟩,nn (.t 59) (.pick (.t 48) (.c (.v (.bool true))) (.t 58)),ma 2
  59]).seq PC.ret))) [(.v 2,none)]
def pf117:PF:=
 PF.mk 1 4 54 ((PC.reg [nn (.v 1) (.box (.v 0)),nn (.v 2) (.mv true (.c (.v (.int .i64 0))))]).seq ((PC.reg [nn (.t 4) (.fadr 2 2 (.v 1)),nn (.t 5)
  (.load 1 false (.t 4)),nn (.t 6) (.bin .sub (.t 5) (.c (.v (.int .i64 1)))),ma 3 6]).seq (((PC.reg [nn (.t 7) (.fadr 1 1 (.v 1)),nn (.t 8) (.load
  1 false (.t 7)),nn (.t 9) (.bin .eql (.t 8) (.c (.v (.int .i64 3))))]).seq (PC.cond (.t 9) (PC.reg [nn (.t 10) (.fadr 2 2 (.v 1)),nn (.t 11) (.load
  1 false (.t 10)),ma 3 11]) PC.skip)).seq (((PC.reg [nn (.t 12) (.fadr 0 0 (.v 1)),nn (.t 13) (.load 1 false (.t 12)),nn (.t 14) (.call 69 [.t
  13]),nn (.t 15) (.un .not (.t 14)),nn (.t 16) (.mv false (.t 15)),⟨.t 17,.fadr 1 1 (.v 1),some (.t 16,false)⟩,⟨.t 18,.load 1 false (.t 17),
  some (.t 16,false)⟩,⟨.t 19,.bin .lss (.t 18) (.c (.v (.int .i64 1))),some (.t 16,false)⟩,nn (.t 20) (.pick (.t 16) (.c (.v (.bool true))) (.t
  19)),nn (.t 21) (.mv false (.t 20)),⟨.t 22,.fadr 1 1 (.v 1),some (.t 21,false)⟩,⟨.t 23,.load 1 false (.t 22),some (.t 21,false)⟩,⟨.t 24,
  .bin .gtr (.t 23) (.c (.v (.int .i64 3))),some (.t 21,false)⟩,nn (.t 25) (.pick (.t 21) (.c (.v (.bool true))) (.t 24)),nn (.t 26) (.mv false (.t
  25)),⟨.t 27,.fadr 3 3 (.v 1),some (.t 26,false)⟩,⟨.t 28,.load 1 false (.t 27),some (.t 26,false)⟩,⟨.t 29,.fadr 1 1 (.v 1),some (.t 26,
  false)⟩,⟨.t 30,.load 1 false (.t 29),some (.t 26,false)⟩,⟨.t 31,.bin .neq (.t 28) (.t 30),some (.t 26,false)⟩,nn (.t 32) (.pick (.t 26) (.c
  (.v (.bool true))) (.t 31)),nn (.t 33) (.mv false (.t 32)),⟨.t 34,.fadr 2 2 (.v 1),some (.t 33,false)⟩,⟨.t 35,.load 1 false (.t 34),some (.t
  33,false)⟩,⟨.t 36,.bin .lss (.t 35) (.c (.v (.int .i64 1))),some (.t 33,false)⟩,nn (.t 37) (.pick (.t 33) (.c (.v (.bool true))) (.t 36)),nn
  (.t 38) (.mv false (.t 37)),⟨.t 39,.fadr 2 2 (.v 1),some (.t 38,false)⟩,⟨.t 40,.load 1 false (.t 39),some (.t 38,false)⟩,⟨.t 41,.bin .gtr
  (.t 40) (.c (.v (.int .i64 1099511627776))),some (.t 38,false)⟩,nn (.t 42) (.pick (.t 38) (.c (.v (.bool true))) (.t 41)),nn (.t 43) (.mv false
  (.t 42)),⟨.t 44,.fadr 5 36 (.v 1),some (.t 43,false)⟩,⟨.t 45,.load 1 false (.t 44),some (.t 43,false)⟩,⟨.t 46,.bin .lss (.t 45) (.c (.v
  (.int .i64 0))),some (.t 43,false)⟩,nn (.t 47) (.pick (.t 43) (.c (.v (.bool true))) (.t 46)),nn (.t 48) (.mv false (.t 47)),⟨.t 49,.fadr 5 36
  (.v 1),some (.t 48,false)⟩,⟨.t 50,.load 1 false (.t 49),some (.t 48,false)⟩,gm 51 3 48 false,⟨.t 52,.bin .gtr (.t 50) (.t 51),some (.t 48,
  false)⟩,nn (.t 53) (.pick (.t 48) (.c (.v (.bool true))) (.t 52))]).seq (PC.cond (.t 53) ((PC.reg [nn (.v 2) (.mv true (.c (.v (.int .i64
  1))))]).seq PC.ret) PC.skip)).seq ((PC.reg [nn (.v 2) (.mv true (.c (.v (.int .i64 0))))]).seq PC.ret))))) [(.v 2,none)]
def SCl:Spec1
 |[x],G,Q=>∃b,(byV x=some b∧b.length < 10000000000000)∧Q (.own (.sli .u8 b)) G
 |_,_,_=>False
theorem SCl_eq {x}:SCl [x] G Q=(∃b,(byV x=some b∧b.length < 10000000000000)∧Q (.own (.sli .u8 b)) G):=rfl
def SHa:Spec1
 |[x,.arr .u8 32 h],G,Q=>∃b,(byV x=some b∧b.length < 1000000000000∧h.length=32)∧Q (.own (.sli .u8 (b++h))) G
 |_,_,_=>False
theorem SHa_eq {x h}:SHa [x,.arr .u8 32 h] G Q=(∃b,(byV x=some b∧b.length < 1000000000000∧h.length=32)∧Q (.own (.sli .u8 (b++h))) G):=rfl
def SNu:Spec1
 |[x,.int .u64 n],G,Q=>∃b,(byV x=some b∧b.length < 100000000000∧0≤n∧n < 18446744073709551616)∧Q (.own (.sli .u8 (b++num n.toNat))) G
 |_,_,_=>False
theorem SNu_eq {x n}:SNu [x,.int .u64 n] G Q=(∃b,(byV x=some b∧b.length < 100000000000∧0≤n∧n < 18446744073709551616)∧Q (.own (.sli .u8 (b++num n.toNat))) G):=rfl
def SMy:Spec1
 |[.agg [.int .i64 a1,.int .i64 a2,.int .i64 a3,.int .i64 a4,.arr .u8 32 a5,.int .i64 a6,.arr .u8 32 a7,.arr .u8 32 a8]],G,Q=>((⟨a1,a2,a3,a4,a5,a6,a7,a8⟩:AttS)).wf∧Q (.v (.bool ((⟨a1,a2,a3,a4,a5,a6,a7,a8⟩:AttS)).may)) G
 |_,_,_=>False
theorem SMy_eq {a1 a2 a3 a4 a5 a6 a7 a8}:SMy [.agg [.int .i64 a1,.int .i64 a2,.int .i64 a3,.int .i64 a4,.arr .u8 32 a5,.int .i64 a6,.arr .u8 32 a7,.arr .u8 32 a8]] G Q=(((⟨a1,a2,a3,a4,a5,a6,a7,a8⟩:AttS)).wf∧Q (.v (.bool ((⟨a1,a2,a3,a4,a5,a6,a7,a8⟩:AttS)).may)) G):=rfl
def SCk:Spec1
 |[.agg [.int .i64 a1,.int .i64 a2,.int .i64 a3,.int .i64 a4,.arr .u8 32 a5,.int .i64 a6,.arr .u8 32 a7,.arr .u8 32 a8]],G,Q=>((⟨a1,a2,a3,a4,a5,a6,a7,a8⟩:AttS)).wf∧Q (.v (.int .i64 (if ((⟨a1,a2,a3,a4,a5,a6,a7,a8⟩:AttS)).may=true then 0 else 1))) G
 |_,_,_=>False
theorem SCk_eq {a1 a2 a3 a4 a5 a6 a7 a8}:SCk [.agg [.int .i64 a1,.int .i64 a2,.int .i64 a3,.int .i64 a4,.arr .u8 32 a5,.int .i64 a6,.arr .u8 32 a7,.arr .u8 32 a8]] G Q=(((⟨a1,a2,a3,a4,a5,a6,a7,a8⟩:AttS)).wf∧Q (.v (.int .i64 (if ((⟨a1,a2,a3,a4,a5,a6,a7,a8⟩:AttS)).may=true then 0 else 1))) G):=rfl
theorem walk118 {b:List Int} (hb:b.length < 10000000000000) (h:Q (.own (.sli .u8 b)) G):Wf E C pf118 [.sli .u8 b] G (fun r G'=>Q (wkR .u8 r) G'):=by
 simp -implicitDefEqProofs only[pf118,go_sem,↓reduceIte]
 intro q hq
 cases q with
 |true=>
  have hl:b.length=0:=by have:=hq rfl;omega
  have hb0:b=[]:=List.eq_nil_of_length_eq_zero hl
  subst hb0
  simp -implicitDefEqProofs only[go_sem,↓reduceIte]
  exact h
 |false=>
  simp -implicitDefEqProofs only[go_sem,↓reduceIte]
  exact⟨by omega,h⟩
theorem walk97 {b hh:List Int} (h50:Abs.look l 118=some SCl) (hb:b.length < 1000000000000) (hl:hh.length=32) (h:Q (.own (.sli .u8 (b++hh))) G):Wf E (specOf l) pf97 [.sli .u8 b,.arr .u8 32 hh] G Q:=by
 have ht:hh.take 32=hh:=List.take_of_length_le (by omega)
 simp -implicitDefEqProofs only[pf97,h50,SCl_eq,go_sem,↓reduceIte]
 refine⟨_,⟨rfl,by omega⟩,?_⟩
 simp -implicitDefEqProofs only[ht,List.drop_zero,go_sem,↓reduceIte]
 exact⟨by omega,h⟩
theorem loop120 {QQ:Ex→St→Prop} {b:List Int} (hb:b.length < 1000000000000)
  (hx:∀ts (n:Nat) (u:List Int),n < 128→u++num n=b→QQ (.exit 0) ⟨[none,some (.v (.int .u64 n)),none,none,none,some (.own (.sli .u8 u))],ts,[],G⟩):
  ∀(m n:Nat) (u:List Int),n < 128 ^ (m+1)→u++num n=b→WL (W E C lp120_0) [1,5] QQ (m+1) ⟨[none,some (.v (.int .u64 n)),none,none,none,some (.own (.sli .u8 u))],[],[],G⟩:=by
 intro m
 induction m with
 |zero=>
  intro n u hn hu
  have hge:¬128≤(n:Int):=by omega
  refine WL_in lp120_0.eq_1 ?_
  simp -implicitDefEqProofs only[hge,go_sem,↓reduceIte]
  exact hx _ n u (by omega) hu
 |succ m ih=>
  intro n u hn hu
  refine WL_in lp120_0.eq_1 ?_
  by_cases hge:(128:Int)≤n
  ·have e1:(n:Int).fdiv (2 ^ min 7 64)=((n / 128:Nat):Int):=by
    rw[show (2:Int) ^ min 7 64=128 from rfl,Int.fdiv_eq_ediv_of_nonneg _ (by omega)];simp
   have e2:=or128 (n:=(n:Int)) (by omega)
   rw[Int.toNat_natCast]at e2
   rw[num_big (by omega)]at hu
   have hul:u.length+(num (n / 128)).length+1=b.length:=by rw[←hu];simp only[List.length_append,List.length_cons];omega
   have ihh:=ih (n / 128) (u++[((n % 128+128:Nat):Int)]) (by
    rw[Nat.pow_succ]at hn
    exact Nat.div_lt_of_lt_mul (by rw[Nat.mul_comm];exact hn)) (by rw[←hu,List.append_assoc];rfl)
   simp -implicitDefEqProofs only[hge,e1,e2,go_sem,↓reduceIte]
   exact⟨by omega,ihh⟩
  ·simp -implicitDefEqProofs only[hge,go_sem,↓reduceIte]
   exact hx _ n u (by omega) hu
theorem walk120 {b:List Int} {n:Int} (h50:Abs.look l 118=some SCl) (hb:b.length < 100000000000) (hn:0≤n∧n < 18446744073709551616) (h:Q (.own (.sli .u8 (b++num n.toNat))) G):Wf E (specOf l) pf120 [.sli .u8 b,.int .u64 n] G Q:=by
 obtain⟨k,rfl⟩:∃k:Nat,n=k:=⟨n.toNat,by omega⟩
 rw[Int.toNat_natCast]at h
 obtain⟨hby,hlen⟩:=num_ok (n:=k) (by omega)
 simp -implicitDefEqProofs only[pf120,h50,SCl_eq,go_sem,↓reduceIte]
 refine⟨_,⟨rfl,by omega⟩,10,?_⟩
 simp -implicitDefEqProofs only[go_sem,↓reduceIte]
 refine loop120 (b:=b++num k) (by rw[List.length_append];omega) (fun ts n u hn2 hu=> ?_) 9 k b (Nat.lt_of_lt_of_le (show k < 18446744073709551616 by omega) (by decide)) rfl
 have hw:IntKind.u8.wrap (n:Int)=n:=by simp only[IntKind.wrap,IntKind.bits,IntKind.signed];simp;omega
 rw[num_small hn2]at hu
 have hul:u.length+1=b.length+(num k).length:=by
  have:=congrArg List.length hu
  simpa only[List.length_append,List.length_cons,List.length_nil]using this
 rw[←hu]at h
 simp -implicitDefEqProofs only[hw,go_sem,↓reduceIte]
 exact⟨by omega,h⟩
theorem walk51 {a1 a2 a3 a4 a6:Int} {a5 a7 a8:List Int} (hw:((⟨a1,a2,a3,a4,a5,a6,a7,a8⟩:AttS)).wf) (h:Q (.v (.bool ((⟨a1,a2,a3,a4,a5,a6,a7,a8⟩:AttS)).may)) G):Wf E C pf51 [.agg [.int .i64 a1,.int .i64 a2,.int .i64 a3,.int .i64 a4,.arr .u8 32 a5,.int .i64 a6,.arr .u8 32 a7,.arr .u8 32 a8]] G Q:=by
 simp -implicitDefEqProofs only[pf51,go_sem,↓reduceIte]
 repeat' first|(intro _)|constructor
 all_goals
  refine finB h ?_
  unfold AttS.may
  first
  |(apply decide_eq_true;unfold AttS.May;dsimp only;omega)
  |(apply decide_eq_false;unfold AttS.May;dsimp only;omega)
  |(simp only[decide_eq_decide];unfold AttS.May;dsimp only;omega)
theorem walk117 {a1 a2 a3 a4 a6:Int} {a5 a7 a8:List Int} (h36:Abs.look l 69=some SNo) (hw:((⟨a1,a2,a3,a4,a5,a6,a7,a8⟩:AttS)).wf) (h:Q (.v (.int .i64 (if ((⟨a1,a2,a3,a4,a5,a6,a7,a8⟩:AttS)).may=true then 0 else 1))) G):Wf E (specOf l) pf117 [.agg [.int .i64 a1,.int .i64 a2,.int .i64 a3,.int .i64 a4,.arr .u8 32 a5,.int .i64 a6,.arr .u8 32 a7,.arr .u8 32 a8]] G Q:=by
 have ht:IntKind.i64.wrap (a3-1)=a3-1∨a3= -9223372036854775808:=by
  have:=hw.vi;unfold I64 at this;dsimp only at this
  by_cases e:a3= -9223372036854775808
  ·exact .inr e
  ·exact .inl (w64 (by omega) (by omega))
 by_cases h3:a2=3
 all_goals
  simp -implicitDefEqProofs only[pf117,h36,SNo_eq,h3,go_sem,↓reduceIte]
  repeat' first|(intro _)|constructor
  all_goals
   refine finI h ?_
   first
   |(rw[if_neg (by unfold AttS.may;rw[decide_eq_true_eq];unfold AttS.May;dsimp only;omega)])
   |(rw[if_pos (by unfold AttS.may;rw[decide_eq_true_eq];unfold AttS.May;dsimp only;omega)])
def lp119_0:PC:=
 (PC.reg [nn (.t 16) (.bin .lss (.v 15) (.v 14))]).seq ((PC.cond (.t 16) PC.skip (PC.exit 0)).seq ((PC.block 1 ((PC.reg [nn (.t 17) (.iadrS 1 (.v 13)
  (.v 15)),nn (.t 18) (.load 1 false (.t 17)),ma 6 18]).seq (PC.reg [mm 19 0,mm 20 6,nn (.t 21) (.conv .u64 (.t 20)),nn (.t 22) (.call 120 [.t 19,
  .t 21]),ma 0 22]))).seq (PC.reg [nn (.t 23) (.bin .add (.v 15) (.c (.v (.int .i64 1)))),nn (.v 15) (.mv false (.t 23))])))
def pf119:PF:=
 PF.mk 2 16 35 ((PC.reg [nn (.v 3) (.box (.v 1)),nn (.v 4) (.mv true (.c (.own .nils)))]).seq (((PC.reg [nn (.v 7) (.fadr 1 1 (.v 3)),nn (.v 8) (.load
  1 false (.v 7)),nn (.v 9) (.fadr 2 2 (.v 3)),nn (.v 10) (.load 1 false (.v 9)),nn (.v 11) (.fadr 3 3 (.v 3)),nn (.v 12) (.load 1 false (.v 11)),
  nn (.v 13) (.buildS (some .i64) 1 (.int .i64 0) 3 [(0,.v 8),(1,.v 10),(2,.v 12)]),nn (.v 14) (.len (.v 13)),nn (.v 15) (.mv false (.c (.v
  (.int .i64 0))))]).seq (PC.block 0 (PC.loop [0,3,13,14,15] lp119_0))).seq ((PC.regD 0 [mm 24 0,nn (.t 25) (.fadr 4 4 (.v 3)),nn (.t 26) (.load
  32 true (.t 25)),nn (.t 27) (.call 97 [.t 24,.t 26]),nn (.t 28) (.fadr 5 36 (.v 3)),nn (.t 29) (.load 1 false (.t 28)),nn (.t 30) (.conv .u64
  (.t 29)),nn (.t 31) (.call 120 [.t 27,.t 30]),nn (.t 32) (.fadr 6 37 (.v 3)),nn (.t 33) (.load 32 true (.t 32)),nn (.t 34) (.call 97 [.t 31,.t
  33]),ma 4 34] []).seq PC.ret))) [(.v 4,none)]
def STg:Spec1
 |[x,.agg [.int .i64 a1,.int .i64 a2,.int .i64 a3,.int .i64 a4,.arr .u8 32 a5,.int .i64 a6,.arr .u8 32 a7,.arr .u8 32 a8]],G,Q=>∃b,(byV x=some b∧b.length < 10000000000∧((⟨a1,a2,a3,a4,a5,a6,a7,a8⟩:AttS)).wf∧((⟨a1,a2,a3,a4,a5,a6,a7,a8⟩:AttS)).May)∧Q (.own (.sli .u8 (b++((⟨a1,a2,a3,a4,a5,a6,a7,a8⟩:AttS)).said))) G
 |_,_,_=>False
theorem STg_eq {x a1 a2 a3 a4 a5 a6 a7 a8}:STg [x,.agg [.int .i64 a1,.int .i64 a2,.int .i64 a3,.int .i64 a4,.arr .u8 32 a5,.int .i64 a6,.arr .u8 32 a7,.arr .u8 32 a8]] G Q=(∃b,(byV x=some b∧b.length < 10000000000∧((⟨a1,a2,a3,a4,a5,a6,a7,a8⟩:AttS)).wf∧((⟨a1,a2,a3,a4,a5,a6,a7,a8⟩:AttS)).May)∧Q (.own (.sli .u8 (b++((⟨a1,a2,a3,a4,a5,a6,a7,a8⟩:AttS)).said))) G):=rfl
theorem u64_of {n:Int} (h:0≤n) (h2:n≤9223372036854775807):IntKind.u64.wrap n=n:=by simp only[IntKind.wrap,IntKind.bits,IntKind.signed];simp;omega
theorem loop119 {z0:Bx} {QQ:Ex→St→Prop} {a2 a3 a4:Int} {b:List Int} (h52:Abs.look l 120=some SNu) (hb:b.length < 10000000000) (h2:0≤a2∧a2 < 2000000000000) (h3:0≤a3∧a3 < 2000000000000) (h4:0≤a4∧a4 < 2000000000000)
  (hx:∀ts,QQ (.exit 0) ⟨[some (.own (.sli .u8 (b++num a2.toNat++num a3.toNat++num a4.toNat))),none,none,some (.lp 0 []),none,none,none,none,none,none,none,none,none,some (.own (.sli .i64 [a2,a3,a4])),some (.v (.int .i64 3)),some (.v (.int .i64 3))],ts,[z0],G⟩):WL (W E (specOf l) lp119_0) [0,3,13,14,15] QQ 4 ⟨[some (.v (.sli .u8 b)),none,none,some (.lp 0 []),none,none,none,none,none,none,none,none,none,some (.own (.sli .i64 [a2,a3,a4])),some (.v (.int .i64 3)),some (.v (.int .i64 0))],[],[z0],G⟩:=by
 obtain⟨m2,n2⟩:=num_ok (n:=a2.toNat) (by omega)
 obtain⟨m3,n3⟩:=num_ok (n:=a3.toNat) (by omega)
 obtain⟨m4,n4⟩:=num_ok (n:=a4.toNat) (by omega)
 have w2:=u64_of h2.1 (by omega)
 have w3:=u64_of h3.1 (by omega)
 have w4:=u64_of h4.1 (by omega)
 refine WL_in lp119_0.eq_1 ?_
 simp -implicitDefEqProofs (disch:=omega) only[h52,SNu_eq,w2,w3,w4,go_sem,↓reduceIte,w64]
 refine⟨_,⟨rfl,by omega,by omega,by omega⟩,?_⟩
 refine WL_in lp119_0.eq_1 ?_
 simp -implicitDefEqProofs (disch:=omega) only[h52,SNu_eq,w2,w3,w4,go_sem,↓reduceIte,w64]
 refine⟨_,⟨rfl,by simp only[List.length_append];omega,by omega,by omega⟩,?_⟩
 refine WL_in lp119_0.eq_1 ?_
 simp -implicitDefEqProofs (disch:=omega) only[h52,SNu_eq,w2,w3,w4,go_sem,↓reduceIte,w64]
 refine⟨_,⟨rfl,by simp only[List.length_append];omega,by omega,by omega⟩,?_⟩
 refine WL_in lp119_0.eq_1 ?_
 simp -implicitDefEqProofs (disch:=omega) only[h52,SNu_eq,w2,w3,w4,go_sem,↓reduceIte,w64]
 exact hx _
theorem walk119 {a1 a2 a3 a4 a6:Int} {a5 a7 a8:List Int} {b:List Int} (h52:Abs.look l 120=some SNu) (h46:Abs.look l 97=some SHa) (hb:b.length < 10000000000) (hw:((⟨a1,a2,a3,a4,a5,a6,a7,a8⟩:AttS)).wf) (hm:((⟨a1,a2,a3,a4,a5,a6,a7,a8⟩:AttS)).May) (h:Q (.own (.sli .u8 (b++((⟨a1,a2,a3,a4,a5,a6,a7,a8⟩:AttS)).said))) G):Wf E (specOf l) pf119 [.sli .u8 b,.agg [.int .i64 a1,.int .i64 a2,.int .i64 a3,.int .i64 a4,.arr .u8 32 a5,.int .i64 a6,.arr .u8 32 a7,.arr .u8 32 a8]] G Q:=by
 obtain⟨m1,m2,m3,m4,m5,m6⟩:=hm
 dsimp only at m1 m2 m3 m4 m5 m6
 obtain⟨r2,n2⟩:=num_ok (n:=a2.toNat) (by omega)
 obtain⟨r3,n3⟩:=num_ok (n:=a3.toNat) (by omega)
 obtain⟨r4,n4⟩:=num_ok (n:=a4.toNat) (by omega)
 obtain⟨r6,n6⟩:=num_ok (n:=a6.toNat) (by omega)
 have w6:=u64_of (n:=a6) (by omega) (by omega)
 have l5:a5.length=32:=hw.ha.2
 have l7:a7.length=32:=hw.pa.2
 simp -implicitDefEqProofs only[pf119,go_sem,↓reduceIte]
 refine⟨4,?_⟩
 simp -implicitDefEqProofs only[go_sem,↓reduceIte]
 refine loop119 (a2:=a2) (a3:=a3) (a4:=a4) h52 hb (by omega) (by omega) (by omega) (fun ts=> ?_)
 simp -implicitDefEqProofs only[h46,SHa_eq,h52,SNu_eq,w6,go_sem,↓reduceIte]
 refine⟨_,⟨byV_u8 _,by simp only[List.length_append];omega,l5⟩,_,⟨byV_u8 _,by simp only[List.length_append];omega,by omega,by omega⟩,_,⟨byV_u8 _,by simp only[List.length_append];omega,l7⟩,?_⟩
 unfold AttS.said at h;dsimp only at h
 simpa only[List.append_assoc]using h
end Go.Proofs.Ytjbglbhcbenhpaa.Sha
namespace Go.Abs.Sha
open Go Go.Abs
set_option maxRecDepth 100000
open Go Go.Abs Go.Abs.Srt
set_option linter.unusedVariables false
set_option linter.unusedSimpArgs false
structure CertS where
 att:AttS
 sigs:List (Int×List Int)
def sgV (p:Int×List Int):V:= .agg [.int .i64 p.1,.arr .u8 32 p.2]
def CertS.v (c:CertS):V:= .agg [c.att.v,.sle 33 (c.sigs.map sgV)]
def CertS.zero:CertS:=⟨.zero,[]⟩
def quo (n:Int):Int:=if 1≤n∧n≤21∧n % 2=1 then n / 2+1 else 0
theorem _root_.Go.Abs.Row.one {G0 G:List (Nat×V)} {sz:Nat} {z x:V} {els:List V} (h:Row G0 G sz z x els):x.size=1∧x.isAgg=false:=by
 obtain⟨_,⟨rfl,_⟩|⟨id,c,L,rfl,_⟩⟩:=h<;>exact⟨rfl,rfl⟩
theorem _root_.Go.Abs.Row.like {G0 G G1 G2:List (Nat×V)} {sz:Nat} {z x y:V} {els e2:List V} (h:Row G0 G sz z x els) (h2:Row G1 G2 sz z y e2):y.same x=true:=by
 obtain⟨_,⟨rfl,_⟩|⟨id,c,L,rfl,_⟩⟩:=h<;>obtain⟨_,⟨rfl,_⟩|⟨id,c,L,rfl,_⟩⟩:=h2<;>rfl
theorem _root_.Go.Abs.Row.base {G0 G1 G:List (Nat×V)} {sz:Nat} {z x:V} {els:List V} (h:Row G1 G sz z x els) (he:Go.Abs.Ext G0 G1):Row G0 G sz z x els:=by
 obtain⟨h0,h⟩:=h
 refine⟨he.trans h0,?_⟩
 rcases h with h|⟨id,c,L,h1,h2,h3⟩
 ·exact .inl h
 ·exact .inr ⟨id,c,L,h1,he.none h2,h3⟩
end Go.Abs.Sha
namespace Go.Proofs.Ytjbglbhcbenhpaa.Sha
open Go Go.Abs Go.Abs.Sha Go.Abs.Srt
set_option linter.unusedSimpArgs false
set_option linter.unusedVariables false
set_option maxRecDepth 100000
attribute [local irreducible] W Wops WopsD WL Wop WopD
variable {E:Env} {C:Abs.Spec} {l:List (Nat×Spec1)} {G:List (Nat×V)} {Q:R→List (Nat×V)→Prop}
set_option maxHeartbeats 1000000
end Go.Proofs.Ytjbglbhcbenhpaa.Sha
