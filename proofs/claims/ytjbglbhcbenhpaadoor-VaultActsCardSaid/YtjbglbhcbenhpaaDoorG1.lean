/- Laws over plain values, and what functions of the program hand back; no conditions. -/
import Derived.Test.YtjbglbhcbenhpaaDoorPlain6
namespace Go.Abs.Sha
open Go Go.Abs
set_option linter.unusedVariables false
set_option linter.unusedSimpArgs false
attribute [go_sem] decide_eq_true_eq decide_eq_false_iff_not ge_iff_le gt_iff_lt Int.not_le Int.not_lt Bool.not_eq_true' Bool.not_eq_false' Bool.and_eq_true Bool.and_eq_false_iff
def Wd (x:Int):Prop:=0≤x∧x < 4294967296
theorem wrap32 (n:Int):IntKind.u32.wrap n=n % 4294967296:=by simp[IntKind.wrap,IntKind.bits,IntKind.signed]
def rot (x:Int) (n:Nat):Int:=x / 2 ^ n+x % 2 ^ n*2 ^ (32-n)
def shf (x:Int) (n:Nat):Int:=x / 2 ^ n
theorem shf_wd {x:Int} (h:Wd x) (n:Nat):Wd (shf x n):=by
 unfold Wd shf at*
 have hp:(0:Int) < 2 ^ n:=by exact Int.pow_pos (by decide)
 have h1:0≤x / 2 ^ n:=Int.ediv_nonneg h.1 (by omega)
 have h2:x / 2 ^ n≤x:=Int.ediv_le_self _ h.1
 omega
theorem rot_wd {x:Int} (h:Wd x) {n:Nat} (hn:n≤32):Wd (rot x n):=by
 unfold Wd at*
 have hp:(0:Int) < 2 ^ n:=Int.pow_pos (by decide)
 have hq:(0:Int) < 2 ^ (32-n):=Int.pow_pos (by decide)
 have hpq:(2:Int) ^ n*2 ^ (32-n)=4294967296:=by rw[←Int.pow_add,show n+(32-n)=32 by omega];rfl
 have h1:0≤x / 2 ^ n:=Int.ediv_nonneg h.1 (by omega)
 have h2:x / 2 ^ n < 2 ^ (32-n):=by
  apply Int.ediv_lt_of_lt_mul hp
  rw[Int.mul_comm,hpq];exact h.2
 have h3:0≤x % 2 ^ n:=Int.emod_nonneg _ (by omega)
 have h4:x % 2 ^ n≤2 ^ n-1:=by have:=Int.emod_lt_of_pos x hp;omega
 have h5:x % 2 ^ n*2 ^ (32-n)≤(2 ^ n-1)*2 ^ (32-n):=Int.mul_le_mul_of_nonneg_right h4 (by omega)
 have h6:0≤x % 2 ^ n*2 ^ (32-n):=Int.mul_nonneg h3 (by omega)
 rw[Int.sub_mul,hpq]at h5
 unfold rot;omega
theorem rot_succ {x:Int} (h:Wd x) {n:Nat} (hn:n < 32):rot (rot x n) 1=rot x (n+1):=by
 have hp:(0:Int) < 2 ^ n:=Int.pow_pos (by decide)
 have e1:(32:Nat)-n=(32-(n+1))+1:=by omega
 have e2:(2:Int) ^ (32-n)=2*2 ^ (32-(n+1)):=by rw[e1,Int.pow_succ,Int.mul_comm]
 have hq:(0:Int) < 2 ^ (32-(n+1)):=Int.pow_pos (by decide)
 have hpq:(2:Int) ^ n*2 ^ (32-(n+1))=2147483648:=by rw[←Int.pow_add,show n+(32-(n+1))=31 by omega];rfl
 unfold rot
 rw[e2]
 generalize (2:Int) ^ (32-(n+1))=q at*
 have e3:(2:Int) ^ (n+1)=2 ^ n*2:=Int.pow_succ ..
 rw[e3]
 generalize hP:(2:Int) ^ n=P at*
 have d1:x / (P*2)=x / P / 2:=(Int.ediv_ediv_of_nonneg (by omega)).symm
 have d2:x % (P*2)=x % P+P*(x / P % 2):=by
  have a1:=Int.emod_add_mul_ediv x P
  have a2:=Int.emod_add_mul_ediv x (P*2)
  have a3:=Int.emod_add_mul_ediv (x / P) 2
  rw[d1]at a2
  have:P*2*(x / P / 2)=P*(2*(x / P / 2)):=by rw[Int.mul_assoc]
  rw[this]at a2
  have b:P*(x / P)=P*(x / P % 2)+P*(2*(x / P / 2)):=by rw[←Int.mul_add,a3]
  omega
 rw[d1,d2,Int.add_mul]
 have c1:x % P*(2*q)=2*(x % P*q):=by rw[Int.mul_comm 2 q,←Int.mul_assoc,Int.mul_comm]
 have c2:P*(x / P % 2)*q=x / P % 2*2147483648:=by rw[Int.mul_comm P,Int.mul_assoc,hpq]
 rw[c1,c2]
 simp only[Int.pow_one,show (2:Int) ^ (32-1)=2147483648 from rfl]
 omega
theorem rot_zero (x:Int) (h:Wd x):rot x 0=x:=by
 unfold rot;simp[Int.emod_one]
theorem or_rot {x:Int} (h:Wd x) {n:Nat} (h1:1≤n) (h2:n≤31):
  bOr .u32 (IntKind.u32.wrap (x*2 ^ (32-n))) (x.fdiv (2 ^ n))=rot x n:=by
 show IntKind.u32.wrap ((BitVec.ofInt 32 (IntKind.u32.wrap (x*2 ^ (32-n)))|||BitVec.ofInt 32 (x.fdiv (2 ^ n))).toNat)=rot x n
 unfold Wd at h
 obtain⟨X,rfl⟩:∃X:Nat,x=X:=⟨x.toNat,by omega⟩
 have hX:X < 4294967296:=by omega
 have hpq:2 ^ n*2 ^ (32-n)=4294967296:=by rw[←Nat.pow_add,show n+(32-n)=32 by omega]
 have hp:0 < 2 ^ n:=Nat.pow_pos (by decide)
 have hq:0 < 2 ^ (32-n):=Nat.pow_pos (by decide)
 have e1:IntKind.u32.wrap ((X:Int)*2 ^ (32-n))=((X % 2 ^ n*2 ^ (32-n):Nat):Int):=by
  rw[wrap32]
  have:((X:Int)*2 ^ (32-n))=((X*2 ^ (32-n):Nat):Int):=by simp
  rw[this,show (4294967296:Int)=((4294967296:Nat):Int)from rfl,←Int.natCast_emod,←hpq,Nat.mul_mod_mul_right]
 have e2:(X:Int).fdiv (2 ^ n)=((X / 2 ^ n:Nat):Int):=by
  rw[Int.fdiv_eq_ediv_of_nonneg _ (by have:(0:Int) < 2 ^ n:=Int.pow_pos (by decide);omega)]
  simp
 have b1:X % 2 ^ n*2 ^ (32-n) < 4294967296:=by
  rw[←hpq];exact Nat.mul_lt_mul_of_pos_right (Nat.mod_lt _ hp) hq
 have b2:X / 2 ^ n < 2 ^ (32-n):=by rw[Nat.div_lt_iff_lt_mul hp,Nat.mul_comm,hpq];exact hX
 have b3:X / 2 ^ n < 4294967296:=Nat.lt_of_le_of_lt (Nat.div_le_self _ _) hX
 have e3:(BitVec.ofInt 32 ((X % 2 ^ n*2 ^ (32-n):Nat):Int)|||BitVec.ofInt 32 ((X / 2 ^ n:Nat):Int)).toNat=X % 2 ^ n*2 ^ (32-n)+X / 2 ^ n:=by
  rw[BitVec.toNat_or,BitVec.ofInt_natCast,BitVec.ofInt_natCast,BitVec.toNat_ofNat,BitVec.toNat_ofNat,Nat.mod_eq_of_lt b1,Nat.mod_eq_of_lt b3,
   ←Nat.shiftLeft_eq,←Nat.shiftLeft_add_eq_or_of_lt b2]
 rw[e1,e2,e3,wrap32]
 have b4:X % 2 ^ n*2 ^ (32-n)+X / 2 ^ n < 4294967296:=by
  have:X % 2 ^ n+1≤2 ^ n:=Nat.mod_lt _ hp
  have:=Nat.mul_le_mul_right (2 ^ (32-n)) this
  rw[hpq,Nat.add_mul]at this
  omega
 rw[Int.emod_eq_of_lt (by omega) (by omega)]
 unfold rot
 push_cast
 omega
/-! bits of words -/
theorem ch_same (e f g:BitVec 32):(e&&& f) ^^^ (~~~e&&& g)=(e&&& f)|||(~~~e&&& g):=by
 apply BitVec.eq_of_getLsbD_eq
 intro i hi
 simp only[BitVec.getLsbD_xor,BitVec.getLsbD_and,BitVec.getLsbD_or,BitVec.getLsbD_not]
 cases e.getLsbD i<;>cases f.getLsbD i<;>cases g.getLsbD i<;>simp
theorem maj_same (a b c:BitVec 32):(a&&& b) ^^^ (a&&& c) ^^^ (b&&& c)=(a&&& b)|||(a&&& c)|||(b&&& c):=by
 apply BitVec.eq_of_getLsbD_eq
 intro i hi
 simp only[BitVec.getLsbD_xor,BitVec.getLsbD_and,BitVec.getLsbD_or]
 cases a.getLsbD i<;>cases b.getLsbD i<;>cases c.getLsbD i<;>simp
theorem wrap_toNat (b:BitVec 32):IntKind.u32.wrap (b.toNat:Int)=b.toNat:=by
 rw[wrap32];have:=b.isLt;omega
theorem ofInt_toNat (b:BitVec 32):BitVec.ofInt 32 (b.toNat:Int)=b:=by
 rw[BitVec.ofInt_natCast,BitVec.ofNat_toNat];simp
theorem xr_b (a b:BitVec 32):bXor .u32 a.toNat b.toNat=(a ^^^ b).toNat:=by
 show IntKind.u32.wrap ((BitVec.ofInt 32 (a.toNat:Int) ^^^ BitVec.ofInt 32 (b.toNat:Int)).toNat)=_
 rw[ofInt_toNat,ofInt_toNat,wrap_toNat]
theorem an_b (a b:BitVec 32):bAnd .u32 a.toNat b.toNat=(a&&& b).toNat:=by
 show IntKind.u32.wrap ((BitVec.ofInt 32 (a.toNat:Int)&&& BitVec.ofInt 32 (b.toNat:Int)).toNat)=_
 rw[ofInt_toNat,ofInt_toNat,wrap_toNat]
theorem ro_b (a b:BitVec 32):bOr .u32 a.toNat b.toNat=(a |||b).toNat:=by
 show IntKind.u32.wrap ((BitVec.ofInt 32 (a.toNat:Int)|||BitVec.ofInt 32 (b.toNat:Int)).toNat)=_
 rw[ofInt_toNat,ofInt_toNat,wrap_toNat]
theorem nt_b (a:BitVec 32):bNot .u32 a.toNat=(~~~a).toNat:=by
 show IntKind.u32.wrap ((BitVec.ofInt 32 4294967295 ^^^ BitVec.ofInt 32 (a.toNat:Int)).toNat)=_
 rw[ofInt_toNat,show BitVec.ofInt 32 4294967295=BitVec.allOnes 32 from by decide,BitVec.allOnes_xor,wrap_toNat]
theorem sub_b (a:BitVec 32):IntKind.u32.wrap (4294967295-(a.toNat:Int))=(~~~a).toNat:=by
 rw[wrap32,BitVec.toNat_not];have:=a.isLt;omega
theorem wd_b {x:Int} (h:Wd x):∃b:BitVec 32,x=b.toNat:=by
 unfold Wd at h
 exact⟨BitVec.ofNat 32 x.toNat,by rw[BitVec.toNat_ofNat];omega⟩
theorem ch_eq {e f g:Int} (he:Wd e) (hf:Wd f) (hg:Wd g):bOr .u32 (bAnd .u32 e f) (bAnd .u32 (IntKind.u32.wrap (4294967295-e)) g)=bXor .u32 (bAnd .u32 e f) (bAnd .u32 (bNot .u32 e) g):=by
 obtain⟨e,rfl⟩:=wd_b he
 obtain⟨f,rfl⟩:=wd_b hf
 obtain⟨g,rfl⟩:=wd_b hg
 rw[sub_b,nt_b,an_b,an_b,ro_b,xr_b,ch_same]
theorem maj_eq {a b c:Int} (ha:Wd a) (hb:Wd b) (hc:Wd c):bOr .u32 (bOr .u32 (bAnd .u32 a b) (bAnd .u32 a c)) (bAnd .u32 b c)=bXor .u32 (bXor .u32 (bAnd .u32 a b) (bAnd .u32 a c)) (bAnd .u32 b c):=by
 obtain⟨a,rfl⟩:=wd_b ha
 obtain⟨b,rfl⟩:=wd_b hb
 obtain⟨c,rfl⟩:=wd_b hc
 rw[an_b,an_b,an_b,ro_b,ro_b,xr_b,xr_b,maj_same]
/-! ### the hash -/
def word4 (b:List Int) (i:Nat):Int:=b.getD (4*i) 0*16777216+b.getD (4*i+1) 0*65536+b.getD (4*i+2) 0*256+b.getD (4*i+3) 0
def sig0 (x:Int):Int:=bXor .u32 (bXor .u32 (rot x 7) (rot x 18)) (shf x 3)
def sig1 (x:Int):Int:=bXor .u32 (bXor .u32 (rot x 17) (rot x 19)) (shf x 10)
def nextW (w:List Int) (i:Nat):Int:=(w.getD (i-16) 0+sig0 (w.getD (i-15) 0)+w.getD (i-7) 0+sig1 (w.getD (i-2) 0)) % 4294967296
def sched (b:List Int):Nat→List Int
 |0=>List.replicate 64 0
 |i+1=>(sched b i).set i (if i < 16 then word4 b i else nextW (sched b i) i)
structure Regs where
 a:Int
 b:Int
 c:Int
 d:Int
 e:Int
 f:Int
 g:Int
 h:Int
def big0 (x:Int):Int:=bXor .u32 (bXor .u32 (rot x 2) (rot x 13)) (rot x 22)
def big1 (x:Int):Int:=bXor .u32 (bXor .u32 (rot x 6) (rot x 11)) (rot x 25)
def cho (e f g:Int):Int:=bXor .u32 (bAnd .u32 e f) (bAnd .u32 (bNot .u32 e) g)
def maj (a b c:Int):Int:=bXor .u32 (bXor .u32 (bAnd .u32 a b) (bAnd .u32 a c)) (bAnd .u32 b c)
def tee (s:Regs) (k w:Int):Int:=(s.h+big1 s.e+cho s.e s.f s.g+k+w) % 4294967296
def you (s:Regs):Int:=(big0 s.a+maj s.a s.b s.c) % 4294967296
def rnd (s:Regs) (k w:Int):Regs:=⟨(tee s k w+you s) % 4294967296,s.a,s.b,s.c,(s.d+tee s k w) % 4294967296,s.e,s.f,s.g⟩
def rnds (k w:List Int) (s:Regs):Nat→Regs
 |0=>s
 |i+1=>rnd (rnds k w s i) (k.getD i 0) (w.getD i 0)
def Regs.ok (s:Regs):Prop:=Wd s.a∧Wd s.b∧Wd s.c∧Wd s.d∧Wd s.e∧Wd s.f∧Wd s.g∧Wd s.h
theorem wd_mod (n:Int):Wd (n % 4294967296):=by unfold Wd;omega
theorem rnd_ok {s:Regs} (h:s.ok) (k w:Int):(rnd s k w).ok:=by
 obtain⟨h1,h2,h3,h4,h5,h6,h7,h8⟩:=h
 exact⟨wd_mod _,h1,h2,h3,wd_mod _,h5,h6,h7⟩
theorem rnds_ok {k w:List Int} {s:Regs} (h:s.ok):∀i,(rnds k w s i).ok
 |0=>h
 |i+1=>rnd_ok (rnds_ok h i) _ _
def ofL (s:List Int):Regs:=⟨s.getD 0 0,s.getD 1 0,s.getD 2 0,s.getD 3 0,s.getD 4 0,s.getD 5 0,s.getD 6 0,s.getD 7 0⟩
def toL (s:Regs):List Int:=[s.a,s.b,s.c,s.d,s.e,s.f,s.g,s.h]
def block (k:List Int) (s b:List Int):List Int:=
 let r:=rnds k (sched b 64) (ofL s) 64
 [(s.getD 0 0+r.a) % 4294967296,(s.getD 1 0+r.b) % 4294967296,(s.getD 2 0+r.c) % 4294967296,(s.getD 3 0+r.d) % 4294967296,(s.getD 4 0+r.e) % 4294967296,(s.getD 5 0+r.f) % 4294967296,(s.getD 6 0+r.g) % 4294967296,(s.getD 7 0+r.h) % 4294967296]
theorem sched_len (b:List Int):∀i,(sched b i).length=64
 |0=>by simp[sched]
 |i+1=>by simp[sched,sched_len b i]
def Byt (b:List Int):Prop:=∀x∈b,0≤x∧x≤255
theorem byt_getD {b:List Int} (h:Byt b) (i:Nat):0≤b.getD i 0∧b.getD i 0≤255:=by
 rw[List.getD_eq_getElem?_getD]
 cases hi:b[i]? with
 |none=>simp
 |some x=>exact h x (List.mem_of_getElem? hi)
theorem word4_wd {b:List Int} (h:Byt b) (i:Nat):Wd (word4 b i):=by
 have h0:=byt_getD h (4*i);have h1:=byt_getD h (4*i+1);have h2:=byt_getD h (4*i+2);have h3:=byt_getD h (4*i+3)
 unfold Wd word4;omega
theorem sched_wd {b:List Int} (h:Byt b):∀i,∀x∈sched b i,Wd x
 |0,x,hx=>by simp[sched]at hx;subst hx;unfold Wd;omega
 |i+1,x,hx=>by
  rcases List.mem_or_eq_of_mem_set hx with hx|rfl
  ·exact sched_wd h i x hx
  ·split
   ·exact word4_wd h i
   ·exact wd_mod _
theorem wd_getD {w:List Int} (h:∀x∈w,Wd x) (i:Nat):Wd (w.getD i 0):=by
 rw[List.getD_eq_getElem?_getD]
 cases hi:w[i]? with
 |none=>unfold Wd;simp
 |some x=>exact h x (List.mem_of_getElem? hi)
theorem or_byte {x c:Int} (hx:0≤x∧x < 16777216) (hc:0≤c∧c≤255):bOr .u32 (IntKind.u32.wrap (x*256)) (IntKind.u32.wrap c)=x*256+c:=by
 obtain⟨X,rfl⟩:∃X:Nat,x=X:=⟨x.toNat,by omega⟩
 obtain⟨C,rfl⟩:∃C:Nat,c=C:=⟨c.toNat,by omega⟩
 have e1:IntKind.u32.wrap ((X:Int)*256)=((X*256:Nat):Int):=by rw[wrap32];omega
 have e2:IntKind.u32.wrap (C:Int)=(C:Int):=by rw[wrap32];omega
 show IntKind.u32.wrap ((BitVec.ofInt 32 (IntKind.u32.wrap ((X:Int)*256))|||BitVec.ofInt 32 (IntKind.u32.wrap (C:Int))).toNat)=_
 have e3:(BitVec.ofInt 32 ((X*256:Nat):Int)|||BitVec.ofInt 32 (C:Int)).toNat=X*256+C:=by
  rw[BitVec.toNat_or,BitVec.ofInt_natCast,BitVec.ofInt_natCast,BitVec.toNat_ofNat,BitVec.toNat_ofNat,Nat.mod_eq_of_lt (by omega),Nat.mod_eq_of_lt (by omega),
   show X*256=X*2 ^ 8 from rfl,←Nat.shiftLeft_eq,←Nat.shiftLeft_add_eq_or_of_lt (by omega)]
 rw[e1,e2,e3,wrap32];omega
theorem getD_set_self {w:List Int} {i:Nat} {a:Int} (h:i < w.length):(w.set i a).getD i 0=a:=by
 rw[List.getD_eq_getElem?_getD,List.getElem?_set_self h];rfl
theorem sched_get0 {b:List Int}:∀{i j:Nat},i≤j→(sched b i).getD j 0=0
 |0,j,_=>by
  rw[List.getD_eq_getElem?_getD]
  show ((List.replicate 64 0)[j]?).getD 0=0
  rw[List.getElem?_replicate];split<;>rfl
 |i+1,j,h=>by
  rw[List.getD_eq_getElem?_getD]
  show (((sched b i).set i _)[j]?).getD 0=0
  rw[List.getElem?_set_ne (by omega),←List.getD_eq_getElem?_getD];exact sched_get0 (by omega)
theorem fd_shf {x:Int} (h:Wd x) (n:Nat) (hn:n≤32):x.fdiv (2 ^ min n 32)=shf x n:=by
 rw[Nat.min_eq_left hn,Int.fdiv_eq_ediv_of_nonneg _ (by have:(0:Int) < 2 ^ n:=Int.pow_pos (by decide);omega)];rfl
theorem pw8:(2:Int) ^ min 8 32=256:=rfl
end Go.Abs.Sha
namespace Go.Abs.Sha
open Go Go.Abs
set_option linter.unusedVariables false
set_option linter.unusedSimpArgs false
def byV:V→Option (List Int)
 | .sli .u8 xs=>some xs
 | .nils=>some []
 |_=>none
theorem byV_cases {x:V} {b:List Int} (h:byV x=some b):x= .sli .u8 b∨(x= .nils∧b=[]):=by
 unfold byV at h
 split at h
 ·left;cases h;rfl
 ·right;cases h;exact⟨rfl,rfl⟩
 ·cases h
def catL:List V→Option (List Int)
 |[]=>some []
 |x::l=>match byV x,catL l with
  |some a,some b=>some (a++b)
  |_,_=>none
def partsV:V→Option (List Int)
 | .sle 1 l=>catL l
 | .nils=>some []
 |_=>none
theorem catL_cons {x:V} {l:List V} {b:List Int} (h:catL (x::l)=some b):∃a c,byV x=some a∧catL l=some c∧b=a++c:=by
 unfold catL at h
 cases ha:byV x with
 |none=>rw[ha]at h;cases h
 |some a=>
  cases hc:catL l with
  |none=>rw[ha,hc]at h;cases h
  |some c=>rw[ha,hc]at h;cases h;exact⟨a,c,rfl,rfl,rfl⟩
theorem partsV_cases {x:V} {b:List Int} (h:partsV x=some b):(∃l,x= .sle 1 l∧catL l=some b)∨(x= .nils∧b=[]):=by
 unfold partsV at h
 split at h
 ·left;exact⟨_,rfl,h⟩
 ·right;cases h;exact⟨rfl,rfl⟩
 ·cases h
def rowV:V→Option (List V)
 | .sle 1 l=>some l
 | .nils=>some []
 |_=>none
def catP:List V→Option (List V)
 |[]=>some []
 |x::l=>match rowV x,catP l with
  |some a,some b=>some (a++b)
  |_,_=>none
theorem catP_cons {x:V} {l b:List V} (h:catP (x::l)=some b):∃a c,rowV x=some a∧catP l=some c∧b=a++c:=by
 unfold catP at h
 cases ha:rowV x with
 |none=>rw[ha]at h;cases h
 |some a=>
  cases hc:catP l with
  |none=>rw[ha,hc]at h;cases h
  |some c=>rw[ha,hc]at h;cases h;exact⟨a,c,rfl,rfl,rfl⟩
theorem rowV_cases {x:V} {b:List V} (h:rowV x=some b):x= .sle 1 b∨(x= .nils∧b=[]):=by
 unfold rowV at h
 split at h
 ·left;cases h;rfl
 ·right;cases h;exact⟨rfl,rfl⟩
 ·cases h
theorem catL_mk {x:V} {l:List V} {a c:List Int} (h1:byV x=some a) (h2:catL l=some c):catL (x::l)=some (a++c):=by
 unfold catL;rw[h1,h2]
theorem catP_mk {x:V} {l a c:List V} (h1:rowV x=some a) (h2:catP l=some c):catP (x::l)=some (a++c):=by
 unfold catP;rw[h1,h2]
theorem byV_u8 (b:List Int):byV (.sli .u8 b)=some b:=rfl
theorem rowV_sle (l:List V):rowV (.sle 1 l)=some l:=rfl
def lenB (n i:Nat):Int:=((8*n / 2 ^ (8*i)) % 256:Nat)
def lens (n:Nat):List Int:=[lenB n 7,lenB n 6,lenB n 5,lenB n 4,lenB n 3,lenB n 2,lenB n 1,lenB n 0]
def ending (n:Nat):List Int:=128::(List.replicate ((119-n % 64) % 64) 0++lens n)
def fillB (b:List Int):List Int:=b++ending b.length
theorem lens_len (n:Nat):(lens n).length=8:=rfl
theorem ending_len (n:Nat):(ending n).length=9+(119-n % 64) % 64:=by simp[ending,lens_len];omega
theorem fillB_len (b:List Int):(fillB b).length=64*((b.length+8) / 64+1):=by
 simp only[fillB,List.length_append,ending_len];omega
theorem byt_app {a b:List Int} (ha:Byt a) (hb:Byt b):Byt (a++b):=fun x hx=>by
 rcases List.mem_append.1 hx with h|h
 ·exact ha x h
 ·exact hb x h
theorem byt_nil:Byt []:=fun x h=>by cases h
theorem byt_cons {x:Int} {b:List Int} (hx:0≤x∧x≤255) (hb:Byt b):Byt (x::b):=fun y hy=>by
 rcases List.mem_cons.1 hy with rfl|h
 ·exact hx
 ·exact hb y h
theorem byt_rep (n:Nat):Byt (List.replicate n 0):=fun x hx=>by
 obtain⟨_,rfl⟩:=List.mem_replicate.1 hx;omega
theorem byt_take {b:List Int} (h:Byt b) (n:Nat):Byt (b.take n):=fun x hx=>h x (List.mem_of_mem_take hx)
theorem byt_drop {b:List Int} (h:Byt b) (n:Nat):Byt (b.drop n):=fun x hx=>h x (List.mem_of_mem_drop hx)
theorem lenB_by (n i:Nat):0≤lenB n i∧lenB n i≤255:=by unfold lenB;omega
theorem byt_lens (n:Nat):Byt (lens n):=by
 unfold lens
 exact byt_cons (lenB_by _ _) (byt_cons (lenB_by _ _) (byt_cons (lenB_by _ _) (byt_cons (lenB_by _ _) (byt_cons (lenB_by _ _) (byt_cons (lenB_by _ _) (byt_cons (lenB_by _ _) (byt_cons (lenB_by _ _) byt_nil)))))))
theorem byt_fill {b:List Int} (h:Byt b):Byt (fillB b):=
 byt_app h (byt_cons (by omega) (byt_app (byt_rep _) (byt_lens _)))
theorem lenB_eq {n:Nat} (hn:n < 1000000000000000000) {i:Nat} (hi:8*i≤64):
  IntKind.u8.wrap ((IntKind.u64.wrap (IntKind.u64.wrap (n:Int)*8)).fdiv (2 ^ min (8*i) 64))=lenB n i:=by
 have e1:IntKind.u64.wrap (n:Int)=n:=by simp only[IntKind.wrap,IntKind.bits,IntKind.signed];simp;omega
 have e2:IntKind.u64.wrap ((n:Int)*8)=((8*n:Nat):Int):=by simp only[IntKind.wrap,IntKind.bits,IntKind.signed];simp;omega
 rw[e1,e2,Nat.min_eq_left hi,Int.fdiv_eq_ediv_of_nonneg _ (by have:(0:Int) < 2 ^ (8*i):=Int.pow_pos (by decide);omega)]
 have e3:((8*n:Nat):Int) / 2 ^ (8*i)=((8*n / 2 ^ (8*i):Nat):Int):=by simp
 rw[e3]
 unfold lenB
 generalize 8*n / 2 ^ (8*i)=q
 simp only[IntKind.wrap,IntKind.bits,IntKind.signed];simp
def iter (k f s:List Int):Nat→List Int
 |0=>s
 |i+1=>block k (iter k f s i) ((f.drop (64*i)).take 64)
theorem block_ok {k s b:List Int}:(block k s b).length=8∧∀x∈block k s b,Wd x:=by
 refine⟨rfl,fun x hx=> ?_⟩
 simp only[block,List.mem_cons,List.not_mem_nil,or_false]at hx
 rcases hx with h|h|h|h|h|h|h|h<;>rw[h]<;>exact wd_mod _
theorem iter_ok {k f s:List Int} (hl:s.length=8) (hs:∀x∈s,Wd x):∀i,(iter k f s i).length=8∧∀x∈iter k f s i,Wd x
 |0=>⟨hl,hs⟩
 |i+1=>block_ok
def start8:List Int:=[1779033703,3144134277,1013904242,2773480762,1359893119,2600822924,528734635,1541459225]
theorem start8_ok:∀x∈start8,Wd x:=by
 intro x hx
 simp only[start8,List.mem_cons,List.not_mem_nil,or_false]at hx
 unfold Wd
 omega
def octOf (x:Int) (i:Nat):Int:=(x / 2 ^ (24-8*i)) % 256
theorem octOf_eq {x:Int} (h:Wd x):IntKind.u8.wrap (x.fdiv (2 ^ min 24 32))=octOf x 0∧IntKind.u8.wrap (x.fdiv (2 ^ min 16 32))=octOf x 1∧IntKind.u8.wrap (x.fdiv (2 ^ min 8 32))=octOf x 2∧IntKind.u8.wrap x=octOf x 3:=by
 unfold Wd at h
 have e:∀n:Nat,x.fdiv (2 ^ n)=x / 2 ^ n:=fun n=>Int.fdiv_eq_ediv_of_nonneg _ (by have:(0:Int) < 2 ^ n:=Int.pow_pos (by decide);omega)
 have w8:∀y:Int,IntKind.u8.wrap y=y % 256:=fun y=>by simp[IntKind.wrap,IntKind.bits,IntKind.signed]
 refine⟨?_,?_,?_,?_⟩
 ·rw[show min 24 32=24 from rfl,e,w8];rfl
 ·rw[show min 16 32=16 from rfl,e,w8];rfl
 ·rw[show min 8 32=8 from rfl,e,w8];rfl
 ·rw[w8];unfold octOf;rw[show (2:Int) ^ (24-8*3)=1 from rfl,Int.ediv_one]
def bytes4 (x:Int):List Int:=[octOf x 0,octOf x 1,octOf x 2,octOf x 3]
def sumB (k b:List Int):List Int:=(iter k (fillB b) start8 ((b.length+8) / 64+1)).flatMap bytes4
theorem flat_len:∀l:List Int,(l.flatMap bytes4).length=4*l.length
 |[]=>rfl
 |x::l=>by rw[List.flatMap_cons,List.length_append,flat_len l];simp[bytes4];omega
theorem sumB_len (k b:List Int):(sumB k b).length=32:=by
 unfold sumB;rw[flat_len,(iter_ok rfl start8_ok _).1]
theorem octOf_by (x:Int) (i:Nat):0≤octOf x i∧octOf x i≤255:=by unfold octOf;omega
theorem byt_sum (k b:List Int):Byt (sumB k b):=fun x hx=>by
 obtain⟨w,_,h⟩:=List.mem_flatMap.1 hx
 simp only[bytes4,List.mem_cons,List.not_mem_nil,or_false]at h
 rcases h with h|h|h|h<;>rw[h]<;>exact octOf_by _ _
/-! ### sums with a key -/
def keyB (k key:List Int):List Int:=if key.length > 64 then sumB k key++List.replicate 32 0 else key++List.replicate (64-key.length) 0
theorem keyB_len (k key:List Int):(keyB k key).length=64:=by
 unfold keyB;split<;>simp[sumB_len]
 omega
def turnB (b:List Int) (c:Int):List Int:=b.map fun x=>bXor .u8 x c
theorem xor8_by (x c:Int):0≤bXor .u8 x c∧bXor .u8 x c≤255:=by
 unfold bXor
 rw[show IntKind.u8.bits=8 from rfl]
 generalize (BitVec.ofInt 8 x ^^^ BitVec.ofInt 8 c)=b
 have:=b.isLt
 simp only[IntKind.wrap,IntKind.bits,IntKind.signed];simp
 omega
theorem byt_turn (b:List Int) (c:Int):Byt (turnB b c):=fun x hx=>by
 obtain⟨y,_,rfl⟩:=List.mem_map.1 hx
 exact xor8_by _ _
theorem turnB_len (b:List Int) (c:Int):(turnB b c).length=b.length:=List.length_map ..
theorem map_step {f:Int→Int} {b:List Int} {i:Nat} (h:i < b.length):((b.map f).take i++b.drop i).set i (f (((b.map f).take i++b.drop i).getD i 0))=(b.map f).take (i+1)++b.drop (i+1):=by
 obtain⟨b1,x,b2,rfl,hl⟩:∃b1 x b2,b=b1++x::b2∧b1.length=i:=⟨b.take i,b[i],b.drop (i+1),by simp,by simp;omega⟩
 subst hl
 have e1:(b1.map f).take (b1.length+1)=b1.map f:=List.take_of_length_le (by simp)
 have e2:b1.drop (b1.length+1)=[]:=List.drop_eq_nil_of_le (by omega)
 simp[List.take_append,List.drop_append,List.set_append,List.getD_eq_getElem?_getD,List.getElem?_append,e1,e2]
theorem snoc_step {f:Int→Int} {b:List Int} {i:Nat} (h:i < b.length):(b.map f).take i++[f (b.getD i 0)]=(b.map f).take (i+1):=by
 rw[List.take_add_one,List.getElem?_map,List.getD_eq_getElem?_getD,List.getElem?_eq_getElem h];rfl
theorem snoc_step' {b:List Int} {i:Nat} (h:i < b.length):b.take i++[b.getD i 0]=b.take (i+1):=by
 rw[List.take_add_one,List.getD_eq_getElem?_getD,List.getElem?_eq_getElem h];rfl
/-! bytes held against each other -/
theorem b8 {x:Int} (h:0≤x∧x≤255):∃b:BitVec 8,x=b.toNat:=⟨BitVec.ofNat 8 x.toNat,by rw[BitVec.toNat_ofNat];omega⟩
theorem wrap8_toNat (b:BitVec 8):IntKind.u8.wrap (b.toNat:Int)=b.toNat:=by
 have:=b.isLt
 simp only[IntKind.wrap,IntKind.bits,IntKind.signed];simp;omega
theorem ofInt8_toNat (b:BitVec 8):BitVec.ofInt 8 (b.toNat:Int)=b:=by
 rw[BitVec.ofInt_natCast,BitVec.ofNat_toNat];simp
theorem or8_b (a b:BitVec 8):bOr .u8 a.toNat b.toNat=(a |||b).toNat:=by
 show IntKind.u8.wrap ((BitVec.ofInt 8 (a.toNat:Int)|||BitVec.ofInt 8 (b.toNat:Int)).toNat)=_
 rw[ofInt8_toNat,ofInt8_toNat,wrap8_toNat]
theorem xor8_b (a b:BitVec 8):bXor .u8 a.toNat b.toNat=(a ^^^ b).toNat:=by
 show IntKind.u8.wrap ((BitVec.ofInt 8 (a.toNat:Int) ^^^ BitVec.ofInt 8 (b.toNat:Int)).toNat)=_
 rw[ofInt8_toNat,ofInt8_toNat,wrap8_toNat]
theorem or8_by (x c:Int):0≤bOr .u8 x c∧bOr .u8 x c≤255:=by
 unfold bOr
 rw[show IntKind.u8.bits=8 from rfl]
 generalize (BitVec.ofInt 8 x |||BitVec.ofInt 8 c)=b
 have:=b.isLt
 simp only[IntKind.wrap,IntKind.bits,IntKind.signed];simp
 omega
theorem unlike_step {u x y:Int} (hu:0≤u∧u≤255) (hx:0≤x∧x≤255) (hy:0≤y∧y≤255):bOr .u8 u (bXor .u8 x y)=0↔u=0∧x=y:=by
 obtain⟨a,rfl⟩:=b8 hu
 obtain⟨b,rfl⟩:=b8 hx
 obtain⟨c,rfl⟩:=b8 hy
 rw[xor8_b,or8_b]
 have e:∀z:BitVec 8,((z.toNat:Int)=0↔z=0#8):=fun z=>by
  constructor
  ·intro h;apply BitVec.eq_of_toNat_eq;simpa using h
  ·intro h;subst h;rfl
 rw[e,e,BitVec.or_eq_zero_iff,BitVec.xor_eq_zero_iff]
 constructor
 ·rintro⟨h1,h2⟩;exact⟨h1,by rw[h2]⟩
 ·rintro⟨h1,h2⟩;exact⟨h1,BitVec.eq_of_toNat_eq (by omega)⟩
def macB (k key text:List Int):List Int:=sumB k (turnB (keyB k key) 92++sumB k (turnB (keyB k key) 54++text))
theorem macB_len (k key text:List Int):(macB k key text).length=32:=sumB_len _ _
theorem byt_mac (k key text:List Int):Byt (macB k key text):=byt_sum _ _
def seedB (i:Int):List Int:=[116,105,116,104,105,110,103,32,107,101,121,32]++[IntKind.u8.wrap i]
def zero32:List Int:=[0,0,0,0,0,0,0,0,0,0,0,0,0,0,0,0,0,0,0,0,0,0,0,0,0,0,0,0,0,0,0,0]
def keyH (k:List Int) (i:Int):List Int:=if 1≤i∧i≤21 then sumB k (seedB i)else zero32
def tagH (k:List Int) (i d:Int) (b:List Int):List Int:=if 1≤i∧i≤21 then macB k (keyH k i) ([d]++b)else zero32
theorem byt_zero:Byt zero32:=byt_rep 32
theorem keyH_len (k:List Int) (i:Int):(keyH k i).length=32:=by unfold keyH;split;exact sumB_len _ _;rfl
theorem byt_keyH (k:List Int) (i:Int):Byt (keyH k i):=by unfold keyH;split;exact byt_sum _ _;exact byt_zero
theorem tagH_len (k:List Int) (i d:Int) (b:List Int):(tagH k i d b).length=32:=by unfold tagH;split;exact macB_len _ _ _;rfl
theorem byt_tagH (k:List Int) (i d:Int) (b:List Int):Byt (tagH k i d b):=by unfold tagH;split;exact byt_mac _ _ _;exact byt_zero
theorem u8_by (i:Int):0≤IntKind.u8.wrap i∧IntKind.u8.wrap i≤255:=by
 simp only[IntKind.wrap,IntKind.bits,IntKind.signed];simp;omega
theorem byt_seed (i:Int):Byt (seedB i):=by
 refine byt_app ?_ (byt_cons (u8_by i) byt_nil)
 intro x hx
 simp only[List.mem_cons,List.not_mem_nil,or_false]at hx
 omega
end Go.Abs.Sha
namespace Go.Proofs.YtjbglbhcbenhpaaDoor.Sha
open Go Go.Abs Go.Abs.Sha
set_option linter.unusedSimpArgs false
set_option linter.unusedVariables false
set_option maxRecDepth 100000
def pf133:PF:=
 PF.mk 0 1 2 ((PC.reg [nn (.v 0) (.alloc (.arr .u32 8 [0,0,0,0,0,0,0,0]))]).seq ((PC.reg [nn (.t 1) (.build (.arr .u32 8 [0,0,0,0,0,0,0,
  0]) [(0,.c (.v (.int .u32 1779033703))),(1,.c (.v (.int .u32 3144134277))),(2,.c (.v (.int .u32 1013904242))),(3,.c (.v (.int .u32
  2773480762))),(4,.c (.v (.int .u32 1359893119))),(5,.c (.v (.int .u32 2600822924))),(6,.c (.v (.int .u32 528734635))),(7,.c (.v (.int .u32
  1541459225)))]),nn .no (.store 8 (.v 0) (.t 1))]).seq PC.ret)) [(.v 0,some (8,true))]
def lp139_0:PC:=
 ((PC.reg [mm 11 4,nn (.t 12) (.bin .geq (.t 11) (.c (.v (.int .i64 0))))]).seq (PC.cond (.t 12) PC.skip (PC.exit 0))).seq ((PC.block 1 (PC.reg [nn (.t
  15) (.mv true (.v 3)),mm 16 0,nn (.t 17) (.conv .u64 (.t 16)),nn (.t 18) (.bin .mul (.t 17) (.c (.v (.int .u64 8)))),mm 19 4,nn (.t 20) (.bin
  .mul (.c (.v (.int .i64 8))) (.t 19)),nn (.t 21) (.bin .shr (.t 18) (.t 20)),nn (.t 22) (.conv .u8 (.t 21)),nn (.t 23) (.buildS (some .u8) 1 (.int
  .u8 0) 1 [(0,.t 22)]),nn (.t 24) (.app (some .u8) 1 1 (.t 15) (.t 23)),ma 3 24])).seq (PC.reg [mm 13 4,nn (.t 14) (.bin .sub (.t 13) (.c (.v
  (.int .i64 1)))),ma 4 14]))
def pf139:PF:=
 PF.mk 1 5 26 ((PC.reg [nn (.v 2) (.mv true (.c (.own .nils)))]).seq ((PC.reg [nn (.t 5) (.buildS (some .u8) 1 (.int .u8 0) 1 [(0,.c (.v (.int .u8
  128)))]),mm 6 0,nn (.t 7) (.bin .rem (.t 6) (.c (.v (.int .i64 64)))),nn (.t 8) (.bin .sub (.c (.v (.int .i64 119))) (.t 7)),nn (.t 9) (.bin .rem
  (.t 8) (.c (.v (.int .i64 64)))),nn (.t 10) (.appZ (some .u8) 1 1 (.int .u8 0) (.t 5) (.t 9)),ma 3 10]).seq (((PC.reg [nn (.v 4) (.mv true (.c (.v
  (.int .i64 7))))]).seq (PC.block 0 (PC.loop [0,3,4] lp139_0))).seq ((PC.reg [nn (.t 25) (.mv true (.v 3)),ma 2 25]).seq PC.ret)))) [(.v 2,none)]
def pf134:PF:=
 PF.mk 1 4 15 ((PC.reg [nn (.v 2) (.mv true (.c (.own .nils)))]).seq ((PC.reg [mm 4 0,nn (.t 5) (.len (.t 4)),nn (.t 6) (.bin .add (.t 5) (.c (.v
  (.int .i64 128)))),nn (.t 7) (.mkS (some .u8) 1 1 (.int .u8 0) (.c (.v (.int .i64 0))) (.t 6)),ma 3 7]).seq ((PC.reg [nn (.t 8) (.mv true (.v 3)),
  mm 9 0,nn (.t 10) (.app (some .u8) 1 1 (.t 8) (.t 9)),mm 11 0,nn (.t 12) (.len (.t 11)),nn (.t 13) (.call 139 [.t 12]),nn (.t 14) (.app (some
  .u8) 1 1 (.t 10) (.t 13)),ma 2 14]).seq PC.ret))) [(.v 2,none)]
def lp137_0:PC:=
 ((PC.reg [mm 10 3,nn (.t 11) (.len (.t 10)),nn (.t 12) (.bin .rem (.t 11) (.c (.v (.int .i64 64)))),nn (.t 13) (.bin .neq (.t 12) (.c (.v (.int .i64
  56))))]).seq (PC.cond (.t 13) PC.skip (PC.exit 0))).seq (PC.block 1 (PC.reg [nn (.t 14) (.mv true (.v 3)),nn (.t 15) (.buildS (some .u8) 1 (.int .u8
  0) 1 [(0,.c (.v (.int .u8 0)))]),nn (.t 16) (.app (some .u8) 1 1 (.t 14) (.t 15)),ma 3 16]))
def pf137:PF:=
 PF.mk 1 5 47 ((PC.reg [nn (.v 2) (.mv true (.c (.own .nils)))]).seq ((PC.reg [nn (.t 5) (.buildS (some .u8) 1 (.int .u8 0) 0 []),mm 6 0,nn (.t 7)
  (.app (some .u8) 1 1 (.t 5) (.t 6)),nn (.t 8) (.buildS (some .u8) 1 (.int .u8 0) 1 [(0,.c (.v (.int .u8 128)))]),nn (.t 9) (.app (some .u8) 1 1
  (.t 7) (.t 8)),ma 3 9]).seq ((PC.block 0 (PC.loop [0,3] lp137_0)).seq ((PC.reg [mm 17 0,nn (.t 18) (.len (.t 17)),nn (.t 19) (.conv .u64 (.t
  18)),nn (.t 20) (.bin .mul (.t 19) (.c (.v (.int .u64 8)))),ma 4 20]).seq ((PC.reg [nn (.t 21) (.mv true (.v 3)),mm 22 4,nn (.t 23) (.bin .shr
  (.t 22) (.c (.v (.int .u64 56)))),nn (.t 24) (.conv .u8 (.t 23)),mm 25 4,nn (.t 26) (.bin .shr (.t 25) (.c (.v (.int .u64 48)))),nn (.t 27)
  (.conv .u8 (.t 26)),mm 28 4,nn (.t 29) (.bin .shr (.t 28) (.c (.v (.int .u64 40)))),nn (.t 30) (.conv .u8 (.t 29)),mm 31 4,nn (.t 32) (.bin .shr
  (.t 31) (.c (.v (.int .u64 32)))),nn (.t 33) (.conv .u8 (.t 32)),mm 34 4,nn (.t 35) (.bin .shr (.t 34) (.c (.v (.int .u64 24)))),nn (.t 36)
  (.conv .u8 (.t 35)),mm 37 4,nn (.t 38) (.bin .shr (.t 37) (.c (.v (.int .u64 16)))),nn (.t 39) (.conv .u8 (.t 38)),mm 40 4,nn (.t 41) (.bin .shr
  (.t 40) (.c (.v (.int .u64 8)))),nn (.t 42) (.conv .u8 (.t 41)),mm 43 4,nn (.t 44) (.conv .u8 (.t 43)),nn (.t 45) (.buildS (some .u8) 1 (.int .u8
  0) 8 [(0,.t 24),(1,.t 27),(2,.t 30),(3,.t 33),(4,.t 36),(5,.t 39),(6,.t 42),(7,.t 44)]),nn (.t 46) (.app (some .u8) 1 1 (.t 21) (.t
  45)),ma 2 46]).seq PC.ret))))) [(.v 2,none)]
attribute [local irreducible] W Wops WopsD WL Wop WopD
variable {E:Env} {C:Abs.Spec} {l:List (Nat×Spec1)} {G:List (Nat×V)} {Q:R→List (Nat×V)→Prop}
set_option maxHeartbeats 1000000
def SSt:Spec1
 |[],G,Q=>Q (.v (.arr .u32 8 start8)) G
 |_,_,_=>False
theorem SSt_eq {G:List (Nat×V)} {Q:R→List (Nat×V)→Prop}:SSt [] G Q=(Q (.v (.arr .u32 8 start8)) G):=rfl
def SEn:Spec1
 |[.int .i64 n],G,Q=>(0≤n∧n < 100000000000000)∧Q (.own (.sli .u8 (ending n.toNat))) G
 |_,_,_=>False
theorem SEn_eq {n}:SEn [.int .i64 n] G Q=((0≤n∧n < 100000000000000)∧Q (.own (.sli .u8 (ending n.toNat))) G):=rfl
def SFi:Spec1
 |[x],G,Q=>∃b,(byV x=some b∧b.length < 100000000000000)∧Q (.own (.sli .u8 (fillB b))) G
 |_,_,_=>False
theorem SFi_eq {x}:SFi [x] G Q=(∃b,(byV x=some b∧b.length < 100000000000000)∧Q (.own (.sli .u8 (fillB b))) G):=rfl
theorem walk133 (h:Q (.v (.arr .u32 8 start8)) G):Wf E C pf133 [] G Q:=by
 simp (maxSteps:=1000000) (implicitDefEqProofs:=false) only[pf133,go_sem,↓reduceIte]
 exact h
theorem walk139 {n:Nat} (hn:n < 100000000000000) (h:Q (.own (.sli .u8 (ending n))) G):Wf E C pf139 [.int .i64 n] G Q:=by
 have e1:(n:Int).tmod 64=((n % 64:Nat):Int):=by rw[Int.tmod_eq_emod_of_nonneg (by omega)];simp
 have e2:IntKind.i64.wrap (119-((n % 64:Nat):Int))=((119-n % 64:Nat):Int):=by rw[w64 (by omega) (by omega)];omega
 have e3:((119-n % 64:Nat):Int).tmod 64=(((119-n % 64) % 64:Nat):Int):=by rw[Int.tmod_eq_emod_of_nonneg (by omega)];simp
 have l0:=lenB_eq (n:=n) (by omega) (i:=0) (by omega)
 have l1:=lenB_eq (n:=n) (by omega) (i:=1) (by omega)
 have l2:=lenB_eq (n:=n) (by omega) (i:=2) (by omega)
 have l3:=lenB_eq (n:=n) (by omega) (i:=3) (by omega)
 have l4:=lenB_eq (n:=n) (by omega) (i:=4) (by omega)
 have l5:=lenB_eq (n:=n) (by omega) (i:=5) (by omega)
 have l6:=lenB_eq (n:=n) (by omega) (i:=6) (by omega)
 have l7:=lenB_eq (n:=n) (by omega) (i:=7) (by omega)
 simp only[Nat.reduceMul]at l0 l1 l2 l3 l4 l5 l6 l7
 simp (maxSteps:=1000000) (implicitDefEqProofs:=false) only[pf139,e1,e2,e3,go_sem,↓reduceIte]
 have hd:ending n=128::(List.replicate ((119-n % 64) % 64) 0++lens n):=rfl
 have hz:(((119-n % 64) % 64:Nat):Int).toNat=(119-n % 64) % 64:=Int.toNat_natCast _
 rw[hz]
 have hzl:(List.replicate ((119-n % 64) % 64) (0:Int)).length=(119-n % 64) % 64:=List.length_replicate
 generalize hzs:List.replicate ((119-n % 64) % 64) (0:Int)=zs at*
 have hzb:zs.length < 64:=by omega
 refine⟨⟨by omega,by omega⟩,9,?_⟩
 simp (maxSteps:=1000000) (implicitDefEqProofs:=false) only[go_sem,↓reduceIte]
 iterate 8
  refine WL_in lp139_0.eq_1 ?_
  simp (maxSteps:=1000000) (implicitDefEqProofs:=false) (disch:=omega) only[l0,l1,l2,l3,l4,l5,l6,l7,go_sem,↓reduceIte,w64]
  refine⟨by omega,?_⟩
 refine WL_in lp139_0.eq_1 ?_
 simp (maxSteps:=1000000) (implicitDefEqProofs:=false) (disch:=omega) only[l0,l1,l2,l3,l4,l5,l6,l7,go_sem,↓reduceIte,w64]
 rw[hd]at h
 simpa only[lens,List.append_assoc,List.cons_append,List.nil_append]using h
theorem walk134 {x:V} {b:List Int} (h76:Abs.look l 139=some SEn) (hx:byV x=some b) (hb:b.length < 100000000000000) (h:Q (.own (.sli .u8 (fillB b))) G):Wf E (specOf l) pf134 [x] G Q:=by
 have e1:IntKind.i64.wrap ((b.length:Int)+128)=((b.length+128:Nat):Int):=by rw[w64 (by omega) (by omega)];simp
 have hl:(ending b.length).length=9+(119-b.length % 64) % 64:=ending_len _
 rcases byV_cases hx with rfl|⟨rfl,rfl⟩
 ·simp (maxSteps:=1000000) (implicitDefEqProofs:=false) only[pf134,h76,SEn_eq,e1,Int.toNat_natCast,go_sem,↓reduceIte]
  refine⟨⟨by omega,by omega⟩,by omega,⟨by omega,by omega⟩,by omega,?_⟩
  exact h
 ·simp (maxSteps:=1000000) (implicitDefEqProofs:=false) only[pf134,h76,SEn_eq,e1,Int.toNat_natCast,go_sem,↓reduceIte]
  exact⟨⟨by decide,by decide⟩,by decide,h⟩
theorem loop137 {x:V} {b:List Int} {QQ:Ex→St→Prop} (hb:b.length < 100000000000000)
  (hx:∀ts,QQ (.exit 0) ⟨[some (.v x),none,none,some (.own (.sli .u8 (b++128::List.replicate ((119-b.length % 64) % 64) 0))),none],ts,[],G⟩):
  ∀(m j:Nat),j+m=(119-b.length % 64) % 64→WL (W E C lp137_0) [0,3] QQ (m+1) ⟨[some (.v x),none,none,some (.own (.sli .u8 (b++128::List.replicate j 0))),none],[],[],G⟩:=by
 intro m
 induction m with
 |zero=>
  intro j hj
  obtain rfl:j=(119-b.length % 64) % 64:=by omega
  refine WL_in lp137_0.eq_1 ?_
  have e:(((b++128::List.replicate ((119-b.length % 64) % 64) 0).length:Nat):Int).tmod 64=56:=by
   rw[Int.tmod_eq_emod_of_nonneg (by omega)];simp only[List.length_append,List.length_cons,List.length_replicate];omega
  generalize hc:b++128::List.replicate ((119-b.length % 64) % 64) 0=c at*
  simp (maxSteps:=1000000) (implicitDefEqProofs:=false) only[e,go_sem,↓reduceIte]
  exact hx _
 |succ m ih=>
  intro j hj
  refine WL_in lp137_0.eq_1 ?_
  have e:(((b++128::List.replicate j 0).length:Nat):Int).tmod 64≠56:=by
   rw[Int.tmod_eq_emod_of_nonneg (by omega)];simp only[List.length_append,List.length_cons,List.length_replicate];omega
  have e2:(b++128::List.replicate j 0)++[(0:Int)]=b++128::List.replicate (j+1) 0:=by
   rw[List.append_assoc,List.replicate_succ'];rfl
  have hh:=ih (j+1) (by omega)
  rw[←e2]at hh
  generalize hc:b++128::List.replicate j 0=c at*
  have hcl:c.length=b.length+(j+1):=by rw[←hc];simp
  simp (maxSteps:=1000000) (implicitDefEqProofs:=false) only[e,go_sem,↓reduceIte]
  exact⟨by omega,hh⟩
theorem walk137 {x:V} {b:List Int} (hx:byV x=some b) (hb:b.length < 100000000000000) (h:Q (.own (.sli .u8 (fillB b))) G):Wf E C pf137 [x] G Q:=by
 have l0:=lenB_eq (n:=b.length) (by omega) (i:=0) (by omega)
 have l1:=lenB_eq (n:=b.length) (by omega) (i:=1) (by omega)
 have l2:=lenB_eq (n:=b.length) (by omega) (i:=2) (by omega)
 have l3:=lenB_eq (n:=b.length) (by omega) (i:=3) (by omega)
 have l4:=lenB_eq (n:=b.length) (by omega) (i:=4) (by omega)
 have l5:=lenB_eq (n:=b.length) (by omega) (i:=5) (by omega)
 have l6:=lenB_eq (n:=b.length) (by omega) (i:=6) (by omega)
 have l7:=lenB_eq (n:=b.length) (by omega) (i:=7) (by omega)
 simp only[Nat.reduceMul]at l0 l1 l2 l3 l4 l5 l6 l7
 rw[show (2:Int) ^ min 0 64=1 from rfl,Int.fdiv_one]at l0
 rcases byV_cases hx with rfl|⟨rfl,rfl⟩
 rotate_left
 ·simp (maxSteps:=1000000) (implicitDefEqProofs:=false) only[pf137,go_sem,↓reduceIte]
  refine⟨56,?_⟩
  simp (maxSteps:=1000000) (implicitDefEqProofs:=false) only[go_sem,↓reduceIte]
  refine loop137 (b:=[]) (by decide) (fun ts=> ?_) 55 0 (by decide)
  simp (maxSteps:=1000000) (implicitDefEqProofs:=false) only[go_sem,↓reduceIte]
  exact h
 simp (maxSteps:=1000000) (implicitDefEqProofs:=false) only[pf137,go_sem,↓reduceIte]
 refine⟨by omega,by omega,(119-b.length % 64) % 64+1,?_⟩
 simp (maxSteps:=1000000) (implicitDefEqProofs:=false) only[go_sem,↓reduceIte]
 refine loop137 hb (fun ts=> ?_) ((119-b.length % 64) % 64) 0 (by omega)
 have hzl:(List.replicate ((119-b.length % 64) % 64) (0:Int)).length=(119-b.length % 64) % 64:=List.length_replicate
 have hd:fillB b=b++128::(List.replicate ((119-b.length % 64) % 64) 0++lens b.length):=rfl
 generalize hzs:List.replicate ((119-b.length % 64) % 64) (0:Int)=zs at*
 have hzb:zs.length < 64:=by omega
 simp (maxSteps:=1000000) (implicitDefEqProofs:=false) only[l0,l1,l2,l3,l4,l5,l6,l7,go_sem,↓reduceIte]
 refine⟨by omega,?_⟩
 rw[hd]at h
 simpa only[lens,List.append_assoc,List.cons_append,List.nil_append]using h
end Go.Proofs.YtjbglbhcbenhpaaDoor.Sha
namespace Go.Proofs.YtjbglbhcbenhpaaDoor.Sha
open Go Go.Abs Go.Abs.Sha
set_option linter.unusedSimpArgs false
set_option linter.unusedVariables false
set_option maxRecDepth 100000
def lp123_0:PC:=
 (PC.reg [nn (.t 37) (.bin .lss (.v 36) (.c (.v (.int .i64 8))))]).seq ((PC.cond (.t 37) PC.skip (PC.exit 4)).seq ((PC.block 5 ((PC.reg [mm 38 36,nn
  (.t 39) (.idxA 8 (.v 35) (.v 36)),ma 9 38,ma 10 39]).seq (PC.reg [mm 40 9,nn (.t 41) (.bin .mul (.c (.v (.int .i64 4))) (.t 40)),mm 42 9,nn (.t
  43) (.bin .mul (.c (.v (.int .i64 4))) (.t 42)),nn (.t 44) (.bin .add (.t 43) (.c (.v (.int .i64 1)))),mm 45 9,nn (.t 46) (.bin .mul (.c (.v (.int
  .i64 4))) (.t 45)),nn (.t 47) (.bin .add (.t 46) (.c (.v (.int .i64 2)))),mm 48 9,nn (.t 49) (.bin .mul (.c (.v (.int .i64 4))) (.t 48)),nn (.t
  50) (.bin .add (.t 49) (.c (.v (.int .i64 3)))),mm 51 10,nn (.t 52) (.bin .shr (.t 51) (.c (.v (.int .u64 24)))),nn (.t 53) (.conv .u8 (.t 52)),
  mm 54 10,nn (.t 55) (.bin .shr (.t 54) (.c (.v (.int .u64 16)))),nn (.t 56) (.conv .u8 (.t 55)),mm 57 10,nn (.t 58) (.bin .shr (.t 57) (.c (.v
  (.int .u64 8)))),nn (.t 59) (.conv .u8 (.t 58)),mm 60 10,nn (.t 61) (.conv .u8 (.t 60)),nn (.t 62) (.iadrA 32 (.v 8) (.t 41)),nn .no (.store 1
  (.t 62) (.t 53)),nn (.t 63) (.iadrA 32 (.v 8) (.t 44)),nn .no (.store 1 (.t 63) (.t 56)),nn (.t 64) (.iadrA 32 (.v 8) (.t 47)),nn .no (.store 1
  (.t 64) (.t 59)),nn (.t 65) (.iadrA 32 (.v 8) (.t 50)),nn .no (.store 1 (.t 65) (.t 61))]))).seq (PC.reg [nn (.t 66) (.bin .add (.v 36) (.c (.v
  (.int .i64 1)))),nn (.v 36) (.mv false (.t 66))])))
def lp123_1:PC:=
 ((PC.reg [nn (.v 24) (.mv false (.v 7)),nn (.v 25) (.len (.v 24)),nn (.v 26) (.bin .gtr (.v 25) (.c (.v (.int .i64 0))))]).seq (PC.cond (.v 26)
  PC.skip (PC.exit 2))).seq ((PC.block 3 (PC.regD 0 [nn (.v 29) (.load 8 true (.v 6)),nn (.v 30) (.mv false (.v 7)),nn (.v 31) (.slcS 1 (.v 30) none
  (some (.c (.v (.int .i64 64)))) none),nn (.v 32) (.s2a 64 (.v 31)),nn (.v 33) (.load 64 true (.v 32)),nn (.v 34) (.call 135 [.v 29,.v 33]),nn
  .no (.store 8 (.v 6) (.v 34))] [])).seq (PC.reg [nn (.v 27) (.mv false (.v 7)),nn (.v 28) (.slcS 1 (.v 27) (some (.c (.v (.int .i64 64)))) none
  none),nn (.v 7) (.mv true (.v 28))]))
def lp123_2:PC:=
 (PC.reg [nn (.v 14) (.bin .lss (.v 13) (.v 12))]).seq ((PC.cond (.v 14) PC.skip (PC.exit 0)).seq ((PC.block 1 ((PC.reg [nn (.v 15) (.iadrS 1 (.v 11)
  (.v 13)),nn (.v 16) (.load 1 false (.v 15)),nn (.v 5) (.mv true (.v 16))]).seq (PC.reg [nn (.v 17) (.mv true (.v 3)),nn (.v 18) (.mv false (.v
  5)),nn (.v 19) (.app (some .u8) 1 1 (.v 17) (.v 18)),nn (.v 3) (.mv true (.v 19))]))).seq (PC.reg [nn (.v 20) (.bin .add (.v 13) (.c (.v (.int .i64
  1)))),nn (.v 13) (.mv false (.v 20))])))
def pf123:PF:=
 PF.mk 1 37 68 ((PC.reg [nn (.v 2) (.alloc (.arr .u8 32 [0,0,0,0,0,0,0,0,0,0,0,0,0,0,0,0,0,0,0,0,0,0,0,0,0,0,0,0,0,0,0,
  0]))]).seq ((PC.reg [nn (.v 3) (.mv true (.c (.own .nils)))]).seq (((PC.reg [nn (.v 11) (.mv false (.v 0)),nn (.v 12) (.len (.v 11)),nn (.v 13)
  (.mv false (.c (.v (.int .i64 0))))]).seq (PC.block 0 (PC.loop [2,3,11,12,13] lp123_2))).seq ((PC.reg [nn (.v 21) (.call 133 []),nn (.v 6)
  (.alloc (.arr .u32 8 [0,0,0,0,0,0,0,0])),nn .no (.store 8 (.v 6) (.v 21))]).seq (((PC.reg [nn (.v 22) (.mv false (.v 3)),nn (.v 23) (.call
  134 [.v 22]),nn (.v 7) (.mv true (.v 23))]).seq (PC.block 2 (PC.loop [2,6,7] lp123_1))).seq ((PC.reg [nn (.v 8) (.alloc (.arr .u8 32 [0,0,0,0,
  0,0,0,0,0,0,0,0,0,0,0,0,0,0,0,0,0,0,0,0,0,0,0,0,0,0,0,0]))]).seq (((PC.reg [nn (.v 35) (.load 8 true (.v 6)),nn (.v 36)
  (.mv false (.c (.v (.int .i64 0))))]).seq (PC.block 4 (PC.loop [2,8,35,36] lp123_0))).seq ((PC.reg [nn (.t 67) (.load 32 true (.v 8)),nn .no
  (.store 32 (.v 2) (.t 67))]).seq PC.ret)))))))) [(.v 2,some (32,true))]
attribute [local irreducible] W Wops WopsD WL Wop WopD
variable {E:Env} {C:Abs.Spec} {l:List (Nat×Spec1)} {G:List (Nat×V)} {Q:R→List (Nat×V)→Prop}
set_option maxHeartbeats 1000000
def STu (kt:List Int):Spec1
 |[.arr .u32 8 s,.arr .u8 64 b],G,Q=>(((∀x∈s,Wd x)∧s.length=8)∧Byt b∧b.length=64)∧Q (.v (.arr .u32 8 (block kt s b))) G
 |_,_,_=>False
theorem STu_eq {kt s b}:STu kt [.arr .u32 8 s,.arr .u8 64 b] G Q=((((∀x∈s,Wd x)∧s.length=8)∧Byt b∧b.length=64)∧Q (.v (.arr .u32 8 (block kt s b))) G):=rfl
theorem parts123 {b:List Int} {L:List Bx} {l0:List V} {QQ:Ex→St→Prop} (hb:b.length < 100000000000000) (hl1:l0.length < 100000000000000)
  (hx:∀ts y,byV y=some b→QQ (.exit 0) ⟨[none,none,some (.lp 0 []),some (.own y),none,none,none,none,none,none,none,some (.v (.sle 1 l0)),some (.v (.int .i64 l0.length)),some (.v (.int .i64 l0.length)),some (.v (.bool false)),none,none,none,none,none,none,none,none,none,none,none,none,none,none,none,none,none,none,none,none,none,none],ts,L,G⟩):
  ∀(r:List V) (i:Nat) (y:V) (a c:List Int),l0.drop i=r→i+r.length=l0.length→byV y=some a→catL r=some c→b=a++c→
   WL (W E C lp123_2) [2,3,11,12,13] QQ (r.length+1) ⟨[none,none,some (.lp 0 []),some (.own y),none,none,none,none,none,none,none,some (.v (.sle 1 l0)),some (.v (.int .i64 l0.length)),some (.v (.int .i64 i)),none,none,none,none,none,none,none,none,none,none,none,none,none,none,none,none,none,none,none,none,none,none,none],[],L,G⟩:=by
 intro r
 induction r with
 |nil=>
  intro i y a c hr hi hy hc hbc
  have hi2:i=l0.length:=by simpa using hi
  subst hi2
  cases hc
  rw[List.append_nil]at hbc;subst hbc
  have hno:¬(l0.length:Int) < (l0.length:Int):=by omega
  refine WL_in lp123_2.eq_1 ?_
  simp (maxSteps:=1000000) (implicitDefEqProofs:=false) only[hno,go_sem,↓reduceIte]
  exact hx _ y hy
 |cons e r ih=>
  intro i y a c hr hi hy hc hbc
  obtain⟨a2,c2,he,hc2,rfl⟩:=catL_cons hc
  have hlt:i < l0.length:=by simp only[List.length_cons]at hi;omega
  have hlt':(i:Int) < (l0.length:Int):=by omega
  have hg:l0.getD i .nilp=e:=by
   have:(l0.drop i)[0]? =some e:=by rw[hr];rfl
   rw[List.getElem?_drop,Nat.add_zero]at this
   rw[List.getD_eq_getElem?_getD,this];rfl
  have hr2:l0.drop (i+1)=r:=by rw[←List.drop_drop,hr];rfl
  have ew:IntKind.i64.wrap ((i:Int)+1)=((i+1:Nat):Int):=by rw[w64 (by omega) (by omega)];simp
  subst hbc
  simp only[List.length_append]at hb
  have ihh:=fun y' hy'=>ih (i+1) y' (a++a2) c2 hr2 (by simp only[List.length_cons]at hi;omega) hy' hc2 (by rw[List.append_assoc])
  refine WL_in lp123_2.eq_1 ?_
  rcases byV_cases hy with rfl|⟨rfl,rfl⟩<;>rcases byV_cases he with rfl|⟨rfl,rfl⟩
  ·simp (maxSteps:=1000000) (implicitDefEqProofs:=false) only[hlt',hg,Int.toNat_natCast,ew,go_sem,↓reduceIte]
   exact⟨by omega,by omega,ihh _ rfl⟩
  ·simp (maxSteps:=1000000) (implicitDefEqProofs:=false) only[hlt',hg,Int.toNat_natCast,ew,go_sem,↓reduceIte]
   exact⟨by omega,by omega,ihh _ (by rw[List.append_nil];rfl)⟩
  ·simp (maxSteps:=1000000) (implicitDefEqProofs:=false) only[hlt',hg,Int.toNat_natCast,ew,go_sem,↓reduceIte]
   exact⟨by omega,by omega,ihh _ rfl⟩
  ·simp (maxSteps:=1000000) (implicitDefEqProofs:=false) only[hlt',hg,Int.toNat_natCast,ew,go_sem,↓reduceIte]
   exact⟨by omega,ihh _ rfl⟩
theorem blocks123 {f kt:List Int} {z0:Bx} {n:Nat} {QQ:Ex→St→Prop} (h73:Abs.look l 135=some (STu kt)) (hf:Byt f) (hn:f.length=64*n)
  (hx:∀ts d,QQ (.exit 2) ⟨[none,none,some (.lp 0 []),none,none,none,some (.lp 1 []),d,none,none,none,none,none,none,none,none,none,none,none,none,none,none,none,none,some (.v (.sli .u8 [])),some (.v (.int .i64 0)),some (.v (.bool false)),none,none,none,none,none,none,none,none,none,none],ts,[z0,⟨false,.arr .u32 8 (iter kt f start8 n)⟩],G⟩):
  ∀(m i:Nat) (dd:D),i+m=n→dd= .own (.sli .u8 (f.drop (64*i)))∨dd= .v (.sli .u8 (f.drop (64*i)))→
   WL (W E (specOf l) lp123_1) [2,6,7] QQ (m+1) ⟨[none,none,some (.lp 0 []),none,none,none,some (.lp 1 []),some dd,none,none,none,none,none,none,none,none,none,none,none,none,none,none,none,none,none,none,none,none,none,none,none,none,none,none,none,none,none],[],[z0,⟨false,.arr .u32 8 (iter kt f start8 i)⟩],G⟩:=by
 intro m
 induction m with
 |zero=>
  intro i dd hi hd
  obtain rfl:i=n:=by omega
  have he:f.drop (64*i)=[]:=List.drop_eq_nil_of_le (by omega)
  rw[he]at hd
  refine WL_in lp123_1.eq_1 ?_
  rcases hd with rfl|rfl
  ·simp (maxSteps:=1000000) (implicitDefEqProofs:=false) only[go_sem,↓reduceIte]
   exact hx _ _
  ·simp (maxSteps:=1000000) (implicitDefEqProofs:=false) only[go_sem,↓reduceIte]
   exact hx _ _
 |succ m ih=>
  intro i dd hi hd
  have hdl:(f.drop (64*i)).length=64*(m+1):=by rw[List.length_drop];omega
  have hpos:(0:Int) < ((f.drop (64*i)).length:Int):=by omega
  have hit:=iter_ok (k:=kt) (f:=f) (s:=start8) rfl start8_ok i
  have ihh:=fun dd h=>ih (i+1) dd (by omega) h
  have hdd:f.drop (64*(i+1))=(f.drop (64*i)).drop 64:=by rw[List.drop_drop];congr 1
  rw[hdd]at ihh
  have hsame:iter kt f start8 (i+1)=block kt (iter kt f start8 i) ((f.drop (64*i)).take 64):=rfl
  rw[hsame]at ihh
  have hby:=byt_drop hf (64*i)
  generalize f.drop (64*i)=g at*
  have ht:(g.take 64).take 64=g.take 64:=by rw[List.take_take];rfl
  have ht2:g.take g.length=g:=List.take_length
  refine WL_in lp123_1.eq_1 ?_
  rcases hd with rfl|rfl
  all_goals
   simp (maxSteps:=1000000) (implicitDefEqProofs:=false) only[h73,STu_eq,hpos,ht,ht2,Int.toNat_natCast,List.drop_zero,go_sem,↓reduceIte]
   refine⟨by omega,by simp only[List.length_take];omega,⟨⟨hit.2,hit.1⟩,byt_take hby _,by simp only[List.length_take];omega⟩,⟨by omega,by omega⟩,?_⟩
   exact ihh _ (Or.inr rfl)
theorem bytes123 {s:List Int} {s0 s1 s2 s3 s4 s5 s6 s7:Int} {z0 z1:Bx} {QQ:Ex→St→Prop} (hl:s.length=8) (hw:∀x∈s,Wd x)
  (hx:∀ts,QQ (.exit 4) ⟨[none,none,some (.lp 0 []),none,none,none,none,none,some (.lp 2 []),none,none,none,none,none,none,none,none,none,none,none,none,none,none,none,none,none,none,none,none,none,none,none,none,none,none,some (.v (.arr .u32 8 [s0,s1,s2,s3,s4,s5,s6,s7])),some (.v (.int .i64 8))],ts,[z0,z1,⟨false,.arr .u8 32 (s.flatMap bytes4)⟩],G⟩) (hs:s=[s0,s1,s2,s3,s4,s5,s6,s7]):
  WL (W E C lp123_0) [2,8,35,36] QQ 9 ⟨[none,none,some (.lp 0 []),none,none,none,none,none,some (.lp 2 []),none,none,none,none,none,none,none,none,none,none,none,none,none,none,none,none,none,none,none,none,none,none,none,none,none,none,some (.v (.arr .u32 8 [s0,s1,s2,s3,s4,s5,s6,s7])),some (.v (.int .i64 0))],[],[z0,z1,⟨false,.arr .u8 32 [0,0,0,0,0,0,0,0,0,0,0,0,0,0,0,0,0,0,0,0,0,0,0,0,0,0,0,0,0,0,0,0]⟩],G⟩:=by
 subst hs
 iterate 9
  refine WL_in lp123_0.eq_1 ?_
  simp (maxSteps:=1000000) (implicitDefEqProofs:=false) (disch:=omega) only[go_sem,↓reduceIte,w64]
 have hb:∀x,x∈[s0,s1,s2,s3,s4,s5,s6,s7]→IntKind.u8.wrap (x.fdiv (2 ^ min 24 32))=octOf x 0∧IntKind.u8.wrap (x.fdiv (2 ^ min 16 32))=octOf x 1∧IntKind.u8.wrap (x.fdiv (2 ^ min 8 32))=octOf x 2∧IntKind.u8.wrap x=octOf x 3:=fun x hx=>octOf_eq (hw x hx)
 obtain⟨a0,a1,a2,a3⟩:=hb s0 (by simp)
 obtain⟨b0,b1,b2,b3⟩:=hb s1 (by simp)
 obtain⟨c0,c1,c2,c3⟩:=hb s2 (by simp)
 obtain⟨d0,d1,d2,d3⟩:=hb s3 (by simp)
 obtain⟨e0,e1,e2,e3⟩:=hb s4 (by simp)
 obtain⟨f0,f1,f2,f3⟩:=hb s5 (by simp)
 obtain⟨g0,g1,g2,g3⟩:=hb s6 (by simp)
 obtain⟨h0,h1,h2,h3⟩:=hb s7 (by simp)
 rw[a0,a1,a2,a3,b0,b1,b2,b3,c0,c1,c2,c3,d0,d1,d2,d3,e0,e1,e2,e3,f0,f1,f2,f3,g0,g1,g2,g3,h0,h1,h2,h3]
 exact hx _
theorem walk123 {kt b:List Int} {x:V} (h71:Abs.look l 133=some SSt) (h72:Abs.look l 134=some SFi) (h73:Abs.look l 135=some (STu kt)) (hx:partsV x=some b) (hxl:x.len < 100000000000000) (hby:Byt b) (hb:b.length < 100000000000000)
  (h:Q (.v (.arr .u8 32 (sumB kt b))) G):Wf E (specOf l) pf123 [x] G Q:=by
 obtain⟨n,hn,hsum⟩:∃n,(fillB b).length=64*n∧sumB kt b=(iter kt (fillB b) start8 n).flatMap bytes4:=⟨_,fillB_len b,rfl⟩
 have hok:=iter_ok (k:=kt) (f:=fillB b) (s:=start8) rfl start8_ok n
 rcases partsV_cases hx with⟨l0,rfl,hc⟩|⟨rfl,rfl⟩
 ·simp (maxSteps:=1000000) (implicitDefEqProofs:=false) only[pf123,go_sem,↓reduceIte]
  refine⟨l0.length+1,?_⟩
  simp (maxSteps:=1000000) (implicitDefEqProofs:=false) only[go_sem,↓reduceIte]
  refine parts123 hb hxl (fun ts y hy=> ?_) l0 0 .nils [] b rfl (by omega) rfl hc rfl
  rcases byV_cases hy with rfl|⟨rfl,rfl⟩
  all_goals
   simp (maxSteps:=1000000) (implicitDefEqProofs:=false) only[h71,h72,SSt_eq,SFi_eq,go_sem,↓reduceIte]
   refine⟨_,⟨rfl,hb⟩,n+1,?_⟩
   simp (maxSteps:=1000000) (implicitDefEqProofs:=false) only[go_sem,↓reduceIte]
   refine blocks123 h73 (byt_fill hby) hn (fun ts d=> ?_) n 0 _ (by omega) (Or.inl rfl)
   simp (maxSteps:=1000000) (implicitDefEqProofs:=false) only[go_sem,↓reduceIte]
   refine⟨9,?_⟩
   simp (maxSteps:=1000000) (implicitDefEqProofs:=false) only[go_sem,↓reduceIte]
   generalize iter kt (fillB _) start8 n=s at*
   obtain⟨s0,s1,s2,s3,s4,s5,s6,s7,rfl⟩:∃s0 s1 s2 s3 s4 s5 s6 s7,s=[s0,s1,s2,s3,s4,s5,s6,s7]:=by
    match s,hok.1 with
    |[s0,s1,s2,s3,s4,s5,s6,s7],_=>exact⟨_,_,_,_,_,_,_,_,rfl⟩
   refine bytes123 hok.1 hok.2 (fun ts=> ?_) rfl
   simp (maxSteps:=1000000) (implicitDefEqProofs:=false) only[go_sem,↓reduceIte]
   rw[hsum]at h
   exact h
 ·simp (maxSteps:=1000000) (implicitDefEqProofs:=false) only[pf123,go_sem,↓reduceIte]
  refine⟨1,?_⟩
  simp (maxSteps:=1000000) (implicitDefEqProofs:=false) only[go_sem,↓reduceIte]
  refine WL_in lp123_2.eq_1 ?_
  simp (maxSteps:=1000000) (implicitDefEqProofs:=false) only[h71,h72,SSt_eq,SFi_eq,go_sem,↓reduceIte]
  refine⟨_,⟨rfl,hb⟩,n+1,?_⟩
  simp (maxSteps:=1000000) (implicitDefEqProofs:=false) only[go_sem,↓reduceIte]
  refine blocks123 h73 (byt_fill hby) hn (fun ts d=> ?_) n 0 _ (by omega) (Or.inl rfl)
  simp (maxSteps:=1000000) (implicitDefEqProofs:=false) only[go_sem,↓reduceIte]
  refine⟨9,?_⟩
  simp (maxSteps:=1000000) (implicitDefEqProofs:=false) only[go_sem,↓reduceIte]
  generalize iter kt (fillB _) start8 n=s at*
  obtain⟨s0,s1,s2,s3,s4,s5,s6,s7,rfl⟩:∃s0 s1 s2 s3 s4 s5 s6 s7,s=[s0,s1,s2,s3,s4,s5,s6,s7]:=by
   match s,hok.1 with
   |[s0,s1,s2,s3,s4,s5,s6,s7],_=>exact⟨_,_,_,_,_,_,_,_,rfl⟩
  refine bytes123 hok.1 hok.2 (fun ts=> ?_) rfl
  simp (maxSteps:=1000000) (implicitDefEqProofs:=false) only[go_sem,↓reduceIte]
  rw[hsum]at h
  exact h
end Go.Proofs.YtjbglbhcbenhpaaDoor.Sha
