/- Laws over plain values, and what functions of the program hand back; no conditions. -/
import Derived.Test.YtegamlopcdjiaaaG1
namespace Go.Abs.Sha
open Go Go.Abs
set_option linter.unusedVariables false
set_option linter.unusedSimpArgs false
def decI:Nat→Nat→List Int→Option (Nat×Nat)
 |_,_,[]=>none
 |i,acc,c::r=>if 10≤i then none else if (i=9∧1 < c)∨(0 < i∧c=0)then none else
  if c < 128 then some (acc+c.toNat*128 ^ i,i+1)else decI (i+1) (acc+(c.toNat-128)*128 ^ i) r
theorem p9 {i:Nat} (h:i≤9):i=0∨i=1∨i=2∨i=3∨i=4∨i=5∨i=6∨i=7∨i=8∨i=9:=by omega
theorem pow_le9 {i:Nat} (h:i≤9):0 < 128 ^ i∧128 ^ i≤9223372036854775808:=by
 rcases p9 h with rfl|rfl|rfl|rfl|rfl|rfl|rfl|rfl|rfl|rfl<;>decide
theorem dec_num:∀(n i acc:Nat) (r:List Int),i≤9→n*128 ^ i < 18446744073709551616→(0 < i→0 < n)→decI i acc (num n++r)=some (acc+n*128 ^ i,i+(num n).length):=by
 intro n
 induction n using Nat.strongRecOn with
 |_ n ih=>
  intro i acc r hi hn h0
  have h9:i=9→n≤1:=by
   rintro rfl
   have:(128:Nat) ^ 9=9223372036854775808:=by decide
   omega
  by_cases hlt:n < 128
  ·rw[num_small hlt]
   simp only[List.cons_append,List.nil_append,decI,List.length_cons,List.length_nil]
   rw[if_neg (by omega),if_neg (by omega),if_pos (by omega)]
   simp
  ·have h8:i≤8:=by
    rcases p9 hi with rfl|rfl|rfl|rfl|rfl|rfl|rfl|rfl|rfl|rfl<;>first|omega|(have:=h9 rfl;omega)
   have hp:128 ^ (i+1)=128 ^ i*128:=Nat.pow_succ ..
   have hpos:=(pow_le9 hi).1
   have hm:n / 128*128 ^ (i+1)≤n*128 ^ i:=by
    rw[hp,Nat.mul_comm (128 ^ i) 128,←Nat.mul_assoc]
    exact Nat.mul_le_mul_right _ (Nat.div_mul_le_self _ _)
   have e:decI (i+1) (acc+n % 128*128 ^ i) (num (n / 128)++r)=some (acc+n % 128*128 ^ i+n / 128*128 ^ (i+1),i+1+(num (n / 128)).length):=
    ih (n / 128) (by omega) (i+1) _ r (by omega) (by omega) (by omega)
   rw[num_big hlt]
   simp only[List.cons_append,decI,List.length_cons]
   rw[if_neg (by omega),if_neg (by omega),if_neg (by omega)]
   have e2:((n % 128+128:Nat):Int).toNat-128=n % 128:=by omega
   rw[e2,e]
   have e3:n % 128*128 ^ i+n / 128*128 ^ (i+1)=n*128 ^ i:=by
    rw[hp,Nat.mul_comm (128 ^ i) 128,←Nat.mul_assoc,←Nat.add_mul,show n % 128+n / 128*128=n by omega]
   rw[Nat.add_assoc acc,e3,Nat.add_assoc i,Nat.add_comm 1]
theorem lt_mul64 {m i:Nat} (hi:i≤8) (h:m*128 ^ (i+1) < 18446744073709551616):m*128 ^ (i+1)+128 ^ (i+1)≤18446744073709551616:=by
 rcases p9 (show i≤9 by omega)with rfl|rfl|rfl|rfl|rfl|rfl|rfl|rfl|rfl|rfl<;>simp only[Nat.reduceAdd,Nat.reducePow]at h⊢<;>omega
theorem num_dec:∀(b:List Int) (i acc n k:Nat),Byt b→i≤9→decI i acc b=some (n,k)→
  ∃m r,n=acc+m*128 ^ i∧(0 < i→0 < m)∧m*128 ^ i < 18446744073709551616∧b=num m++r∧k=i+(num m).length
 |[],i,acc,n,k,hb,hi,h=>by simp[decI]at h
 |c::r,i,acc,n,k,hb,hi,h=>by
  have hc:=hb c (List.mem_cons_self ..)
  have hr:Byt r:=fun x hx=>hb x (List.mem_cons_of_mem _ hx)
  simp only[decI]at h
  rw[if_neg (by omega)]at h
  split at h
  ·cases h
  rename_i hbad
  split at h
  ·rename_i hlt;cases h
   refine⟨c.toNat,r,rfl,by omega,?_,?_,?_⟩
   ·by_cases h9:i=9
    ·subst h9
     have:(128:Nat) ^ 9=9223372036854775808:=by decide
     have:c.toNat≤1:=by omega
     calc c.toNat*128 ^ 9≤1*128 ^ 9:=Nat.mul_le_mul_right _ this
      _ < _:=by decide
    ·have h1:c.toNat*128 ^ i≤127*128 ^ i:=Nat.mul_le_mul_right _ (by omega)
     have h2:127*128 ^ i < 18446744073709551616:=by
      rcases p9 hi with rfl|rfl|rfl|rfl|rfl|rfl|rfl|rfl|rfl|rfl<;>first|decide|omega
     omega
   ·rw[num_small (by omega)];simp;omega
   ·rw[num_small (by omega)];simp
  ·rename_i hge
   have h8:i≤8:=by
    apply Classical.byContradiction
    intro hn
    have:i=9:=by omega
    subst this
    cases r with
    |nil=>simp[decI]at h
    |cons a r=>simp[decI]at h
   obtain⟨m,r',h1,h2,h3,h4,h5⟩:=num_dec r (i+1) _ n k hr (by omega) h
   have hm:0 < m:=h2 (by omega)
   have hp:128 ^ (i+1)=128 ^ i*128:=Nat.pow_succ ..
   have hpos:=(pow_le9 hi).1
   have e1:(c.toNat-128+128*m)*128 ^ i=(c.toNat-128)*128 ^ i+m*128 ^ (i+1):=by
    rw[Nat.add_mul,hp,Nat.mul_comm 128 m,Nat.mul_assoc,Nat.mul_comm 128 (128 ^ i)]
   refine⟨c.toNat-128+128*m,r',by rw[e1,h1];omega,fun _=>by omega,?_,?_,?_⟩
   ·rw[e1]
    have h6:=lt_mul64 h8 h3
    have h7:(c.toNat-128)*128 ^ i < 128 ^ (i+1):=by
     rw[hp,Nat.mul_comm (128 ^ i)]
     exact Nat.mul_lt_mul_of_pos_right (by omega) hpos
    omega
   ·rw[num_big (by omega),h4,show (c.toNat-128+128*m) / 128=m by omega]
    simp only[List.cons_append,List.cons.injEq,and_true]
    omega
   ·rw[num_big (by omega),show (c.toNat-128+128*m) / 128=m by omega,List.length_cons]
    omega
def decN (b:List Int):Option (Nat×Nat):=decI 0 0 b
theorem decN_num {n:Nat} (hn:n < 18446744073709551616) (r:List Int):decN (num n++r)=some (n,(num n).length):=by
 have:=dec_num n 0 0 r (by omega) (by simpa using hn) (by omega)
 simpa [decN]using this
theorem decN_spec {b:List Int} {n k:Nat} (hb:Byt b) (h:decN b=some (n,k)):n < 18446744073709551616∧k=(num n).length∧b=num n++b.drop k∧k≤b.length:=by
 obtain⟨m,r,h1,h2,h3,h4,h5⟩:=num_dec b 0 0 n k hb (by omega) h
 simp at h1 h3 h5;subst h1
 refine⟨h3,h5,?_,?_⟩
 ·rw[h5,h4,List.drop_left]
 ·rw[h5,h4];simp
theorem num_pos (n:Nat):0 < (num n).length:=by
 rw[num];split<;>simp
abbrev Rd:=List Int×Bool
def Rd.v (s:Rd):V:= .agg [.sli .u8 s.1,.bool s.2]
def rdNum (s:Rd):Nat×Rd:=if s.2=true then (0,s)else match decN s.1 with
 |none=>(0,(s.1,true))
 |some (n,k)=>(n,(s.1.drop k,false))
def rdUpto (top:Int) (s:Rd):Int×Rd:=if s.2=true then (0,s)else match decN s.1 with
 |none=>(0,(s.1,true))
 |some (n,k)=>if top < 0∨top < (n:Int)then (0,(s.1,true))else ((n:Int),(s.1.drop k,false))
def rdHash (s:Rd):List Int×Rd:=if s.2=true then (zero32,s)else if s.1.length < 32 then (zero32,(s.1,true))else (s.1.take 32,(s.1.drop 32,false))
structure Rd.Ok (s:Rd):Prop where
 byt:Byt s.1
theorem rdUpto_ok {top:Int} {s:Rd} (h:Byt s.1):Byt (rdUpto top s).2.1∧(rdUpto top s).2.1.length≤s.1.length∧0≤(rdUpto top s).1∧(0≤top→(rdUpto top s).1≤top):=by
 unfold rdUpto
 split
 ·exact⟨h,Nat.le_refl _,Int.le_refl _,fun h=>h⟩
 ·split
  ·exact⟨h,Nat.le_refl _,Int.le_refl _,fun h=>h⟩
  ·split
   ·exact⟨h,Nat.le_refl _,Int.le_refl _,fun h=>h⟩
   ·exact⟨byt_drop h _,by simp,by simp,fun _=>by simp only;omega⟩
theorem rdHash_ok {s:Rd} (h:Byt s.1):Byt (rdHash s).2.1∧(rdHash s).2.1.length≤s.1.length∧H32 (rdHash s).1:=by
 unfold rdHash
 split
 ·exact⟨h,Nat.le_refl _,h32_zero⟩
 ·split
  ·exact⟨h,Nat.le_refl _,h32_zero⟩
  ·exact⟨byt_drop h _,by simp,byt_take h _,by simp;omega⟩
theorem rdUpto_right {top:Int} {s:Rd} (hb:Byt s.1) (h:(rdUpto top s).2.2=false):s.2=false∧s.1=num (rdUpto top s).1.toNat++(rdUpto top s).2.1∧0≤(rdUpto top s).1∧(rdUpto top s).1≤top∧(rdUpto top s).1 < 18446744073709551616:=by
 unfold rdUpto at h⊢
 split at h
 ·rename_i hw;simp[hw]at h
 ·rename_i hw
  rw[if_neg hw]
  split at h
  ·cases h
  ·rename_i n k hd
   split at h
   ·cases h
   ·rename_i ht
    obtain⟨h1,h2,h3,h4⟩:=decN_spec hb hd
    rw[if_neg ht]
    exact⟨by simpa using hw,by simpa using h3,by simp,by simp only;omega,by simp only;omega⟩
theorem rdHash_right {s:Rd} (h:(rdHash s).2.2=false):s.2=false∧s.1=(rdHash s).1++(rdHash s).2.1∧(rdHash s).1.length=32:=by
 unfold rdHash at h⊢
 split at h
 ·rename_i hw;simp[hw]at h
 ·rename_i hw
  rw[if_neg hw]
  split at h
  ·cases h
  ·rename_i hl
   rw[if_neg hl]
   exact⟨by simpa using hw,by simp,by simp;omega⟩
theorem rdUpto_of {top:Int} {n:Nat} {r:List Int} (h1:(n:Int)≤top) (h2:n < 18446744073709551616):rdUpto top (num n++r,false)=((n:Int),(r,false)):=by
 unfold rdUpto
 simp only[Bool.false_eq_true,if_false,decN_num h2,List.drop_left]
 rw[if_neg (by omega)]
theorem rdHash_of {h r:List Int} (hl:h.length=32):rdHash (h++r,false)=(h,(r,false)):=by
 unfold rdHash
 simp only[Bool.false_eq_true,if_false,List.length_append,hl]
 rw[if_neg (by omega),←hl,List.take_left,List.drop_left]
end Go.Abs.Sha
namespace Go.Abs
namespace Sha
open Go
theorem and127 {c:Int} (h:0≤c∧c≤255):bAnd .u8 c 127=((c.toNat % 128:Nat):Int):=by
 have hd:∀k:Fin 256,bAnd .u8 (k.val:Int) 127=((k.val % 128:Nat):Int):=by decide+kernel
 have:=hd ⟨c.toNat,by omega⟩
 simp only at this
 rw[show ((c.toNat:Nat):Int)=c by omega]at this
 exact this
theorem pow128 (i:Nat):(2:Nat) ^ (7*i)=128 ^ i:=by rw[Nat.pow_mul]
theorem or7 {acc i d:Nat} (hi:i≤9) (ha:acc < 128 ^ i) (hd:d < 128) (h9:i=9→d≤1):
  bOr .u64 (acc:Int) (IntKind.u64.wrap ((d:Int)*2 ^ (min (7*i) 64)))=((acc+d*128 ^ i:Nat):Int):=by
 have e0:min (7*i) 64=7*i:=by omega
 have hP:=pow_le9 hi
 have hlt:d*128 ^ i < 18446744073709551616:=by
  by_cases h:i=9
  ·subst h
   have:(128:Nat) ^ 9=9223372036854775808:=by decide
   have:=h9 rfl;omega
  ·have h1:d*128 ^ i≤127*128 ^ i:=Nat.mul_le_mul_right _ (by omega)
   have h2:127*128 ^ i < 18446744073709551616:=by
    rcases p9 hi with rfl|rfl|rfl|rfl|rfl|rfl|rfl|rfl|rfl|rfl<;>first|exact absurd rfl h|decide
   omega
 have e1:((d:Int)*2 ^ (7*i))=((d*128 ^ i:Nat):Int):=by
  rw[←pow128];simp
 have w:∀n:Nat,n < 18446744073709551616→IntKind.u64.wrap (n:Int)=n:=fun n hn=>by
  simp only[IntKind.wrap,IntKind.bits,IntKind.signed];simp;omega
 rw[e0,e1,w _ hlt]
 show IntKind.u64.wrap ((BitVec.ofInt 64 (acc:Int)|||BitVec.ofInt 64 ((d*128 ^ i:Nat):Int)).toNat)=_
 have hacc:acc < 18446744073709551616:=by omega
 have e2:acc |||d*128 ^ i=acc+d*128 ^ i:=by
  rw[Nat.or_comm,←pow128,←Nat.shiftLeft_eq,←Nat.shiftLeft_add_eq_or_of_lt (by rw[pow128];exact ha),Nat.add_comm]
 have hsum:acc+d*128 ^ i < 18446744073709551616:=by
  by_cases h:i=9
  ·subst h
   have:(128:Nat) ^ 9=9223372036854775808:=by decide
   have:=h9 rfl;omega
  ·have h1:d*128 ^ i≤127*128 ^ i:=Nat.mul_le_mul_right _ (by omega)
   have h2:128*128 ^ i≤9223372036854775808:=by
    rcases p9 hi with rfl|rfl|rfl|rfl|rfl|rfl|rfl|rfl|rfl|rfl<;>first|exact absurd rfl h|decide
   omega
 rw[BitVec.toNat_or,BitVec.ofInt_natCast,BitVec.ofInt_natCast,BitVec.toNat_ofNat,BitVec.toNat_ofNat,Nat.mod_eq_of_lt hacc,Nat.mod_eq_of_lt hlt,e2,w _ hsum]
theorem w64u {n:Nat} (hn:n < 18446744073709551616):IntKind.u64.wrap (n:Int)=n:=by
 simp only[IntKind.wrap,IntKind.bits,IntKind.signed];simp;omega
theorem drop_cons {b:List Int} {i:Nat} (h:i < b.length):b.drop i=b.getD i 0::b.drop (i+1):=by
 rw[List.drop_eq_getElem_cons h];simp[h]
end Sha
end Go.Abs
namespace Go.Abs.Sha
open Go
set_option linter.unusedVariables false
theorem rdUpto_suf {top:Int} {s:Rd} (hb:Byt s.1):∃u,s.1=u++(rdUpto top s).2.1:=by
 unfold rdUpto
 split
 ·exact⟨[],rfl⟩
 ·split
  ·exact⟨[],rfl⟩
  ·split
   ·exact⟨[],rfl⟩
   ·exact⟨s.1.take _,(List.take_append_drop ..).symm⟩
theorem rdHash_suf {s:Rd}:∃u,s.1=u++(rdHash s).2.1:=by
 unfold rdHash
 split
 ·exact⟨[],rfl⟩
 ·split
  ·exact⟨[],rfl⟩
  ·exact⟨s.1.take _,(List.take_append_drop ..).symm⟩
end Go.Abs.Sha
namespace Go.Abs.Sha
open Go
set_option linter.unusedVariables false
theorem rdUpto_all {top n:Int} {b r:List Int} {w w':Bool} (e:rdUpto top (b,w)=(n,r,w')) (hb:Byt b) (ht:0≤top):
  Byt r∧r.length≤b.length∧0≤n∧n≤top∧(∃u,b=u++r)∧(w'=false→w=false∧b=num n.toNat++r):=by
 have h1:=rdUpto_ok (top:=top) (s:=(b,w)) hb
 have h2:=rdUpto_suf (top:=top) (s:=(b,w)) hb
 have h3:=rdUpto_right (top:=top) (s:=(b,w)) hb
 rw[e]at h1 h2 h3
 exact⟨h1.1,h1.2.1,h1.2.2.1,h1.2.2.2 ht,h2,fun hw=>⟨(h3 hw).1,(h3 hw).2.1⟩⟩
theorem rdHash_all {hh:List Int} {b r:List Int} {w w':Bool} (e:rdHash (b,w)=(hh,r,w')) (hb:Byt b):
  Byt r∧r.length≤b.length∧H32 hh∧(∃u,b=u++r)∧(w'=false→w=false∧b=hh++r):=by
 have h1:=rdHash_ok (s:=(b,w)) hb
 have h2:=rdHash_suf (s:=(b,w))
 have h3:=rdHash_right (s:=(b,w))
 rw[e]at h1 h2 h3
 exact⟨h1.1,h1.2.1,h1.2.2,h2,fun hw=>⟨(h3 hw).1,(h3 hw).2.1⟩⟩
def rdAtt (s:Rd):AttS×Rd:=
 let p1:=rdUpto 21 s
 let p2:=rdUpto 3 p1.2
 let p3:=rdUpto 1099511627776 p2.2
 let p4:=rdUpto 3 p3.2
 let p5:=rdHash p4.2
 let p6:=rdUpto 1099511627776 p5.2
 let p7:=rdHash p6.2
 let p8:=rdHash p7.2
 (⟨p1.1,p2.1,p3.1,p4.1,p5.1,p6.1,p7.1,p8.1⟩,p8.2)
theorem i64_of {n:Int} (h:0≤n) (h2:n≤1099511627776):I64 n:=⟨by omega,by omega⟩
structure RdAtt (b:List Int) (w:Bool) (a:AttS) (r:List Int) (w':Bool):Prop where
 wf:a.wf
 byt:Byt r
 len:r.length≤b.length
 suf:∃u,b=u++r
 right:w'=false→w=false∧b=num a.who.toNat++a.said++a.ta++r
theorem rdAtt_all {b r:List Int} {w w':Bool} {a:AttS} (e:rdAtt (b,w)=(a,r,w')) (hb:Byt b):RdAtt b w a r w':=by
 unfold rdAtt at e
 rcases e1:rdUpto 21 (b,w)with⟨n1,r1,w1⟩
 rcases e2:rdUpto 3 (r1,w1)with⟨n2,r2,w2⟩
 rcases e3:rdUpto 1099511627776 (r2,w2)with⟨n3,r3,w3⟩
 rcases e4:rdUpto 3 (r3,w3)with⟨n4,r4,w4⟩
 rcases e5:rdHash (r4,w4)with⟨n5,r5,w5⟩
 rcases e6:rdUpto 1099511627776 (r5,w5)with⟨n6,r6,w6⟩
 rcases e7:rdHash (r6,w6)with⟨n7,r7,w7⟩
 rcases e8:rdHash (r7,w7)with⟨n8,r8,w8⟩
 simp only[e1,e2,e3,e4,e5,e6,e7,e8,Prod.mk.injEq]at e
 obtain⟨rfl,rfl,rfl⟩:=e
 obtain⟨a1,a2,a3,a4,⟨u1,a5⟩,a6⟩:=rdUpto_all e1 hb (by omega)
 obtain⟨b1,b2,b3,b4,⟨u2,b5⟩,b6⟩:=rdUpto_all e2 a1 (by omega)
 obtain⟨c1,c2,c3,c4,⟨u3,c5⟩,c6⟩:=rdUpto_all e3 b1 (by omega)
 obtain⟨d1,d2,d3,d4,⟨u4,d5⟩,d6⟩:=rdUpto_all e4 c1 (by omega)
 obtain⟨f1,f2,f3,⟨u5,f5⟩,f6⟩:=rdHash_all e5 d1
 obtain⟨g1,g2,g3,g4,⟨u6,g5⟩,g6⟩:=rdUpto_all e6 f1 (by omega)
 obtain⟨k1,k2,k3,⟨u7,k5⟩,k6⟩:=rdHash_all e7 g1
 obtain⟨l1,l2,l3,⟨u8,l5⟩,l6⟩:=rdHash_all e8 k1
 have q1:I64 n1:=i64_of a3 (by omega)
 have q2:I64 n2:=i64_of b3 (by omega)
 have q3:I64 n3:=i64_of c3 (by omega)
 have q4:I64 n4:=i64_of d3 (by omega)
 have q5:I64 n6:=i64_of g3 (by omega)
 refine⟨⟨q1,q2,q3,q4,q5,f3,k3,l3⟩,l1,by omega,?_,fun hw=> ?_⟩
 ·exact⟨u1++u2++u3++u4++u5++u6++u7++u8,by simp only[List.append_assoc];rw[←l5,←k5,←g5,←f5,←d5,←c5,←b5,←a5]⟩
 ·obtain⟨x7,y8⟩:=l6 hw;obtain⟨x6,y7⟩:=k6 x7;obtain⟨x5,y6⟩:=g6 x6;obtain⟨x4,y5⟩:=f6 x5
  obtain⟨x3,y4⟩:=d6 x4;obtain⟨x2,y3⟩:=c6 x3;obtain⟨x1,y2⟩:=b6 x2;obtain⟨x0,y1⟩:=a6 x1
  refine⟨x0,?_⟩
  simp only[AttS.said,List.append_assoc]
  rw[←y8,←y7,←y6,←y5,←y4,←y3,←y2,←y1]
theorem rdAtt_of {a:AttS} {r:List Int} (hw:a.wf) (hm:a.May):rdAtt (num a.who.toNat++a.said++a.ta++r,false)=(a,(r,false)):=by
 obtain⟨m1,m2,m3,m4,m5,m6⟩:=hm
 unfold rdAtt
 simp only[AttS.said,List.append_assoc]
 have T:∀{n top:Int} {r:List Int},0≤n→n≤top→n≤1099511627776→rdUpto top (num n.toNat++r,false)=(n,(r,false)):=by
  intro n top r h1 h2 h3
  have:=rdUpto_of (top:=top) (n:=n.toNat) (r:=r) (by omega) (by omega)
  rw[this,show ((n.toNat:Nat):Int)=n by omega]
 rw[T (by omega) (by omega) (by omega)];simp only
 rw[T (by omega) (by omega) (by omega)];simp only
 rw[T (by omega) (by omega) (by omega)];simp only
 rw[T (by omega) (by omega) (by omega)];simp only
 rw[rdHash_of hw.ha.2];simp only
 rw[T (by omega) (by omega) (by omega)];simp only
 rw[rdHash_of hw.pa.2];simp only
 rw[rdHash_of hw.ta.2]
def AttS.bytes (a:AttS):List Int:=num a.who.toNat++a.said++a.ta
structure SealS where
 vi:Int
 ph:Int
 pv:Int
 pa:List Int
def SealS.v (s:SealS):V:= .agg [.int .i64 s.vi,.int .i64 s.ph,.int .i64 s.pv,.arr .u8 32 s.pa]
structure SealS.wf (s:SealS):Prop where
 vi:I64 s.vi
 ph:I64 s.ph
 pv:I64 s.pv
 pa:H32 s.pa
def SealS.zero:SealS:=⟨0,0,0,zero32⟩
theorem SealS.zero_wf:SealS.zero.wf:=⟨by decide,by decide,by decide,h32_zero⟩
def SealS.May (s:SealS):Prop:=(s.vi=0∧s.ph=0∧s.pv=0∧s.pa=zero32)∨((1≤s.vi∧s.vi≤1099511627776)∧(1≤s.ph∧s.ph≤3)∧0≤s.pv∧(s.pv < s.vi∨s.pv=s.vi∧s.ph=3))
instance (s:SealS):Decidable s.May:=by unfold SealS.May;infer_instance
def SealS.may (s:SealS):Bool:=decide s.May
def SealS.said (ve:Int) (s:SealS):List Int:=num ve.toNat++num s.vi.toNat++num s.ph.toNat++num s.pv.toNat++s.pa
theorem SealS.bounds {s:SealS} (h:s.May):(0≤s.vi∧s.vi≤1099511627776)∧(0≤s.ph∧s.ph≤3)∧0≤s.pv∧s.pv≤1099511627776:=by
 rcases h with⟨h1,h2,h3,_⟩|⟨h1,h2,h3,h4⟩<;>omega
theorem SealS.said_ok {s:SealS} {ve:Int} (hw:s.wf) (hm:s.May) (hv:0≤ve∧ve≤1099511627776):Byt (s.said ve)∧(s.said ve).length≤72:=by
 obtain⟨h1,h2,h3⟩:=SealS.bounds hm
 obtain⟨a1,a2⟩:=num_ok (n:=ve.toNat) (by omega)
 obtain⟨b1,b2⟩:=num_ok (n:=s.vi.toNat) (by omega)
 obtain⟨c1,c2⟩:=num_ok (n:=s.ph.toNat) (by omega)
 obtain⟨d1,d2⟩:=num_ok (n:=s.pv.toNat) (by omega)
 refine⟨byt_app (byt_app (byt_app (byt_app a1 b1) c1) d1) hw.pa.1,?_⟩
 have:=hw.pa.2
 simp only[SealS.said,List.length_append];omega
structure RdBlob (b:List Int) (w:Bool) (ve:Int) (s:SealS) (ta r:List Int) (w':Bool):Prop where
 wf:s.wf
 vr:0≤ve∧ve≤1099511627776
 tg:H32 ta
 byt:Byt r
 len:r.length≤b.length
 suf:∃u,b=u++r
 right:w'=false→w=false∧b=s.said ve++ta++r
end Go.Abs.Sha
namespace Go.Proofs.Ytegamlopcdjiaaa.Sha
open Go Go.Abs Go.Abs.Sha
set_option linter.unusedSimpArgs false
set_option linter.unusedVariables false
set_option maxRecDepth 100000
def lp120_0:PC:=
 ((PC.reg [mm 7 5,mm 8 0,nn (.t 9) (.len (.t 8)),nn (.t 10) (.bin .lss (.t 7) (.t 9)),nn (.t 11) (.mv false (.t 10)),gm 12 5 11 true,⟨.t 13,.bin
  .lss (.t 12) (.c (.v (.int .i64 10))),some (.t 11,true)⟩,nn (.t 14) (.pick (.t 11) (.t 13) (.c (.v (.bool false))))]).seq (PC.cond (.t 14) PC.skip
  (PC.exit 0))).seq ((PC.block 1 ((PC.reg [mm 17 0,mm 18 5,nn (.t 19) (.iadrS 1 (.t 17) (.t 18)),nn (.t 20) (.load 1 false (.t 19)),ma 6 20]).seq
  (((PC.reg [mm 21 5,nn (.t 22) (.bin .eql (.t 21) (.c (.v (.int .i64 9)))),nn (.t 23) (.mv false (.t 22)),gm 24 6 23 true,⟨.t 25,.bin .gtr (.t
  24) (.c (.v (.int .u8 1))),some (.t 23,true)⟩,nn (.t 26) (.pick (.t 23) (.t 25) (.c (.v (.bool false)))),nn (.t 27) (.mv false (.t 26)),gm 28 5
  27 false,⟨.t 29,.bin .gtr (.t 28) (.c (.v (.int .i64 0))),some (.t 27,false)⟩,⟨.t 30,.mv false (.t 29),some (.t 27,false)⟩,gm 31 6 30 true,
  ⟨.t 32,.bin .eql (.t 31) (.c (.v (.int .u8 0))),some (.t 30,true)⟩,⟨.t 33,.pick (.t 30) (.t 32) (.c (.v (.bool false))),some (.t 27,false)⟩,
  nn (.t 34) (.pick (.t 27) (.c (.v (.bool true))) (.t 33))]).seq (PC.cond (.t 34) ((PC.reg [nn (.v 2) (.mv true (.c (.v (.int .u64 0)))),nn (.v 3)
  (.mv true (.c (.v (.int .i64 0))))]).seq PC.ret) PC.skip)).seq ((PC.reg [mm 35 4,mm 36 6,nn (.t 37) (.bin .and (.t 36) (.c (.v (.int .u8 127)))),
  nn (.t 38) (.conv .u64 (.t 37)),mm 39 5,nn (.t 40) (.bin .mul (.c (.v (.int .i64 7))) (.t 39)),nn (.t 41) (.bin .shl (.t 38) (.t 40)),nn (.t 42)
  (.bin .or (.t 35) (.t 41)),ma 4 42]).seq ((PC.reg [mm 43 6,nn (.t 44) (.bin .lss (.t 43) (.c (.v (.int .u8 128))))]).seq (PC.cond (.t 44) ((PC.reg
  [mm 45 4,mm 46 5,nn (.t 47) (.bin .add (.t 46) (.c (.v (.int .i64 1)))),ma 2 45,ma 3 47]).seq PC.ret) PC.skip)))))).seq (PC.reg [mm 15 5,nn (.t
  16) (.bin .add (.t 15) (.c (.v (.int .i64 1)))),ma 5 16]))
def pf120:PF:=
 PF.mk 1 7 48 ((PC.reg [nn (.v 2) (.mv true (.c (.v (.int .u64 0)))),nn (.v 3) (.mv true (.c (.v (.int .i64 0))))]).seq ((PC.reg [nn (.v 4) (.mv true
  (.c (.v (.int .u64 0))))]).seq (((PC.reg [nn (.v 5) (.mv true (.c (.v (.int .i64 0))))]).seq (PC.block 0 (PC.loop [0,4,5] lp120_0))).seq ((PC.reg
  [nn (.v 2) (.mv true (.c (.v (.int .u64 0)))),nn (.v 3) (.mv true (.c (.v (.int .i64 0))))]).seq PC.ret)))) [(.v 2,none),(.v 3,none)]
def pf94:PF:=
 PF.mk 1 3 11 ((PC.reg [nn (.v 2) (.mv true (.c (.v (.bool false))))]).seq ((PC.reg [mm 3 0,nn (.t 4) (.binP .eql (.t 3) (.c (.v .nilp))),nn (.t 5)
  (.mv false (.t 4)),gm 6 0 5 false,⟨.t 7,.nilc (.t 6),some (.t 5,false)⟩,⟨.t 8,.fadr 1 1 (.t 7),some (.t 5,false)⟩,⟨.t 9,.load 1 false (.t
  8),some (.t 5,false)⟩,nn (.t 10) (.pick (.t 5) (.c (.v (.bool true))) (.t 9)),ma 2 10]).seq PC.ret)) [(.v 2,none)]
def pf95:PF:=
 PF.mk 1 5 30 ((PC.reg [nn (.v 2) (.mv true (.c (.v (.int .u64 0))))]).seq (((PC.reg [mm 5 0,nn (.t 6) (.call 94 [.t 5])]).seq (PC.cond (.t 6) ((PC.reg
  [nn (.v 2) (.mv true (.c (.v (.int .u64 0))))]).seq PC.ret) PC.skip)).seq ((PC.reg [mm 8 0,nn (.t 9) (.nilc (.t 8)),nn (.t 10) (.fadr 0 0 (.t 9)),
  nn (.t 11) (.load 1 false (.t 10)),nn (.t 12) (.call 120 [.t 11]),nn (.t 7) (.mv false (.t 12)),nn (.t 13) (.ext (.t 7) 0),nn (.t 14) (.ext (.t
  7) 1),ma 3 13,ma 4 14]).seq (((PC.reg [mm 15 4,nn (.t 16) (.bin .eql (.t 15) (.c (.v (.int .i64 0))))]).seq (PC.cond (.t 16) ((PC.reg [mm 17 0,nn
  (.t 18) (.nilc (.t 17)),nn (.t 19) (.fadr 1 1 (.t 18)),nn .no (.store 1 (.t 19) (.c (.v (.bool true))))]).seq ((PC.reg [nn (.v 2) (.mv true (.c (.v
  (.int .u64 0))))]).seq PC.ret)) PC.skip)).seq ((PC.reg [mm 20 0,mm 21 0,nn (.t 22) (.nilc (.t 21)),nn (.t 23) (.fadr 0 0 (.t 22)),nn (.t 24)
  (.load 1 false (.t 23)),mm 25 4,nn (.t 26) (.slcS 1 (.t 24) (some (.t 25)) none none),nn (.t 27) (.nilc (.t 20)),nn (.t 28) (.fadr 0 0 (.t 27)),
  nn .no (.store 1 (.t 28) (.t 26))]).seq ((PC.reg [nn (.t 29) (.mv true (.v 3)),ma 2 29]).seq PC.ret)))))) [(.v 2,none)]
def pf48:PF:=
 PF.mk 2 7 38 ((PC.reg [nn (.v 4) (.mv true (.c (.v (.int .i64 0))))]).seq (((PC.reg [mm 7 0,nn (.t 8) (.call 94 [.t 7])]).seq (PC.cond (.t 8) ((PC.reg
  [nn (.v 4) (.mv true (.c (.v (.int .i64 0))))]).seq PC.ret) PC.skip)).seq ((PC.reg [mm 9 0,nn (.t 10) (.nilc (.t 9)),nn (.t 11) (.fadr 0 0 (.t
  10)),nn (.t 12) (.load 1 false (.t 11)),ma 5 12]).seq ((PC.reg [mm 13 0,nn (.t 14) (.call 95 [.t 13]),ma 6 14]).seq (((PC.reg [mm 15 0,nn (.t
  16) (.nilc (.t 15)),nn (.t 17) (.fadr 1 1 (.t 16)),nn (.t 18) (.load 1 false (.t 17)),nn (.t 19) (.mv false (.t 18)),gm 20 1 19 false,⟨.t 21,
  .bin .lss (.t 20) (.c (.v (.int .i64 0))),some (.t 19,false)⟩,nn (.t 22) (.pick (.t 19) (.c (.v (.bool true))) (.t 21)),nn (.t 23) (.mv false (.t
  22)),gm 24 6 23 false,gm 25 1 23 false,⟨.t 26,.conv .u64 (.t 25),some (.t 23,false)⟩,⟨.t 27,.bin .gtr (.t 24) (.t 26),some (.t 23,false)⟩,
  nn (.t 28) (.pick (.t 23) (.c (.v (.bool true))) (.t 27))]).seq (PC.cond (.t 28) ((PC.reg [mm 29 0,mm 30 0,mm 31 5,nn (.t 32) (.nilc (.t 29)),nn
  (.t 33) (.fadr 0 0 (.t 32)),nn .no (.store 1 (.t 33) (.t 31)),nn (.t 34) (.nilc (.t 30)),nn (.t 35) (.fadr 1 1 (.t 34)),nn .no (.store 1 (.t 35)
  (.c (.v (.bool true))))]).seq ((PC.reg [nn (.v 4) (.mv true (.c (.v (.int .i64 0))))]).seq PC.ret)) PC.skip)).seq ((PC.reg [mm 36 6,nn (.t 37)
  (.conv .i64 (.t 36)),ma 4 37]).seq PC.ret)))))) [(.v 4,none)]
def pf98:PF:=
 PF.mk 1 4 32 ((PC.reg [nn (.v 2) (.alloc (.arr .u8 32 [0,0,0,0,0,0,0,0,0,0,0,0,0,0,0,0,0,0,0,0,0,0,0,0,0,0,0,0,0,0,0,
  0]))]).seq ((PC.reg [nn (.v 3) (.alloc (.arr .u8 32 [0,0,0,0,0,0,0,0,0,0,0,0,0,0,0,0,0,0,0,0,0,0,0,0,0,0,0,0,0,0,0,
  0]))]).seq (((PC.reg [mm 4 0,nn (.t 5) (.call 94 [.t 4])]).seq (PC.cond (.t 5) ((PC.reg [nn (.t 6) (.load 32 true (.v 3)),nn .no (.store 32 (.v 2)
  (.t 6))]).seq PC.ret) PC.skip)).seq (((PC.reg [mm 7 0,nn (.t 8) (.nilc (.t 7)),nn (.t 9) (.fadr 0 0 (.t 8)),nn (.t 10) (.load 1 false (.t 9)),nn
  (.t 11) (.len (.t 10)),nn (.t 12) (.bin .lss (.t 11) (.c (.v (.int .i64 32))))]).seq (PC.cond (.t 12) ((PC.reg [mm 13 0,nn (.t 14) (.nilc (.t 13)),
  nn (.t 15) (.fadr 1 1 (.t 14)),nn .no (.store 1 (.t 15) (.c (.v (.bool true))))]).seq ((PC.reg [nn (.t 16) (.load 32 true (.v 3)),nn .no (.store 32
  (.v 2) (.t 16))]).seq PC.ret)) PC.skip)).seq ((PC.regD 0 [nn (.t 17) (.slcA 32 true (.v 3) none none none),mm 18 0,nn (.t 19) (.nilc (.t 18)),nn
  (.t 20) (.fadr 0 0 (.t 19)),nn (.t 21) (.load 1 false (.t 20)),nn (.t 22) (.copy (.t 17) (.t 21))] []).seq ((PC.reg [mm 23 0,mm 24 0,nn (.t 25)
  (.nilc (.t 24)),nn (.t 26) (.fadr 0 0 (.t 25)),nn (.t 27) (.load 1 false (.t 26)),nn (.t 28) (.slcS 1 (.t 27) (some (.c (.v (.int .i64 32)))) none
  none),nn (.t 29) (.nilc (.t 23)),nn (.t 30) (.fadr 0 0 (.t 29)),nn .no (.store 1 (.t 30) (.t 28))]).seq ((PC.reg [nn (.t 31) (.load 32 true (.v
  3)),nn .no (.store 32 (.v 2) (.t 31))]).seq PC.ret))))))) [(.v 2,some (32,true))]
def pf121:PF:=
 PF.mk 1 3 5 ((PC.reg [nn (.v 2) (.mv true (.c (.v (.bool false))))]).seq ((PC.reg [mm 3 0,nn (.t 4) (.call 94 [.t 3]),ma 2 4]).seq PC.ret)) [(.v 2,
  none)]
def pf122:PF:=
 PF.mk 1 3 14 ((PC.reg [nn (.v 2) (.mv true (.c (.v (.bool false))))]).seq ((PC.reg [mm 3 0,nn (.t 4) (.call 94 [.t 3]),nn (.t 5) (.un .not (.t 4)),
  nn (.t 6) (.mv false (.t 5)),gm 7 0 6 true,⟨.t 8,.nilc (.t 7),some (.t 6,true)⟩,⟨.t 9,.fadr 0 0 (.t 8),some (.t 6,true)⟩,⟨.t 10,.load 1
  false (.t 9),some (.t 6,true)⟩,⟨.t 11,.len (.t 10),some (.t 6,true)⟩,⟨.t 12,.bin .eql (.t 11) (.c (.v (.int .i64 0))),some (.t 6,true)⟩,nn
  (.t 13) (.pick (.t 6) (.t 12) (.c (.v (.bool false)))),ma 2 13]).seq PC.ret)) [(.v 2,none)]
def pf47:PF:=
 PF.mk 1 3 7 ((PC.reg [nn (.v 2) (.mv true (.c (.v .nilp)))]).seq ((PC.reg [mm 3 0,nn (.t 4) (.call 79 [.t 3]),nn (.t 5) (.build (.agg [.nils,.bool
  false]) [(0,.t 4)]),nn (.t 6) (.newB (.t 5)),ma 2 6]).seq PC.ret)) [(.v 2,none)]
attribute [local irreducible] W Wops WopsD WL Wop WopD
variable {E:Env} {C:Abs.Spec} {l:List (Nat×Spec1)} {G:List (Nat×V)} {Q:R→List (Nat×V)→Prop}
set_option maxHeartbeats 1000000
def decR (b:List Int):Int×Int:=match decN b with
 |none=>(0,0)
 |some (n,k)=>((n:Int),(k:Int))
def SNb:Spec1
 |[.sli .u8 b],G,Q=>(Byt b∧b.length < 1000000000000)∧Q (.tup [.int .u64 (decR b).1,.int .i64 (decR b).2]) G
 |_,_,_=>False
theorem SNb_eq {b}:SNb [.sli .u8 b] G Q=((Byt b∧b.length < 1000000000000)∧Q (.tup [.int .u64 (decR b).1,.int .i64 (decR b).2]) G):=rfl
def SOff:Spec1
 |[.ptr id],G,Q=>∃b w,(Abs.look G id=some (.agg [.sli .u8 b,.bool w]))∧Q (.v (.bool w)) G
 |_,_,_=>False
theorem SOff_eq {id}:SOff [.ptr id] G Q=(∃b w,(Abs.look G id=some (.agg [.sli .u8 b,.bool w]))∧Q (.v (.bool w)) G):=rfl
def SNm:Spec1
 |[.ptr id],G,Q=>∃b w,(Abs.look G id=some (.agg [.sli .u8 b,.bool w])∧Byt b∧b.length < 1000000000000)∧Q (.v (.int .u64 (rdNum (b,w)).1)) (Abs.upd G id (Rd.v (rdNum (b,w)).2))
 |_,_,_=>False
theorem SNm_eq {id}:SNm [.ptr id] G Q=(∃b w,(Abs.look G id=some (.agg [.sli .u8 b,.bool w])∧Byt b∧b.length < 1000000000000)∧Q (.v (.int .u64 (rdNum (b,w)).1)) (Abs.upd G id (Rd.v (rdNum (b,w)).2))):=rfl
def SUp:Spec1
 |[.ptr id,.int .i64 top],G,Q=>∃b w n r w2,(Abs.look G id=some (.agg [.sli .u8 b,.bool w])∧Byt b∧b.length < 1000000000000∧(0≤top∧top < 9000000000000000000)∧rdUpto top (b,w)=(n,r,w2))∧Q (.v (.int .i64 n)) (Abs.upd G id (.agg [.sli .u8 r,.bool w2]))
 |_,_,_=>False
theorem SUp_eq {id top}:SUp [.ptr id,.int .i64 top] G Q=(∃b w n r w2,(Abs.look G id=some (.agg [.sli .u8 b,.bool w])∧Byt b∧b.length < 1000000000000∧(0≤top∧top < 9000000000000000000)∧rdUpto top (b,w)=(n,r,w2))∧Q (.v (.int .i64 n)) (Abs.upd G id (.agg [.sli .u8 r,.bool w2]))):=rfl
def SHs:Spec1
 |[.ptr id],G,Q=>∃b w hh r w2,(Abs.look G id=some (.agg [.sli .u8 b,.bool w])∧Byt b∧b.length < 1000000000000∧rdHash (b,w)=(hh,r,w2))∧Q (.v (.arr .u8 32 hh)) (Abs.upd G id (.agg [.sli .u8 r,.bool w2]))
 |_,_,_=>False
theorem SHs_eq {id}:SHs [.ptr id] G Q=(∃b w hh r w2,(Abs.look G id=some (.agg [.sli .u8 b,.bool w])∧Byt b∧b.length < 1000000000000∧rdHash (b,w)=(hh,r,w2))∧Q (.v (.arr .u8 32 hh)) (Abs.upd G id (.agg [.sli .u8 r,.bool w2]))):=rfl
def SDn:Spec1
 |[.ptr id],G,Q=>∃b w,(Abs.look G id=some (.agg [.sli .u8 b,.bool w]))∧Q (.v (.bool (!w&&decide (b.length=0)))) G
 |_,_,_=>False
theorem SDn_eq {id}:SDn [.ptr id] G Q=(∃b w,(Abs.look G id=some (.agg [.sli .u8 b,.bool w]))∧Q (.v (.bool (!w&&decide (b.length=0)))) G):=rfl
def SRd:Spec1
 |[x],G,Q=>∃b,(byV x=some b∧b.length < 1000000000000)∧∀id,Abs.look G id=none→Q (.v (.ptr id)) ((id,.agg [.sli .u8 b,.bool false])::G)
 |_,_,_=>False
theorem SRd_eq {x}:SRd [x] G Q=(∃b,(byV x=some b∧b.length < 1000000000000)∧∀id,Abs.look G id=none→Q (.v (.ptr id)) ((id,.agg [.sli .u8 b,.bool false])::G)):=rfl
theorem loop120 {b:List Int} {QQ:Ex→St→Prop} (hb:Byt b) (hl:b.length < 1000000000000)
  (hx:∀(acc:Int) (i:Nat) ts,decN b=none→QQ (.exit 0) ⟨[some (.v (.sli .u8 b)),none,none,none,some (.v (.int .u64 acc)),some (.v (.int .i64 i)),none],ts,[],G⟩)
  (hr:∀(n k acc c:Int) (i:Nat) ts,(n,k)=decR b→QQ .ret ⟨[some (.v (.sli .u8 b)),none,some (.v (.int .u64 n)),some (.v (.int .i64 k)),some (.v (.int .u64 acc)),some (.v (.int .i64 i)),some (.v (.int .u8 c))],ts,[],G⟩):
  ∀(m i acc:Nat),i+m=10→acc < 128 ^ i→decN b=decI i acc (b.drop i)→i≤b.length→WL (W E C lp120_0) [0,4,5] QQ (m+1) ⟨[some (.v (.sli .u8 b)),none,none,none,some (.v (.int .u64 acc)),some (.v (.int .i64 i)),none],[],[],G⟩:=by
 intro m
 induction m with
 |zero=>
  intro i acc hi ha hd hil
  obtain rfl:i=10:=by omega
  have hN:decN b=none:=by
   rw[hd];cases hq:b.drop 10 with
   |nil=>rfl
   |cons c r=>simp[decI]
  have h10:¬(10:Int) < 10:=by omega
  refine WL_in lp120_0.eq_1 ?_
  simp -implicitDefEqProofs only[h10,go_sem,↓reduceIte]
  repeat' first|(intro _)|constructor
  all_goals exact hx _ 10 _ hN
 |succ m ih=>
  intro i acc hi ha hd hil
  refine WL_in lp120_0.eq_1 ?_
  by_cases hlt:i < b.length
  ·have h1:(i:Int) < (b.length:Int):=by omega
   have h2:(i:Int) < 10:=by omega
   have h3:(0:Int)≤i:=by omega
   have hc:0≤b.getD i 0∧b.getD i 0≤255:=by
    have e:b.getD i 0=b[i]:=by simp[hlt]
    rw[e];exact hb _ (List.getElem_mem hlt)
   have hdr:=drop_cons hlt
   have hih:=ih (i+1)
   generalize hcd:b.getD i 0=c at*
   rw[hdr]at hd
   simp only[decI]at hd
   rw[if_neg (by omega)]at hd
   have ew:IntKind.i64.wrap ((i:Int)+1)=((i+1:Nat):Int):=by rw[w64 (by omega) (by omega)];simp
   have e7:IntKind.i64.wrap (7*(i:Int))=((7*i:Nat):Int):=by rw[w64 (by omega) (by omega)];simp
   have e7':(0:Int)≤((7*i:Nat):Int):=by omega
   have ea:=and127 hc
   have eu:IntKind.u64.wrap ((c.toNat % 128:Nat):Int)=((c.toNat % 128:Nat):Int):=w64u (by omega)
   by_cases hbad:(i=9∧1 < c)∨(0 < i∧c=0)
   ·rw[if_pos hbad]at hd
    have hR:((0:Int),(0:Int))=decR b:=by unfold decR;rw[hd]
    simp -implicitDefEqProofs only[h1,h2,h3,Int.toNat_natCast,hcd,go_sem,↓reduceIte]
    repeat' first|(intro _)|constructor
    all_goals first
     |exact hr 0 0 _ _ i _ hR
     |(exfalso;omega)
   ·rw[if_neg hbad]at hd
    have eo:bOr .u64 (acc:Int) (IntKind.u64.wrap (((c.toNat % 128:Nat):Int)*2 ^ (min (7*i) 64)))=((acc+(c.toNat % 128)*128 ^ i:Nat):Int):=or7 (by omega) ha (by omega) (by intro h9;omega)
    by_cases hlt8:c < 128
    ·rw[if_pos hlt8]at hd
     have hR:(((acc+(c.toNat % 128)*128 ^ i:Nat):Int),((i+1:Nat):Int))=decR b:=by
      unfold decR;rw[hd,show c.toNat % 128=c.toNat by omega]
     simp -implicitDefEqProofs only[h1,h2,h3,Int.toNat_natCast,hcd,ew,e7,e7',ea,eu,eo,hlt8,go_sem,↓reduceIte]
     repeat' first|(intro _)|constructor
     all_goals first
      |(exfalso;omega)
      |exact hr _ _ _ _ i _ hR
    ·rw[if_neg hlt8]at hd
     have hnn:c.toNat % 128=c.toNat-128:=by omega
     have hP:128 ^ (i+1)=128 ^ i*128:=Nat.pow_succ ..
     have hpos:=(pow_le9 (show i≤9 by omega)).1
     have ha2:acc+(c.toNat % 128)*128 ^ i < 128 ^ (i+1):=by
      have:(c.toNat % 128)*128 ^ i≤127*128 ^ i:=Nat.mul_le_mul_right _ (by omega)
      omega
     have ihh:=hih (acc+(c.toNat % 128)*128 ^ i) (by omega) ha2 (by rw[hd,hnn]) (by omega)
     simp -implicitDefEqProofs only[h1,h2,h3,Int.toNat_natCast,hcd,ew,e7,e7',ea,eu,eo,hlt8,go_sem,↓reduceIte]
     repeat' first|(intro _)|constructor
     all_goals first
      |(exfalso;omega)
      |exact ihh
  ·have h1:¬(i:Int) < (b.length:Int):=by omega
   have hN:decN b=none:=by
    rw[hd,List.drop_eq_nil_of_le (by omega)];simp[decI]
   simp -implicitDefEqProofs only[h1,go_sem,↓reduceIte]
   exact hx _ i _ hN
theorem walk120 {b:List Int} (hb:Byt b) (hl:b.length < 1000000000000) (h:Q (.tup [.int .u64 (decR b).1,.int .i64 (decR b).2]) G):Wf E C pf120 [.sli .u8 b] G Q:=by
 simp -implicitDefEqProofs only[pf120,go_sem,↓reduceIte]
 refine⟨11,?_⟩
 simp -implicitDefEqProofs only[go_sem,↓reduceIte]
 refine loop120 hb hl (fun acc i ts hN=> ?_) (fun n k acc c i ts hR=> ?_) 10 0 0 rfl (by decide) rfl (by omega)
 ·have e:decR b=(0,0):=by unfold decR;rw[hN]
  rw[e]at h
  simp -implicitDefEqProofs only[go_sem,↓reduceIte]
  exact h
 ·rw[←hR]at h
  simp -implicitDefEqProofs only[go_sem,↓reduceIte]
  exact h
theorem walk94 {id:Nat} {b:List Int} {w:Bool} (hG:Abs.look G id=some (.agg [.sli .u8 b,.bool w])) (h:Q (.v (.bool w)) G):Wf E C pf94 [.ptr id] G Q:=by
 simp -implicitDefEqProofs only[pf94,hG,go_sem,↓reduceIte]
 exact h
theorem walk121 {id:Nat} {b:List Int} {w:Bool} (h58:Abs.look l 94=some SOff) (hG:Abs.look G id=some (.agg [.sli .u8 b,.bool w])) (h:Q (.v (.bool w)) G):Wf E (specOf l) pf121 [.ptr id] G Q:=by
 simp -implicitDefEqProofs only[pf121,h58,SOff_eq,go_sem,↓reduceIte]
 exact⟨b,w,hG,h⟩
theorem walk122 {id:Nat} {b:List Int} {w:Bool} (h58:Abs.look l 94=some SOff) (hG:Abs.look G id=some (.agg [.sli .u8 b,.bool w])) (h:Q (.v (.bool (!w&&decide (b.length=0)))) G):Wf E (specOf l) pf122 [.ptr id] G Q:=by
 simp -implicitDefEqProofs only[pf122,h58,SOff_eq,go_sem,↓reduceIte]
 refine⟨b,w,hG,?_⟩
 cases w with
 |true=>try simp -implicitDefEqProofs only[go_sem,↓reduceIte];exact finB h (by simp)
 |false=>simp -implicitDefEqProofs only[hG,go_sem,↓reduceIte];exact finB h (by simp)
theorem walk95 {id:Nat} {b:List Int} {w:Bool} (h58:Abs.look l 94=some SOff) (h68:Abs.look l 120=some SNb) (hG:Abs.look G id=some (.agg [.sli .u8 b,.bool w])) (hb:Byt b) (hl:b.length < 1000000000000)
  (h:Q (.v (.int .u64 (rdNum (b,w)).1)) (Abs.upd G id (Rd.v (rdNum (b,w)).2))):Wf E (specOf l) pf95 [.ptr id] G Q:=by
 simp -implicitDefEqProofs only[pf95,h58,SOff_eq,go_sem,↓reduceIte]
 refine⟨b,w,hG,?_⟩
 cases w with
 |true=>
  have e:rdNum (b,true)=(0,(b,true)):=rfl
  rw[e,show Rd.v (b,true)= .agg [.sli .u8 b,.bool true]from rfl,upd_self hG]at h
  simp -implicitDefEqProofs only[go_sem,↓reduceIte]
  exact h
 |false=>
  cases hd:decN b with
  |none=>
   have e:rdNum (b,false)=(0,(b,true)):=by unfold rdNum;simp only[hd];rfl
   have eR:decR b=(0,0):=by unfold decR;rw[hd]
   rw[e]at h
   simp -implicitDefEqProofs only[hG,h68,SNb_eq,eR,upd_upd,go_sem,↓reduceIte]
   repeat' (first|assumption|omega|rfl|refine⟨?_,?_⟩)
  |some p=>
   obtain⟨n,k⟩:=p
   obtain⟨h1,h2,h3,h4⟩:=decN_spec hb hd
   have hk:=num_pos n
   have hk0:¬(k:Int)=0:=by omega
   have e:rdNum (b,false)=(n,(b.drop k,false)):=by unfold rdNum;simp only[hd];rfl
   have eR:decR b=((n:Int),(k:Int)):=by unfold decR;rw[hd]
   rw[e]at h
   have ht:b.take b.length=b:=List.take_of_length_le (Nat.le_refl _)
   simp -implicitDefEqProofs only[hG,h68,SNb_eq,eR,hk0,upd_upd,Int.toNat_natCast,ht,go_sem,↓reduceIte]
   repeat' (first|assumption|omega|rfl|refine⟨?_,?_⟩)
theorem walk48 {id:Nat} {b:List Int} {w:Bool} {top:Int} (h58:Abs.look l 94=some SOff) (h59:Abs.look l 95=some SNm) (hG:Abs.look G id=some (.agg [.sli .u8 b,.bool w])) (hb:Byt b) (hl:b.length < 1000000000000) (ht:0≤top∧top < 9000000000000000000)
  (h:Q (.v (.int .i64 (rdUpto top (b,w)).1)) (Abs.upd G id (Rd.v (rdUpto top (b,w)).2))):Wf E (specOf l) pf48 [.ptr id,.int .i64 top] G Q:=by
 simp -implicitDefEqProofs only[pf48,h58,SOff_eq,go_sem,↓reduceIte]
 refine⟨b,w,hG,?_⟩
 have hnt:¬top < 0:=by omega
 have et:IntKind.u64.wrap top=top:=by simp only[IntKind.wrap,IntKind.bits,IntKind.signed];simp;omega
 cases w with
 |true=>
  have e:rdUpto top (b,true)=(0,(b,true)):=rfl
  rw[e,show Rd.v (b,true)= .agg [.sli .u8 b,.bool true]from rfl,upd_self hG]at h
  simp -implicitDefEqProofs only[go_sem,↓reduceIte]
  exact h
 |false=>
  cases hd:decN b with
  |none=>
   have e:rdUpto top (b,false)=(0,(b,true)):=by unfold rdUpto;simp only[hd];rfl
   have eN:rdNum (b,false)=(0,(b,true)):=by unfold rdNum;simp only[hd];rfl
   have hG2:Abs.look (Abs.upd G id (.agg [.sli .u8 b,.bool true])) id=some (.agg [.sli .u8 b,.bool true]):=look_upd_same hG
   rw[e]at h
   simp -implicitDefEqProofs only[hG,h59,SNm_eq,go_sem,↓reduceIte]
   refine⟨b,false,⟨by first|exact hG|rfl,hb,hl⟩,?_⟩
   rw[eN]
   unfold Rd.v at*
   have hG3:Abs.look (Abs.upd G id (.agg [.sli .u8 b,.bool true])) id=some (.agg [.sli .u8 b,.bool true]):=look_upd_same hG
   simp -implicitDefEqProofs only[hG2,upd_upd,go_sem,↓reduceIte]
   exact h
  |some p=>
   obtain⟨n,k⟩:=p
   have eN:rdNum (b,false)=(n,(b.drop k,false)):=by unfold rdNum;simp only[hd];rfl
   have hG2:Abs.look (Abs.upd G id (.agg [.sli .u8 (b.drop k),.bool false])) id=some (.agg [.sli .u8 (b.drop k),.bool false]):=look_upd_same hG
   by_cases hn:top < (n:Int)
   ·have e:rdUpto top (b,false)=(0,(b,true)):=by unfold rdUpto;rw[if_neg (fun e=>by cases e)];simp only[hd];rw[if_pos (.inr hn)]
    have hG3:Abs.look (Abs.upd G id (.agg [.sli .u8 b,.bool false])) id=some (.agg [.sli .u8 b,.bool false]):=look_upd_same hG
    rw[e]at h
    simp -implicitDefEqProofs only[hG,h59,SNm_eq,go_sem,↓reduceIte]
    refine⟨b,false,⟨by first|exact hG|rfl,hb,hl⟩,?_⟩
    rw[eN]
    unfold Rd.v at*
    simp -implicitDefEqProofs only[hG2,hG3,hnt,et,hn,upd_upd,go_sem,↓reduceIte]
    exact h
   ·have e:rdUpto top (b,false)=((n:Int),(b.drop k,false)):=by unfold rdUpto;rw[if_neg (fun e=>by cases e)];simp only[hd];rw[if_neg (by omega)]
    have en:IntKind.i64.wrap (n:Int)=n:=w64 (by omega) (by omega)
    rw[e]at h
    simp -implicitDefEqProofs only[hG,h59,SNm_eq,go_sem,↓reduceIte]
    refine⟨b,false,⟨by first|exact hG|rfl,hb,hl⟩,?_⟩
    rw[eN]
    unfold Rd.v at*
    simp -implicitDefEqProofs only[hG2,hnt,et,hn,upd_upd,en,go_sem,↓reduceIte]
    exact h
theorem walk98 {id:Nat} {b:List Int} {w:Bool} (h58:Abs.look l 94=some SOff) (hG:Abs.look G id=some (.agg [.sli .u8 b,.bool w])) (hb:Byt b) (hl:b.length < 1000000000000)
  (h:Q (.v (.arr .u8 32 (rdHash (b,w)).1)) (Abs.upd G id (Rd.v (rdHash (b,w)).2))):Wf E (specOf l) pf98 [.ptr id] G Q:=by
 simp -implicitDefEqProofs only[pf98,h58,SOff_eq,go_sem,↓reduceIte]
 refine⟨b,w,hG,?_⟩
 cases w with
 |true=>
  have e:rdHash (b,true)=(zero32,(b,true)):=rfl
  rw[e,show Rd.v (b,true)= .agg [.sli .u8 b,.bool true]from rfl,upd_self hG]at h
  simp -implicitDefEqProofs only[go_sem,↓reduceIte]
  exact h
 |false=>
  by_cases h32:b.length < 32
  ·have e:rdHash (b,false)=(zero32,(b,true)):=by unfold rdHash;simp only[h32];rfl
   have h32':(b.length:Int) < 32:=by omega
   rw[e]at h
   simp -implicitDefEqProofs only[hG,h32',go_sem,↓reduceIte]
   exact h
  ·have e:rdHash (b,false)=(b.take 32,(b.drop 32,false)):=by unfold rdHash;simp only[h32];rfl
   have h32':¬(b.length:Int) < 32:=by omega
   have ht:b.take b.length=b:=List.take_of_length_le (Nat.le_refl _)
   have e2:b.take 32++List.drop b.length zz2=b.take 32:=by
    rw[List.drop_eq_nil_of_le (by simp;omega),List.append_nil]
   rw[e]at h
   simp -implicitDefEqProofs only[hG,h32',ht,e2,Int.toNat_natCast,go_sem,↓reduceIte]
   repeat' (first|assumption|omega|rfl|refine⟨?_,?_⟩)
theorem walk47 {b:List Int} (h50:Abs.look l 79=some SCl) (hb:b.length < 1000000000000) (h:∀id,Abs.look G id=none→Q (.v (.ptr id)) ((id,.agg [.sli .u8 b,.bool false])::G)):Wf E (specOf l) pf47 [.sli .u8 b] G Q:=by
 simp -implicitDefEqProofs only[pf47,h50,SCl_eq,go_sem,↓reduceIte]
 exact⟨b,⟨rfl,by omega⟩,h⟩
def lp15_0:PC:=
 ((PC.reg [mm 11 5,mm 12 0,nn (.t 13) (.len (.t 12)),nn (.t 14) (.bin .lss (.t 11) (.t 13))]).seq (PC.cond (.t 14) PC.skip (PC.exit 0))).seq
  ((PC.block 1 ((PC.regD 0 [mm 17 0,mm 18 5,nn (.t 19) (.iadrS 1 (.t 17) (.t 18)),nn (.t 20) (.load 1 false (.t 19)),mm 21 1,mm 22 5,nn (.t 23)
  (.iadrS 1 (.t 21) (.t 22)),nn (.t 24) (.load 1 false (.t 23)),nn (.t 25) (.bin .neq (.t 20) (.t 24))] []).seq (PC.cond (.t 25) ((PC.reg [nn (.v 4)
  (.mv true (.c (.v (.bool false))))]).seq PC.ret) PC.skip))).seq (PC.reg [mm 15 5,nn (.t 16) (.bin .add (.t 15) (.c (.v (.int .i64 1)))),ma 5 16]))
def pf15:PF:=
 PF.mk 2 6 26 ((PC.reg [nn (.v 4) (.mv true (.c (.v (.bool false))))]).seq (((PC.reg [mm 6 0,nn (.t 7) (.len (.t 6)),mm 8 1,nn (.t 9) (.len (.t 8)),
  nn (.t 10) (.bin .neq (.t 7) (.t 9))]).seq (PC.cond (.t 10) ((PC.reg [nn (.v 4) (.mv true (.c (.v (.bool false))))]).seq PC.ret) PC.skip)).seq
  (((PC.reg [nn (.v 5) (.mv true (.c (.v (.int .i64 0))))]).seq (PC.block 0 (PC.loop [0,1,5] lp15_0))).seq ((PC.reg [nn (.v 4) (.mv true (.c (.v
  (.bool true))))]).seq PC.ret)))) [(.v 4,none)]
def SSm:Spec1
 |[x,y],G,Q=>∃a b,(byV x=some a∧byV y=some b∧a.length < 1000000000000∧b.length < 1000000000000)∧Q (.v (.bool (decide (a=b)))) G
 |_,_,_=>False
theorem SSm_eq {x y}:SSm [x,y] G Q=(∃a b,(byV x=some a∧byV y=some b∧a.length < 1000000000000∧b.length < 1000000000000)∧Q (.v (.bool (decide (a=b)))) G):=rfl
theorem loop15 {a b:List Int} {QQ:Ex→St→Prop} (hl:a.length=b.length) (hal:a.length < 1000000000000)
  (hx:∀(i:Nat) ts,a=b→QQ (.exit 0) ⟨[some (.v (.sli .u8 a)),some (.v (.sli .u8 b)),none,none,none,some (.v (.int .i64 i))],ts,[],G⟩)
  (hr:∀(i:Nat) ts,a≠b→QQ .ret ⟨[some (.v (.sli .u8 a)),some (.v (.sli .u8 b)),none,none,some (.v (.bool false)),some (.v (.int .i64 i))],ts,[],G⟩):
  ∀(m i:Nat),i+m=a.length→a.take i=b.take i→WL (W E C lp15_0) [0,1,5] QQ (m+1) ⟨[some (.v (.sli .u8 a)),some (.v (.sli .u8 b)),none,none,none,some (.v (.int .i64 i))],[],[],G⟩:=by
 intro m
 induction m with
 |zero=>
  intro i hi he
  have h1:¬(i:Int) < (a.length:Int):=by omega
  have e:a=b:=by
   rw[List.take_of_length_le (by omega),List.take_of_length_le (by omega)]at he;exact he
  refine WL_in lp15_0.eq_1 ?_
  simp -implicitDefEqProofs only[h1,go_sem,↓reduceIte]
  exact hx i _ e
 |succ m ih=>
  intro i hi he
  have h1:(i:Int) < (a.length:Int):=by omega
  have h2:(i:Int) < (b.length:Int):=by omega
  have h0:(0:Int)≤i:=by omega
  have ew:IntKind.i64.wrap ((i:Int)+1)=((i+1:Nat):Int):=by rw[w64 (by omega) (by omega)];simp
  refine WL_in lp15_0.eq_1 ?_
  have ta:=snoc_step' (b:=a) (i:=i) (by omega)
  have tb:=snoc_step' (b:=b) (i:=i) (by omega)
  by_cases hc:a.getD i 0=b.getD i 0
  ·have ihh:=ih (i+1) (by omega) (by rw[←ta,←tb,he,hc])
   simp -implicitDefEqProofs only[h0,h1,h2,Int.toNat_natCast,hc,ew,go_sem,↓reduceIte]
   exact ihh
  ·have hne:a≠b:=by rintro rfl;exact hc rfl
   have hc':(a.getD i 0=b.getD i 0)=False:=eq_false hc
   simp -implicitDefEqProofs only[h0,h1,h2,Int.toNat_natCast,hc',ew,go_sem,↓reduceIte]
   exact hr i _ hne
theorem walk15 {a b:List Int} (hal:a.length < 1000000000000) (hbl:b.length < 1000000000000) (h:Q (.v (.bool (decide (a=b)))) G):Wf E C pf15 [.sli .u8 a,.sli .u8 b] G Q:=by
 by_cases hl:a.length=b.length
 ·have hl':(a.length:Int)=b.length:=by omega
  simp -implicitDefEqProofs only[pf15,hl',go_sem,↓reduceIte]
  refine⟨a.length+1,?_⟩
  simp -implicitDefEqProofs only[go_sem,↓reduceIte]
  refine loop15 hl hal (fun i ts e=> ?_) (fun i ts e=> ?_) a.length 0 (by omega) rfl
  ·simp -implicitDefEqProofs only[go_sem,↓reduceIte]
   exact finB h (by simp[e])
  ·simp -implicitDefEqProofs only[go_sem,↓reduceIte]
   exact finB h (by simp[e])
 ·have hl':((a.length:Int)=b.length)=False:=by simp;omega
  simp -implicitDefEqProofs only[pf15,hl',go_sem,↓reduceIte]
  refine finB h ?_
  have:a≠b:=by rintro rfl;exact hl rfl
  simp[this]
end Go.Proofs.Ytegamlopcdjiaaa.Sha
