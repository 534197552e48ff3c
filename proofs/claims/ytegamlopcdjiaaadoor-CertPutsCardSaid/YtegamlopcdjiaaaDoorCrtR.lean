/- Certificates that are put and read. -/
import Derived.Test.YtegamlopcdjiaaaDoorG12
namespace Go.Abs
open Go Go.RowKit
set_option linter.unusedVariables false
set_option linter.unusedSimpArgs false
namespace Sha
def CertS.one (c:CertS):AttS:={ c.att with who:=1,ta:=zero32 }
def CertS.May (c:CertS):Prop:=c.one.May∧c.att.who=0∧c.att.ta=zero32∧c.sigs≠[]∧riseI 21 0 (c.sigs.map (·.1))=true
instance (c:CertS):Decidable c.May:=by unfold CertS.May;infer_instance
def CertS.may (c:CertS):Bool:=decide c.May
def CertS.ok (c:CertS):Prop:=c.att.wf∧(∀p∈c.sigs,I64 p.1∧H32 p.2)
def sigB:List (Int×List Int)→List Int
 |[]=>[]
 |p::l=>num p.1.toNat++p.2++sigB l
theorem sigB_ok:∀{l:List (Int×List Int)},(∀p∈l,(0≤p.1∧p.1≤21)∧H32 p.2)→Byt (sigB l)∧(sigB l).length≤42*l.length
 |[],_=>⟨byt_nil,by simp[sigB]⟩
 |p::l,h=>by
  obtain⟨h1,h2⟩:=h p (List.mem_cons_self ..)
  obtain⟨r1,n1⟩:=num_ok (n:=p.1.toNat) (by omega)
  obtain⟨i1,i2⟩:=sigB_ok (l:=l) fun q hq=>h q (List.mem_cons_of_mem _ hq)
  refine⟨byt_app (byt_app r1 h2.1) i1,?_⟩
  have:=h2.2
  simp only[sigB,List.length_append,List.length_cons];omega
def CertS.bytes (c:CertS):List Int:=c.att.said++num c.sigs.length++sigB c.sigs
def rdSigs:Nat→Rd→List (Int×List Int)×Rd
 |0,s=>([],s)
 |k+1,s=>(((rdUpto 21 s).1,(rdHash (rdUpto 21 s).2).1)::(rdSigs k (rdHash (rdUpto 21 s).2).2).1,(rdSigs k (rdHash (rdUpto 21 s).2).2).2)
structure RdSigs (b:List Int) (k:Nat) (l:List (Int×List Int)) (r:List Int):Prop where
 num:∀p∈l,(0≤p.1∧p.1≤21)∧H32 p.2
 cnt:l.length=k
 byt:Byt r
 len:r.length≤b.length
 suf:∃u,b=u++r
theorem rdSigs_all:∀{k:Nat} {b r:List Int} {l:List (Int×List Int)} {w w':Bool},rdSigs k (b,w)=(l,r,w')→Byt b→RdSigs b k l r
 |0,b,r,l,w,w',e,hb=>by
  simp only[rdSigs,Prod.mk.injEq]at e
  obtain⟨rfl,rfl,rfl⟩:=e
  exact⟨(fun x hx=>by cases hx),rfl,hb,Nat.le_refl _,⟨[],rfl⟩⟩
 |k+1,b,r,l,w,w',e,hb=>by
  rcases e1:rdUpto 21 (b,w)with⟨n1,r1,w1⟩
  rcases e2:rdHash (r1,w1)with⟨n2,r2,w2⟩
  rcases e3:rdSigs k (r2,w2)with⟨l3,r3,w3⟩
  simp only[rdSigs,e1,e2,e3,Prod.mk.injEq]at e
  obtain⟨rfl,rfl,rfl⟩:=e
  obtain⟨a1,a2,a3,a4,⟨u1,a5⟩,_⟩:=rdUpto_all e1 hb (by omega)
  obtain⟨b1,b2,b3,⟨u2,b5⟩,_⟩:=rdHash_all e2 a1
  have ih:=rdSigs_all e3 b1
  obtain⟨u3,hu⟩:=ih.suf
  refine⟨fun x hx=> ?_,by rw[List.length_cons,ih.cnt],ih.byt,by have:=ih.len;omega,⟨u1++u2++u3,by simp only[List.append_assoc];rw[←hu,←b5,←a5]⟩⟩
  rcases List.mem_cons.1 hx with rfl|hx
  ·exact⟨⟨a3,a4⟩,b3⟩
  ·exact ih.num x hx
theorem rdSigs_of:∀{l:List (Int×List Int)} {r:List Int},(∀p∈l,(0≤p.1∧p.1≤21)∧H32 p.2)→rdSigs l.length (sigB l++r,false)=(l,(r,false))
 |[],r,_=>rfl
 |p::l,r,h=>by
  obtain⟨hx,hh⟩:=h p (List.mem_cons_self ..)
  have e1:=rdUpto_of (top:=21) (n:=p.1.toNat) (r:=p.2++(sigB l++r)) (by omega) (by omega)
  rw[show ((p.1.toNat:Nat):Int)=p.1 by omega]at e1
  have e2:=rdHash_of (h:=p.2) (r:=sigB l++r) hh.2
  have e3:=rdSigs_of (l:=l) (r:=r) fun y hy=>h y (List.mem_cons_of_mem _ hy)
  simp only[List.length_cons,sigB,List.append_assoc,rdSigs,e1,e2,e3]
theorem rdSigs_snoc:∀{k:Nat} {s:Rd},rdSigs (k+1) s=((rdSigs k s).1++[((rdUpto 21 (rdSigs k s).2).1,(rdHash (rdUpto 21 (rdSigs k s).2).2).1)],(rdHash (rdUpto 21 (rdSigs k s).2).2).2)
 |0,s=>rfl
 |k+1,s=>by
  rw[rdSigs,rdSigs_snoc]
  simp only[rdSigs,List.cons_append]
def rdCert (s:Rd):CertS×Rd:=
 let p1:=rdUpto 3 s
 let p2:=rdUpto 1099511627776 p1.2
 let p3:=rdUpto 3 p2.2
 let p4:=rdHash p3.2
 let p5:=rdUpto 1099511627776 p4.2
 let p6:=rdHash p5.2
 let p7:=rdUpto 21 p6.2
 let p8:=rdSigs p7.1.toNat p7.2
 (⟨⟨0,p1.1,p2.1,p3.1,p4.1,p5.1,p6.1,zero32⟩,p8.1⟩,p8.2)
structure RdCert (b:List Int) (c:CertS) (r:List Int):Prop where
 wf:c.ok
 cnt:c.sigs.length≤21
 byt:Byt r
 len:r.length≤b.length
 suf:∃u,b=u++r
theorem rdCert_all {b r:List Int} {w w':Bool} {c:CertS} (e:rdCert (b,w)=(c,r,w')) (hb:Byt b):RdCert b c r:=by
 unfold rdCert at e
 rcases e1:rdUpto 3 (b,w)with⟨n1,r1,w1⟩
 rcases e2:rdUpto 1099511627776 (r1,w1)with⟨n2,r2,w2⟩
 rcases e3:rdUpto 3 (r2,w2)with⟨n3,r3,w3⟩
 rcases e4:rdHash (r3,w3)with⟨n4,r4,w4⟩
 rcases e5:rdUpto 1099511627776 (r4,w4)with⟨n5,r5,w5⟩
 rcases e6:rdHash (r5,w5)with⟨n6,r6,w6⟩
 rcases e7:rdUpto 21 (r6,w6)with⟨n7,r7,w7⟩
 rcases e8:rdSigs n7.toNat (r7,w7)with⟨n8,r8,w8⟩
 simp only[e1,e2,e3,e4,e5,e6,e7,e8,Prod.mk.injEq]at e
 obtain⟨rfl,rfl,rfl⟩:=e
 obtain⟨a1,a2,a3,a4,⟨u1,a5⟩,_⟩:=rdUpto_all e1 hb (by omega)
 obtain⟨b1,b2,b3,b4,⟨u2,b5⟩,_⟩:=rdUpto_all e2 a1 (by omega)
 obtain⟨c1,c2,c3,c4,⟨u3,c5⟩,_⟩:=rdUpto_all e3 b1 (by omega)
 obtain⟨d1,d2,d3,⟨u4,d5⟩,_⟩:=rdHash_all e4 c1
 obtain⟨f1,f2,f3,f4,⟨u5,f5⟩,_⟩:=rdUpto_all e5 d1 (by omega)
 obtain⟨g1,g2,g3,⟨u6,g5⟩,_⟩:=rdHash_all e6 f1
 obtain⟨k1,k2,k3,k4,⟨u7,k5⟩,_⟩:=rdUpto_all e7 g1 (by omega)
 have m:=rdSigs_all e8 k1
 obtain⟨u8,m5⟩:=m.suf
 have ml:=m.len
 have q0:I64 (0:Int):=i64_of (by omega) (by omega)
 have q1:I64 n1:=i64_of a3 (by omega)
 have q2:I64 n2:=i64_of b3 (by omega)
 have q3:I64 n3:=i64_of c3 (by omega)
 have q5:I64 n5:=i64_of f3 (by omega)
 refine⟨⟨⟨q0,q1,q2,q3,q5,d3,g3,h32_zero⟩,fun p hp=>⟨i64_of (m.num p hp).1.1 (by have:=(m.num p hp).1.2;omega),(m.num p hp).2⟩⟩,by show n8.length≤21;rw[m.cnt];omega,m.byt,by omega,?_⟩
 exact⟨u1++u2++u3++u4++u5++u6++u7++u8,by simp only[List.append_assoc];rw[←m5,←k5,←g5,←f5,←d5,←c5,←b5,←a5]⟩
theorem CertS.may_len {c:CertS} (h:c.May):c.sigs.length≤21∧0 < c.sigs.length∧∀p∈c.sigs,0 < p.1∧p.1≤21:=by
 obtain⟨_,_,_,h4,h5⟩:=h
 refine⟨?_,List.length_pos_iff.2 h4,fun p hp=>riseI_all h5 _ (List.mem_map_of_mem hp)⟩
 rcases riseI_len h5 with h|h
 ·rw[List.map_eq_nil_iff.1 h];decide
 ·rw[List.length_map]at h;omega
theorem CertS.sigs_in {c:CertS} (hw:c.ok) (h:c.May):∀p∈c.sigs,(0≤p.1∧p.1≤21)∧H32 p.2:=fun p hp=>by
 have:=(CertS.may_len h).2.2 p hp
 exact⟨by omega,(hw.2 p hp).2⟩
theorem rdCert_of {c:CertS} {r:List Int} (hw:c.ok) (hm:c.May):rdCert (c.bytes++r,false)=(c,(r,false)):=by
 obtain⟨l1,l2,l3⟩:=CertS.may_len hm
 have hs:=CertS.sigs_in hw hm
 obtain⟨m1,m2,m3,m4,m5⟩:=hm
 obtain⟨m1a,m1b,m1c,m1d,m1e,m1f⟩:=m1
 obtain⟨⟨a1,a2,a3,a4,a5,a6,a7,a8⟩,sg⟩:=c
 unfold CertS.one at m1a m1b m1c m1d m1e m1f
 dsimp only at*
 unfold rdCert CertS.bytes
 simp only[AttS.said,List.append_assoc]
 have T:∀{n top:Int} {r:List Int},0≤n→n≤top→n≤1099511627776→rdUpto top (num n.toNat++r,false)=(n,(r,false)):=by
  intro n top r h1 h2 h3
  have:=rdUpto_of (top:=top) (n:=n.toNat) (r:=r) (by omega) (by omega)
  rw[this,show ((n.toNat:Nat):Int)=n by omega]
 have T7:∀{r:List Int},rdUpto 21 (num sg.length++r,false)=((sg.length:Int),(r,false)):=fun {r}=>rdUpto_of (by omega) (by omega)
 rw[T (by omega) (by omega) (by omega)];simp only
 rw[T (by omega) (by omega) (by omega)];simp only
 rw[T (by omega) (by omega) (by omega)];simp only
 rw[rdHash_of hw.1.ha.2];simp only
 rw[T (by omega) (by omega) (by omega)];simp only
 rw[rdHash_of hw.1.pa.2];simp only
 rw[T7];simp only[Int.toNat_natCast]
 rw[rdSigs_of hs]
 subst m2;subst m3;rfl
theorem CertS.bytes_ok {c:CertS} (hw:c.ok) (hm:c.May):Byt c.bytes∧c.bytes.length≤1100:=by
 have hl:=(CertS.may_len hm).1
 have hs:=sigB_ok (CertS.sigs_in hw hm)
 have h1:c.one.wf:=⟨i64_of (by show (0:Int)≤1;decide) (by show (1:Int)≤1099511627776;decide),hw.1.ki,hw.1.vi,hw.1.ph,hw.1.pv,hw.1.ha,hw.1.pa,h32_zero⟩
 obtain⟨s1,s2⟩:=AttS.said_ok h1 hm.1
 obtain⟨r1,n1⟩:=num_ok (n:=c.sigs.length) (by omega)
 refine⟨byt_app (byt_app s1 r1) hs.1,?_⟩
 have s3:c.att.said.length≤104:=s2
 have:=hs.2
 simp only[CertS.bytes,List.length_append];omega
def certR (c:CertS) (w:Bool):CertS:=if (!w&&c.may)=true then c else .zero
end Sha
end Go.Abs
