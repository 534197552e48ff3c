/- Laws over plain values, and what functions of the program hand back; no conditions. -/
import Derived.Test.YtegamlopcdjiaaaG9
import Derived.Test.YtegamlopcdjiaaaG5
import Derived.Test.YtegamlopcdjiaaaG7
namespace Go.Proofs.Ytegamlopcdjiaaa.Sha
open Go Go.Abs Go.Abs.Sha Go.Abs.Srt
set_option linter.unusedSimpArgs false
set_option linter.unusedVariables false
set_option maxRecDepth 100000
attribute [local irreducible] W Wops WopsD WL Wop WopD
variable {E:Env} {C:Abs.Spec} {l:List (Nat×Spec1)} {G:List (Nat×V)} {Q:R→List (Nat×V)→Prop}
set_option maxHeartbeats 1000000
theorem low_accu3 {G0 G:List (Nat×V)} {z x:V} {els:List Int} {s a b c d t e:V} (h:Row G0 G 1 z x (els.map (V.int .i64))):Low G0 (.tup [s,.agg [a,b,c,d,x,t],e]) G (.tup [s,.agg [a,b,c,d,.sli .i64 els,t],e]) G0:=by
 refine h.fzI (fun y=> .tup [s,.agg [a,b,c,d,y,t],e]) (fun id L k y hy=> ?_) (fun y hy=> ?_)
 ·simp only[R.Fz]
  refine⟨_,rfl,?_⟩
  unfold V.FzL;refine⟨_,_,rfl,V.Fz.refl _,?_⟩
  unfold V.FzL;refine⟨_,_,rfl,?_,V.FzL.refl _⟩
  unfold V.Fz;refine⟨_,rfl,?_⟩
  unfold V.FzL;refine⟨_,_,rfl,V.Fz.refl _,?_⟩
  unfold V.FzL;refine⟨_,_,rfl,V.Fz.refl _,?_⟩
  unfold V.FzL;refine⟨_,_,rfl,V.Fz.refl _,?_⟩
  unfold V.FzL;refine⟨_,_,rfl,V.Fz.refl _,?_⟩
  unfold V.FzL;refine⟨_,_,rfl,hy,V.FzL.refl _⟩
 ·simp only[R.Wk]
  refine⟨_,rfl,?_⟩
  unfold V.WkL;refine⟨_,_,rfl,V.Wk.refl _,?_⟩
  unfold V.WkL;refine⟨_,_,rfl,?_,V.WkL.refl _⟩
  unfold V.Wk;refine⟨_,rfl,?_⟩
  unfold V.WkL;refine⟨_,_,rfl,V.Wk.refl _,?_⟩
  unfold V.WkL;refine⟨_,_,rfl,V.Wk.refl _,?_⟩
  unfold V.WkL;refine⟨_,_,rfl,V.Wk.refl _,?_⟩
  unfold V.WkL;refine⟨_,_,rfl,V.Wk.refl _,?_⟩
  unfold V.WkL;refine⟨_,_,rfl,hy,V.WkL.refl _⟩
theorem loop63 (hU:Abs.look l 58=some SRu) {QQ:Ex→St→Prop} {k:Nat} {n1 n2 n3:Int} {n4 b t5 r5:List Int} {w5:Bool} {p1 p2:Bx} (h5:b=t5++r5) (hb:Byt b) (hl:b.length < 100000000000) (hk:k≤21)
  (hx:∀ts G' x l2 r w Lt,rdMany k (r5,w5)=(l2,r,w)→Row G G' 1 (.int .i64 0) x (l2.map (V.int .i64))→QQ (.exit 0) ⟨[none,some (.lp 0 []),some (.lp 1 []),some (.lp 2 []),none,some (.lp 3 []),some (.v (.int .i64 (k:Nat))),some (.v (.int .i64 (k:Nat))),none,none],ts,⟨false,.agg [.sli .u8 b,.int .i64 ((b.length:Int)-(r.length:Int)),.bool w]⟩::p1::p2::⟨false,.agg [.int .i64 n1,.int .i64 n2,.int .i64 n3,.arr .u8 32 n4,x,.arr .u8 32 zz2]⟩::Lt,G'⟩):
  ∀(e j:Nat) (G':List (Nat×V)) (x:V) (l2 r:List Int) (w:Bool) (Lt:List Bx),j+e=k→rdMany j (r5,w5)=(l2,r,w)→Row G G' 1 (.int .i64 0) x (l2.map (V.int .i64))→
   WL (W E (specOf l) lp63_0) [1,2,3,5,6,7] QQ (e+1) ⟨[none,some (.lp 0 []),some (.lp 1 []),some (.lp 2 []),none,some (.lp 3 []),some (.v (.int .i64 (k:Nat))),some (.v (.int .i64 (j:Nat))),none,none],[],⟨false,.agg [.sli .u8 b,.int .i64 ((b.length:Int)-(r.length:Int)),.bool w]⟩::p1::p2::⟨false,.agg [.int .i64 n1,.int .i64 n2,.int .i64 n3,.arr .u8 32 n4,x,.arr .u8 32 zz2]⟩::Lt,G'⟩:=by
 have hb5:Byt r5:=fun x hx=>hb x (by rw[h5];exact List.mem_append_right _ hx)
 have hl5:r5.length≤b.length:=by rw[h5,List.length_append];omega
 intro e
 induction e with
 |zero=>
  intro j G' x l2 r w Lt hj he hrow
  obtain rfl:j=k:=by omega
  refine WL_in lp63_0.eq_1 ?_
  simp -implicitDefEqProofs only[Int.lt_irrefl,go_sem,↓reduceIte]
  exact hx _ _ _ _ _ _ _ he hrow
 |succ e ih=>
  intro j G' x l2 r w Lt hj he hrow
  have c1:(j:Int) < (k:Int):=by omega
  have w1:IntKind.i64.wrap ((j:Int)+1)=((j+1:Nat):Int):=wc (by omega) (by omega)
  have many:=rdMany_all he hb5
  have ml:=many.len
  obtain⟨um,hum⟩:=many.suf
  have hbr:b=(t5++um)++r:=by rw[List.append_assoc,←hum];exact h5
  have hlr:((b.length:Int)-(r.length:Int))=((t5++um).length:Int):=by rw[hbr];simp only[List.length_append];omega
  rcases e1:rdUpto 21 (r,w)with⟨n,r2,w2⟩
  have he2:rdMany (j+1) (r5,w5)=(l2++[n],r2,w2):=by rw[rdMany_snoc,he];simp only[e1]
  obtain⟨x1,x2⟩:=hrow.one
  unfold V.isAgg at x2
  refine WL_in lp63_0.eq_1 ?_
  simp -implicitDefEqProofs only[c1,x1,x2,hU,SRu_eq,go_sem,↓reduceIte]
  refine⟨t5++um,r,n,r2,w2,⟨hbr,hlr,hb,by omega,e1⟩,?_⟩
  refine Row.app (G0:=G) (sz:=1) (z:= .int .i64 0) (y:= .int .i64 n) (els:=l2.map (V.int .i64)) hrow (by rw[List.length_map,many.cnt];omega) ⟨rfl,rfl⟩ rfl (fun u hu=> ?_) (fun x' G2 hr2=> ?_)
  ·obtain⟨q,_,rfl⟩:=List.mem_map.1 hu;exact⟨rfl,rfl⟩
  ·obtain⟨y1,y2⟩:=hr2.one
   unfold V.isAgg at y2
   have yl:=hrow.like hr2
   simp -implicitDefEqProofs only[w1,x1,x2,y1,y2,yl,go_sem,↓reduceIte]
   refine ih (j+1) G2 x' (l2++[n]) r2 w2 _ (by omega) he2 ?_
   rw[List.map_append];exact hr2
theorem walk63 {B u0 b r:List Int} {w0:Bool} {a:AccS} {w:Bool} (hU:Abs.look l 58=some SRu) (hH:Abs.look l 61=some SRh) (hM:Abs.look l 35=some ZM10)
  (hB:B=u0++b) (hbB:Byt B) (hl:B.length < 100000000000) (he:rdAccu (b,w0)=(a,r,w))
  (h:Q (.tup [.agg [.sli .u8 B,.int .i64 ((B.length:Int)-r.length),.bool w],(accR a w).v,.bool (!w&&a.may)]) G):Wf E (specOf l) pf63 [.agg [.sli .u8 B,.int .i64 (u0.length:Nat),.bool w0]] G (fun r G'=>∃r2 G2,Low G r G' r2 G2∧Q r2 G2):=by
 have hb:Byt b:=fun x hx=>hbB x (by rw[hB];exact List.mem_append_right _ hx)
 have hbl:b.length≤B.length:=by rw[hB,List.length_append];omega
 rcases e1:rdUpto 21 (b,w0)with⟨n1,r1,w1⟩
 rcases e2:rdUpto 1099511627776 (r1,w1)with⟨n2,r2,w2⟩
 rcases e3:rdUpto 1099511627776 (r2,w2)with⟨n3,r3,w3⟩
 rcases e4:rdHash (r3,w3)with⟨n4,r4,w4⟩
 rcases e5:rdUpto 21 (r4,w4)with⟨n5,r5,w5⟩
 rcases e6:rdMany n5.toNat (r5,w5)with⟨n6,r6,w6⟩
 rcases e7:rdHash (r6,w6)with⟨n7,r7,w7⟩
 obtain⟨z11,z12,_,_,⟨u1,z15⟩,_⟩:=rdUpto_all e1 hb (by omega)
 obtain⟨z21,z22,_,_,⟨u2,z25⟩,_⟩:=rdUpto_all e2 z11 (by omega)
 obtain⟨z31,z32,_,_,⟨u3,z35⟩,_⟩:=rdUpto_all e3 z21 (by omega)
 obtain⟨z41,z42,_,⟨u4,z45⟩,_⟩:=rdHash_all e4 z31
 obtain⟨z51,z52,z53,z54,⟨u5,z55⟩,_⟩:=rdUpto_all e5 z41 (by omega)
 have many:=rdMany_all e6 z51
 have mlen:=many.len
 obtain⟨z71,z72,_,⟨u7,z75⟩,_⟩:=rdHash_all e7 many.byt
 have eA:rdAccu (b,w0)=(⟨n1,n2,n3,n4,n6,n7⟩,r7,w7):=by simp only[rdAccu,e1,e2,e3,e4,e5,e6,e7]
 have ok:=rdAccu_all eA hb
 rw[eA]at he
 simp only[Prod.mk.injEq]at he
 obtain⟨rfl,rfl,rfl⟩:=he
 obtain⟨k,hk⟩:∃k:Nat,n5=(k:Int):=⟨n5.toNat,by omega⟩
 rw[hk,Int.toNat_natCast]at e6
 have hk21:k≤21:=by omega
 have l1:((B.length:Int)-(r1.length:Int))=((u0++u1).length:Int):=by rw[hB,z15];simp only[List.length_append];omega
 have l2:((B.length:Int)-(r2.length:Int))=((u0++u1++u2).length:Int):=by rw[hB,z15,z25];simp only[List.length_append];omega
 have l3:((B.length:Int)-(r3.length:Int))=((u0++u1++u2++u3).length:Int):=by rw[hB,z15,z25,z35];simp only[List.length_append];omega
 have l4:((B.length:Int)-(r4.length:Int))=((u0++u1++u2++u3++u4).length:Int):=by rw[hB,z15,z25,z35,z45];simp only[List.length_append];omega
 have l5:((B.length:Int)-(r5.length:Int))=((u0++u1++u2++u3++u4++u5).length:Int):=by rw[hB,z15,z25,z35,z45,z55];simp only[List.length_append];omega
 have b1:B=u0++u1++r1:=by rw[List.append_assoc,←z15];exact hB
 have b2:B=u0++u1++u2++r2:=by rw[List.append_assoc,←z25];exact b1
 have b3:B=u0++u1++u2++u3++r3:=by rw[List.append_assoc,←z35];exact b2
 have b4:B=u0++u1++u2++u3++u4++r4:=by rw[List.append_assoc,←z45];exact b3
 have b5:B=u0++u1++u2++u3++u4++u5++r5:=by rw[List.append_assoc,←z55];exact b4
 simp -implicitDefEqProofs only[pf63,hU,SRu_eq,hH,SRh_eq,go_sem,↓reduceIte]
 refine⟨u0,b,n1,r1,w1,⟨hB,rfl,hbB,by omega,e1⟩,?_⟩
 refine⟨u0++u1,r1,n2,r2,w2,⟨b1,by first|exact l1|simpa using l1,hbB,by omega,e2⟩,?_⟩
 refine⟨u0++u1++u2,r2,n3,r3,w3,⟨b2,by first|exact l2|simpa using l2,hbB,by omega,e3⟩,?_⟩
 refine⟨u0++u1++u2++u3,r3,n4,r4,w4,⟨b3,by first|exact l3|simpa using l3,hbB,by omega,e4⟩,?_⟩
 refine⟨u0++u1++u2++u3++u4,r4,n5,r5,w5,⟨b4,by first|exact l4|simpa using l4,hbB,by omega,e5⟩,?_⟩
 refine⟨k+1,?_⟩
 rw[hk]
 try simp -implicitDefEqProofs only[go_sem,↓reduceIte]
 refine loop63 (k:=k) (t5:=u0++u1++u2++u3++u4++u5) (r5:=r5) (w5:=w5) hU b5 hbB hl hk21 (fun ts G' x l2 r w Lt hm hrow=> ?_) k 0 _ .nils [] r5 w5 [] (by omega) rfl (Row.nil (Ext.refl _))
 rw[e6]at hm
 simp only[Prod.mk.injEq]at hm
 obtain⟨rfl,rfl,rfl⟩:=hm
 obtain⟨x1,x2⟩:=hrow.one
 unfold V.isAgg at x2
 have xn:x.same .nils=true:=(Row.nil (z:=(.int .i64 0:V)) (sz:=1) (Ext.refl G)).like hrow
 obtain⟨u6,z65⟩:=many.suf
 have l6:((B.length:Int)-(r6.length:Int))=((u0++u1++u2++u3++u4++u5++u6).length:Int):=by rw[hB,z15,z25,z35,z45,z55,z65];simp only[List.length_append];omega
 have b6:B=u0++u1++u2++u3++u4++u5++u6++r6:=by rw[List.append_assoc,←z65];exact b5
 simp -implicitDefEqProofs only[x1,x2,xn,hH,SRh_eq,go_sem,↓reduceIte]
 refine⟨u0++u1++u2++u3++u4++u5++u6,r6,n7,r7,w7,⟨b6,l6,hbB,by omega,e7⟩,?_⟩
 try simp -implicitDefEqProofs only[go_sem,↓reduceIte]
 cases w7 with
 |true=>
  simp -implicitDefEqProofs only[go_sem,↓reduceIte]
  exact⟨_,_,low_accu3 (els:=[]) (z:= .int .i64 0) (Row.nil hrow.1),h⟩
 |false=>
  have nl:n6.length < 1000000:=by have:=ok.cnt;dsimp only at this;omega
  simp -implicitDefEqProofs only[x1,x2,xn,hM,ZM10_eq,go_sem,↓reduceIte]
  refine⟨n6,⟨frv_row hrow,ok.wf,nl⟩,?_⟩
  cases hq:AccS.may ⟨n1,n2,n3,n4,n6,n7⟩with
  |false=>
   simp -implicitDefEqProofs only[go_sem,↓reduceIte]
   rw[accR,hq]at h
   exact⟨_,_,low_accu3 (els:=[]) (z:= .int .i64 0) (Row.nil hrow.1),h⟩
  |true=>
   simp -implicitDefEqProofs only[x1,x2,xn,go_sem,↓reduceIte]
   rw[accR,hq]at h
   exact⟨_,_,low_accu3 hrow,h⟩
end Go.Proofs.Ytegamlopcdjiaaa.Sha
namespace Go.Abs
open Go Go.RowKit
set_option linter.unusedVariables false
set_option linter.unusedSimpArgs false
namespace Sha
theorem byS_len {s:ByteArray}:(byS s).length=s.size:=by simp[byS]
theorem byS_byt {s:ByteArray}:Byt (byS s):=fun x hx=>by
 unfold byS at hx
 obtain⟨b,_,rfl⟩:=List.mem_map.1 hx
 have:=b.toNat_lt
 omega
theorem stS_byS {s:ByteArray}:stS (byS s)=s:=by
 apply ByteArray.ext
 apply Array.toList_inj.1
 show (List.map _ (List.map _ _))=_
 rw[List.map_map]
 refine (List.map_congr_left (g:=id) fun b _=> ?_).trans (List.map_id _)
 simp
theorem byS_stS {xs:List Int} (h:Byt xs):byS (stS xs)=xs:=by
 show List.map _ (List.map _ xs)=xs
 rw[List.map_map]
 refine (List.map_congr_left (g:=id) fun n hn=> ?_).trans (List.map_id _)
 have:=h n hn
 show ((UInt8.ofNat n.toNat).toNat:Int)=n
 rw[UInt8.toNat_ofNat']
 omega
theorem stS_size {xs:List Int}:(stS xs).size=xs.length:=by
 show (List.map _ xs).length=_
 rw[List.length_map]
theorem stS_inj {a b:List Int} (ha:Byt a) (hb:Byt b) (h:stS a=stS b):a=b:=by rw[←byS_stS ha,h,byS_stS hb]
abbrev nos:ByteArray:=⟨⟨[]⟩⟩
theorem loop_toList (s:ByteArray):∀(k i:Nat) (r:List UInt8),s.size-i=k→ByteArray.toList.loop s i r=r.reverse++s.data.toList.drop i:=by
 intro k
 induction k with
 |zero=>
  intro i r hk
  rw[ByteArray.toList.loop,if_neg (by omega),List.drop_eq_nil_of_le (by show s.size≤i;omega),List.append_nil]
 |succ k ih=>
  intro i r hk
  have hi:i < s.size:=by omega
  rw[ByteArray.toList.loop,if_pos hi,ih (i+1) _ (by omega)]
  have hi2:i < s.data.toList.length:=hi
  rw[List.drop_eq_getElem_cons hi2]
  simp[ByteArray.get!]
  rw[Array.getElem!_eq_getD,Array.getD_eq_getD_getElem?]
  have:s.data[i]? =some (s.data[i]'hi):=Array.getElem?_eq_getElem hi
  rw[this];rfl
theorem bs_toList (s:ByteArray):s.toList=s.data.toList:=by
 unfold ByteArray.toList
 rw[loop_toList s _ 0 [] rfl];simp
theorem bs_eq {a b:ByteArray}:(a.toList==b.toList)=decide (a=b):=by
 rw[Bool.eq_iff_iff,beq_iff_eq,decide_eq_true_iff,bs_toList,bs_toList]
 refine⟨fun h=> ?_,fun h=>by rw[h]⟩
 apply ByteArray.ext;exact Array.toList_inj.1 h
def txt (b:List Int):List Int:=num b.length++b
def rdText (s:Rd):List Int×Rd:=if s.2=true then ([],s)else if (rdUpto 65536 s).2.2=true∨((rdUpto 65536 s).2.1.length:Int) < (rdUpto 65536 s).1 then ([],(s.1,true))else
 ((rdUpto 65536 s).2.1.take (rdUpto 65536 s).1.toNat,((rdUpto 65536 s).2.1.drop (rdUpto 65536 s).1.toNat,false))
theorem rdText_all {t b r:List Int} {w w':Bool} (e:rdText (b,w)=(t,r,w')) (hb:Byt b):Byt r∧r.length≤b.length∧Byt t∧t.length≤b.length∧(∃u,b=u++r):=by
 rcases e1:rdUpto 65536 (b,w)with⟨n1,r1,w1⟩
 obtain⟨a1,a2,a3,a4,⟨u1,a5⟩,_⟩:=rdUpto_all e1 hb (by omega)
 unfold rdText at e
 simp only[e1]at e
 split at e
 ·cases e;exact⟨hb,Nat.le_refl _,byt_nil,Nat.zero_le _,[],rfl⟩
 ·split at e
  ·cases e;exact⟨hb,Nat.le_refl _,byt_nil,Nat.zero_le _,[],rfl⟩
  ·cases e
   refine⟨byt_drop a1 _,by rw[List.length_drop];omega,byt_take a1 _,by rw[List.length_take];omega,u1++r1.take n1.toNat,?_⟩
   rw[List.append_assoc,List.take_append_drop,←a5]
theorem rdText_of {t r:List Int} (hl:t.length≤65536):rdText (txt t++r,false)=(t,(r,false)):=by
 unfold rdText txt
 have e:=rdUpto_of (top:=65536) (n:=t.length) (r:=t++r) (by omega) (by omega)
 rw[List.append_assoc]
 simp only[e,Bool.false_eq_true,if_false,false_or]
 rw[if_neg (by rw[List.length_append];omega)]
 simp
structure TxS where
 fr:Int
 no:Int
 ki:Int
 to:Int
 am:Int
 key:ByteArray
 val:ByteArray
deriving DecidableEq
def TxS.v (t:TxS):V:= .agg [.int .i64 t.fr,.int .i64 t.no,.int .i64 t.ki,.int .i64 t.to,.int .i64 t.am,.str t.key,.str t.val]
def TxS.zero:TxS:=⟨0,0,0,0,0,nos,nos⟩
def chOk (c:Int):Prop:=(97≤c∧c≤122)∨(48≤c∧c≤57)
instance (c:Int):Decidable (chOk c):=by unfold chOk;infer_instance
def KeyOk (b:List Int):Prop:=(∀c∈b,chOk c)∧1≤b.length∧b.length≤16
instance (b:List Int):Decidable (KeyOk b):=by unfold KeyOk;infer_instance
def TxS.May (t:TxS):Prop:=(1≤t.fr∧t.fr≤40)∧(1≤t.no∧t.no≤1099511627776)∧
 ((t.ki=1∧(1≤t.to∧t.to≤40)∧(0≤t.am∧t.am≤1099511627776)∧t.key=nos∧t.val=nos)∨
  (t.ki=2∧t.to=0∧t.am=0∧KeyOk (byS t.key)∧t.val.size≤200)∨
  (t.ki=3∧t.to=0∧t.am=0∧KeyOk (byS t.key)∧t.val=nos))
instance (t:TxS):Decidable t.May:=by unfold TxS.May;infer_instance
def TxS.may (t:TxS):Bool:=decide t.May
def TxS.bytes (t:TxS):List Int:=num t.fr.toNat++num t.no.toNat++num t.ki.toNat++
 (if t.ki=1 then num t.to.toNat++num t.am.toNat else txt (byS t.key)++(if t.ki=2 then txt (byS t.val)else []))
def txR (t:TxS) (w:Bool):TxS:=if (!w&&t.may)=true then t else .zero
def rdTx (s:Rd):TxS×Rd:=
 let p1:=rdUpto 40 s
 let p2:=rdUpto 1099511627776 p1.2
 let p3:=rdUpto 3 p2.2
 if p3.1=1 then
  let p4:=rdUpto 40 p3.2
  let p5:=rdUpto 1099511627776 p4.2
  (⟨p1.1,p2.1,p3.1,p4.1,p5.1,nos,nos⟩,p5.2)
 else if p3.1=2 then
  let p4:=rdText p3.2
  let p5:=rdText p4.2
  (⟨p1.1,p2.1,p3.1,0,0,stS p4.1,stS p5.1⟩,p5.2)
 else if p3.1=3 then
  let p4:=rdText p3.2
  (⟨p1.1,p2.1,p3.1,0,0,stS p4.1,nos⟩,p4.2)
 else (⟨p1.1,p2.1,p3.1,0,0,nos,nos⟩,p3.2)
structure RdTx (b:List Int) (t:TxS) (r:List Int):Prop where
 byt:Byt r
 len:r.length≤b.length
 suf:∃u,b=u++r
 key:t.key.size≤b.length
 val:t.val.size≤b.length
 fr:0≤t.fr∧t.fr≤40
 no:0≤t.no∧t.no≤1099511627776
 ki:0≤t.ki∧t.ki≤3
 to:0≤t.to∧t.to≤40
 am:0≤t.am∧t.am≤1099511627776
theorem rdTx_all {b r:List Int} {w w':Bool} {t:TxS} (e:rdTx (b,w)=(t,r,w')) (hb:Byt b):RdTx b t r:=by
 unfold rdTx at e
 rcases e1:rdUpto 40 (b,w)with⟨n1,r1,w1⟩
 rcases e2:rdUpto 1099511627776 (r1,w1)with⟨n2,r2,w2⟩
 rcases e3:rdUpto 3 (r2,w2)with⟨n3,r3,w3⟩
 simp only[e1,e2,e3]at e
 obtain⟨a1,a2,a3,a4,⟨u1,a5⟩,_⟩:=rdUpto_all e1 hb (by omega)
 obtain⟨b1,b2,b3,b4,⟨u2,b5⟩,_⟩:=rdUpto_all e2 a1 (by omega)
 obtain⟨c1,c2,c3,c4,⟨u3,c5⟩,_⟩:=rdUpto_all e3 b1 (by omega)
 have hn:nos.size≤b.length:=Nat.zero_le _
 have z40:(0:Int)≤0∧(0:Int)≤40:=by decide
 have zn:(0:Int)≤0∧(0:Int)≤1099511627776:=by decide
 split at e
 ·rcases e4:rdUpto 40 (r3,w3)with⟨n4,r4,w4⟩
  rcases e5:rdUpto 1099511627776 (r4,w4)with⟨n5,r5,w5⟩
  simp only[e4,e5]at e;cases e
  obtain⟨d1,d2,d3,d4,⟨u4,d5⟩,_⟩:=rdUpto_all e4 c1 (by omega)
  obtain⟨f1,f2,f3,f4,⟨u5,f5⟩,_⟩:=rdUpto_all e5 d1 (by omega)
  exact⟨f1,by omega,⟨u1++u2++u3++u4++u5,by simp only[List.append_assoc];rw[←f5,←d5,←c5,←b5,←a5]⟩,hn,hn,⟨a3,a4⟩,⟨b3,b4⟩,⟨c3,c4⟩,⟨d3,d4⟩,⟨f3,f4⟩⟩
 ·split at e
  ·rcases e4:rdText (r3,w3)with⟨n4,r4,w4⟩
   rcases e5:rdText (r4,w4)with⟨n5,r5,w5⟩
   simp only[e4,e5]at e;cases e
   obtain⟨d1,d2,d3,d4,⟨u4,d5⟩⟩:=rdText_all e4 c1
   obtain⟨f1,f2,f3,f4,⟨u5,f5⟩⟩:=rdText_all e5 d1
   exact⟨f1,by omega,⟨u1++u2++u3++u4++u5,by simp only[List.append_assoc];rw[←f5,←d5,←c5,←b5,←a5]⟩,by show (stS n4).size≤_;rw[stS_size];omega,by show (stS n5).size≤_;rw[stS_size];omega,⟨a3,a4⟩,⟨b3,b4⟩,⟨c3,c4⟩,z40,zn⟩
  ·split at e
   ·rcases e4:rdText (r3,w3)with⟨n4,r4,w4⟩
    simp only[e4]at e;cases e
    obtain⟨d1,d2,d3,d4,⟨u4,d5⟩⟩:=rdText_all e4 c1
    exact⟨d1,by omega,⟨u1++u2++u3++u4,by simp only[List.append_assoc];rw[←d5,←c5,←b5,←a5]⟩,by show (stS n4).size≤_;rw[stS_size];omega,hn,⟨a3,a4⟩,⟨b3,b4⟩,⟨c3,c4⟩,z40,zn⟩
   ·cases e
    exact⟨c1,by omega,⟨u1++u2++u3,by simp only[List.append_assoc];rw[←c5,←b5,←a5]⟩,hn,hn,⟨a3,a4⟩,⟨b3,b4⟩,⟨c3,c4⟩,z40,zn⟩
theorem txt_ok {b:List Int} (hb:Byt b) (hl:b.length≤65536):Byt (txt b)∧(txt b).length≤b.length+10:=by
 obtain⟨h1,h2⟩:=num_ok (n:=b.length) (by omega)
 exact⟨byt_app h1 hb,by unfold txt;rw[List.length_append];omega⟩
theorem TxS.bytes_ok {t:TxS} (h:t.May):Byt t.bytes∧t.bytes.length≤300∧0 < t.bytes.length:=by
 obtain⟨⟨a1,a2⟩,⟨b1,b2⟩,h⟩:=h
 obtain⟨f1,f2⟩:=num_ok (n:=t.fr.toNat) (by omega)
 obtain⟨g1,g2⟩:=num_ok (n:=t.no.toNat) (by omega)
 have p1:=num_pos t.fr.toNat
 have kk:0≤t.ki∧t.ki≤3:=by omega
 obtain⟨k1,k2⟩:=num_ok (n:=t.ki.toNat) (by omega)
 unfold TxS.bytes
 rcases h with⟨e1,c,d,_,_⟩|⟨e1,_,_,⟨_,k3,k4⟩,v⟩|⟨e1,_,_,⟨_,k3,k4⟩,_⟩
 ·obtain⟨x1,x2⟩:=num_ok (n:=t.to.toNat) (by omega)
  obtain⟨y1,y2⟩:=num_ok (n:=t.am.toNat) (by omega)
  rw[if_pos e1]
  refine⟨byt_app (byt_app (byt_app f1 g1) k1) (byt_app x1 y1),?_,?_⟩<;>simp only[List.length_append]<;>omega
 ·obtain⟨x1,x2⟩:=txt_ok (b:=byS t.key) byS_byt (by omega)
  obtain⟨y1,y2⟩:=txt_ok (b:=byS t.val) byS_byt (by rw[byS_len];omega)
  rw[byS_len]at y2
  rw[if_neg (by omega),if_pos e1]
  refine⟨byt_app (byt_app (byt_app f1 g1) k1) (byt_app x1 y1),?_,?_⟩<;>simp only[List.length_append]<;>omega
 ·obtain⟨x1,x2⟩:=txt_ok (b:=byS t.key) byS_byt (by omega)
  rw[if_neg (by omega),if_neg (by omega),List.append_nil]
  refine⟨byt_app (byt_app (byt_app f1 g1) k1) x1,?_,?_⟩<;>simp only[List.length_append]<;>omega
theorem rdTx_of {t:TxS} {r:List Int} (h:t.May):rdTx (t.bytes++r,false)=(t,(r,false)):=by
 obtain⟨⟨a1,a2⟩,⟨b1,b2⟩,h⟩:=h
 have T:∀{n top:Int} {r:List Int},0≤n→n≤top→n≤1099511627776→rdUpto top (num n.toNat++r,false)=(n,(r,false)):=by
  intro n top r h1 h2 h3
  have:=rdUpto_of (top:=top) (n:=n.toNat) (r:=r) (by omega) (by omega)
  rw[this,show ((n.toNat:Nat):Int)=n by omega]
 obtain⟨fr,no,ki,to,am,key,val⟩:=t
 dsimp only at*
 unfold rdTx TxS.bytes
 simp only[List.append_assoc]
 rw[T (by omega) (by omega) (by omega)];simp only
 rw[T (by omega) (by omega) (by omega)];simp only
 rw[T (by omega) (by omega) (by omega)];simp only
 rcases h with⟨e1,c,d,rfl,rfl⟩|⟨e1,rfl,rfl,⟨_,k3,k4⟩,v⟩|⟨e1,rfl,rfl,⟨_,k3,k4⟩,rfl⟩
 ·subst e1
  simp only[if_true,List.append_assoc]
  rw[T (by omega) (by omega) (by omega)];simp only
  rw[T (by omega) (by omega) (by omega)]
 ·subst e1
  rw[if_neg (by decide),if_pos rfl,if_neg (by decide),if_pos rfl]
  simp only[List.append_assoc]
  rw[rdText_of (by omega)];simp only
  rw[rdText_of (by rw[byS_len];omega),stS_byS,stS_byS]
 ·subst e1
  rw[if_neg (by decide),if_neg (by decide),if_pos rfl,if_neg (by decide),if_neg (by decide)]
  simp only[List.append_assoc,List.nil_append]
  rw[rdText_of (by omega),stS_byS]
end Sha
end Go.Abs
namespace Go.Proofs.Ytegamlopcdjiaaa.Sha
open Go Go.Abs Go.Abs.Sha Go.Abs.Srt
set_option linter.unusedSimpArgs false
set_option linter.unusedVariables false
set_option maxRecDepth 100000
def pf86:PF:=
 PF.mk 2 5 17 ((PC.reg [nn (.v 4) (.mv true (.c (.own .nils)))]).seq ((PC.reg [mm 5 1,mm 6 1,nn (.t 7) (.len (.t 6)),nn (.t 8) (.mm false [.t 7,.c
  (.v (.int .i64 65536))]),nn (.t 9) (.slcS 1 (.t 5) none (some (.t 8)) none),ma 1 9]).seq ((PC.reg [mm 10 0,mm 11 1,nn (.t 12) (.len (.t 11)),nn
  (.t 13) (.conv .u64 (.t 12)),nn (.t 14) (.call 31 [.t 10,.t 13]),mm 15 1,nn (.t 16) (.app (some .u8) 1 1 (.t 14) (.t 15)),ma 4 16]).seq
  PC.ret))) [(.v 4,none)]
def pf101:PF:=
 PF.mk 1 6 51 ((PC.reg [nn (.v 2) (.mv true (.c (.own .nils)))]).seq (((PC.reg [mm 6 0,nn (.t 7) (.call 94 [.t 6])]).seq (PC.cond (.t 7) ((PC.reg [nn
  (.v 2) (.mv true (.c (.own .nils)))]).seq PC.ret) PC.skip)).seq ((PC.reg [mm 8 0,nn (.t 9) (.nilc (.t 8)),nn (.t 10) (.fadr 0 0 (.t 9)),nn (.t 11)
  (.load 1 false (.t 10)),ma 3 11]).seq ((PC.reg [mm 12 0,nn (.t 13) (.call 48 [.t 12,.c (.v (.int .i64 65536))]),ma 4 13]).seq (((PC.reg [mm 14 0,
  nn (.t 15) (.nilc (.t 14)),nn (.t 16) (.fadr 1 1 (.t 15)),nn (.t 17) (.load 1 false (.t 16)),nn (.t 18) (.mv false (.t 17)),gm 19 4 18 false,gm
  20 0 18 false,⟨.t 21,.nilc (.t 20),some (.t 18,false)⟩,⟨.t 22,.fadr 0 0 (.t 21),some (.t 18,false)⟩,⟨.t 23,.load 1 false (.t 22),some (.t
  18,false)⟩,⟨.t 24,.len (.t 23),some (.t 18,false)⟩,⟨.t 25,.bin .gtr (.t 19) (.t 24),some (.t 18,false)⟩,nn (.t 26) (.pick (.t 18) (.c (.v
  (.bool true))) (.t 25))]).seq (PC.cond (.t 26) ((PC.reg [mm 27 0,mm 28 0,mm 29 3,nn (.t 30) (.nilc (.t 27)),nn (.t 31) (.fadr 0 0 (.t 30)),nn
  .no (.store 1 (.t 31) (.t 29)),nn (.t 32) (.nilc (.t 28)),nn (.t 33) (.fadr 1 1 (.t 32)),nn .no (.store 1 (.t 33) (.c (.v (.bool true))))]).seq
  ((PC.reg [nn (.v 2) (.mv true (.c (.own .nils)))]).seq PC.ret)) PC.skip)).seq ((PC.reg [mm 34 0,nn (.t 35) (.nilc (.t 34)),nn (.t 36) (.fadr 0 0
  (.t 35)),nn (.t 37) (.load 1 false (.t 36)),mm 38 4,nn (.t 39) (.slcS 1 (.t 37) none (some (.t 38)) none),nn (.t 40) (.call 79 [.t 39]),ma 5
  40]).seq ((PC.reg [mm 41 0,mm 42 0,nn (.t 43) (.nilc (.t 42)),nn (.t 44) (.fadr 0 0 (.t 43)),nn (.t 45) (.load 1 false (.t 44)),mm 46 4,nn (.t
  47) (.slcS 1 (.t 45) (some (.t 46)) none none),nn (.t 48) (.nilc (.t 41)),nn (.t 49) (.fadr 0 0 (.t 48)),nn .no (.store 1 (.t 49) (.t 47))]).seq
  ((PC.reg [nn (.t 50) (.mv true (.v 5)),ma 2 50]).seq PC.ret)))))))) [(.v 2,none)]
def pf56:PF:=
 PF.mk 1 3 9 ((PC.reg [nn (.v 2) (.mv true (.c (.own .nils)))]).seq ((PC.reg [mm 3 0,nn (.t 4) (.len (.t 3)),nn (.t 5) (.conv .u64 (.t 4)),nn (.t 6)
  (.call 104 [.t 5]),mm 7 0,nn (.t 8) (.app (some .u8) 1 1 (.t 6) (.t 7)),ma 2 8]).seq PC.ret)) [(.v 2,none)]
def pf64:PF:=
 PF.mk 1 7 44 ((PC.reg [nn (.v 1) (.box (.v 0)),nn (.v 2) (.alloc (.agg [.nils,.int .i64 0,.bool false])),nn (.v 3) (.mv true (.c (.own
  .nils)))]).seq ((PC.reg [nn (.t 8) (.load 3 true (.v 1)),nn (.t 9) (.call 58 [.t 8,.c (.v (.int .i64 65536))]),nn (.t 7) (.mv false (.t 9)),nn
  (.t 10) (.ext (.t 7) 0),nn (.t 11) (.ext (.t 7) 1),nn (.v 4) (.alloc (.agg [.nils,.int .i64 0,.bool false])),nn .no (.store 3 (.v 4) (.t 10)),
  ma 5 11]).seq (((PC.reg [nn (.t 12) (.fadr 2 2 (.v 4)),nn (.t 13) (.load 1 false (.t 12)),nn (.t 14) (.mv false (.t 13)),gm 15 5 14 false,⟨.t 16,
  .fadr 0 0 (.v 4),some (.t 14,false)⟩,⟨.t 17,.load 1 false (.t 16),some (.t 14,false)⟩,⟨.t 18,.len (.t 17),some (.t 14,false)⟩,⟨.t 19,
  .fadr 1 1 (.v 4),some (.t 14,false)⟩,⟨.t 20,.load 1 false (.t 19),some (.t 14,false)⟩,⟨.t 21,.bin .sub (.t 18) (.t 20),some (.t 14,false)⟩,
  ⟨.t 22,.bin .gtr (.t 15) (.t 21),some (.t 14,false)⟩,nn (.t 23) (.pick (.t 14) (.c (.v (.bool true))) (.t 22))]).seq (PC.cond (.t 23) ((PC.reg
  [nn (.t 24) (.fadr 2 2 (.v 1)),nn .no (.store 1 (.t 24) (.c (.v (.bool true))))]).seq ((PC.reg [nn (.t 25) (.load 3 true (.v 1)),nn .no (.store 3
  (.v 2) (.t 25)),nn (.v 3) (.mv true (.c (.own .nils)))]).seq PC.ret)) PC.skip)).seq ((PC.reg [nn (.t 26) (.buildS (some .u8) 1 (.int .u8 0) 0 []),
  nn (.t 27) (.fadr 0 0 (.v 4)),nn (.t 28) (.load 1 false (.t 27)),nn (.t 29) (.fadr 1 1 (.v 4)),nn (.t 30) (.load 1 false (.t 29)),nn (.t 31)
  (.fadr 1 1 (.v 4)),nn (.t 32) (.load 1 false (.t 31)),mm 33 5,nn (.t 34) (.bin .add (.t 32) (.t 33)),nn (.t 35) (.slcS 1 (.t 28) (some (.t 30))
  (some (.t 34)) none),nn (.t 36) (.app (some .u8) 1 1 (.t 26) (.t 35)),ma 6 36]).seq ((PC.reg [nn (.t 37) (.fadr 1 1 (.v 4)),nn (.t 38) (.load 1
  false (.t 37)),mm 39 5,nn (.t 40) (.bin .add (.t 38) (.t 39)),nn (.t 41) (.fadr 1 1 (.v 4)),nn .no (.store 1 (.t 41) (.t 40))]).seq ((PC.reg [nn
  (.t 42) (.load 3 true (.v 4)),mm 43 6,nn .no (.store 3 (.v 2) (.t 42)),ma 3 43]).seq PC.ret)))))) [(.v 2,some (3,true)),(.v 3,none)]
def pf136:PF:=
 PF.mk 3 7 15 ((PC.reg [nn (.v 6) (.mv true (.c (.v (.bool false))))]).seq ((PC.reg [mm 7 0,mm 8 1,nn (.t 9) (.bin .geq (.t 7) (.t 8)),nn (.t 10)
  (.mv false (.t 9)),gm 11 0 10 true,gm 12 2 10 true,⟨.t 13,.bin .leq (.t 11) (.t 12),some (.t 10,true)⟩,nn (.t 14) (.pick (.t 10) (.t 13) (.c
  (.v (.bool false)))),ma 6 14]).seq PC.ret)) [(.v 6,none)]
def lp137_0:PC:=
 (PC.reg [nn (.t 9) (.bin .lss (.v 8) (.v 7))]).seq ((PC.cond (.t 9) PC.skip (PC.exit 0)).seq ((PC.block 1 ((PC.reg [nn (.t 10) (.iadrS 1 (.v 6) (.v
  8)),nn (.t 11) (.load 1 false (.t 10)),ma 4 11]).seq ((PC.reg [mm 12 4,nn (.t 13) (.bin .lss (.t 12) (.c (.v (.int .u8 97)))),nn (.t 14) (.mv
  false (.t 13)),gm 15 4 14 false,⟨.t 16,.bin .gtr (.t 15) (.c (.v (.int .u8 122))),some (.t 14,false)⟩,nn (.t 17) (.pick (.t 14) (.c (.v (.bool
  true))) (.t 16)),nn (.t 18) (.mv false (.t 17)),gm 19 4 18 true,⟨.t 20,.bin .lss (.t 19) (.c (.v (.int .u8 48))),some (.t 18,true)⟩,⟨.t 21,
  .mv false (.t 20),some (.t 18,true)⟩,gm 22 4 21 false,⟨.t 23,.bin .gtr (.t 22) (.c (.v (.int .u8 57))),some (.t 21,false)⟩,⟨.t 24,.pick (.t
  21) (.c (.v (.bool true))) (.t 23),some (.t 18,true)⟩,nn (.t 25) (.pick (.t 18) (.t 24) (.c (.v (.bool false))))]).seq (PC.cond (.t 25) ((PC.reg
  [nn (.v 2) (.mv true (.c (.v (.bool false))))]).seq PC.ret) PC.skip)))).seq (PC.reg [nn (.t 26) (.bin .add (.v 8) (.c (.v (.int .i64 1)))),nn (.v 8)
  (.mv false (.t 26))])))
def pf137:PF:=
 PF.mk 1 9 30 ((PC.reg [nn (.v 2) (.mv true (.c (.v (.bool false))))]).seq (((PC.reg [nn (.v 5) (.mv false (.v 0)),nn (.v 6) (.s2b false (.v 5)),nn
  (.v 7) (.len (.v 6)),nn (.v 8) (.mv false (.c (.v (.int .i64 0))))]).seq (PC.block 0 (PC.loop [0,6,7,8] lp137_0))).seq ((PC.reg [mm 27 0,nn (.t
  28) (.lenT (.t 27)),nn (.t 29) (.call 136 [.t 28,.c (.v (.int .i64 1)),.c (.v (.int .i64 16))]),ma 2 29]).seq PC.ret))) [(.v 2,none)]
def lp90_0:PC:=
 ((PC.reg [mm 4 3,mm 5 0,nn (.t 6) (.lenT (.t 5)),nn (.t 7) (.bin .lss (.t 4) (.t 6))]).seq (PC.cond (.t 7) PC.skip (PC.exit 0))).seq ((PC.block 1
  ((PC.reg [mm 10 0,mm 11 3,nn (.t 12) (.idxS (.t 10) (.t 11)),nn (.t 13) (.bin .geq (.t 12) (.c (.v (.int .u8 97)))),nn (.t 14) (.mv false (.t
  13)),gm 15 0 14 true,gm 16 3 14 true,⟨.t 17,.idxS (.t 15) (.t 16),some (.t 14,true)⟩,⟨.t 18,.bin .leq (.t 17) (.c (.v (.int .u8 122))),some
  (.t 14,true)⟩,nn (.t 19) (.pick (.t 14) (.t 18) (.c (.v (.bool false)))),nn (.t 20) (.mv false (.t 19)),gm 21 0 20 false,gm 22 3 20 false,⟨.t
  23,.idxS (.t 21) (.t 22),some (.t 20,false)⟩,⟨.t 24,.bin .geq (.t 23) (.c (.v (.int .u8 48))),some (.t 20,false)⟩,⟨.t 25,.mv false (.t 24),
  some (.t 20,false)⟩,gm 26 0 25 true,gm 27 3 25 true,⟨.t 28,.idxS (.t 26) (.t 27),some (.t 25,true)⟩,⟨.t 29,.bin .leq (.t 28) (.c (.v (.int
  .u8 57))),some (.t 25,true)⟩,⟨.t 30,.pick (.t 25) (.t 29) (.c (.v (.bool false))),some (.t 20,false)⟩,nn (.t 31) (.pick (.t 20) (.c (.v (.bool
  true))) (.t 30)),nn (.t 32) (.un .not (.t 31))]).seq (PC.cond (.t 32) ((PC.reg [nn (.v 2) (.mv true (.c (.v (.bool false))))]).seq PC.ret)
  PC.skip))).seq (PC.reg [mm 8 3,nn (.t 9) (.bin .add (.t 8) (.c (.v (.int .i64 1)))),ma 3 9]))
def pf90:PF:=
 PF.mk 1 4 41 ((PC.reg [nn (.v 2) (.mv true (.c (.v (.bool false))))]).seq (((PC.reg [nn (.v 3) (.mv true (.c (.v (.int .i64 0))))]).seq (PC.block 0
  (PC.loop [0,3] lp90_0))).seq ((PC.reg [mm 33 0,nn (.t 34) (.lenT (.t 33)),nn (.t 35) (.bin .geq (.t 34) (.c (.v (.int .i64 1)))),nn (.t 36) (.mv
  false (.t 35)),gm 37 0 36 true,⟨.t 38,.lenT (.t 37),some (.t 36,true)⟩,⟨.t 39,.bin .leq (.t 38) (.c (.v (.int .i64 16))),some (.t 36,true)⟩,
  nn (.t 40) (.pick (.t 36) (.t 39) (.c (.v (.bool false)))),ma 2 40]).seq PC.ret))) [(.v 2,none)]
attribute [local irreducible] W Wops WopsD WL Wop WopD
variable {E:Env} {C:Abs.Spec} {l:List (Nat×Spec1)} {G:List (Nat×V)} {Q:R→List (Nat×V)→Prop}
set_option maxHeartbeats 1000000
def ZTt:Spec1
 |[x,.sli .u8 t],G,Q=>∃b,(byV x=some b∧b.length < 1000000000∧t.length≤65536)∧Q (.own (.sli .u8 (b++txt t))) G
 |_,_,_=>False
theorem ZTt_eq {x t}:ZTt [x,.sli .u8 t] G Q=(∃b,(byV x=some b∧b.length < 1000000000∧t.length≤65536)∧Q (.own (.sli .u8 (b++txt t))) G):=rfl
def ZXt:Spec1
 |[.sli .u8 t],G,Q=>(t.length≤65536)∧Q (.own (.sli .u8 (txt t))) G
 |_,_,_=>False
theorem ZXt_eq {t}:ZXt [.sli .u8 t] G Q=((t.length≤65536)∧Q (.own (.sli .u8 (txt t))) G):=rfl
def txV (t:List Int) (w:Bool):V:=if w=true then .nils else .sli .u8 t
def ZTr:Spec1
 |[.ptr id],G,Q=>∃b w t r w2,(Abs.look G id=some (.agg [.sli .u8 b,.bool w])∧Byt b∧b.length < 1000000000000∧rdText (b,w)=(t,r,w2))∧Q (.own (txV t w2)) (Abs.upd G id (.agg [.sli .u8 r,.bool w2]))
 |_,_,_=>False
theorem ZTr_eq {id}:ZTr [.ptr id] G Q=(∃b w t r w2,(Abs.look G id=some (.agg [.sli .u8 b,.bool w])∧Byt b∧b.length < 1000000000000∧rdText (b,w)=(t,r,w2))∧Q (.own (txV t w2)) (Abs.upd G id (.agg [.sli .u8 r,.bool w2]))):=rfl
def ZXr:Spec1
 |[.agg [.sli .u8 B,.int .i64 at_,.bool w]],G,Q=>∃u r t r2 w2,(B=u++r∧at_=u.length∧Byt B∧B.length < 1000000000000∧rdText (r,w)=(t,r2,w2))∧Q (.tup [.agg [.sli .u8 B,.int .i64 ((B.length:Int)-r2.length),.bool w2],txV t w2]) G
 |_,_,_=>False
theorem ZXr_eq {B at_ w}:ZXr [.agg [.sli .u8 B,.int .i64 at_,.bool w]] G Q=(∃u r t r2 w2,(B=u++r∧at_=u.length∧Byt B∧B.length < 1000000000000∧rdText (r,w)=(t,r2,w2))∧Q (.tup [.agg [.sli .u8 B,.int .i64 ((B.length:Int)-r2.length),.bool w2],txV t w2]) G):=rfl
def ZWt:Spec1
 |[.int .i64 n,.int .i64 lo,.int .i64 hi],G,Q=>Q (.v (.bool (decide (lo≤n∧n≤hi)))) G
 |_,_,_=>False
theorem ZWt_eq {n lo hi}:ZWt [.int .i64 n,.int .i64 lo,.int .i64 hi] G Q=(Q (.v (.bool (decide (lo≤n∧n≤hi)))) G):=rfl
def ZKy:Spec1
 |[.str s],G,Q=>(s.size < 1000000000)∧Q (.v (.bool (decide (KeyOk (byS s))))) G
 |_,_,_=>False
theorem ZKy_eq {s}:ZKy [.str s] G Q=((s.size < 1000000000)∧Q (.v (.bool (decide (KeyOk (byS s))))) G):=rfl
theorem walk86 {x:V} {b t:List Int} (hN:Abs.look l 31=some SNu) (hx:byV x=some b) (hb:b.length < 1000000000) (ht:t.length≤65536) (h:Q (.own (.sli .u8 (b++txt t))) G):Wf E (specOf l) pf86 [x,.sli .u8 t] G Q:=by
 have e1:(t.length:Int)≤65536:=by omega
 have e3:IntKind.u64.wrap (t.length:Int)=(t.length:Int):=w64u (by omega)
 have e4:t.take t.length=t:=List.take_of_length_le (Nat.le_refl _)
 have e5:¬(65536:Int) < (t.length:Int):=by omega
 obtain⟨n1,n2⟩:=num_ok (n:=t.length) (by omega)
 simp -implicitDefEqProofs only[pf86,hN,SNu_eq,e5,e3,e4,Int.toNat_natCast,List.drop_zero,go_sem,↓reduceIte]
 refine⟨⟨by omega,by omega⟩,b,⟨hx,by omega,by omega,by omega⟩,by omega,?_⟩
 rw[List.append_assoc];exact h
theorem walk136 {n lo hi:Int} (h:Q (.v (.bool (decide (lo≤n∧n≤hi)))) G):Wf E C pf136 [.int .i64 n,.int .i64 lo,.int .i64 hi] G Q:=by
 simp -implicitDefEqProofs only[pf136,go_sem,↓reduceIte]
 refine⟨fun h1=> ?_,fun h1=> ?_⟩
 ·rw[show decide (lo≤n∧n≤hi)=decide (n≤hi)by rw[decide_eq_decide];exact⟨fun h=>h.2,fun h=>⟨h1,h⟩⟩]at h;exact h
 ·rw[show decide (lo≤n∧n≤hi)=false by rw[decide_eq_false_iff_not];omega]at h;exact h
theorem walk56 {t:List Int} (hN:Abs.look l 104=some (SRn 10)) (ht:t.length≤65536) (h:Q (.own (.sli .u8 (txt t))) G):Wf E (specOf l) pf56 [.sli .u8 t] G Q:=by
 have e3:IntKind.u64.wrap (t.length:Int)=(t.length:Int):=w64u (by omega)
 obtain⟨n1,n2⟩:=num_ok (n:=t.length) (by omega)
 simp -implicitDefEqProofs only[pf56,hN,SRn_eq,e3,Int.toNat_natCast,go_sem,↓reduceIte]
 exact⟨⟨by omega,by omega,by omega⟩,by omega,h⟩
theorem walk101 {id:Nat} {b t r:List Int} {w w2:Bool} (hO:Abs.look l 94=some SOff) (hU:Abs.look l 48=some SUp) (hC:Abs.look l 79=some SCl) (hG:Abs.look G id=some (.agg [.sli .u8 b,.bool w])) (hb:Byt b) (hl:b.length < 1000000000000) (he:rdText (b,w)=(t,r,w2))
  (h:Q (.own (txV t w2)) (Abs.upd G id (.agg [.sli .u8 r,.bool w2]))):Wf E (specOf l) pf101 [.ptr id] G Q:=by
 unfold rdText at he
 simp -implicitDefEqProofs only[pf101,hO,SOff_eq,go_sem,↓reduceIte]
 refine⟨b,w,hG,?_⟩
 cases w with
 |true=>
  cases he
  rw[upd_self hG]at h
  simp -implicitDefEqProofs only[go_sem,↓reduceIte]
  exact h
 |false=>
  rcases e1:rdUpto 65536 (b,false)with⟨n1,r1,w1⟩
  obtain⟨z11,z12,z13,z14,⟨u1,z15⟩,_⟩:=rdUpto_all e1 hb (by omega)
  have g:∀x,Abs.look (Abs.upd G id x) id=some x:=fun x=>look_upd_same hG
  simp only[e1,Bool.false_eq_true,if_false]at he
  simp -implicitDefEqProofs only[hG,hU,SUp_eq,go_sem,↓reduceIte]
  refine⟨b,false,n1,r1,w1,⟨rfl,hb,hl,e1⟩,?_⟩
  simp -implicitDefEqProofs only[g,upd_upd,hC,SCl_eq,List.drop_zero,go_sem,↓reduceIte]
  have e9:r1.take r1.length=r1:=List.take_of_length_le (Nat.le_refl _)
  refine⟨fun hw=> ?_,fun hw=>⟨fun hn=> ?_,fun hn=>⟨⟨by omega,by omega⟩,?_⟩⟩⟩
  ·rw[if_pos (.inl hw)]at he;cases he;exact h
  ·rw[if_pos (.inr hn)]at he;cases he;exact h
  ·rw[if_neg (by rw[hw];simp;omega)]at he;cases he
   subst hw
   refine⟨_,⟨rfl,by rw[List.length_take];omega⟩,?_⟩
   rw[Int.toNat_natCast,e9]
   exact⟨⟨z13,hn,by omega⟩,h⟩
theorem walk64 {B u r t r2:List Int} {w w2:Bool} (hU:Abs.look l 58=some SRu) (hB:B=u++r) (hb:Byt B) (hl:B.length < 1000000000000) (he:rdText (r,w)=(t,r2,w2))
  (h:Q (.tup [.agg [.sli .u8 B,.int .i64 ((B.length:Int)-r2.length),.bool w2],txV t w2]) G):Wf E (specOf l) pf64 [.agg [.sli .u8 B,.int .i64 (u.length:Nat),.bool w]] G Q:=by
 have hbr:Byt r:=fun x hx=>hb x (by rw[hB];exact List.mem_append_right _ hx)
 have hBl:B.length=u.length+r.length:=by rw[hB,List.length_append]
 rcases e1:rdUpto 65536 (r,w)with⟨n1,r1,w1⟩
 obtain⟨z11,z12,z13,z14,⟨u1,z15⟩,zw⟩:=rdUpto_all e1 hbr (by omega)
 unfold rdText at he
 simp -implicitDefEqProofs only[pf64,hU,SRu_eq,go_sem,↓reduceIte]
 refine⟨u,r,n1,r1,w1,⟨hB,rfl,hb,hl,e1⟩,?_⟩
 have zl:r.length=u1.length+r1.length:=by rw[z15,List.length_append]
 have x1:IntKind.i64.wrap ((B.length:Int)-((B.length:Int)-(r1.length:Int)))=(r1.length:Int):=by rw[w64 (by omega) (by omega)];omega
 have x0:(B.length:Int)-(r1.length:Int)=((u.length+u1.length:Nat):Int):=by omega
 have eB:B=(u++u1)++r1:=by rw[hB,z15,List.append_assoc]
 have lq:u.length+u1.length=(u++u1).length:=by rw[List.length_append]
 obtain⟨k,rfl⟩:∃k:Nat,n1=(k:Int):=⟨n1.toNat,by omega⟩
 have x2:IntKind.i64.wrap ((B.length:Int)-(r1.length:Int)+(k:Int))=((u.length+u1.length+k:Nat):Int):=wc (by omega) (by omega)
 have x3:List.drop (u.length+u1.length) (List.take (u.length+u1.length+k) B)=r1.take k:=by
  rw[eB,lq,List.take_length_add_append,List.drop_left]
 rw[x1,x2,x0,Int.toNat_natCast,Int.toNat_natCast,x3]
 simp only[e1]at he
 have hww:w=true→w1=true:=fun h=>by cases w1 with
  |true=>rfl
  |false=>rw[(zw rfl).1]at h;exact h
 have hun:w=true→r2=r∧t=[]∧w2=true:=fun h=>by rw[if_pos h,h]at he;cases he;exact⟨rfl,rfl,rfl⟩
 have hul:(u.length:Int)=(B.length:Int)-(r.length:Int):=by omega
 refine⟨fun hw=> ?_,fun hw=>⟨fun hn=> ?_,fun hn=> ?_⟩⟩
 ·by_cases h0:w=true
  ·obtain⟨rfl,rfl,rfl⟩:=hun h0
   rw[hul];exact h
  ·rw[if_neg h0,if_pos (.inl hw)]at he;cases he
   rw[hul];exact h
 ·by_cases h0:w=true
  ·rw[hww h0]at hw;cases hw
  ·rw[if_neg h0,if_pos (.inr hn)]at he;cases he
   rw[hul];exact h
 ·by_cases h0:w=true
  ·rw[hww h0]at hw;cases hw
  ·rw[if_neg h0,if_neg (by rw[hw];simp;omega)]at he;cases he
   subst hw
   rw[Int.toNat_natCast,show (B.length:Int)-((r1.drop k).length:Nat)=((u.length+u1.length+k:Nat):Int)by rw[List.length_drop];omega]at h
   have:(r1.take k).length≤r1.length:=by rw[List.length_take];omega
   exact⟨⟨by omega,by omega,by omega⟩,by omega,h⟩
theorem loop137 {QQ:Ex→St→Prop} {s:ByteArray} {L:List Int} (hb:Byt L) (hl:L.length < 1000000000)
  (hx:∀ts,(∀c∈L,chOk c)→QQ (.exit 0) ⟨[some (.v (.str s)),none,none,none,none,none,some (.v (.sli .u8 L)),some (.v (.int .i64 (L.length:Nat))),some (.v (.int .i64 (L.length:Nat)))],ts,[],G⟩) (hr:∀ts v4 v8,¬(∀c∈L,chOk c)→QQ .ret ⟨[some (.v (.str s)),none,some (.v (.bool false)),none,v4,none,some (.v (.sli .u8 L)),some (.v (.int .i64 (L.length:Nat))),v8],ts,[],G⟩):
  ∀(e i:Nat),i+e=L.length→(∀c∈L.take i,chOk c)→WL (W E C lp137_0) [0,6,7,8] QQ (e+1) ⟨[some (.v (.str s)),none,none,none,none,none,some (.v (.sli .u8 L)),some (.v (.int .i64 (L.length:Nat))),some (.v (.int .i64 (i:Nat)))],[],[],G⟩:=by
 intro e
 induction e with
 |zero=>
  intro i hi ht
  obtain rfl:i=L.length:=by omega
  rw[List.take_of_length_le (Nat.le_refl _)]at ht
  refine WL_in lp137_0.eq_1 ?_
  simp -implicitDefEqProofs only[Int.lt_irrefl,go_sem,↓reduceIte]
  exact hx _ ht
 |succ e ih=>
  intro i hi ht
  have c1:(i:Int) < (L.length:Int):=by omega
  have c2:i < L.length:=by omega
  have c3:(0:Int)≤i:=by omega
  have w1:IntKind.i64.wrap ((i:Int)+1)=((i+1:Nat):Int):=wc (by omega) (by omega)
  have hg:L.getD i 0=L[i]:=by simp[c2]
  have hc:=byt_getD hb i
  have hm:L[i]∈L:=List.getElem_mem c2
  have hn:chOk (L.getD i 0)→∀c∈L.take (i+1),chOk c:=fun h c hc=>by
   rw[List.take_add_one,List.mem_append]at hc
   rcases hc with hc|hc
   ·exact ht c hc
   ·rw[List.getElem?_eq_getElem c2]at hc;simp at hc;rw[hc,←hg];exact h
  have hno:¬chOk (L.getD i 0)→¬(∀c∈L,chOk c):=fun h h2=>h (by rw[hg];exact h2 _ hm)
  have ih1:=fun h=>ih (i+1) (by omega) (hn h)
  generalize hcd:L.getD i 0=c at*
  refine WL_in lp137_0.eq_1 ?_
  simp -implicitDefEqProofs only[c1,c3,w1,hcd,Int.toNat_natCast,go_sem,↓reduceIte]
  repeat' first|(intro _)|constructor
  all_goals first
   |exact hr _ _ _ (hno (by unfold chOk;omega))
   |exact ih1 (by unfold chOk;omega)
theorem walk137 {s:ByteArray} (hW:Abs.look l 136=some ZWt) (hl:s.size < 1000000000) (h:Q (.v (.bool (decide (KeyOk (byS s))))) G):Wf E (specOf l) pf137 [.str s] G Q:=by
 have hL:(byS s).length=s.size:=byS_len
 simp -implicitDefEqProofs only[pf137,hW,ZWt_eq,go_sem,↓reduceIte]
 refine⟨(byS s).length+1,?_⟩
 simp -implicitDefEqProofs only[go_sem,↓reduceIte]
 refine loop137 byS_byt (by omega) (fun ts hy=> ?_) (fun ts v4 v8 hn=> ?_) _ 0 (by omega) (fun c hc=>by simp at hc)
 ·simp -implicitDefEqProofs only[hW,ZWt_eq,go_sem,↓reduceIte]
  refine finB h ?_
  rw[decide_eq_decide];unfold KeyOk;rw[hL]
  exact⟨fun h=>⟨by omega,by omega⟩,fun h=>⟨hy,by omega,by omega⟩⟩
 ·simp -implicitDefEqProofs only[go_sem,↓reduceIte]
  refine finB h ?_
  rw[decide_eq_false_iff_not]
  exact fun h=>hn h.1
theorem byS_get {s:ByteArray} {i:Nat} (h:i < s.size):((s.data.toList.getD i 0).toNat:Int)=(byS s).getD i 0:=by
 have h2:i < s.data.toList.length:=by simpa using h
 unfold byS;simp[List.getD,List.getElem?_eq_getElem h2]
theorem loop90 {QQ:Ex→St→Prop} {s:ByteArray} (hl:s.size < 1000000000)
  (hx:∀ts,(∀c∈byS s,chOk c)→QQ (.exit 0) ⟨[some (.v (.str s)),none,none,some (.v (.int .i64 (s.size:Nat)))],ts,[],G⟩) (hr:∀ts v3,¬(∀c∈byS s,chOk c)→QQ .ret ⟨[some (.v (.str s)),none,some (.v (.bool false)),v3],ts,[],G⟩):
  ∀(e i:Nat),i+e=s.size→(∀c∈(byS s).take i,chOk c)→WL (W E C lp90_0) [0,3] QQ (e+1) ⟨[some (.v (.str s)),none,none,some (.v (.int .i64 (i:Nat)))],[],[],G⟩:=by
 intro e
 have hL:(byS s).length=s.size:=byS_len
 have hb:Byt (byS s):=byS_byt
 induction e with
 |zero=>
  intro i hi ht
  obtain rfl:i=s.size:=by omega
  rw[List.take_of_length_le (by omega)]at ht
  refine WL_in lp90_0.eq_1 ?_
  simp -implicitDefEqProofs only[Int.lt_irrefl,go_sem,↓reduceIte]
  exact hx _ ht
 |succ e ih=>
  intro i hi ht
  have c1:(i:Int) < (s.size:Int):=by omega
  have c2:i < s.size:=by omega
  have c3:(0:Int)≤i:=by omega
  have w1:IntKind.i64.wrap ((i:Int)+1)=((i+1:Nat):Int):=wc (by omega) (by omega)
  have c4:i < (byS s).length:=by omega
  have hg:(byS s).getD i 0=(byS s)[i]:=by simp[c4]
  have hc:=byt_getD hb i
  have hm:(byS s)[i]∈byS s:=List.getElem_mem c4
  have hn:chOk ((byS s).getD i 0)→∀c∈(byS s).take (i+1),chOk c:=fun h c hc=>by
   rw[List.take_add_one,List.mem_append]at hc
   rcases hc with hc|hc
   ·exact ht c hc
   ·rw[List.getElem?_eq_getElem c4]at hc;simp at hc;rw[hc,←hg];exact h
  have hno:¬chOk ((byS s).getD i 0)→¬(∀c∈byS s,chOk c):=fun h h2=>h (by rw[hg];exact h2 _ hm)
  have ih1:=fun h=>ih (i+1) (by omega) (hn h)
  have hcd:=byS_get c2
  generalize (byS s).getD i 0=c at*
  refine WL_in lp90_0.eq_1 ?_
  simp -implicitDefEqProofs only[c1,c3,w1,hcd,Int.toNat_natCast,go_sem,↓reduceIte]
  repeat' first|(intro _)|constructor
  all_goals first
   |exact hr _ _ (hno (by unfold chOk;omega))
   |exact ih1 (by unfold chOk;omega)
theorem walk90 {s:ByteArray} (hl:s.size < 1000000000) (h:Q (.v (.bool (decide (KeyOk (byS s))))) G):Wf E C pf90 [.str s] G Q:=by
 have hL:(byS s).length=s.size:=byS_len
 simp -implicitDefEqProofs only[pf90,go_sem,↓reduceIte]
 refine⟨s.size+1,?_⟩
 simp -implicitDefEqProofs only[go_sem,↓reduceIte]
 refine loop90 hl (fun ts hy=> ?_) (fun ts v3 hn=> ?_) _ 0 (by omega) (fun c hc=>by simp at hc)
 ·simp -implicitDefEqProofs only[go_sem,↓reduceIte]
  refine⟨fun h1=>finB h ?_,fun h1=>finB h ?_⟩
  ·rw[decide_eq_decide];unfold KeyOk;rw[hL]
   exact⟨fun h=>by have:=h.2.2;omega,fun h=>⟨hy,by omega,by omega⟩⟩
  ·rw[decide_eq_false_iff_not];unfold KeyOk;rw[hL];exact fun h=>by omega
 ·simp -implicitDefEqProofs only[go_sem,↓reduceIte]
  refine finB h ?_
  rw[decide_eq_false_iff_not]
  exact fun h=>hn h.1
end Go.Proofs.Ytegamlopcdjiaaa.Sha
