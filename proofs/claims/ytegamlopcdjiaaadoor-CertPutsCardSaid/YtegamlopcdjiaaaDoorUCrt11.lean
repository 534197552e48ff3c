/- Certificates: the reference reads. -/
import Derived.Test.YtegamlopcdjiaaaDoorUCrt10
namespace Go.Proofs.YtegamlopcdjiaaaDoor.Sha
open Go Go.Abs Go.Abs.Sha Go.Abs.Srt
set_option linter.unusedSimpArgs false
set_option linter.unusedVariables false
set_option maxRecDepth 100000
attribute [local irreducible] W Wops WopsD WL Wop WopD
variable {E:Env} {C:Abs.Spec} {l:List (Nat×Spec1)} {G:List (Nat×V)} {Q:R→List (Nat×V)→Prop}
set_option maxHeartbeats 1000000
theorem low_cert3 {G0 G:List (Nat×V)} {z x:V} {els:List V} {s a:V} {e:V} (h:Row G0 G 33 z x els):Low G0 (.tup [s,.agg [a,x],e]) G (.tup [s,.agg [a,.sle 33 els],e]) G0:=by
 refine h.fz (fun y=> .tup [s,.agg [a,y],e]) (fun id L k y hy=> ?_) (fun y hy=> ?_)
 ·simp only[R.Fz]
  refine⟨_,rfl,?_⟩
  unfold V.FzL;refine⟨_,_,rfl,V.Fz.refl _,?_⟩
  unfold V.FzL;refine⟨_,_,rfl,?_,V.FzL.refl _⟩
  unfold V.Fz;refine⟨_,rfl,?_⟩
  unfold V.FzL;refine⟨_,_,rfl,V.Fz.refl _,?_⟩
  unfold V.FzL;refine⟨_,_,rfl,hy,V.FzL.refl _⟩
 ·simp only[R.Wk]
  refine⟨_,rfl,?_⟩
  unfold V.WkL;refine⟨_,_,rfl,V.Wk.refl _,?_⟩
  unfold V.WkL;refine⟨_,_,rfl,?_,V.WkL.refl _⟩
  unfold V.Wk;refine⟨_,rfl,?_⟩
  unfold V.WkL;refine⟨_,_,rfl,V.Wk.refl _,?_⟩
  unfold V.WkL;refine⟨_,_,rfl,hy,V.WkL.refl _⟩
theorem loop38 (hU:Abs.look l 69=some SRu) (hH:Abs.look l 70=some SRh) {QQ:Ex→St→Prop} {k:Nat} {n1 n2 n3 n5:Int} {n4 n6 b t7 r7:List Int} {w7:Bool} {p1 p2:Bx} (h7:b=t7++r7) (hb:Byt b) (hl:b.length < 100000000000) (hk:k≤21)
  (hx:∀ts G' x l2 r w Lt,rdSigs k (r7,w7)=(l2,r,w)→Row G G' 33 (.agg [.int .i64 0,.arr .u8 32 [0,0,0,0,0,0,0,0,0,0,0,0,0,0,0,0,0,0,0,0,0,0,0,0,0,0,0,0,0,0,0,0]]) x (l2.map sgV)→QQ (.exit 0) ⟨[none,some (.lp 0 []),some (.lp 1 []),some (.lp 2 []),none,some (.lp 3 []),some (.v (.int .i64 (k:Nat))),some (.v (.int .i64 (k:Nat))),none],ts,⟨false,.agg [.sli .u8 b,.int .i64 ((b.length:Int)-(r.length:Int)),.bool w]⟩::p1::p2::⟨false,.agg [.agg [.int .i64 0,.int .i64 n1,.int .i64 n2,.int .i64 n3,.arr .u8 32 n4,.int .i64 n5,.arr .u8 32 n6,.arr .u8 32 [0,0,0,0,0,0,0,0,0,0,0,0,0,0,0,0,0,0,0,0,0,0,0,0,0,0,0,0,0,0,0,0]],x]⟩::Lt,G'⟩):
  ∀(e j:Nat) (G':List (Nat×V)) (x:V) (l2:List (Int×List Int)) (r:List Int) (w:Bool) (Lt:List Bx),j+e=k→rdSigs j (r7,w7)=(l2,r,w)→Row G G' 33 (.agg [.int .i64 0,.arr .u8 32 [0,0,0,0,0,0,0,0,0,0,0,0,0,0,0,0,0,0,0,0,0,0,0,0,0,0,0,0,0,0,0,0]]) x (l2.map sgV)→
   WL (W E (specOf l) lp38_0) [1,2,3,5,6,7] QQ (e+1) ⟨[none,some (.lp 0 []),some (.lp 1 []),some (.lp 2 []),none,some (.lp 3 []),some (.v (.int .i64 (k:Nat))),some (.v (.int .i64 (j:Nat))),none],[],⟨false,.agg [.sli .u8 b,.int .i64 ((b.length:Int)-(r.length:Int)),.bool w]⟩::p1::p2::⟨false,.agg [.agg [.int .i64 0,.int .i64 n1,.int .i64 n2,.int .i64 n3,.arr .u8 32 n4,.int .i64 n5,.arr .u8 32 n6,.arr .u8 32 [0,0,0,0,0,0,0,0,0,0,0,0,0,0,0,0,0,0,0,0,0,0,0,0,0,0,0,0,0,0,0,0]],x]⟩::Lt,G'⟩:=by
 have hb7:Byt r7:=fun x hx=>hb x (by rw[h7];exact List.mem_append_right _ hx)
 have hl7:r7.length≤b.length:=by rw[h7,List.length_append];omega
 intro e
 induction e with
 |zero=>
  intro j G' x l2 r w Lt hj he hrow
  obtain rfl:j=k:=by omega
  refine WL_in lp38_0.eq_1 ?_
  simp (maxSteps:=1000000) (implicitDefEqProofs:=false) only[Int.lt_irrefl,go_sem,↓reduceIte]
  exact hx _ _ _ _ _ _ _ he hrow
 |succ e ih=>
  intro j G' x l2 r w Lt hj he hrow
  have c1:(j:Int) < (k:Int):=by omega
  have w1:IntKind.i64.wrap ((j:Int)+1)=((j+1:Nat):Int):=wc (by omega) (by omega)
  have many:=rdSigs_all he hb7
  have ml:=many.len
  obtain⟨um,hum⟩:=many.suf
  have hbr:b=(t7++um)++r:=by rw[List.append_assoc,←hum];exact h7
  have hlr:((b.length:Int)-(r.length:Int))=((t7++um).length:Int):=by rw[hbr];simp only[List.length_append];omega
  rcases e1:rdUpto 21 (r,w)with⟨n,ra,wa⟩
  obtain⟨y11,y12,_,_,⟨ua,y15⟩,_⟩:=rdUpto_all e1 many.byt (by omega)
  have hbra:b=(t7++um++ua)++ra:=by rw[List.append_assoc,←y15];exact hbr
  have hlra:((b.length:Int)-(ra.length:Int))=((t7++um++ua).length:Int):=by rw[hbra];simp only[List.length_append];omega
  rcases e2:rdHash (ra,wa)with⟨hh,r2,w2⟩
  have he2:rdSigs (j+1) (r7,w7)=(l2++[(n,hh)],r2,w2):=by rw[rdSigs_snoc,he];simp only[e1,e2]
  obtain⟨x1,x2⟩:=hrow.one
  unfold V.isAgg at x2
  refine WL_in lp38_0.eq_1 ?_
  simp (maxSteps:=1000000) (implicitDefEqProofs:=false) only[c1,x1,x2,hU,SRu_eq,hH,SRh_eq,go_sem,↓reduceIte]
  refine⟨t7++um,r,n,ra,wa,⟨hbr,hlr,hb,by omega,e1⟩,?_⟩
  try simp (maxSteps:=1000000) (implicitDefEqProofs:=false) only[go_sem,↓reduceIte]
  refine⟨t7++um++ua,ra,hh,r2,w2,⟨hbra,hlra,hb,by omega,e2⟩,?_⟩
  try simp (maxSteps:=1000000) (implicitDefEqProofs:=false) only[go_sem,↓reduceIte]
  refine Row.app (G0:=G) (sz:=33) (z:= .agg [.int .i64 0,.arr .u8 32 [0,0,0,0,0,0,0,0,0,0,0,0,0,0,0,0,0,0,0,0,0,0,0,0,0,0,0,0,0,0,0,0]]) (y:=sgV (n,hh)) (els:=l2.map sgV) hrow (by rw[List.length_map,many.cnt];omega) ⟨rfl,rfl⟩ rfl (fun u hu=> ?_) (fun x' G2 hr2=> ?_)
  ·obtain⟨q,_,rfl⟩:=List.mem_map.1 hu;exact⟨rfl,rfl⟩
  ·obtain⟨y1,y2⟩:=hr2.one
   unfold V.isAgg at y2
   have yl:=hrow.like hr2
   simp (maxSteps:=1000000) (implicitDefEqProofs:=false) only[w1,x1,x2,y1,y2,yl,go_sem,↓reduceIte]
   refine ih (j+1) G2 x' (l2++[(n,hh)]) r2 w2 _ (by omega) he2 ?_
   rw[List.map_append];exact hr2
theorem walk38 {b r:List Int} {a:CertS} {w:Bool} (hU:Abs.look l 69=some SRu) (hH:Abs.look l 70=some SRh) (hM:Abs.look l 40=some ZMc)
  (hb:Byt b) (hl:b.length < 100000000000) (he:rdCert (b,false)=(a,r,w))
  (h:Q (.tup [.agg [.sli .u8 b,.int .i64 ((b.length:Int)-r.length),.bool w],(certR a w).v,.bool (!w&&a.may)]) G):Wf E (specOf l) pf38 [.agg [.sli .u8 b,.int .i64 0,.bool false]] G (fun r G'=>∃r2 G2,Low G r G' r2 G2∧Q r2 G2):=by
 rcases e1:rdUpto 3 (b,false)with⟨n1,r1,w1⟩
 rcases e2:rdUpto 1099511627776 (r1,w1)with⟨n2,r2,w2⟩
 rcases e3:rdUpto 3 (r2,w2)with⟨n3,r3,w3⟩
 rcases e4:rdHash (r3,w3)with⟨n4,r4,w4⟩
 rcases e5:rdUpto 1099511627776 (r4,w4)with⟨n5,r5,w5⟩
 rcases e6:rdHash (r5,w5)with⟨n6,r6,w6⟩
 rcases e7:rdUpto 21 (r6,w6)with⟨n7,r7,w7⟩
 rcases e8:rdSigs n7.toNat (r7,w7)with⟨n8,r8,w8⟩
 obtain⟨z11,z12,_,_,⟨u1,z15⟩,_⟩:=rdUpto_all e1 hb (by omega)
 obtain⟨z21,z22,_,_,⟨u2,z25⟩,_⟩:=rdUpto_all e2 z11 (by omega)
 obtain⟨z31,z32,_,_,⟨u3,z35⟩,_⟩:=rdUpto_all e3 z21 (by omega)
 obtain⟨z41,z42,_,⟨u4,z45⟩,_⟩:=rdHash_all e4 z31
 obtain⟨z51,z52,_,_,⟨u5,z55⟩,_⟩:=rdUpto_all e5 z41 (by omega)
 obtain⟨z61,z62,_,⟨u6,z65⟩,_⟩:=rdHash_all e6 z51
 obtain⟨z71,z72,z73,z74,⟨u7,z75⟩,_⟩:=rdUpto_all e7 z61 (by omega)
 have many:=rdSigs_all e8 z71
 have mlen:=many.len
 have eA:rdCert (b,false)=(⟨⟨0,n1,n2,n3,n4,n5,n6,zero32⟩,n8⟩,r8,w8):=by simp only[rdCert,e1,e2,e3,e4,e5,e6,e7,e8]
 have ok:=rdCert_all eA hb
 rw[eA]at he
 simp only[Prod.mk.injEq]at he
 obtain⟨rfl,rfl,rfl⟩:=he
 obtain⟨k,hk⟩:∃k:Nat,n7=(k:Int):=⟨n7.toNat,by omega⟩
 rw[hk,Int.toNat_natCast]at e8
 have hk21:k≤21:=by omega
 have l1:((b.length:Int)-(r1.length:Int))=((u1).length:Int):=by rw[z15];simp only[List.length_append];omega
 have l2:((b.length:Int)-(r2.length:Int))=((u1++u2).length:Int):=by rw[z15,z25];simp only[List.length_append];omega
 have l3:((b.length:Int)-(r3.length:Int))=((u1++u2++u3).length:Int):=by rw[z15,z25,z35];simp only[List.length_append];omega
 have l4:((b.length:Int)-(r4.length:Int))=((u1++u2++u3++u4).length:Int):=by rw[z15,z25,z35,z45];simp only[List.length_append];omega
 have l5:((b.length:Int)-(r5.length:Int))=((u1++u2++u3++u4++u5).length:Int):=by rw[z15,z25,z35,z45,z55];simp only[List.length_append];omega
 have l6:((b.length:Int)-(r6.length:Int))=((u1++u2++u3++u4++u5++u6).length:Int):=by rw[z15,z25,z35,z45,z55,z65];simp only[List.length_append];omega
 have l7:((b.length:Int)-(r7.length:Int))=((u1++u2++u3++u4++u5++u6++u7).length:Int):=by rw[z15,z25,z35,z45,z55,z65,z75];simp only[List.length_append];omega
 have b1:b=u1++r1:=z15
 have b2:b=u1++u2++r2:=by rw[List.append_assoc,←z25];exact b1
 have b3:b=u1++u2++u3++r3:=by rw[List.append_assoc,←z35];exact b2
 have b4:b=u1++u2++u3++u4++r4:=by rw[List.append_assoc,←z45];exact b3
 have b5:b=u1++u2++u3++u4++u5++r5:=by rw[List.append_assoc,←z55];exact b4
 have b6:b=u1++u2++u3++u4++u5++u6++r6:=by rw[List.append_assoc,←z65];exact b5
 have b7:b=u1++u2++u3++u4++u5++u6++u7++r7:=by rw[List.append_assoc,←z75];exact b6
 simp (maxSteps:=1000000) (implicitDefEqProofs:=false) only[pf38,hU,SRu_eq,hH,SRh_eq,go_sem,↓reduceIte]
 refine⟨[],b,n1,r1,w1,⟨rfl,rfl,hb,by omega,e1⟩,?_⟩
 refine⟨u1,r1,n2,r2,w2,⟨b1,by first|exact l1|simpa using l1,hb,by omega,e2⟩,?_⟩
 refine⟨u1++u2,r2,n3,r3,w3,⟨b2,by first|exact l2|simpa using l2,hb,by omega,e3⟩,?_⟩
 refine⟨u1++u2++u3,r3,n4,r4,w4,⟨b3,by first|exact l3|simpa using l3,hb,by omega,e4⟩,?_⟩
 refine⟨u1++u2++u3++u4,r4,n5,r5,w5,⟨b4,by first|exact l4|simpa using l4,hb,by omega,e5⟩,?_⟩
 refine⟨u1++u2++u3++u4++u5,r5,n6,r6,w6,⟨b5,by first|exact l5|simpa using l5,hb,by omega,e6⟩,?_⟩
 refine⟨u1++u2++u3++u4++u5++u6,r6,n7,r7,w7,⟨b6,by first|exact l6|simpa using l6,hb,by omega,e7⟩,?_⟩
 refine⟨k+1,?_⟩
 rw[hk]
 try simp (maxSteps:=1000000) (implicitDefEqProofs:=false) only[go_sem,↓reduceIte]
 refine loop38 (k:=k) (t7:=u1++u2++u3++u4++u5++u6++u7) (r7:=r7) (w7:=w7) hU hH b7 hb hl hk21 (fun ts G' x l2 r w Lt hm hrow=> ?_) k 0 _ .nils [] r7 w7 [] (by omega) rfl (Row.nil (Ext.refl _))
 rw[e8]at hm
 simp only[Prod.mk.injEq]at hm
 obtain⟨rfl,rfl,rfl⟩:=hm
 obtain⟨x1,x2⟩:=hrow.one
 unfold V.isAgg at x2
 have xn:x.same .nils=true:=(Row.nil (z:=(.agg [.int .i64 0,.arr .u8 32 [0,0,0,0,0,0,0,0,0,0,0,0,0,0,0,0,0,0,0,0,0,0,0,0,0,0,0,0,0,0,0,0]]:V)) (sz:=33) (Ext.refl G)).like hrow
 simp (maxSteps:=1000000) (implicitDefEqProofs:=false) only[x1,x2,xn,go_sem,↓reduceIte]
 cases w8 with
 |true=>
  try simp (maxSteps:=1000000) (implicitDefEqProofs:=false) only[go_sem,↓reduceIte]
  exact⟨_,_,low_cert3 (els:=[]) (z:= .agg [.int .i64 0,.arr .u8 32 [0,0,0,0,0,0,0,0,0,0,0,0,0,0,0,0,0,0,0,0,0,0,0,0,0,0,0,0,0,0,0,0]]) (Row.nil hrow.1),h⟩
 |false=>
  have nl:n8.length < 1000000:=by have:=ok.cnt;dsimp only at this;omega
  simp (maxSteps:=1000000) (implicitDefEqProofs:=false) only[hM,ZMc_eq,x1,x2,go_sem,↓reduceIte]
  refine⟨⟨0,n1,n2,n3,n4,n5,n6,zero32⟩,x,n8,⟨rfl,sgv_row hrow,ok.wf.1,nl⟩,?_⟩
  cases hq:CertS.may ⟨⟨0,n1,n2,n3,n4,n5,n6,zero32⟩,n8⟩with
  |false=>
   simp (maxSteps:=1000000) (implicitDefEqProofs:=false) only[go_sem,↓reduceIte]
   rw[certR,hq]at h
   exact⟨_,_,low_cert3 (els:=[]) (z:= .agg [.int .i64 0,.arr .u8 32 [0,0,0,0,0,0,0,0,0,0,0,0,0,0,0,0,0,0,0,0,0,0,0,0,0,0,0,0,0,0,0,0]]) (Row.nil hrow.1),h⟩
  |true=>
   simp (maxSteps:=1000000) (implicitDefEqProofs:=false) only[x1,x2,xn,go_sem,↓reduceIte]
   rw[certR,hq]at h
   exact⟨_,_,low_cert3 hrow,h⟩
end Go.Proofs.YtegamlopcdjiaaaDoor.Sha
