/- Accumulations: the reference reads. -/
import Derived.Test.YtegamlopcdjiaaaDoorUAcc8
namespace Go.Proofs.YtegamlopcdjiaaaDoor.Sha
open Go Go.Abs Go.Abs.Sha Go.Abs.Srt
set_option linter.unusedSimpArgs false
set_option linter.unusedVariables false
set_option maxRecDepth 100000
attribute [local irreducible] W Wops WopsD WL Wop WopD
variable {E:Env} {C:Abs.Spec} {l:List (Nat×Spec1)} {G:List (Nat×V)} {Q:R→List (Nat×V)→Prop}
set_option maxHeartbeats 1000000
theorem low_accu3 {G0 G:List (Nat×V)} {z x:V} {els:List Int} {s a b c d t e:V} (h:Row G0 G 1 z x (els.map (V.int .i64))):Low G0 (.tup [s,.agg [a,b,c,d,x,t],e]) G (.tup [s,.agg [a,b,c,d,.sli .i64 els,t],e]) G0:=by
 refine h.fzI (fun y=> .tup [s,.agg [a,b,c,d,y,t],e]) (fun id L k y hy=> ?_) (fun y hy=> ?_)
 ·simp only[R.Fz]
  refine⟨_,rfl,?_⟩
  unfold V.FzL;refine⟨_,_,rfl,V.Fz.refl _,?_⟩
  unfold V.FzL;refine⟨_,_,rfl,?_,V.FzL.refl _⟩
  unfold V.Fz;refine⟨_,rfl,?_⟩
  unfold V.FzL;refine⟨_,_,rfl,V.Fz.refl _,?_⟩
  unfold V.FzL;refine⟨_,_,rfl,V.Fz.refl _,?_⟩
  unfold V.FzL;refine⟨_,_,rfl,V.Fz.refl _,?_⟩
  unfold V.FzL;refine⟨_,_,rfl,V.Fz.refl _,?_⟩
  unfold V.FzL;refine⟨_,_,rfl,hy,V.FzL.refl _⟩
 ·simp only[R.Wk]
  refine⟨_,rfl,?_⟩
  unfold V.WkL;refine⟨_,_,rfl,V.Wk.refl _,?_⟩
  unfold V.WkL;refine⟨_,_,rfl,?_,V.WkL.refl _⟩
  unfold V.Wk;refine⟨_,rfl,?_⟩
  unfold V.WkL;refine⟨_,_,rfl,V.Wk.refl _,?_⟩
  unfold V.WkL;refine⟨_,_,rfl,V.Wk.refl _,?_⟩
  unfold V.WkL;refine⟨_,_,rfl,V.Wk.refl _,?_⟩
  unfold V.WkL;refine⟨_,_,rfl,V.Wk.refl _,?_⟩
  unfold V.WkL;refine⟨_,_,rfl,hy,V.WkL.refl _⟩
theorem loop31 (hU:Abs.look l 69=some SRu) {QQ:Ex→St→Prop} {k:Nat} {n1 n2 n3:Int} {n4 b t5 r5:List Int} {w5:Bool} {p1 p2:Bx} (h5:b=t5++r5) (hb:Byt b) (hl:b.length < 100000000000) (hk:k≤21)
  (hx:∀ts G' x l2 r w Lt,rdMany k (r5,w5)=(l2,r,w)→Row G G' 1 (.int .i64 0) x (l2.map (V.int .i64))→QQ (.exit 0) ⟨[none,some (.lp 0 []),some (.lp 1 []),some (.lp 2 []),none,some (.lp 3 []),some (.v (.int .i64 (k:Nat))),some (.v (.int .i64 (k:Nat))),none,none],ts,⟨false,.agg [.sli .u8 b,.int .i64 ((b.length:Int)-(r.length:Int)),.bool w]⟩::p1::p2::⟨false,.agg [.int .i64 n1,.int .i64 n2,.int .i64 n3,.arr .u8 32 n4,x,.arr .u8 32 [0,0,0,0,0,0,0,0,0,0,0,0,0,0,0,0,0,0,0,0,0,0,0,0,0,0,0,0,0,0,0,0]]⟩::Lt,G'⟩):
  ∀(e j:Nat) (G':List (Nat×V)) (x:V) (l2 r:List Int) (w:Bool) (Lt:List Bx),j+e=k→rdMany j (r5,w5)=(l2,r,w)→Row G G' 1 (.int .i64 0) x (l2.map (V.int .i64))→
   WL (W E (specOf l) lp31_0) [1,2,3,5,6,7] QQ (e+1) ⟨[none,some (.lp 0 []),some (.lp 1 []),some (.lp 2 []),none,some (.lp 3 []),some (.v (.int .i64 (k:Nat))),some (.v (.int .i64 (j:Nat))),none,none],[],⟨false,.agg [.sli .u8 b,.int .i64 ((b.length:Int)-(r.length:Int)),.bool w]⟩::p1::p2::⟨false,.agg [.int .i64 n1,.int .i64 n2,.int .i64 n3,.arr .u8 32 n4,x,.arr .u8 32 [0,0,0,0,0,0,0,0,0,0,0,0,0,0,0,0,0,0,0,0,0,0,0,0,0,0,0,0,0,0,0,0]]⟩::Lt,G'⟩:=by
 have hb5:Byt r5:=fun x hx=>hb x (by rw[h5];exact List.mem_append_right _ hx)
 have hl5:r5.length≤b.length:=by rw[h5,List.length_append];omega
 intro e
 induction e with
 |zero=>
  intro j G' x l2 r w Lt hj he hrow
  obtain rfl:j=k:=by omega
  refine WL_in lp31_0.eq_1 ?_
  simp (maxSteps:=1000000) (implicitDefEqProofs:=false) only[Int.lt_irrefl,go_sem,↓reduceIte]
  exact hx _ _ _ _ _ _ _ he hrow
 |succ e ih=>
  intro j G' x l2 r w Lt hj he hrow
  have c1:(j:Int) < (k:Int):=by omega
  have w1:IntKind.i64.wrap ((j:Int)+1)=((j+1:Nat):Int):=wc (by omega) (by omega)
  have many:=rdMany_all he hb5
  have ml:=many.len
  obtain⟨um,hum⟩:=many.suf
  have hbr:b=(t5++um)++r:=by rw[List.append_assoc,←hum];exact h5
  have hlr:((b.length:Int)-(r.length:Int))=((t5++um).length:Int):=by rw[hbr];simp only[List.length_append];omega
  rcases e1:rdUpto 21 (r,w)with⟨n,r2,w2⟩
  have he2:rdMany (j+1) (r5,w5)=(l2++[n],r2,w2):=by rw[rdMany_snoc,he];simp only[e1]
  obtain⟨x1,x2⟩:=hrow.one
  unfold V.isAgg at x2
  refine WL_in lp31_0.eq_1 ?_
  simp (maxSteps:=1000000) (implicitDefEqProofs:=false) only[c1,x1,x2,hU,SRu_eq,go_sem,↓reduceIte]
  refine⟨t5++um,r,n,r2,w2,⟨hbr,hlr,hb,by omega,e1⟩,?_⟩
  refine Row.app (G0:=G) (sz:=1) (z:= .int .i64 0) (y:= .int .i64 n) (els:=l2.map (V.int .i64)) hrow (by rw[List.length_map,many.cnt];omega) ⟨rfl,rfl⟩ rfl (fun u hu=> ?_) (fun x' G2 hr2=> ?_)
  ·obtain⟨q,_,rfl⟩:=List.mem_map.1 hu;exact⟨rfl,rfl⟩
  ·obtain⟨y1,y2⟩:=hr2.one
   unfold V.isAgg at y2
   have yl:=hrow.like hr2
   simp (maxSteps:=1000000) (implicitDefEqProofs:=false) only[w1,x1,x2,y1,y2,yl,go_sem,↓reduceIte]
   refine ih (j+1) G2 x' (l2++[n]) r2 w2 _ (by omega) he2 ?_
   rw[List.map_append];exact hr2
theorem walk31 {b r:List Int} {a:AccS} {w:Bool} (hU:Abs.look l 69=some SRu) (hH:Abs.look l 70=some SRh) (hM:Abs.look l 34=some ZM10)
  (hb:Byt b) (hl:b.length < 100000000000) (he:rdAccu (b,false)=(a,r,w))
  (h:Q (.tup [.agg [.sli .u8 b,.int .i64 ((b.length:Int)-r.length),.bool w],(accR a w).v,.bool (!w&&a.may)]) G):Wf E (specOf l) pf31 [.agg [.sli .u8 b,.int .i64 0,.bool false]] G (fun r G'=>∃r2 G2,Low G r G' r2 G2∧Q r2 G2):=by
 rcases e1:rdUpto 21 (b,false)with⟨n1,r1,w1⟩
 rcases e2:rdUpto 1099511627776 (r1,w1)with⟨n2,r2,w2⟩
 rcases e3:rdUpto 1099511627776 (r2,w2)with⟨n3,r3,w3⟩
 rcases e4:rdHash (r3,w3)with⟨n4,r4,w4⟩
 rcases e5:rdUpto 21 (r4,w4)with⟨n5,r5,w5⟩
 rcases e6:rdMany n5.toNat (r5,w5)with⟨n6,r6,w6⟩
 rcases e7:rdHash (r6,w6)with⟨n7,r7,w7⟩
 obtain⟨z11,z12,_,_,⟨u1,z15⟩,_⟩:=rdUpto_all e1 hb (by omega)
 obtain⟨z21,z22,_,_,⟨u2,z25⟩,_⟩:=rdUpto_all e2 z11 (by omega)
 obtain⟨z31,z32,_,_,⟨u3,z35⟩,_⟩:=rdUpto_all e3 z21 (by omega)
 obtain⟨z41,z42,_,⟨u4,z45⟩,_⟩:=rdHash_all e4 z31
 obtain⟨z51,z52,z53,z54,⟨u5,z55⟩,_⟩:=rdUpto_all e5 z41 (by omega)
 have many:=rdMany_all e6 z51
 have mlen:=many.len
 obtain⟨z71,z72,_,⟨u7,z75⟩,_⟩:=rdHash_all e7 many.byt
 have eA:rdAccu (b,false)=(⟨n1,n2,n3,n4,n6,n7⟩,r7,w7):=by simp only[rdAccu,e1,e2,e3,e4,e5,e6,e7]
 have ok:=rdAccu_all eA hb
 rw[eA]at he
 simp only[Prod.mk.injEq]at he
 obtain⟨rfl,rfl,rfl⟩:=he
 obtain⟨k,hk⟩:∃k:Nat,n5=(k:Int):=⟨n5.toNat,by omega⟩
 rw[hk,Int.toNat_natCast]at e6
 have hk21:k≤21:=by omega
 have l1:((b.length:Int)-(r1.length:Int))=((u1).length:Int):=by rw[z15];simp only[List.length_append];omega
 have l2:((b.length:Int)-(r2.length:Int))=((u1++u2).length:Int):=by rw[z15,z25];simp only[List.length_append];omega
 have l3:((b.length:Int)-(r3.length:Int))=((u1++u2++u3).length:Int):=by rw[z15,z25,z35];simp only[List.length_append];omega
 have l4:((b.length:Int)-(r4.length:Int))=((u1++u2++u3++u4).length:Int):=by rw[z15,z25,z35,z45];simp only[List.length_append];omega
 have l5:((b.length:Int)-(r5.length:Int))=((u1++u2++u3++u4++u5).length:Int):=by rw[z15,z25,z35,z45,z55];simp only[List.length_append];omega
 have b1:b=u1++r1:=z15
 have b2:b=u1++u2++r2:=by rw[List.append_assoc,←z25];exact b1
 have b3:b=u1++u2++u3++r3:=by rw[List.append_assoc,←z35];exact b2
 have b4:b=u1++u2++u3++u4++r4:=by rw[List.append_assoc,←z45];exact b3
 have b5:b=u1++u2++u3++u4++u5++r5:=by rw[List.append_assoc,←z55];exact b4
 simp (maxSteps:=1000000) (implicitDefEqProofs:=false) only[pf31,hU,SRu_eq,hH,SRh_eq,go_sem,↓reduceIte]
 refine⟨[],b,n1,r1,w1,⟨rfl,rfl,hb,by omega,e1⟩,?_⟩
 refine⟨u1,r1,n2,r2,w2,⟨b1,by first|exact l1|simpa using l1,hb,by omega,e2⟩,?_⟩
 refine⟨u1++u2,r2,n3,r3,w3,⟨b2,by first|exact l2|simpa using l2,hb,by omega,e3⟩,?_⟩
 refine⟨u1++u2++u3,r3,n4,r4,w4,⟨b3,by first|exact l3|simpa using l3,hb,by omega,e4⟩,?_⟩
 refine⟨u1++u2++u3++u4,r4,n5,r5,w5,⟨b4,by first|exact l4|simpa using l4,hb,by omega,e5⟩,?_⟩
 refine⟨k+1,?_⟩
 rw[hk]
 try simp (maxSteps:=1000000) (implicitDefEqProofs:=false) only[go_sem,↓reduceIte]
 refine loop31 (k:=k) (t5:=u1++u2++u3++u4++u5) (r5:=r5) (w5:=w5) hU b5 hb hl hk21 (fun ts G' x l2 r w Lt hm hrow=> ?_) k 0 _ .nils [] r5 w5 [] (by omega) rfl (Row.nil (Ext.refl _))
 rw[e6]at hm
 simp only[Prod.mk.injEq]at hm
 obtain⟨rfl,rfl,rfl⟩:=hm
 obtain⟨x1,x2⟩:=hrow.one
 unfold V.isAgg at x2
 have xn:x.same .nils=true:=(Row.nil (z:=(.int .i64 0:V)) (sz:=1) (Ext.refl G)).like hrow
 obtain⟨u6,z65⟩:=many.suf
 have l6:((b.length:Int)-(r6.length:Int))=((u1++u2++u3++u4++u5++u6).length:Int):=by rw[z15,z25,z35,z45,z55,z65];simp only[List.length_append];omega
 have b6:b=u1++u2++u3++u4++u5++u6++r6:=by rw[List.append_assoc,←z65];exact b5
 simp (maxSteps:=1000000) (implicitDefEqProofs:=false) only[x1,x2,xn,hH,SRh_eq,go_sem,↓reduceIte]
 refine⟨u1++u2++u3++u4++u5++u6,r6,n7,r7,w7,⟨b6,l6,hb,by omega,e7⟩,?_⟩
 try simp (maxSteps:=1000000) (implicitDefEqProofs:=false) only[go_sem,↓reduceIte]
 cases w7 with
 |true=>
  simp (maxSteps:=1000000) (implicitDefEqProofs:=false) only[go_sem,↓reduceIte]
  exact⟨_,_,low_accu3 (els:=[]) (z:= .int .i64 0) (Row.nil hrow.1),h⟩
 |false=>
  have nl:n6.length < 1000000:=by have:=ok.cnt;dsimp only at this;omega
  simp (maxSteps:=1000000) (implicitDefEqProofs:=false) only[x1,x2,xn,hM,ZM10_eq,go_sem,↓reduceIte]
  refine⟨n6,⟨frv_row hrow,ok.wf,nl⟩,?_⟩
  cases hq:AccS.may ⟨n1,n2,n3,n4,n6,n7⟩with
  |false=>
   simp (maxSteps:=1000000) (implicitDefEqProofs:=false) only[go_sem,↓reduceIte]
   rw[accR,hq]at h
   exact⟨_,_,low_accu3 (els:=[]) (z:= .int .i64 0) (Row.nil hrow.1),h⟩
  |true=>
   simp (maxSteps:=1000000) (implicitDefEqProofs:=false) only[x1,x2,xn,go_sem,↓reduceIte]
   rw[accR,hq]at h
   exact⟨_,_,low_accu3 hrow,h⟩
end Go.Proofs.YtegamlopcdjiaaaDoor.Sha
