/- Laws over plain values, and what functions of the program hand back; no conditions. -/
import Derived.Test.YtjbglbhcbenhpaaWBag7
import Derived.Test.YtjbglbhcbenhpaaG3
import Derived.Test.YtjbglbhcbenhpaaG4
import Derived.Test.YtjbglbhcbenhpaaProg
namespace Go.Proofs.Ytjbglbhcbenhpaa.Sha
open Go Go.Abs Go.Abs.Sha Go.Abs.Srt
set_option linter.unusedSimpArgs false
set_option linter.unusedVariables false
set_option maxRecDepth 100000
attribute [local irreducible] W Wops WopsD WL Wop WopD
variable {E:Env} {C:Abs.Spec} {l:List (Nat×Spec1)} {G:List (Nat×V)} {Q:R→List (Nat×V)→Prop}
set_option maxHeartbeats 1000000
theorem getD_ms2 {l:List MsgS} {j:Nat} {p:MsgS} {r:List MsgS} (h:l.drop j=p::r):(l.map MsgS.v).getD j V.nilp= .agg [.int .i64 p.ki,.int .i64 p.fr,.int .i64 p.to,p.at_.v,p.ce.v,p.ac.v,p.bl.v,.arr .u8 32 p.ha,p.tx.v]:=getD_ms h
theorem last3 {QQ:Ex→St→Prop} {to:Int} {w:List MsgS} {P:List Int} {d6:D} (h6:d6= .own (.sle 349 (w.map MsgS.v))∨d6= .v (.sle 349 (w.map MsgS.v))) (hw:w.length≤400) (hP:P.length≤400) {rest:List Bx}
  (hx:∀ts,QQ (.exit 3) ⟨[none,some (.v (.int .i64 to)),none,none,none,none,some d6,none,none,none,none,none,none,none,none,some (.v (.sli .i64 P)),some (.v (.int .i64 (P.length:Nat))),some (.v (.int .i64 (w.length:Nat))),none,none,none,none,none,none,none,none,none,none,none,none,none,none,none,none,none,none,none,none,none,none,none,none,none,none,none,none,none,none],ts,rest,G⟩):
  ∀(r:List MsgS) (i k:Nat),w.drop i=r→i≤w.length→k≤P.length→P.drop k=toB to i r→
   WL (W E C lp3_0) [1,6,15,16,17] QQ (r.length+1) ⟨[none,some (.v (.int .i64 to)),none,none,none,none,some d6,none,none,none,none,none,none,none,none,some (.v (.sli .i64 P)),some (.v (.int .i64 (k:Nat))),some (.v (.int .i64 (i:Nat))),none,none,none,none,none,none,none,none,none,none,none,none,none,none,none,none,none,none,none,none,none,none,none,none,none,none,none,none,none,none],[],rest,G⟩:=by
 intro r
 induction r with
 |nil=>
  intro i k hd hi hk hp
  have:=drop_none hd
  have c1:¬(i:Int) < (w.length:Int):=by omega
  have hkk:k=P.length:=by
   have:=congrArg List.length hp
   rw[List.length_drop]at this;simp only[toB,List.length_nil]at this;omega
  obtain rfl:i=w.length:=by omega
  subst hkk
  refine WL_in lp3_0.eq_1 ?_
  rcases h6 with rfl|rfl<;>(simp -implicitDefEqProofs only[c1,List.length_map,go_sem,↓reduceIte];exact hx _)
 |cons p r ih=>
  intro i k hd hi hk hp
  obtain⟨hd2,hj2,hlen⟩:=drop_one hd
  have g:=getD_ms2 hd
  have c1:(i:Int) < (w.length:Int):=by omega
  have c3:(0:Int)≤i:=by omega
  have w1:IntKind.i64.wrap ((i:Int)+1)=((i+1:Nat):Int):=wc (by omega) (by omega)
  have w2:IntKind.i64.wrap ((k:Int)+1)=((k+1:Nat):Int):=wc (by omega) (by omega)
  by_cases e:p.to=to
  ·rw[toB,if_pos e]at hp
   obtain⟨hp2,_,hpl⟩:=drop_one hp
   have gp:=getD_at hp
   have k1:(k:Int) < (P.length:Int):=by omega
   have k2:¬(P.length:Int)≤(k:Int):=by omega
   have k3:(0:Int)≤(k:Int):=by omega
   refine WL_in lp3_0.eq_1 ?_
   rcases h6 with rfl|rfl
   ·simp -implicitDefEqProofs only[c1,c3,w1,w2,g,gp,e,k1,k2,k3,Int.toNat_natCast,List.length_map,go_sem,↓reduceIte]
    exact ih (i+1) (k+1) hd2 (by omega) (by omega) hp2
   ·simp -implicitDefEqProofs only[c1,c3,w1,w2,g,gp,e,k1,k2,k3,Int.toNat_natCast,List.length_map,go_sem,↓reduceIte]
    exact ih (i+1) (k+1) hd2 (by omega) (by omega) hp2
  ·rw[toB,if_neg e]at hp
   refine WL_in lp3_0.eq_1 ?_
   rcases h6 with rfl|rfl
   ·simp -implicitDefEqProofs only[c1,c3,w1,w2,g,e,Int.toNat_natCast,List.length_map,go_sem,↓reduceIte]
    exact ih (i+1) k hd2 (by omega) hk hp
   ·simp -implicitDefEqProofs only[c1,c3,w1,w2,g,e,Int.toNat_natCast,List.length_map,go_sem,↓reduceIte]
    exact ih (i+1) k hd2 (by omega) hk hp
theorem walk3 (hL:Abs.look l 9=some ZLa) (hW:Abs.look l 10=some ZAw6) (hN:Abs.look l 11=some ZNb) (hRP:Abs.look l 12=some ZRp) (hP:Abs.look l 13=some ZPb) (hT:Abs.look l 14=some ZTk) (hS:Abs.look l 15=some ZMs) (hRD:Abs.look l 16=some ZRd6) (hC:Abs.look l 17=some ZCy6) (hD:Abs.look l 18=some ZDp) (hA:Abs.look l 20=some ZAl) (hR6:Abs.look l 19=some ZSm6) (hO:Abs.look l 21=some ZTo)
  {as_:List ActS} {to:Int} (hw:∀a∈as_,∀m∈a.l,m.wf) (h:∀G',Q (.v (.bool true)) G'):Wf E (specOf l) pf3 [.sle 3 (as_.map ActS.v),.int .i64 to] G Q:=by
 cases la:lightAs as_ with
 |false=>
  simp -implicitDefEqProofs only[pf3,hL,ZLa_eq,hW,ZAw6,go_sem,↓reduceIte]
  refine⟨as_,rfl,?_⟩
  simp -implicitDefEqProofs only[la,go_sem,↓reduceIte]
  exact h
 |true=>
  obtain⟨hl,hok⟩:=lightA_of hw la
  simp -implicitDefEqProofs only[pf3,hL,ZLa_eq,hW,ZAw6,go_sem,↓reduceIte]
  refine⟨as_,rfl,?_⟩
  simp -implicitDefEqProofs only[la,hN,ZNb,go_sem,↓reduceIte]
  intro id hid
  refine⟨as_.length+1,?_⟩
  try simp -implicitDefEqProofs only[go_sem,↓reduceIte]
  refine loop3 (to:=to) hRP hP hT hS hRD hC hD hA hR6 hok hl (fun ts G' w d6 L h6 hB hwl=> ?_) as_ 0 [] _ _ _ (.inl rfl) rfl (Nat.zero_le _) BagAt.new (by decide) (fun m hm=>by cases hm)
  have ht:=toB_len to 0 w
  rcases h6 with rfl|rfl
  ·simp -implicitDefEqProofs only[hO,ZTo,go_sem,↓reduceIte]
   refine⟨w,true,⟨hB,hwl⟩,w.length+1,?_⟩
   try simp -implicitDefEqProofs only[go_sem,↓reduceIte]
   refine last3 (to:=to) (P:=toB to 0 w) (.inl rfl) hwl (by omega) (fun ts=> ?_) w 0 0 rfl (Nat.zero_le _) (Nat.zero_le _) rfl
   simp -implicitDefEqProofs only[hW,ZAw6,go_sem,↓reduceIte]
   exact h
  ·simp -implicitDefEqProofs only[hO,ZTo,go_sem,↓reduceIte]
   refine⟨w,true,⟨hB,hwl⟩,w.length+1,?_⟩
   try simp -implicitDefEqProofs only[go_sem,↓reduceIte]
   refine last3 (to:=to) (P:=toB to 0 w) (.inr rfl) hwl (by omega) (fun ts=> ?_) w 0 0 rfl (Nat.zero_le _) (Nat.zero_le _) rfl
   simp -implicitDefEqProofs only[hW,ZAw6,go_sem,↓reduceIte]
   exact h
theorem Row.more {G0 G:List (Nat×V)} {sz:Nat} {z x:V} {els:List V} (h:Row G0 G sz z x els) {j:Nat} {y:V} (hj:Abs.look G j=none):Row G0 ((j,y)::G) sz z x els:=by
 refine⟨Ext.cons' h.1 (h.1.none hj),h.2.imp (fun h=>h) fun⟨id,c,L,h1,h2,h3,h4⟩=>⟨id,c,L,h1,h2,?_,h4⟩⟩
 have hne:¬id=j:=by rintro rfl;rw[h3]at hj;cases hj
 rw[look_cons,if_neg hne];exact h3
theorem Row.mk0 (G0:List (Nat×V)) (l:List MsgS):∃x G',Row G0 G' 349 (.agg [.int .i64 0,.int .i64 0,.int .i64 0,.agg [.int .i64 0,.int .i64 0,.int .i64 0,.int .i64 0,.arr .u8 32 zz2,.int .i64 0,.arr .u8 32 zz2,.arr .u8 32 zz2],.agg [.agg [.int .i64 0,.int .i64 0,.int .i64 0,.int .i64 0,.arr .u8 32 zz2,.int .i64 0,.arr .u8 32 zz2,.arr .u8 32 zz2],.nils],.agg [.int .i64 0,.int .i64 0,.int .i64 0,.arr .u8 32 zz2,.nils,.arr .u8 32 zz2],.agg [.arr .u8 32 zz2,.int .i64 0,.int .i64 0,.int .i64 0,.nils],.arr .u8 32 zz2,.agg [.int .i64 0,.int .i64 0,.int .i64 0,.int .i64 0,.int .i64 0,.str ⟨⟨[]⟩⟩,.str ⟨⟨[]⟩⟩]]) x (l.map MsgS.v):=by
 obtain⟨j,hj⟩:=fresh_id G0
 refine⟨.sob j 349 0 (l.map MsgS.v).length l.length,(j,.agg (l.map MsgS.v))::G0,Ext.cons hj,.inr ⟨j,l.length,l.map MsgS.v,rfl,hj,by rw[look_cons,if_pos rfl],by rw[List.length_map];exact Nat.le_refl _,by rw[List.length_map];exact Nat.le_refl _,List.take_length,fun y hy=>rw_map hy⟩⟩
theorem BagAt.mk0 (id:Nat) (l:List MsgS) (b:Bool):∃G',BagAt G' id l b:=by
 have hj:Abs.look [(id,V.agg [.sob (id+1) 349 0 l.length l.length,.bool b])] (id+1)=none:=by
  rw[look_cons,if_neg (by omega)];rfl
 refine⟨(id+1,.agg (l.map MsgS.v))::[(id,V.agg [.sob (id+1) 349 0 l.length l.length,.bool b])],.sob (id+1) 349 0 l.length l.length,Ext.cons hj,.inr ⟨id+1,l.length,l.map MsgS.v,by rw[List.length_map],hj,by rw[look_cons,if_pos rfl],by rw[List.length_map];exact Nat.le_refl _,by rw[List.length_map];exact Nat.le_refl _,List.take_length,fun y hy=>rw_map hy⟩⟩
theorem detRow {α:Prop} {G0 G:List (Nat×V)} {l:List MsgS} {A:V→List (Nat×V)→Prop} (h:∀x' G',Row G0 G' 349 (.agg [.int .i64 0,.int .i64 0,.int .i64 0,.agg [.int .i64 0,.int .i64 0,.int .i64 0,.int .i64 0,.arr .u8 32 zz2,.int .i64 0,.arr .u8 32 zz2,.arr .u8 32 zz2],.agg [.agg [.int .i64 0,.int .i64 0,.int .i64 0,.int .i64 0,.arr .u8 32 zz2,.int .i64 0,.arr .u8 32 zz2,.arr .u8 32 zz2],.nils],.agg [.int .i64 0,.int .i64 0,.int .i64 0,.arr .u8 32 zz2,.nils,.arr .u8 32 zz2],.agg [.arr .u8 32 zz2,.int .i64 0,.int .i64 0,.int .i64 0,.nils],.arr .u8 32 zz2,.agg [.int .i64 0,.int .i64 0,.int .i64 0,.int .i64 0,.int .i64 0,.str ⟨⟨[]⟩⟩,.str ⟨⟨[]⟩⟩]]) x' (l.map MsgS.v)→(G'=G∧A x' G')):α:=by
 obtain⟨x,G',h1⟩:=Row.mk0 G0 l
 obtain⟨j,hj⟩:=fresh_id G'
 have e1:=(h _ _ h1).1
 have e2:=(h _ _ (Row.more (y:= .nilp) h1 hj)).1
 rw[←e1]at e2
 have:=congrArg List.length e2
 simp at this
theorem detBag {α:Prop} {G:List (Nat×V)} {id:Nat} {l:List MsgS} {b:Bool} {A:List (Nat×V)→Prop} (h:∀G',BagAt G' id l b→(G'=G∧A G')):α:=by
 obtain⟨G',x,h1⟩:=BagAt.mk0 id l b
 obtain⟨j,hj⟩:=fresh_id G'
 have e1:=(h _ ⟨x,h1⟩).1
 have e2:=(h _ ⟨x,Row.more (y:= .nilp) h1 hj⟩).1
 rw[←e1]at e2
 have:=congrArg List.length e2
 simp at this
theorem detPb:ZPb.Det:=by
 intro vs G Q h;unfold ZPb at h⊢;split at h
 ·exact det00 h
 ·obtain⟨l,b,ms,_,h⟩:=h;exact detBag h
 ·exact h.elim
theorem detTk:ZTk.Det:=by
 intro vs G Q h;unfold ZTk at h⊢;split at h
 ·exact det00 h
 ·obtain⟨l,b,_,h⟩:=h;exact detBag h
 ·exact h.elim
theorem detCy:ZCy6.Det:=by
 intro vs G Q h;unfold ZCy6 at h⊢;split at h
 ·exact det00 h
 ·obtain⟨l,b,_,h⟩:=h;exact detBag h
 ·exact h.elim
theorem detDp:ZDp.Det:=by
 intro vs G Q h;unfold ZDp at h⊢;split at h
 ·exact det00 h
 ·obtain⟨l,b,_,h⟩:=h;exact detBag h
 ·exact h.elim
theorem detDe:ZDe.Det:=by
 intro vs G Q h;unfold ZDe at h⊢;split at h
 ·obtain⟨G0,l,k,_,h⟩:=h;exact detRow h
 ·exact h.elim
open Go Go.Abs Go.RowKit Go.Abs.Sha Go.Abs.Srt
theorem ik8:intK Try.prog 5=some .u8:=by kernel_rfl
theorem int_of {n:Nat} {x:V} (h:TyV Try.prog (n+1) 3 x):∃i,x= .int .i64 i∧I64 i:=by
 unfold TyV at h;simp only[Try.underlying3]at h
 obtain⟨i,rfl,h⟩:=h;exact⟨i,rfl,wf64 h⟩
theorem hash_of {n:Nat} {x:V} (h:TyV Try.prog (n+1) 35 x):∃l,x= .arr .u8 32 l∧H32 l:=by
 unfold TyV at h;simp only[Try.underlying35,ik8]at h
 obtain⟨l,rfl,h1,h2⟩:=h;exact⟨l,rfl,fun x hx=>wf8 (h2 x hx),h1⟩
theorem str_of {n:Nat} {x:V} (h:TyV Try.prog (n+1) 9 x):∃s,x= .str s:=by
 unfold TyV at h;simp only[Try.underlying9]at h
 obtain⟨i,rfl,h⟩:=h;exact⟨i,rfl⟩
theorem att_of {n:Nat} {x:V} (h:TyV Try.prog (n+2) 37 x):∃a:AttS,x=a.v∧a.wf:=by
 unfold TyV at h;simp only[Try.underlying37,TyL]at h
 obtain⟨_,rfl,x1,_,rfl,f1,x2,_,rfl,f2,x3,_,rfl,f3,x4,_,rfl,f4,x5,_,rfl,f5,x6,_,rfl,f6,x7,_,rfl,f7,x8,_,rfl,f8,rfl⟩:=h
 obtain⟨a,rfl,ja⟩:=int_of f1
 obtain⟨b,rfl,jb⟩:=int_of f2
 obtain⟨c,rfl,jc⟩:=int_of f3
 obtain⟨d,rfl,jd⟩:=int_of f4
 obtain⟨e,rfl,je⟩:=hash_of f5
 obtain⟨f,rfl,jf⟩:=int_of f6
 obtain⟨g,rfl,jg⟩:=hash_of f7
 obtain⟨k,rfl,jk⟩:=hash_of f8
 exact⟨⟨a,b,c,d,e,f,g,k⟩,rfl,⟨ja,jb,jc,jd,jf,je,jg,jk⟩⟩
theorem sig_of {n:Nat} {x:V} (h:TyV Try.prog (n+2) 119 x):∃p:Int×List Int,x=sgV p∧I64 p.1∧H32 p.2:=by
 unfold TyV at h;simp only[Try.underlying119,TyL]at h
 obtain⟨_,rfl,x1,_,rfl,f1,x2,_,rfl,f2,rfl⟩:=h
 obtain⟨w,rfl,jw⟩:=int_of f1
 obtain⟨t,rfl,jt⟩:=hash_of f2
 exact⟨(w,t),rfl,jw,jt⟩
theorem sigr_of {n:Nat} {x:V} (h:TyV Try.prog (n+3) 38 x):∃sg:List (Int×List Int),x= .sle 33 (sg.map sgV)∧∀p∈sg,I64 p.1∧H32 p.2:=by
 have hk:intK Try.prog 119=none:=by kernel_rfl
 have hc:Try.prog.cellsOf 119=33:=by kernel_rfl
 unfold TyV at h;simp only[Try.underlying38,hk,hc]at h
 obtain⟨xs,rfl,h,hl⟩:=h
 obtain⟨sg,rfl,hw⟩:=sigs_of (xs:=xs) fun e he=>sig_of (h e he)
 exact⟨sg,rfl,hw⟩
theorem cert_of {n:Nat} {x:V} (h:TyV Try.prog (n+4) 40 x):∃c:CertS,x=c.v∧c.ok:=by
 unfold TyV at h;simp only[Try.underlying40,TyL]at h
 obtain⟨_,rfl,x1,_,rfl,f1,x2,_,rfl,f2,rfl⟩:=h
 obtain⟨a,rfl,ia⟩:=att_of f1
 obtain⟨sg,rfl,ig⟩:=sigr_of f2
 exact⟨⟨a,sg⟩,rfl,⟨ia,ig⟩⟩
theorem ints_of {n:Nat} {x:V} (h:TyV Try.prog (n+1) 41 x):∃l,x= .sli .i64 l∧∀i∈l,I64 i:=by
 have hk:intK Try.prog 3=some .i64:=by kernel_rfl
 unfold TyV at h;simp only[Try.underlying41,hk]at h
 obtain⟨l,rfl,h1,h2⟩:=h;exact⟨l,rfl,fun i hi=>wf64 (h1 i hi)⟩
theorem acc_of {n:Nat} {x:V} (h:TyV Try.prog (n+2) 43 x):∃a:AccS,x=a.v∧a.wf:=by
 unfold TyV at h;simp only[Try.underlying43,TyL]at h
 obtain⟨_,rfl,x1,_,rfl,f1,x2,_,rfl,f2,x3,_,rfl,f3,x4,_,rfl,f4,x5,_,rfl,f5,x6,_,rfl,f6,rfl⟩:=h
 obtain⟨a,rfl,ja⟩:=int_of f1
 obtain⟨b,rfl,jb⟩:=int_of f2
 obtain⟨c,rfl,jc⟩:=int_of f3
 obtain⟨d,rfl,jd⟩:=hash_of f4
 obtain⟨fr,rfl,ifr⟩:=ints_of f5
 obtain⟨e,rfl,je⟩:=hash_of f6
 exact⟨⟨a,b,c,d,fr,e⟩,rfl,⟨ja,jb,jc,jd,ifr,je⟩⟩
theorem tx_of {n:Nat} {x:V} (h:TyV Try.prog (n+2) 48 x):∃t:TxS,x=t.v:=by
 unfold TyV at h;simp only[Try.underlying48,TyL]at h
 obtain⟨_,rfl,x1,_,rfl,f1,x2,_,rfl,f2,x3,_,rfl,f3,x4,_,rfl,f4,x5,_,rfl,f5,x6,_,rfl,f6,x7,_,rfl,f7,rfl⟩:=h
 obtain⟨a,rfl,ja⟩:=int_of f1
 obtain⟨b,rfl,jb⟩:=int_of f2
 obtain⟨c,rfl,jc⟩:=int_of f3
 obtain⟨d,rfl,jd⟩:=int_of f4
 obtain⟨e,rfl,je⟩:=int_of f5
 obtain⟨f,rfl⟩:=str_of f6
 obtain⟨g,rfl⟩:=str_of f7
 exact⟨⟨a,b,c,d,e,f,g⟩,rfl⟩
theorem txs_of {n:Nat} {x:V} (h:TyV Try.prog (n+3) 44 x):∃l:List TxS,x= .sle 7 (l.map TxS.v):=by
 have hk:intK Try.prog 48=none:=by kernel_rfl
 have hc:Try.prog.cellsOf 48=7:=by kernel_rfl
 unfold TyV at h;simp only[Try.underlying44,hk,hc]at h
 obtain⟨xs,rfl,h,hl⟩:=h
 obtain⟨l,rfl,_⟩:=list_of (f:=TxS.v) (P:=fun _=>True) (xs:=xs) fun e he=>by
  obtain⟨t,rfl⟩:=tx_of (h e he)
  exact⟨t,rfl,trivial⟩
 exact⟨l,rfl⟩
theorem blk_of {n:Nat} {x:V} (h:TyV Try.prog (n+4) 46 x):∃b:BlkS,x=b.v∧H32 b.pa:=by
 unfold TyV at h;simp only[Try.underlying46,TyL]at h
 obtain⟨_,rfl,x1,_,rfl,f1,x2,_,rfl,f2,x3,_,rfl,f3,x4,_,rfl,f4,x5,_,rfl,f5,rfl⟩:=h
 obtain⟨a,rfl,ja⟩:=hash_of f1
 obtain⟨b,rfl,jb⟩:=int_of f2
 obtain⟨c,rfl,jc⟩:=int_of f3
 obtain⟨d,rfl,jd⟩:=int_of f4
 obtain⟨l,rfl⟩:=txs_of f5
 exact⟨⟨a,b,c,d,l⟩,rfl,ja⟩
theorem msg_of {n:Nat} {x:V} (h:TyV Try.prog (n+5) 50 x):∃m:MsgS,x=m.v∧m.wf:=by
 unfold TyV at h;simp only[Try.underlying50,TyL]at h
 obtain⟨_,rfl,x1,_,rfl,f1,x2,_,rfl,f2,x3,_,rfl,f3,x4,_,rfl,f4,x5,_,rfl,f5,x6,_,rfl,f6,x7,_,rfl,f7,x8,_,rfl,f8,x9,_,rfl,f9,rfl⟩:=h
 obtain⟨k,rfl,jk⟩:=int_of f1
 obtain⟨f,rfl,jf⟩:=int_of f2
 obtain⟨t,rfl,jt⟩:=int_of f3
 obtain⟨a,rfl,ia⟩:=att_of f4
 obtain⟨c,rfl,ic⟩:=cert_of f5
 obtain⟨y,rfl,iy⟩:=acc_of f6
 obtain⟨b,rfl,ib⟩:=blk_of f7
 obtain⟨e,rfl,je⟩:=hash_of f8
 obtain⟨z,rfl⟩:=tx_of f9
 exact⟨⟨k,f,t,a,c,y,b,e,z⟩,rfl,⟨ia,ic,iy,ib,je⟩⟩
theorem msgs_of {n:Nat} {x:V} (h:TyV Try.prog (n+6) 27 x):∃l:List MsgS,x= .sle 349 (l.map MsgS.v)∧∀m∈l,m.wf:=by
 have hk:intK Try.prog 50=none:=by kernel_rfl
 have hc:Try.prog.cellsOf 50=349:=by kernel_rfl
 unfold TyV at h;simp only[Try.underlying27,hk,hc]at h
 obtain⟨xs,rfl,h,hl⟩:=h
 obtain⟨l,rfl,hw⟩:=list_of (f:=MsgS.v) (P:=MsgS.wf) (xs:=xs) fun e he=>msg_of (h e he)
 exact⟨l,rfl,hw⟩
theorem act_of {n:Nat} {x:V} (h:TyV Try.prog (n+7) 29 x):∃a:ActS,x=a.v∧∀m∈a.l,m.wf:=by
 unfold TyV at h;simp only[Try.underlying29,TyL]at h
 obtain⟨_,rfl,x1,_,rfl,f1,x2,_,rfl,f2,x3,_,rfl,f3,rfl⟩:=h
 obtain⟨a,rfl,ja⟩:=int_of f1
 obtain⟨l,rfl,jl⟩:=msgs_of f2
 obtain⟨n,rfl,jn⟩:=int_of f3
 exact⟨⟨a,l,n⟩,rfl,jl⟩
theorem acts_of {n:Nat} {x:V} (h:TyV Try.prog (n+8) 22 x):∃l:List ActS,x= .sle 3 (l.map ActS.v)∧∀a∈l,∀m∈a.l,m.wf:=by
 have hk:intK Try.prog 29=none:=by kernel_rfl
 have hc:Try.prog.cellsOf 29=3:=by kernel_rfl
 unfold TyV at h;simp only[Try.underlying22,hk,hc]at h
 obtain⟨xs,rfl,h,hl⟩:=h
 obtain⟨l,rfl,hw⟩:=list_of (f:=ActS.v) (P:=fun a=>∀m∈a.l,m.wf) (xs:=xs) fun e he=>act_of (h e he)
 exact⟨l,rfl,hw⟩
end Go.Proofs.Ytjbglbhcbenhpaa.Sha
