/- Laws over plain values, and what functions of the program hand back; no conditions. -/
import Derived.Test.YtegamlopcdjiaaaG10
import Derived.Test.YtegamlopcdjiaaaG9
import Derived.Test.YtegamlopcdjiaaaG7
import Derived.Test.YtegamlopcdjiaaaG5
import Derived.Test.YtegamlopcdjiaaaG4
namespace Go.Proofs.Ytegamlopcdjiaaa.Sha
open Go Go.Abs Go.Abs.Sha Go.Abs.Srt
set_option linter.unusedSimpArgs false
set_option linter.unusedVariables false
set_option maxRecDepth 100000
attribute [local irreducible] W Wops WopsD WL Wop WopD
variable {E:Env} {C:Abs.Spec} {l:List (Nat×Spec1)} {G:List (Nat×V)} {Q:R→List (Nat×V)→Prop}
set_option maxHeartbeats 1000000
theorem Low.trans {G:List (Nat×V)} {r:R} {G':List (Nat×V)} {r2:R} {G2:List (Nat×V)} {r3:R} {G3:List (Nat×V)} (h:Low G r G' r2 G2) (h2:Low G r2 G2 r3 G3):Low G r G' r3 G3:=by
 induction h with
 |refl r G'=>exact h2
 |fz id L k h0 h1 a2 h3 h4 h ih=>exact .fz id L k h0 h1 a2 h3 h4 (ih h2)
 |wk h1 a2 h ih=>exact .wk h1 a2 (ih h2)
 |drop h1 a2 h ih=>exact .drop h1 a2 (ih h2)
theorem low_blk {G0 G:List (Nat×V)} {z x:V} {els:List V} {a1 a2 a3 a4:V} {e:V} (h:Row G0 G 7 z x els):Low G0 (.tup [.agg [a1,a2,a3,a4,x],e]) G (.tup [.agg [a1,a2,a3,a4,.sle 7 els],e]) G0:=by
 refine h.fz (fun y=> .tup [.agg [a1,a2,a3,a4,y],e]) (fun id L k y hy=> ?_) (fun y hy=> ?_)
 ·simp only[R.Fz]
  refine⟨_,rfl,?_⟩
  unfold V.FzL;refine⟨_,_,rfl,?_,V.FzL.refl _⟩
  unfold V.Fz;refine⟨_,rfl,?_⟩
  unfold V.FzL;refine⟨_,_,rfl,V.Fz.refl _,?_⟩
  unfold V.FzL;refine⟨_,_,rfl,V.Fz.refl _,?_⟩
  unfold V.FzL;refine⟨_,_,rfl,V.Fz.refl _,?_⟩
  unfold V.FzL;refine⟨_,_,rfl,V.Fz.refl _,?_⟩
  unfold V.FzL;refine⟨_,_,rfl,hy,V.FzL.refl _⟩
 ·simp only[R.Wk]
  refine⟨_,rfl,?_⟩
  unfold V.WkL;refine⟨_,_,rfl,?_,V.WkL.refl _⟩
  unfold V.Wk;refine⟨_,rfl,?_⟩
  unfold V.WkL;refine⟨_,_,rfl,V.Wk.refl _,?_⟩
  unfold V.WkL;refine⟨_,_,rfl,V.Wk.refl _,?_⟩
  unfold V.WkL;refine⟨_,_,rfl,V.Wk.refl _,?_⟩
  unfold V.WkL;refine⟨_,_,rfl,V.Wk.refl _,?_⟩
  unfold V.WkL;refine⟨_,_,rfl,hy,V.WkL.refl _⟩
theorem txv_row {G0 G:List (Nat×V)} {z x:V} {els:List TxS} (h:Row G0 G 7 z x (els.map TxS.v)):TxsV G x els:=by
 obtain⟨_,⟨h1,h2⟩|⟨id,c,L,h1,h2,h3,h4,h5,h6,h7⟩⟩:=h
 ·exact .inl (.inr ⟨h1,by simpa using h2⟩)
 ·rw[List.length_map]at h1 h4 h6
  refine .inr ⟨id,c,L,h1,h3,fun i p hp=> ?_,by omega,fun y hy=>(h7 y hy).1⟩
  have hi:i < els.length:=(List.getElem?_eq_some_iff.1 hp).1
  have:=congrArg (fun l=>l[i]?) h6
  simp only[List.getElem?_take,List.getElem?_map,hp,if_pos hi]at this
  exact this
theorem _root_.Go.Abs.Sha.TxS.May.szs {p:TxS} (hmp:p.May):p.key.size < 1000000000∧p.val.size < 1000000000:=by
 have e1:(byS p.key).length=p.key.size:=byS_len
 rcases hmp.2.2 with⟨_,_,_,e2,e3⟩|⟨_,_,_,e2,e3⟩|⟨_,_,_,e2,e3⟩
 ·rw[e2,e3];decide
 ·have:=e2.2.2;omega
 ·have:=e2.2.2;rw[e3];exact⟨by omega,by decide⟩
def blkO (o:Option BlkS):BlkS:=o.getD .zero
def ZGb:Spec1
 |[x],G,Q=>∃t:List Int,(byV x=some t∧Byt t∧t.length < 100000000)∧Q (.tup [(blkO (getBlk t)).v,.int .i64 (if (getBlk t).isSome=true then 0 else 2)]) G
 |_,_,_=>False
theorem ZGb_eq {x}:ZGb [x] G Q=(∃t:List Int,(byV x=some t∧Byt t∧t.length < 100000000)∧Q (.tup [(blkO (getBlk t)).v,.int .i64 (if (getBlk t).isSome=true then 0 else 2)]) G):=rfl
theorem walk100 {x:V} {t:List Int} (hRd:Abs.look l 47=some SRd) (hH:Abs.look l 98=some SHs) (hU:Abs.look l 48=some SUp) (hR:Abs.look l 99=some ZQt) (hD:Abs.look l 122=some SDn) (hC:Abs.look l 119=some ZKc)
  (hx:byV x=some t) (hb:Byt t) (hl:t.length < 100000000) (h:Q (.tup [(blkO (getBlk t)).v,.int .i64 (if (getBlk t).isSome=true then 0 else 2)]) G):Wf E (specOf l) pf100 [x] G (fun r G'=>∃r2 G2,Low G r G' r2 G2∧Q r2 G2):=by
 rcases e1:rdHash (t,false)with⟨n1,r1,w1⟩
 rcases e2:rdUpto 1099511627776 (r1,w1)with⟨n2,r2,w2⟩
 rcases e3:rdUpto 1099511627776 (r2,w2)with⟨n3,r3,w3⟩
 rcases e4:rdUpto 21 (r3,w3)with⟨n4,r4,w4⟩
 rcases e5:rdUpto 8 (r4,w4)with⟨n5,r5,w5⟩
 obtain⟨z11,z12,zh,_,_⟩:=rdHash_all e1 hb
 obtain⟨z21,z22,_,_,_,_⟩:=rdUpto_all e2 z11 (by omega)
 obtain⟨z31,z32,_,_,_,_⟩:=rdUpto_all e3 z21 (by omega)
 obtain⟨z41,z42,_,_,_,_⟩:=rdUpto_all e4 z31 (by omega)
 obtain⟨z51,z52,z53,z54,_,_⟩:=rdUpto_all e5 z41 (by omega)
 obtain⟨k,rfl⟩:∃k:Nat,n5=(k:Int):=⟨n5.toNat,by omega⟩
 have eB:rdBlk (t,false)=(match rdTxs k (r5,w5)with|some (l,r)=>some (⟨n1,n2,n3,n4,l⟩,r)|none=>none):=by
  unfold rdBlk;simp only[e1,e2,e3,e4,e5,Int.toNat_natCast]
  cases rdTxs k (r5,w5)<;>rfl
 simp -implicitDefEqProofs only[pf100,hRd,SRd_eq,go_sem,↓reduceIte]
 refine⟨t,⟨hx,by omega⟩,fun id hid=> ?_⟩
 have hG0:Abs.look ((id,V.agg [.sli .u8 t,.bool false])::G) id=some (V.agg [.sli .u8 t,.bool false]):=by rw[look_cons,if_pos rfl]
 have hE0:Ext G ((id,V.agg [.sli .u8 t,.bool false])::G):=Ext.cons hid
 generalize ((id,V.agg [.sli .u8 t,.bool false])::G)=GR at hG0 hE0⊢
 have g:∀x,Abs.look (Abs.upd GR id x) id=some x:=fun x=>look_upd_same hG0
 simp -implicitDefEqProofs only[hH,SHs_eq,hU,SUp_eq,g,go_sem,↓reduceIte]
 refine⟨t,false,n1,r1,w1,⟨hG0,hb,by omega,e1⟩,r1,w1,n2,r2,w2,⟨rfl,z11,by omega,e2⟩,r2,w2,n3,r3,w3,⟨rfl,z21,by omega,e3⟩,r3,w3,n4,r4,w4,⟨rfl,z31,by omega,e4⟩,r4,w4,(k:Int),r5,w5,⟨rfl,z41,by omega,e5⟩,k+1,?_⟩
 try simp -implicitDefEqProofs only[go_sem,↓reduceIte]
 refine loop100 (k:=k) (r5:=r5) (w5:=w5) hR hG0 z51 (by omega) (by omega) (fun ts G' x l2 r w rest hm hrow=> ?_) (fun ts G' x els r w v6 v7 v21 L hm hrow=> ?_) k 0 _ .nils [] r5 w5 [] (by omega) rfl (Row.nil (Ext.refl _))
 ·have hE:Ext G G':=(hE0.upd hid).trans hrow.1
  have hrowG:Row G G' 7 (.agg [.int .i64 0,.int .i64 0,.int .i64 0,.int .i64 0,.int .i64 0,.str ⟨⟨[]⟩⟩,.str ⟨⟨[]⟩⟩]) x (l2.map TxS.v):=⟨hE,hrow.2.imp (fun h=>h) (fun⟨i2,c,L,p1,p2,p3⟩=>⟨i2,c,L,p1,(hE0.upd hid).none p2,p3⟩)⟩
  have hl1:=hrow.1 id _ (g (V.agg [.sli .u8 r,.bool w]))
  obtain⟨x1,x2⟩:=hrow.one
  unfold V.isAgg at x2
  obtain⟨m1,m2,_,m4,m5,_⟩:=rdTxs_all hm z51
  have xn:x.same .nils=true:=(Row.nil (z:=(.agg [.int .i64 0,.int .i64 0,.int .i64 0,.int .i64 0,.int .i64 0,.str ⟨⟨[]⟩⟩,.str ⟨⟨[]⟩⟩]:V)) (sz:=7) (Ext.refl G)).like hrowG
  have hsh:ShT l2:=⟨fun t ht=>(m5 t ht).szs,by omega⟩
  have eG:getBlk t=if (!w&&decide (r.length=0)&&(⟨n1,n2,n3,n4,l2⟩:BlkS).may)=true then some ⟨n1,n2,n3,n4,l2⟩else none:=by unfold getBlk;rw[eB,hm]
  have hno:getBlk t=none→∃r2 G2,Low G (R.tup [BlkS.zeroV,V.int IntKind.i64 2]) G' r2 G2∧Q r2 G2:=fun hg=>by
   rw[hg]at h
   exact⟨_,_,low_blk (els:=[]) (z:= .agg [.int .i64 0,.int .i64 0,.int .i64 0,.int .i64 0,.int .i64 0,.str ⟨⟨[]⟩⟩,.str ⟨⟨[]⟩⟩]) (Row.nil hE),h⟩
  simp -implicitDefEqProofs only[BlkS.zeroV,x1,x2,xn,hD,SDn_eq,hC,ZKc_eq,go_sem,↓reduceIte]
  refine⟨r,w,hl1,fun hbad=>hno ?_,fun hok=>⟨⟨n1,n2,n3,n4,l2⟩,x,⟨rfl,txv_row hrowG,hsh⟩,fun hm2=>hno ?_,fun hm2=> ?_⟩⟩
  ·rw[eG,if_neg]
   rcases hbad with rfl|hbad
   ·simp
   ·simp[hbad]
  ·rw[eG,if_neg]
   intro hh
   apply hm2
   rw[if_pos]
   simp only[Bool.and_eq_true]at hh;exact hh.2
  ·have hmay:(⟨n1,n2,n3,n4,l2⟩:BlkS).may=true:=by
    cases hq:(⟨n1,n2,n3,n4,l2⟩:BlkS).may with
    |true=>rfl
    |false=>rw[hq]at hm2;exact absurd hm2 (by decide)
   rw[if_pos (by rw[hok.1,hmay,hok.2];rfl)]at eG
   rw[eG]at h
   exact⟨_,_,low_blk hrowG,h⟩
 ·have hE:Ext G G':=(hE0.upd hid).trans hrow.1
  have hgn:getBlk t=none:=by unfold getBlk;rw[eB,hm]
  rw[hgn]at h
  simp -implicitDefEqProofs only[BlkS.zeroV,go_sem,↓reduceIte]
  exact⟨_,_,low_blk (els:=[]) (z:= .agg [.int .i64 0,.int .i64 0,.int .i64 0,.int .i64 0,.int .i64 0,.str ⟨⟨[]⟩⟩,.str ⟨⟨[]⟩⟩]) (Row.nil hE),h⟩
theorem rdBlk_right {t r:List Int} {w:Bool} {b:BlkS} (e:rdBlk (t,false)=some (b,r,w)) (hb:Byt t):H32 b.pa∧ShT b.txs∧(w=false→t=b.bytes++r):=by
 unfold rdBlk at e
 rcases e1:rdHash (t,false)with⟨n1,r1,w1⟩
 rcases e2:rdUpto 1099511627776 (r1,w1)with⟨n2,r2,w2⟩
 rcases e3:rdUpto 1099511627776 (r2,w2)with⟨n3,r3,w3⟩
 rcases e4:rdUpto 21 (r3,w3)with⟨n4,r4,w4⟩
 rcases e5:rdUpto 8 (r4,w4)with⟨n5,r5,w5⟩
 simp only[e1,e2,e3,e4,e5]at e
 obtain⟨z11,z12,zh,_,y1⟩:=rdHash_all e1 hb
 obtain⟨z21,z22,_,_,_,y2⟩:=rdUpto_all e2 z11 (by omega)
 obtain⟨z31,z32,_,_,_,y3⟩:=rdUpto_all e3 z21 (by omega)
 obtain⟨z41,z42,_,_,_,y4⟩:=rdUpto_all e4 z31 (by omega)
 obtain⟨z51,z52,z53,z54,_,y5⟩:=rdUpto_all e5 z41 (by omega)
 cases e6:rdTxs n5.toNat (r5,w5)with
 |none=>rw[e6]at e;cases e
 |some q=>
  obtain⟨l2,r6,w6⟩:=q
  rw[e6]at e;cases e
  obtain⟨m1,m2,m3,m4,m5,m6⟩:=rdTxs_all e6 z51
  refine⟨zh,⟨fun t ht=>(m5 t ht).szs,by show l2.length < 1000000;omega⟩,fun hw=> ?_⟩
  obtain⟨x5,q6⟩:=m6 hw;obtain⟨x4,q5⟩:=y5 x5;obtain⟨x3,q4⟩:=y4 x4;obtain⟨x2,q3⟩:=y3 x3;obtain⟨x1,q2⟩:=y2 x2;obtain⟨x0,q1⟩:=y1 x1
  unfold BlkS.bytes;dsimp only
  rw[m4]
  simp only[List.append_assoc]
  rw[←q6,←q5,←q4,←q3,←q2,←q1]
theorem BlkS_bytes_ok {b:BlkS} (hp:H32 b.pa) (h:b.May):Byt b.bytes∧b.bytes.length≤3000:=by
 obtain⟨q1,q2,q3,q4,q5⟩:=BlkS.rng h
 obtain⟨a1,l1⟩:=num_ok (n:=b.vi.toNat) (by omega)
 obtain⟨a2,l2⟩:=num_ok (n:=b.he.toNat) (by omega)
 obtain⟨a3,l3⟩:=num_ok (n:=b.who.toNat) (by omega)
 obtain⟨a4,l4⟩:=num_ok (n:=b.txs.length) (by omega)
 obtain⟨a5,l5⟩:=txsB_ok q5
 have:=hp.2
 refine⟨byt_app (byt_app (byt_app (byt_app (byt_app hp.1 a1) a2) a3) a4) a5,?_⟩
 unfold BlkS.bytes;simp only[List.length_append];omega
end Go.Proofs.Ytegamlopcdjiaaa.Sha
namespace Go.Abs
open Go Go.RowKit
set_option linter.unusedVariables false
set_option linter.unusedSimpArgs false
namespace Sha
deriving instance DecidableEq for AttS
deriving instance DecidableEq for AccS
deriving instance DecidableEq for CertS
structure MsgS where
 ki:Int
 fr:Int
 to:Int
 at_:AttS
 ce:CertS
 ac:AccS
 bl:BlkS
 ha:List Int
 tx:TxS
deriving DecidableEq
def MsgS.v (m:MsgS):V:= .agg [.int .i64 m.ki,.int .i64 m.fr,.int .i64 m.to,m.at_.v,m.ce.v,m.ac.v,m.bl.v,.arr .u8 32 m.ha,m.tx.v]
def MsgS.bare (k f t:Int):MsgS:=⟨k,f,t,.zero,.zero,.zero,.zero,zero32,.zero⟩
def MsgS.zero:MsgS:= .bare 0 0 0
def MsgS.named (m:MsgS):MsgS:=
 if m.ki=1∨m.ki=3∨m.ki=5 then { MsgS.bare m.ki m.fr m.to with at_:=m.at_ }
 else if m.ki=2 then { MsgS.bare m.ki m.fr m.to with bl:=m.bl,ac:=m.ac }
 else if m.ki=4∨m.ki=6 then { MsgS.bare m.ki m.fr m.to with ce:=m.ce }
 else if m.ki=7 then { MsgS.bare m.ki m.fr m.to with ha:=m.ha }
 else if m.ki=8 then { MsgS.bare m.ki m.fr m.to with bl:=m.bl }
 else if m.ki=9 then { MsgS.bare m.ki m.fr m.to with tx:=m.tx }
 else if m.ki=10 then { MsgS.bare m.ki m.fr m.to with ac:=m.ac }
 else MsgS.bare m.ki m.fr m.to
def MsgS.has (m:MsgS):Bool:=
 if m.ki=1∨m.ki=3∨m.ki=5 then m.at_.may&&decide (m.at_.ki=(m.ki+1) / 2)
 else if m.ki=2 then m.bl.may&&decide (0 < m.bl.vi)&&m.ac.may
 else if m.ki=4∨m.ki=6 then m.ce.may&&decide (m.ce.att.ki=m.ki / 2)
 else if m.ki=7 then true
 else if m.ki=8 then m.bl.may&&decide (0 < m.bl.vi)
 else if m.ki=9 then m.tx.may
 else if m.ki=10 then m.ac.may
 else false
def MsgS.May (m:MsgS):Prop:=((1≤m.fr∧m.fr≤21)∧(1≤m.to∧m.to≤21)∧m.fr≠m.to)∧m.has=true∧m=m.named
instance (m:MsgS):Decidable m.May:=by unfold MsgS.May;infer_instance
def MsgS.may (m:MsgS):Bool:=decide m.May
def MsgS.body (m:MsgS):List Int:=
 if m.ki=1∨m.ki=3∨m.ki=5 then (if m.at_.may=true then m.at_.bytes else [])
 else if m.ki=4∨m.ki=6 then (if m.ce.may=true then m.ce.bytes else [])
 else if m.ki=7 then m.ha
 else if m.ki=9 then (if m.tx.may=true then m.tx.bytes else [])
 else if m.ki=10 then (if m.ac.may=true then m.ac.bytes else [])
 else if m.ki=2∨m.ki=8 then (if m.bl.may=true∧m.bl.vi≠0∧(m.ki=2↔m.ac.may=true)then txt m.bl.bytes++(if m.ac.may=true then m.ac.bytes else [])else [])
 else []
def MsgS.bytes (m:MsgS):List Int:=num m.ki.toNat++num m.fr.toNat++num m.to.toNat++m.body
structure MsgS.ok (m:MsgS):Prop where
 at_:m.at_.wf
 ce:m.ce.ok
 cel:m.ce.sigs.length < 1000000
 ac:m.ac.wf
 acl:m.ac.fr.length < 1000000
 bl:m.bl.ok
 ha:H32 m.ha
 txk:m.tx.key.size < 1000000000
 txv:m.tx.val.size < 1000000000
theorem CertS.zero_ok:CertS.zero.ok:=⟨AttS.zero_wf,fun p hp=>by cases hp⟩
theorem BlkS.zero_ok:BlkS.zero.ok:=⟨h32_zero,(fun t ht=>by cases ht),by decide⟩
theorem MsgS.bare_ok (k f t:Int):(MsgS.bare k f t).ok:=⟨AttS.zero_wf,CertS.zero_ok,(by show CertS.zero.sigs.length < 1000000;decide),AccS.zero_wf,(by show AccS.zero.fr.length < 1000000;decide),BlkS.zero_ok,h32_zero,(by show TxS.zero.key.size < 1000000000;decide),(by show TxS.zero.val.size < 1000000000;decide)⟩
theorem AttS.bytes_pos (a:AttS):0 < a.bytes.length:=by
 have:=num_pos a.who.toNat
 unfold AttS.bytes;simp only[List.length_append];omega
theorem CertS.bytes_pos (c:CertS):0 < c.bytes.length:=by
 have:=num_pos c.sigs.length
 unfold CertS.bytes;simp only[List.length_append];omega
theorem AccS.bytes_pos (a:AccS):0 < a.bytes.length:=by
 have:=num_pos a.who.toNat
 unfold AccS.bytes;simp only[List.length_append];omega
theorem TxS.bytes_pos (t:TxS):0 < t.bytes.length:=by
 have:=num_pos t.fr.toNat
 unfold TxS.bytes;simp only[List.length_append];omega
theorem txt_pos (b:List Int):0 < (txt b).length:=by
 have:=num_pos b.length
 unfold txt;simp only[List.length_append];omega
theorem AttS.zero_may:AttS.zero.may=false:=by decide
theorem CertS.zero_may:CertS.zero.may=false:=by decide
theorem AccS.zero_may:AccS.zero.may=false:=by decide
theorem MsgS.may_iff {m:MsgS} (hh:m.ha.length=32) (hn:m=m.named):(m.has=true)↔(0 < m.body.length∧m.at_.ki+m.ce.att.ki=(if m.ki=1 then 1 else if m.ki=3∨m.ki=4 then 2 else if m.ki=5∨m.ki=6 then 3 else 0)):=by
 obtain⟨k,f,t,a,c,ac,b,ha,x⟩:=m
 have bvi:∀b:BlkS,b.may=true→(0 < b.vi↔b.vi≠0):=fun b hb=>by
  rcases of_decide_eq_true hb with rfl|hb
  ·simp[BlkS.zero]
  ·have:=hb.2.1;omega
 have pa:=AttS.bytes_pos a
 have pc:=CertS.bytes_pos c
 have pac:=AccS.bytes_pos ac
 have px:=TxS.bytes_pos x
 have pt:=txt_pos b.bytes
 dsimp only at hh
 have az:AttS.zero.ki=0:=rfl
 have cz:CertS.zero.att.ki=0:=rfl
 by_cases k1:k=1
 ·subst k1
  simp only[MsgS.named,MsgS.bare,true_or,if_true,MsgS.mk.injEq,true_and,and_true]at hn
  obtain⟨rfl,rfl,rfl,rfl,rfl⟩:=hn
  simp only[MsgS.has,MsgS.body,true_or,if_true,cz]
  cases a.may<;>simp;omega
 by_cases k3:k=3
 ·subst k3
  simp only[MsgS.named,MsgS.bare,true_or,or_true,if_true,MsgS.mk.injEq,true_and,and_true]at hn
  obtain⟨rfl,rfl,rfl,rfl,rfl⟩:=hn
  simp only[MsgS.has,MsgS.body,true_or,or_true,if_true,cz]
  cases a.may<;>simp;omega
 by_cases k5:k=5
 ·subst k5
  simp only[MsgS.named,MsgS.bare,true_or,or_true,if_true,MsgS.mk.injEq,true_and,and_true]at hn
  obtain⟨rfl,rfl,rfl,rfl,rfl⟩:=hn
  simp only[MsgS.has,MsgS.body,true_or,or_true,if_true,cz]
  cases a.may<;>simp;omega
 have n135:¬(k=1∨k=3∨k=5):=by omega
 by_cases k2:k=2
 ·subst k2
  simp[MsgS.named,MsgS.bare]at hn
  obtain⟨rfl,rfl,rfl,rfl⟩:=hn
  simp only[MsgS.has,MsgS.body,az,cz]
  cases hb:b.may<;>cases hac:ac.may<;>simp
  have:=bvi b hb
  by_cases h0:b.vi=0<;>simp[h0]<;>omega
 by_cases k4:k=4
 ·subst k4
  simp[MsgS.named,MsgS.bare]at hn
  obtain⟨rfl,rfl,rfl,rfl,rfl⟩:=hn
  simp only[MsgS.has,MsgS.body,az]
  cases c.may<;>simp;omega
 by_cases k6:k=6
 ·subst k6
  simp[MsgS.named,MsgS.bare]at hn
  obtain⟨rfl,rfl,rfl,rfl,rfl⟩:=hn
  simp only[MsgS.has,MsgS.body,az]
  cases c.may<;>simp;omega
 by_cases k7:k=7
 ·subst k7
  simp[MsgS.named,MsgS.bare]at hn
  obtain⟨rfl,rfl,rfl,rfl,rfl⟩:=hn
  simp[MsgS.has,MsgS.body,az,cz,hh]
 by_cases k8:k=8
 ·subst k8
  simp[MsgS.named,MsgS.bare]at hn
  obtain⟨rfl,rfl,rfl,rfl,rfl⟩:=hn
  simp only[MsgS.has,MsgS.body,az,cz,AccS.zero_may]
  cases hb:b.may<;>simp
  have:=bvi b hb
  by_cases h0:b.vi=0<;>simp[h0]<;>omega
 by_cases k9:k=9
 ·subst k9
  simp[MsgS.named,MsgS.bare]at hn
  obtain⟨rfl,rfl,rfl,rfl,rfl⟩:=hn
  simp only[MsgS.has,MsgS.body,az,cz]
  cases x.may<;>simp;omega
 by_cases k10:k=10
 ·subst k10
  simp[MsgS.named,MsgS.bare]at hn
  obtain⟨rfl,rfl,rfl,rfl,rfl⟩:=hn
  simp only[MsgS.has,MsgS.body,az,cz]
  cases ac.may<;>simp;omega
 simp[MsgS.has,MsgS.body,k1,k2,k3,k4,k5,k6,k7,k8,k9,k10]
end Sha
end Go.Abs
namespace Go.Proofs.Ytegamlopcdjiaaa.Sha
open Go Go.Abs Go.Abs.Sha Go.Abs.Srt
set_option linter.unusedSimpArgs false
set_option linter.unusedVariables false
set_option maxRecDepth 100000
def pf12:PF:=
 PF.mk 2 5 66 ((PC.reg [nn (.v 2) (.box (.v 0)),nn (.v 3) (.box (.v 1)),nn (.v 4) (.mv true (.c (.v (.bool false))))]).seq ((PC.reg [nn (.t 5) (.fadr
  0 0 (.v 2)),nn (.t 6) (.load 1 false (.t 5)),nn (.t 7) (.fadr 0 0 (.v 3)),nn (.t 8) (.load 1 false (.t 7)),nn (.t 9) (.bin .eql (.t 6) (.t 8)),
  nn (.t 10) (.mv false (.t 9)),⟨.t 11,.fadr 1 1 (.v 2),some (.t 10,true)⟩,⟨.t 12,.load 1 false (.t 11),some (.t 10,true)⟩,⟨.t 13,.fadr 1 1
  (.v 3),some (.t 10,true)⟩,⟨.t 14,.load 1 false (.t 13),some (.t 10,true)⟩,⟨.t 15,.bin .eql (.t 12) (.t 14),some (.t 10,true)⟩,nn (.t 16)
  (.pick (.t 10) (.t 15) (.c (.v (.bool false)))),nn (.t 17) (.mv false (.t 16)),⟨.t 18,.fadr 2 2 (.v 2),some (.t 17,true)⟩,⟨.t 19,.load 1 false
  (.t 18),some (.t 17,true)⟩,⟨.t 20,.fadr 2 2 (.v 3),some (.t 17,true)⟩,⟨.t 21,.load 1 false (.t 20),some (.t 17,true)⟩,⟨.t 22,.bin .eql
  (.t 19) (.t 21),some (.t 17,true)⟩,nn (.t 23) (.pick (.t 17) (.t 22) (.c (.v (.bool false)))),nn (.t 24) (.mv false (.t 23)),⟨.t 25,.fadr 3 3
  (.v 2),some (.t 24,true)⟩,⟨.t 26,.load 101 true (.t 25),some (.t 24,true)⟩,⟨.t 27,.fadr 3 3 (.v 3),some (.t 24,true)⟩,⟨.t 28,.load 101
  true (.t 27),some (.t 24,true)⟩,⟨.t 29,.eqa false (.agg (.cons 0 1 false .int (.cons 1 1 false .int (.cons 2 1 false .int (.cons 3 1 false .int
  (.cons 4 32 true (.arr 32) (.cons 36 1 false .int (.cons 37 32 true (.arr 32) (.cons 69 32 true (.arr 32) .nil))))))))) (.t 26) (.t 28),some (.t 24,
  true)⟩,nn (.t 30) (.pick (.t 24) (.t 29) (.c (.v (.bool false)))),nn (.t 31) (.mv false (.t 30)),⟨.t 32,.fadr 4 104 (.v 2),some (.t 31,true)⟩,
  ⟨.t 33,.load 102 true (.t 32),some (.t 31,true)⟩,⟨.t 34,.fadr 4 104 (.v 3),some (.t 31,true)⟩,⟨.t 35,.load 102 true (.t 34),some (.t 31,
  true)⟩,⟨.t 36,.call 41 [.t 33,.t 35],some (.t 31,true)⟩,nn (.t 37) (.pick (.t 31) (.t 36) (.c (.v (.bool false)))),nn (.t 38) (.mv false (.t
  37)),⟨.t 39,.fadr 5 206 (.v 2),some (.t 38,true)⟩,⟨.t 40,.load 68 true (.t 39),some (.t 38,true)⟩,⟨.t 41,.fadr 5 206 (.v 3),some (.t 38,
  true)⟩,⟨.t 42,.load 68 true (.t 41),some (.t 38,true)⟩,⟨.t 43,.call 42 [.t 40,.t 42],some (.t 38,true)⟩,nn (.t 44) (.pick (.t 38) (.t 43)
  (.c (.v (.bool false)))),nn (.t 45) (.mv false (.t 44)),⟨.t 46,.fadr 6 274 (.v 2),some (.t 45,true)⟩,⟨.t 47,.load 36 true (.t 46),some (.t
  45,true)⟩,⟨.t 48,.fadr 6 274 (.v 3),some (.t 45,true)⟩,⟨.t 49,.load 36 true (.t 48),some (.t 45,true)⟩,⟨.t 50,.call 43 [.t 47,.t 49],
  some (.t 45,true)⟩,nn (.t 51) (.pick (.t 45) (.t 50) (.c (.v (.bool false)))),nn (.t 52) (.mv false (.t 51)),⟨.t 53,.fadr 7 310 (.v 2),some (.t
  52,true)⟩,⟨.t 54,.load 32 true (.t 53),some (.t 52,true)⟩,⟨.t 55,.fadr 7 310 (.v 3),some (.t 52,true)⟩,⟨.t 56,.load 32 true (.t 55),some
  (.t 52,true)⟩,⟨.t 57,.eqa false (.arr 32) (.t 54) (.t 56),some (.t 52,true)⟩,nn (.t 58) (.pick (.t 52) (.t 57) (.c (.v (.bool false)))),nn (.t
  59) (.mv false (.t 58)),⟨.t 60,.fadr 8 342 (.v 2),some (.t 59,true)⟩,⟨.t 61,.load 7 true (.t 60),some (.t 59,true)⟩,⟨.t 62,.fadr 8 342 (.v
  3),some (.t 59,true)⟩,⟨.t 63,.load 7 true (.t 62),some (.t 59,true)⟩,⟨.t 64,.eqa false (.agg (.cons 0 1 false .int (.cons 1 1 false .int
  (.cons 2 1 false .int (.cons 3 1 false .int (.cons 4 1 false .int (.cons 5 1 false .str (.cons 6 1 false .str .nil)))))))) (.t 61) (.t 63),some (.t
  59,true)⟩,nn (.t 65) (.pick (.t 59) (.t 64) (.c (.v (.bool false)))),ma 4 65]).seq PC.ret)) [(.v 4,none)]
def pf13:PF:=
 PF.mk 2 5 66 ((PC.reg [nn (.v 2) (.box (.v 0)),nn (.v 3) (.box (.v 1)),nn (.v 4) (.mv true (.c (.v (.bool false))))]).seq ((PC.reg [nn (.t 5) (.fadr
  0 0 (.v 2)),nn (.t 6) (.load 1 false (.t 5)),nn (.t 7) (.fadr 0 0 (.v 3)),nn (.t 8) (.load 1 false (.t 7)),nn (.t 9) (.bin .eql (.t 6) (.t 8)),
  nn (.t 10) (.mv false (.t 9)),⟨.t 11,.fadr 1 1 (.v 2),some (.t 10,true)⟩,⟨.t 12,.load 1 false (.t 11),some (.t 10,true)⟩,⟨.t 13,.fadr 1 1
  (.v 3),some (.t 10,true)⟩,⟨.t 14,.load 1 false (.t 13),some (.t 10,true)⟩,⟨.t 15,.bin .eql (.t 12) (.t 14),some (.t 10,true)⟩,nn (.t 16)
  (.pick (.t 10) (.t 15) (.c (.v (.bool false)))),nn (.t 17) (.mv false (.t 16)),⟨.t 18,.fadr 2 2 (.v 2),some (.t 17,true)⟩,⟨.t 19,.load 1 false
  (.t 18),some (.t 17,true)⟩,⟨.t 20,.fadr 2 2 (.v 3),some (.t 17,true)⟩,⟨.t 21,.load 1 false (.t 20),some (.t 17,true)⟩,⟨.t 22,.bin .eql
  (.t 19) (.t 21),some (.t 17,true)⟩,nn (.t 23) (.pick (.t 17) (.t 22) (.c (.v (.bool false)))),nn (.t 24) (.mv false (.t 23)),⟨.t 25,.fadr 3 3
  (.v 2),some (.t 24,true)⟩,⟨.t 26,.load 101 true (.t 25),some (.t 24,true)⟩,⟨.t 27,.fadr 3 3 (.v 3),some (.t 24,true)⟩,⟨.t 28,.load 101
  true (.t 27),some (.t 24,true)⟩,⟨.t 29,.eqa false (.agg (.cons 0 1 false .int (.cons 1 1 false .int (.cons 2 1 false .int (.cons 3 1 false .int
  (.cons 4 32 true (.arr 32) (.cons 36 1 false .int (.cons 37 32 true (.arr 32) (.cons 69 32 true (.arr 32) .nil))))))))) (.t 26) (.t 28),some (.t 24,
  true)⟩,nn (.t 30) (.pick (.t 24) (.t 29) (.c (.v (.bool false)))),nn (.t 31) (.mv false (.t 30)),⟨.t 32,.fadr 4 104 (.v 2),some (.t 31,true)⟩,
  ⟨.t 33,.load 102 true (.t 32),some (.t 31,true)⟩,⟨.t 34,.fadr 4 104 (.v 3),some (.t 31,true)⟩,⟨.t 35,.load 102 true (.t 34),some (.t 31,
  true)⟩,⟨.t 36,.call 44 [.t 33,.t 35],some (.t 31,true)⟩,nn (.t 37) (.pick (.t 31) (.t 36) (.c (.v (.bool false)))),nn (.t 38) (.mv false (.t
  37)),⟨.t 39,.fadr 5 206 (.v 2),some (.t 38,true)⟩,⟨.t 40,.load 68 true (.t 39),some (.t 38,true)⟩,⟨.t 41,.fadr 5 206 (.v 3),some (.t 38,
  true)⟩,⟨.t 42,.load 68 true (.t 41),some (.t 38,true)⟩,⟨.t 43,.call 45 [.t 40,.t 42],some (.t 38,true)⟩,nn (.t 44) (.pick (.t 38) (.t 43)
  (.c (.v (.bool false)))),nn (.t 45) (.mv false (.t 44)),⟨.t 46,.fadr 6 274 (.v 2),some (.t 45,true)⟩,⟨.t 47,.load 36 true (.t 46),some (.t
  45,true)⟩,⟨.t 48,.fadr 6 274 (.v 3),some (.t 45,true)⟩,⟨.t 49,.load 36 true (.t 48),some (.t 45,true)⟩,⟨.t 50,.call 46 [.t 47,.t 49],
  some (.t 45,true)⟩,nn (.t 51) (.pick (.t 45) (.t 50) (.c (.v (.bool false)))),nn (.t 52) (.mv false (.t 51)),⟨.t 53,.fadr 7 310 (.v 2),some (.t
  52,true)⟩,⟨.t 54,.load 32 true (.t 53),some (.t 52,true)⟩,⟨.t 55,.fadr 7 310 (.v 3),some (.t 52,true)⟩,⟨.t 56,.load 32 true (.t 55),some
  (.t 52,true)⟩,⟨.t 57,.eqa false (.arr 32) (.t 54) (.t 56),some (.t 52,true)⟩,nn (.t 58) (.pick (.t 52) (.t 57) (.c (.v (.bool false)))),nn (.t
  59) (.mv false (.t 58)),⟨.t 60,.fadr 8 342 (.v 2),some (.t 59,true)⟩,⟨.t 61,.load 7 true (.t 60),some (.t 59,true)⟩,⟨.t 62,.fadr 8 342 (.v
  3),some (.t 59,true)⟩,⟨.t 63,.load 7 true (.t 62),some (.t 59,true)⟩,⟨.t 64,.eqa false (.agg (.cons 0 1 false .int (.cons 1 1 false .int
  (.cons 2 1 false .int (.cons 3 1 false .int (.cons 4 1 false .int (.cons 5 1 false .str (.cons 6 1 false .str .nil)))))))) (.t 61) (.t 63),some (.t
  59,true)⟩,nn (.t 65) (.pick (.t 59) (.t 64) (.c (.v (.bool false)))),ma 4 65]).seq PC.ret)) [(.v 4,none)]
def pf39:PF:=
 PF.mk 1 13 55 ((PC.reg [nn (.v 1) (.box (.v 0)),nn (.v 2) (.alloc (.agg [.int .i64 0,.int .i64 0,.int .i64 0,.agg [.int .i64 0,.int .i64 0,.int
  .i64 0,.int .i64 0,.arr .u8 32 zz2,.int .i64 0,.arr
  .u8 32 zz2,.arr .u8 32 [0,0,0,0,0,0,0,0,0,0,
  0,0,0,0,0,0,0,0,0,0,0,0,0,0,0,0,0,0,0,0,0,0]],.agg [.agg [.int .i64 0,.int .i64 0,.int .i64 0,.int .i64 0,.arr .u8 32 [0,
  0,0,0,0,0,0,0,0,0,0,0,0,0,0,0,0,0,0,0,0,0,0,0,0,0,0,0,0,0,0,0],.int .i64 0,.arr .u8 32 [0,0,0,0,0,0,0,0,0,0,
  0,0,0,0,0,0,0,0,0,0,0,0,0,0,0,0,0,0,0,0,0,0],.arr .u8 32 [0,0,0,0,0,0,0,0,0,0,0,0,0,0,0,0,0,0,0,0,0,0,0,
  0,0,0,0,0,0,0,0,0]],.nils],.agg [.int .i64 0,.int .i64 0,.int .i64 0,.arr .u8 32 [0,0,0,0,0,0,0,0,0,0,0,0,0,0,0,0,0,0,
  0,0,0,0,0,0,0,0,0,0,0,0,0,0],.nils,.arr .u8 32 [0,0,0,0,0,0,0,0,0,0,0,0,0,0,0,0,0,0,0,0,0,0,0,0,0,0,0,0,0,
  0,0,0]],.agg [.arr .u8 32 zz2,.int .i64 0,.int .i64
  0,.int .i64 0,.nils],.arr .u8 32 zz2,.agg [.int .i64
  0,.int .i64 0,.int .i64 0,.int .i64 0,.int .i64 0,.str ⟨⟨[]⟩⟩,.str ⟨⟨[]⟩⟩]]))]).seq ((PC.reg [nn (.v 4) (.fadr 0 0 (.v 1)),nn (.v 5) (.load 1
  false (.v 4)),nn (.v 6) (.fadr 1 1 (.v 1)),nn (.v 7) (.load 1 false (.v 6)),nn (.v 8) (.fadr 2 2 (.v 1)),nn (.v 9) (.load 1 false (.v 8)),nn (.v
  10) (.build (.agg [.int .i64 0,.int .i64 0,.int .i64 0,.agg [.int .i64 0,.int .i64 0,.int .i64 0,.int .i64 0,.arr .u8 32 [0,0,0,0,0,0,0,
  0,0,0,0,0,0,0,0,0,0,0,0,0,0,0,0,0,0,0,0,0,0,0,0,0],.int .i64 0,.arr .u8 32 [0,0,0,0,0,0,0,0,0,0,0,0,0,0,0,0,
  0,0,0,0,0,0,0,0,0,0,0,0,0,0,0,0],.arr .u8 32 [0,0,0,0,0,0,0,0,0,0,0,0,0,0,0,0,0,0,0,0,0,0,0,0,0,0,0,0,0,
  0,0,0]],.agg [.agg [.int .i64 0,.int .i64 0,.int .i64 0,.int .i64 0,.arr .u8 32 [0,0,0,0,0,0,0,0,0,0,0,0,0,0,0,0,0,0,0,0,
  0,0,0,0,0,0,0,0,0,0,0,0],.int .i64 0,.arr .u8 32 [0,0,0,0,0,0,0,0,0,0,0,0,0,0,0,0,0,0,0,0,0,0,0,0,0,0,0,0,0,
  0,0,0],.arr .u8 32 zz2],.nils],.agg [.int .i64 0,
  .int .i64 0,.int .i64 0,.arr .u8 32 zz2,.nils,.arr
  .u8 32 zz2],.agg [.arr .u8 32 [0,0,0,0,0,0,0,0,
  0,0,0,0,0,0,0,0,0,0,0,0,0,0,0,0,0,0,0,0,0,0,0,0],.int .i64 0,.int .i64 0,.int .i64 0,.nils],.arr .u8 32 [0,0,0,0,0,
  0,0,0,0,0,0,0,0,0,0,0,0,0,0,0,0,0,0,0,0,0,0,0,0,0,0,0],.agg [.int .i64 0,.int .i64 0,.int .i64 0,.int .i64 0,.int .i64
  0,.str ⟨⟨[]⟩⟩,.str ⟨⟨[]⟩⟩]]) [(0,.v 5),(1,.v 7),(2,.v 9)]),nn (.v 3) (.alloc (.agg [.int .i64 0,.int .i64 0,.int .i64 0,.agg [.int .i64 0,
  .int .i64 0,.int .i64 0,.int .i64 0,.arr .u8 32 zz2,
  .int .i64 0,.arr .u8 32 zz2,.arr .u8 32 [0,0,0,0,
  0,0,0,0,0,0,0,0,0,0,0,0,0,0,0,0,0,0,0,0,0,0,0,0,0,0,0,0]],.agg [.agg [.int .i64 0,.int .i64 0,.int .i64 0,.int .i64 0,
  .arr .u8 32 zz2,.int .i64 0,.arr .u8 32 [0,0,0,0,
  0,0,0,0,0,0,0,0,0,0,0,0,0,0,0,0,0,0,0,0,0,0,0,0,0,0,0,0],.arr .u8 32 [0,0,0,0,0,0,0,0,0,0,0,0,0,0,0,0,0,
  0,0,0,0,0,0,0,0,0,0,0,0,0,0,0]],.nils],.agg [.int .i64 0,.int .i64 0,.int .i64 0,.arr .u8 32 [0,0,0,0,0,0,0,0,0,0,0,0,
  0,0,0,0,0,0,0,0,0,0,0,0,0,0,0,0,0,0,0,0],.nils,.arr .u8 32 [0,0,0,0,0,0,0,0,0,0,0,0,0,0,0,0,0,0,0,0,0,0,0,
  0,0,0,0,0,0,0,0,0]],.agg [.arr .u8 32 zz2,.int
  .i64 0,.int .i64 0,.int .i64 0,.nils],.arr .u8 32 [0,0,0,0,0,0,0,0,0,0,0,0,0,0,0,0,0,0,0,0,0,0,0,0,0,0,0,0,0,0,0,
  0],.agg [.int .i64 0,.int .i64 0,.int .i64 0,.int .i64 0,.int .i64 0,.str ⟨⟨[]⟩⟩,.str ⟨⟨[]⟩⟩]])),nn .no (.store 349 (.v 3) (.v 10))]).seq
  (((PC.reg [nn (.v 11) (.fadr 0 0 (.v 1)),nn (.v 12) (.load 1 false (.v 11))]).seq (PC.block 0 (((PC.reg [nn (.t 14) (.bin .eql (.v 12) (.c (.v (.int
  .i64 1)))),nn (.t 13) (.mv true (.t 14))]).seq (PC.cond (.t 13) PC.skip ((PC.reg [nn (.t 15) (.bin .eql (.v 12) (.c (.v (.int .i64 3)))),nn (.t 13)
  (.mv true (.t 15))]).seq (PC.cond (.t 13) PC.skip (PC.reg [nn (.t 16) (.bin .eql (.v 12) (.c (.v (.int .i64 5)))),nn (.t 13) (.mv true (.t
  16))]))))).seq (PC.cond (.t 13) (PC.reg [nn (.t 17) (.fadr 3 3 (.v 1)),nn (.t 18) (.load 101 true (.t 17)),nn (.t 19) (.fadr 3 3 (.v 3)),nn .no
  (.store 101 (.t 19) (.t 18))]) ((PC.reg [nn (.t 21) (.bin .eql (.v 12) (.c (.v (.int .i64 2)))),nn (.t 20) (.mv true (.t 21))]).seq (PC.cond (.t 20)
  (PC.regD 0 [nn (.t 22) (.fadr 6 274 (.v 1)),nn (.t 23) (.load 36 true (.t 22)),nn (.t 24) (.fadr 5 206 (.v 1)),nn (.t 25) (.load 68 true (.t 24)),
  nn (.t 26) (.fadr 6 274 (.v 3)),nn .no (.store 36 (.t 26) (.t 23)),nn (.t 27) (.fadr 5 206 (.v 3)),nn .no (.store 68 (.t 27) (.t 25))] [(3,5)])
  (((PC.reg [nn (.t 29) (.bin .eql (.v 12) (.c (.v (.int .i64 4)))),nn (.t 28) (.mv true (.t 29))]).seq (PC.cond (.t 28) PC.skip (PC.reg [nn (.t 30)
  (.bin .eql (.v 12) (.c (.v (.int .i64 6)))),nn (.t 28) (.mv true (.t 30))]))).seq (PC.cond (.t 28) (PC.reg [nn (.t 31) (.fadr 4 104 (.v 1)),nn (.t
  32) (.load 102 true (.t 31)),nn (.t 33) (.fadr 4 104 (.v 3)),nn .no (.store 102 (.t 33) (.t 32))]) ((PC.reg [nn (.t 35) (.bin .eql (.v 12) (.c (.v
  (.int .i64 7)))),nn (.t 34) (.mv true (.t 35))]).seq (PC.cond (.t 34) (PC.reg [nn (.t 36) (.fadr 7 310 (.v 1)),nn (.t 37) (.load 32 true (.t 36)),
  nn (.t 38) (.fadr 7 310 (.v 3)),nn .no (.store 32 (.t 38) (.t 37))]) ((PC.reg [nn (.t 40) (.bin .eql (.v 12) (.c (.v (.int .i64 8)))),nn (.t 39)
  (.mv true (.t 40))]).seq (PC.cond (.t 39) (PC.reg [nn (.t 41) (.fadr 6 274 (.v 1)),nn (.t 42) (.load 36 true (.t 41)),nn (.t 43) (.fadr 6 274 (.v
  3)),nn .no (.store 36 (.t 43) (.t 42))]) ((PC.reg [nn (.t 45) (.bin .eql (.v 12) (.c (.v (.int .i64 9)))),nn (.t 44) (.mv true (.t 45))]).seq
  (PC.cond (.t 44) (PC.reg [nn (.t 46) (.fadr 8 342 (.v 1)),nn (.t 47) (.load 7 true (.t 46)),nn (.t 48) (.fadr 8 342 (.v 3)),nn .no (.store 7 (.t
  48) (.t 47))]) ((PC.reg [nn (.t 50) (.bin .eql (.v 12) (.c (.v (.int .i64 10)))),nn (.t 49) (.mv true (.t 50))]).seq (PC.cond (.t 49) (PC.reg [nn
  (.t 51) (.fadr 5 206 (.v 1)),nn (.t 52) (.load 68 true (.t 51)),nn (.t 53) (.fadr 5 206 (.v 3)),nn .no (.store 68 (.t 53) (.t 52))])
  PC.skip)))))))))))))))).seq ((PC.reg [nn (.t 54) (.load 349 true (.v 3)),nn .no (.store 349 (.v 2) (.t 54))]).seq PC.ret)))) [(.v 2,some (349,
  true))]
def pf40:PF:=
 PF.mk 1 5 13 ((PC.reg [nn (.v 1) (.box (.v 0)),nn (.v 2) (.mv true (.c (.v (.int .i64 0))))]).seq (((PC.reg [nn (.v 3) (.fadr 0 0 (.v 1)),nn (.v 4)
  (.load 1 false (.v 3))]).seq (PC.block 0 ((PC.reg [nn (.t 6) (.bin .eql (.v 4) (.c (.v (.int .i64 1)))),nn (.t 5) (.mv true (.t 6))]).seq (PC.cond
  (.t 5) ((PC.reg [nn (.v 2) (.mv true (.c (.v (.int .i64 1))))]).seq PC.ret) (((PC.reg [nn (.t 8) (.bin .eql (.v 4) (.c (.v (.int .i64 3)))),nn (.t
  7) (.mv true (.t 8))]).seq (PC.cond (.t 7) PC.skip (PC.reg [nn (.t 9) (.bin .eql (.v 4) (.c (.v (.int .i64 4)))),nn (.t 7) (.mv true (.t 9))]))).seq
  (PC.cond (.t 7) ((PC.reg [nn (.v 2) (.mv true (.c (.v (.int .i64 2))))]).seq PC.ret) (((PC.reg [nn (.t 11) (.bin .eql (.v 4) (.c (.v (.int .i64
  5)))),nn (.t 10) (.mv true (.t 11))]).seq (PC.cond (.t 10) PC.skip (PC.reg [nn (.t 12) (.bin .eql (.v 4) (.c (.v (.int .i64 6)))),nn (.t 10) (.mv
  true (.t 12))]))).seq (PC.cond (.t 10) ((PC.reg [nn (.v 2) (.mv true (.c (.v (.int .i64 3))))]).seq PC.ret) PC.skip)))))))).seq ((PC.reg [nn (.v 2)
  (.mv true (.c (.v (.int .i64 0))))]).seq PC.ret))) [(.v 2,none)]
attribute [local irreducible] W Wops WopsD WL Wop WopD
variable {E:Env} {C:Abs.Spec} {l:List (Nat×Spec1)} {G:List (Nat×V)} {Q:R→List (Nat×V)→Prop}
set_option maxHeartbeats 1000000
theorem sameT_eq {a b:AttS}:sameT a b=true↔a=b:=by
 cases a;cases b;unfold sameT;simp
theorem sameC_eq {a b:CertS}:sameC a b=true↔a=b:=by
 cases a;cases b;unfold sameC;simp[sameT_eq]
theorem sameA_eq {a b:AccS}:sameA a b=true↔a=b:=by
 cases a;cases b;unfold sameA;simp
theorem BV_v (b:BlkS):b.v=BV b (.sle 7 (b.txs.map TxS.v)):=rfl
def MsgS.sh (m:MsgS):Prop:=m.ce.sigs.length < 1000000∧m.ac.fr.length < 1000000∧m.bl.txs.length < 1000000
theorem _root_.Go.Abs.Sha.MsgS.ok.sh {m:MsgS} (h:m.ok):MsgS.sh m:=⟨h.cel,h.acl,h.bl.2.2⟩
def ZMs:Spec1
 |[x,y],G,Q=>∃a b:MsgS,(V.Wk x a.v∧V.Wk y b.v∧MsgS.sh a∧MsgS.sh b)∧Q (.v (.bool (decide (a=b)))) G
 |_,_,_=>False
theorem ZMs_eq {x y}:ZMs [x,y] G Q=(∃a b:MsgS,(V.Wk x a.v∧V.Wk y b.v∧MsgS.sh a∧MsgS.sh b)∧Q (.v (.bool (decide (a=b)))) G):=rfl
theorem _root_.Go.Abs.Sha.CertS.vs (c:CertS):V.size c.v=102∧V.isAgg c.v=true:=⟨rfl,rfl⟩
theorem _root_.Go.Abs.Sha.AccS.vs (c:AccS):V.size c.v=68∧V.isAgg c.v=true:=⟨rfl,rfl⟩
theorem _root_.Go.Abs.Sha.BlkS.vs (c:BlkS):V.size c.v=36∧V.isAgg c.v=true:=⟨rfl,rfl⟩
theorem _root_.Go.Abs.Sha.TxS.vs (c:TxS):V.size c.v=7∧V.isAgg c.v=true:=⟨rfl,rfl⟩
theorem _root_.Go.Abs.Sha.AttS.vs (c:AttS):V.size c.v=101∧V.isAgg c.v=true:=⟨rfl,rfl⟩
theorem _root_.Go.Abs.Sha.MsgS.vs (c:MsgS):V.size c.v=349∧V.isAgg c.v=true:=⟨rfl,rfl⟩
theorem walk12 {a b:MsgS} (hC:Abs.look l 41=some ZSn) (hA:Abs.look l 42=some ZS10) (hB:Abs.look l 43=some ZBs)
  (ha:MsgS.sh a) (hb:MsgS.sh b) (h:Q (.v (.bool (decide (a=b)))) G):Wf E (specOf l) pf12 [a.v,b.v] G Q:=by
 have no:a≠b→Q (.v (.bool false)) G:=fun hn=>finB h (by rw[decide_eq_false_iff_not];exact hn)
 have yes:a=b→Q (.v (.bool true)) G:=fun hn=>finB h (by rw[decide_eq_true_iff];exact hn)
 have yn:=h
 clear h
 obtain⟨k1,f1,t1,a1,c1,x1,b1,h1,y1⟩:=a
 obtain⟨k2,f2,t2,a2,c2,x2,b2,h2,y2⟩:=b
 obtain⟨a1a,a1b,a1c,a1d,a1e,a1f,a1g,a1h⟩:=a1
 obtain⟨a2a,a2b,a2c,a2d,a2e,a2f,a2g,a2h⟩:=a2
 obtain⟨y1a,y1b,y1c,y1d,y1e,y1f,y1g⟩:=y1
 obtain⟨y2a,y2b,y2c,y2d,y2e,y2f,y2g⟩:=y2
 obtain⟨z1,z2⟩:=CertS.vs c1
 obtain⟨z3,z4⟩:=CertS.vs c2
 obtain⟨z5,z6⟩:=AccS.vs x1
 obtain⟨z7,z8⟩:=AccS.vs x2
 obtain⟨z9,z10⟩:=BlkS.vs b1
 obtain⟨z11,z12⟩:=BlkS.vs b2
 unfold V.isAgg at z2 z4 z6 z8 z10 z12
 simp -implicitDefEqProofs only[pf12,MsgS.v,AttS.v,TxS.v,z1,z2,z3,z4,z5,z6,z7,z8,z9,z10,z11,z12,hC,ZSn_eq,hA,ZS10_eq,hB,ZBs_eq,go_sem,↓reduceIte]
 refine⟨fun e1=>⟨fun e2=>⟨fun e3=>⟨fun e4=>⟨c1,c2,⟨rfl,rfl,ha.1,hb.1⟩,fun e5=>⟨x1,x2,⟨rfl,rfl,ha.2.1,hb.2.1⟩,fun e6=>⟨b1,b2,_,_,⟨BV_v b1,BV_v b2,.inl ⟨.inl rfl,.inl rfl⟩,ha.2.2,hb.2.2⟩,fun e7=>⟨fun e8=> ?_,fun e8=>no (fun e=> ?_)⟩,fun e7=>no (fun e=> ?_)⟩,fun e6=>no (fun e=> ?_)⟩,fun e5=>no (fun e=> ?_)⟩,fun e4=>no (fun e=> ?_)⟩,fun e3=>no (fun e=> ?_)⟩,fun e2=>no (fun e=> ?_)⟩,fun e1=>no (fun e=> ?_)⟩
 ·have e5:=sameC_eq.1 e5
  have e6:=sameA_eq.1 e6
  have e8:=eq_of_beq e8
  obtain⟨g1,g2,g3,g4,g5,g6,g7,g8⟩:=e4
  have g5:=eq_of_beq g5
  have g7:=eq_of_beq g7
  have g8:=eq_of_beq g8
  subst e1;subst e2;subst e3;subst e5;subst e6;subst e7;subst e8;subst g1;subst g2;subst g3;subst g4;subst g5;subst g6;subst g7;subst g8
  refine finB yn ?_
  rw[bs_eq,bs_eq]
  simp only[MsgS.mk.injEq,TxS.mk.injEq,true_and,Bool.decide_and]
 ·cases e;simp at e8
 ·cases e;exact e7 rfl
 ·cases e;rw[sameA_eq.2 rfl]at e6;cases e6
 ·cases e;rw[sameC_eq.2 rfl]at e5;cases e5
 ·cases e;simp at e4
 ·cases e;exact e3 rfl
 ·cases e;exact e2 rfl
 ·cases e;exact e1 rfl
theorem walk13 {a b:MsgS} (hC:Abs.look l 44=some ZSn) (hA:Abs.look l 45=some ZS10) (hB:Abs.look l 46=some ZBs)
  (ha:MsgS.sh a) (hb:MsgS.sh b) (h:Q (.v (.bool (decide (a=b)))) G):Wf E (specOf l) pf13 [a.v,b.v] G Q:=by
 have no:a≠b→Q (.v (.bool false)) G:=fun hn=>finB h (by rw[decide_eq_false_iff_not];exact hn)
 have yes:a=b→Q (.v (.bool true)) G:=fun hn=>finB h (by rw[decide_eq_true_iff];exact hn)
 have yn:=h
 clear h
 obtain⟨k1,f1,t1,a1,c1,x1,b1,h1,y1⟩:=a
 obtain⟨k2,f2,t2,a2,c2,x2,b2,h2,y2⟩:=b
 obtain⟨a1a,a1b,a1c,a1d,a1e,a1f,a1g,a1h⟩:=a1
 obtain⟨a2a,a2b,a2c,a2d,a2e,a2f,a2g,a2h⟩:=a2
 obtain⟨y1a,y1b,y1c,y1d,y1e,y1f,y1g⟩:=y1
 obtain⟨y2a,y2b,y2c,y2d,y2e,y2f,y2g⟩:=y2
 obtain⟨z1,z2⟩:=CertS.vs c1
 obtain⟨z3,z4⟩:=CertS.vs c2
 obtain⟨z5,z6⟩:=AccS.vs x1
 obtain⟨z7,z8⟩:=AccS.vs x2
 obtain⟨z9,z10⟩:=BlkS.vs b1
 obtain⟨z11,z12⟩:=BlkS.vs b2
 unfold V.isAgg at z2 z4 z6 z8 z10 z12
 simp -implicitDefEqProofs only[pf13,MsgS.v,AttS.v,TxS.v,z1,z2,z3,z4,z5,z6,z7,z8,z9,z10,z11,z12,hC,ZSn_eq,hA,ZS10_eq,hB,ZBs_eq,go_sem,↓reduceIte]
 refine⟨fun e1=>⟨fun e2=>⟨fun e3=>⟨fun e4=>⟨c1,c2,⟨rfl,rfl,ha.1,hb.1⟩,fun e5=>⟨x1,x2,⟨rfl,rfl,ha.2.1,hb.2.1⟩,fun e6=>⟨b1,b2,_,_,⟨BV_v b1,BV_v b2,.inl ⟨.inl rfl,.inl rfl⟩,ha.2.2,hb.2.2⟩,fun e7=>⟨fun e8=> ?_,fun e8=>no (fun e=> ?_)⟩,fun e7=>no (fun e=> ?_)⟩,fun e6=>no (fun e=> ?_)⟩,fun e5=>no (fun e=> ?_)⟩,fun e4=>no (fun e=> ?_)⟩,fun e3=>no (fun e=> ?_)⟩,fun e2=>no (fun e=> ?_)⟩,fun e1=>no (fun e=> ?_)⟩
 ·have e5:=sameC_eq.1 e5
  have e6:=sameA_eq.1 e6
  have e8:=eq_of_beq e8
  obtain⟨g1,g2,g3,g4,g5,g6,g7,g8⟩:=e4
  have g5:=eq_of_beq g5
  have g7:=eq_of_beq g7
  have g8:=eq_of_beq g8
  subst e1;subst e2;subst e3;subst e5;subst e6;subst e7;subst e8;subst g1;subst g2;subst g3;subst g4;subst g5;subst g6;subst g7;subst g8
  refine finB yn ?_
  rw[bs_eq,bs_eq]
  simp only[MsgS.mk.injEq,TxS.mk.injEq,true_and,Bool.decide_and]
 ·cases e;simp at e8
 ·cases e;exact e7 rfl
 ·cases e;rw[sameA_eq.2 rfl]at e6;cases e6
 ·cases e;rw[sameC_eq.2 rfl]at e5;cases e5
 ·cases e;simp at e4
 ·cases e;exact e3 rfl
 ·cases e;exact e2 rfl
 ·cases e;exact e1 rfl
theorem wkL_nil:V.WkL [] []:=by unfold V.WkL;rfl
theorem wkL_cons {x y:V} {l m:List V} (h:V.Wk x y) (h2:V.WkL l m):V.WkL (x::l) (y::m):=by unfold V.WkL;exact⟨y,m,rfl,h,h2⟩
theorem wk_agg {l m:List V} (h:V.WkL l m):V.Wk (.agg l) (.agg m):=by unfold V.Wk;exact⟨m,rfl,h⟩
theorem wk_nils {sz:Nat}:V.Wk .nils (.sle sz []):=by unfold V.Wk;exact .inr (.inr ⟨sz,rfl⟩)
theorem wk_nili {k:IntKind}:V.Wk .nils (.sli k []):=by unfold V.Wk;exact .inr (.inl ⟨k,rfl⟩)
def ceN:V:= .agg [AttS.zero.v,.nils]
def acN:V:= .agg [.int .i64 0,.int .i64 0,.int .i64 0,.arr .u8 32 zero32,.nils,.arr .u8 32 zero32]
theorem wk_ce:V.Wk ceN CertS.zero.v:=wk_agg (wkL_cons (V.Wk.refl _) (wkL_cons wk_nils wkL_nil))
theorem wk_ac:V.Wk acN AccS.zero.v:=wk_agg (wkL_cons (V.Wk.refl _) (wkL_cons (V.Wk.refl _) (wkL_cons (V.Wk.refl _) (wkL_cons (V.Wk.refl _) (wkL_cons wk_nili (wkL_cons (V.Wk.refl _) wkL_nil))))))
theorem wk_bl:V.Wk BlkS.zeroV BlkS.zero.v:=wk_agg (wkL_cons (V.Wk.refl _) (wkL_cons (V.Wk.refl _) (wkL_cons (V.Wk.refl _) (wkL_cons (V.Wk.refl _) (wkL_cons wk_nils wkL_nil)))))
theorem wk_msg {m:MsgS} {c x b:V} (hc:V.Wk c m.ce.v) (hx:V.Wk x m.ac.v) (hb:V.Wk b m.bl.v):V.Wk (.agg [.int .i64 m.ki,.int .i64 m.fr,.int .i64 m.to,m.at_.v,c,x,b,.arr .u8 32 m.ha,m.tx.v]) m.v:=
 wk_agg (wkL_cons (V.Wk.refl _) (wkL_cons (V.Wk.refl _) (wkL_cons (V.Wk.refl _) (wkL_cons (V.Wk.refl _) (wkL_cons hc (wkL_cons hx (wkL_cons hb (wkL_cons (V.Wk.refl _) (wkL_cons (V.Wk.refl _) wkL_nil)))))))))
theorem low_msg {x:V} {m:MsgS} (h:V.Wk x m.v):Low G (.v x) G (.v m.v) G:= .wk (by simp only[R.Wk];exact⟨_,rfl,h⟩) (WkG.refl _) (.refl _ _)
def ZNm:Spec1
 |[x],G,Q=>∃m:MsgS,V.Wk x m.v∧Q (.v m.named.v) G
 |_,_,_=>False
theorem ZNm_eq {x}:ZNm [x] G Q=(∃m:MsgS,V.Wk x m.v∧Q (.v m.named.v) G):=rfl
def kindM (k:Int):Int:=if k=1 then 1 else if k=3∨k=4 then 2 else if k=5∨k=6 then 3 else 0
def ZKi:Spec1
 |[x],G,Q=>∃m:MsgS,V.Wk x m.v∧Q (.v (.int .i64 (kindM m.ki))) G
 |_,_,_=>False
theorem ZKi_eq {x}:ZKi [x] G Q=(∃m:MsgS,V.Wk x m.v∧Q (.v (.int .i64 (kindM m.ki))) G):=rfl
theorem walk40 {m:MsgS} (h:Q (.v (.int .i64 (kindM m.ki))) G):Wf E C pf40 [m.v] G Q:=by
 obtain⟨k,f,t,a,c,x,b,hh,y⟩:=m
 simp -implicitDefEqProofs only[pf40,MsgS.v,go_sem,↓reduceIte]
 dsimp only at h
 have key:∀n,kindM k=n→Q (.v (.int .i64 n)) G:=fun n e=>by rw[←e];exact h
 refine⟨fun e1=>key _ (by subst e1;rfl),fun e1=>⟨fun e3=>⟨fun _=>key _ (by subst e3;rfl),fun e=>absurd e3 e⟩,fun e3=>⟨fun e4=>key _ (by subst e4;rfl),fun e4=>⟨fun e5=>⟨fun _=>key _ (by subst e5;rfl),fun e=>absurd e5 e⟩,fun e5=>⟨fun e6=>key _ (by subst e6;rfl),fun e6=>key _ ?_⟩⟩⟩⟩⟩
 unfold kindM;rw[if_neg e1,if_neg (by omega),if_neg (by omega)]
theorem walk39 {m:MsgS} (h:Q (.v m.named.v) G):Wf E C pf39 [m.v] G (fun r G'=>∃r2 G2,Low G r G' r2 G2∧Q r2 G2):=by
 obtain⟨k,f,t,⟨a1,a2,a3,a4,a5,a6,a7,a8⟩,⟨⟨c1,c2,c3,c4,c5,c6,c7,c8⟩,cs⟩,⟨x1,x2,x3,x4,x5,x6⟩,⟨b1,b2,b3,b4,b5⟩,hh,⟨y1,y2,y3,y4,y5,y6,y7⟩⟩:=m
 by_cases k1:k=1
 ·subst k1
  simp -implicitDefEqProofs only[pf39,MsgS.v,AttS.v,CertS.v,AccS.v,BlkS.v,TxS.v,go_sem,↓reduceIte]
  exact⟨_,_,low_msg (m:=⟨1,f,t,⟨a1,a2,a3,a4,a5,a6,a7,a8⟩,.zero,.zero,.zero,zero32,.zero⟩) (wk_msg wk_ce wk_ac wk_bl),h⟩
 by_cases k3:k=3
 ·subst k3
  simp -implicitDefEqProofs only[pf39,MsgS.v,AttS.v,CertS.v,AccS.v,BlkS.v,TxS.v,go_sem,↓reduceIte]
  exact⟨_,_,low_msg (m:=⟨3,f,t,⟨a1,a2,a3,a4,a5,a6,a7,a8⟩,.zero,.zero,.zero,zero32,.zero⟩) (wk_msg wk_ce wk_ac wk_bl),h⟩
 by_cases k5:k=5
 ·subst k5
  simp -implicitDefEqProofs only[pf39,MsgS.v,AttS.v,CertS.v,AccS.v,BlkS.v,TxS.v,go_sem,↓reduceIte]
  exact⟨_,_,low_msg (m:=⟨5,f,t,⟨a1,a2,a3,a4,a5,a6,a7,a8⟩,.zero,.zero,.zero,zero32,.zero⟩) (wk_msg wk_ce wk_ac wk_bl),h⟩
 by_cases k2:k=2
 ·subst k2
  simp -implicitDefEqProofs only[pf39,MsgS.v,AttS.v,CertS.v,AccS.v,BlkS.v,TxS.v,go_sem,↓reduceIte]
  exact⟨_,_,low_msg (m:=⟨2,f,t,.zero,.zero,⟨x1,x2,x3,x4,x5,x6⟩,⟨b1,b2,b3,b4,b5⟩,zero32,.zero⟩) (wk_msg wk_ce (V.Wk.refl _) (V.Wk.refl _)),h⟩
 by_cases k4:k=4
 ·subst k4
  simp -implicitDefEqProofs only[pf39,MsgS.v,AttS.v,CertS.v,AccS.v,BlkS.v,TxS.v,go_sem,↓reduceIte]
  exact⟨_,_,low_msg (m:=⟨4,f,t,.zero,⟨⟨c1,c2,c3,c4,c5,c6,c7,c8⟩,cs⟩,.zero,.zero,zero32,.zero⟩) (wk_msg (V.Wk.refl _) wk_ac wk_bl),h⟩
 by_cases k6:k=6
 ·subst k6
  simp -implicitDefEqProofs only[pf39,MsgS.v,AttS.v,CertS.v,AccS.v,BlkS.v,TxS.v,go_sem,↓reduceIte]
  exact⟨_,_,low_msg (m:=⟨6,f,t,.zero,⟨⟨c1,c2,c3,c4,c5,c6,c7,c8⟩,cs⟩,.zero,.zero,zero32,.zero⟩) (wk_msg (V.Wk.refl _) wk_ac wk_bl),h⟩
 by_cases k7:k=7
 ·subst k7
  simp -implicitDefEqProofs only[pf39,MsgS.v,AttS.v,CertS.v,AccS.v,BlkS.v,TxS.v,go_sem,↓reduceIte]
  exact⟨_,_,low_msg (m:=⟨7,f,t,.zero,.zero,.zero,.zero,hh,.zero⟩) (wk_msg wk_ce wk_ac wk_bl),h⟩
 by_cases k8:k=8
 ·subst k8
  simp -implicitDefEqProofs only[pf39,MsgS.v,AttS.v,CertS.v,AccS.v,BlkS.v,TxS.v,go_sem,↓reduceIte]
  exact⟨_,_,low_msg (m:=⟨8,f,t,.zero,.zero,.zero,⟨b1,b2,b3,b4,b5⟩,zero32,.zero⟩) (wk_msg wk_ce wk_ac (V.Wk.refl _)),h⟩
 by_cases k9:k=9
 ·subst k9
  simp -implicitDefEqProofs only[pf39,MsgS.v,AttS.v,CertS.v,AccS.v,BlkS.v,TxS.v,go_sem,↓reduceIte]
  exact⟨_,_,low_msg (m:=⟨9,f,t,.zero,.zero,.zero,.zero,zero32,⟨y1,y2,y3,y4,y5,y6,y7⟩⟩) (wk_msg wk_ce wk_ac wk_bl),h⟩
 by_cases k10:k=10
 ·subst k10
  simp -implicitDefEqProofs only[pf39,MsgS.v,AttS.v,CertS.v,AccS.v,BlkS.v,TxS.v,go_sem,↓reduceIte]
  exact⟨_,_,low_msg (m:=⟨10,f,t,.zero,.zero,⟨x1,x2,x3,x4,x5,x6⟩,.zero,zero32,.zero⟩) (wk_msg wk_ce (V.Wk.refl _) wk_bl),h⟩
 have e:MsgS.named ⟨k,f,t,⟨a1,a2,a3,a4,a5,a6,a7,a8⟩,⟨⟨c1,c2,c3,c4,c5,c6,c7,c8⟩,cs⟩,⟨x1,x2,x3,x4,x5,x6⟩,⟨b1,b2,b3,b4,b5⟩,hh,⟨y1,y2,y3,y4,y5,y6,y7⟩⟩=MsgS.bare k f t:=by
  unfold MsgS.named;dsimp only
  rw[if_neg (by omega),if_neg k2,if_neg (by omega),if_neg k7,if_neg k8,if_neg k9,if_neg k10]
 rw[e]at h
 simp -implicitDefEqProofs only[pf39,MsgS.v,AttS.v,CertS.v,AccS.v,BlkS.v,TxS.v,k1,k2,k3,k4,k5,k6,k7,k8,k9,k10,go_sem,↓reduceIte]
 exact⟨_,_,low_msg (m:=MsgS.bare k f t) (wk_msg wk_ce wk_ac wk_bl),h⟩
end Go.Proofs.Ytegamlopcdjiaaa.Sha
