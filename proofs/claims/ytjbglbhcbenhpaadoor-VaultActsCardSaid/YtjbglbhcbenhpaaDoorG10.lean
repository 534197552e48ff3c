/- Laws over plain values, and what functions of the program hand back; no conditions. -/
import Derived.Test.YtjbglbhcbenhpaaDoorG9
import Derived.Test.YtjbglbhcbenhpaaDoorPlain6
namespace Go.Proofs.YtjbglbhcbenhpaaDoor.Sha
open Go Go.Abs Go.Abs.Sha
set_option linter.unusedSimpArgs false
set_option linter.unusedVariables false
set_option maxRecDepth 100000
def lp40_0:PC:=
 ((PC.reg [mm 18 6,mm 19 1,nn (.t 20) (.bin .lss (.t 18) (.t 19)),nn (.t 21) (.mv false (.t 20)),gm 22 6 21 true,⟨.t 23,.fadr 5 6 (.v 2),some (.t
  21,true)⟩,⟨.t 24,.load 1 false (.t 23),some (.t 21,true)⟩,⟨.t 25,.len (.t 24),some (.t 21,true)⟩,⟨.t 26,.bin .lss (.t 22) (.t 25),some
  (.t 21,true)⟩,nn (.t 27) (.pick (.t 21) (.t 26) (.c (.v (.bool false))))]).seq (PC.cond (.t 27) PC.skip (PC.exit 0))).seq ((PC.block 1 ((PC.reg [mm
  30 6,mm 31 5,nn (.t 32) (.len (.t 31)),nn (.t 33) (.bin .lss (.t 30) (.t 32))]).seq (PC.cond (.t 33) (PC.reg [mm 34 5,mm 35 6,nn (.t 36) (.fadr
  5 6 (.v 2)),nn (.t 37) (.load 1 false (.t 36)),mm 38 6,nn (.t 39) (.iadrS 1 (.t 37) (.t 38)),nn (.t 40) (.load 1 false (.t 39)),nn (.t 41)
  (.iadrS 1 (.t 34) (.t 35)),nn .no (.store 1 (.t 41) (.t 40))]) (PC.reg [nn (.t 42) (.mv true (.v 5)),nn (.t 43) (.fadr 5 6 (.v 2)),nn (.t 44)
  (.load 1 false (.t 43)),mm 45 6,nn (.t 46) (.iadrS 1 (.t 44) (.t 45)),nn (.t 47) (.load 1 false (.t 46)),nn (.t 48) (.buildS (some .u8) 1 (.int
  .u8 0) 1 [(0,.t 47)]),nn (.t 49) (.appR 1 1 (.int .u8 0) (.t 42) (.t 48)),ma 5 49])))).seq (PC.reg [mm 28 6,nn (.t 29) (.bin .add (.t 28) (.c (.v
  (.int .i64 1)))),ma 6 29]))
def pf40:PF:=
 PF.mk 2 7 59 ((PC.reg [nn (.v 2) (.box (.v 0)),nn (.v 4) (.alloc (.agg [.int .i64 0,.agg [.nils,.nils],.int .i64 0,.int .i64 0,.bool false,
  .nils,.int .i64 0]))]).seq (((PC.reg [nn (.t 7) (.fadr 5 6 (.v 2)),nn (.t 8) (.load 1 false (.t 7)),nn (.t 9) (.len (.t 8)),nn (.t 10) (.bin .gtr
  (.t 9) (.c (.v (.int .i64 0))))]).seq (PC.cond (.t 10) ((PC.reg [nn (.t 11) (.slcZ (.c (.own .nils))),nn (.t 12) (.fadr 6 7 (.v 2)),nn (.t 13)
  (.load 1 false (.t 12)),nn (.t 14) (.fadr 1 1 (.v 2)),nn (.t 15) (.iadrG 2 1 (.t 14) (.t 13)),nn (.t 16) (.load 1 false (.t 15)),nn (.t 17)
  (.appR 1 1 (.int .u8 0) (.t 11) (.t 16)),ma 5 17]).seq (((PC.reg [nn (.v 6) (.mv true (.c (.v (.int .i64 0))))]).seq (PC.block 0 (PC.loop [1,2,4,
  5,6] lp40_0))).seq (PC.reg [nn (.t 50) (.fadr 6 7 (.v 2)),nn (.t 51) (.load 1 false (.t 50)),mm 52 5,nn (.t 53) (.fadr 1 1 (.v 2)),nn (.t 54)
  (.iadrG 2 1 (.t 53) (.t 51)),nn .no (.store 1 (.t 54) (.t 52))]))) PC.skip)).seq ((PC.reg [nn (.t 55) (.fadr 5 6 (.v 2)),nn .no (.store 1 (.t 55)
  (.c (.own .nils)))]).seq ((PC.reg [nn (.t 56) (.fadr 4 5 (.v 2)),nn .no (.store 1 (.t 56) (.c (.v (.bool false))))]).seq ((PC.reg [nn (.t 57) (.fadr
  3 4 (.v 2)),nn .no (.store 1 (.t 57) (.c (.v (.int .i64 ((-1))))))]).seq ((PC.reg [nn (.t 58) (.load 8 true (.v 2)),nn .no (.store 8 (.v 4) (.t
  58))]).seq PC.ret)))))) [(.v 4,some (8,true))]
attribute [local irreducible] W Wops WopsD WL Wop WopD
variable {E:Env} {C:Abs.Spec} {l:List (Nat×Spec1)} {G:List (Nat×V)} {Q:R→List (Nat×V)→Prop}
set_option maxHeartbeats 1000000
def SVc:Spec1
 |[x,.int .i64 m],G,Q=>∃t:VS,(x=t.ref∧t.good∧I64 m)∧Q (.v (crashS t m).ref) G
 |_,_,_=>False
theorem SVc_eq {x m}:SVc [x,.int .i64 m] G Q=(∃t:VS,(x=t.ref∧t.good∧I64 m)∧Q (.v (crashS t m).ref) G):=rfl
structure RowB (G0 G:List (Nat×V)) (id c:Nat) (L:List V) (els:List Int):Prop where
 ext:Go.Abs.Ext G0 G
 none:Abs.look G0 id=none
 at_:Abs.look G id=some (.agg L)
 le:els.length≤c
 cl:c≤L.length
 els:L.take els.length=els.map (.int .u8)
 all:∀y∈L,∃n,y= .int .u8 n
theorem RowB.sizes {G0 G id c L els} (h:RowB G0 G id c L els):∀x∈L,V.size x=1:=fun x hx=>by
 obtain⟨n,rfl⟩:=h.all x hx;rfl
theorem RowB.get {G0 G id c L els} (h:RowB G0 G id c L els) {i:Nat} (hi:i < L.length):∃n,L[i]? =some (.int .u8 n):=by
 obtain⟨n,e⟩:=h.all L[i] (List.getElem_mem hi)
 exact⟨n,by rw[List.getElem?_eq_getElem hi,e]⟩
theorem RowB.set {G0 G id c L els} (h:RowB G0 G id c L els) {i:Nat} (hi:i < els.length) (y:Int):RowB G0 (Abs.upd G id (.agg (L.set i (.int .u8 y)))) id c (L.set i (.int .u8 y)) (els.set i y) where
 ext:=Go.Abs.Ext.upd h.ext h.none
 none:=h.none
 at_:=look_upd_same h.at_
 le:=by rw[List.length_set];exact h.le
 cl:=by rw[List.length_set];exact h.cl
 els:=by rw[List.length_set,List.take_set,h.els,List.map_set]
 all:=fun x hx=>by
  rcases List.mem_or_eq_of_mem_set hx with hx|rfl
  ·exact h.all x hx
  ·exact⟨y,rfl⟩
theorem RowB.take0 {G0 G id c L els} (h:RowB G0 G id c L els):(L.drop 0).take els.length=els.map (.int .u8):=by rw[List.drop_zero,h.els]
theorem RowB.app1 {G0 G id c L els} {y:Int} (h:RowB G0 G id c L els) (hc:els.length+1≤c):V.sameL (L.take els.length++ .int .u8 y::L.drop (els.length+1)) L=true∧
  RowB G0 (Abs.upd G id (.agg (L.take els.length++ .int .u8 y::L.drop (els.length+1)))) id c (L.take els.length++ .int .u8 y::L.drop (els.length+1)) (els++[y]):=by
 have hcl:=h.cl
 have hlt:els.length < L.length:=by omega
 have hp:L.take els.length++ .int .u8 y::L.drop (els.length+1)=L.set els.length (.int .u8 y):=by
  rw[List.set_eq_take_append_cons_drop,if_pos hlt]
 rw[hp]
 obtain⟨n,hn⟩:=h.get hlt
 refine⟨V.sameL_set hn rfl,Go.Abs.Ext.upd h.ext h.none,h.none,look_upd_same h.at_,by simpa using hc,by rw[List.length_set];exact h.cl,?_,fun x hx=> ?_⟩
 ·rw[List.length_append,List.length_singleton,List.take_add_one,List.take_set_of_le (Nat.le_refl _),h.els,List.getElem?_set_self hlt];simp
 ·rcases List.mem_or_eq_of_mem_set hx with hx|rfl
  ·exact h.all x hx
  ·exact⟨y,rfl⟩
theorem RowB.app2 {G0 G id c L els} {y:Int} (h:RowB G0 G id c L els) {id' c':Nat} (hid:Abs.look G id'=Option.none) (hc':els.length+1≤c'):
  RowB G0 ((id',.agg (els.map (.int .u8)++[.int .u8 y]++List.replicate (c'-(els.length+1)) (.int .u8 0)))::G) id' c' (els.map (.int .u8)++[.int .u8 y]++List.replicate (c'-(els.length+1)) (.int .u8 0)) (els++[y]):=by
 refine⟨Go.Abs.Ext.cons' h.ext (h.ext.none hid),h.ext.none hid,by rw[look_cons,if_pos rfl],by simpa using hc',?_,?_,?_⟩
 ·simp only[List.length_append,List.length_map,List.length_replicate,List.length_singleton];omega
 ·rw[List.take_left' (by simp)];simp
 ·intro x hx
  rcases List.mem_append.1 hx with hx|hx
  ·rcases List.mem_append.1 hx with hx|hx
   ·obtain⟨n,_,rfl⟩:=List.mem_map.1 hx;exact⟨n,rfl⟩
   ·rw[List.mem_singleton.1 hx];exact⟨y,rfl⟩
  ·rw[List.eq_of_mem_replicate hx];exact⟨0,rfl⟩
theorem RowB.new {G:List (Nat×V)} {xs:List Int} {K:St→Prop} {σ:St} {dst:AD} (hG:σ.G=G) (hb:xs.length≤100000000000000)
  (h0:xs=[]→K (σ.put dst .e0)) (hK:xs≠[]→∀id c L G',RowB G G' id c L xs→K (({ σ with G:=G' }:St).put dst (.v (.sob id 1 0 xs.length c)))):appRK 1 1 (.int .u8 0) K σ dst (some .e0) (some (xs.map (.int .u8))):=by
 refine⟨⟨by rw[List.length_map];omega,fun x hx=> ?_⟩,fun e=>h0 (List.map_eq_nil_iff.1 e),fun e id c hid hc=> ?_⟩
 ·obtain⟨n,_,rfl⟩:=List.mem_map.1 hx;rfl
 ·rw[List.length_map]at hc⊢
  rw[hG]at hid⊢
  refine hK (fun c=>e (by rw[c];rfl)) id c _ _ ⟨Go.Abs.Ext.cons hid,hid,by rw[look_cons,if_pos rfl],hc,?_,?_,?_⟩
  ·simp only[List.length_append,List.length_map,List.length_replicate];omega
  ·rw[List.take_left' (by simp)]
  ·intro x hx
   rcases List.mem_append.1 hx with hx|hx
   ·obtain⟨n,_,rfl⟩:=List.mem_map.1 hx;exact⟨n,rfl⟩
   ·rw[List.eq_of_mem_replicate hx];exact⟨0,rfl⟩
theorem intsV_map (xs:List Int):intsV .u8 (xs.map (.int .u8))=some xs:=by
 induction xs with
 |nil=>rfl
 |cons x xs ih=>simp only[List.map_cons,intsV,ih];rfl
theorem RowB.elems {G0 G id c L els} (h:RowB G0 G id c L els):elemsV (some .u8) 1 ((L.drop 0).take els.length)=some (.sli .u8 els):=by
 rw[List.drop_zero,h.els];unfold elemsV;simp only[intsV_map,Option.map_some]
theorem RowB.fz {G0 G id c L els} (h:RowB G0 G id c L els) (ctx:V→R) (hf:∀id L k y,V.Fz id L k (.sob id 1 0 els.length c) y→R.Fz id L k (ctx (.sob id 1 0 els.length c)) (ctx y)):Low G0 (ctx (.sob id 1 0 els.length c)) G (ctx (.sli .u8 els)) G0:=by
 refine .fz id L (some .u8) h.none h.at_ (hf id L (some .u8) _ ?_) (fun j y hj=> ?_) (fun j r hj=>⟨r,hj,V.same_refl r⟩) (.refl _ _)
 ·unfold V.Fz
  have:=h.cl;have:=h.le
  exact .inr ⟨rfl,h.le,by omega,h.sizes,h.elems,fun k e=>rfl⟩
 ·have hne:j≠id:=by rintro rfl;rw[h.none]at hj;cases hj
  exact⟨hne,y,h.ext j y hj,V.Fz.refl y⟩
def over (p o:List Int) (i:Nat):List Int:=p.take i++o.drop i
theorem over_len {p o:List Int} {i:Nat} (hi:i≤p.length):(over p o i).length=max i o.length:=by
 unfold over;rw[List.length_append,List.length_take,List.length_drop];omega
theorem over_in {p o:List Int} {i:Nat} (hi:i < p.length) (h:i < o.length):(over p o i).set i (p.getD i 0)=over p o (i+1):=by
 unfold over
 have hl:(p.take i).length=i:=by rw[List.length_take];omega
 have hd:o.drop i=o[i]::o.drop (i+1):=List.drop_eq_getElem_cons h
 rw[hd]
 have:(List.take i p++o[i]::List.drop (i+1) o).set i (p.getD i 0)=List.take i p++(p.getD i 0)::List.drop (i+1) o:=by
  rw[List.set_append_right _ _ (by omega),hl,Nat.sub_self];rfl
 rw[this,List.take_add_one,List.getElem?_eq_getElem hi]
 simp only[List.getD_eq_getElem?_getD,List.getElem?_eq_getElem hi,Option.getD_some,Option.toList_some,List.append_assoc,List.singleton_append]
theorem over_out {p o:List Int} {i:Nat} (hi:i < p.length) (h:o.length≤i):over p o i++[p.getD i 0]=over p o (i+1):=by
 unfold over
 rw[List.drop_of_length_le h,List.drop_of_length_le (by omega),List.take_add_one,List.getElem?_eq_getElem hi]
 simp[List.getD_eq_getElem?_getD,hi]
theorem torn_over (p o:List Int) (c:Nat) (hc:c≤p.length):torn (p.take c) o=over p o c:=by
 unfold torn over
 have hl:(p.take c).length=c:=by rw[List.length_take];omega
 rw[hl]
 congr 1
 split
 ·rw[List.drop_of_length_le (by omega),List.drop_of_length_le (by omega)]
 ·rfl
theorem loop40 {mm_:Int} {t:VS} {b1:Bx} {bh o:List Int} {QQ:Ex→St→Prop} (hh:t.h= .sli .u8 bh) (z0:V.size t.s0=1) (z1:V.size t.s1=1) (hbl:bh.length≤1000) (hol:o.length≤1000)
  (hx:∀(i:Nat) ts id c L G',i≤bh.length→((mm_≤i∨i=bh.length)∧((i:Int)≤mm_∨i=0))→RowB G G' id c L (over bh o i)→QQ (.exit 0) ⟨[none,some (.v (.int .i64 mm_)),some (.lp 0 []),none,some (.lp 1 []),some (.v (.sob id 1 0 (over bh o i).length c)),some (.v (.int .i64 (i:Nat)))],ts,[⟨false,t.ref⟩,b1],G'⟩):
  ∀(r i:Nat) id c L G',i+r=bh.length→((i:Int)≤mm_∨i=0)→RowB G G' id c L (over bh o i)→WL (W E C lp40_0) [1,2,4,5,6] QQ (r+1) ⟨[none,some (.v (.int .i64 mm_)),some (.lp 0 []),none,some (.lp 1 []),some (.v (.sob id 1 0 (over bh o i).length c)),some (.v (.int .i64 (i:Nat)))],[],[⟨false,t.ref⟩,b1],G'⟩:=by
 intro r
 induction r with
 |zero=>
  intro i id c L G' hr hm hB
  have c1:¬(i:Int) < (bh.length:Int):=by omega
  refine WL_in lp40_0.eq_1 ?_
  simp (maxSteps:=1000000) (implicitDefEqProofs:=false) only[c1,hh,z0,z1,go_sem,↓reduceIte]
  have key:=hx i
  have k1:∀ts,QQ (.exit 0) ⟨[none,some (.v (.int .i64 mm_)),some (.lp 0 []),none,some (.lp 1 []),some (.v (.sob id 1 0 (over bh o i).length c)),some (.v (.int .i64 (i:Nat)))],ts,[⟨false,t.ref⟩,b1],G'⟩:=fun ts=>hx i ts id c L G' (by omega) ⟨.inr (by omega),hm⟩ hB
  exact⟨fun _=>k1 _,fun _=>k1 _⟩
 |succ r ih=>
  intro i id c L G' hr hm hB
  have hi:i < bh.length:=by omega
  have c1:(i:Int) < (bh.length:Int):=by omega
  refine WL_in lp40_0.eq_1 ?_
  by_cases c0:(i:Int) < mm_
  ·have ol:=over_len (p:=bh) (o:=o) (i:=i) (by omega)
   have wi:IntKind.i64.wrap ((i:Int)+1)=((i+1:Nat):Int):=by rw[w64 (by omega) (by omega)];simp
   have le:=hB.le;have cl:=hB.cl
   by_cases c2:i < o.length
   ·have c3:(i:Int) < ((over bh o i).length:Int):=by omega
    obtain⟨n0,g0⟩:=hB.get (i:=i) (by omega)
    have hset:=hB.set (i:=i) (by omega) (bh.getD i 0)
    rw[over_in hi c2]at hset
    have e1:(over bh o i).length=(over bh o (i+1)).length:=by rw[over_len (by omega),over_len (by omega)];omega
    simp (maxSteps:=1000000) (implicitDefEqProofs:=false) only[c0,c1,hh,z0,z1,c3,wi,Int.toNat_natCast,hB.at_,g0,go_sem,↓reduceIte]
    refine⟨by omega,⟨by omega,by omega,hB.sizes⟩,?_⟩
    try simp (maxSteps:=1000000) (implicitDefEqProofs:=false) only[hB.at_,g0,Int.toNat_natCast,wi,go_sem,↓reduceIte]
    rw[e1]
    exact ih (i+1) id c _ _ (by omega) (by omega) hset
   ·have c3:¬(i:Int) < ((over bh o i).length:Int):=by omega
    simp (maxSteps:=1000000) (implicitDefEqProofs:=false) only[c0,c1,hh,z0,z1,c3,wi,Int.toNat_natCast,hB.at_,go_sem,↓reduceIte]
    have e1:(over bh o i).length+1=(over bh o (i+1)).length:=by rw[over_len (by omega),over_len (by omega)];omega
    rw[hB.take0,List.length_map]
    refine⟨by omega,⟨by omega,le,cl,hB.sizes,fun x hx=>by rw[List.mem_singleton.1 hx];rfl⟩,fun hc=> ?_,fun hc id' c' hid hc'=> ?_⟩
    ·obtain⟨h1,h2⟩:=hB.app1 (y:=bh.getD i 0) hc
     refine⟨h1,?_⟩
     rw[over_out hi (by omega)]at h2
     rw[e1]at h2⊢
     exact ih (i+1) _ _ _ _ (by omega) (by omega) h2
    ·have h2:=hB.app2 (y:=bh.getD i 0) hid hc'
     rw[over_out hi (by omega)]at h2
     rw[e1]at h2⊢
     exact ih (i+1) _ _ _ _ (by omega) (by omega) h2
  ·simp (maxSteps:=1000000) (implicitDefEqProofs:=false) only[c0,hh,z0,z1,go_sem,↓reduceIte]
   exact hx i _ id c L G' (by omega) ⟨.inl (by omega),hm⟩ hB
theorem loop040 {mm_:Int} {t:VS} {b1:Bx} {bh:List Int} {QQ:Ex→St→Prop} (hh:t.h= .sli .u8 bh) (z0:V.size t.s0=1) (z1:V.size t.s1=1) (hbl:bh.length≤1000) (hb0:0 < bh.length)
  (hx0:∀ts,mm_≤0→QQ (.exit 0) ⟨[none,some (.v (.int .i64 mm_)),some (.lp 0 []),none,some (.lp 1 []),some .e0,some (.v (.int .i64 0))],ts,[⟨false,t.ref⟩,b1],G⟩)
  (hx:∀(i:Nat) ts id c L G',i≤bh.length→((mm_≤i∨i=bh.length)∧((i:Int)≤mm_∨i=0))→RowB G G' id c L (over bh [] i)→QQ (.exit 0) ⟨[none,some (.v (.int .i64 mm_)),some (.lp 0 []),none,some (.lp 1 []),some (.v (.sob id 1 0 (over bh [] i).length c)),some (.v (.int .i64 (i:Nat)))],ts,[⟨false,t.ref⟩,b1],G'⟩):
  WL (W E C lp40_0) [1,2,4,5,6] QQ (bh.length+1) ⟨[none,some (.v (.int .i64 mm_)),some (.lp 0 []),none,some (.lp 1 []),some .e0,some (.v (.int .i64 0))],[],[⟨false,t.ref⟩,b1],G⟩:=by
 refine WL_in lp40_0.eq_1 ?_
 by_cases c0:0 < mm_
 ·have c1:(0:Int) < (bh.length:Int):=by omega
  have w1:IntKind.i64.wrap 1=1:=by decide
  simp (maxSteps:=1000000) (implicitDefEqProofs:=false) only[c0,c1,hh,z0,z1,w1,Int.lt_irrefl,go_sem,↓reduceIte]
  refine⟨fun x hx=>by rw[List.mem_singleton.1 hx];rfl,fun id c hid hc=> ?_⟩
  have hB:RowB G ((id,.agg (V.int .u8 (bh.getD 0 0)::List.replicate (c-1) (.int .u8 0)))::G) id c (V.int .u8 (bh.getD 0 0)::List.replicate (c-1) (.int .u8 0)) (over bh [] 1):=by
   have e:over bh [] 1=[bh.getD 0 0]:=by
    have:=over_out (p:=bh) (o:=[]) (i:=0) hb0 (Nat.le_refl _)
    rw[←this];rfl
   rw[e]
   refine⟨Go.Abs.Ext.cons hid,hid,by rw[look_cons,if_pos rfl],hc,?_,rfl,fun x hx=> ?_⟩
   ·simp only[List.length_cons,List.length_replicate];omega
   ·rcases List.mem_cons.1 hx with rfl|hx
    ·exact⟨_,rfl⟩
    ·rw[List.eq_of_mem_replicate hx];exact⟨0,rfl⟩
  have el:(over bh [] 1).length=1:=by rw[over_len (by omega)];rfl
  have:=loop40 (E:=E) (C:=C) (b1:=b1) (o:=[]) hh z0 z1 hbl (by simp) hx (bh.length-1) 1 id c _ _ (by omega) (.inl (by omega)) hB
  rw[el]at this
  rw[show bh.length=bh.length-1+1 by omega]
  exact this
 ·simp (maxSteps:=1000000) (implicitDefEqProofs:=false) only[c0,hh,z0,z1,go_sem,↓reduceIte]
  exact hx0 _ (by omega)
theorem cut_of {mm_:Int} {L i:Nat} (h1:i≤L) (h2:(mm_≤i∨i=L)∧((i:Int)≤mm_∨i=0)):(cutN mm_ L).toNat=i:=by
 unfold cutN
 repeat' split
 all_goals omega
theorem fz_slot0 {id:Nat} {L:List V} {k:Option IntKind} {a b x y c d e f g:V} (h:V.Fz id L k x y):R.Fz id L k (.v (.agg [a,.agg [x,b],c,d,e,f,g])) (.v (.agg [a,.agg [y,b],c,d,e,f,g])):=by
 simp only[R.Fz]
 refine⟨_,rfl,?_⟩
 unfold V.Fz;refine⟨_,rfl,?_⟩
 unfold V.FzL;refine⟨_,_,rfl,V.Fz.refl _,?_⟩
 unfold V.FzL;refine⟨_,_,rfl,?_,V.FzL.refl _⟩
 unfold V.Fz;refine⟨_,rfl,?_⟩
 unfold V.FzL;exact⟨_,_,rfl,h,V.FzL.refl _⟩
theorem fz_slot1 {id:Nat} {L:List V} {k:Option IntKind} {a b x y c d e f g:V} (h:V.Fz id L k x y):R.Fz id L k (.v (.agg [a,.agg [b,x],c,d,e,f,g])) (.v (.agg [a,.agg [b,y],c,d,e,f,g])):=by
 simp only[R.Fz]
 refine⟨_,rfl,?_⟩
 unfold V.Fz;refine⟨_,rfl,?_⟩
 unfold V.FzL;refine⟨_,_,rfl,V.Fz.refl _,?_⟩
 unfold V.FzL;refine⟨_,_,rfl,?_,V.FzL.refl _⟩
 unfold V.Fz;refine⟨_,rfl,?_⟩
 unfold V.FzL;refine⟨_,_,rfl,V.Fz.refl _,?_⟩
 unfold V.FzL;exact⟨_,_,rfl,h,V.FzL.refl _⟩
theorem walk40 {mm_:Int} {x:V} {t:VS} (hx:x=t.ref) (hg:t.good) (hm:I64 mm_) (h:Q (.v (crashS t mm_).ref) G):Wf E C pf40 [x,.int .i64 mm_] G (fun r G'=>∃r2 G2,Low G r G' r2 G2∧Q r2 G2):=by
 subst hx
 obtain⟨⟨z0,_⟩,⟨z1,_⟩,⟨z2,_⟩⟩:=hg.sz
 obtain⟨m0,m1,m2⟩:=hg.sm
 obtain⟨bh,zh,lh,yh⟩:=hg.h
 obtain⟨b0,e0,l0,y0⟩:=hg.z0
 obtain⟨b1,e1,l1,y1⟩:=hg.z1
 have eh:byB t.h=bh:=byB_of zh
 have a0:=hg.sz.1.2
 have a1:=hg.sz.2.1.2
 have a2:=hg.sz.2.2.2
 unfold V.isAgg at a0 a1 a2
 unfold crashS at h
 rw[eh]at h
 simp only at h
 by_cases hz:bh.length=0
 ·obtain rfl:bh=[]:=List.eq_nil_of_length_eq_zero hz
  rw[if_pos hz]at h
  rcases byV_cases zh with f2|⟨f2,_⟩<;>simp (maxSteps:=1000000) (implicitDefEqProofs:=false) only[pf40,z0,z1,z2,m0,m1,m2,a0,a1,a2,f2,go_sem,↓reduceIte]<;>exact⟨_,_,.refl _ _,h⟩
 ·have f2:t.h= .sli .u8 bh:=by
   rcases byV_cases zh with e|⟨_,e⟩
   ·exact e
   ·rw[e]at hz;simp at hz
  have hz':(0:Int) < bh.length:=by omega
  rw[if_neg hz]at h
  rcases hg.k with hk|hk
  ·rw[hk]at h
   have eo:byB (t.slot 0)=b0:=byB_of e0
   rw[eo,torn_over _ _ _ (by have:=cutN_ok mm_ bh.length;omega)]at h
   simp only[VS.put,VS.ref,if_true,if_false,reduceIte,Int.reduceEq,hk]at h
   rcases byV_cases e0 with f0|⟨f0,rfl⟩
   ·simp (maxSteps:=1000000) (implicitDefEqProofs:=false) only[pf40,z0,z1,z2,m0,m1,m2,a0,a1,a2,f2,hz',hk,f0,go_sem,↓reduceIte]
    refine⟨two_sz rfl z1,⟨by rw[List.length_map];omega,fun x hx=>by obtain⟨n,_,rfl⟩:=List.mem_map.1 hx;rfl⟩,fun e=> ?_,fun hne id c hid hc=> ?_⟩
    ·obtain rfl:=List.map_eq_nil_iff.1 e
     refine⟨bh.length+1,?_⟩
     simp (maxSteps:=1000000) (implicitDefEqProofs:=false) only[go_sem,↓reduceIte]
     refine loop040 (b1:=⟨false,.agg [.int .i64 0,.agg [.nils,.nils],.int .i64 0,.int .i64 0,.bool false,.nils,.int .i64 0]⟩) f2 z0 z1 lh (by omega) (fun ts hm0=> ?_) (fun i ts id c L G' h1 h2 hB=> ?_)
     ·simp (maxSteps:=1000000) (implicitDefEqProofs:=false) only[z0,z1,z2,m0,m1,m2,a0,a1,a2,f2,hk,f0,go_sem,↓reduceIte]
      have ec:(cutN mm_ bh.length).toNat=0:=cut_of (by omega) ⟨.inl (by simpa using hm0),.inr rfl⟩
      rw[ec]at h
      exact⟨two_sz rfl z1,_,_,.refl _ _,h⟩
     ·simp (maxSteps:=1000000) (implicitDefEqProofs:=false) only[z0,z1,z2,m0,m1,m2,a0,a1,a2,f2,hk,f0,go_sem,↓reduceIte]
      rw[cut_of h1 h2]at h
      exact⟨two_sz rfl z1,_,_,hB.fz (fun y=> .v (.agg [.int .i64 t.i,.agg [y,t.s1],.int .i64 t.n,.int .i64 (-1),.bool false,.nils,.int .i64 0])) (fun id L k y hy=>fz_slot0 hy),h⟩
    ·rw[List.length_map]at hc⊢
     have hB:RowB G ((id,.agg (b0.map (.int .u8)++List.replicate (c-b0.length) (.int .u8 0)))::G) id c (b0.map (.int .u8)++List.replicate (c-b0.length) (.int .u8 0)) (over bh b0 0):=by
      have e:over bh b0 0=b0:=rfl
      rw[e]
      refine⟨Go.Abs.Ext.cons hid,hid,by rw[look_cons,if_pos rfl],hc,?_,?_,?_⟩
      ·simp only[List.length_append,List.length_map,List.length_replicate];omega
      ·rw[List.take_left' (by simp)]
      ·intro x hx
       rcases List.mem_append.1 hx with hx|hx
       ·obtain⟨n,_,rfl⟩:=List.mem_map.1 hx;exact⟨n,rfl⟩
       ·rw[List.eq_of_mem_replicate hx];exact⟨0,rfl⟩
     refine⟨bh.length+1,?_⟩
     simp (maxSteps:=1000000) (implicitDefEqProofs:=false) only[go_sem,↓reduceIte]
     refine loop40 (b1:=⟨false,.agg [.int .i64 0,.agg [.nils,.nils],.int .i64 0,.int .i64 0,.bool false,.nils,.int .i64 0]⟩) (o:=b0) f2 z0 z1 lh (by omega) (fun i ts id c L G' h1 h2 hB=> ?_) bh.length 0 id c _ _ (by omega) (.inr rfl) hB
     simp (maxSteps:=1000000) (implicitDefEqProofs:=false) only[z0,z1,z2,m0,m1,m2,a0,a1,a2,f2,hk,f0,go_sem,↓reduceIte]
     rw[cut_of h1 h2]at h
     exact⟨two_sz rfl z1,_,_,hB.fz (fun y=> .v (.agg [.int .i64 t.i,.agg [y,t.s1],.int .i64 t.n,.int .i64 (-1),.bool false,.nils,.int .i64 0])) (fun id L k y hy=>fz_slot0 hy),h⟩
   ·simp (maxSteps:=1000000) (implicitDefEqProofs:=false) only[pf40,z0,z1,z2,m0,m1,m2,a0,a1,a2,f2,hz',hk,f0,go_sem,↓reduceIte]
    refine⟨two_sz rfl z1,fun x hx=>by simp at hx,bh.length+1,?_⟩
    simp (maxSteps:=1000000) (implicitDefEqProofs:=false) only[go_sem,↓reduceIte]
    refine loop040 (b1:=⟨false,.agg [.int .i64 0,.agg [.nils,.nils],.int .i64 0,.int .i64 0,.bool false,.nils,.int .i64 0]⟩) f2 z0 z1 lh (by omega) (fun ts hm0=> ?_) (fun i ts id c L G' h1 h2 hB=> ?_)
    ·simp (maxSteps:=1000000) (implicitDefEqProofs:=false) only[z0,z1,z2,m0,m1,m2,a0,a1,a2,f2,hk,f0,go_sem,↓reduceIte]
     have ec:(cutN mm_ bh.length).toNat=0:=cut_of (by omega) ⟨.inl (by simpa using hm0),.inr rfl⟩
     rw[ec]at h
     exact⟨two_sz rfl z1,_,_,.refl _ _,h⟩
    ·simp (maxSteps:=1000000) (implicitDefEqProofs:=false) only[z0,z1,z2,m0,m1,m2,a0,a1,a2,f2,hk,f0,go_sem,↓reduceIte]
     rw[cut_of h1 h2]at h
     exact⟨two_sz rfl z1,_,_,hB.fz (fun y=> .v (.agg [.int .i64 t.i,.agg [y,t.s1],.int .i64 t.n,.int .i64 (-1),.bool false,.nils,.int .i64 0])) (fun id L k y hy=>fz_slot0 hy),h⟩
  ·rw[hk]at h
   have eo:byB (t.slot 1)=b1:=byB_of e1
   rw[eo,torn_over _ _ _ (by have:=cutN_ok mm_ bh.length;omega)]at h
   simp only[VS.put,VS.ref,if_true,if_false,reduceIte,Int.reduceEq,hk]at h
   rcases byV_cases e1 with f0|⟨f0,rfl⟩
   ·simp (maxSteps:=1000000) (implicitDefEqProofs:=false) only[pf40,z0,z1,z2,m0,m1,m2,a0,a1,a2,f2,hz',hk,f0,go_sem,↓reduceIte]
    refine⟨two_sz z0 rfl,⟨by rw[List.length_map];omega,fun x hx=>by obtain⟨n,_,rfl⟩:=List.mem_map.1 hx;rfl⟩,fun e=> ?_,fun hne id c hid hc=> ?_⟩
    ·obtain rfl:=List.map_eq_nil_iff.1 e
     refine⟨bh.length+1,?_⟩
     simp (maxSteps:=1000000) (implicitDefEqProofs:=false) only[go_sem,↓reduceIte]
     refine loop040 (b1:=⟨false,.agg [.int .i64 0,.agg [.nils,.nils],.int .i64 0,.int .i64 0,.bool false,.nils,.int .i64 0]⟩) f2 z0 z1 lh (by omega) (fun ts hm0=> ?_) (fun i ts id c L G' h1 h2 hB=> ?_)
     ·simp (maxSteps:=1000000) (implicitDefEqProofs:=false) only[z0,z1,z2,m0,m1,m2,a0,a1,a2,f2,hk,f0,go_sem,↓reduceIte]
      have ec:(cutN mm_ bh.length).toNat=0:=cut_of (by omega) ⟨.inl (by simpa using hm0),.inr rfl⟩
      rw[ec]at h
      exact⟨two_sz z0 rfl,_,_,.refl _ _,h⟩
     ·simp (maxSteps:=1000000) (implicitDefEqProofs:=false) only[z0,z1,z2,m0,m1,m2,a0,a1,a2,f2,hk,f0,go_sem,↓reduceIte]
      rw[cut_of h1 h2]at h
      exact⟨two_sz z0 rfl,_,_,hB.fz (fun y=> .v (.agg [.int .i64 t.i,.agg [t.s0,y],.int .i64 t.n,.int .i64 (-1),.bool false,.nils,.int .i64 1])) (fun id L k y hy=>fz_slot1 hy),h⟩
    ·rw[List.length_map]at hc⊢
     have hB:RowB G ((id,.agg (b1.map (.int .u8)++List.replicate (c-b1.length) (.int .u8 0)))::G) id c (b1.map (.int .u8)++List.replicate (c-b1.length) (.int .u8 0)) (over bh b1 0):=by
      have e:over bh b1 0=b1:=rfl
      rw[e]
      refine⟨Go.Abs.Ext.cons hid,hid,by rw[look_cons,if_pos rfl],hc,?_,?_,?_⟩
      ·simp only[List.length_append,List.length_map,List.length_replicate];omega
      ·rw[List.take_left' (by simp)]
      ·intro x hx
       rcases List.mem_append.1 hx with hx|hx
       ·obtain⟨n,_,rfl⟩:=List.mem_map.1 hx;exact⟨n,rfl⟩
       ·rw[List.eq_of_mem_replicate hx];exact⟨0,rfl⟩
     refine⟨bh.length+1,?_⟩
     simp (maxSteps:=1000000) (implicitDefEqProofs:=false) only[go_sem,↓reduceIte]
     refine loop40 (b1:=⟨false,.agg [.int .i64 0,.agg [.nils,.nils],.int .i64 0,.int .i64 0,.bool false,.nils,.int .i64 0]⟩) (o:=b1) f2 z0 z1 lh (by omega) (fun i ts id c L G' h1 h2 hB=> ?_) bh.length 0 id c _ _ (by omega) (.inr rfl) hB
     simp (maxSteps:=1000000) (implicitDefEqProofs:=false) only[z0,z1,z2,m0,m1,m2,a0,a1,a2,f2,hk,f0,go_sem,↓reduceIte]
     rw[cut_of h1 h2]at h
     exact⟨two_sz z0 rfl,_,_,hB.fz (fun y=> .v (.agg [.int .i64 t.i,.agg [t.s0,y],.int .i64 t.n,.int .i64 (-1),.bool false,.nils,.int .i64 1])) (fun id L k y hy=>fz_slot1 hy),h⟩
   ·simp (maxSteps:=1000000) (implicitDefEqProofs:=false) only[pf40,z0,z1,z2,m0,m1,m2,a0,a1,a2,f2,hz',hk,f0,go_sem,↓reduceIte]
    refine⟨two_sz z0 rfl,fun x hx=>by simp at hx,bh.length+1,?_⟩
    simp (maxSteps:=1000000) (implicitDefEqProofs:=false) only[go_sem,↓reduceIte]
    refine loop040 (b1:=⟨false,.agg [.int .i64 0,.agg [.nils,.nils],.int .i64 0,.int .i64 0,.bool false,.nils,.int .i64 0]⟩) f2 z0 z1 lh (by omega) (fun ts hm0=> ?_) (fun i ts id c L G' h1 h2 hB=> ?_)
    ·simp (maxSteps:=1000000) (implicitDefEqProofs:=false) only[z0,z1,z2,m0,m1,m2,a0,a1,a2,f2,hk,f0,go_sem,↓reduceIte]
     have ec:(cutN mm_ bh.length).toNat=0:=cut_of (by omega) ⟨.inl (by simpa using hm0),.inr rfl⟩
     rw[ec]at h
     exact⟨two_sz z0 rfl,_,_,.refl _ _,h⟩
    ·simp (maxSteps:=1000000) (implicitDefEqProofs:=false) only[z0,z1,z2,m0,m1,m2,a0,a1,a2,f2,hk,f0,go_sem,↓reduceIte]
     rw[cut_of h1 h2]at h
     exact⟨two_sz z0 rfl,_,_,hB.fz (fun y=> .v (.agg [.int .i64 t.i,.agg [t.s0,y],.int .i64 t.n,.int .i64 (-1),.bool false,.nils,.int .i64 1])) (fun id L k y hy=>fz_slot1 hy),h⟩
end Go.Proofs.YtjbglbhcbenhpaaDoor.Sha
namespace Go.Proofs.YtjbglbhcbenhpaaDoor.Sha
open Go Go.Abs Go.Abs.Sha
set_option linter.unusedSimpArgs false
set_option linter.unusedVariables false
set_option maxRecDepth 100000
attribute [local irreducible] W Wops WopsD WL Wop WopD
variable {E:Env} {C:Abs.Spec} {l:List (Nat×Spec1)} {G:List (Nat×V)} {Q:R→List (Nat×V)→Prop}
set_option maxHeartbeats 1000000
structure Rel (s t:VS):Prop where
 i:s.i=t.i
 n:s.n=t.n
 a:s.a=t.a
 d:s.d=t.d
 k:s.k=t.k
 z0:byB s.s0=byB t.s0
 z1:byB s.s1=byB t.s1
 h:byB s.h=byB t.h
theorem Rel.step {s t:VS} (r:Rel s t):Rel (stepS s).1 (stepS t).1∧(stepS s).2=(stepS t).2:=by
 obtain⟨h1,h2,h3,h4,h5,h6,h7,h8⟩:=r
 unfold stepS
 rw[h3]
 split
 ·exact⟨⟨h1,h2,rfl,rfl,h5,h6,h7,h8⟩,rfl⟩
 ·split
  ·exact⟨⟨h1,h2,rfl,h4,h5,h6,h7,h8⟩,rfl⟩
  ·exact⟨⟨h1,h2,h3,h4,h5,h6,h7,h8⟩,rfl⟩
theorem Rel.put {s t:VS} (r:Rel s t) (k:Int) (y:V):Rel (s.put k y) (t.put k y):=by
 obtain⟨h1,h2,h3,h4,h5,h6,h7,h8⟩:=r
 unfold VS.put
 split
 ·exact⟨h1,h2,h3,h4,h5,rfl,h7,h8⟩
 ·exact⟨h1,h2,h3,h4,h5,h6,rfl,h8⟩
theorem Rel.slot {s t:VS} (r:Rel s t) (k:Int):byB (s.slot k)=byB (t.slot k):=by
 unfold VS.slot;split
 ·exact r.z0
 ·exact r.z1
theorem keepT_lt {kt:List Int} {s:VS} {x:SealS} (h:s.n < 1099511627776):keepT kt s x=keepS kt s x:=by
 unfold keepT
 by_cases h1:s.d=true
 ·rw[if_pos h1];unfold keepS;rw[if_pos h1]
 ·rw[if_neg h1]
  by_cases h2:x.May
  ·rw[if_neg (show ¬¬x.May from fun c=>c h2),if_neg (show ¬1099511627776≤s.n by omega)]
  ·rw[if_pos h2];unfold keepS;rw[if_neg h1,if_pos h2]
theorem keepT_ge {kt:List Int} {s:VS} {x:SealS} (h:1099511627776≤s.n):(keepT kt s x).1=s:=by
 unfold keepT
 rw[if_pos h]
 repeat' split
 all_goals rfl
theorem Rel.keep {kt:List Int} {s t:VS} {x:SealS} (r:Rel s t):Rel (keepT kt s x).1 (keepT kt t x).1∧(keepT kt s x).2=(keepT kt t x).2:=by
 unfold keepT
 rw[r.d,r.n]
 by_cases h1:t.d=true
 ·rw[if_pos h1,if_pos h1];exact⟨r,rfl⟩
 rw[if_neg h1,if_neg h1]
 by_cases h2:x.May
 ·have h2':¬¬x.May:=fun c=>c h2
  rw[if_neg h2',if_neg h2']
  by_cases h3:1099511627776≤t.n
  ·rw[if_pos h3,if_pos h3];exact⟨r,rfl⟩
  rw[if_neg h3,if_neg h3]
  unfold keepS
  rw[r.d,r.n,r.i,if_neg h1,if_neg h1,if_neg h2',if_neg h2']
  obtain⟨r1,e1⟩:=r.step
  rw[e1]
  by_cases h4:(stepS t).2=false
  ·rw[if_pos h4,if_pos h4]
   obtain⟨g1,g2,g3,g4,g5,g6,g7,g8⟩:=r1
   exact⟨⟨g1,g2,g3,g4,rfl,g6,g7,rfl⟩,rfl⟩
  rw[if_neg h4,if_neg h4]
  obtain⟨r2,e2⟩:=(r1.put ((t.n+1).tmod 2) (.sli .u8 (x.blob kt t.i (t.n+1)))).step
  rw[e2]
  split
  ·exact⟨r2,rfl⟩
  ·obtain⟨g1,g2,g3,g4,g5,g6,g7,g8⟩:=r2
   exact⟨⟨g1,rfl,g3,g4,g5,g6,g7,g8⟩,rfl⟩
 ·rw[if_pos h2,if_pos h2];exact⟨r,rfl⟩
theorem Rel.crash {s t:VS} (r:Rel s t) (m:Int):Rel (crashS s m) (crashS t m):=by
 unfold crashS
 rw[r.h,r.k,r.slot t.k]
 split
 ·obtain⟨g1,g2,g3,g4,g5,g6,g7,g8⟩:=r
  exact⟨g1,g2,rfl,rfl,g5,g6,g7,rfl⟩
 ·obtain⟨g1,g2,g3,g4,g5,g6,g7,g8⟩:=r.put t.k (.sli .u8 (torn ((byB t.h).take (cutN m (byB t.h).length).toNat) (byB (t.slot t.k))))
  exact⟨g1,g2,rfl,rfl,g5,g6,g7,rfl⟩
theorem Rel.load {kt:List Int} {s t:VS} (r:Rel s t):loadD kt s=loadD kt t:=by
 unfold loadD;rw[r.d,r.i,r.n,r.z0,r.z1]
theorem Rel.arm {s t:VS} (r:Rel s t) (m:Int):Rel { s with a:=m } { t with a:=m }:=⟨r.i,r.n,rfl,r.d,r.k,r.z0,r.z1,r.h⟩
theorem keepT_good {kt:List Int} {s:VS} {x:SealS} (h:s.good) (hw:x.wf) (hn:okC s.n):(keepT kt s x).1.good∧okC (keepT kt s x).1.n∧Like s (keepT kt s x).1:=by
 unfold okC at hn⊢
 by_cases h3:1099511627776≤s.n
 ·rw[keepT_ge h3];exact⟨h,hn,Like.refl s⟩
 ·rw[keepT_lt (by omega)]
  refine⟨keepS_good h hw ⟨hn.1,by omega⟩,?_⟩
  unfold keepS
  obtain⟨l1,p1,_⟩:=stepS_like s
  have l2:=put_like (stepS s).1 ((s.n+1).tmod 2) (.sli .u8 (x.blob kt s.i (s.n+1)))
  have pn:((stepS s).1.put ((s.n+1).tmod 2) (.sli .u8 (x.blob kt s.i (s.n+1)))).n=s.n:=by rw[←p1];unfold VS.put;split<;>rfl
  obtain⟨l3,p3,_⟩:=stepS_like ((stepS s).1.put ((s.n+1).tmod 2) (.sli .u8 (x.blob kt s.i (s.n+1))))
  split
  ·exact⟨hn,Like.refl s⟩
  split
  ·exact⟨hn,Like.refl s⟩
  split
  ·exact⟨by show 0≤(stepS s).1.n∧(stepS s).1.n≤_;rw[p1];exact hn,⟨l1.id,l1.c,l1.i⟩⟩
  have lk:Like s (stepS ((stepS s).1.put ((s.n+1).tmod 2) (.sli .u8 (x.blob kt s.i (s.n+1))))).1:=⟨l3.id.trans (l2.id.trans l1.id),l3.c.trans (l2.c.trans l1.c),l3.i.trans (l2.i.trans l1.i)⟩
  split
  ·refine⟨?_,lk⟩
   rw[p3,pn];exact hn
  ·exact⟨by show 0≤s.n+1∧s.n+1≤_;omega,⟨lk.id,lk.c,lk.i⟩⟩
def SSw2:Spec1
 |[x,.int .i64 k,y],G,Q=>SSw [x,.int .i64 k,y] G Q∨∃(s:VS) (b:List Int),(s.at G x∧byV y=some b∧b.length < 10000000000000∧(k < 0∨2≤k∨1000 < b.length))∧Q (.v (.int .i64 1)) G
 |_,_,_=>False
theorem SSw2_eq {x k y}:SSw2 [x,.int .i64 k,y] G Q=(SSw [x,.int .i64 k,y] G Q∨∃(s:VS) (b:List Int),(s.at G x∧byV y=some b∧b.length < 10000000000000∧(k < 0∨2≤k∨1000 < b.length))∧Q (.v (.int .i64 1)) G):=rfl
def SSlo2:Spec1
 |[x,.int .i64 k],G,Q=>SSlo [x,.int .i64 k] G Q∨∃(s:VS),(s.at G x∧(k < 0∨2≤k))∧Q (.own .nils) G
 |_,_,_=>False
theorem SSlo2_eq {x k}:SSlo2 [x,.int .i64 k] G Q=(SSlo [x,.int .i64 k] G Q∨∃(s:VS),(s.at G x∧(k < 0∨2≤k))∧Q (.own .nils) G):=rfl
def SKp3 (kt:List Int):Spec1
 |[x,.agg [.int .i64 a1,.int .i64 a2,.int .i64 a3,.arr .u8 32 a4]],G,Q=>∃s:VS,(s.at G x∧s.good∧(⟨a1,a2,a3,a4⟩:SealS).wf)∧Q (.v (.int .i64 (keepT kt s (⟨a1,a2,a3,a4⟩:SealS)).2)) (setG G (keepT kt s (⟨a1,a2,a3,a4⟩:SealS)).1)
 |_,_,_=>False
theorem SKp3_eq {kt x a1 a2 a3 a4}:SKp3 kt [x,.agg [.int .i64 a1,.int .i64 a2,.int .i64 a3,.arr .u8 32 a4]] G Q=(∃s:VS,(s.at G x∧s.good∧(⟨a1,a2,a3,a4⟩:SealS).wf)∧Q (.v (.int .i64 (keepT kt s (⟨a1,a2,a3,a4⟩:SealS)).2)) (setG G (keepT kt s (⟨a1,a2,a3,a4⟩:SealS)).1)):=rfl
theorem detSSw2:SSw2.Det:=by
 intro vs G Q h
 unfold SSw2 at h⊢
 split at h
 ·rcases h with h|⟨s,b,hp,h⟩
  ·obtain⟨r,h1,h2⟩:=detSSw _ _ _ h
   exact⟨r,h1,fun Q' h'=> .inl (h2 Q' h')⟩
  ·exact⟨_,h.2,fun Q' h'=> .inr ⟨s,b,hp,h'⟩⟩
 ·exact h.elim
theorem detSSlo2:SSlo2.Det:=by
 intro vs G Q h
 unfold SSlo2 at h⊢
 split at h
 ·rcases h with h|⟨s,hp,h⟩
  ·obtain⟨r,h1,h2⟩:=detSSlo _ _ _ h
   exact⟨r,h1,fun Q' h'=> .inl (h2 Q' h')⟩
  ·exact⟨_,h.2,fun Q' h'=> .inr ⟨s,hp,h'⟩⟩
 ·exact h.elim
theorem walk321 {x y:V} {k:Int} (h1:Abs.look l 42=some SIs) (h2:Abs.look l 50=some SCl) (hh:SSw2 [x,.int .i64 k,y] G Q):Wf E (specOf l) pf21 [x,.int .i64 k,y] G Q:=by
 rcases hh with hh|⟨s,b,⟨hs,hy,hl,hc⟩,h⟩
 ·exact walk21 h1 h2 hh
 ·have l2:V.lenI y=some (b.length:Int):=by rcases byV_cases hy with rfl|⟨rfl,rfl⟩<;>rfl
  have hx:=hs.x
  subst hx
  by_cases c1:k < 0
  ·simp (maxSteps:=1000000) (implicitDefEqProofs:=false) only[pf21,h1,SIs_eq,c1,go_sem,↓reduceIte]
   refine⟨true,.inr ⟨s,hs,rfl⟩,?_⟩
   simp (maxSteps:=1000000) (implicitDefEqProofs:=false) only[c1,go_sem,↓reduceIte]
   exact h
  by_cases c2:2≤k
  ·simp (maxSteps:=1000000) (implicitDefEqProofs:=false) only[pf21,h1,SIs_eq,c1,c2,go_sem,↓reduceIte]
   refine⟨true,.inr ⟨s,hs,rfl⟩,?_⟩
   simp (maxSteps:=1000000) (implicitDefEqProofs:=false) only[c1,c2,go_sem,↓reduceIte]
   exact h
  have c3:(1000:Int) < b.length:=by omega
  simp (maxSteps:=1000000) (implicitDefEqProofs:=false) only[pf21,h1,SIs_eq,c1,c2,go_sem,↓reduceIte]
  refine⟨true,.inr ⟨s,hs,rfl⟩,?_⟩
  rcases byV_cases hy with rfl|⟨rfl,rfl⟩
  ·simp (maxSteps:=1000000) (implicitDefEqProofs:=false) only[c1,c2,c3,go_sem,↓reduceIte]
   exact h
  ·simp at c3
theorem walk323 {x:V} {k:Int} (h1:Abs.look l 42=some SIs) (h2:Abs.look l 50=some SCl) (hh:SSlo2 [x,.int .i64 k] G Q):Wf E (specOf l) pf23 [x,.int .i64 k] G Q:=by
 rcases hh with hh|⟨s,⟨hs,hc⟩,h⟩
 ·exact walk23 h1 h2 hh
 ·have hx:=hs.x
  subst hx
  by_cases c1:k < 0
  ·simp (maxSteps:=1000000) (implicitDefEqProofs:=false) only[pf23,h1,SIs_eq,c1,go_sem,↓reduceIte]
   refine⟨true,.inr ⟨s,hs,rfl⟩,?_⟩
   simp (maxSteps:=1000000) (implicitDefEqProofs:=false) only[c1,go_sem,↓reduceIte]
   exact h
  have c2:2≤k:=by omega
  simp (maxSteps:=1000000) (implicitDefEqProofs:=false) only[pf23,h1,SIs_eq,c1,c2,go_sem,↓reduceIte]
  refine⟨true,.inr ⟨s,hs,rfl⟩,?_⟩
  simp (maxSteps:=1000000) (implicitDefEqProofs:=false) only[c1,c2,go_sem,↓reduceIte]
  exact h
theorem walk315 {kt:List Int} {x:V} {a1 a2 a3:Int} {a4:List Int} {s:VS} (h1:Abs.look l 42=some SIs) (h2:Abs.look l 43=some SBc) (h3:Abs.look l 24=some SVat) (h4:Abs.look l 44=some (SBp kt))
  (h5:Abs.look l 45=some SWr2) (h6:Abs.look l 46=some SSt2) (h7:Abs.look l 47=some S28) (hs:s.at G x) (hg:s.good) (hw:(⟨a1,a2,a3,a4⟩:SealS).wf)
  (h:Q (.v (.int .i64 (keepT kt s (⟨a1,a2,a3,a4⟩:SealS)).2)) (setG G (keepT kt s (⟨a1,a2,a3,a4⟩:SealS)).1)):Wf E (specOf l) pf15 [x,.agg [.int .i64 a1,.int .i64 a2,.int .i64 a3,.arr .u8 32 a4]] G Q:=by
 by_cases hlt:s.n < 1099511627776
 ·rw[keepT_lt hlt]at h
  exact walk215 h1 h2 h3 h4 h5 h6 h7 hs hg hlt hw h
 ·rw[keepT_ge (by omega),setG_same hs]at h
  have hs':=hs
  obtain⟨rfl,hv,hc,hne,hok,⟨b0,z0⟩,⟨b1,z1⟩⟩:=hs
  obtain⟨g0,_⟩:=by_size z0
  obtain⟨g1,_⟩:=by_size z1
  have hok2:=hok
  unfold okC at hok2
  have hn:s.n=1099511627776:=by omega
  unfold VS.val at hv
  unfold keepT at h
  simp (maxSteps:=1000000) (implicitDefEqProofs:=false) only[pf15,h1,SIs_eq,go_sem,↓reduceIte]
  refine⟨true,.inr ⟨s,hs',rfl⟩,?_⟩
  cases hd:s.d with
  |true=>
   rw[hd]at hv
   rw[if_pos hd]at h
   simp (maxSteps:=1000000) (implicitDefEqProofs:=false) only[hv,g0,g1,go_sem,↓reduceIte]
   exact h
  |false=>
   rw[hd]at hv
   rw[if_neg (by rw[hd];simp)]at h
   simp (maxSteps:=1000000) (implicitDefEqProofs:=false) only[hv,g0,g1,h2,SBc_eq,go_sem,↓reduceIte]
   refine⟨hw,?_⟩
   by_cases hm:(⟨a1,a2,a3,a4⟩:SealS).May
   ·have hmay:(⟨a1,a2,a3,a4⟩:SealS).may=true:=decide_eq_true hm
    rw[if_neg (fun c=>c hm),if_pos (by omega)]at h
    simp (maxSteps:=1000000) (implicitDefEqProofs:=false) only[hmay,h3,SVat_eq,go_sem,↓reduceIte]
    refine⟨s.n,.inr ⟨s,hs',rfl⟩,?_⟩
    have hw1:IntKind.i64.wrap (s.n+1)=s.n+1:=w64 (by omega) (by omega)
    rw[hw1]
    simp (maxSteps:=1000000) (implicitDefEqProofs:=false) only[hv,g0,g1,h4,SBp_eq,go_sem,↓reduceIte]
    refine⟨hw,?_⟩
    unfold putV
    rw[if_neg (fun c=>by omega)]
    simp (maxSteps:=1000000) (implicitDefEqProofs:=false) only[go_sem,↓reduceIte]
    exact h
   ·have hmay:(⟨a1,a2,a3,a4⟩:SealS).may=false:=decide_eq_false hm
    rw[if_pos hm]at h
    simp (maxSteps:=1000000) (implicitDefEqProofs:=false) only[hmay,go_sem,↓reduceIte]
    exact h
end Go.Proofs.YtjbglbhcbenhpaaDoor.Sha
