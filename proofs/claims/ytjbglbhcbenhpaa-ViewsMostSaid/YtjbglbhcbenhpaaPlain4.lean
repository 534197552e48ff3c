/- Rows that are turned, room that is asked, zeros that are appended: they fit. -/
import Derived.Test.YtjbglbhcbenhpaaPlain3
import Derived.Laws.LoneSync
import Derived.Laws.BytesArg
import Derived.Laws.IdiomStrings
namespace Go.Abs
open Go Go.RowKit
set_option linter.unusedVariables false
set_option linter.unusedSimpArgs false
section ops
variable {c:Ctx} {m:Mem} {σ:St} {a:Act} {w:World} {o:Oper} {t:AD} {p:Prop} {σ':St}
theorem fits_rowR {k:Option IntKind} {sz:Nat} {l:List V} {y:V} {cs:Array Value} {e:TypeId} (hs1:sz=1) (h:InvW c m σ a w) (hd:adOf σ.vs.length c.N o.dst=some t) (he:elemsV k sz l=some y) (hl:RepL w (MM c.Mc m.ow m.lo) l cs.toList) (hs:∀x∈l,x.size=sz)
  (hrun:(execOp a.eval o).run c.P w= .ok (.value (.slice (some ⟨w.heap.size,0,none⟩) l.length l.length)) (w.alloc (.cells cs e))):Fits c o a w (σ.put t (.row y)):=by
 have hsz:cs.size=l.length:=by
  have:=hl.len
  rw[sizeL_uniform hs,hs1]at this;simpa using this
 obtain⟨h1,g⟩:=h.fresh (some (.slot t.slot)) l.length (.cells cs e) (fun _ h=>by cases h) (fun h=>by cases h)
 have hr:Reads (w.alloc (.cells cs e)) (MM c.Mc (m.own1 w.heap.size (some (.slot t.slot)) l.length).ow (m.own1 w.heap.size (some (.slot t.slot)) l.length).lo) ⟨w.heap.size,0,none⟩ cs.toList:=by
  intro i v hv
  rw[addr_add,Nat.zero_add]
  have hi:=(List.getElem?_eq_some_iff.1 hv).1
  refine⟨cell_new (by simpa using hv),?_⟩
  rintro (hM|⟨_,hM⟩)
  ·have:=h.callers _ _ hM;have:=h.grown;simp at*;omega
  ·simp[Mem.own1]at hM hi;omega
 obtain⟨h2,h3⟩:=elems_rep he (hl.goes g) hs hr (Nat.le_refl _)
 refine Fits.val hrun (h1.put hd ⟨h2,w.heap.size,e,by rw[h3],by simp[Mem.own1],by simp[Mem.own1,h3],?_,fun j=>frozen_new⟩)
 rw[shape_new,h3,hsz]
theorem snd_buildR {ty e:TypeId} {len sz:Nat} {g:Bool} {ps:Array (Nat×Operand)} {as:List (Nat×AO)} {z:V} (h:InvW c m σ a w) (ho:o.op= .buildSlice ty len ps) (hu:c.P.underlying ty=some (.slice e)) (hz:zeroOk c.P e=some z) (hq:szAg c.P e=some (sz,g))
  (hlen:len*sz≤16777216) (hsz:sz≠0) (hzs:z.size=sz) (hps:aopsOf σ.vs.length ps.toList=some as) (hd:adOf σ.vs.length c.N o.dst=some t) {k:Option IntKind} (he:oBuildR k sz z len σ t (σ.parts as)=some (p,σ')):Fits c o a w σ':=by
 obtain⟨i,v,h1,h2,h3⟩:=zeroOk_spec hz
 obtain⟨i',d,q1,q2,q3,q4⟩:=szAg_spec hq
 rw[h1]at q1;cases q1
 cases hv:σ.parts as with
 |none=>simp[hv,oBuildR]at he
 |some vs=>
  rw[hv]at he;simp only[oBuildR]at he
  cases hf:fillV (some (.agg (List.replicate len z))) vs with
  |none=>simp[hf,oElemsR]at he
  |some z'=>
   rw[hf]at he
   cases z'<;>simp only[oElemsR]at he<;>try (cases he;done)
   rename_i l
   have hs1:sz=1:=by
    apply Classical.byContradiction;intro hc;rw[if_neg hc]at he;cases he
   rw[if_pos hs1]at he
   cases hE:elemsV k sz l with
   |none=>simp[hE,putO]at he
   |some y=>
    simp only[hE,Option.map_some,putO]at he;cases he
    obtain⟨h4,h5⟩:=parts_rep h hps hv
    have hzr:=(h3 w (MM c.Mc m.ow m.lo)).cells
    have hzl:v.cells.size=sz:=by have:=hzr.len;rw[hzs]at this;simpa using this
    have hz0:RepV w (MM c.Mc m.ow m.lo) (.agg (List.replicate len z)) ((Array.range (len*v.cells.size)).map (fun i=>v.cells[i % v.cells.size]!)).toList:=by
     simp only[RepV];rw[zeros_flat _ (by rw[hzl];exact hsz)];exact repL_replicate hzr len
    have hplace:∀i y,(V.agg (List.replicate len z)).sub [i]=some y→∃o,(V.agg (List.replicate len z)).off [i]=some o∧(fun i=>some (i*sz,sz)) i=some (o,y.size):=by
     intro i y hy
     simp only[V.sub]at hy
     cases hg:(List.replicate len z)[i]? with
     |none=>simp[hg]at hy
     |some y0=>
      simp[hg]at hy;subst hy
      have hlt:i < len:=by have:=(List.getElem?_eq_some_iff.1 hg).1;simpa using this
      have hyz:y0=z:=by rw[List.getElem?_replicate]at hg;simp[hlt]at hg;exact hg.symm
      subst hyz
      refine⟨i*sz,?_,by simp[hzs]⟩
      simp only[V.off,hg,Option.map_some,Nat.add_zero]
      rw[List.take_replicate,sizeL_replicate,Nat.min_eq_left (by omega),hzs]
    obtain⟨cells',h6,h7,h8⟩:=fill_rep hz0 hf hplace h4 h5
    simp only[V.same]at h8
    obtain⟨h9,h10⟩:=sameL_sizes h8
    have hl1:l.length=len:=by simpa using h9
    refine fits_rowR (e:=e) hs1 (cs:=cells') h hd hE (by simpa [RepV]using h7) (h10 sz (fun x hx=>by rw[List.eq_of_mem_replicate hx];exact hzs)) ?_
    unfold execOp;rw[ho];refine run_v ?_
    unfold Instr.buildSlice
    rw[run_bind (run_underlying hu)]
    simp only[]
    rw[run_bind (run_sizeOf h1),q3,if_neg (by omega)]
    have hA:∀f:Nat→Value,(Array.range 0).map f= #[]:=fun f=>by
     apply Array.toList_inj.1;simp
    have hB:(ps.map (fun (x:Nat×Operand)=>(x.1,a.eval x.2))).toList=ps.toList.map (fun (x:Nat×Operand)=>(x.1,a.eval x.2)):=Array.toList_map
    by_cases hl0:len=0
    ·have e0:len*sz=0:=by rw[hl0,Nat.zero_mul]
     rw[hl0,Nat.zero_mul,hA]at h6
     simp only[e0,if_true,Sem.run_bind,Sem.run_pure,Result.andThen_ok,hA]
     have:Instr.fill (fun i=>some (i*sz,sz)) #[] (ps.map (fun (x:Nat×Operand)=>(x.1,a.eval x.2))).toList=some cells':=by rw[hB];exact h6
     simp only[this,hl1]
     rfl
    ·have e0:len*sz≠0:=Nat.mul_ne_zero hl0 hsz
     simp only[e0,if_false,Sem.run_bind,run_zeroValue h1 h2,Sem.run_pure,Result.andThen_ok]
     rw[hzl]at h6
     have:Instr.fill (fun i=>some (i*sz,sz)) ((Array.range (len*sz)).map (fun i=>v.cells[i % sz]!)) (ps.map (fun (x:Nat×Operand)=>(x.1,a.eval x.2))).toList=some cells':=by rw[hB];exact h6
     simp only[hzl,this,hl1]
     rfl
theorem heap_freeze (w:World) (q:Addr) (n k:Nat) (h:k≠q.block):(w.freeze q n).heap[k]? =w.heap[k]? :=by
 unfold World.freeze
 split
 ·rfl
 ·simp only[Array.getElem?_modify];rw[if_neg (by omega)]
theorem size_freeze (w:World) (q:Addr) (n:Nat):(w.freeze q n).heap.size=w.heap.size:=by
 unfold World.freeze;split<;>simp
theorem cell_freeze (w:World) (q p:Addr) (n:Nat):(w.freeze q n).cell? p=w.cell? p:=by
 by_cases h:p.block=q.block
 ·unfold World.freeze
  split
  ·rfl
  ·unfold World.cell?
   simp only[Array.getElem?_modify]
   rw[if_pos h.symm]
   cases hb:w.heap[p.block]? with
   |none=>rfl
   |some ob=>cases ob<;>rfl
 ·exact World.cell?_of_block (heap_freeze w q n _ h)
theorem shape_freeze (w:World) (q:Addr) (n b:Nat):(w.freeze q n).shape? b=w.shape? b:=by
 by_cases h:b=q.block
 ·unfold World.freeze
  split
  ·rfl
  ·unfold World.shape?
   simp only[Array.getElem?_modify]
   rw[if_pos h.symm]
   cases hb:w.heap[b]? with
   |none=>rfl
   |some ob=>cases ob<;>rfl
 ·exact shape_of_heap (heap_freeze w q n _ h)
theorem frozen_freeze (w:World) (q:Addr) (n b j:Nat) (h:b≠q.block):(w.freeze q n).frozen? ⟨b,j,none⟩=w.frozen? ⟨b,j,none⟩:=by
 simp only[World.frozen?,heap_freeze w q n b h]
theorem InvW.marked {s b n : Nat} (h : InvW c m σ a w) (hn : NoOwn σ s) (ho : m.ow b = some (.slot s)) : InvW c m σ a (w.freeze ⟨b, n, none⟩ 1) := by
  have T : Tr c m w σ.L σ.G m (w.freeze ⟨b, n, none⟩ 1) σ.L σ.G (fun t => t = s) :=
    { goes := fun q v h1 h2 => ⟨by rw [cell_freeze]; exact h1, h2⟩
      shape := fun b' st hs => by rw [shape_freeze]; exact hs
      frz := fun b' _ hex j => frozen_freeze _ _ _ _ _ (fun e => by simp only at e; subst e; exact hex s ho rfl)
      lam := fun _ _ h => h
      locs := fun _ r _ _ h => ⟨r, h, V.same_refl _⟩
      objs := fun _ r h => ⟨r, h, V.same_refl _⟩
      own := fun _ _ _ h => ⟨h, rfl⟩
      ob := fun _ h => ⟨h, rfl⟩
      obN := fun _ h => .inl h }
  refine h.step T (some b) (fun b' e => by cases e; simp [ho]) (fun b' hb' hne => heap_freeze _ _ _ _ (fun e => hne (by rw [e]))) (by unfold World.freeze; split <;> rfl) (by unfold World.freeze; split <;> rfl) (by unfold World.freeze; split <;> rfl) (by rw [size_freeze]; exact Nat.le_refl _) (fun _ h => .inl h) h.lamL ?_ ?_ rfl ?_ ?_ h.holes
  · intro k' r' b' hk' hb'
    obtain ⟨h1, h2, h3, h4⟩ := h.boxes k' r' b' hk' hb'
    have hne : b' ≠ b := by
      intro e'; subst e'
      cases hfz : r'.fz with
      | false => have := (h3 hfz).1; rw [ho] at this; cases this
      | true => exact h4 hfz (m.lo b') (.inr ⟨by simp [ho], Nat.le_refl _⟩)
    exact ⟨h1.tr T.goes (fun s hs => T.shape _ _ hs) (fun j => frozen_freeze _ _ _ _ _ hne) (fun i v hv => by rw [cell_freeze]; exact hv), h2, h3, h4⟩
  · intro id x hx
    obtain ⟨h1, h2, h3⟩ := h.objs id x hx
    have hne : id ≠ b := by intro e; subst e; rw [ho] at h2; cases h2
    exact ⟨h1.tr T.goes (fun s hs => T.shape _ _ hs) (fun j => frozen_freeze _ _ _ _ _ hne) (fun i v hv => by rw [cell_freeze]; exact hv), h2, h3⟩
  · intro t d hd
    by_cases e : t = s
    · subst e; exact (h.envV t d hd).ofNoOwn T (fun y => ⟨fun hy => (hn.1 y).1 (by rw [hd, hy]), fun hy => (hn.1 y).2.1 (by rw [hd, hy]), fun hy => (hn.1 y).2.2 (by rw [hd, hy])⟩)
    · exact (h.envV t d hd).tr T e
  · intro t d hd
    obtain ⟨h1, h2, h3⟩ := h.envT t d hd
    refine ⟨h1, h2, ?_⟩
    by_cases e : t = s
    · subst e; exact h3.ofNoOwn T (fun y => ⟨fun hy => (hn.2 y).1 (by rw [hd, hy]), fun hy => (hn.2 y).2.1 (by rw [hd, hy]), fun hy => (hn.2 y).2.2 (by rw [hd, hy])⟩)
    · exact h3.tr T e
theorem snd_cvt {ty e:TypeId} {x:Operand} {ax:AO} (h:InvW c m σ a w) (ho:o.op= .convert ty ty x) (hu:c.P.underlying ty=some (.slice e)) (he8:c.P.underlying e=some (.int .u8))
  (hx:aoOf σ.vs.length x=some ax) (hd:adOf σ.vs.length c.N o.dst=some t) (he:oCvt ax σ t (σ.ev ax)=some (p,σ')):Fits c o a w σ':=by
 cases hX:σ.ev ax with
 |none=>simp[hX,oCvt]at he
 |some D0=>
  cases D0<;>simp only[hX,oCvt]at he<;>try (cases he;done)
  rename_i y
  cases he
  obtain⟨h1,b,e',h2,h3,h4,h5,h6⟩:=h.rd hx hX
  have hdrop:InvW c m (σ.put ax.ad (.v y)) a w:=h.reset hX fun _ _ hr=>hr.1
  have hnc:∀d,ax≠.c d:=by
   intro d e
   subst e
   simp only[St.ev]at hX;cases hX
   cases x with
   |const v=>
    simp only[aoOf]at hx
    cases hcd:constD v with
    |none=>simp[hcd]at hx
    |some d'=>
     simp[hcd]at hx;subst hx
     unfold constD at hcd;split at hcd<;>cases hcd
   |tmp j=>simp only[aoOf]at hx;split at hx<;>simp at hx
   |global j=>simp[aoOf]at hx
   |func j=>simp[aoOf]at hx
  have hm:=hdrop.marked (n:=y.len) (noOwn_drop h hnc (.inr hX)) h3
  refine Fits.val (v:=a.eval x) ?_ (InvW.put hm (by rw[St.put_len];exact hd) ?_)
  ·unfold execOp;rw[ho];refine run_v ?_
   rw[h2]
   unfold convert
   rw[run_bind (run_underlying hu),run_bind (run_underlying hu)]
   simp only[]
   rw[run_bind (run_underlying he8)]
   have hbe:(ty==ty)=true:=by simp
   rw[hbe]
   simp only[]
   have hsh:(shape b).run c.P w= .ok (some (e',y.len)) w:=by
    show Result.ok (w.shape? b) w=_;rw[h5]
   unfold markStringish
   rw[bind_assoc,run_bind hsh]
   rfl
  ·exact⟨h1.goes (fun q v h1 h2=>⟨by rw[cell_freeze];exact h1,h2⟩),_,_,h2,.inl rfl⟩
end ops
end Go.Abs
namespace Go.Abs
open Go Go.RowKit
set_option linter.unusedVariables false
set_option linter.unusedSimpArgs false
section ops
variable {c:Ctx} {m:Mem} {σ:St} {a:Act} {w:World} {o:Oper} {t:AD} {p:Prop} {σ':St}
theorem snd_capN {args:Array Operand} {tys:Array TypeId} {x:Operand} {ax:AO} {ty e:TypeId} (h:InvW c m σ a w) (ho:o.op= .call { callee:= .builtin .cap,args:=args,argTypes:=tys }) (ha:args.toList=[x]) (hty:tys[0]? =some ty)
  (hu:c.P.underlying ty=some (.slice e)) (hx:aoOf σ.vs.length x=some ax) (hd:adOf σ.vs.length c.N o.dst=some t)
  (he:putVO σ t (capO (asV (σ.ev ax)))=some (p,σ')):Fits c o a w σ':=by
 have hargs:args= #[x]:=Array.toList_inj.1 ha
 cases hX:asV (σ.ev ax)with
 |none=>simp[hX,capO,putVO]at he
 |some y=>
  rw[hX]at he
  have key:∀ad n cp,a.eval x= .slice ad n cp→(execOp a.eval o).run c.P w= .ok (.value (.int .i64 cp)) w:=by
   intro ad n cp h1
   unfold execOp;rw[ho]
   simp only[hargs,resolve,invoke,Sem.run_bind,Sem.run_pure,Result.andThen_ok,builtin,List.map_toArray,List.map_cons,List.map_nil,h1,Builtin.cap_,hty,List.getElem?_toArray,List.getElem?_cons_zero,run_underlying hu]
   rfl
  have hr:=h.rdV hx hX
  cases y<;>simp only[capO,putVO]at he<;>try (cases he;done)
  ·cases he
   have h1:a.eval x= .slice none 0 0:=by simpa [RepW,V.isAgg,RepV]using hr
   exact fits_put h hd (v:= .int .i64 0) (key _ _ _ h1) repW_int
  ·rename_i id sz off n cc
   cases he
   simp only[RepW,V.isAgg,Bool.false_eq_true,if_false,RepV]at hr
   obtain⟨_,ad,h1,_⟩:=hr
   have h1:a.eval x= .slice ad n cc:=by simpa using h1
   exact fits_put h hd (v:= .int .i64 _) (key _ _ _ h1) repW_int
theorem run_append_inZ {P:Program} {tys:Array TypeId} {ty e ty2 rt:TypeId} {ks kn:IntKind} {i:TypeInfo} {sz sLen sCap:Nat} {n:Int} {base:Option Addr} {zv:Value} {cs:List Value} {w w1:World}
  (h0:tys[0]? =some ty) (h1:tys[1]? =some ty2) (hu:P.underlying ty=some (.slice e)) (hu2:P.underlying ty2=some (.int ks)) (hi:P.info? e=some i) (hs:i.size=sz) (hz:i.zero=some zv) (hn0:0≤n) (hb:i.bytes≠0) (hnb:n*i.bytes≤140737488355328)
  (hcs:(Builtin.zeroCells zv.cells n.toNat).toList=cs) (hzc:zv.cells.size=sz) (hn:sLen+n.toNat≤sCap)
  (hst:∀q,base=some q→(storeCells (q.add (sLen*sz)) cs).run P w= .ok () w1) (hw:base=none→w1=w):
  (Builtin.append_ tys rt #[.slice base sLen sCap,.int kn n]).run P w= .ok (.slice base (sLen+n.toNat) sCap) w1:=by
 have hn1:n≤140737488355328:=by
  have:n*1≤n*i.bytes:=Int.mul_le_mul_of_nonneg_left (by omega) hn0
  omega
 have hwr:IntKind.i64.wrap n=n:=wrap_small hn0 hn1
 have hc1:¬(n < 0):=by omega
 have hc2:¬(n*(i.bytes:Int) > 2 ^ 48):=by
  have:(2:Int) ^ 48=281474976710656:=by decide
  omega
 unfold Builtin.append_
 simp only[h0,h1,List.getElem?_toArray,List.getElem?_cons_zero,List.getElem?_cons_succ,Sem.run_bind,run_underlying hu,run_underlying hu2,Result.andThen_ok,Sem.run_pure,run_sizeOf hi,hs,if_true,asInt,asIntOf,hwr,hc1,if_false,run_typeInfo hi,hc2,hn,Bool.not_true,Bool.false_eq_true]
 have happ:∀w',(if n.toNat*sz=0 then (pure #[]:Sem (Array Value))else (do pure (Builtin.zeroCells (←zeroValue e).cells n.toNat))).run P w'= .ok cs.toArray w':=by
  intro w'
  split
  ·rename_i hq
   have:cs=[]:=by rw[←hcs];simp[Builtin.zeroCells,hzc,hq]
   subst this;rfl
  ·rw[run_bind (run_zeroValue hi hz)];rw[←hcs];simp[Sem.run_pure]
 simp only[happ,Result.andThen_ok]
 cases base with
 |none=>rw[hw rfl];rfl
 |some q=>simp only[Sem.run_bind,hst q rfl,Result.andThen_ok];rfl
theorem run_append_newZ {P:Program} {tys:Array TypeId} {ty e ty2 rt:TypeId} {ks kn:IntKind} {i:TypeInfo} {sz sLen sCap:Nat} {n:Int} {base:Option Addr} {zv:Value} {cs old:List Value} {w:World}
  (h0:tys[0]? =some ty) (h1:tys[1]? =some ty2) (hu:P.underlying ty=some (.slice e)) (hu2:P.underlying ty2=some (.int ks)) (hi:P.info? e=some i) (hs:i.size=sz) (hz:i.zero=some zv) (hn0:0≤n) (hb:i.bytes≠0) (hnb:n*i.bytes≤140737488355328)
  (hcs:(Builtin.zeroCells zv.cells n.toNat).toList=cs) (hzc:zv.cells.size=sz) (hn:¬sLen+n.toNat≤sCap)
  (hroom:(sLen+n.toNat)*i.bytes≤140737488355328) (hold:∀q,base=some q→Cells w q old) (hol:old.length=sLen*sz) (hnone:base=none→sLen=0):
  ∃newCap,sLen+n.toNat≤newCap∧(Builtin.append_ tys rt #[.slice base sLen sCap,.int kn n]).run P w=
   .ok (.slice (some ⟨w.heap.size,0,none⟩) (sLen+n.toNat) newCap) (World.alloc { w with drawn:=w.drawn+1 } (.cells (old.toArray++cs.toArray++Builtin.zeroCells zv.cells (newCap-(sLen+n.toNat))) e)):=by
 have hn1:n≤140737488355328:=by
  have:n*1≤n*i.bytes:=Int.mul_le_mul_of_nonneg_left (by omega) hn0
  omega
 have hwr:IntKind.i64.wrap n=n:=wrap_small hn0 hn1
 have hc1:¬(n < 0):=by omega
 have hc0:¬(n*(i.bytes:Int) > 2 ^ 48):=by
  have:(2:Int) ^ 48=281474976710656:=by decide
  omega
 have hb1:1≤i.bytes:=by omega
 have hneed:sLen+n.toNat≤140737488355328:=Nat.le_trans (Nat.le_mul_of_pos_right _ hb1) hroom
 have hcap:Builtin.nextslicecap (sLen+n.toNat) sCap*i.bytes≤281474976710656:=by
  have h1:=cap_bound (sLen+n.toNat) sCap (by omega)
  have h2:Builtin.nextslicecap (sLen+n.toNat) sCap*i.bytes≤2*(sLen+n.toNat)*i.bytes:=Nat.mul_le_mul_right _ h1
  have h3:2*(sLen+n.toNat)*i.bytes=2*((sLen+n.toNat)*i.bytes):=by rw[Nat.mul_assoc]
  omega
 let q:Question:= .appendCap (sLen+n.toNat) sCap e
 have hq:sLen+n.toNat≤q.cut (w.tape w.drawn q):=by show sLen+n.toNat≤sLen+n.toNat+_;omega
 refine⟨q.cut (w.tape w.drawn q),hq,?_⟩
 have hmax:¬(((sLen+n.toNat:Nat):Int) > IntKind.i64.max):=by
  show ¬(_ > (9223372036854775807:Int));omega
 have hc2:¬(Builtin.nextslicecap (sLen+n.toNat) sCap*i.bytes > 2 ^ 48):=by
  have:(2:Nat) ^ 48=281474976710656:=by decide
  omega
 have hask:∀(b:Nat) (w':World),(askRoom b).run P w'= .ok () w':=by
  intro b w';unfold askRoom;split<;>rfl
 have hold1:(Builtin.firstCells sz sLen (.slice base sLen sCap)).run P { w with drawn:=w.drawn+1 }= .ok old.toArray { w with drawn:=w.drawn+1 }:=by
  cases base with
  |none=>
   have:old=[]:=by apply List.eq_nil_of_length_eq_zero;rw[hol,hnone rfl,Nat.zero_mul]
   subst this;rfl
  |some q'=>
   simp only[Builtin.firstCells]
   rw[←hol]
   refine run_loadCells' (fun j v hv=> ?_)
   have:=hold q' rfl j v hv
   simpa [World.cell?]using this
 have hzr:(zeroValue e).run P { w with drawn:=w.drawn+1 }= .ok zv { w with drawn:=w.drawn+1 }:=run_zeroValue hi hz
 have hch2:(choose (.appendCap (sLen+n.toNat) sCap e)).run P w= .ok (q.cut (w.tape w.drawn q)) { w with drawn:=w.drawn+1 }:=rfl
 have hmax':(((sLen+n.toNat:Nat):Int) > IntKind.i64.max)=False:=eq_false hmax
 have hc2':(Builtin.nextslicecap (sLen+n.toNat) sCap*i.bytes > 2 ^ 48)=False:=eq_false hc2
 have happ:∀w',(if n.toNat*sz=0 then (pure #[]:Sem (Array Value))else (do pure (Builtin.zeroCells (←zeroValue e).cells n.toNat))).run P w'= .ok cs.toArray w':=by
  intro w'
  split
  ·rename_i hq
   have:cs=[]:=by rw[←hcs];simp[Builtin.zeroCells,hzc,hq]
   subst this;rfl
  ·rw[run_bind (run_zeroValue hi hz)];rw[←hcs];simp[Sem.run_pure]
 unfold Builtin.append_
 simp only[h0,h1,List.getElem?_toArray,List.getElem?_cons_zero,List.getElem?_cons_succ,Sem.run_bind,run_underlying hu,run_underlying hu2,Result.andThen_ok,Sem.run_pure,run_sizeOf hi,hs,if_true,asInt,asIntOf,hwr,hc1,if_false,run_typeInfo hi,hc0,hn,Bool.not_true,Bool.false_eq_true,
  hmax',false_and,hc2',hch2,hask,hold1,happ,hzr]
 rfl
theorem snd_appZ {args:Array Operand} {tys:Array TypeId} {x y:Operand} {ax ay:AO} {ty ty2 e:TypeId} {ks:IntKind} {k:Option IntKind} {sz:Nat} {g:Bool} {i:TypeInfo} {z:V} (h:InvW c m σ a w)
  (ho:o.op= .call { callee:= .builtin .append,args:=args,argTypes:=tys }) (ha:args.toList=[x,y]) (h0:tys[0]? =some ty) (h1:tys[1]? =some ty2) (hu:c.P.underlying ty=some (.slice e)) (hu2:c.P.underlying ty2=some (.int ks))
  (hq:szAg c.P e=some (sz,g)) (hi:c.P.info? e=some i) (hz:zeroOk c.P e=some z) (hsz:sz≠0) (hzs:z.size=sz) (hb:i.bytes≠0) (hk:∀k',k=some k'→sz=1∧z= .int k' 0)
  (hx:aoOf σ.vs.length x=some ax) (hy:aoOf σ.vs.length y=some ay) (hd:adOf σ.vs.length c.N o.dst=some t) (he:oAppZ k sz i.bytes z ax σ t (σ.ev ax) (asI (σ.ev ay))=some (p,σ')) (hp:p):Fits c o a w σ':=by
 have hargs:args= #[x,y]:=Array.toList_inj.1 ha
 cases hX:σ.ev ax with
 |none=>simp[hX,oAppZ]at he
 |some D0=>
  cases D0<;>simp only[hX,oAppZ]at he<;>try (cases he;done)
  rename_i A
  cases hY:asI (σ.ev ay)with
  |none=>simp[hY]at he
  |some n=>
   simp only[hY]at he
   cases hC:catV k sz A (zerosV k sz z n.toNat)with
   |none=>simp[hC,oAppZ2]at he
   |some Z=>
    simp only[hC,oAppZ2]at he;cases he
    obtain⟨hn0,hlim⟩:=hp
    obtain⟨kn,hkn⟩:=h.rdI hy hY
    obtain⟨i'',zv,z1,z2,z3⟩:=zeroOk_spec hz
    rw[hi]at z1;cases z1
    obtain⟨i',dd,q1,q2,q3,q4⟩:=szAg_spec hq
    rw[hi]at q1;cases q1
    have hzr:=(z3 w (MM c.Mc m.ow m.lo)).cells
    have hzl:zv.cells.size=sz:=by have:=hzr.len;rw[hzs]at this;simpa using this
    obtain⟨hE,hEl,hEs,hEt⟩:=zerosV_elems (n:=n.toNat) hzr hk hzs
    obtain⟨c1,c2,c3,c4,c5⟩:=catV_spec (w:=w) (M:=MM c.Mc m.ow m.lo) hC (fun k' hk'=>(hk k' hk').1)
    have hlS:(zerosV k sz z n.toNat).lenS=n.toNat:=by
     have e1:(zerosV k sz z n.toNat).lenS=(zerosV k sz z n.toNat).len:=by unfold zerosV;split<;>rfl
     rw[e1,hEl]
    have hflat:(Builtin.zeroCells zv.cells n.toNat).toList=(List.replicate n.toNat zv.cells.toList).flatten:=zeros_flat zv.cells (by rw[hzl];exact hsz) n.toNat
    have hnb:n*i.bytes≤140737488355328:=by
     have e1:(n.toNat:Int)=n:=by omega
     have e2:n≤Z.len:=by rw[c4,hlS];omega
     have:=Int.mul_le_mul_of_nonneg_right e2 (show (0:Int)≤i.bytes by omega)
     omega
    refine app_core h ho (by rw[hargs,List.map_toArray,List.map_cons,List.map_cons,List.map_nil]) hu hq hi hz hsz hzs hb (fun k' hk'=>(hk k' hk').1) hx hd hE
     (fun base sLen sCap w1 hin hst hw=> ?_) (fun base sLen sCap old zv' hzv hn hroom hold hol hnone=> ?_) hX hC hlim
    ·rw[hkn,hlS];rw[hlS]at hin
     exact run_append_inZ h0 h1 hu hu2 hi q3 z2 hn0 hb hnb hflat hzl hin hst hw
    ·rw[z2]at hzv;cases hzv
     rw[hkn,hlS];rw[hlS]at hn hroom
     exact run_append_newZ h0 h1 hu hu2 hi q3 z2 hn0 hb hnb hflat hzl hn hroom hold hol hnone
end ops
end Go.Abs
namespace Go.Abs
open Go Go.RowKit
set_option linter.unusedVariables false
set_option linter.unusedSimpArgs false
section ops
variable {c:Ctx} {m:Mem} {σ:St} {a:Act} {w:World} {o:Oper} {t:AD} {p:Prop} {σ':St}
theorem snd_appG {args:Array Operand} {tys:Array TypeId} {x y:Operand} {ax ay:AO} {ty ty2 e:TypeId} {ks:IntKind} {k:Option IntKind} {sz:Nat} {g:Bool} {i:TypeInfo} {z:V} (h:InvW c m σ a w)
  (ho:o.op= .call { callee:= .builtin .append,args:=args,argTypes:=tys }) (ha:args.toList=[x,y]) (h0:tys[0]? =some ty) (h1:tys[1]? =some ty2) (hu:c.P.underlying ty=some (.slice e)) (hu2:c.P.underlying ty2=some (.int ks))
  (hq:szAg c.P e=some (sz,g)) (hi:c.P.info? e=some i) (hz:zeroOk c.P e=some z) (hsz:sz≠0) (hzs:z.size=sz) (hb:i.bytes≠0) (hk:∀k',k=some k'→sz=1∧z= .int k' 0)
  (hx:aoOf σ.vs.length x=some ax) (hy:aoOf σ.vs.length y=some ay) (hd:adOf σ.vs.length c.N o.dst=some t) (he:oAppG k sz i.bytes z σ t (asV (σ.ev ax)) (asI (σ.ev ay))=some (p,σ')) (hp:p):Fits c o a w σ':=by
 have hargs:args= #[x,y]:=Array.toList_inj.1 ha
 cases hX:asV (σ.ev ax)with
 |none=>simp[hX,oAppG]at he
 |some A=>
  rw[hX]at he
  cases A<;>simp only[oAppG]at he<;>try (cases he;done)
  cases hY:asI (σ.ev ay)with
  |none=>simp[hY]at he
  |some n=>
   simp only[hY]at he
   cases he
   obtain⟨hn0,hlim⟩:=hp
   obtain⟨kn,hkn⟩:=h.rdI hy hY
   have hxv:a.eval x= .slice none 0 0:=by
    have:=h.rdV hx hX
    simpa [RepW,V.isAgg,RepV]using this
   obtain⟨i'',zv,z1,z2,z3⟩:=zeroOk_spec hz
   rw[hi]at z1;cases z1
   obtain⟨i',dd,q1,q2,q3,q4⟩:=szAg_spec hq
   rw[hi]at q1;cases q1
   have hzr:=(z3 w (MM c.Mc m.ow m.lo)).cells
   have hzl:zv.cells.size=sz:=by have:=hzr.len;rw[hzs]at this;simpa using this
   obtain⟨hE,hEl,hEs,hEt⟩:=zerosV_elems (n:=0) hzr hk hzs
   have hroom:(0+n.toNat)*i.bytes≤140737488355328:=by
    rw[Nat.zero_add]
    have e1:(n.toNat:Int)=n:=by omega
    have:((n.toNat*i.bytes:Nat):Int)≤140737488355328:=by rw[Int.natCast_mul,e1];exact hlim
    omega
   obtain⟨newCap,hnc,hrunN⟩:=run_append_newZ (P:=c.P) (tys:=tys) (rt:=o.type) (sLen:=0) (sCap:=0) (base:=none) (old:=[]) (kn:=kn) (w:=w) h0 h1 hu hu2 hi q3 z2 (by omega) hb hlim rfl hzl (by omega) hroom (fun _ h=>by cases h) (by simp) (fun _=>rfl)
   rw[Nat.zero_add]at hnc hrunN
   have hdr:=h.drew 1
   obtain⟨hfr,gfr⟩:=hdr.fresh (some (.slot t.slot)) 0 (.cells (([]:List Value).toArray++(Builtin.zeroCells zv.cells n.toNat).toList.toArray++Builtin.zeroCells zv.cells (newCap-n.toNat)) e) (fun _ h=>by cases h) (fun h=>by cases h)
   have g0:Goes w (MM c.Mc m.ow m.lo) { w with drawn:=w.drawn+1 } (MM c.Mc m.ow m.lo):=fun _ _ h1 h2=>⟨h1,h2⟩
   have gall:=g0.trans gfr
   have hsize:(([]:List Value).toArray++(Builtin.zeroCells zv.cells n.toNat).toList.toArray++Builtin.zeroCells zv.cells (newCap-n.toNat)).size=newCap*sz:=by
    simp only[Array.size_append,List.size_toArray,List.length_nil,Array.length_toList,zeroCells_length,hzl]
    rw[Nat.zero_add,←Nat.add_mul];congr 1;omega
   refine Fits.val (v:= .slice (some ⟨w.heap.size,0,none⟩) n.toNat newCap) ?_ (InvW.put hfr hd ?_)
   ·have hA:(args.map a.eval)= #[.slice none 0 0,.int kn n]:=by rw[hargs,List.map_toArray,List.map_cons,List.map_cons,List.map_nil,hxv,hkn]
    unfold execOp;rw[ho]
    simp only[resolve,invoke,Sem.run_bind,Sem.run_pure,Result.andThen_ok,builtin,hA]
    rw[hrunN];rfl
   ·refine⟨some ⟨w.heap.size,0,none⟩,n.toNat,newCap,rfl,by rw[hEl];omega,hnc,?_,some ⟨w.heap.size,0,none⟩,newCap,rfl,.inr ⟨w.heap.size,0,e,by rw[hEt];exact hsz,rfl,by simp[Mem.own1],by simp[Mem.own1,hEl],?_,fun j _=>frozen_new (w:={ w with drawn:=w.drawn+1 })⟩⟩
    ·have hr0:Reads (World.alloc { w with drawn:=w.drawn+1 } (.cells (([]:List Value).toArray++(Builtin.zeroCells zv.cells n.toNat).toList.toArray++Builtin.zeroCells zv.cells (newCap-n.toNat)) e)) (MM c.Mc (m.own1 w.heap.size (some (.slot t.slot)) 0).ow (m.own1 w.heap.size (some (.slot t.slot)) 0).lo) ⟨w.heap.size,0,none⟩ (List.replicate 0 zv.cells.toList).flatten:=by
      intro j v hv;simp at hv
     exact (hE.goes gall).row hEs (by unfold zerosV;split<;>simp) hr0 (by rw[hEl];omega)
    ·rw[Nat.zero_add,hEt,←hsize];exact shape_new (w:={ w with drawn:=w.drawn+1 })
theorem snd_cutG {ty e:TypeId} {sz:Nat} {g:Bool} {x hi:Operand} {ax ah:AO} (h:InvW c m σ a w) (ho:o.op= .slice ty x none (some hi) none) (hu:c.P.underlying ty=some (.slice e)) (hs:szAg c.P e=some (sz,g))
  (hx:aoOf σ.vs.length x=some ax) (hh:aoOf σ.vs.length hi=some ah) (hd:adOf σ.vs.length c.N o.dst=some t)
  (he:oCutG sz ax σ t (σ.ev ax) (asI (σ.ev ah))=some (p,σ')) (hp:p):Fits c o a w σ':=by
 obtain⟨i,d,q1,q2,q3,q4⟩:=szAg_spec hs
 cases hX:σ.ev ax with
 |none=>simp[hX,oCutG]at he
 |some D0=>
  rw[hX]at he
  cases D0<;>simp only[oCutG]at he<;>try (cases he;done)
  rename_i y
  cases hY:asI (σ.ev ah)with
  |none=>simp[hY]at he
  |some j=>
   simp only[hY]at he
   split at he
   ·rename_i hst
    cases he
    obtain⟨kj,hkj⟩:=h.rdI hh hY
    obtain⟨ad,L,cap,hv,hl1,hl2,hrep,hsp⟩:=h.rd hx hX
    have hnc:∀d,ax≠.c d:=by
     intro d e
     subst e
     simp only[St.ev]at hX;cases hX
     cases x with
     |const v=>
      simp only[aoOf]at hx
      cases hcd:constD v with
      |none=>simp[hcd]at hx
      |some d'=>
       simp[hcd]at hx;subst hx
       unfold constD at hcd;split at hcd<;>cases hcd
     |tmp j=>simp only[aoOf]at hx;split at hx<;>simp at hx
     |global j=>simp[aoOf]at hx
     |func j=>simp[aoOf]at hx
    have hdrop:InvW c m (σ.put ax.ad .jk) a w:=h.reset hX fun _ _ _=>trivial
    have hno:=noOwn_put (d1:= .jk) h hnc hX (fun y=>⟨nofun,nofun,nofun⟩)
    have hren:=hdrop.rename t.slot hno
    refine Fits.val (v:= .slice ad y.len cap) ?_ (InvW.put hren (by rw[St.put_len];exact hd) ?_)
    ·unfold execOp;rw[ho];refine run_v ?_
     rw[hv];unfold Instr.sliceAt
     rw[run_bind (run_underlying hu)];simp only[]
     unfold Instr.slice
     rw[run_bind (run_underlying hu)];simp only[]
     have hb:=run_bounds2 (P:=c.P) (isS:=true) (len:=L) (cap:=cap) (lo:=none) (hi:=some hi) (l:=0) (hh:=(y.len:Int)) (w:=w) (a:=a) (.inl ⟨rfl,rfl⟩) (.inr ⟨hi,kj,rfl,by rw[hkj,hp]⟩) (by omega) (by omega) (by omega)
     rw[Option.map_none]at hb
     rw[Option.map_none,run_bind hb]
     simp only[]
     rw[run_bind (run_sizeOf q1),q3]
     have e0:∀b:Addr,b.add 0=b:=fun b=>by cases b;rfl
     cases ad<;>simp[e0]<;>rfl
    ·rw[St.put_L,St.put_G]
     exact own_give ⟨hrep,hsp⟩
   ·cases he
end ops
end Go.Abs
namespace Go.Abs
open Go Go.RowKit
set_option linter.unusedVariables false
set_option linter.unusedSimpArgs false
def RepR (w:World) (M:Nat→Nat→Prop) (ow:Nat→Option Place) (lo:Nat→Nat):R→Value→Prop
 | .v x,v=>RepW w M x v
 | .own x,v=>RepW w M x v∧∃t,Spare w ow lo t x v
 | .tup l,v=>∃vs,v= .tuple vs∧vs.size=l.length∧∀(i:Nat) x,l[i]? =some x→∃u,vs[i]? =some u∧RepW w M x u
def owB (B:Nat→Bool) (b:Nat):Option Place:=if B b=true then some .obj else none
def MB (Mc:Nat→Nat→Prop) (B:Nat→Bool):Nat→Nat→Prop:=MM Mc (owB B) (fun _=>0)
structure Start (E:Env) (Mc:Nat→Nat→Prop) (B:Nat→Bool) (w:World) (G:List (Nat×V)):Prop where
 callers:∀b o,Mc b o→b < w.heap.size
 sep:∀b o,Mc b o→B b=false
 blk:∀b,B b=true→b < w.heap.size
 objs:∀id x,look G id=some x→BoxAt w (MB Mc B) id x∧B id=true
 tabs:∀g x,look E.tab g=some x→∃cs,Reads w (MB Mc B) ⟨g,0,none⟩ cs∧RepV w (MB Mc B) x cs
structure Ended (Mc:Nat→Nat→Prop) (B:Nat→Bool) (w:World) (G:List (Nat×V)) (m':Mem) (w':World) (G':List (Nat×V)):Prop where
 os:w'.os=w.os
 tape:w'.tape=w.tape
 output:w'.output=w.output
 grown:w.heap.size≤w'.heap.size
 old:∀b,b < w.heap.size→B b=false→w'.heap[b]? =w.heap[b]?
 oldB:∀b s,B b=true→w.shape? b=some s→w'.shape? b=some s∧∀j,w'.frozen? ⟨b,j,none⟩=w.frozen? ⟨b,j,none⟩
 mine:∀b,(m'.ow b).isSome=true→b < w'.heap.size∧(w.heap.size≤b∨B b=true)
 blks:∀b,B b=true→m'.ow b=some .obj
 objlo:∀b,m'.ow b=some .obj→m'.lo b=0
 objs:∀id x,look G' id=some x→BoxAt w' (MM Mc m'.ow m'.lo) id x∧m'.ow id=some .obj
 objs0:∀id r,look G id=some r→∃r',look G' id=some r'∧r.same r'=true
def Ret (E:Env) (g:Nat) (vs:List V) (G:List (Nat×V)) (Q:R→List (Nat×V)→Prop):Prop:=
 ∀(Mc:Nat→Nat→Prop) (B:Nat→Bool) (w:World) (args:Array Value),Start E Mc B w G→args.size=vs.length→
  (∀(i:Nat) x,vs[i]? =some x→∃v,args[i]? =some v∧RepW w (MB Mc B) x v)→
  Calls E.P g args w (fun e w'=>∃v r G' m',e= .returned v∧Q r G'∧Ended Mc B w G m' w' G'∧RepR w' (MM Mc m'.ow m'.lo) m'.ow m'.lo r v)
def Spec.Sound (E:Env) (C:Spec):Prop:=∀g vs G Q,C g vs G Q→Ret E g vs G Q
/-! ### a call -/
def backMem (m m':Mem) (w:World) (t s:Nat):Mem:=
  { lam:=m.lam
    ow:=fun b=>if b < w.heap.size then m.ow b else match m'.ow b with
      |some .obj=>some .obj
      |some (.slot t')=>if t'=t then some (.slot s)else none
      |_=>none
    lo:=fun b=>if b < w.heap.size then m.lo b else m'.lo b }
def goB (m:Mem) (b:Nat):Bool:=decide (m.ow b=some .obj)
def goM (c:Ctx) (m:Mem) (b o:Nat):Prop:=MM c.Mc m.ow m.lo b o∧m.ow b≠some .obj
theorem goMM {c m σ a w} (h:InvW c m σ a w):MB (goM c m) (goB m)=MM c.Mc m.ow m.lo:=by
 funext b o
 simp only[MB,MM,goM,owB,goB,decide_eq_true_eq,Nat.zero_le,and_true,eq_iff_iff]
 by_cases hb:m.ow b=some .obj
 ·simp[hb,h.objlo b hb]
 ·simp[hb]
theorem start_of {E:Env} {c m σ a w} (h:InvW c m σ a w) (ht:c.tab=E.tab):Start E (goM c m) (goB m) w σ.G where
 callers:=by
  rintro b o ⟨h1|⟨h1,_⟩,_⟩
  ·have:=h.callers b o h1;have:=h.grown;omega
  ·exact (h.mine b h1).1
 sep:=fun b o h1=>by simp only[goB,decide_eq_false_iff_not];exact h1.2
 blk:=fun b hb=>by
  simp only[goB,decide_eq_true_eq]at hb
  exact (h.mine b (by simp[hb])).1
 objs:=fun id x hx=>by
  rw[goMM h]
  obtain⟨h1,h2,_⟩:=h.objs id x hx
  exact⟨h1,by simp[goB,h2]⟩
 tabs:=fun g x hx=>by rw[goMM h];exact h.tabs g x (by rw[ht];exact hx)
theorem cell_of_heap {w w':World} {q:Addr} (h:w'.heap[q.block]? =w.heap[q.block]?):w'.cell? q=w.cell? q:=by simp[World.cell?,h]
theorem InvW.back {c m σ a w} (h : InvW c m σ a w) {m' : Mem} {w' : World} {G' : List (Nat × V)} (he : Ended (goM c m) (goB m) w σ.G m' w' G') (t s : Nat) :
    InvW c (backMem m m' w t s) { σ with G := G' } a w' ∧ Goes w' (MM (goM c m) m'.ow m'.lo) w' (MM c.Mc (backMem m m' w t s).ow (backMem m m' w t s).lo) := by
  have hB : ∀ b, goB m b = false ↔ m.ow b ≠ some .obj := fun b => by simp [goB]
  have hBt : ∀ b, goB m b = true ↔ m.ow b = some .obj := fun b => by simp [goB]
  have hMold : ∀ b o, b < w.heap.size → (MM c.Mc (backMem m m' w t s).ow (backMem m m' w t s).lo b o ↔ MM c.Mc m.ow m.lo b o) := by
    intro b o hb; simp only [MM, backMem, if_pos hb]
  have hnob : ∀ b o, ¬ MM c.Mc m.ow m.lo b o → m.ow b ≠ some .obj := fun b o hM hb => hM (.inr ⟨by simp [hb], by rw [h.objlo b hb]; exact Nat.zero_le _⟩)
  have hsub : ∀ b o, MM c.Mc (backMem m m' w t s).ow (backMem m m' w t s).lo b o → MM (goM c m) m'.ow m'.lo b o := by
    rintro b o (h1 | ⟨h1, h2⟩)
    · refine .inl ⟨.inl h1, fun hb => ?_⟩
      exact (h.mine b (by simp [hb])).2.2 o h1
    · simp only [backMem] at h1 h2
      by_cases hb : b < w.heap.size
      · rw [if_pos hb] at h1 h2
        by_cases ho : m.ow b = some .obj
        · have := he.blks b ((hBt b).2 ho)
          exact .inr ⟨by simp [this], by rw [he.objlo b this]; exact Nat.zero_le _⟩
        · exact .inl ⟨.inr ⟨h1, h2⟩, ho⟩
      · rw [if_neg hb] at h1 h2
        refine .inr ⟨?_, h2⟩
        split at h1 <;> rename_i e
        · simp [e]
        · simp [e]
        · simp at h1
  have gsub : Goes w' (MM (goM c m) m'.ow m'.lo) w' (MM c.Mc (backMem m m' w t s).ow (backMem m m' w t s).lo) := fun q v h1 h2 => ⟨h1, fun h3 => h2 (hsub _ _ h3)⟩
  have g : Goes w (MM c.Mc m.ow m.lo) w' (MM c.Mc (backMem m m' w t s).ow (backMem m m' w t s).lo) := by
    intro q v hq hM
    have hlt := cell_lt hq
    exact ⟨by rw [cell_of_heap (he.old _ hlt ((hB _).2 (hnob _ _ hM)))]; exact hq, fun h3 => hM ((hMold _ _ hlt).1 h3)⟩
  have hshape : ∀ b st, w.shape? b = some st → w'.shape? b = some st := by
    intro b st hs
    cases hb : goB m b with
    | true => exact (he.oldB b st hb hs).1
    | false => rw [shape_of_heap (he.old b (shape_lt hs) hb)]; exact hs
  have hfrz : ∀ b, (w.shape? b).isSome = true → ∀ j, w'.frozen? ⟨b, j, none⟩ = w.frozen? ⟨b, j, none⟩ := by
    intro b hb j
    cases hs : w.shape? b with
    | none => simp [hs] at hb
    | some st =>
      cases hb : goB m b with
      | true => exact (he.oldB b st hb hs).2 j
      | false => simp [World.frozen?, he.old b (shape_lt hs) hb]
  have hsame : ∀ b pl, m.ow b = some pl → (backMem m m' w t s).ow b = some pl ∧ (backMem m m' w t s).lo b = m.lo b := by
    intro b pl hb
    have := (h.mine b (by simp [hb])).1
    simp only [backMem, if_pos this]; exact ⟨hb, trivial⟩
  have T : Tr c m w σ.L σ.G (backMem m m' w t s) w' σ.L G' (fun _ => False) :=
    { goes := g
      shape := hshape
      frz := fun b hb _ => hfrz b hb
      lam := fun _ _ h => h
      locs := fun _ r _ _ h => ⟨r, h, V.same_refl _⟩
      objs := he.objs0
      own := fun _ _ b hb => hsame b _ hb
      ob := fun b hb => hsame b _ hb
      obN := fun b hb => by
        simp only [backMem] at hb ⊢
        by_cases hlt : b < w.heap.size
        · rw [if_pos hlt] at hb; exact .inl hb
        · rw [if_neg hlt] at hb ⊢
          split at hb <;> rename_i e
          · exact .inr (he.objlo b e)
          · split at hb <;> cases hb
          · cases hb }
  refine ⟨?_, gsub⟩
  refine h.stepX T (fun b => m.ow b = some .obj) (fun b hb => by simp [hb]) (fun b hb hn => he.old b hb ((hB b).2 hn)) he.os he.tape he.output he.grown (fun b hb => ?_) h.lamL ?_ ?_ rfl ?_ ?_ h.holes
  · simp only [backMem] at hb
    by_cases hlt : b < w.heap.size
    · rw [if_pos hlt] at hb; exact .inl hb
    · rw [if_neg hlt] at hb
      refine .inr ⟨by omega, ?_⟩
      split at hb <;> rename_i e
      · exact (he.mine b (by simp [e])).1
      · exact (he.mine b (by simp [e])).1
      · simp at hb
  · intro k r b hk hb
    obtain ⟨h1, h2, h3, h4⟩ := h.boxes k r b hk hb
    have hbl := h1.lt
    have hno : m.ow b ≠ some .obj := by
      cases hf : r.fz with
      | false => rw [(h3 hf).1]; simp
      | true => exact hnob b 0 (h4 hf 0)
    have hh := he.old b hbl ((hB b).2 hno)
    refine ⟨h1.tr g (fun _ => hshape _ _) (fun j => by simp [World.frozen?, hh]) (fun i v hv => by rw [cell_of_heap hh]; exact hv), h2, fun hf => ?_, fun hf o hM => h4 hf o ((hMold _ _ hbl).1 hM)⟩
    obtain ⟨h5, h6⟩ := h3 hf
    obtain ⟨h7, h8⟩ := hsame b _ h5
    exact ⟨h7, h8.trans h6⟩
  · intro id x hx
    obtain ⟨h1, h2⟩ := he.objs id x hx
    have h3 := he.objlo id h2
    refine ⟨h1.tr gsub (fun _ h => h) (fun _ => rfl) (fun _ _ h => h), ?_⟩
    by_cases hlt : id < w.heap.size
    · have : goB m id = true := by
        rcases (he.mine id (by simp [h2])).2 with h4 | h4
        · omega
        · exact h4
      have ho := (hBt id).1 this
      obtain ⟨h7, h8⟩ := hsame id _ ho
      exact ⟨h7, h8.trans (h.objlo id ho)⟩
    · simp only [backMem, if_neg hlt, h2]; exact ⟨trivial, h3⟩
  · intro t d hd
    exact (h.envV t d hd).tr T (fun h => h)
  · intro t d hd
    obtain ⟨h1, h2, h3⟩ := h.envT t d hd
    exact ⟨h1, h2, h3.tr T (fun h => h)⟩
theorem call_soundA {E : Env} {C : Spec} (hC : C.Sound E) {c m σ a w} (h : InvW c m σ a w) (hP : c.P = E.P) (ht : c.tab = E.tab) {g : Nat} {args : Array Value} {vs : List V} {dst : Option Tmp} {t : AD} {K : St → Prop}
    (h1 : args.size = vs.length) (h2 : ∀ (i : Nat) x, vs[i]? = some x → ∃ v, args[i]? = some v ∧ RepW w (MM c.Mc m.ow m.lo) x v) (hd : adOf σ.vs.length c.N dst = some t) (hc : callK C g vs K σ t) :
    Calls E.P g args w (fun e w' => ∃ v σ' m', e = .returned v ∧ K σ' ∧ InvW c m' σ' (a.put dst v) w') := by
  have hr := hC g vs σ.G _ hc (goM c m) (goB m) w args (start_of h ht) h1 (fun i x hx => by
    rw [goMM h]; exact h2 i x hx)
  refine Calls.mono hr ?_
  rintro e w' ⟨v, r, G', m', rfl, hK, he, hrep⟩
  have hrepD : ∃ t0, RepD c (backMem m m' w t0 t.slot) w' σ.L G' t.slot r.D v := by
    cases r with
    | v x => exact ⟨0, RepW.goes (h.back he 0 _).2 hrep⟩
    | own x =>
      obtain ⟨hx, t0, ad, cap, e1, e2⟩ := hrep
      refine ⟨t0, RepW.goes (h.back he t0 _).2 hx, ad, cap, e1, ?_⟩
      rcases e2 with e2 | ⟨b, o, e, k0, k1, k2, k3, k4, k5⟩
      · exact .inl e2
      · have hge : ¬ b < w.heap.size := by
          rcases (he.mine b (by simp [k2])).2 with h5 | h5
          · omega
          · have := he.blks b h5; rw [k2] at this; cases this
        exact .inr ⟨b, o, e, k0, k1, by simp only [backMem, if_neg hge, k2, if_true], by simp only [backMem, if_neg hge]; exact k3, k4, k5⟩
    | tup l =>
      obtain ⟨vs', e1, e2, e3⟩ := hrep
      exact ⟨0, vs', e1, e2, fun i x hx => let ⟨u, hu, hr⟩ := e3 i x hx; ⟨u, hu, RepW.goes (h.back he 0 _).2 hr⟩⟩
  obtain ⟨t0, hrepD⟩ := hrepD
  exact ⟨v, _, _, rfl, hK, InvW.put (h.back he t0 t.slot).1 hd hrepD⟩
theorem call_sound {E:Env} {C:Spec} (hC:C.Sound E) {c m σ a w} (h:InvW c m σ a w) (hP:c.P=E.P) (ht:c.tab=E.tab) {g:Nat} {args:Array Operand} {as:List AO} {vs:List V} {dst:Option Tmp} {t:AD} {K:St→Prop}
  (ha:aosOf σ.vs.length args.toList=some as) (hv:σ.evs as=some vs) (hd:adOf σ.vs.length c.N dst=some t) (hc:callK C g vs K σ t):
  Calls E.P g (args.map a.eval) w (fun e w'=>∃v σ' m',e= .returned v∧K σ'∧InvW c m' σ' (a.put dst v) w'):=by
 obtain⟨h1,h2⟩:=evs_spec h ha hv
 refine call_soundA hC h hP ht (by rw[←h1];simp) (fun i x hx=> ?_) hd hc
 obtain⟨v,h3,h4⟩:=h2 i x hx
 refine⟨v,?_,h4⟩
 rw[←Array.getElem?_toList,Array.toList_map];exact h3
theorem RepC.get {w:World} {M:Nat→Nat→Prop}:∀{l:List V} {vs:List Value},RepC w M l vs→vs.length=l.length∧∀(i:Nat) x,l[i]? =some x→∃v,vs[i]? =some v∧RepW w M x v
 |[],vs,h=>by simp only[RepC]at h;subst h;exact⟨rfl,fun i x hx=>by simp at hx⟩
 |y::l,vs,h=>by
  simp only[RepC]at h
  obtain⟨v,r,rfl,h1,h2⟩:=h
  obtain⟨h3,h4⟩:=RepC.get h2
  refine⟨by simp[h3],fun i x hx=> ?_⟩
  cases i with
  |zero=>
   simp only[List.getElem?_cons_zero,Option.some.injEq]at hx;subst hx
   refine⟨v,rfl,?_⟩
   unfold RepW
   rcases h1 with⟨e,h1⟩|⟨e,h1⟩
   ·rw[if_pos e];exact h1
   ·rw[if_neg (by rw[e];exact Bool.false_ne_true)];exact h1
  |succ i=>exact h4 i x (by simpa using hx)
theorem callV_sound {E:Env} {C:Spec} (hC:C.Sound E) {c m σ a w} (h:InvW c m σ a w) (hP:c.P=E.P) (ht:c.tab=E.tab) {x:Operand} {ax:AO} {f:Nat} {caps:List V} {args:Array Operand} {as:List AO} {vs:List V} {dst:Option Tmp} {t:AD} {K:St→Prop}
  (hx:aoOf σ.vs.length x=some ax) (hf:asV (σ.ev ax)=some (.fn f caps)) (ha:aosOf σ.vs.length args.toList=some as) (hv:σ.evs as=some vs) (hd:adOf σ.vs.length c.N dst=some t) (hc:callK C f (vs++caps) K σ t):
  ∃cs:List Value,a.eval x= .func (.func f) #[] cs.toArray∧Calls E.P f (args.map a.eval++cs.toArray) w (fun e w'=>∃v σ' m',e= .returned v∧K σ'∧InvW c m' σ' (a.put dst v) w'):=by
 have hr:=h.rdV hx hf
 simp only[RepW,V.isAgg,Bool.false_eq_true,if_false,RepV,List.cons.injEq,and_true]at hr
 obtain⟨cs,e1,e2⟩:=hr
 obtain⟨k1,k2⟩:=e2.get
 obtain⟨h1,h2⟩:=evs_spec h ha hv
 have hlen:(args.map a.eval).size=vs.length:=by rw[←h1];simp
 refine⟨cs,e1,call_soundA hC h hP ht (by simp[k1,←hlen]) (fun i x hx=> ?_) hd hc⟩
 by_cases hi:i < vs.length
 ·rw[List.getElem?_append_left hi]at hx
  obtain⟨v,h3,h4⟩:=h2 i x hx
  refine⟨v,?_,h4⟩
  rw[Array.getElem?_append_left (by rw[hlen];exact hi),←Array.getElem?_toList,Array.toList_map];exact h3
 ·rw[List.getElem?_append_right (by omega)]at hx
  obtain⟨v,h3,h4⟩:=k2 _ x hx
  refine⟨v,?_,h4⟩
  rw[Array.getElem?_append_right (by rw[hlen];omega),hlen];simpa using h3
end Go.Abs
namespace Go.Abs
open Go Go.RowKit
set_option linter.unusedVariables false
set_option linter.unusedSimpArgs false
theorem RepL.uniform {w M sz} {L:List V} {cs:List Value} (h:RepL w M L cs) (hs:∀x∈L,V.size x=sz):cs.length=L.length*sz:=by
 rw[h.len,sizeL_uniform hs]
theorem RepL_putL {w M sz} {L ys:List V} {cs d:List Value} {i:Nat} (hL:RepL w M L cs) (hy:RepL w M ys d) (hs:∀x∈L,V.size x=sz) (hsy:∀x∈ys,V.size x=sz) (hi:i+ys.length≤L.length):
  RepL w M (putL L i ys) (patch cs (i*sz) d)∧i*sz+d.length≤cs.length:=by
 have e1:L=L.take i++(((L.drop i).take ys.length)++L.drop (i+ys.length)):=by
  rw[←List.drop_drop,List.take_append_drop,List.take_append_drop]
 have hL':=hL
 rw[e1]at hL'
 obtain⟨c1,c2,rfl,h1,h2⟩:=RepL.append.1 hL'
 obtain⟨c3,c4,rfl,h3,h4⟩:=RepL.append.1 h2
 have l1:c1.length=i*sz:=by
  rw[h1.uniform (fun x hx=>hs x (List.mem_of_mem_take hx)),List.length_take];congr 1;omega
 have l3:c3.length=d.length:=by
  rw[h3.uniform (fun x hx=>hs x (List.mem_of_mem_drop (List.mem_of_mem_take hx))),hy.uniform hsy,List.length_take,List.length_drop];congr 1;omega
 constructor
 ·unfold patch putL
  have e2:(c1++(c3++c4)).drop (c1.length+d.length)=c4:=by rw[←l3,←List.drop_drop,List.drop_left,List.drop_left]
  rw[←l1,List.take_left,e2]
  exact RepL.append.2 ⟨c1,d++c4,rfl,h1,RepL.append.2 ⟨d,c4,rfl,hy,h4⟩⟩
 ·simp only[List.length_append];omega
theorem RepV.agg {w M L cs}:RepV w M (.agg L) cs↔RepL w M L cs:=by simp only[RepV]
theorem InvW.putRow {c m σ a w} (h:InvW c m σ a w) {id i sz:Nat} {L ys:List V} {d:List Value} (hk:look σ.G id=some (.agg L)) (hs:∀x∈L,V.size x=sz) (hsy:∀x∈ys,V.size x=sz) (hi:i+ys.length≤L.length)
  (hsame:V.sameL (putL L i ys) L=true) (hy:RepL w (MM c.Mc m.ow m.lo) ys d):
  InvW c m { σ with G:=upd σ.G id (.agg (putL L i ys)) } a (World.setCells w ⟨id,i*sz,none⟩ d 0)∧(∀j,j < d.length→∃u,w.cell? (({ block:=id,off:=i*sz,spot:=none }:Addr).add (0+j))=some u)∧
   (∀j,w.frozen? (({ block:=id,off:=i*sz,spot:=none }:Addr).add j)=false):=
 h.storeG2 hk (V.same_symm (by simp only[V.same];exact hsame)) (fun cs hcs=>by
  rw[RepV.agg]at hcs⊢
  exact RepL_putL hcs hy hs hsy hi)
theorem InvW.rowSrc {c m σ a w} (h:InvW c m σ a w) {P:Program} {sz:Nat} {y:V} {v:Value} {ys:List V} (hr:RepW w (MM c.Mc m.ow m.lo) y v) (hy:rowL σ.G sz y=some ys) (hsy:∀x∈ys,V.size x=sz):
  ∃cs,RepL w (MM c.Mc m.ow m.lo) ys cs∧Src P w sz v ys.length cs:=by
 cases y<;>simp only[rowL]at hy<;>try (cases hy;done)
 ·rename_i k xs
  split at hy
  ·rename_i hs1;cases hy
   obtain⟨cs,h1,h2⟩:=src_of (P:=P) (k:=some k) (sz:=sz) hr (fun _ _=>hs1) (.inr (.inl ⟨k,xs,rfl,rfl⟩))
   simp only[Elems]at h1
   obtain⟨_,rfl⟩:=h1
   refine⟨xs.map (.int k),?_,by simpa [V.lenS,V.len]using h2⟩
   clear hsy h2 hr
   induction xs with
   |nil=>simp[RepL]
   |cons x xs ih=>simp only[List.map_cons,RepL];exact⟨[.int k x],_,rfl,by simp[RepV],ih⟩
  ·cases hy
 ·rename_i sz' l
  split at hy
  ·rename_i hs1;cases hy;subst hs1
   obtain⟨cs,h1,h2⟩:=src_of (P:=P) (k:=none) (sz:=sz') hr (fun _ hk=>by cases hk) (.inr (.inr (.inl ⟨ys,rfl,rfl⟩)))
   simp only[Elems]at h1
   exact⟨cs,h1.2.2.1,by simpa [V.lenS,V.len]using h2⟩
  ·cases hy
 ·cases hy
  obtain⟨cs,h1,h2⟩:=src_of (P:=P) (k:=none) (sz:=sz) hr (fun _ hk=>by cases hk) (.inr (.inr (.inr rfl)))
  simp only[Elems]at h1;subst h1
  exact⟨[],by simp[RepL],by simpa [V.lenS,V.len]using h2⟩
 ·rename_i id sz' off n cc
  cases hL:look σ.G id with
  |none=>rw[hL]at hy;cases hy
  |some X=>
   rw[hL]at hy
   cases X<;>simp only at hy<;>try (cases hy;done)
   rename_i L
   split at hy
   ·rename_i hc;cases hy
    obtain⟨hs1,hle,hall⟩:=hc
    subst hs1
    have hsL:∀x∈L,V.size x=sz':=fun x hx=>by
     have:=List.all_eq_true.1 hall x hx
     simpa using this
    simp only[RepW,V.isAgg,Bool.false_eq_true,if_false,RepV]at hr
    obtain⟨q0,ad,q1,q2⟩:=hr
    have q1:v= .slice ad n cc:=by simpa using q1
    subst q1
    have hlen:((L.drop off).take n).length=n:=by rw[List.length_take,List.length_drop];omega
    obtain⟨⟨cs0,e,k1,k2,k3,k4⟩,k5,k6⟩:=h.objs id _ hL
    rw[RepV.agg]at k4
    have e1:L=L.take off++(((L.drop off).take n)++(L.drop off).drop n):=by rw[List.take_append_drop,List.take_append_drop]
    have k4':=k4
    rw[e1]at k4'
    obtain⟨c1,c2,rfl,h1,h2⟩:=RepL.append.1 k4'
    obtain⟨c3,c4,rfl,h3,h4⟩:=RepL.append.1 h2
    have l1:c1.length=off*sz':=by
     rw[h1.uniform (fun x hx=>hsL x (List.mem_of_mem_take hx)),List.length_take];congr 1;omega
    have l3:c3.length=n*sz':=by rw[h3.uniform hsy,hlen]
    refine⟨c3,h3,⟨by rw[hlen];rfl,fun w' hw=> ?_⟩⟩
    rw[hlen]
    by_cases hn0:n=0
    ·subst hn0
     have:c3=[]:=by apply List.eq_nil_of_length_eq_zero;rw[l3,Nat.zero_mul]
     subst this
     cases ad with
     |none=>rfl
     |some q=>
      simp only[Builtin.firstCells,Nat.zero_mul]
      exact run_loadCells' (cs:=[]) (fun i v hv=>by simp at hv)
    ·have hcc:cc≠0:=by omega
     rw[q2 hcc]
     simp only[Builtin.firstCells]
     rw[←l3]
     refine run_loadCells' (fun j u hu=>hw _ _ ?_)
     rw[addr_add,←l1]
     refine k2 _ _ ?_
     have hj:=(List.getElem?_eq_some_iff.1 hu).1
     rw[List.getElem?_append_right (by omega),Nat.add_sub_cancel_left,List.getElem?_append_left hj]
     exact hu
   ·cases hy
section ops
variable {c:Ctx} {m:Mem} {σ:St} {a:Act} {w:World} {o:Oper} {t:AD} {p:Prop} {σ':St}
theorem run_appendOp {args:Array Operand} {tys:Array TypeId} {x y:Operand} (ho:o.op= .call { callee:= .builtin .append,args:=args,argTypes:=tys }) (ha:args.toList=[x,y]) {v:Value} {w1:World}
  (hv:(Builtin.append_ tys o.type #[a.eval x,a.eval y]).run c.P w= .ok v w1):(execOp a.eval o).run c.P w= .ok (.value v) w1:=by
 have hargs:args= #[x,y]:=Array.toList_inj.1 ha
 have hA:(args.map a.eval)= #[a.eval x,a.eval y]:=by rw[hargs,List.map_toArray,List.map_cons,List.map_cons,List.map_nil]
 unfold execOp;rw[ho]
 simp only[resolve,invoke,Sem.run_bind,Sem.run_pure,Result.andThen_ok,builtin,hA]
 rw[hv];rfl
structure AppHyp (c:Ctx) (σ:St) (o:Oper) (t:AD) (args:Array Operand) (tys:Array TypeId) (x y:Operand) (ax ay:AO) (ty ty2 e:TypeId) (d2:TypeDesc) (sz:Nat) (g:Bool) (i:TypeInfo) (z:V):Prop where
 ho:o.op= .call { callee:= .builtin .append,args:=args,argTypes:=tys }
 ha:args.toList=[x,y]
 h0:tys[0]? =some ty
 h1:tys[1]? =some ty2
 hu:c.P.underlying ty=some (.slice e)
 hu2:c.P.underlying ty2=some d2
 hd2:(∃e2,d2= .slice e2)∨d2= .string
 hq:szAg c.P e=some (sz,g)
 hi:c.P.info? e=some i
 hz:zeroOk c.P e=some z
 hsz:sz≠0
 hzs:z.size=sz
 hb:i.bytes≠0
 hx:aoOf σ.vs.length x=some ax
 hy:aoOf σ.vs.length y=some ay
 hd:adOf σ.vs.length c.N o.dst=some t
theorem rowO_some {G:List (Nat×V)} {sz:Nat} {y:Option V} {ys:List V} (h:rowO G sz y=some ys):∃v,y=some v∧rowL G sz v=some ys:=by
 cases y with
 |none=>cases h
 |some v=>exact⟨v,rfl,h⟩
theorem app_in {args:Array Operand} {tys:Array TypeId} {x y:Operand} {ax ay:AO} {ty ty2 e:TypeId} {d2:TypeDesc} {sz:Nat} {g:Bool} {i:TypeInfo} {z:V} (h:InvW c m σ a w) (H:AppHyp c σ o t args tys x y ax ay ty ty2 e d2 sz g i z)
  {id off n cc:Nat} {L ys:List V} (hX:asV (σ.ev ax)=some (.sob id sz off n cc)) (hY:rowO σ.G sz (asV (σ.ev ay))=some ys) (hL:look σ.G id=some (.agg L))
  (hin:n+ys.length≤cc) (hoc:off+cc≤L.length) (hs:∀x∈L,V.size x=sz) (hsy:∀x∈ys,V.size x=sz) (hsame:V.sameL (putL L (off+n) ys) L=true):
  Fits c o a w (({ σ with G:=upd σ.G id (.agg (putL L (off+n) ys)) }:St).put t (.v (.sob id sz off (n+ys.length) cc))):=by
 obtain⟨i',dd,q1,q2,q3,q4⟩:=szAg_spec H.hq
 rw[H.hi]at q1;cases q1
 have hr:=h.rdV H.hx hX
 simp only[RepW,V.isAgg,Bool.false_eq_true,if_false,RepV]at hr
 obtain⟨q0,ad,q5,q6⟩:=hr
 have hvx:a.eval x= .slice ad n cc:=by simpa using q5
 obtain⟨y0,hy0,hy1⟩:=rowO_some hY
 obtain⟨d,hd1,hSrc⟩:=h.rowSrc (P:=c.P) (h.rdV H.hy hy0) hy1 hsy
 have hdl:=hd1.uniform hsy
 obtain⟨k1,k2,k3⟩:=h.putRow (i:=off+n) hL hs hsy (by omega) hsame hd1
 have hnil:ys.length=0→d=[]:=fun e=>by apply List.eq_nil_of_length_eq_zero;rw[hdl,e,Nat.zero_mul]
 refine Fits.val (run_appendOp H.ho H.ha ?_) (InvW.put k1 H.hd (d:= .v (.sob id sz off (n+ys.length) cc)) (v:= .slice ad (n+ys.length) cc) ?_)
 ·rw[hvx]
  refine run_append_in H.h0 H.h1 H.hu H.hu2 (by rcases H.hd2 with⟨e2,rfl⟩|rfl<;>simp) H.hi q3 hSrc hin (fun q hq=> ?_) (fun hn=> ?_)
  ·by_cases hc0:cc=0
   ·have:=hnil (by omega)
    subst this;rfl
   ·rw[q6 hc0]at hq;cases hq
    rw[addr_add,show off*sz+n*sz=(off+n)*sz by rw[Nat.add_mul]]
    exact run_storeCells d w 0 k2 (fun j hj=>by rw[Nat.zero_add];exact k3 j) hd1.plain
  ·have hc0:cc=0:=by
    apply Classical.byContradiction;intro hc
    rw[q6 hc]at hn;cases hn
   have:=hnil (by omega)
   subst this;rfl
 ·simp only[RepD,RepW,V.isAgg,Bool.false_eq_true,if_false,RepV]
  exact⟨hin,ad,rfl,q6⟩
theorem repL_zeros {w M} {z:V} {zv:Value} (h:RepW w M z zv) (hz:zv.cells.size≠0) (n:Nat):RepL w M (List.replicate n z) (Builtin.zeroCells zv.cells n).toList:=by
 have h2:=repL_replicate (h.cells) n
 have e:(Builtin.zeroCells zv.cells n).toList=(List.replicate n zv.cells.toList).flatten:=zeros_flat zv.cells hz n
 rw[e];exact h2
theorem app_new {args:Array Operand} {tys:Array TypeId} {x y:Operand} {ax ay:AO} {ty ty2 e:TypeId} {d2:TypeDesc} {sz:Nat} {g:Bool} {i:TypeInfo} {z:V} (h:InvW c m σ a w) (H:AppHyp c σ o t args tys x y ax ay ty ty2 e d2 sz g i z)
  {ad:Option Addr} {n cc:Nat} {els ys:List V} {old:List Value} (hvx:a.eval x= .slice ad n cc) (hY:rowO σ.G sz (asV (σ.ev ay))=some ys) (hn:¬n+ys.length≤cc) (hroom:(n+ys.length)*i.bytes≤140737488355328)
  (hcells:∀q,ad=some q→Cells w q old) (hold:RepL w (MM c.Mc m.ow m.lo) els old) (hel:els.length=n) (hes:∀x∈els,V.size x=sz) (hnone:ad=none→n=0) (hsy:∀x∈ys,V.size x=sz)
  {K:St→Prop} (hK:appNew sz z (els++ys) K σ t):∃σ',K σ'∧Fits c o a w σ':=by
 obtain⟨i',dd,q1,q2,q3,q4⟩:=szAg_spec H.hq
 rw[H.hi]at q1;cases q1
 obtain⟨i'',zv,z1,z2,z3⟩:=zeroOk_spec H.hz
 rw[H.hi]at z1;cases z1
 obtain⟨y0,hy0,hy1⟩:=rowO_some hY
 obtain⟨d,hd1,hSrc⟩:=h.rowSrc (P:=c.P) (h.rdV H.hy hy0) hy1 hsy
 obtain⟨nc,k1,k2⟩:=run_append_new (rt:=o.type) H.h0 H.h1 H.hu H.hu2 H.hd2 H.hi q3 H.hb z2 hSrc hn hroom hcells (by rw[hold.uniform hes,hel]) hnone
 have hlen:(els++ys).length=n+ys.length:=by rw[List.length_append,hel]
 have hzl:zv.cells.size=sz:=by rw[←H.hzs,←(z3 w (MM c.Mc m.ow m.lo)).cells.len];simp
 have hx1:RepV w (MM c.Mc m.ow m.lo) (.agg ((els++ys)++List.replicate (nc-(els++ys).length) z)) (old.toArray++d.toArray++Builtin.zeroCells zv.cells (nc-(n+ys.length))).toList:=by
  rw[RepV.agg,hlen]
  refine RepL.append.2 ⟨old++d,(Builtin.zeroCells zv.cells (nc-(n+ys.length))).toList,by simp,RepL.append.2 ⟨old,d,rfl,hold,hd1⟩,repL_zeros (z3 _ _) (by rw[hzl];exact H.hsz) _⟩
 have hgo:Goes w (MM c.Mc m.ow m.lo) { w with drawn:=w.drawn+1 } (MM c.Mc m.ow m.lo):=fun _ _ h1 h2=>⟨h1,h2⟩
 have hb:=(h.drew 1).newO (e:=e) (RepV.goes hgo hx1)
 obtain⟨hb1,hb2⟩:=hb
 have e3:(old.toArray++d.toArray++Builtin.zeroCells zv.cells (nc-(n+ys.length))).toList.toArray=(old.toArray++d.toArray++Builtin.zeroCells zv.cells (nc-(n+ys.length))):=by simp
 rw[e3]at hb2
 refine⟨_,hK w.heap.size nc hb1 (by omega),Fits.val (run_appendOp H.ho H.ha (by rw[hvx];exact k2)) (InvW.put hb2 H.hd ?_)⟩
 simp only[RepD,RepW,V.isAgg,Bool.false_eq_true,if_false,RepV]
 exact⟨by omega,_,by rw[hlen],fun _=>by rw[Nat.zero_mul]⟩
theorem snd_appR {args:Array Operand} {tys:Array TypeId} {x y:Operand} {ax ay:AO} {ty ty2 e:TypeId} {d2:TypeDesc} {sz:Nat} {g:Bool} {i:TypeInfo} {z:V} (h:InvW c m σ a w) (H:AppHyp c σ o t args tys x y ax ay ty ty2 e d2 sz g i z)
  {K:St→Prop} (he:appRK sz i.bytes z K σ t (σ.ev ax) (rowO σ.G sz (asV (σ.ev ay)))):∃σ',K σ'∧Fits c o a w σ':=by
 obtain⟨i',dd,q1,q2,q3,q4⟩:=szAg_spec H.hq
 rw[H.hi]at q1;cases q1
 cases hY:rowO σ.G sz (asV (σ.ev ay))with
 |none=>rw[hY]at he;unfold appRK at he;split at he<;>first|exact he.elim|(rename_i h1;cases h1)|(rename_i h1 h2;cases h2)|(rename_i h2;cases h2)
 |some ys=>
  rw[hY]at he
  obtain⟨y0,hy0,hy1⟩:=rowO_some hY
  have zero:∀(d0:D) (ad:Option Addr),a.eval x= .slice ad 0 0→(∀L G,RepD c m w L G t.slot d0 (.slice ad 0 0))→appR0 sz i.bytes z d0 ys K σ t→∃σ',K σ'∧Fits c o a w σ':=by
   intro d0 ad hv hrep ⟨⟨hb,hsy⟩,h1,h2⟩
   by_cases hys:ys=[]
   ·obtain⟨d,hd1,hSrc⟩:=h.rowSrc (P:=c.P) (h.rdV H.hy hy0) hy1 hsy
    subst hys
    simp only[RepL]at hd1;subst hd1
    refine⟨_,h1 rfl,Fits.val (v:= .slice ad 0 0) (w1:=w) (run_appendOp H.ho H.ha ?_) (h.put H.hd (hrep _ _))⟩
    rw[hv]
    exact run_append_in H.h0 H.h1 H.hu H.hu2 (by rcases H.hd2 with⟨e2,rfl⟩|rfl<;>simp) H.hi q3 hSrc (Nat.le_refl _) (fun q hq=>rfl) (fun _=>rfl)
   ·have hlen:ys.length≠0:=fun e=>hys (List.eq_nil_of_length_eq_zero e)
    have hK:=h2 hys
    refine app_new (els:=[]) (old:=[]) h H hv hY (by omega) ?_ (fun q hq j v hv=>by simp at hv) (by simp[RepL]) rfl (fun x hx=>by simp at hx) (fun _=>rfl) hsy (by simpa using hK)
    rw[Nat.zero_add]
    have:((ys.length*i.bytes:Nat):Int)≤140737488355328:=by rw[Int.natCast_mul];exact hb
    omega
  unfold appRK at he
  split at he
  ·rename_i e1 e2;cases e2
   have hr:=h.rd H.hx e1
   have hv:a.eval x= .slice none 0 0:=by simpa [RepD,RepW,V.isAgg,RepV]using hr
   exact zero _ none hv (fun _ _=>by simp[RepD,RepW,V.isAgg,RepV]) he
  ·rename_i e1 e2;cases e2
   have hr:=h.rd H.hx e1
   have hv:a.eval x= .slice none 0 0:=by
    have:=hr.1
    simpa [RepW,V.isAgg,RepV]using this
   exact zero _ none hv (fun _ _=>by simp[RepD,RepW,V.isAgg,RepV]) he
  ·rename_i e1 e2;cases e2
   have hr:=h.rd H.hx e1
   obtain⟨ad,hv⟩:=hr
   refine zero _ ad hv (fun _ _=> ?_) he
   unfold e0D;split
   ·exact⟨ad,rfl⟩
   ·simp only[RepD,RepW,V.isAgg,Bool.false_eq_true,if_false,RepV]
    exact⟨ad,0,rfl,Nat.le_refl _,fun _=>rfl,fun p hp=>by simp[RepE]⟩
  ·rename_i id sz' off n cc ys' e1 e2;cases e2
   obtain⟨hsz',he⟩:=he
   subst hsz'
   cases hL:look σ.G id with
   |none=>rw[hL]at he;exact he.elim
   |some X=>
    rw[hL]at he
    cases X<;>try exact he.elim
    rename_i L
    obtain⟨⟨b1,b2,b3,b4,b5⟩,h1,h2⟩:=he
    have hX:asV (σ.ev ax)=some (.sob id sz off n cc):=by rw[e1];rfl
    by_cases hin:n+ys.length≤cc
    ·obtain⟨h3,h4⟩:=h1 hin
     exact⟨_,h4,app_in h H hX hY hL hin b3 b4 b5 h3⟩
    ·have hr:=h.rdV H.hx hX
     have hrow:rowL σ.G sz (.sob id sz off n cc)=some ((L.drop off).take n):=by
      simp only[rowL,hL]
      rw[if_pos ⟨trivial,by omega,List.all_eq_true.2 fun x hx=>by simpa using b4 x hx⟩]
     have hsz2:∀x∈(L.drop off).take n,V.size x=sz:=fun x hx=>b4 x (List.mem_of_mem_drop (List.mem_of_mem_take hx))
     simp only[RepW,V.isAgg,Bool.false_eq_true,if_false,RepV]at hr
     obtain⟨q0,ad,q5,q6⟩:=hr
     have hvx:a.eval x= .slice ad n cc:=by simpa using q5
     obtain⟨⟨cs0,e',k1,k2,k3,k4⟩,k5,k6⟩:=h.objs id _ hL
     rw[RepV.agg]at k4
     have e3:L=L.take off++(((L.drop off).take n)++(L.drop off).drop n):=by rw[List.take_append_drop,List.take_append_drop]
     rw[e3]at k4
     obtain⟨c1,c2,rfl,g1,g2⟩:=RepL.append.1 k4
     obtain⟨c3,c4,rfl,g3,g4⟩:=RepL.append.1 g2
     have l1:c1.length=off*sz:=by
      rw[g1.uniform (fun x hx=>b4 x (List.mem_of_mem_take hx)),List.length_take];congr 1;omega
     refine app_new h H hvx hY hin ?_ (fun q hq=> ?_) g3 (by rw[List.length_take,List.length_drop];omega) hsz2 (fun hn=> ?_) b5 (h2 (by omega))
     ·have:(((n+ys.length)*i.bytes:Nat):Int)≤140737488355328:=by rw[Int.natCast_mul];exact b1
      omega
     ·by_cases hc0:cc=0
      ·have hn0:n=0:=by omega
       subst hn0
       have:c3=[]:=by apply List.eq_nil_of_length_eq_zero;rw[g3.uniform hsz2];simp
       subst this
       intro j v hv;simp at hv
      ·rw[q6 hc0]at hq;cases hq
       intro j v hv
       rw[addr_add,←l1]
       refine k2 _ _ ?_
       have hj:=(List.getElem?_eq_some_iff.1 hv).1
       rw[List.getElem?_append_right (by omega),Nat.add_sub_cancel_left,List.getElem?_append_left hj]
       exact hv
     ·apply Classical.byContradiction
      intro hn0
      rw[q6 (by omega)]at hn;cases hn
  ·exact he.elim
theorem snd_appI {args:Array Operand} {tys:Array TypeId} {x y:Operand} {ax ay:AO} {ty ty2 e:TypeId} {d2:TypeDesc} {sz:Nat} {g:Bool} {i:TypeInfo} {z:V} (h:InvW c m σ a w) (H:AppHyp c σ o t args tys x y ax ay ty ty2 e d2 sz g i z)
  (he:oAppI sz σ t (asV (σ.ev ax)) (rowO σ.G sz (asV (σ.ev ay)))=some (p,σ')) (hp:p):Fits c o a w σ':=by
 unfold oAppI at he
 split at he
 ·rename_i id sz' off n cc ys e1 e2
  split at he
  ·rename_i hsz;subst hsz
   cases hL:look σ.G id with
   |none=>rw[hL]at he;simp[oAppI3]at he
   |some X=>
    rw[hL]at he
    cases X<;>simp only[oAppI3]at he<;>try (cases he;done)
    cases he
    obtain⟨b1,b2,b3,b4,b5⟩:=hp
    exact app_in h H e1 e2 hL b1 b2 b3 b4 b5
  ·cases he
 ·cases he
theorem snd_slcZ {ty e:TypeId} {x:Operand} {ax:AO} {k1 k2:IntKind} (h:InvW c m σ a w) (ho:o.op= .slice ty x none (some (.const (.int k1 0))) (some (.const (.int k2 0)))) (hu:c.P.underlying ty=some (.slice e)) {sz:Nat} {g:Bool} (hs:szAg c.P e=some (sz,g))
  (hx:aoOf σ.vs.length x=some ax) (hd:adOf σ.vs.length c.N o.dst=some t) (he:oSlcZ σ t (lenIO (asV (σ.ev ax)))=some (p,σ')):Fits c o a w σ':=by
 obtain⟨i,d,q1,q2,q3,q4⟩:=szAg_spec hs
 cases hX:asV (σ.ev ax)with
 |none=>rw[hX]at he;simp[lenIO,oSlcZ]at he
 |some y=>
  rw[hX]at he;simp only[lenIO]at he
  cases hn:y.lenI with
  |none=>rw[hn]at he;simp[oSlcZ]at he
  |some n=>
   rw[hn]at he;simp only[oSlcZ]at he;cases he
   have hr:=h.rdV hx hX
   obtain⟨ad,cap,hv,hc1,hc2,hc3⟩:=hr.slice ⟨n,hn⟩
   refine Fits.val (v:= .slice ad 0 0) ?_ (h.put hd ⟨ad,rfl⟩)
   unfold execOp;rw[ho];refine run_v ?_
   rw[hv];unfold Instr.sliceAt
   rw[run_bind (run_underlying hu)];simp only[]
   unfold Instr.slice
   rw[run_bind (run_underlying hu)];simp only[]
   have hb:=run_bounds3 (a:=a) (P:=c.P) (isS:=true) (len:=y.len) (cap:=cap) (lo:=none) (hi:=some (.const (.int k1 0))) (y3:= .const (.int k2 0)) (k3:=k2) (l:=0) (hh:=0) (w:=w) (.inl ⟨rfl,rfl⟩) ⟨_,k1,rfl,rfl⟩ rfl (by omega) (by omega) (by omega)
   simp only[Option.map_some]at hb⊢
   rw[run_bind hb]
   simp only[]
   rw[run_bind (run_sizeOf q1),q3]
   rfl
end ops
end Go.Abs
namespace Go.Abs
open Go Go.RowKit
set_option linter.unusedVariables false
set_option linter.unusedSimpArgs false
theorem atom_next (n:String) (h:n= "sync/atomic.LoadInt64" ∨n= "sync/atomic.StoreInt64" ∨n= "sync/atomic.AddInt64" ∨n= ""):Extern.allNextRows.lookup n=none:=by
 rcases h with rfl|rfl|rfl|rfl<;>kernel_rfl
theorem findNext_atom {fn:Func} (h:fn.name= "sync/atomic.LoadInt64" ∨fn.name= "sync/atomic.StoreInt64" ∨fn.name= "sync/atomic.AddInt64") (ho:fn.origin= ""):Extern.findNext fn=none:=by
 unfold Extern.findNext
 simp only[]
 rw[ho,atom_next fn.name (by rcases h with h|h|h<;>simp[h]),atom_next "" (by simp)];rfl
theorem lk1:Extern.allGenericRows.lookup "sync/atomic.LoadInt64" =none:=by kernel_rfl
theorem lk2:Extern.allTypedRows.lookup "sync/atomic.LoadInt64" =none:=by kernel_rfl
theorem lk3:Extern.allRows.lookup "sync/atomic.LoadInt64" =some (Extern.Atomic.loadT (.int .i64)):=by kernel_rfl
theorem lk4:Extern.allGenericRows.lookup "sync/atomic.StoreInt64" =none:=by kernel_rfl
theorem lk5:Extern.allTypedRows.lookup "sync/atomic.StoreInt64" =none:=by kernel_rfl
theorem lk6:Extern.allRows.lookup "sync/atomic.StoreInt64" =some Extern.Atomic.storeT:=by kernel_rfl
theorem lk7:Extern.allGenericRows.lookup "sync/atomic.AddInt64" =none:=by kernel_rfl
theorem lk8:Extern.allTypedRows.lookup "sync/atomic.AddInt64" =none:=by kernel_rfl
theorem lk9:Extern.allRows.lookup "sync/atomic.AddInt64" =some (Extern.Atomic.update (Op.intArith .add) .i64 true):=by kernel_rfl
theorem find_ld {fn:Func} (h:fn.name= "sync/atomic.LoadInt64"):Extern.find fn=some (Extern.Atomic.loadT (.int .i64)):=by
 unfold Extern.find;simp only[];rw[h,lk1,lk2,lk3];rfl
theorem find_st {fn:Func} (h:fn.name= "sync/atomic.StoreInt64"):Extern.find fn=some Extern.Atomic.storeT:=by
 unfold Extern.find;simp only[];rw[h,lk4,lk5,lk6];rfl
theorem find_add {fn:Func} (h:fn.name= "sync/atomic.AddInt64"):Extern.find fn=some (Extern.Atomic.update (Op.intArith .add) .i64 true):=by
 unfold Extern.find;simp only[];rw[h,lk7,lk8,lk9];rfl
theorem atomK_spec {P:Program} {g n:Nat} (h:atomK P g=some n):∃fn,P.funcs[g]? =some fn∧fn.body.isNone=true∧(fn.name== "runtime.NumGoroutine")=false∧fn.origin= "" ∧
  ((n=0∧fn.name= "sync/atomic.LoadInt64")∨(n=1∧fn.name= "sync/atomic.StoreInt64")∨(n=2∧fn.name= "sync/atomic.AddInt64")):=by
 unfold atomK at h
 split at h
 ·rename_i fn hf
  split at h
  ·rename_i h1
   rw[Bool.and_eq_true]at h1
   split at h
   ·cases h
   ·rename_i ho
    have ho:fn.origin= "" :=by simpa using ho
    refine⟨fn,hf,h1.1,by simpa using h1.2,ho,?_⟩
    split at h
    ·rename_i hn;cases h;exact .inl ⟨rfl,by simpa using hn⟩
    ·split at h
     ·rename_i hn;cases h;exact .inr (.inl ⟨rfl,by simpa using hn⟩)
     ·split at h
      ·rename_i hn;cases h;exact .inr (.inr ⟨rfl,by simpa using hn⟩)
      ·cases h
  ·cases h
 ·cases h
theorem addr_add0 (q:Addr):q.add 0=q:=by simp[Addr.add]
section ops
variable {c:Ctx} {m:Mem} {σ:St} {a:Act} {w:World} {o:Oper} {t:AD} {p:Prop} {σ':St}
theorem run_extOp {args:Array Operand} {tys:Array TypeId} {g:Nat} (ho:o.op= .call { callee:= .value (.func g),args:=args,argTypes:=tys }) {v:Value} {w1:World}
  (hv:(callFunc g (args.map a.eval)).run c.P w= .ok (.value v) w1):(execOp a.eval o).run c.P w= .ok (.value v) w1:=by
 unfold execOp;rw[ho]
 have hev:a.eval (.func g)= .func (.func g) #[] #[]:=rfl
 simp only[resolve,hev,Deferred.ofValue,Sem.run_bind,Sem.run_pure,Result.andThen_ok,invoke]
 have:(#[]++Array.map a.eval args++ #[]:Array Value)=args.map a.eval:=by simp
 rw[this];exact hv
theorem args1 {args:Array Operand} {x:Operand} (h:args.toList=[x]) (f:Operand→Value):args.map f= #[f x]:=by
 rw[Array.toList_inj.1 (h.trans (show[x]=(#[x]:Array Operand).toList from rfl))];simp
theorem args2 {args:Array Operand} {x y:Operand} (h:args.toList=[x,y]) (f:Operand→Value):args.map f= #[f x,f y]:=by
 rw[Array.toList_inj.1 (h.trans (show[x,y]=(#[x,y]:Array Operand).toList from rfl))];simp
theorem snd_atLd {args:Array Operand} {tys:Array TypeId} {g:Nat} {x:Operand} {ax:AO} (h:InvW c m σ a w) (ho:o.op= .call { callee:= .value (.func g),args:=args,argTypes:=tys }) (ha:args.toList=[x]) (hk:atomK c.P g=some 0)
  (hx:aoOf σ.vs.length x=some ax) (hd:adOf σ.vs.length c.N o.dst=some t) (he:oAtLd σ t (subO (atO c.tab σ (σ.ev ax)))=some (p,σ')):Fits c o a w σ':=by
 obtain⟨fn,hf,hb,hn,hor,hq⟩:=atomK_spec hk
 have hq:fn.name= "sync/atomic.LoadInt64" :=by rcases hq with⟨_,h⟩|⟨h,_⟩|⟨h,_⟩<;>first|exact h|omega
 unfold oAtLd at he
 split at he
 ·rename_i n hY;cases he
  obtain⟨q,cs,h5,h6,h7⟩:=h.place hx hY
  simp only[RepV]at h7;subst h7
  have hc:=h6 0 (.int .i64 n) rfl
  rw[addr_add0]at hc
  refine Fits.val (run_extOp ho ?_) (h.put hd (d:= .v (.int .i64 n)) (v:= .int .i64 n) (by simp[RepD,RepW,V.isAgg,RepV]))
  rw[args1 ha,h5]
  exact run_call_load hf hn hb (findNext_atom (.inl hq) hor) .i64 (find_ld hq) hc
 ·cases he
theorem atStore {id:Nat} {q:List Nat} {x:Operand} {ax:AO} {n:Int} (h:InvW c m σ a w) (hx:aoOf σ.vs.length x=some ax) (hX:σ.ev ax=some (.gp id q)) (he:oStoH 1 id q σ (.int .i64 n) (look σ.G id)=some (p,σ')):
  ∃of,a.eval x= .pointer (some ⟨id,of,none⟩)∧InvW c m σ' a (w.setCell ⟨id,of,none⟩ (.int .i64 n))∧(∃u,w.cell? ⟨id,of,none⟩=some u)∧w.frozen? ⟨id,of,none⟩=false:=by
 obtain⟨r,of,h2,h3,h4⟩:=h.rd hx hX
 refine⟨of,h4,?_⟩
 simp only[h2,oStoH]at he
 cases hu:r.upd q (.int .i64 n)with
 |none=>simp[hu,oStoG]at he
 |some z'=>
  simp only[hu,oStoG]at he
  split at he
  ·cases he
   obtain⟨h9,h10,h11⟩:=h.storeG h2 h3 hu (y:= .int .i64 n) (d:=[.int .i64 n]) (by simp[RepV])
   obtain⟨u,hu'⟩:=h10 0 (by simp)
   have h11:=h11 0
   rw[Nat.zero_add,addr_add0]at hu'
   rw[addr_add0]at h11
   simp only[World.setCells,addr_add0]at h9
   exact⟨h9,⟨u,hu'⟩,h11⟩
  ·cases he
theorem snd_atSt {args:Array Operand} {tys:Array TypeId} {g:Nat} {x y:Operand} {ax ay:AO} (h:InvW c m σ a w) (ho:o.op= .call { callee:= .value (.func g),args:=args,argTypes:=tys }) (ha:args.toList=[x,y]) (hk:atomK c.P g=some 1)
  (hx:aoOf σ.vs.length x=some ax) (hy:aoOf σ.vs.length y=some ay) (hd:adOf σ.vs.length c.N o.dst=some t) (he:oAtSt σ t (σ.ev ax) (asV (σ.ev ay))=some (p,σ')):Fits c o a w σ':=by
 obtain⟨fn,hf,hb,hn,hor,hq⟩:=atomK_spec hk
 have hq:fn.name= "sync/atomic.StoreInt64" :=by rcases hq with⟨h,_⟩|⟨_,h⟩|⟨h,_⟩<;>first|exact h|omega
 unfold oAtSt at he
 split at he
 ·rename_i id q n hX hY
  cases hS:oStoH 1 id q σ (.int .i64 n) (look σ.G id)with
  |none=>rw[hS]at he;cases he
  |some r=>
   obtain⟨p1,σ1⟩:=r
   rw[hS]at he;simp only[putR]at he;cases he
   obtain⟨of,h1,h2,⟨u,h3⟩,h4⟩:=atStore h hx hX hS
   have hvl:σ1.vs.length=σ.vs.length:=by rw[h2.vsK,h.vsK]
   refine Fits.val (run_extOp ho ?_) (h2.put (by rw[hvl];exact hd) (d:= .tup []) (v:= .tuple #[]) ⟨#[],rfl,rfl,fun i x hx=>by simp at hx⟩)
   rw[args2 ha,h1,(h.rdV hy hY).int]
   exact run_call_store hf hn hb (findNext_atom (.inr (.inl hq)) hor) (find_st hq) h3 h4
 ·cases he
theorem snd_atAdd {args:Array Operand} {tys:Array TypeId} {g:Nat} {x y:Operand} {ax ay:AO} (h:InvW c m σ a w) (ho:o.op= .call { callee:= .value (.func g),args:=args,argTypes:=tys }) (ha:args.toList=[x,y]) (hk:atomK c.P g=some 2)
  (hx:aoOf σ.vs.length x=some ax) (hy:aoOf σ.vs.length y=some ay) (hd:adOf σ.vs.length c.N o.dst=some t) (he:oAtAdd σ t (σ.ev ax) (subO (atO c.tab σ (σ.ev ax))) (asV (σ.ev ay))=some (p,σ')):Fits c o a w σ':=by
 obtain⟨fn,hf,hb,hn,hor,hq⟩:=atomK_spec hk
 have hq:fn.name= "sync/atomic.AddInt64" :=by rcases hq with⟨h,_⟩|⟨h,_⟩|⟨_,h⟩<;>first|exact h|omega
 unfold oAtAdd at he
 split at he
 ·rename_i id q n b hX hP hY
  cases hS:oStoH 1 id q σ (.int .i64 (IntKind.i64.wrap (n+b))) (look σ.G id)with
  |none=>rw[hS]at he;cases he
  |some r=>
   obtain⟨p1,σ1⟩:=r
   rw[hS]at he;simp only[putR]at he;cases he
   obtain⟨of,h1,h2,⟨u,h3⟩,h4⟩:=atStore h hx hX hS
   have hvl:σ1.vs.length=σ.vs.length:=by rw[h2.vsK,h.vsK]
   obtain⟨q',cs,h5,h6,h7⟩:=h.place hx hP
   simp only[RepV]at h7;subst h7
   have hc:=h6 0 (.int .i64 n) rfl
   rw[addr_add0]at hc
   rw[h1]at h5;cases h5
   refine Fits.val (run_extOp ho ?_) (h2.put (by rw[hvl];exact hd) (d:= .v (.int .i64 (IntKind.i64.wrap (n+b)))) (v:= .int .i64 (IntKind.i64.wrap (n+b))) (by simp[RepD,RepW,V.isAgg,RepV]))
   rw[args2 ha,h1,(h.rdV hy hY).int]
   exact run_call_add hf hn hb (findNext_atom (.inr (.inr hq)) hor) .i64 (find_add hq) hc h4 rfl
 ·cases he
theorem repC_of {w:World} {M:Nat→Nat→Prop}:∀{l:List V} {vs:List Value},vs.length=l.length→(∀(j:Nat) x,l[j]? =some x→∃v,vs[j]? =some v∧RepW w M x v)→RepC w M l vs
 |[],vs,hl,h=>by simp only[RepC];exact List.eq_nil_of_length_eq_zero hl
 |x::l,[],hl,h=>by simp at hl
 |x::l,v::vs,hl,h=>by
  simp only[RepC]
  obtain⟨v',h1,h2⟩:=h 0 x rfl
  cases h1
  refine⟨v,vs,rfl,?_,repC_of (by simpa using hl) fun j y hy=>h (j+1) y hy⟩
  unfold RepW at h2
  split at h2
  ·rename_i hx;exact .inl ⟨hx,h2⟩
  ·rename_i hx;exact .inr ⟨by simpa using hx,h2⟩
theorem snd_mkFn {f:Nat} {first captured:Array Operand} {as:List AO} (h:InvW c m σ a w) (ho:o.op= .makeFunc (.func f) first captured) (h1:first.isEmpty=true) (hx:aosOf σ.vs.length captured.toList=some as) (hd:adOf σ.vs.length c.N o.dst=some t)
  (he:oMkFn f σ t (σ.evs as)=some (p,σ')):Fits c o a w σ':=by
 cases hv:σ.evs as with
 |none=>rw[hv]at he;cases he
 |some l=>
  rw[hv]at he;simp only[oMkFn]at he;cases he
  obtain⟨k1,k2⟩:=evs_spec h hx hv
  have hf:first= #[]:=by simpa using h1
  refine Fits.val (v:= .func (.func f) #[] (captured.toList.map a.eval).toArray) ?_ (h.put hd ?_)
  ·unfold execOp;rw[ho];refine run_v ?_
   subst hf
   have e:captured.map a.eval=(captured.toList.map a.eval).toArray:=by
    rw[←List.map_toArray,Array.toArray_toList]
   have e2:(#[]:Array Operand).map a.eval= #[]:=by simp
   rw[e,e2];rfl
  ·simp only[RepD,RepW,V.isAgg,Bool.false_eq_true,if_false,RepV]
   exact⟨_,rfl,repC_of k1 k2⟩
theorem snd_fad0 {s:TypeId} {f:Nat} {fs:Array Field} {fd:Field} {i:TypeInfo} {x:Operand} {ax:AO} (h:InvW c m σ a w) (ho:o.op= .fieldAddr s x f) (hs:c.P.underlying s=some (.struct fs)) (hf:fs[f]? =some fd)
  (hi:c.P.info? fd.type=some i) (hn:i.size≠0) (h0:fd.offset=0) (hx:aoOf σ.vs.length x=some ax) (hd:adOf σ.vs.length c.N o.dst=some t) (he:oFad0 σ t (asV (σ.ev ax))=some (p,σ')):Fits c o a w σ':=by
 unfold oFad0 at he
 split at he
 ·rename_i id hX;cases he
  have hr:=h.rdV hx hX
  refine Fits.val (v:= .pointer (some ((⟨id,0,none⟩:Addr).add fd.offset))) ?_ (h.put hd ?_)
  ·unfold execOp;rw[ho];refine run_v ?_;rw[hr.ptr];exact run_fieldAt hs hf hi hn
  ·rw[h0,addr_add0];simp[RepD,RepW,V.isAgg,RepV]
 ·cases he
theorem snd_clr {args:Array Operand} {tys:Array TypeId} {x:Operand} {ax:AO} {ty e:TypeId} {sz:Nat} {g:Bool} {z:V} (h:InvW c m σ a w) (ho:o.op= .call { callee:= .builtin .clear,args:=args,argTypes:=tys }) (ha:args.toList=[x])
  (h0:tys[0]? =some ty) (hu:c.P.underlying ty=some (.slice e)) (hq:szAg c.P e=some (sz,g)) (hz:zeroOk c.P e=some z) (hsz:sz≠0)
  (hx:aoOf σ.vs.length x=some ax) (hd:adOf σ.vs.length c.N o.dst=some t) (he:oClr sz z σ t (asV (σ.ev ax))=some (p,σ')) (hp:p):Fits c o a w σ':=by
 obtain⟨i',dd,q1,q2,q3,q4⟩:=szAg_spec hq
 obtain⟨i'',zv,z1,z2,z3⟩:=zeroOk_spec hz
 rw[q1]at z1;cases z1
 have hrun:∀{w1:World},(Builtin.clear_ tys o.type #[a.eval x]).run c.P w= .ok (.tuple #[]) w1→(execOp a.eval o).run c.P w= .ok (.value (.tuple #[])) w1:=by
  intro w1 hv
  unfold execOp;rw[ho]
  simp only[resolve,invoke,Sem.run_bind,Sem.run_pure,Result.andThen_ok,builtin,args1 ha]
  rw[hv];rfl
 unfold oClr at he
 split at he
 ·rename_i id sz' off n cc hX
  split at he
  ·rename_i hs;subst hs
   cases hL:look σ.G id with
   |none=>rw[hL]at he;simp[oClr3]at he
   |some X=>
    rw[hL]at he
    cases X<;>simp only[oClr3]at he<;>try (cases he;done)
    rename_i L
    cases he
    obtain⟨b1,b2,b3,b4⟩:=hp
    have hr:=h.rdV hx hX
    simp only[RepW,V.isAgg,Bool.false_eq_true,if_false,RepV]at hr
    obtain⟨q0,ad,q5,q6⟩:=hr
    have hvx:a.eval x= .slice ad n cc:=by simpa using q5
    have hzl:zv.cells.size=sz:=by rw[←b3,←(z3 w (MM c.Mc m.ow m.lo)).cells.len];simp
    have hrep:RepL w (MM c.Mc m.ow m.lo) (List.replicate n z) (Builtin.zeroCells zv.cells n).toList:=repL_zeros (z3 _ _) (by rw[hzl];exact hsz) n
    obtain⟨k1,k2,k3⟩:=h.putRow (i:=off) hL b2 (fun y hy=>by rw[List.eq_of_mem_replicate hy];exact b3) (by simpa using b1) b4 hrep
    refine Fits.val (hrun ?_) (k1.put hd (d:= .tup []) (v:= .tuple #[]) ⟨#[],rfl,rfl,fun i x hx=>by simp at hx⟩)
    rw[hvx]
    unfold Builtin.clear_
    have hzero:n=0→(Builtin.zeroCells zv.cells n).toList=[]:=by rintro rfl;simp[Builtin.zeroCells]
    simp only[h0]
    have e0:(#[Value.slice ad n cc]:Array Value)[0]? =some (.slice ad n cc):=rfl
    simp only[e0]
    rw[run_bind (run_underlying hu)]
    by_cases hn0:n=0
    ·rw[hzero hn0];subst hn0
     cases ad<;>rfl
    ·obtain⟨n',rfl⟩:∃n',n=n'+1:=⟨n-1,by omega⟩
     rw[q6 (by omega)]
     simp only[]
     rw[run_bind (run_zeroValue q1 z2)]
     rw[run_bind (run_storeCells _ w 0 k2 (fun j hj=>by rw[Nat.zero_add];exact k3 j) hrep.plain)]
     rfl
  ·cases he
 ·cases he
end ops
end Go.Abs
namespace Go.Abs
open Go Go.RowKit
set_option linter.unusedVariables false
set_option linter.unusedSimpArgs false
theorem cell_newF {w:World} {cs:Array Value} {e:TypeId} {f:Nat×Nat} {i:Nat} {v:Value} (h:cs[i]? =some v):(w.alloc (.cells cs e f)).cell? ⟨w.heap.size,i,none⟩=some v:=by
 simp only[World.cell?,heap_alloc_eq,Option.isSome_none,Bool.false_eq_true,if_false];exact h
section ops
variable {c:Ctx} {m:Mem} {σ:St} {a:Act} {w:World} {o:Oper} {t:AD} {p:Prop} {σ':St}
theorem snd_s2b {s ty e:TypeId} {x:Operand} {ax:AO} (h:InvW c m σ a w) (ho:o.op= .convert s ty x) (hs:c.P.underlying s=some .string) (hu:c.P.underlying ty=some (.slice e)) (he8:c.P.underlying e=some (.int .u8))
  (hx:aoOf σ.vs.length x=some ax) (hd:adOf σ.vs.length c.N o.dst=some t) (he:oS2b false σ t (asV (σ.ev ax))=some (p,σ')):Fits c o a w σ':=by
 cases hX:asV (σ.ev ax)with
 |none=>simp[hX,oS2b,bsV,putVO]at he
 |some z=>
  have hr:=h.rdV hx hX
  rw[hX]at he
  cases z<;>simp only[oS2b,bsV,putVO]at he<;>try (cases he;done)
  cases he;rename_i st
  simp only[RepW,V.isAgg,Bool.false_eq_true,if_false,RepV]at hr
  have hr:a.eval x= .string st:=by simpa using hr
  obtain⟨hfr,gfr⟩:=(h.drew 1).fresh none 0 (.cells (bytesRow st (grownCap w st.size 0 e)) e ((bytesRow st (grownCap w st.size 0 e)).size,(bytesRow st (grownCap w st.size 0 e)).size+1)) (fun _ h=>by cases h) (fun h=>by cases h)
  refine Fits.val (v:= .slice (some ⟨w.heap.size,0,none⟩) st.size (grownCap w st.size 0 e)) ?_ (InvW.put hfr hd ?_)
  ·unfold execOp;rw[ho];refine run_v ?_
   rw[hr]
   exact run_bytes_of_string w s ty e st hs hu he8
  ·show RepW _ _ (.sli .u8 (byS st)) _
   have hl:(byS st).length=st.size:=by simp[byS]
   simp only[RepW,V.isAgg,Bool.false_eq_true,if_false,RepV]
   refine⟨some ⟨w.heap.size,0,none⟩,grownCap w st.size 0 e,by rw[hl],by rw[hl];exact grownCap_ge w _ _ _,by simp,fun q hq=> ?_⟩
   cases hq
   intro j v hv
   rw[addr_add,Nat.zero_add]
   have hjl:j < st.size:=by have:=(List.getElem?_eq_some_iff.1 hv).1;rw[List.length_map,hl]at this;exact this
   refine⟨?_,?_⟩
   ·refine cell_newF (w:={ w with drawn:=w.drawn+1 }) ?_
    unfold bytesRow
    rw[Array.getElem?_append_left (by rw[Array.size_map];exact hjl)]
    rw[←hv]
    simp[byS]
    rfl
   ·rintro (h5|⟨h5,h6⟩)
    ·have:=h.callers _ _ h5;have:=h.grown;simp only at*;omega
    ·have h5:(if w.heap.size=w.heap.size then (none:Option Place)else m.ow w.heap.size).isSome=true:=h5
     rw[if_pos rfl]at h5;cases h5
theorem snd_b2s {s ty e:TypeId} {x:Operand} {ax:AO} (h:InvW c m σ a w) (ho:o.op= .convert s ty x) (hs:c.P.underlying s=some (.slice e)) (hu:c.P.underlying ty=some .string) (he8:c.P.underlying e=some (.int .u8))
  (hx:aoOf σ.vs.length x=some ax) (hd:adOf σ.vs.length c.N o.dst=some t) (he:oS2b true σ t (asV (σ.ev ax))=some (p,σ')):Fits c o a w σ':=by
 cases hX:asV (σ.ev ax)with
 |none=>simp[hX,oS2b,bsV,putVO]at he
 |some z=>
  have hr:=h.rdV hx hX
  rw[hX]at he
  cases z<;>simp only[oS2b,bsV,putVO]at he<;>try (cases he;done)
  ·rename_i k xs
   cases k<;>simp only[]at he<;>try (cases he;done)
   cases he
   simp only[RepW,V.isAgg,Bool.false_eq_true,if_false,RepV]at hr
   obtain⟨ad,cap,h5,h6,h7,h8⟩:=hr
   have h5:a.eval x= .slice ad xs.length cap:=by simpa using h5
   refine fits_put h hd (v:= .string (stS xs)) ?_ repW_str
   unfold execOp;rw[ho];refine run_v ?_
   rw[h5,run_convert_bytes_string w s ty e _ _ cap hs he8 hu]
   cases ad with
   |none=>
    have hl:=h7 rfl
    have:xs=[]:=List.eq_nil_of_length_eq_zero (by omega)
    subst this
    rfl
   |some q=>
    have hl:(loadCells q xs.length).run c.P w= .ok (xs.map (Value.int .u8)).toArray w:=by
     have:=run_loadCells_list (P:=c.P) w q (xs.map (Value.int .u8)) (fun j v hj=>((h8 q rfl) j v hj).1)
     simpa using this
    rw[run_bytesToString w q _ cap xs hl,foldl_push_bytes]
    congr 2
    apply ByteArray.ext
    simp[stS,ByteArray.empty,ByteArray.emptyWithCapacity]
    try rfl
  ·cases he
   have h5:a.eval x= .slice none 0 0:=by
    simp only[RepW,V.isAgg,Bool.false_eq_true,if_false,RepV]at hr
    simpa using hr
   refine fits_put h hd (v:= .string ⟨⟨[]⟩⟩) ?_ repW_str
   unfold execOp;rw[ho];refine run_v ?_
   rw[h5,run_convert_bytes_string w s ty e _ _ 0 hs he8 hu]
   rfl
end ops
end Go.Abs
namespace Go.Abs
open Go Go.RowKit
set_option linter.unusedVariables false
set_option linter.unusedSimpArgs false
theorem bin1_spec {K:Nat} {f:AO→PO} {x:Operand} {po:PO} (h:bin1 K f x=some po):∃ax,aoOf K x=some ax∧f ax=po:=by
 unfold bin1 at h;exact Option.map_eq_some_iff.1 h
theorem bin2_spec {K:Nat} {f:AO→AO→PO} {x y:Operand} {po:PO} (h:bin2 K f x y=some po):∃ax ay,aoOf K x=some ax∧aoOf K y=some ay∧f ax ay=po:=by
 unfold bin2 at h
 split at h
 ·rename_i ax ay h1 h2;cases h;exact⟨ax,ay,h1,h2,rfl⟩
 ·cases h
theorem prepSlc_spec {K:Nat} {f:AO→Option AO→Option AO→Option AO→PO} {x:Operand} {lo hi mx:Option Operand} {po:PO} (h:prepSlc K f x lo hi mx=some po):
  ∃ax al ah am,aoOf K x=some ax∧aopOf K lo=some al∧aopOf K hi=some ah∧aopOf K mx=some am∧f ax al ah am=po:=by
 unfold prepSlc at h
 split at h
 ·rename_i ax al ah am h1 h2 h3 h4;cases h;exact⟨ax,al,ah,am,h1,h2,h3,h4,rfl⟩
 ·cases h
theorem kOk_spec {k:Option IntKind} {sz:Nat} {z:V} (h:kOk k sz z=true) (k':IntKind) (hk:k=some k'):sz=1∧z= .int k' 0:=by
 subst hk
 simp only[kOk,Bool.and_eq_true,beq_iff_eq]at h
 obtain⟨h1,h2⟩:=h
 split at h2
 ·rename_i k2;have:=beq_iff_eq.1 h2;subst this;exact⟨h1,rfl⟩
 ·cases h2
theorem isZ3_spec {r:Option Nat} {lo hi mx:Option Operand} (h:isZ3 r lo hi mx=true):∃k1 k2,lo=none∧hi=some (.const (.int k1 0))∧mx=some (.const (.int k2 0)):=by
 unfold isZ3 at h
 split at h
 ·exact⟨_,_,rfl,rfl,rfl⟩
 ·cases h
theorem partsOk_info {P:Program} {z:V} {fs:List Field} (h:partsOk P z fs=true):∀f∈fs,∃i,P.info? f.type=some i:=by
 intro f hf
 unfold partsOk at h
 rw[Bool.and_eq_true,List.all_eq_true]at h
 obtain⟨i,hi⟩:=List.mem_iff_getElem?.1 hf
 have:=h.2 (f,i) (by rw[List.mem_iff_getElem?];exact⟨i,by simp[hi]⟩)
 simp only[Bool.and_eq_true]at this
 obtain⟨_,h2⟩:=this
 split at h2
 ·rename_i j _ e2;exact⟨j,e2⟩
 ·cases h2
theorem bindU {P:Program} {tys:Array TypeId} {i:Nat} {d:TypeDesc} (h:(tys[i]?).bind P.underlying=some d):∃t,tys[i]? =some t∧P.underlying t=some d:=by
 cases ht:tys[i]? with
 |none=>simp[ht]at h
 |some t=>exact⟨t,rfl,by simpa [ht]using h⟩
theorem ranO_spec {o:Res} {K:St→Prop} (h:ranO o K):∃p σ',o=some (p,σ')∧p∧K σ':=by
 unfold ranO at h
 split at h
 ·rename_i p σ';exact⟨p,σ',rfl,h.1,h.2⟩
 ·exact h.elim
section ops
variable {c:Ctx} {m:Mem} {σ:St} {a:Act} {w:World} {o:Oper} {t:AD} {p:Prop} {σ':St}
theorem Fits.wp {next:Act→World→Prop} {QQ:Exit→Act→World→Prop} (hf:Fits c o a w σ') (hK:∀m' a' w',InvW c m' σ' a' w'→next a' w'):o.wp c.P a w next QQ:=by
 obtain⟨res,w1,m',hr,h⟩:=hf
 unfold Oper.wp;rw[hr]
 rcases h with⟨v,rfl,hi⟩|⟨rfl,hi⟩
 ·exact hK m' _ _ hi
 ·exact hK m' _ _ hi
theorem Wop_sound {E:Env} {C:Spec} (hC:C.Sound E) {K:St→Prop} {po:PO} {all:List Oper} {rr:Option Nat} {next:Act→World→Prop} {QQ:Exit→Act→World→Prop} (h:InvW c m σ a w) (hP:c.P=E.P) (htab:c.tab=E.tab)
  (hp:prepOp c.P σ.vs.length all rr o=some po) (hd:adOf σ.vs.length c.N o.dst=some t) (hW:Wop E C t po K σ)
  (hK:∀σ' m' a' w',InvW c m' σ' a' w'→K σ'→next a' w'):o.wp c.P a w next QQ:=by
 have fin:∀{r:Res},ranO r K→(∀p σ',r=some (p,σ')→p→Fits c o a w σ')→o.wp c.P a w next QQ:=by
  intro r hr hf
  obtain⟨p,σ',h1,h2,h3⟩:=ranO_spec hr
  exact (hf p σ' h1 h2).wp (fun m' a' w' hi=>hK σ' m' a' w' hi h3)
 have fin2:(∃σ',K σ'∧Fits c o a w σ')→o.wp c.P a w next QQ:=fun⟨σ',h1,h2⟩=>h2.wp (fun m' a' w' hi=>hK σ' m' a' w' hi h1)
 unfold prepOp at hp
 split at hp
 ·rename_i x ho
  obtain⟨ax,hx,rfl⟩:=bin1_spec hp
  exact fin hW (fun p σ' he hpp=>snd_mv h (by unfold execOp;rw[ho]) hx hd he)
 ·rename_i x ho
  obtain⟨ax,hx,rfl⟩:=bin1_spec hp
  exact fin hW (fun p σ' he hpp=>snd_mv h (by unfold execOp;rw[ho]) hx hd he)
 ·rename_i x y z ho
  split at hp
  ·rename_i ax ay az hx hy hz;cases hp
   exact fin2 (snd_pick h ho hx hy hz hd hW)
  ·cases hp
 ·rename_i ty ho
  obtain⟨z,hz,rfl⟩:=Option.map_eq_some_iff.1 hp
  cases rr with
  |none=>exact fin (r:=oBox σ t (some z)) hW (fun p σ' he hpp=>snd_alloc h ho hz hd he)
  |some k=>
   cases k with
   |zero=>exact fin2 (snd_new h ho hz hd hW)
   |succ k=>exact fin (r:=oBoxAt (k+1) σ t (some z)) hW (fun p σ' he hpp=>snd_allocAt h ho hz hd he)
 ·rename_i ty x ho
  obtain⟨ax,hx,rfl⟩:=bin1_spec hp
  cases rr with
  |none=>exact fin (r:=oBox σ t (asV (σ.ev ax))) hW (fun p σ' he hpp=>snd_box h ho hx hd he)
  |some k=>
   cases k with
   |zero=>exact fin2 (snd_newB h ho hx hd hW)
   |succ k=>exact fin (r:=oBoxAt (k+1) σ t (asV (σ.ev ax))) hW (fun p σ' he hpp=>snd_boxAt h ho hx hd he)
 ·rename_i ty ps ho
  split at hp
  ·rename_i z fs as hz hu hps
   split at hp
   ·rename_i hk;cases hp
    exact fin hW (fun p σ' he hpp=>snd_build h ho hz hu hk hps hd he (partsOk_info hk))
   ·cases hp
  ·rename_i k n xs n' e as hz hu hps
   split at hp
   ·rename_i g hs;cases hp
    exact fin hW (fun p σ' he hpp=>snd_buildA h ho hz hu hs hps hd he)
   ·cases hp
  ·cases hp
 ·rename_i ty len ps ho
  split at hp
  ·rename_i e hu
   split at hp
   ·rename_i z sz g as hz hq hps
    split at hp
    ·rename_i hc
     split at hp
     ·rename_i hz0
      obtain⟨_,rfl,hz0⟩:=hz0
      have has:as=[]:=by simpa using hz0
      subst has
      cases hp
      have hW:ranO (some (True,σ.put t .e0)) K:=hW
      refine fin hW (fun p σ' he hpp=> ?_)
      cases he
      exact snd_emp h ho hu hz hq hps hd
     split at hp
     ·cases hp
      exact fin hW (fun p σ' he hpp=>snd_buildR h ho hu hz hq hc.1 hc.2.1 hc.2.2 hps hd he)
     ·cases hp
      exact fin hW (fun p σ' he hpp=>snd_buildS h ho hu hz hq hc.1 hc.2.1 hc.2.2 hps hd he)
    ·cases hp
   ·cases hp
  ·cases hp
 ·rename_i ty x ho
  split at hp
  ·rename_i n g hs
   obtain⟨ax,hx,rfl⟩:=bin1_spec hp
   exact fin hW (fun p σ' he hpp=>snd_load h ho hs hx hd (by rw[htab];exact he))
  ·cases hp
 ·rename_i ty x y ho
  split at hp
  ·rename_i n g hs hn
   obtain⟨ax,ay,hx,hy,rfl⟩:=bin2_spec hp
   exact fin hW (fun p σ' he hpp=>snd_store h ho hs hn hx hy he)
  ·cases hp
 ·rename_i x ho
  obtain⟨ax,hx,rfl⟩:=bin1_spec hp
  exact fin hW (fun p σ' he hpp=>snd_nilc h ho hx hd he)
 ·rename_i op ty x y ty' ho
  split at hp
  ·obtain⟨ax,ay,hx,hy,rfl⟩:=bin2_spec hp
   exact fin hW (fun p σ' he hpp=>snd_bin h ho hx hy hd he hpp)
  ·obtain⟨ax,ay,hx,hy,rfl⟩:=bin2_spec hp
   exact fin hW (fun p σ' he hpp=>snd_bin h ho hx hy hd he hpp)
  ·rename_i hu
   obtain⟨ax,ay,hx,hy,rfl⟩:=bin2_spec hp
   exact fin hW (fun p σ' he hpp=>snd_binB h ho hu hx hy hd he hpp)
  ·rename_i e hu
   obtain⟨ax,ay,hx,hy,rfl⟩:=bin2_spec hp
   exact fin hW (fun p σ' he hpp=>snd_binP h ho hu hx hy hd he hpp)
  ·rename_i e hu
   split at hp
   ·obtain⟨ax,hx,rfl⟩:=bin1_spec hp
    exact fin2 (snd_nil (neg:=false) h ho hu hx hd hW)
   ·obtain⟨ax,hx,rfl⟩:=bin1_spec hp
    exact fin2 (snd_nil (neg:=true) h ho hu hx hd hW)
   ·cases hp
  ·rename_i fs hu
   split at hp
   ·rename_i e hE
    split at hp
    ·cases hp
    ·rename_i hg
     split at hp
     ·obtain⟨ax,ay,hx,hy,rfl⟩:=bin2_spec hp
      exact fin hW (fun p σ' he hpp=>snd_eqa (neg:=false) h ho ⟨fs,.inl hu⟩ hE (by simpa using hg) hx hy hd he)
     ·obtain⟨ax,ay,hx,hy,rfl⟩:=bin2_spec hp
      exact fin hW (fun p σ' he hpp=>snd_eqa (neg:=true) h ho ⟨fs,.inl hu⟩ hE (by simpa using hg) hx hy hd he)
     ·cases hp
   ·cases hp
  ·rename_i n el hu
   split at hp
   ·rename_i e hE
    split at hp
    ·cases hp
    ·rename_i hg
     split at hp
     ·obtain⟨ax,ay,hx,hy,rfl⟩:=bin2_spec hp
      exact fin hW (fun p σ' he hpp=>snd_eqa (neg:=false) h ho ⟨#[],.inr ⟨n,el,hu⟩⟩ hE (by simpa using hg) hx hy hd he)
     ·obtain⟨ax,ay,hx,hy,rfl⟩:=bin2_spec hp
      exact fin hW (fun p σ' he hpp=>snd_eqa (neg:=true) h ho ⟨#[],.inr ⟨n,el,hu⟩⟩ hE (by simpa using hg) hx hy hd he)
     ·cases hp
   ·cases hp
  ·cases hp
 ·rename_i op ty x ho
  obtain⟨ax,hx,rfl⟩:=bin1_spec hp
  exact fin hW (fun p σ' he hpp=>snd_un h ho hx hd he)
 ·rename_i s ty x ho
  split at hp
  ·rename_i ks k hs hk
   obtain⟨ax,hx,rfl⟩:=bin1_spec hp
   exact fin hW (fun p σ' he hpp=>snd_conv h ho hs hk hx hd he)
  ·rename_i e0 e hs hk
   split at hp
   ·rename_i h8
    split at hp
    ·rename_i hst;subst hst
     obtain⟨ax,hx,rfl⟩:=bin1_spec hp
     exact fin hW (fun p σ' he hpp=>snd_cvt h ho hk h8 hx hd he)
    ·cases hp
   ·cases hp
  ·rename_i e hs hk
   split at hp
   ·rename_i h8
    obtain⟨ax,hx,rfl⟩:=bin1_spec hp
    exact fin hW (fun p σ' he hpp=>snd_s2b h ho hs hk h8 hx hd he)
   ·cases hp
  ·rename_i e hs hk
   split at hp
   ·rename_i h8
    obtain⟨ax,hx,rfl⟩:=bin1_spec hp
    exact fin hW (fun p σ' he hpp=>snd_b2s h ho hs hk h8 hx hd he)
   ·cases hp
  ·cases hp
 ·rename_i s x f ho
  split at hp
  ·rename_i fs hs
   split at hp
   ·rename_i fd hf
    split at hp
    ·rename_i i hi
     split at hp
     ·cases hp
     ·rename_i hn
      split at hp
      ·rename_i h0
       obtain⟨ax,hx,rfl⟩:=bin1_spec hp
       exact fin hW (fun p σ' he hpp=>snd_fad0 h ho hs hf hi hn h0.2 hx hd he)
      obtain⟨ax,hx,rfl⟩:=bin1_spec hp
      exact fin hW (fun p σ' he hpp=>snd_fadr h ho hs hf hi hn hx hd (by rw[htab];exact he))
    ·cases hp
   ·cases hp
  ·cases hp
 ·rename_i s x f ho
  split at hp
  ·rename_i fs hs
   split at hp
   ·rename_i fd hf
    split at hp
    ·rename_i n g hq
     obtain⟨ax,hx,rfl⟩:=bin1_spec hp
     exact fin hW (fun p σ' he hpp=>snd_fld h ho hs hf hq hx hd he)
    ·cases hp
   ·cases hp
  ·cases hp
 ·rename_i ty x y ho
  split at hp
  ·rename_i n e hu
   split at hp
   ·rename_i hs
    obtain⟨ax,ay,hx,hy,rfl⟩:=bin2_spec hp
    split at hW
    ·exact fin hW (fun p σ' he hpp=>snd_iadrA h ho hu hs hx hy hd (by rw[htab];exact he) hpp)
    ·exact fin hW (fun p σ' he hpp=>snd_iadrG h ho hu hs hx hy hd (by rw[htab];exact he) hpp)
   ·rename_i sz hs
    obtain⟨ax,ay,hx,hy,rfl⟩:=bin2_spec hp
    exact fin hW (fun p σ' he hpp=>snd_iadrG h ho hu hs hx hy hd (by rw[htab];exact he) hpp)
   ·cases hp
  ·rename_i e hu
   split at hp
   ·rename_i n g hs
    obtain⟨ax,ay,hx,hy,rfl⟩:=bin2_spec hp
    exact fin hW (fun p σ' he hpp=>snd_iadrS h ho hu hs hx hy hd he hpp)
   ·cases hp
  ·cases hp
 ·rename_i ty x y ho
  split at hp
  ·rename_i hu
   obtain⟨ax,ay,hx,hy,rfl⟩:=bin2_spec hp
   exact fin hW (fun p σ' he hpp=>snd_idxS h ho hu hx hy hd he hpp)
  ·rename_i n e hu
   split at hp
   ·rename_i hs
    obtain⟨ax,ay,hx,hy,rfl⟩:=bin2_spec hp
    exact fin hW (fun p σ' he hpp=>snd_idxA h ho hu hs hx hy hd he hpp)
   ·cases hp
  ·cases hp
 ·rename_i ty x lo hi mx ho
  split at hp
  ·rename_i n e hu
   split at hp
   ·rename_i g hs
    obtain⟨ax,al,ah,am,hx,hlo,hhi,hmx,rfl⟩:=prepSlc_spec hp
    exact fin hW (fun p σ' he hpp=>snd_slcA h ho hu hs hx hlo hhi hmx hd he hpp)
   ·cases hp
  ·rename_i e hu
   split at hp
   ·rename_i n g hs
    split at hp
    ·rename_i hz3
     obtain⟨k1,k2,rfl,rfl,rfl⟩:=isZ3_spec hz3
     obtain⟨ax,hx,rfl⟩:=bin1_spec hp
     exact fin hW (fun p σ' he hpp=>snd_slcZ h ho hu hs hx hd he)
    split at hp
    ·split at hp
     ·obtain⟨ax,ah,hx,hh,rfl⟩:=bin2_spec hp
      exact fin hW (fun p σ' he hpp=>snd_cutG h ho hu hs hx hh hd he hpp)
     ·obtain⟨ax,al,ah,am,hx,hlo,hhi,hmx,rfl⟩:=prepSlc_spec hp
      exact fin hW (fun p σ' he hpp=>snd_slcS h ho hu hs hx hlo hhi hmx hd he hpp)
    obtain⟨ax,al,ah,am,hx,hlo,hhi,hmx,rfl⟩:=prepSlc_spec hp
    exact fin hW (fun p σ' he hpp=>snd_slcS h ho hu hs hx hlo hhi hmx hd he hpp)
   ·cases hp
  ·rename_i hu
   split at hp
   ·obtain⟨ax,al,ah,am,hx,hlo,hhi,hmx,rfl⟩:=prepSlc_spec hp
    exact fin hW (fun p σ' he hpp=>snd_slcT h ho hu hx hlo hhi hd he hpp)
   ·cases hp
  ·cases hp
 ·rename_i x i ho
  obtain⟨ax,hx,rfl⟩:=bin1_spec hp
  exact fin hW (fun p σ' he hpp=>snd_ext h ho hx hd he)
 ·rename_i ty x ho
  split at hp
  ·rename_i n e hu
   split at hp
   ·split at hp
    ·cases hp
    ·rename_i hn
     obtain⟨ax,hx,rfl⟩:=bin1_spec hp
     exact fin hW (fun p σ' he hpp=>snd_s2a (g:=false) h ho hu hn hx hd he hpp)
   ·cases hp
  ·cases hp
 ·rename_i ty l r ho
  split at hp
  ·rename_i e hu
   split at hp
   ·rename_i z sz g i hz hq hi
    split at hp
    ·rename_i hc
     obtain⟨ax,ay,hx,hy,rfl⟩:=bin2_spec hp
     exact fin hW (fun p σ' he hpp=>snd_mkS h ho hu hq hi hz hc.1 hc.2.1 hc.2.2.1 (kOk_spec hc.2.2.2) hx hy hd he hpp)
    ·cases hp
   ·cases hp
  ·cases hp
 ·rename_i args tys ho
  split at hp
  ·rename_i x ha hb
   obtain⟨ty,hty,hu⟩:=bindU hb
   obtain⟨ax,hx,rfl⟩:=bin1_spec hp
   exact fin hW (fun p σ' he hpp=>snd_lenT h ho ha hty hu hx hd he)
  ·rename_i x e ha hb
   obtain⟨ty,hty,hu⟩:=bindU hb
   obtain⟨ax,hx,rfl⟩:=bin1_spec hp
   exact fin hW (fun p σ' he hpp=>snd_len h ho ha hty hu hx hd he)
  ·cases hp
 ·rename_i args tys ho
  split at hp
  ·rename_i x e ha hb
   obtain⟨ty,hty,hu⟩:=bindU hb
   obtain⟨ax,hx,rfl⟩:=bin1_spec hp
   exact fin hW (fun p σ' he hpp=>snd_capN h ho ha hty hu hx hd he)
  ·cases hp
 ·rename_i args tys ho
  split at hp
  ·rename_i x y e e2 ha hb hb2
   obtain⟨ty,hty,hu⟩:=bindU hb
   obtain⟨ty2,hty2,hu2⟩:=bindU hb2
   split at hp
   ·rename_i sz g i z hq hi hz
    split at hp
    ·cases hp
    ·rename_i hc
     simp only[not_or,Bool.not_eq_false]at hc
     obtain⟨ax,ay,hx,hy,rfl⟩:=bin2_spec hp
     unfold appOf at hW
     split at hW
     ·exact fin2 (snd_appR h ⟨ho,ha,hty,hty2,hu,hu2,.inl ⟨e2,rfl⟩,hq,hi,hz,hc.1,by omega,hc.2.2.1,hx,hy,hd⟩ hW)
     ·exact fin hW (fun p σ' he hpp=>snd_appI h ⟨ho,ha,hty,hty2,hu,hu2,.inl ⟨e2,rfl⟩,hq,hi,hz,hc.1,by omega,hc.2.2.1,hx,hy,hd⟩ he hpp)
     exact fin hW (fun p σ' he hpp=>snd_app h ho ha hty hty2 hu hu2 (.inl ⟨e2,rfl⟩) hq hi hz hc.1 (by omega) hc.2.2.1 (fun k' hk=>(kOk_spec hc.2.2.2 k' hk).1) hx hy hd he hpp)
   ·cases hp
  ·rename_i x y e ha hb hb2
   obtain⟨ty,hty,hu⟩:=bindU hb
   obtain⟨ty2,hty2,hu2⟩:=bindU hb2
   split at hp
   ·rename_i sz g i z hq hi hz
    split at hp
    ·cases hp
    ·rename_i hc
     simp only[not_or,Bool.not_eq_false]at hc
     obtain⟨ax,ay,hx,hy,rfl⟩:=bin2_spec hp
     unfold appOf at hW
     split at hW
     ·exact fin2 (snd_appR h ⟨ho,ha,hty,hty2,hu,hu2,.inr rfl,hq,hi,hz,hc.1,by omega,hc.2.2.1,hx,hy,hd⟩ hW)
     ·exact fin hW (fun p σ' he hpp=>snd_appI h ⟨ho,ha,hty,hty2,hu,hu2,.inr rfl,hq,hi,hz,hc.1,by omega,hc.2.2.1,hx,hy,hd⟩ he hpp)
     exact fin hW (fun p σ' he hpp=>snd_app h ho ha hty hty2 hu hu2 (.inr rfl) hq hi hz hc.1 (by omega) hc.2.2.1 (fun k' hk=>(kOk_spec hc.2.2.2 k' hk).1) hx hy hd he hpp)
   ·cases hp
  ·rename_i x y e ks ha hb hb2
   obtain⟨ty,hty,hu⟩:=bindU hb
   obtain⟨ty2,hty2,hu2⟩:=bindU hb2
   split at hp
   ·rename_i sz g i z hq hi hz
    split at hp
    ·cases hp
    ·rename_i hc
     simp only[not_or,Bool.not_eq_false]at hc
     obtain⟨ax,ay,hx,hy,rfl⟩:=bin2_spec hp
     split at hW
     ·exact fin hW (fun p σ' he hpp=>snd_appG h ho ha hty hty2 hu hu2 hq hi hz hc.1 (by omega) hc.2.2.1 (kOk_spec hc.2.2.2) hx hy hd he hpp)
     exact fin hW (fun p σ' he hpp=>snd_appZ h ho ha hty hty2 hu hu2 hq hi hz hc.1 (by omega) hc.2.2.1 (kOk_spec hc.2.2.2) hx hy hd he hpp)
   ·cases hp
  ·cases hp
 ·rename_i args tys ho
  split at hp
  ·rename_i x y e ha hb
   obtain⟨ty,hty,hu⟩:=bindU hb
   split at hp
   ·rename_i g hq
    obtain⟨ax,ay,hx,hy,rfl⟩:=bin2_spec hp
    exact fin hW (fun p σ' he hpp=>snd_copy h ho ha hty hu hq hx hy hd he)
   ·cases hp
  ·cases hp
 ·rename_i args tys ho
  obtain⟨as,hx,rfl⟩:=Option.map_eq_some_iff.1 hp
  exact fin hW (fun p σ' he hpp=>snd_mm (mx:=true) h ho hx hd he)
 ·rename_i args tys ho
  obtain⟨as,hx,rfl⟩:=Option.map_eq_some_iff.1 hp
  exact fin hW (fun p σ' he hpp=>snd_mm (mx:=false) h ho hx hd he)
 ·rename_i g args tys ho
  split at hp
  ·rename_i hg
   obtain⟨as,hx,hpo⟩:=Option.map_eq_some_iff.1 hp
   have hW:callO C g (σ.evs as) K σ t:=by
    split at hpo<;>subst hpo<;>exact hW
   cases hv:σ.evs as with
   |none=>rw[hv]at hW;exact hW.elim
   |some vs=>
    rw[hv]at hW
    have hc:=call_sound hC h hP htab hx hv hd hW
    unfold Oper.wp;rw[run_callOp ho hg,Oper.upon_enter]
    rw[hP]
    refine Calls.mono hc ?_
    rintro e w' ⟨v,σ',m',rfl,h1,h2⟩
    exact hK σ' m' _ _ h2 h1
  ·unfold prepAtom at hp
   split at hp
   ·rename_i x hk ha
    obtain⟨ax,hx,rfl⟩:=bin1_spec hp
    exact fin hW (fun p σ' he hpp=>snd_atLd h ho ha hk hx hd (by rw[htab];exact he))
   ·rename_i x y hk ha
    obtain⟨ax,ay,hx,hy,rfl⟩:=bin2_spec hp
    exact fin hW (fun p σ' he hpp=>snd_atSt h ho ha hk hx hy hd he)
   ·rename_i x y hk ha
    obtain⟨ax,ay,hx,hy,rfl⟩:=bin2_spec hp
    exact fin hW (fun p σ' he hpp=>snd_atAdd h ho ha hk hx hy hd (by rw[htab];exact he))
   ·cases hp
 ·rename_i f args tys ho
  split at hp
  ·rename_i x as hx ha
   cases hp
   have hW:callVK C (calleeOk E.P) K σ t (asV (σ.ev x)) (σ.evs as):=hW
   unfold callVK at hW
   split at hW
   ·rename_i ff caps vs hf hv
    obtain⟨hok,hW⟩:=hW
    obtain⟨cs,e1,hc⟩:=callV_sound hC h hP htab hx hf ha hv hd hW
    unfold Oper.wp;rw[run_callVOp ho e1 (by rw[hP];exact hok),Oper.upon_enter]
    rw[hP]
    refine Calls.mono hc ?_
    rintro e w' ⟨v,σ',m',rfl,h1,h2⟩
    exact hK σ' m' _ _ h2 h1
   ·exact hW.elim
  ·cases hp
 ·rename_i args tys ho
  split at hp
  ·rename_i x e ha hb hn
   obtain⟨ty,hty,hu⟩:=bindU hb
   split at hp
   ·rename_i sz g z hq hz
    split at hp
    ·cases hp
    ·rename_i hsz
     obtain⟨ax,hx,rfl⟩:=bin1_spec hp
     exact fin hW (fun p σ' he hpp=>snd_clr h ho ha hty hu hq hz hsz hx hd he hpp)
   ·cases hp
  ·cases hp
 ·rename_i f first captured ho
  split at hp
  ·rename_i h1
   obtain⟨as,hx,rfl⟩:=Option.map_eq_some_iff.1 hp
   exact fin hW (fun p σ' he hpp=>snd_mkFn h ho h1 hx hd he)
  ·cases hp
 ·cases hp
end ops
end Go.Abs
namespace Go.Abs
open Go Go.RowKit
set_option linter.unusedVariables false
set_option linter.unusedSimpArgs false
theorem keepL_len:∀(n:Nat) (ks:List Nat) (l:List (Option D)),(keepL n ks l).length=l.length
 |n,ks,[]=>rfl
 |n,ks,o::l=>by simp[keepL,keepL_len (n+1) ks l]
theorem keepL_get:∀(n:Nat) (ks:List Nat) (l:List (Option D)) (t:Nat) d,(keepL n ks l)[t]? =some (some d)→l[t]? =some (some d)
 |n,ks,[],t,d,h=>by simp[keepL]at h
 |n,ks,o::l,0,d,h=>by
  simp only[keepL,List.getElem?_cons_zero,Option.some.injEq]at h⊢
  split at h
  ·exact h
  ·cases h
 |n,ks,o::l,t+1,d,h=>by
  simp only[keepL,List.getElem?_cons_succ]at h⊢
  exact keepL_get (n+1) ks l t d h
theorem InvW.keep {c m σ a w} (h:InvW c m σ a w) (ks:List Nat):InvW c m (σ.keep ks) a w:=
 { h with
  vsN:=by simpa [St.keep,keepL_len]using h.vsN
  vsK:=by simpa [St.keep,keepL_len]using h.vsK
  envV:=fun t d hd=>h.envV t d (keepL_get 0 ks σ.vs t d hd)
  envT:=fun t d hd=>by simp[St.keep,look]at hd }
theorem InvW.clear {c m σ a w} (h:InvW c m σ a w):InvW c m { σ with ts:=[] } a w:=
 { h with envT:=fun t d hd=>by simp[look]at hd }
theorem InvW.again {c m σ a w} (h:InvW c m σ a w) {ao:AO} {d:D} (he:σ.ev ao=some d):InvW c m (σ.put ao.ad d) a w:=h.reset he fun _ _ hr=>hr
section
variable {E:Env} {C:Spec} {c:Ctx} {m:Mem} {σ:St} {a:Act} {w:World}
theorem prepG_spec {K:Nat} {ops:Array Oper} {j:Nat} {want:Bool} {g:Option (AO×Bool)} (h:prepG K ops.toList (some (j,want))=some g):
  ∃t,(ops[j]?).bind (·.dst)=some t∧g=some (if t < K then .v t else .t t,want):=by
 simp only[prepG,Array.getElem?_toList]at h
 split at h
 ·rename_i t ht;cases h;exact⟨t,ht,rfl⟩
 ·cases h
theorem tmps_get {a:Act} {t N:Nat} (hs:a.tmps.size=N) (ht:t < N):a.tmps[t]? =some (a.tmps.getD t undef):=by
 rw[Array.getD_eq_getD_getElem?,Array.getElem?_eq_getElem (by omega)];rfl
theorem ev_tmp (h:InvW c m σ a w) {K t:Nat} {d:D} (he:σ.ev (if t < K then .v t else .t t)=some d):t < c.N∧RepD c m w σ.L σ.G t d (a.tmps.getD t undef):=by
 split at he
 ·simp only[St.ev]at he
  have hg:=getv_get _ _ _ he
  have:=(List.getElem?_eq_some_iff.1 hg).1
  exact⟨Nat.lt_of_lt_of_le this h.vsN,h.envV t d hg⟩
 ·simp only[St.ev]at he
  obtain⟨h1,h2,h3⟩:=h.envT t d he
  exact⟨h2,h3⟩
theorem Wops_sound {es:List Nat} (hC:C.Sound E) (hP:c.P=E.P) (htab:c.tab=E.tab) {ops:Array Oper} {QQ:Exit→Act→World→Prop} {KK:St→Prop}
  (hQ:∀σ' m' a' w',InvW c m' σ' a' w'→KK σ'→QQ .normal a' w'):∀(l:List Oper) (i:Nat) (is:List PI) (σ:St) (m:Mem) (a:Act) (w:World),
  ops.toList.drop i=l→prepIs c.P c.K c.N es false ops.toList l=some is→InvW c m σ a w→Wops E C is KK σ→wpOps c.P ops QQ (List.range' i l.length) a w
 |[],i,is,σ,m,a,w,hl,hp,h,hW=>by
  simp only[prepIs]at hp;cases hp
  simp only[List.length_nil,List.range'_zero,wpOps]
  exact hQ σ m a w h hW
 |o::l,i,is,σ,m,a,w,hl,hp,h,hW=>by
  simp only[prepIs]at hp
  cases h1:prepI c.P c.K c.N ops.toList (rOf es false (cntA (o::l)) o.dst) o with
  |none=>simp[h1,consO]at hp
  |some pi=>
   cases h2:prepIs c.P c.K c.N es false ops.toList l with
   |none=>simp[h1,h2,consO]at hp
   |some is'=>
    simp only[h1,h2,consO]at hp;cases hp
    have hlt:i < ops.toList.length:=by
     apply Classical.byContradiction;intro hn
     rw[List.drop_eq_nil_of_le (by omega)]at hl;cases hl
    have hoi:ops[i]? =some o:=by
     rw[List.drop_eq_getElem_cons hlt]at hl
     simp only[List.cons.injEq]at hl
     rw[←Array.getElem?_toList,List.getElem?_eq_getElem hlt,hl.1]
    have hl':ops.toList.drop (i+1)=l:=by
     rw[List.drop_eq_getElem_cons hlt]at hl
     simp only[List.cons.injEq]at hl;exact hl.2
    unfold prepI at h1
    split at h1
    ·rename_i t g hd hg
     cases h1
     simp only[List.length_cons,List.range'_succ,wpOps,hoi]
     have ih:∀σ' m' a' w',InvW c m' σ' a' w'→Wops E C is' KK σ'→wpOps c.P ops QQ (List.range' (i+1) l.length) a' w':=fun σ' m' a' w' h' hW'=>Wops_sound hC hP htab hQ l (i+1) is' σ' m' a' w' hl' h2 h' hW'
     have go:∀σ,InvW c m σ a w→Wop E C t ((prepOp c.P c.K ops.toList (rOf es false (cntA (o::l)) o.dst) o).getD .bad) (Wops E C is' KK) σ→o.wp c.P a w (wpOps c.P ops QQ (List.range' (i+1) l.length)) QQ:=by
      intro σ h hW
      cases hpo:prepOp c.P c.K ops.toList (rOf es false (cntA (o::l)) o.dst) o with
      |none=>rw[hpo]at hW;exact False.elim hW
      |some po=>
       rw[hpo]at hW
       exact Wop_sound hC h hP htab (by rw[h.vsK];exact hpo) (by rw[h.vsK];exact hd) hW ih
     have skip:∀σ,InvW c m σ a w→skipK t (Wops E C is' KK) σ→wpOps c.P ops QQ (List.range' (i+1) l.length) (a.put o.dst undef) w:=by
      intro σ h hW
      exact ih _ m _ w (h.put (by rw[h.vsK];exact hd) (d:= .un) (v:=undef) rfl) hW
     cases hgd:o.guard with
     |none=>
      rw[hgd]at hg;simp only[prepG]at hg;cases hg
      have hwant:Region.wanted o (yielded ops a.tmps)=true:=by simp[Region.wanted,hgd]
      rw[if_pos hwant]
      exact .inl (go σ h hW)
     |some jw=>
      obtain⟨j,want⟩:=jw
      rw[hgd]at hg
      obtain⟨s,hs,rfl⟩:=prepG_spec hg
      replace hW:guardO (if s < c.K then .v s else .t s) want (σ.ev (if s < c.K then .v s else .t s)) (Wop E C t ((prepOp c.P c.K ops.toList (rOf es false (cntA (o::l)) o.dst) o).getD .bad) (Wops E C is' KK)) (skipK t (Wops E C is' KK)) σ:=hW
      have hy:∀d,σ.ev (if s < c.K then .v s else .t s)=some d→(∀b,d= .v (.bool b)→yielded ops a.tmps j=some b)∧(d= .un→yielded ops a.tmps j=none):=by
       intro d hd
       obtain⟨e1,e2⟩:=ev_tmp h hd
       have e3:=tmps_get h.size e1
       refine⟨fun b hb=> ?_,fun hb=> ?_⟩
       ·subst hb
        have e2:RepW w _ (.bool b) _:=e2
        simp only[RepW,V.isAgg,Bool.false_eq_true,if_false,RepV,List.cons.injEq,and_true]at e2
        simp only[yielded,hs,Option.bind_some,e3,e2]
       ·subst hb
        have e2:_=undef:=e2
        simp only[yielded,hs,Option.bind_some,e3];rw[e2];rfl
      cases hev:σ.ev (if s < c.K then .v s else .t s)with
      |none=>rw[hev]at hW;exact hW.elim
      |some d=>
       obtain⟨y1,y2⟩:=hy d hev
       rw[hev]at hW
       simp only[guardO]at hW
       split at hW
       ·rename_i e;cases e
        have y:=y1 true rfl
        have h':=h.again hev
        split at hW
        ·rename_i hw;subst hw
         have hwant:Region.wanted o (yielded ops a.tmps)=true:=by simp[Region.wanted,hgd,y]
         rw[if_pos hwant];exact .inl (go _ h' hW)
        ·rename_i hw
         have hwant:Region.wanted o (yielded ops a.tmps)=false:=by cases want<;>simp_all [Region.wanted]
         rw[if_neg (by rw[hwant];exact Bool.false_ne_true)];exact skip _ h' hW
       ·rename_i e;cases e
        have y:=y1 false rfl
        have h':=h.again hev
        split at hW
        ·rename_i hw;subst hw
         have hwant:Region.wanted o (yielded ops a.tmps)=false:=by simp[Region.wanted,hgd,y]
         rw[if_neg (by rw[hwant];exact Bool.false_ne_true)];exact skip _ h' hW
        ·rename_i hw
         have hwant:Region.wanted o (yielded ops a.tmps)=true:=by cases want<;>simp_all [Region.wanted]
         rw[if_pos hwant];exact .inl (go _ h' hW)
       ·rename_i e;cases e
        have y:=y2 rfl
        have hwant:Region.wanted o (yielded ops a.tmps)=false:=by simp[Region.wanted,hgd,y]
        rw[if_neg (by rw[hwant];exact Bool.false_ne_true)];exact skip _ h hW
       ·exact hW.elim
    ·cases h1
end
end Go.Abs
namespace Go.Abs
open Go Go.RowKit
set_option linter.unusedVariables false
set_option linter.unusedSimpArgs false
structure Dl where
 f:AD×D
 d:AD×D
 L:Option (Nat×Bx)
 G:Option (Nat×V)
def memL:Option (Nat×Bx)→List Bx→List Bx
 |none,l=>l
 |some (k,b),l=>l.set k b
def memG:Option (Nat×V)→List (Nat×V)→List (Nat×V)
 |none,g=>g
 |some (id,x),g=>upd g id x
def Dl.app (δ:Dl) (σ:St):St:=(({ σ with L:=memL δ.L σ.L,G:=memG δ.G σ.G }:St).put δ.f.1 δ.f.2).put δ.d.1 δ.d.2
def Dl.slot (t:AD) (d:D):Dl:=⟨(.no,.un),(t,d),none,none⟩
structure Agree (rd:List Nat) (F:Foot) (σ σ2:St):Prop where
 v:∀t∈rd,getv σ2.vs t=getv σ.vs t∧look σ2.ts t=look σ.ts t
 len:σ2.L.length=σ.L.length
 eq:∀k,F.r=some k∨F.w=some k∨F.n=some k→σ2.L[k]? =σ.L[k]?
 sh:∀k r,F.s=some k→σ.L[k]? =some r→∃r',σ2.L[k]? =some r'∧r.x.same r'.x=true
 g:F.gr=true∨F.gw=true→σ2.G=σ.G
 gs:∀id r,look σ.G id=some r→∃r',look σ2.G id=some r'∧r.same r'=true
theorem Agree.ev {rd F σ σ2} (h:Agree rd F σ σ2) {x:AO} (hx:∀t∈aoN x,t∈rd):σ2.ev x=σ.ev x:=by
 cases x with
 |v t=>exact (h.v t (hx t (by simp[aoN]))).1
 |t t=>exact (h.v t (hx t (by simp[aoN]))).2
 |c d=>rfl
structure Local (tab:List (Nat×V)) (o:PO) (t:AD) (σ:St) (δ:Dl):Prop where
 dst:δ.d.1=t∨δ.d.1= .no
 feed:∀s∈adN δ.f.1,s∈fdO o
 mem:∀k b,δ.L=some (k,b)→(foot σ o).w=some k∨(foot σ o).n=some k
 shp:∀k b r,δ.L=some (k,b)→(foot σ o).n≠some k→σ.L[k]? =some r→r.x.same b.x=true
 obj:δ.G.isSome=true→(foot σ o).gw=true
 gsh:∀id x,δ.G=some (id,x)→∃r,look σ.G id=some r∧r.same x=true
 go:∀σ2,Agree (rdO o) (foot σ o) σ σ2→∃p2,evalOp tab o t σ2=some (p2,δ.app σ2)∧p2
theorem Local.slot {tab o t σ d} (h:∀σ2,Agree (rdO o) (foot σ o) σ σ2→∃p2,evalOp tab o t σ2=some (p2,σ2.put t d)∧p2):Local tab o t σ (Dl.slot t d) where
 dst:= .inl rfl
 feed:=fun s hs=>by simp[Dl.slot,adN]at hs
 mem:=fun k b h=>by cases h
 shp:=fun k b r h=>by cases h
 obj:=fun h=>by simp[Dl.slot]at h
 gsh:=fun id x h=>by cases h
 go:=h
theorem Agree.refl (rd F σ):Agree rd F σ σ:=⟨fun _ _=>⟨rfl,rfl⟩,rfl,fun _ _=>rfl,fun k r _ h=>⟨r,h,V.same_refl _⟩,fun _=>rfl,fun id r h=>⟨r,h,V.same_refl _⟩⟩
theorem evs_agree {rd F σ σ2} (h:Agree rd F σ σ2):∀{xs:List AO},(∀t∈xs.flatMap aoN,t∈rd)→σ2.evs xs=σ.evs xs
 |[],_=>rfl
 |x::xs,hx=>by
  simp only[St.evs]
  rw[h.ev (fun t ht=>hx t (by simp only[List.flatMap_cons,List.mem_append];exact .inl ht)),evs_agree h (fun t ht=>hx t (by simp only[List.flatMap_cons,List.mem_append];exact .inr ht))]
theorem parts_agree {rd F σ σ2} (h:Agree rd F σ σ2):∀{ps:List (Nat×AO)},(∀t∈ps.flatMap (fun p=>aoN p.2),t∈rd)→σ2.parts ps=σ.parts ps
 |[],_=>rfl
 |(i,x)::ps,hx=>by
  simp only[St.parts]
  rw[h.ev (fun t ht=>hx t (by simp only[List.flatMap_cons,List.mem_append];exact .inl ht)),parts_agree h (fun t ht=>hx t (by simp only[List.flatMap_cons,List.mem_append];exact .inr ht))]
theorem opt_agree {rd F σ σ2} (h:Agree rd F σ σ2) {x:Option AO} (hx:∀t∈opN x,t∈rd) (d:Int):σ2.opt x d=σ.opt x d:=by
 cases x with
 |none=>rfl
 |some y=>simp only[St.opt];rw[h.ev hx]
theorem opt2_agree {rd F σ σ2} (h:Agree rd F σ σ2) {x:Option AO} (hx:∀t∈opN x,t∈rd):σ2.opt2 x=σ.opt2 x:=by
 cases x with
 |none=>rfl
 |some y=>simp only[St.opt2];rw[h.ev hx]
/-! results that are put in a slot -/
theorem putPV_loc {σ σ' t o p} (h:putPV σ t o=some (p,σ')):∃d,σ'=σ.put t d∧∀σ2:St,putPV σ2 t o=some (p,σ2.put t d):=by
 cases o with
 |none=>cases h
 |some q=>obtain⟨q,x⟩:=q;simp only[putPV]at h⊢;cases h;exact⟨_,rfl,fun _=>rfl⟩
theorem putVO_loc {σ σ' t o p} (h:putVO σ t o=some (p,σ')):∃d,σ'=σ.put t d∧∀σ2:St,putVO σ2 t o=some (p,σ2.put t d):=by
 cases o with
 |none=>cases h
 |some q=>simp only[putVO]at h⊢;cases h;exact⟨_,rfl,fun _=>rfl⟩
theorem putO_loc {σ σ' t q o p} (h:putO σ t q o=some (p,σ')):∃d,σ'=σ.put t d∧∀σ2:St,putO σ2 t q o=some (p,σ2.put t d):=by
 cases o with
 |none=>cases h
 |some x=>simp only[putO]at h⊢;cases h;exact⟨_,rfl,fun _=>rfl⟩
end Go.Abs
namespace Go.Abs
open Go Go.RowKit
set_option linter.unusedVariables false
set_option linter.unusedSimpArgs false
theorem l1 {a b:List Nat}:∀t∈a,t∈a++b:=fun t h=>List.mem_append_left _ h
theorem l2 {a b:List Nat}:∀t∈b,t∈a++b:=fun t h=>List.mem_append_right _ h
theorem Local.of_putPV {tab:List (Nat×V)} {o:PO} {t:AD} {σ σ':St} {p:Prop} {f:St→Option (Prop×V)} (hf:∀σ,evalOp tab o t σ=putPV σ t (f σ)) (hag:∀σ2,Agree (rdO o) (foot σ o) σ σ2→f σ2=f σ)
  (he:evalOp tab o t σ=some (p,σ')) (hp:p):∃δ:Dl,σ'=δ.app σ∧Local tab o t σ δ:=by
 rw[hf]at he
 obtain⟨d,h1,h2⟩:=putPV_loc he
 exact⟨.slot t d,h1,.slot fun σ2 h=>⟨p,by rw[hf,hag σ2 h];exact h2 σ2,hp⟩⟩
theorem Local.of_putVO {tab:List (Nat×V)} {o:PO} {t:AD} {σ σ':St} {p:Prop} {f:St→Option V} (hf:∀σ,evalOp tab o t σ=putVO σ t (f σ)) (hag:∀σ2,Agree (rdO o) (foot σ o) σ σ2→f σ2=f σ)
  (he:evalOp tab o t σ=some (p,σ')) (hp:p):∃δ:Dl,σ'=δ.app σ∧Local tab o t σ δ:=by
 rw[hf]at he
 obtain⟨d,h1,h2⟩:=putVO_loc he
 exact⟨.slot t d,h1,.slot fun σ2 h=>⟨p,by rw[hf,hag σ2 h];exact h2 σ2,hp⟩⟩
theorem Local.of_fun {tab:List (Nat×V)} {o:PO} {t:AD} {σ σ':St} {p:Prop} {α:Type} {g:α→St→Res} {f:St→α} (hf:∀σ,evalOp tab o t σ=g (f σ) σ) (hag:∀σ2,Agree (rdO o) (foot σ o) σ σ2→f σ2=f σ)
  (hg:∀x σ p σ',g x σ=some (p,σ')→∃d,σ'=σ.put t d∧∀σ2:St,g x σ2=some (p,σ2.put t d))
  (he:evalOp tab o t σ=some (p,σ')) (hp:p):∃δ:Dl,σ'=δ.app σ∧Local tab o t σ δ:=by
 rw[hf]at he
 obtain⟨d,h1,h2⟩:=hg _ _ _ _ he
 exact⟨.slot t d,h1,.slot fun σ2 h=>⟨p,by rw[hf,hag σ2 h];exact h2 σ2,hp⟩⟩
theorem oConv_loc (k:IntKind) (t:AD):∀(x:Option V) σ p σ',oConv k σ t x=some (p,σ')→∃d,σ'=σ.put t d∧∀σ2:St,oConv k σ2 t x=some (p,σ2.put t d):=by
 intro x σ p σ' h
 unfold oConv at*;split at h<;>cases h;exact⟨_,rfl,fun _=>rfl⟩
theorem oNilc_loc (t:AD):∀(x:Option D) σ p σ',oNilc σ t x=some (p,σ')→∃d,σ'=σ.put t d∧∀σ2:St,oNilc σ2 t x=some (p,σ2.put t d):=by
 intro x σ p σ' h
 unfold oNilc at*;split at h<;>cases h<;>exact⟨_,rfl,fun _=>rfl⟩
theorem oElems_loc (k:Option IntKind) (sz:Nat) (t:AD):∀(x:Option V) σ p σ',oElems k sz σ t x=some (p,σ')→∃d,σ'=σ.put t d∧∀σ2:St,oElems k sz σ2 t x=some (p,σ2.put t d):=by
 intro x σ p σ' h
 unfold oElems at*;split at h
 ·exact putO_loc h
 ·cases h
theorem oBuild_loc (z:V) (t:AD):∀(x:Option (List (Nat×V))) σ p σ',oBuild z σ t x=some (p,σ')→∃d,σ'=σ.put t d∧∀σ2:St,oBuild z σ2 t x=some (p,σ2.put t d):=by
 intro x σ p σ' h
 unfold oBuild at*;split at h
 ·exact putVO_loc h
 ·cases h
theorem oBuildS_loc (k:Option IntKind) (sz:Nat) (z:V) (len:Nat) (t:AD):∀(x:Option (List (Nat×V))) σ p σ',oBuildS k sz z len σ t x=some (p,σ')→∃d,σ'=σ.put t d∧∀σ2:St,oBuildS k sz z len σ2 t x=some (p,σ2.put t d):=by
 intro x σ p σ' h
 unfold oBuildS at*;split at h
 ·exact oElems_loc _ _ _ _ _ _ _ h
 ·cases h
theorem oElemsR_loc (k:Option IntKind) (sz:Nat) (t:AD):∀(x:Option V) σ p σ',oElemsR k sz σ t x=some (p,σ')→∃d,σ'=σ.put t d∧∀σ2:St,oElemsR k sz σ2 t x=some (p,σ2.put t d):=by
 intro x σ p σ' h
 unfold oElemsR at*;split at h
 ·split at h
  ·rename_i hc
   obtain⟨d,h1,h2⟩:=putO_loc h
   exact⟨d,h1,fun σ2=>by rw[if_pos hc];exact h2 σ2⟩
  ·cases h
 ·cases h
theorem oBuildR_loc (k:Option IntKind) (sz:Nat) (z:V) (len:Nat) (t:AD):∀(x:Option (List (Nat×V))) σ p σ',oBuildR k sz z len σ t x=some (p,σ')→∃d,σ'=σ.put t d∧∀σ2:St,oBuildR k sz z len σ2 t x=some (p,σ2.put t d):=by
 intro x σ p σ' h
 unfold oBuildR at*;split at h
 ·exact oElemsR_loc _ _ _ _ _ _ _ h
 ·cases h
theorem oEqa_loc (neg:Bool) (e:ET) (t:AD):∀(x:Option V×Option V) σ p σ',oEqa neg e σ t x.1 x.2=some (p,σ')→∃d,σ'=σ.put t d∧∀σ2:St,oEqa neg e σ2 t x.1 x.2=some (p,σ2.put t d):=by
 intro x σ p σ' h
 unfold oEqa at*;split at h
 ·exact putVO_loc h
 ·cases h
theorem oField_loc (f off n:Nat) (ag:Bool) (t:AD):∀(x:Option V) σ p σ',oField f off n ag σ t x=some (p,σ')→∃d,σ'=σ.put t d∧∀σ2:St,oField f off n ag σ2 t x=some (p,σ2.put t d):=by
 intro x σ p σ' h
 unfold oField at*;split at h
 ·unfold oFld at*;split at h
  ·split at h
   ·rename_i hc;cases h;exact⟨_,rfl,fun _=>if_pos hc⟩
   ·cases h
  ·cases h
 ·cases h
theorem oIdxS_loc (t:AD):∀(x:Option V×Option Int) σ p σ',oIdxS σ t x.1 x.2=some (p,σ')→∃d,σ'=σ.put t d∧∀σ2:St,oIdxS σ2 t x.1 x.2=some (p,σ2.put t d):=by
 intro x σ p σ' h
 unfold oIdxS at*;split at h
 ·cases h;exact⟨_,rfl,fun _=>rfl⟩
 ·cases h
theorem oIdxA_loc (n:Nat) (t:AD):∀(x:Option V×Option Int) σ p σ',oIdxA n σ t x.1 x.2=some (p,σ')→∃d,σ'=σ.put t d∧∀σ2:St,oIdxA n σ2 t x.1 x.2=some (p,σ2.put t d):=by
 intro x σ p σ' h
 unfold oIdxA at*;split at h
 ·split at h
  ·rename_i hc;cases h;exact⟨_,rfl,fun _=>if_pos hc⟩
  ·cases h
 ·split at h
  ·rename_i hc;cases h;exact⟨_,rfl,fun _=>if_pos hc⟩
  ·cases h
 ·cases h
theorem oExt_loc (i:Nat) (t:AD):∀(x:Option D) σ p σ',oExt i σ t x=some (p,σ')→∃d,σ'=σ.put t d∧∀σ2:St,oExt i σ2 t x=some (p,σ2.put t d):=by
 intro x σ p σ' h
 unfold oExt at*;split at h
 ·exact putVO_loc h
 ·cases h
theorem oS2a_loc (n:Nat) (t:AD):∀(x:Option V) σ p σ',oS2a n σ t x=some (p,σ')→∃d,σ'=σ.put t d∧∀σ2:St,oS2a n σ2 t x=some (p,σ2.put t d):=by
 intro x σ p σ' h
 unfold oS2a at*;split at h
 ·cases h;exact⟨_,rfl,fun _=>rfl⟩
 ·cases h
theorem oMkFn_loc (f:Nat) (t:AD):∀(x:Option (List V)) σ p σ',oMkFn f σ t x=some (p,σ')→∃d,σ'=σ.put t d∧∀σ2:St,oMkFn f σ2 t x=some (p,σ2.put t d):=by
 intro x σ p σ' h
 unfold oMkFn at*;split at h<;>cases h;exact⟨_,rfl,fun _=>rfl⟩
theorem oSlcZ_loc (t:AD):∀(x:Option Int) σ p σ',oSlcZ σ t x=some (p,σ')→∃d,σ'=σ.put t d∧∀σ2:St,oSlcZ σ2 t x=some (p,σ2.put t d):=by
 intro x σ p σ' h
 unfold oSlcZ at*;split at h<;>cases h;exact⟨_,rfl,fun _=>rfl⟩
theorem oS2b_loc (r:Bool) (t:AD):∀(x:Option V) σ p σ',oS2b r σ t x=some (p,σ')→∃d,σ'=σ.put t d∧∀σ2:St,oS2b r σ2 t x=some (p,σ2.put t d):=by
 intro x σ p σ' h
 unfold oS2b at*
 cases hb:bsV r x with
 |none=>rw[hb]at h;cases h
 |some v=>rw[hb]at h;cases h;exact⟨_,rfl,fun _=>rfl⟩
theorem oFad0_loc (t:AD):∀(x:Option V) σ p σ',oFad0 σ t x=some (p,σ')→∃d,σ'=σ.put t d∧∀σ2:St,oFad0 σ2 t x=some (p,σ2.put t d):=by
 intro x σ p σ' h
 unfold oFad0 at*;split at h<;>cases h;exact⟨_,rfl,fun _=>rfl⟩
theorem oMM_loc (mx:Bool) (t:AD):∀(x:Option (List V)) σ p σ',oMM mx σ t x=some (p,σ')→∃d,σ'=σ.put t d∧∀σ2:St,oMM mx σ2 t x=some (p,σ2.put t d):=by
 intro x σ p σ' h
 unfold oMM at*;split at h
 ·exact putVO_loc h
 ·cases h
theorem oMkS_loc (k:Option IntKind) (sz bytes:Nat) (z:V) (t:AD):∀(x:Option Int×Option Int) σ p σ',oMkS k sz bytes z σ t x.1 x.2=some (p,σ')→∃d,σ'=σ.put t d∧∀σ2:St,oMkS k sz bytes z σ2 t x.1 x.2=some (p,σ2.put t d):=by
 intro x σ p σ' h
 unfold oMkS at*;split at h
 ·cases h;exact⟨_,rfl,fun _=>rfl⟩
 ·cases h
theorem oAppG_loc (k:Option IntKind) (sz bytes:Nat) (z:V) (t:AD):∀(x:Option V×Option Int) σ p σ',oAppG k sz bytes z σ t x.1 x.2=some (p,σ')→∃d,σ'=σ.put t d∧∀σ2:St,oAppG k sz bytes z σ2 t x.1 x.2=some (p,σ2.put t d):=by
 intro x σ p σ' h
 unfold oAppG at*;split at h
 ·cases h;exact⟨_,rfl,fun _=>rfl⟩
 ·cases h
theorem oSlcT2_loc (s:ByteArray) (t:AD):∀(x:Option Int×Option Int) σ p σ',oSlcT2 s σ t x.1 x.2=some (p,σ')→∃d,σ'=σ.put t d∧∀σ2:St,oSlcT2 s σ2 t x.1 x.2=some (p,σ2.put t d):=by
 intro x σ p σ' h
 unfold oSlcT2 at*;split at h
 ·cases h;exact⟨_,rfl,fun _=>rfl⟩
 ·cases h
theorem oSlcS3_loc (sz:Nat) (y:V) (n:Int) (t:AD) (l h':Option Int) (q:Option (Option Int)) (z:Option V):∀σ p σ',oSlcS3 sz y n σ t l h' q z=some (p,σ')→∃d,σ'=σ.put t d∧∀σ2:St,oSlcS3 sz y n σ2 t l h' q z=some (p,σ2.put t d):=by
 intro σ p σ' h
 unfold oSlcS3 at*;split at h
 ·split at h
  ·rename_i hc;cases h;exact⟨_,rfl,fun _=>if_pos hc⟩
  ·cases h
 ·split at h
  ·rename_i hc;cases h;exact⟨_,rfl,fun _=>if_pos hc⟩
  ·cases h
 ·cases h
end Go.Abs
namespace Go.Abs
open Go Go.RowKit
set_option linter.unusedVariables false
set_option linter.unusedSimpArgs false
variable {tab:List (Nat×V)} {t:AD} {σ σ':St} {p:Prop}
theorem ad_aoN (x:AO):adN x.ad=aoN x:=by cases x<;>rfl
theorem mv_local {feeds:Bool} {x:AO} (he:evalOp tab (.mv feeds x) t σ=some (p,σ')) (hp:p):∃δ:Dl,σ'=δ.app σ∧Local tab (.mv feeds x) t σ δ:=by
 have hev:∀σ2,Agree (rdO (.mv feeds x)) (foot σ (.mv feeds x)) σ σ2→σ2.ev x=σ.ev x:=fun σ2 h=>h.ev (fun t ht=>ht)
 have he:oMv feeds x σ t (σ.ev x)=some (p,σ'):=he
 unfold oMv at he
 split at he
 ·rename_i y hx
  split at he
  ·rename_i hfd;cases he
   refine⟨⟨(x.ad,.v y),(t,.own y),none,none⟩,rfl,⟨.inl rfl,fun s hs=> ?_,fun _ _ h=>(by cases h),fun _ _ _ h=>(by cases h),fun h=>(by simp at h),fun _ _ h=>(by cases h),fun σ2 h=>⟨True,?_,trivial⟩⟩⟩
   ·subst hfd;simp only[fdO];rw[←ad_aoN];exact hs
   ·show oMv feeds x σ2 t (σ2.ev x)=_
    rw[hev σ2 h,hx];simp only[oMv,hfd,if_true];rfl
  ·rename_i hfd;cases he
   refine⟨.slot t (.v y),rfl,.slot fun σ2 h=>⟨True,?_,trivial⟩⟩
   show oMv feeds x σ2 t (σ2.ev x)=_
   rw[hev σ2 h,hx];simp only[oMv,hfd];rfl
 ·rename_i y hx;cases he
  refine⟨.slot t (.v y),rfl,.slot fun σ2 h=>⟨True,?_,trivial⟩⟩
  show oMv feeds x σ2 t (σ2.ev x)=_
  rw[hev σ2 h,hx];rfl
 ·rename_i y hx;cases he
  refine⟨.slot t .jk,rfl,.slot fun σ2 h=>⟨True,?_,trivial⟩⟩
  show oMv feeds x σ2 t (σ2.ev x)=_
  rw[hev σ2 h,hx];rfl
 ·rename_i d hn hn2 hn3 hx;cases he
  refine⟨.slot t d,rfl,.slot fun σ2 h=>⟨True,?_,trivial⟩⟩
  show oMv feeds x σ2 t (σ2.ev x)=_
  rw[hev σ2 h,hx]
  cases d<;>first|rfl|exact absurd rfl (hn _)|exact absurd rfl (hn2 _)|exact absurd rfl (hn3 _)
 ·cases he
theorem app_local {k:Option IntKind} {sz bytes:Nat} {x y:AO} (he:evalOp tab (.app k sz bytes x y) t σ=some (p,σ')) (hp:p):∃δ:Dl,σ'=δ.app σ∧Local tab (.app k sz bytes x y) t σ δ:=by
 have h1:∀σ2,Agree (rdO (.app k sz bytes x y)) (foot σ (.app k sz bytes x y)) σ σ2→σ2.ev x=σ.ev x:=fun σ2 h=>h.ev l1
 have h2:∀σ2,Agree (rdO (.app k sz bytes x y)) (foot σ (.app k sz bytes x y)) σ σ2→σ2.ev y=σ.ev y:=fun σ2 h=>h.ev l2
 have he:oApp k sz bytes x σ t (σ.ev x) (asV (σ.ev y))=some (p,σ'):=he
 unfold oApp at he
 split at he
 ·rename_i a b hx hy
  unfold oApp2 at he
  split at he
  ·rename_i z hz;cases he
   refine⟨⟨(x.ad,.v a),(t,.own z),none,none⟩,rfl,⟨.inl rfl,fun s hs=> ?_,fun _ _ h=>(by cases h),fun _ _ _ h=>(by cases h),fun h=>(by simp at h),fun _ _ h=>(by cases h),fun σ2 h=>⟨_,?_,hp⟩⟩⟩
   ·simp only[fdO];rw[←ad_aoN];exact hs
   ·show oApp k sz bytes x σ2 t (σ2.ev x) (asV (σ2.ev y))=_
    rw[h1 σ2 h,h2 σ2 h,hx,hy];simp only[oApp,oApp2,hz];rfl
  ·cases he
 ·cases he
theorem cvt_local {x:AO} (he:evalOp tab (.cvt x) t σ=some (p,σ')) (hp:p):∃δ:Dl,σ'=δ.app σ∧Local tab (.cvt x) t σ δ:=by
 have hev:∀σ2,Agree (rdO (.cvt x)) (foot σ (.cvt x)) σ σ2→σ2.ev x=σ.ev x:=fun σ2 h=>h.ev (fun t ht=>ht)
 have he:oCvt x σ t (σ.ev x)=some (p,σ'):=he
 unfold oCvt at he
 split at he
 ·rename_i y hx;cases he
  refine⟨⟨(x.ad,.v y),(t,.own y),none,none⟩,rfl,⟨.inl rfl,fun s hs=> ?_,fun _ _ h=>(by cases h),fun _ _ _ h=>(by cases h),fun h=>(by simp at h),fun _ _ h=>(by cases h),fun σ2 h=>⟨True,?_,trivial⟩⟩⟩
  ·simp only[fdO];rw[←ad_aoN];exact hs
  ·show oCvt x σ2 t (σ2.ev x)=_
   rw[hev σ2 h,hx];rfl
 ·cases he
theorem cutG_local {sz:Nat} {x y:AO} (he:evalOp tab (.cutG sz x y) t σ=some (p,σ')) (hp:p):∃δ:Dl,σ'=δ.app σ∧Local tab (.cutG sz x y) t σ δ:=by
 have h1:∀σ2,Agree (rdO (.cutG sz x y)) (foot σ (.cutG sz x y)) σ σ2→σ2.ev x=σ.ev x:=fun σ2 h=>h.ev l1
 have h2:∀σ2,Agree (rdO (.cutG sz x y)) (foot σ (.cutG sz x y)) σ σ2→σ2.ev y=σ.ev y:=fun σ2 h=>h.ev l2
 have he:oCutG sz x σ t (σ.ev x) (asI (σ.ev y))=some (p,σ'):=he
 unfold oCutG at he
 split at he
 ·rename_i u n hx hy
  split at he
  ·rename_i hst;cases he
   refine⟨⟨(x.ad,.jk),(t,.own u),none,none⟩,rfl,⟨.inl rfl,fun s hs=> ?_,fun _ _ h=>(by cases h),fun _ _ _ h=>(by cases h),fun h=>(by simp at h),fun _ _ h=>(by cases h),fun σ2 h=>⟨_,?_,hp⟩⟩⟩
   ·simp only[fdO];rw[←ad_aoN];exact hs
   ·show oCutG sz x σ2 t (σ2.ev x) (asI (σ2.ev y))=_
    rw[h1 σ2 h,h2 σ2 h,hx,hy];simp only[oCutG,hst,if_true];rfl
  ·cases he
 ·cases he
theorem appZ_local {k:Option IntKind} {sz bytes:Nat} {z:V} {x y:AO} (he:evalOp tab (.appZ k sz bytes z x y) t σ=some (p,σ')) (hp:p):∃δ:Dl,σ'=δ.app σ∧Local tab (.appZ k sz bytes z x y) t σ δ:=by
 have h1:∀σ2,Agree (rdO (.appZ k sz bytes z x y)) (foot σ (.appZ k sz bytes z x y)) σ σ2→σ2.ev x=σ.ev x:=fun σ2 h=>h.ev l1
 have h2:∀σ2,Agree (rdO (.appZ k sz bytes z x y)) (foot σ (.appZ k sz bytes z x y)) σ σ2→σ2.ev y=σ.ev y:=fun σ2 h=>h.ev l2
 have he:oAppZ k sz bytes z x σ t (σ.ev x) (asI (σ.ev y))=some (p,σ'):=he
 unfold oAppZ at he
 split at he
 ·rename_i a n hx hy
  unfold oAppZ2 at he
  split at he
  ·rename_i u hz;cases he
   refine⟨⟨(x.ad,.v a),(t,.own u),none,none⟩,rfl,⟨.inl rfl,fun s hs=> ?_,fun _ _ h=>(by cases h),fun _ _ _ h=>(by cases h),fun h=>(by simp at h),fun _ _ h=>(by cases h),fun σ2 h=>⟨_,?_,hp⟩⟩⟩
   ·simp only[fdO];rw[←ad_aoN];exact hs
   ·show oAppZ k sz bytes z x σ2 t (σ2.ev x) (asI (σ2.ev y))=_
    rw[h1 σ2 h,h2 σ2 h,hx,hy];simp only[oAppZ,oAppZ2,hz];rfl
  ·cases he
 ·cases he
/-! boxes and objects: contents -/
theorem load_local {n:Nat} {ag:Bool} {x:AO} (he:evalOp tab (.load n ag x) t σ=some (p,σ')) (hp:p):∃δ:Dl,σ'=δ.app σ∧Local tab (.load n ag x) t σ δ:=by
 have hev:∀σ2,Agree (rdO (.load n ag x)) (foot σ (.load n ag x)) σ σ2→σ2.ev x=σ.ev x:=fun σ2 h=>h.ev (fun t ht=>ht)
 have hat:∀σ2,Agree (rdO (.load n ag x)) (foot σ (.load n ag x)) σ σ2→atO tab σ2 (σ2.ev x)=atO tab σ (σ.ev x):=by
  intro σ2 h
  rw[hev σ2 h]
  have hF:foot σ (.load n ag x)=footR (σ.ev x):=rfl
  cases hx:σ.ev x with
  |none=>rfl
  |some d=>
   rw[hx]at hF
   cases d with
   |lp k q=>simp only[atO];rw[h.eq k (.inl (by rw[hF];rfl))]
   |gp id q=>simp only[atO];rw[h.g (.inl (by rw[hF];rfl))]
   |v y=>cases y<;>simp only[atO];rw[h.g (.inl (by rw[hF];rfl))]
   |_=>rfl
 exact Local.of_fun (g:=fun z σ=>oLoad n ag σ t z) (f:=fun σ=>subO (atO tab σ (σ.ev x))) (fun _=>rfl) (fun σ2 h=>by show subO _=subO _;rw[hat σ2 h]) (fun z σ p σ' h=>by
  unfold oLoad at*;split at h
  ·split at h
   ·rename_i hc;cases h;exact⟨_,rfl,fun _=>if_pos hc⟩
   ·cases h
  ·cases h) he hp
theorem fill_local {o:PO} {r:Nat} {f:St→Option V} (hf:∀σ,evalOp tab o t σ=oBoxAt r σ t (f σ)) (hag:∀σ2,Agree (rdO o) (foot σ o) σ σ2→f σ2=f σ) (hF:foot σ o=⟨none,none,none,some (σ.L.length-r),false,false⟩)
  (he:evalOp tab o t σ=some (p,σ')) (hp:p):∃δ:Dl,σ'=δ.app σ∧Local tab o t σ δ:=by
 rw[hf]at he
 unfold oBoxAt at he
 split at he
 ·rename_i y hy
  unfold oFill at he
  split at he
  ·rename_i hk;cases he
   refine⟨⟨(.no,.un),(t,.lp (σ.L.length-r) []),some (σ.L.length-r,⟨false,y⟩),none⟩,rfl,⟨.inl rfl,fun s hs=>(by simp[adN]at hs),fun k b h=> ?_,fun k b r' h hn=> ?_,fun h=>(by simp at h),fun _ _ h=>(by cases h),fun σ2 h=>⟨True,?_,trivial⟩⟩⟩
   ·cases h;right;rw[hF]
   ·cases h;exact absurd (by rw[hF]) hn
   ·rw[hf,hag σ2 h,hy]
    have h1:=h.eq (σ.L.length-r) (.inr (.inr (by rw[hF])))
    simp only[oBoxAt]
    rw[h.len,h1,hk]
    simp only[oFill];rfl
  ·cases he
 ·cases he
end Go.Abs
namespace Go.Abs
open Go Go.RowKit
set_option linter.unusedVariables false
set_option linter.unusedSimpArgs false
variable {tab:List (Nat×V)} {t:AD} {σ σ':St} {p:Prop}
theorem V.same_sub:∀{p:List Nat} {x y a:V},x.same y=true→x.sub p=some a→∃b,y.sub p=some b∧a.same b=true
 |[],x,y,a,hs,h=>by simp only[V.sub]at h⊢;cases h;exact⟨y,rfl,hs⟩
 |i::p,.agg l,y,a,hs,h=>by
  cases y<;>try (simp[V.same]at hs;done)
  rename_i m
  simp only[V.same]at hs
  simp only[V.sub]at h⊢
  cases hz:l[i]? with
  |none=>simp[hz]at h
  |some z=>
   simp only[hz]at h
   obtain⟨u,h2,h3,h4⟩:=V.sameL_get hs hz
   simp only[h2];exact V.same_sub h3 h
 |[i],.arr k n xs,y,a,hs,h=>by
  cases y<;>try (simp[V.same]at hs;done)
  simp[V.same]at hs
  simp only[V.sub]at h⊢
  split at h
  ·rename_i hlt;cases h
   rw[←hs.1,←hs.2,if_pos hlt];exact⟨_,rfl,by simp[V.same,V.isAgg]⟩
  ·cases h
 |i::j::p,.arr ..,_,_,_,h=>by simp[V.sub]at h
 |i::p,.int ..,_,_,_,h|i::p,.bool ..,_,_,_,h|i::p,.str ..,_,_,_,h|i::p,.sli ..,_,_,_,h|i::p,.sle ..,_,_,_,h|i::p,.nils,_,_,_,h|i::p,.ptr ..,_,_,_,h|i::p,.nilp,_,_,_,h|i::p,.nili,_,_,_,h|i::p,.fn ..,_,_,_,h|i::p,.sob ..,_,_,_,h=>by simp[V.sub]at h
theorem box_shape {o:PO} {σ2:St} (h:Agree (rdO o) (foot σ o) σ σ2) {k:Nat} {q:List Nat} {a:V} (hF:(foot σ o).s=some k) (ha:subO (bxO σ.L[k]? q)=some a):∃b,subO (bxO σ2.L[k]? q)=some b∧a.same b=true:=by
 cases hk:σ.L[k]? with
 |none=>simp[hk,bxO,subO]at ha
 |some r=>
  obtain⟨r',h1,h2⟩:=h.sh k r hF hk
  rw[hk]at ha;simp only[bxO,subO]at ha
  obtain⟨b,h3,h4⟩:=V.same_sub h2 ha
  exact⟨b,by rw[h1];exact h3,h4⟩
theorem obj_shape {o:PO} {σ2:St} (h:Agree (rdO o) (foot σ o) σ σ2) {id:Nat} {q:List Nat} {a:V} (ha:subO (vO (look σ.G id) q)=some a):∃b,subO (vO (look σ2.G id) q)=some b∧a.same b=true:=by
 cases hk:look σ.G id with
 |none=>simp[hk,vO,subO]at ha
 |some r=>
  obtain⟨r',h1,h2⟩:=h.gs id r hk
  rw[hk]at ha;simp only[vO,subO]at ha
  obtain⟨b,h3,h4⟩:=V.same_sub h2 ha
  exact⟨b,by rw[h1];exact h3,h4⟩
theorem sameL_len:∀{l m:List V},V.sameL l m=true→l.length=m.length
 |[],[],_=>rfl
 |[],_::_,h=>by simp[V.sameL]at h
 |_::_,[],h=>by simp[V.sameL]at h
 |x::l,y::m,h=>by simp only[V.sameL,Bool.and_eq_true]at h;simp[sameL_len h.2]
theorem sameL_take:∀{l m:List V} (i:Nat),V.sameL l m=true→V.sizeL (l.take i)=V.sizeL (m.take i)
 |[],[],_,_=>rfl
 |[],_::_,_,h=>by simp[V.sameL]at h
 |_::_,[],_,h=>by simp[V.sameL]at h
 |x::l,y::m,0,h=>rfl
 |x::l,y::m,i+1,h=>by
  simp only[V.sameL,Bool.and_eq_true]at h
  simp only[List.take_succ_cons,V.sizeL,sameL_take i h.2,(V.same_size h.1).1]
theorem shape_local {o:PO} {x:AO} {F:Option D→St→Res} (hf:∀σ,evalOp tab o t σ=F (σ.ev x) σ) (hrd:∀σ2,Agree (rdO o) (foot σ o) σ σ2→σ2.ev x=σ.ev x)
  (hF:∀d p σ',σ.ev x=some d→F (some d) σ=some (p,σ')→p→∃e,σ'=σ.put t e∧∀σ2,Agree (rdO o) (foot σ o) σ σ2→∃p2,F (some d) σ2=some (p2,σ2.put t e)∧p2)
  (h0:∀σ,F none σ=none) (he:evalOp tab o t σ=some (p,σ')) (hp:p):∃δ:Dl,σ'=δ.app σ∧Local tab o t σ δ:=by
 rw[hf]at he
 cases hx:σ.ev x with
 |none=>rw[hx,h0]at he;cases he
 |some d=>
  rw[hx]at he
  obtain⟨e,h1,h2⟩:=hF d p σ' hx he hp
  refine⟨.slot t e,h1,.slot fun σ2 h=> ?_⟩
  rw[hf,hrd σ2 h,hx];exact h2 σ2 h
theorem oFadr_loc {f off:Nat} {d:D} {a:Option V} (he:oFadr f off d σ t a=some (p,σ')):σ'=σ.put t d∧p∧∃y,a=some y∧∀(σ2:St) z,y.same z=true→oFadr f off d σ2 t (some z)=some (True,σ2.put t d):=by
 unfold oFadr at he
 split at he
 ·rename_i l
  split at he
  ·rename_i hc;cases he
   refine⟨rfl,trivial,_,rfl,fun σ2 z hz=> ?_⟩
   cases z<;>try (simp[V.same]at hz;done)
   rename_i m
   simp only[V.same]at hz
   simp only[oFadr]
   rw[if_pos ⟨by rw[←sameL_take f hz];exact hc.1,by rw[←sameL_len hz];exact hc.2⟩]
  ·cases he
 ·cases he
theorem fadr_local {f off:Nat} {x:AO} (he:evalOp tab (.fadr f off x) t σ=some (p,σ')) (hp:p):∃δ:Dl,σ'=δ.app σ∧Local tab (.fadr f off x) t σ δ:=by
 refine shape_local (x:=x) (F:=fun d σ=>oFad tab f off σ t d) (fun _=>rfl) (fun σ2 h=>h.ev (fun t ht=>ht)) ?_ (fun _=>rfl) he hp
 intro d p σ' hx he hp
 have hFt:foot σ (.fadr f off x)=footS (σ.ev x):=rfl
 rw[hx]at hFt
 unfold oFad at he
 split at he
 ·rename_i k q e;cases e
  obtain⟨h1,h2,y,h3,h4⟩:=oFadr_loc he
  refine⟨_,h1,fun σ2 h=> ?_⟩
  obtain⟨b,h5,h6⟩:=box_shape h (k:=k) (q:=q) (by rw[hFt];rfl) h3
  exact⟨True,by simp only[oFad];rw[h5];exact h4 σ2 b h6,trivial⟩
 ·rename_i id q e;cases e
  obtain⟨h1,h2,y,h3,h4⟩:=oFadr_loc he
  refine⟨_,h1,fun σ2 h=> ?_⟩
  obtain⟨b,h5,h6⟩:=obj_shape h (id:=id) (q:=q) h3
  exact⟨True,by simp only[oFad];rw[h5];exact h4 σ2 b h6,trivial⟩
 ·rename_i id e;cases e
  unfold oFadP at he
  cases hf:oFadr f off (.gp id [f]) σ t (look σ.G id)with
  |some q=>
   rw[hf]at he;simp only[orR]at he;cases he
   obtain⟨h1,h2,y,h3,h4⟩:=oFadr_loc hf
   refine⟨_,h1,fun σ2 h=> ?_⟩
   obtain⟨b,h5,h6⟩:=h.gs id y h3
   exact⟨True,by simp only[oFad,oFadP];rw[h5,h4 σ2 b h6];rfl,trivial⟩
  |none=>
   rw[hf]at he;simp only[orR]at he
   obtain⟨h1,h2,y,h3,h4⟩:=oFadr_loc he
   refine⟨_,h1,fun σ2 h=> ?_⟩
   obtain⟨b,h5,h6⟩:=obj_shape h (id:=id) (q:=[0]) h3
   cases hl:look σ.G id with
   |none=>rw[hl]at h3;simp[vO,subO]at h3
   |some r=>
    obtain⟨b',k1,k2⟩:=h.gs id r hl
    refine⟨True,?_,trivial⟩
    simp only[oFad,oFadP]
    have hn:oFadr f off (.gp id [f]) σ2 t (look σ2.G id)=none:=by
     cases hq:oFadr f off (.gp id [f]) σ2 t (look σ2.G id)with
     |none=>rfl
     |some q=>
      obtain⟨g1,g2,y',g3,g4⟩:=oFadr_loc (p:=q.1) (σ':=q.2) (by rw[hq])
      rw[k1]at g3;cases g3
      have:=g4 σ r (V.same_symm k2)
      rw[hl,this]at hf;cases hf
    rw[hn];simp only[orR];rw[h5];exact h4 σ2 b h6
 ·rename_i l e;cases e
  unfold oFadE at he
  split at he
  ·rename_i y hy
   split at he
   ·rename_i hc;cases he
    exact⟨_,rfl,fun σ2 h=>⟨True,by simp only[oFad,hy,oFadE];rw[if_pos hc],trivial⟩⟩
   ·cases he
  ·cases he
 ·cases he
end Go.Abs
