/- Structs, rows that are made, cuts, appends: they fit. -/
import Derived.Test.YtjbglbhcbenhpaaPlain2
import Derived.DeepKeys
import Derived.Laws.Cover3
namespace Go.Abs
open Go Go.RowKit
set_option linter.unusedVariables false
set_option linter.unusedSimpArgs false
/-! ### fields of values, letters of strings -/
theorem run_part {P:Program} {t:TypeId} {cs:Array Value} {off:Nat} {w:World} {i:TypeInfo} {d:TypeDesc} {y:V} {M} (hi:P.info? t=some i) (hd:P.underlying t=some d) (hn:i.size=y.size) (hg:aggB d=y.isAgg)
  (hy:RepV w M y ((cs.toList.drop off).take y.size)) (hb:off+y.size≤cs.size):∃v,(part t cs off).run P w= .ok v w∧RepW w M y v:=by
 unfold part
 rw[run_bind (run_isAgg hd),hg]
 cases e:y.isAgg with
 |true=>
  refine⟨.agg (cs.extract off (off+y.size)),?_,?_⟩
  ·simp only[if_true];rw[run_bind (run_sizeOf hi),hn];rfl
  ·simp only[RepW,e,if_true]
   refine⟨_,rfl,?_⟩
   rw[Array.toList_extract]
   rw[List.extract_eq_take_drop,Nat.add_sub_cancel_left];exact hy
 |false=>
  obtain⟨v,h1,h2⟩:=hy.leaf e
  refine⟨v,?_,by simp only[RepW,e,Bool.false_eq_true,if_false];exact h2⟩
  simp only[Bool.false_eq_true,if_false]
  have hs:y.size=1:=by rw[←hy.len,h1];rfl
  rw[hs]at h1 hb
  have:cs[off]? =some v:=by
   have hlt:off < cs.toList.length:=by simp;omega
   rw[List.drop_eq_getElem_cons hlt]at h1
   simp at h1
   rw[Array.getElem?_eq_some_iff];exact⟨by omega,h1⟩
  simp only[this];rfl
section ops
variable {c:Ctx} {m:Mem} {σ:St} {a:Act} {w:World} {o:Oper} {t:AD} {p:Prop} {σ':St}
theorem snd_fld {s:TypeId} {f n:Nat} {g:Bool} {fs:Array Field} {fd:Field} {x:Operand} {ax:AO} (h:InvW c m σ a w) (ho:o.op= .field s x f) (hs:c.P.underlying s=some (.struct fs)) (hf:fs[f]? =some fd)
  (hq:szAg c.P fd.type=some (n,g)) (hx:aoOf σ.vs.length x=some ax) (hd:adOf σ.vs.length c.N o.dst=some t) (he:oField f fd.offset n g σ t (asV (σ.ev ax))=some (p,σ')):Fits c o a w σ':=by
 obtain⟨i,d,h1,h2,h3,h4⟩:=szAg_spec hq
 cases hX:asV (σ.ev ax)with
 |none=>simp[hX,oField]at he
 |some z=>
  have hr:=h.rdV hx hX
  rw[hX]at he
  cases z<;>simp only[oField]at he<;>try (cases he;done)
  rename_i l
  cases hY:l[f]? with
  |none=>simp[hY,oFld]at he
  |some y=>
   rw[hY]at he;simp only[oFld]at he
   split at he
   ·rename_i hc;cases he
    simp only[RepW,V.isAgg,if_true]at hr
    obtain⟨cs,h5,h6⟩:=hr
    have hlt:=(List.getElem?_eq_some_iff.1 hY).1
    obtain⟨h7,h8⟩:=RepV.sub (p:=[f]) h6 (by simp[V.sub,hY]:(V.agg l).sub [f]=some y) (V.off_snoc_agg (sub_nil _) (off_nil _) hlt)
    rw[Nat.zero_add,hc.1]at h7 h8
    obtain⟨v,h9,h10⟩:=run_part (P:=c.P) (cs:=cs) h1 h2 (by rw[h3,hc.2.1]) (by rw[h4,hc.2.2]) h7 (by simpa using h8)
    refine fits_put h hd (v:=v) ?_ h10
    unfold execOp;rw[ho];refine run_v ?_
    unfold Instr.field
    rw[run_bind (run_underlying hs)]
    simp only[hf,h5]
    rw[run_bind (x:=cs) (w1:=w) rfl];exact h9
   ·cases he
theorem snd_idxS {ty:TypeId} {x y:Operand} {ax ay:AO} (h:InvW c m σ a w) (ho:o.op= .index ty x y) (hu:c.P.underlying ty=some .string)
  (hx:aoOf σ.vs.length x=some ax) (hy:aoOf σ.vs.length y=some ay) (hd:adOf σ.vs.length c.N o.dst=some t) (he:oIdxS σ t (asV (σ.ev ax)) (asI (σ.ev ay))=some (p,σ')) (hp:p):Fits c o a w σ':=by
 cases hJ:asI (σ.ev ay)with
 |none=>cases hX:asV (σ.ev ax)with
  |none=>simp[hX,oIdxS]at he
  |some d=>cases d<;>simp[hX,hJ,oIdxS]at he
 |some j=>
  obtain⟨k,hk⟩:=h.rdI hy hJ
  cases hX:asV (σ.ev ax)with
  |none=>simp[hX,oIdxS]at he
  |some z=>
   have hr:=h.rdV hx hX
   rw[hX,hJ]at he
   cases z<;>simp only[oIdxS]at he<;>try (cases he;done)
   cases he;rename_i s
   have hlt:j.toNat < s.data.toList.length:=by
    have:s.data.toList.length=s.size:=by rw[Array.length_toList];rfl
    omega
   refine fits_put h hd (v:= .int .u8 ((s.data.toList.getD j.toNat 0).toNat:Int)) ?_ repW_int
   unfold execOp;rw[ho];refine run_v ?_
   rw[hr.str,hk];unfold Instr.index
   have hs:s[j.toNat]? =some (s.data.toList.getD j.toNat 0):=by
    have hlt':j.toNat < s.size:=by omega
    rw[getElem?_pos s j.toNat hlt']
    have e:s.data.toList.getD j.toNat 0=s.data.toList[j.toNat]'hlt:=by rw[List.getD_eq_getElem?_getD,List.getElem?_eq_getElem hlt];rfl
    rw[e,Array.getElem_toList];rfl
   simp only[asIntOf,Sem.run_bind,Sem.run_pure,Result.andThen_ok,run_underlying hu,hp.1,if_true,hs]
theorem sizeL_uniform {sz:Nat}:∀{l:List V},(∀x∈l,V.size x=sz)→V.sizeL l=l.length*sz
 |[],_=>by simp[V.sizeL]
 |x::l,h=>by simp only[V.sizeL,List.length_cons];rw[h x (by simp),sizeL_uniform (fun y hy=>h y (by simp[hy])),Nat.add_mul,Nat.one_mul,Nat.add_comm]
theorem snd_idxA {ty e:TypeId} {n:Nat} {x y:Operand} {ax ay:AO} (h:InvW c m σ a w) (ho:o.op= .index ty x y) (hu:c.P.underlying ty=some (.array n e)) (hs:szAg c.P e=some (1,false))
  (hx:aoOf σ.vs.length x=some ax) (hy:aoOf σ.vs.length y=some ay) (hd:adOf σ.vs.length c.N o.dst=some t) (he:oIdxA n σ t (asV (σ.ev ax)) (asI (σ.ev ay))=some (p,σ')) (hp:p):Fits c o a w σ':=by
 obtain⟨i,d,h1,h2,h3,h4⟩:=szAg_spec hs
 cases hJ:asI (σ.ev ay)with
 |none=>cases hX:asV (σ.ev ax)with
  |none=>simp[hX,oIdxA]at he
  |some d=>cases d<;>simp[hX,hJ,oIdxA]at he
 |some j=>
  obtain⟨k,hk⟩:=h.rdI hy hJ
  cases hX:asV (σ.ev ax)with
  |none=>simp[hX,oIdxA]at he
  |some z=>
   have hr:=h.rdV hx hX
   rw[hX,hJ]at he
   cases z<;>simp only[oIdxA]at he<;>try (cases he;done)
   rotate_left
   ·rename_i l
    split at he
    ·rename_i hn;cases he
     obtain⟨hp,hall⟩:=hp
     simp only[RepW,V.isAgg,if_true]at hr
     obtain⟨cs,h5,h6⟩:=hr
     have hlt:j.toNat < l.length:=by omega
     have hg:l[j.toNat]? =some (l.getD j.toNat .nilp):=by
      rw[List.getD_eq_getElem?_getD,List.getElem?_eq_getElem hlt];rfl
     have hm:l.getD j.toNat .nilp∈l:=List.mem_of_getElem? hg
     obtain⟨g1,g2⟩:=hall _ hm
     have hoff:(V.agg l).off [j.toNat]=some j.toNat:=by
      simp only[V.off,hg,Option.map_some]
      rw[sizeL_uniform (sz:=1) (fun x hx=>(hall x (List.mem_of_mem_take hx)).1),List.length_take];congr 1;omega
     obtain⟨h7,h8⟩:=RepV.sub (p:=[j.toNat]) (y:=l.getD j.toNat .nilp) h6 (by simp only[V.sub,hg]) hoff
     rw[g1]at h7 h8
     obtain⟨v,h9,h10⟩:=run_part (P:=c.P) (cs:=cs) h1 h2 (by rw[h3,g1]) (by rw[h4,g2]) (off:=j.toNat) (by rw[g1];exact h7) (by rw[g1];simpa using h8)
     refine fits_put h hd (v:=v) ?_ h10
     unfold execOp;rw[ho];refine run_v ?_
     rw[h5,hk];unfold Instr.index
     simp only[asIntOf,Sem.run_bind,Sem.run_pure,Result.andThen_ok,run_underlying hu,hp,and_self,if_true,run_sizeOf h1,h3,Nat.mul_one]
     exact h9
    ·cases he
   rename_i kk n' xs
   split at he
   ·rename_i hn;cases he
    simp only[RepW,V.isAgg,if_true]at hr
    obtain⟨cs,h5,h6⟩:=hr
    obtain⟨h7,h8⟩:=RepV.sub (p:=[j.toNat]) h6 (by simp only[V.sub];rw[if_pos (by rw[hn];omega)]) (V.off_snoc_arr (sub_nil _) (off_nil _) (by rw[hn];omega))
    rw[Nat.zero_add]at h7 h8
    obtain⟨v,h9,h10⟩:=run_part (P:=c.P) (cs:=cs) h1 h2 (by rw[h3];rfl) (by rw[h4];rfl) h7 (by simpa using h8)
    refine fits_put h hd (v:=v) ?_ h10
    unfold execOp;rw[ho];refine run_v ?_
    rw[h5,hk];unfold Instr.index
    simp only[asIntOf,Sem.run_bind,Sem.run_pure,Result.andThen_ok,run_underlying hu,hp,and_self,if_true,run_sizeOf h1,h3,Nat.mul_one]
    exact h9
   ·cases he
/-! ### cuts -/
theorem opt_spec {K:Nat} {x:Option Operand} {ao:Option AO} {d n:Int} (h:InvW c m σ a w) (hx:aopOf K x=some ao) (he:σ.opt ao d=some n):(x=none∧n=d)∨∃y k,x=some y∧a.eval y= .int k n:=by
 cases x with
 |none=>simp only[aopOf]at hx;cases hx;simp only[St.opt]at he;cases he;exact .inl ⟨rfl,rfl⟩
 |some y=>
  simp only[aopOf]at hx
  cases hy:aoOf K y with
  |none=>simp[hy]at hx
  |some ay=>
   simp[hy]at hx;subst hx
   simp only[St.opt]at he
   obtain⟨k,hk⟩:=h.rdI hy he
   exact .inr ⟨y,k,rfl,hk⟩
theorem run_sliceBound {P:Program} {k:IntKind} {n:Int} {y:Nat} {code:BoundsCode} {w:World} (h:0≤n∧n≤(y:Int)):(Instr.sliceBound (.int k n) y code).run P w= .ok n.toNat w:=by
 unfold Instr.sliceBound
 simp only[asIntOf,Sem.run_bind,Sem.run_pure,Result.andThen_ok,h,and_self,if_true]
theorem run_bounds2 {P:Program} {isS:Bool} {len cap:Nat} {lo hi:Option Operand} {l hh:Int} {w:World} (hlo:(lo=none∧l=0)∨∃y k,lo=some y∧a.eval y= .int k l) (hhi:(hi=none∧hh=len)∨∃y k,hi=some y∧a.eval y= .int k hh)
  (h1:0≤l) (h2:l≤hh) (h3:hh≤(cap:Int)):(Instr.sliceBounds isS len cap (lo.map a.eval) (hi.map a.eval) none).run P w= .ok (l.toNat,hh.toNat,cap) w:=by
 unfold Instr.sliceBounds
 rcases hlo with⟨rfl,rfl⟩|⟨y,k,rfl,hy⟩<;>rcases hhi with⟨rfl,rfl⟩|⟨y',k',rfl,hy'⟩<;>
  simp only[Option.map_none,Option.map_some,Sem.run_bind,Sem.run_pure,Result.andThen_ok]
 ·simp
 ·rw[hy',run_sliceBound ⟨by omega,h3⟩];simp
 ·rw[hy,run_sliceBound ⟨h1,h2⟩];simp
 ·rw[hy',run_sliceBound ⟨by omega,h3⟩];simp only[Result.andThen_ok];rw[hy,run_sliceBound ⟨h1,by omega⟩];simp
theorem run_bounds3 {P:Program} {isS:Bool} {len cap:Nat} {lo hi:Option Operand} {y3:Operand} {k3:IntKind} {l hh:Int} {w:World} (hlo:(lo=none∧l=0)∨∃y k,lo=some y∧a.eval y= .int k l) (hhi:∃y k,hi=some y∧a.eval y= .int k hh) (hmx:a.eval y3= .int k3 hh)
  (h1:0≤l) (h2:l≤hh) (h3:hh≤(cap:Int)):(Instr.sliceBounds isS len cap (lo.map a.eval) (hi.map a.eval) (some (a.eval y3))).run P w= .ok (l.toNat,hh.toNat,hh.toNat) w:=by
 unfold Instr.sliceBounds
 obtain⟨y',k',rfl,hy'⟩:=hhi
 rw[hmx]
 rcases hlo with⟨rfl,rfl⟩|⟨y,k,rfl,hy⟩<;>
  simp only[Option.map_none,Option.map_some,Sem.run_bind,Sem.run_pure,Result.andThen_ok]
 ·rw[run_sliceBound ⟨by omega,h3⟩];simp only[Result.andThen_ok];rw[hy',run_sliceBound ⟨by omega,by omega⟩];simp
 ·rw[run_sliceBound ⟨by omega,h3⟩];simp only[Result.andThen_ok];rw[hy',run_sliceBound ⟨by omega,by omega⟩];simp only[Result.andThen_ok];rw[hy,run_sliceBound ⟨h1,by omega⟩];simp
theorem run_bounds4 {P:Program} {isS:Bool} {len cap:Nat} {lo hi:Option Operand} {y3:Operand} {k3:IntKind} {l hh q:Int} {w:World} (hlo:(lo=none∧l=0)∨∃y k,lo=some y∧a.eval y= .int k l) (hhi:∃y k,hi=some y∧a.eval y= .int k hh) (hmx:a.eval y3= .int k3 q)
  (h1:0≤l) (h2:l≤hh) (h3:hh≤q) (h4:q≤(cap:Int)):(Instr.sliceBounds isS len cap (lo.map a.eval) (hi.map a.eval) (some (a.eval y3))).run P w= .ok (l.toNat,hh.toNat,q.toNat) w:=by
 unfold Instr.sliceBounds
 obtain⟨y',k',rfl,hy'⟩:=hhi
 rw[hmx]
 rcases hlo with⟨rfl,rfl⟩|⟨y,k,rfl,hy⟩<;>
  simp only[Option.map_none,Option.map_some,Sem.run_bind,Sem.run_pure,Result.andThen_ok]
 ·rw[run_sliceBound ⟨by omega,h4⟩];simp only[Result.andThen_ok];rw[hy',run_sliceBound ⟨by omega,by omega⟩];simp
 ·rw[run_sliceBound ⟨by omega,h4⟩];simp only[Result.andThen_ok];rw[hy',run_sliceBound ⟨by omega,by omega⟩];simp only[Result.andThen_ok];rw[hy,run_sliceBound ⟨h1,by omega⟩];simp
theorem snd_slcT {ty:TypeId} {x:Operand} {lo hi:Option Operand} {ax:AO} {alo ahi:Option AO} (h:InvW c m σ a w) (ho:o.op= .slice ty x lo hi none) (hu:c.P.underlying ty=some .string)
  (hx:aoOf σ.vs.length x=some ax) (hlo:aopOf σ.vs.length lo=some alo) (hhi:aopOf σ.vs.length hi=some ahi) (hd:adOf σ.vs.length c.N o.dst=some t) (he:oSlcT alo ahi σ t (asV (σ.ev ax))=some (p,σ')) (hp:p):Fits c o a w σ':=by
 cases hX:asV (σ.ev ax)with
 |none=>simp[hX,oSlcT]at he
 |some z=>
  have hr:=h.rdV hx hX
  rw[hX]at he
  cases z<;>simp only[oSlcT]at he<;>try (cases he;done)
  rename_i s
  cases hl:σ.opt alo 0 with
  |none=>simp[hl,oSlcT2]at he
  |some l=>cases hh:σ.opt ahi s.size with
   |none=>simp[hl,hh,oSlcT2]at he
   |some r=>
    simp only[hl,hh,oSlcT2]at he;cases he
    refine fits_put h hd (v:= .string (s.extract l.toNat r.toNat)) ?_ repW_str
    unfold execOp;rw[ho];refine run_v ?_
    rw[hr.str];unfold Instr.sliceAt
    rw[run_bind (run_underlying hu)];simp only[]
    unfold Instr.slice
    rw[run_bind (run_underlying hu)];simp only[Option.map_none,Option.isSome_none,Bool.false_eq_true,if_false]
    rw[run_bind (run_bounds2 (opt_spec h hlo hl) (opt_spec h hhi hh) hp.1 hp.2.1 hp.2.2)];rfl
end ops
theorem Reads.drop {w M q} {cs:List Value} (h:Reads w M q cs) (i:Nat):Reads w M (q.add i) (cs.drop i):=by
 intro j v hv
 rw[List.getElem?_drop]at hv
 have:=h _ _ hv
 rw[Addr.add_add,Addr.add_block,Addr.add_off,Nat.add_assoc];exact this
theorem Reads.take {w M q} {cs:List Value} (h:Reads w M q cs) (i:Nat):Reads w M q (cs.take i):=by
 intro j v hv
 rw[List.getElem?_take]at hv
 split at hv
 ·exact h _ _ hv
 ·cases hv
theorem RepE.drop {w M sz}:∀{l:List V} {q:Addr} (i:Nat),RepE w M sz l q→RepE w M sz (l.drop i) (q.add (i*sz))
 |l,q,0,h=>by simpa [Addr.add]using h
 |[],q,i+1,h=>by simp[RepE]
 |x::l,q,i+1,h=>by
  simp only[RepE]at h;obtain⟨c,h0,h1,h2,h3⟩:=h
  have:=RepE.drop i h3
  rw[Addr.add_add]at this
  simpa [Nat.add_mul,Nat.add_comm]using this
theorem RepE.take {w M sz}:∀{l:List V} {q:Addr} (i:Nat),RepE w M sz l q→RepE w M sz (l.take i) q
 |l,q,0,h=>by simp[RepE]
 |[],q,i+1,h=>by simp[RepE]
 |x::l,q,i+1,h=>by
  simp only[RepE]at h;obtain⟨c,h0,h1,h2,h3⟩:=h
  simp only[List.take_succ_cons,RepE];exact⟨c,h0,h1,h2,RepE.take i h3⟩
theorem RepW.cut {w M} {y z:V} {ad:Option Addr} {n cap mx:Nat} {l h:Int} {sz:Nat} (hy:RepW w M y (.slice ad n cap)) (hz:cutV l h y=some z) (hs:strideOk sz y=true)
  (hn:y.lenI=some (n:Int)) (h1:0≤l) (h2:l≤h) (h3:h≤(n:Int)) (h4:h.toNat≤mx) (h5:mx≤cap):
  RepW w M z (.slice (if mx=l.toNat then ad else ad.map (·.add (l.toNat*sz))) (h.toNat-l.toNat) (mx-l.toNat))∧z.len=h.toNat-l.toNat:=by
 cases y<;>simp only[cutV]at hz<;>try (cases hz;done)
 ·cases hz
  rename_i k xs
  simp only[strideOk,beq_iff_eq]at hs
  simp only[V.lenI]at hn
  simp only[RepW,V.isAgg,Bool.false_eq_true,if_false,RepV]at hy⊢
  obtain⟨a',cap',e1,e2,e3,e4⟩:=hy
  simp only[List.cons.injEq,Value.slice.injEq,and_true]at e1
  obtain⟨rfl,rfl,rfl⟩:=e1
  have hlen:(List.drop l.toNat (List.take h.toNat xs)).length=h.toNat-l.toNat:=by simp;omega
  refine⟨⟨_,_,by rw[hlen],by rw[hlen];omega,?_,?_⟩,by simp only[V.len];exact hlen⟩
  ·intro hnone
   split at hnone
   ·omega
   ·have:ad=none:=by simpa using hnone
    have:=e3 this;omega
  ·intro p hp
   split at hp
   ·rename_i heq
    have:List.drop l.toNat (List.take h.toNat xs)=[]:=by apply List.eq_nil_of_length_eq_zero;omega
    rw[this];intro i v hv;simp at hv
   ·obtain⟨q,hq,rfl⟩:=Option.map_eq_some_iff.1 hp
    have:=((e4 q hq).take h.toNat).drop l.toNat
    rw[hs,Nat.mul_one]
    rwa [←List.map_take,←List.map_drop]at this
 ·cases hz
  rename_i sz' xs
  simp only[strideOk,beq_iff_eq]at hs
  simp only[V.lenI]at hn
  simp only[RepW,V.isAgg,Bool.false_eq_true,if_false,RepV]at hy⊢
  obtain⟨a',cap',e1,e2,e3,e4⟩:=hy
  simp only[List.cons.injEq,Value.slice.injEq,and_true]at e1
  obtain⟨rfl,rfl,rfl⟩:=e1
  have hlen:(List.drop l.toNat (List.take h.toNat xs)).length=h.toNat-l.toNat:=by simp;omega
  refine⟨⟨_,_,by rw[hlen],by rw[hlen];omega,?_,?_⟩,by simp only[V.len];exact hlen⟩
  ·intro hnone
   split at hnone
   ·omega
   ·have:ad=none:=by simpa using hnone
    have:=e3 this;omega
  ·intro p hp
   split at hp
   ·rename_i heq
    have:List.drop l.toNat (List.take h.toNat xs)=[]:=by apply List.eq_nil_of_length_eq_zero;omega
    rw[this];simp[RepE]
   ·obtain⟨q,hq,rfl⟩:=Option.map_eq_some_iff.1 hp
    rw[hs];exact ((e4 q hq).take h.toNat).drop l.toNat
 ·cases hz
  simp only[V.lenI]at hn
  have hn0:n=0:=by simpa using hn.symm
  subst hn0
  have hl0:l.toNat=0:=by omega
  have hh0:h.toNat=0:=by omega
  simp only[RepW,V.isAgg,Bool.false_eq_true,if_false,RepV]at hy⊢
  simp only[List.cons.injEq,Value.slice.injEq,and_true]at hy
  obtain⟨rfl,_,rfl⟩:=hy
  have hm0:mx=0:=by omega
  subst hm0
  simp[hl0,hh0,V.len]
section ops
variable {c:Ctx} {m:Mem} {σ:St} {a:Act} {w:World} {o:Oper} {t:AD} {p:Prop} {σ':St}
theorem snd_slcS {ty e:TypeId} {sz:Nat} {g:Bool} {x:Operand} {lo hi mx:Option Operand} {ax:AO} {alo ahi amx:Option AO} (h:InvW c m σ a w) (ho:o.op= .slice ty x lo hi mx) (hu:c.P.underlying ty=some (.slice e)) (hs:szAg c.P e=some (sz,g))
  (hx:aoOf σ.vs.length x=some ax) (hlo:aopOf σ.vs.length lo=some alo) (hhi:aopOf σ.vs.length hi=some ahi) (hmx:aopOf σ.vs.length mx=some amx) (hd:adOf σ.vs.length c.N o.dst=some t)
  (he:oSlcS sz alo ahi amx σ t (asV (σ.ev ax))=some (p,σ')) (hp:p):Fits c o a w σ':=by
 obtain⟨i,d,q1,q2,q3,q4⟩:=szAg_spec hs
 cases hX:asV (σ.ev ax)with
 |none=>simp[hX,oSlcS]at he
 |some y=>
  have hr:=h.rdV hx hX
  rw[hX]at he;unfold oSlcS at he
  split at he
  ·rename_i id sz' off n cc heq
   cases heq
   split at he
   ·rename_i hcond
    simp only[Bool.and_eq_true,beq_iff_eq]at hcond
    obtain⟨hm1,hsz⟩:=hcond
    subst hsz
    cases hl:σ.opt alo 0 with
    |none=>simp[hl,oSlcR]at he
    |some l=>cases hh:σ.opt ahi (n:Int)with
     |none=>simp[hl,hh,oSlcR]at he
     |some r=>
      simp only[hl,hh,oSlcR]at he;cases he
      have hbl:=opt_spec h hlo hl
      have hbh:=opt_spec h hhi hh
      have hmn:mx=none:=by
       cases mx with
       |none=>rfl
       |some m'=>
        simp only[aopOf]at hmx
        cases hm':aoOf σ.vs.length m' with
        |none=>simp[hm']at hmx
        |some am=>simp[hm']at hmx;subst hmx;simp at hm1
      subst hmn
      simp only[RepW,V.isAgg,Bool.false_eq_true,if_false,RepV]at hr
      obtain⟨q0,ad,q5,q6⟩:=hr
      have hv:a.eval x= .slice ad n cc:=by simpa using q5
      refine Fits.val (v:= .slice (if cc=l.toNat then ad else ad.map (·.add (l.toNat*sz))) (r.toNat-l.toNat) (cc-l.toNat)) ?_ (h.put hd ?_)
      ·unfold execOp;rw[ho];refine run_v ?_
       rw[hv];unfold Instr.sliceAt
       rw[run_bind (run_underlying hu)];simp only[]
       unfold Instr.slice
       rw[run_bind (run_underlying hu)];simp only[]
       rw[Option.map_none,run_bind (run_bounds2 hbl hbh hp.1 hp.2.1 (by omega))]
       simp only[]
       rw[run_bind (run_sizeOf q1),q3];rfl
      ·simp only[RepD,RepW,V.isAgg,Bool.false_eq_true,if_false,RepV]
       refine⟨by omega,_,by rw[show (r-l).toNat=r.toNat-l.toNat by omega],fun hc=> ?_⟩
       rw[if_neg (by omega),q6 (by omega),Option.map_some,addr_add,Nat.add_mul]
   ·split at he
    ·rename_i hcond
     simp only[Bool.and_eq_true,beq_iff_eq]at hcond
     obtain⟨hm1,hsz⟩:=hcond
     subst hsz
     cases hl:σ.opt alo 0 with
     |none=>simp[hl,oSlcR3]at he
     |some l=>cases hh:σ.opt ahi (n:Int)with
      |none=>simp[hl,hh,oSlcR3]at he
      |some r=>cases hq:σ.opt2 amx with
       |none=>simp[hl,hh,hq,oSlcR3]at he
       |some qq=>cases qq with
        |none=>simp[hl,hh,hq,oSlcR3]at he
        |some q=>
         simp only[hl,hh,hq,oSlcR3]at he;cases he
         have hbl:=opt_spec h hlo hl
         have hbh:=opt_spec h hhi hh
         cases amx with
         |none=>simp[St.opt2]at hq
         |some am=>
          cases mx with
          |none=>simp[aopOf]at hmx
          |some m'=>
           simp only[aopOf]at hmx
           cases hm':aoOf σ.vs.length m' with
           |none=>simp[hm']at hmx
           |some am'=>
            simp[hm']at hmx;subst hmx
            simp only[St.opt2]at hq
            obtain⟨q',hq',e0⟩:=Option.map_eq_some_iff.1 hq
            cases e0
            obtain⟨k3,hk3⟩:=h.rdI hm' hq'
            have hhi':∃y k,hi=some y∧a.eval y= .int k r:=by
             rcases hbh with⟨rfl,_⟩|hb
             ·simp only[aopOf]at hhi;cases hhi;simp at hm1
             ·exact hb
            simp only[RepW,V.isAgg,Bool.false_eq_true,if_false,RepV]at hr
            obtain⟨q0,ad,q5,q6⟩:=hr
            have hv:a.eval x= .slice ad n cc:=by simpa using q5
            obtain⟨p1,p2,p3,p4⟩:=hp
            refine Fits.val (v:= .slice (if q.toNat=l.toNat then ad else ad.map (·.add (l.toNat*sz))) (r.toNat-l.toNat) (q.toNat-l.toNat)) ?_ (h.put hd ?_)
            ·unfold execOp;rw[ho];refine run_v ?_
             rw[hv];unfold Instr.sliceAt
             rw[run_bind (run_underlying hu)];simp only[]
             unfold Instr.slice
             rw[run_bind (run_underlying hu)];simp only[]
             rw[Option.map_some,run_bind (run_bounds4 hbl hhi' hk3 p1 p2 p3 p4)]
             simp only[]
             rw[run_bind (run_sizeOf q1),q3];rfl
            ·simp only[RepD,RepW,V.isAgg,Bool.false_eq_true,if_false,RepV]
             refine⟨by omega,_,by rw[show (r-l).toNat=r.toNat-l.toNat by omega,show (q-l).toNat=q.toNat-l.toNat by omega],fun hc=> ?_⟩
             rw[if_neg (by omega),q6 (by omega),Option.map_some,addr_add,Nat.add_mul]
    ·cases he
  ·rename_i y' hne heq
   cases heq
   cases hn:y.lenI with
   |none=>simp[hn,oSlcS2]at he
   |some n=>
    simp only[hn,oSlcS2]at he
    split at he
    ·cases he
    ·rename_i hcond
     obtain⟨ad,cap,hv,hc1,hc2,hc3⟩:=hr.slice ⟨n,hn⟩
     rw[hn]at hc3;cases hc3
     cases hl:σ.opt alo 0 with
     |none=>simp[hl,oSlcS3]at he
     |some l=>cases hh:σ.opt ahi (y.len:Int)with
      |none=>simp[hl,hh,oSlcS3]at he
      |some r=>
       cases hq:σ.opt2 amx with
       |none=>simp[hl,hh,hq,oSlcS3]at he
       |some q=>
        simp only[hl,hh,hq,cutO]at he
        cases hz:cutV l r y with
        |none=>cases q<;>simp[hz,oSlcS3]at he
        |some z=>
         rw[hz]at he
         rw[hv]at hr
         have hbl:=opt_spec h hlo hl
         have hbh:=opt_spec h hhi hh
         cases q with
         |none=>
          simp only[oSlcS3]at he
          split at he
          ·rename_i hst;cases he
           have hmn:mx=none:=by
            cases mx with
            |none=>rfl
            |some m'=>
             simp only[aopOf]at hmx
             cases hm':aoOf σ.vs.length m' with
             |none=>simp[hm']at hmx
             |some am=>simp[hm']at hmx;subst hmx;simp[St.opt2]at hq
           subst hmn
           obtain⟨h7,h8⟩:=RepW.cut (mx:=cap) hr hz hst hn hp.1 hp.2.1 hp.2.2 (by omega) (Nat.le_refl _)
           refine fits_putS h hd ?_ h7
           unfold execOp;rw[ho];refine run_v ?_
           rw[hv];unfold Instr.sliceAt
           rw[run_bind (run_underlying hu)];simp only[]
           unfold Instr.slice
           rw[run_bind (run_underlying hu)];simp only[]
           rw[Option.map_none,run_bind (run_bounds2 hbl hbh hp.1 hp.2.1 (by omega))]
           simp only[]
           rw[run_bind (run_sizeOf q1),q3];rfl
          ·cases he
         |some q=>
          simp only[oSlcS3]at he
          split at he
          ·rename_i hst;cases he
           obtain⟨p1,p2,p3,p4⟩:=hp
           subst p3
           cases amx with
           |none=>simp[St.opt2]at hq
           |some am=>
            cases mx with
            |none=>simp[aopOf]at hmx
            |some m'=>
             simp only[aopOf]at hmx
             cases hm':aoOf σ.vs.length m' with
             |none=>simp[hm']at hmx
             |some am'=>
              simp[hm']at hmx;subst hmx
              simp only[St.opt2]at hq
              obtain⟨q',hq',e0⟩:=Option.map_eq_some_iff.1 hq
              cases e0
              obtain⟨k3,hk3⟩:=h.rdI hm' hq'
              have hhi':∃y k,hi=some y∧a.eval y= .int k r:=by
               rcases hbh with⟨rfl,_⟩|hb
               ·simp only[aopOf]at hhi;cases hhi;simp at hcond
               ·exact hb
              obtain⟨h7,h8⟩:=RepW.cut (mx:=r.toNat) hr hz hst hn p1 p2 p4 (Nat.le_refl _) (by omega)
              refine Fits.val ?_ (h.put hd ⟨h7,_,r.toNat-l.toNat,by rw[h8],.inl h8.symm⟩)
              ·unfold execOp;rw[ho];refine run_v ?_
               rw[hv];unfold Instr.sliceAt
               rw[run_bind (run_underlying hu)];simp only[]
               unfold Instr.slice
               rw[run_bind (run_underlying hu)];simp only[]
               rw[Option.map_some,run_bind (run_bounds3 hbl hhi' hk3 p1 p2 (by omega))]
               simp only[]
               rw[run_bind (run_sizeOf q1),q3];rfl
          ·cases he
  ·cases he
end ops
end Go.Abs
namespace Go.Abs
open Go Go.RowKit
set_option linter.unusedVariables false
set_option linter.unusedSimpArgs false
def Mem.free (m:Mem) (b:Nat):Mem:={ m with ow:=fun b'=>if b'=b then none else m.ow b' }
theorem MM_free {Mc:Nat→Nat→Prop} {m:Mem} {b x o:Nat} (h:MM Mc (m.free b).ow (m.free b).lo x o):MM Mc m.ow m.lo x o:=by
 rcases h with h|⟨h1,h2⟩
 ·exact .inl h
 ·simp only[Mem.free]at h1
  split at h1
  ·simp at h1
  ·exact .inr ⟨h1,h2⟩
theorem InvW.freeze {c m σ a w} (h : InvW c m σ a w) {k b : Nat} {r : Bx} (hk : σ.L[k]? = some r) (hb : m.lam[k]? = some (some b)) (hnn : r.x ≠ .nili) :
    InvW c (m.free b) { σ with L := σ.L.set k ⟨true, r.x⟩ } a w ∧ ∀ o, ¬ MM c.Mc (m.free b).ow (m.free b).lo b o := by
  obtain ⟨hB, hB2, hB3, hB4⟩ := h.boxes k r b hk hb
  have hsep : ∀ b', b' = b → ∀ pl, m.ow b' = some pl → pl = .box k := by
    intro b' e pl hpl
    subst e
    cases hf : r.fz with
    | false => have := (hB3 hf).1; rw [hpl] at this; cases this; rfl
    | true => exact absurd (.inr ⟨by simp [hpl], Nat.le_refl _⟩) (hB4 hf (m.lo b'))
  have hno : ∀ o, ¬ MM c.Mc (m.free b).ow (m.free b).lo b o := by
    rintro o (h1 | ⟨h1, _⟩)
    · have := h.callers b o h1; omega
    · simp [Mem.free] at h1
  have g : Goes w (MM c.Mc m.ow m.lo) w (MM c.Mc (m.free b).ow (m.free b).lo) := fun q v h1 h2 => ⟨h1, fun h3 => h2 (MM_free h3)⟩
  have T : Tr c m w σ.L σ.G (m.free b) w (σ.L.set k ⟨true, r.x⟩) σ.G (fun _ => False) :=
    { goes := g
      shape := fun _ _ h => h
      frz := fun _ _ _ _ => rfl
      lam := fun _ _ h => h
      locs := fun k' r' _ _ hk' => by
        by_cases e : k' = k
        · subst e; rw [hk] at hk'; cases hk'
          exact ⟨⟨true, r.x⟩, by rw [List.getElem?_set_self (List.getElem?_eq_some_iff.1 hk).1], V.same_refl _⟩
        · exact ⟨r', by rw [List.getElem?_set_ne (fun h => e h.symm)]; exact hk', V.same_refl _⟩
      objs := fun _ r h => ⟨r, h, V.same_refl _⟩
      own := fun t _ b' hb' => by
        have : b' ≠ b := fun e => by have := hsep b' e _ hb'; cases this
        simp only [Mem.free]; rw [if_neg this]; exact ⟨hb', trivial⟩
      ob := fun b' hb' => by
        have : b' ≠ b := fun e => by have := hsep b' e _ hb'; cases this
        simp only [Mem.free]; rw [if_neg this]; exact ⟨hb', trivial⟩
      obN := fun b' hb' => by
        simp only [Mem.free] at hb'
        split at hb'
        · cases hb'
        · exact .inl hb' }
  refine ⟨?_, hno⟩
  refine h.step T none (fun _ h => by cases h) (fun _ _ _ => rfl) rfl rfl rfl (Nat.le_refl _) (fun b' hb' => ?_) (by simp [h.lamL, Mem.free]) ?_ ?_ rfl ?_ ?_ (fun k' hk' => by
      have hk' : (σ.L.set k ⟨true, r.x⟩)[k']? = some Bx.hole := hk'
      by_cases e : k' = k
      · subst e; rw [List.getElem?_set_self (List.getElem?_eq_some_iff.1 hk).1] at hk'; simp only [Bx.hole, Option.some.injEq, Bx.mk.injEq, true_and] at hk'; exact absurd hk' hnn
      · rw [List.getElem?_set_ne (fun h => e h.symm)] at hk'; exact h.holes k' hk')
  · simp only [Mem.free] at hb'
    split at hb'
    · simp at hb'
    · exact .inl hb'
  · intro k' r' b' hk' hb'
    by_cases e : k' = k
    · subst e
      have hlt := (List.getElem?_eq_some_iff.1 hk).1
      rw [List.getElem?_set_self hlt] at hk'; cases hk'
      have : b' = b := by have : m.lam[k']? = some (some b') := hb'; rw [hb] at this; cases this; rfl
      subst this
      exact ⟨hB.tr g (fun _ h => h) (fun _ => rfl) (fun _ _ h => h), hB2, (fun hf => by cases hf), fun _ => hno⟩
    · rw [List.getElem?_set_ne (fun h => e h.symm)] at hk'
      obtain ⟨h1, h2, h3, h4⟩ := h.boxes k' r' b' hk' hb'
      refine ⟨h1.tr g (fun _ h => h) (fun _ => rfl) (fun _ _ h => h), h2, fun hf => ?_, fun hf o hM => h4 hf o (MM_free hM)⟩
      obtain ⟨h5, h6⟩ := h3 hf
      have : b' ≠ b := fun e' => by have := hsep b' e' _ h5; cases this; exact e rfl
      simp only [Mem.free]; rw [if_neg this]; exact ⟨h5, h6⟩
  · intro id x hx
    obtain ⟨h1, h2, h3⟩ := h.objs id x hx
    refine ⟨h1.tr g (fun _ h => h) (fun _ => rfl) (fun _ _ h => h), ?_, h3⟩
    have : id ≠ b := fun e' => by have := hsep id e' _ h2; cases this
    simp only [Mem.free]; rw [if_neg this]; exact h2
  · intro t d hd
    exact (h.envV t d hd).tr T (fun h => h)
  · intro t d hd
    obtain ⟨h1, h2, h3⟩ := h.envT t d hd
    exact ⟨h1, h2, h3.tr T (fun h => h)⟩
theorem run_sliceAtA {P:Program} {ty e:TypeId} {n:Nat} {i:TypeInfo} {q:Addr} {lo hi:Option Value} {l h:Nat} {w:World} (hu:P.underlying ty=some (.array n e)) (hi':P.info? e=some i) (hs:i.size=1)
  (hb:(Instr.sliceBounds false n n lo hi none).run P w= .ok (l,h,n) w):
  (Instr.sliceAt ty (.pointer (some q)) lo hi none).run P w= .ok (.slice (some (if n=l then q else q.add l)) (h-l) (n-l)) w:=by
 unfold Instr.sliceAt
 rw[run_bind (run_underlying hu)]
 simp only[]
 rw[run_bind (x:=q) (w1:=w) rfl,run_bind hb]
 simp only[]
 rw[run_bind (run_sizeOf hi'),hs];simp only[Nat.mul_one];rfl
section ops
variable {c:Ctx} {m:Mem} {σ:St} {a:Act} {w:World} {o:Oper} {t:AD} {p:Prop} {σ':St}
theorem snd_slcA {ty e:TypeId} {n:Nat} {g vw:Bool} {x:Operand} {lo hi mx:Option Operand} {ax:AO} {alo ahi amx:Option AO} (h:InvW c m σ a w) (ho:o.op= .slice ty x lo hi mx) (hu:c.P.underlying ty=some (.array n e)) (hs:szAg c.P e=some (1,g))
  (hx:aoOf σ.vs.length x=some ax) (hlo:aopOf σ.vs.length lo=some alo) (hhi:aopOf σ.vs.length hi=some ahi) (hmx:aopOf σ.vs.length mx=some amx) (hd:adOf σ.vs.length c.N o.dst=some t)
  (he:oSlcA n vw alo ahi amx σ t (σ.ev ax)=some (p,σ')) (hp:p):Fits c o a w σ':=by
 obtain⟨i,d,q1,q2,q3,q4⟩:=szAg_spec hs
 cases hX:σ.ev ax with
 |none=>simp[hX,oSlcA]at he
 |some dd=>
  have hr:=h.rd hx hX
  rw[hX]at he
  cases dd<;>simp only[oSlcA]at he<;>try (cases he;done)
  rename_i k q
  obtain⟨b,r,of,h1,h2,h3,h4⟩:=hr
  split at he
  ·rename_i hmn
   have hmx0:mx=none:=by
    cases mx with
    |none=>rfl
    |some m'=>
     simp only[aopOf]at hmx
     cases hm':aoOf σ.vs.length m' with
     |none=>simp[hm']at hmx
     |some am=>simp[hm']at hmx;subst hmx;simp at hmn
   subst hmx0
   simp only[h2,oSlcX]at he
   cases hS:r.x.sub q with
   |none=>simp[hS,oSlcB]at he
   |some y=>
    rw[hS]at he
    cases y<;>simp only[oSlcB]at he<;>try (cases he;done)
    rename_i kk n' xs
    rw[Option.ite_none_left_eq_some]at he
    obtain⟨hnn,he⟩:=he
    have hnn:n'=n:=Decidable.byContradiction hnn
    subst hnn
    split at he
    ·split at he
     ·rename_i hlh;cases he
      simp only[Bool.and_eq_true,Option.isNone_iff_eq_none]at hlh
      obtain⟨rfl,rfl⟩:=hlh
      have hlo0:lo=none:=by
       cases lo with
       |none=>rfl
       |some z=>simp only[aopOf]at hlo;cases hz:aoOf σ.vs.length z<;>simp[hz]at hlo
      have hhi0:hi=none:=by
       cases hi with
       |none=>rfl
       |some z=>simp only[aopOf]at hhi;cases hz:aoOf σ.vs.length z<;>simp[hz]at hhi
      subst hlo0 hhi0
      have hb:=run_bounds2 (P:=c.P) (a:=a) (isS:=false) (len:=n') (cap:=n') (lo:=none) (hi:=none) (w:=w) (.inl ⟨rfl,rfl⟩) (.inl ⟨rfl,rfl⟩) (Int.le_refl 0) (by omega) (Int.le_refl _)
      refine Fits.val (v:= .slice (some ⟨b,of,none⟩) n' n') ?_ (h.put hd ⟨b,r,of,kk,xs,h1,h2,h3,hS,rfl⟩)
      unfold execOp;rw[ho];refine run_v ?_
      rw[h4]
      have:=run_sliceAtA (q:=⟨b,of,none⟩) hu q1 q3 hb
      simp only[Option.map_none]at this⊢
      rw[this]
      by_cases hz:n'=0<;>simp[hz,Addr.add]
     ·cases he
    ·cases hl:σ.opt alo 0 with
     |none=>simp[hl,oSlcF]at he
     |some l=>cases hh:σ.opt ahi n' with
      |none=>simp[hl,hh,oSlcF]at he
      |some r'=>
       simp only[hl,hh,oSlcF]at he;cases he
       have hb:=run_bounds2 (P:=c.P) (isS:=false) (len:=n') (cap:=n') (w:=w) (opt_spec h hlo hl) (opt_spec h hhi hh) hp.1 hp.2.1 hp.2.2
       obtain⟨hF,hno⟩:=h.freeze h2 h1 (fun e=>by rw[e]at hS;cases q<;>simp[V.sub]at hS)
       refine Fits.val (v:= .slice (some (if n'=l.toNat then ⟨b,of,none⟩else (⟨b,of,none⟩:Addr).add l.toNat)) (r'.toNat-l.toNat) (n'-l.toNat)) ?_ (InvW.put hF hd ?_)
       ·unfold execOp;rw[ho];refine run_v ?_
        rw[h4,Option.map_none];exact run_sliceAtA hu q1 q3 hb
       ·have hB:=(hF.boxes k ⟨true,r.x⟩ b (by show (σ.L.set k _)[k]? =_;rw[List.getElem?_set_self (List.getElem?_eq_some_iff.1 h2).1]) h1).1
        obtain⟨cs,e1,e2⟩:=hB.part hS h3
        simp only[RepV]at e2;obtain⟨hxl,rfl⟩:=e2
        simp only[RepD,RepW,V.isAgg,Bool.false_eq_true,if_false,RepV]
        have hlen:(List.drop l.toNat (List.take r'.toNat xs)).length=r'.toNat-l.toNat:=by simp;omega
        refine⟨_,_,by rw[hlen],by rw[hlen];omega,by simp,?_⟩
        intro pp hpp
        cases hpp
        have hrd:Reads w (MM c.Mc (m.free b).ow (m.free b).lo) ⟨b,of,none⟩ (xs.map (Value.int kk)):=fun i v hv=>⟨e1 i v hv,hno _⟩
        split
        ·rename_i heq
         have:List.drop l.toNat (List.take r'.toNat xs)=[]:=by apply List.eq_nil_of_length_eq_zero;omega
         rw[this];intro i v hv;simp at hv
        ·have:=(hrd.take r'.toNat).drop l.toNat
         rwa [←List.map_take,←List.map_drop]at this
  ·cases he
end ops
end Go.Abs
namespace Go.Abs
open Go Go.RowKit
set_option linter.unusedVariables false
set_option linter.unusedSimpArgs false
theorem foldl_patch (off:Nat):∀(l:List Value) (k:Nat) (cells:Array Value),off+k+l.length≤cells.size→
  ((l.zipIdx k).foldl (fun cs (x:Value×Nat)=>cs.setIfInBounds (off+x.2) x.1) cells).toList=patch cells.toList (off+k) l
 |[],k,cells,h=>by simp[patch]
 |v::l,k,cells,h=>by
  simp only[List.zipIdx_cons,List.foldl_cons]
  rw[foldl_patch off l (k+1) _ (by simp at h⊢;omega)]
  simp only[Array.toList_setIfInBounds,patch]
  have hlt:off+k < cells.toList.length:=by simp at h⊢;omega
  rw[List.set_eq_take_append_cons_drop,if_pos hlt]
  have e1:(cells.toList.take (off+k)).length=off+k:=by simp at hlt⊢;omega
  rw[show off+(k+1)=(cells.toList.take (off+k)).length+1 by omega,List.take_length_add_append,List.take_succ_cons,List.take_zero]
  rw[show (cells.toList.take (off+k)).length+1+l.length=(cells.toList.take (off+k)).length+(1+l.length)by omega,←List.drop_drop,List.drop_left]
  simp only[List.append_assoc,List.cons_append,List.nil_append,e1]
  rw[show 1+l.length=l.length+1 by omega,List.drop_succ_cons,List.drop_drop]
  congr 3
  simp;omega
theorem fill_rep {w M} {place:Nat→Option (Nat×Nat)}:∀{ps:List (Nat×V)} {vs:List (Nat×Value)} {z z':V} {cells:Array Value},
  RepV w M z cells.toList→fillV (some z) ps=some z'→(∀i y,z.sub [i]=some y→∃o,z.off [i]=some o∧place i=some (o,y.size))→
  vs.length=ps.length→(∀(j:Nat) p v,ps[j]? =some p→vs[j]? =some v→v.1=p.1∧RepW w M p.2 v.2)→∃cells',Instr.fill place cells vs=some cells'∧RepV w M z' cells'.toList∧z'.same z=true
 |[],[],z,z',cells,hz,hf,hp,hl,hr=>by
  simp only[fillV]at hf;cases hf
  exact⟨cells,rfl,hz,V.same_refl _⟩
 |[],v::vs,z,z',cells,hz,hf,hp,hl,hr=>by simp at hl
 |p::ps,[],z,z',cells,hz,hf,hp,hl,hr=>by simp at hl
 |(i,y)::ps,(i',v)::vs,z,z',cells,hz,hf,hp,hl,hr=>by
  obtain⟨e1,hv⟩:=hr 0 (i,y) (i',v) rfl rfl
  simp only at e1 hv;subst e1
  simp only[fillV]at hf
  cases hu:z.upd [i'] y with
  |none=>rw[hu]at hf;cases ps<;>simp[fillV]at hf
  |some z1=>
   rw[hu]at hf
   have hsub:∃y0,z.sub [i']=some y0∧y0.size=y.size:=by
    cases z<;>(try simp only[V.upd]at hu)<;>(try (cases hu;done))
    ·rename_i k n xs
     cases y<;>(try simp only[V.upd]at hu)<;>(try (cases hu;done))
     split at hu
     ·rename_i hc;exact⟨.int k (xs.getD i' 0),by simp only[V.sub];rw[if_pos hc.2],rfl⟩
     ·cases hu
    ·rename_i l
     cases hg:l[i']? with
     |none=>simp[hg]at hu
     |some y0=>
      simp only[hg]at hu
      obtain⟨y1,h1,_⟩:=Option.map_eq_some_iff.1 hu
      split at h1
      ·rename_i hs
       exact⟨y0,by simp[V.sub,hg],(V.same_size hs).1.symm⟩
      ·cases h1
   obtain⟨y0,hs0,hsz⟩:=hsub
   obtain⟨o,ho,hpl⟩:=hp i' y0 hs0
   obtain⟨hp1,hp2⟩:=RepV.upd hz hu ho hv.cells
   have hlen:v.cells.size=y.size:=by have:=hv.cells.len;simpa using this
   let cells1:=v.cells.zipIdx.foldl (fun cs (x:Value×Nat)=>cs.setIfInBounds (o+x.2) x.1) cells
   have hc1:cells1.toList=patch cells.toList o v.cells.toList:=by
    have:=foldl_patch o v.cells.toList 0 cells (by simp at hp2⊢;omega)
    rw[Nat.add_zero]at this
    rw[←this]
    show (v.cells.zipIdx.foldl _ cells).toList=_
    rw[←Array.foldl_toList];simp
   have hsame:=V.upd_same hu
   obtain⟨cells',h4,h5,h6⟩:=fill_rep (place:=place) (ps:=ps) (vs:=vs) (z:=z1) (cells:=cells1) (by rw[hc1];exact hp1) hf (by
    intro i2 y2 h2
    have:∃y3,z.sub [i2]=some y3∧y2.size=y3.size:=by
     cases z<;>(try simp only[V.upd]at hu)<;>(try (cases hu;done))
     ·rename_i k n xs
      cases y<;>(try simp only[V.upd]at hu)<;>(try (cases hu;done))
      split at hu
      ·cases hu
       simp only[V.sub]at h2⊢
       split at h2
       ·cases h2;rename_i hlt;exact⟨.int k (xs.getD i2 0),by rw[if_pos hlt],rfl⟩
       ·cases h2
      ·cases hu
     ·rename_i l
      cases hg:l[i']? with
      |none=>simp[hg]at hu
      |some y00=>
       simp only[hg]at hu
       obtain⟨y1,h1,rfl⟩:=Option.map_eq_some_iff.1 hu
       split at h1
       ·rename_i hs;cases h1
        simp only[V.sub]at h2
        by_cases e:i2=i'
        ·subst e
         have hlt:=(List.getElem?_eq_some_iff.1 hg).1
         rw[List.getElem?_set_self hlt]at h2;simp at h2;subst h2
         exact⟨y00,by simp[V.sub,hg],(V.same_size hs).1⟩
        ·rw[List.getElem?_set_ne (fun h=>e h.symm)]at h2
         cases hg2:l[i2]? with
         |none=>simp[hg2]at h2
         |some y4=>simp[hg2]at h2;subst h2;exact⟨y4,by simp[V.sub,hg2],rfl⟩
       ·cases h1
    obtain⟨y3,h3,h3'⟩:=this
    obtain⟨o2,h4,h5⟩:=hp i2 y3 h3
    exact⟨o2,V.same_off (V.same_symm hsame) h4,by rw[h3'];exact h5⟩) (by simpa using hl) (fun j p' v' h1 h2=>hr (j+1) p' v' (by simpa using h1) (by simpa using h2))
   refine⟨cells',?_,h5,V.same_trans' h6 hsame⟩
   simp only[Instr.fill,hpl]
   have hp2':o+v.cells.size≤cells.size:=by simpa using hp2
   have hcond:(decide (v.cells.size≠y0.size)||decide (o+v.cells.size > cells.size))=false:=by
    rw[Bool.or_eq_false_iff];exact⟨decide_eq_false (fun h=>h (hlen.trans hsz.symm)),decide_eq_false (by omega)⟩
   rw[if_neg (by rw[hcond];exact Bool.false_ne_true)]
   exact h4
theorem parts_rep {c:Ctx} {m:Mem} {σ:St} {a:Act} {w:World} (h:InvW c m σ a w) {K:Nat}:∀{ps:List (Nat×Operand)} {as:List (Nat×AO)} {vs:List (Nat×V)},aopsOf K ps=some as→σ.parts as=some vs→
  (ps.map fun (x:Nat×Operand)=>(x.1,a.eval x.2)).length=vs.length∧∀(j:Nat) p v,vs[j]? =some p→(ps.map fun (x:Nat×Operand)=>(x.1,a.eval x.2))[j]? =some v→v.1=p.1∧RepW w (MM c.Mc m.ow m.lo) p.2 v.2
 |[],as,vs,hp,he=>by
  simp only[aopsOf]at hp;cases hp;simp only[St.parts]at he;cases he
  exact⟨rfl,fun j p v h1 _=>by simp at h1⟩
 |(i,x)::ps,as,vs,hp,he=>by
  simp only[aopsOf]at hp
  split at hp
  ·rename_i ax am h1 h2;cases hp
   simp only[St.parts]at he
   cases hy:asV (σ.ev ax)with
   |none=>simp[hy,consP]at he
   |some y=>
    cases hl:σ.parts am with
    |none=>simp[hy,hl,consP]at he
    |some l=>
     simp only[hy,hl,consP]at he;cases he
     obtain⟨h3,h4⟩:=parts_rep h h2 hl
     refine⟨by simpa using h3,?_⟩
     intro j p v hj hv
     cases j with
     |zero=>simp at hj hv;subst hj hv;exact⟨rfl,h.rdV h1 hy⟩
     |succ j=>exact h4 j p v (by simpa using hj) (by simpa using hv)
  ·cases hp
theorem fill_ty {z:V} {fs:List Field} {P:Program} (hz:partsOk P z fs=true) (i:Nat) (y:V) (hy:z.sub [i]=some y):
  ∃o j fd,fs[i]? =some fd∧P.info? fd.type=some j∧z.off [i]=some o∧o=fd.offset∧y.size=j.size:=by
 unfold partsOk at hz
 rw[Bool.and_eq_true,List.all_eq_true]at hz
 obtain⟨hz0,hz⟩:=hz
 have hlt:i < fs.length:=by
  cases z<;>simp at hz0
  rename_i l
  simp only[V.sub]at hy
  cases hg:l[i]? with
  |none=>simp[hg]at hy
  |some y0=>have:=(List.getElem?_eq_some_iff.1 hg).1;omega
 have:=hz (fs[i],i) (by rw[List.mem_iff_getElem?];exact⟨i,by simp[hlt]⟩)
 simp only[Bool.and_eq_true,decide_eq_true_eq,hy]at this
 obtain⟨h1,h2⟩:=this
 split at h2
 ·rename_i y' j e1 e2
  cases e1
  exact⟨_,j,fs[i],by simp[hlt],e2,h1,rfl,by simpa using h2⟩
 ·cases h2
theorem run_mapM {α β:Type} {P:Program} {w:World} {f:α→Sem β} {g:α→β}:∀{l:List α},(∀x∈l,(f x).run P w= .ok (g x) w)→(l.mapM f).run P w= .ok (l.map g) w
 |[],_=>rfl
 |x::l,h=>by
  rw[List.mapM_cons,run_bind (h x (by simp)),run_bind (run_mapM (fun y hy=>h y (by simp[hy])))];rfl
theorem run_mapMA {α β:Type} {P:Program} {w:World} {f:α→Sem β} {g:α→β} {l:Array α} (h:∀x∈l.toList,(f x).run P w= .ok (g x) w):(l.mapM f).run P w= .ok (l.toList.map g).toArray w:=by
 rw[Array.mapM_eq_mapM_toList,Sem.run_map,run_mapM h];rfl
def szF (P:Program) (f:Field):Nat:=((P.info? f.type).map (·.size)).getD 0
section ops
variable {c:Ctx} {m:Mem} {σ:St} {a:Act} {w:World} {o:Oper} {t:AD} {p:Prop} {σ':St}
theorem snd_build {ty:TypeId} {ps:Array (Nat×Operand)} {as:List (Nat×AO)} {z:V} {fs:Array Field} (h:InvW c m σ a w) (ho:o.op= .build ty ps) (hz:zeroOk c.P ty=some z) (hu:c.P.underlying ty=some (.struct fs))
  (hk:partsOk c.P z fs.toList=true) (hps:aopsOf σ.vs.length ps.toList=some as) (hd:adOf σ.vs.length c.N o.dst=some t) (he:oBuild z σ t (σ.parts as)=some (p,σ'))
  (hfs:∀f∈fs.toList,∃i,c.P.info? f.type=some i):Fits c o a w σ':=by
 obtain⟨i,v,h1,h2,h3⟩:=zeroOk_spec hz
 cases hv:σ.parts as with
 |none=>simp[hv,oBuild]at he
 |some vs=>
  rw[hv]at he;simp only[oBuild]at he
  cases hf:fillV (some z) vs with
  |none=>simp[hf,putVO]at he
  |some z'=>
   rw[hf]at he;simp only[putVO]at he;cases he
   obtain⟨h4,h5⟩:=parts_rep h hps hv
   have hplace:∀i y,z.sub [i]=some y→∃o,z.off [i]=some o∧((fs.toList.map fun f=>(f.offset,szF c.P f)).toArray[i]?)=some (o,y.size):=by
    intro i y hy
    obtain⟨o,j,fd,e1,e2,e3,e4,e5⟩:=fill_ty hk i y hy
    refine⟨o,e3,?_⟩
    simp only[List.getElem?_toArray,List.getElem?_map,e1,Option.map_some,e4,e5,szF,e2,Option.getD_some]
   have hz0:=(h3 w (MM c.Mc m.ow m.lo)).cells
   obtain⟨cells',h6,h7,h8⟩:=fill_rep (place:=fun i=>(fs.toList.map fun f=>(f.offset,szF c.P f)).toArray[i]?) hz0 hf hplace h4 h5
   have hagg:z'.isAgg=true:=by
    rw[(V.same_size h8).2]
    unfold partsOk at hk;rw[Bool.and_eq_true]at hk
    cases z<;>simp at hk;rfl
   refine fits_put h hd (v:= .agg cells') ?_ (by simp only[RepW,hagg,if_true];exact⟨_,rfl,h7⟩)
   unfold execOp;rw[ho];refine run_v ?_
   unfold Instr.build
   rw[run_bind (run_zeroValue h1 h2),run_bind (run_underlying hu)]
   simp only[]
   rw[run_bind (run_mapMA (g:=fun f=>(f.offset,szF c.P f)) (fun f hf=>by
    obtain⟨j,hj⟩:=hfs f hf
    rw[run_bind (run_sizeOf hj)];simp only[szF,hj,Option.map_some,Option.getD_some];rfl))]
   simp only[Array.toList_map]
   rw[h6];rfl
end ops
end Go.Abs
namespace Go.Abs
open Go Go.RowKit
set_option linter.unusedVariables false
set_option linter.unusedSimpArgs false
theorem sizeL_replicate (z:V):∀n,V.sizeL (List.replicate n z)=n*z.size
 |0=>by simp[V.sizeL]
 |n+1=>by simp[List.replicate_succ,V.sizeL,sizeL_replicate z n,Nat.add_mul,Nat.add_comm]
theorem repL_replicate {w M} {z:V} {cs:List Value} (hz:RepV w M z cs):∀n,RepL w M (List.replicate n z) (List.replicate n cs).flatten
 |0=>by simp[RepL]
 |n+1=>by
  simp only[List.replicate_succ,RepL,List.flatten_cons]
  exact⟨cs,_,rfl,hz,repL_replicate hz n⟩
theorem InvW.fresh {c m σ a w} (h:InvW c m σ a w) (pl:Option Place) (l:Nat) (o:Obj) (hpl:∀k,pl≠some (.box k)) (hpo:pl≠some .obj):
  InvW c (m.own1 w.heap.size pl l) σ a (w.alloc o)∧Goes w (MM c.Mc m.ow m.lo) (w.alloc o) (MM c.Mc (m.own1 w.heap.size pl l).ow (m.own1 w.heap.size pl l).lo):=by
 have T:Tr c m w σ.L σ.G (m.own1 w.heap.size pl l) (w.alloc o) σ.L σ.G (fun _=>False):=by
  have:=tr_new h (o:=o) (pl:=pl) (l:=l) (fun h=>absurd h hpo) [] []
  rw[List.append_nil,List.append_nil]at this;exact this
 refine⟨?_,T.goes⟩
 refine h.step T none (fun _ h=>by cases h) (fun b hb _=>heap_alloc_lt hb) rfl rfl rfl (by rw[size_alloc];omega) (fun b hb=> ?_) h.lamL ?_ ?_ rfl ?_ ?_ h.holes
 ·simp only[Mem.own1]at hb
  by_cases e:b=w.heap.size
  ·exact .inr ⟨by omega,by rw[size_alloc];omega⟩
  ·rw[if_neg e]at hb;exact .inl hb
 ·intro k r b hk hb
  obtain⟨h1,h2,h3,h4⟩:=h.boxes k r b hk hb
  have hbl:=h1.lt
  refine⟨h1.new T.goes,h2,fun hf=> ?_,fun hf o'=> ?_⟩
  ·obtain⟨h5,h6⟩:=h3 hf
   simp only[Mem.own1];rw[if_neg (by omega),if_neg (by omega)];exact⟨h5,h6⟩
  ·have:=h4 hf o'
   simp only[MM,Mem.own1]at this⊢;rw[if_neg (by omega),if_neg (by omega)];exact this
 ·intro id y hy
  obtain⟨h1,h2,h3⟩:=h.objs id y hy
  have:=h1.lt
  refine⟨h1.new T.goes,?_⟩
  simp only[Mem.own1];rw[if_neg (by omega),if_neg (by omega)];exact⟨h2,h3⟩
 ·intro t d hd
  exact (h.envV t d hd).tr T (fun h=>h)
 ·intro t d hd
  obtain⟨h1,h2,h3⟩:=h.envT t d hd
  exact⟨h1,h2,h3.tr T (fun h=>h)⟩
theorem cell_new {w:World} {cs:Array Value} {e:TypeId} {i:Nat} {v:Value} (h:cs[i]? =some v):(w.alloc (.cells cs e)).cell? ⟨w.heap.size,i,none⟩=some v:=by
 simp only[World.cell?,heap_alloc_eq,Option.isSome_none,Bool.false_eq_true,if_false];exact h
theorem shape_new {w:World} {cs:Array Value} {e:TypeId}:(w.alloc (.cells cs e)).shape? w.heap.size=some (e,cs.size):=by
 simp only[World.shape?,heap_alloc_eq]
theorem frozen_new {w:World} {cs:Array Value} {e:TypeId} {i:Nat}:(w.alloc (.cells cs e)).frozen? ⟨w.heap.size,i,none⟩=false:=by
 simp only[World.frozen?,heap_alloc_eq];simp
theorem intsV_rep {w M k}:∀{l:List V} {xs:List Int} {cs:List Value},intsV k l=some xs→RepL w M l cs→cs=xs.map (.int k)
 |[],xs,cs,h,hr=>by simp only[intsV]at h;cases h;simpa [RepL]using hr
 |x::l,xs,cs,h,hr=>by
  cases x<;>simp only[intsV]at h<;>try (cases h;done)
  split at h
  ·rename_i hk
   obtain⟨ys,h1,rfl⟩:=Option.map_eq_some_iff.1 h
   simp only[RepL]at hr
   obtain⟨c1,c2,rfl,h2,h3⟩:=hr
   simp only[RepV]at h2;subst h2
   simp only[beq_iff_eq]at hk;subst hk
   rw[intsV_rep h1 h3];simp
  ·cases h
theorem repE_of {w M sz}:∀{l:List V} {cs:List Value} {q:Addr},RepL w M l cs→(∀x∈l,x.size=sz)→Reads w M q cs→RepE w M sz l q
 |[],cs,q,_,_,_=>by simp[RepE]
 |x::l,cs,q,h,hs,hr=>by
  simp only[RepL]at h;obtain⟨c1,c2,rfl,h1,h2⟩:=h
  have hl:c1.length=sz:=by rw[h1.len];exact hs x (by simp)
  simp only[RepE]
  refine⟨c1,h1,hl,?_,repE_of h2 (fun y hy=>hs y (by simp[hy])) ?_⟩
  ·have:=hr.take c1.length;rwa [List.take_left]at this
  ·have:=hr.drop c1.length;rw[List.drop_left]at this;rwa [hl]at this
theorem elems_rep {w M} {k:Option IntKind} {sz:Nat} {l:List V} {y:V} {cs:List Value} {q:Addr} {cap:Nat} (he:elemsV k sz l=some y) (hl:RepL w M l cs) (hs:∀x∈l,x.size=sz) (hr:Reads w M q cs) (hc:l.length≤cap):
  RepW w M y (.slice (some q) l.length cap)∧y.len=l.length:=by
 cases k with
 |none=>
  simp only[elemsV]at he;cases he
  simp only[RepW,V.isAgg,Bool.false_eq_true,if_false,RepV,V.len]
  exact⟨⟨_,_,rfl,hc,by simp,fun p hp=>by cases hp;exact repE_of hl hs hr⟩,trivial⟩
 |some k=>
  simp only[elemsV]at he
  obtain⟨xs,h1,rfl⟩:=Option.map_eq_some_iff.1 he
  have hcs:=intsV_rep h1 hl
  have hlen:xs.length=l.length:=by
   have h2:∀{l:List V} {xs:List Int},intsV k l=some xs→xs.length=l.length:=by
    intro l
    induction l with
    |nil=>intro xs h;simp only[intsV]at h;cases h;rfl
    |cons x l ih=>
     intro xs h
     cases x<;>simp only[intsV]at h<;>try (cases h;done)
     split at h
     ·obtain⟨ys,h3,rfl⟩:=Option.map_eq_some_iff.1 h;simp[ih h3]
     ·cases h
   exact h2 h1
  simp only[RepW,V.isAgg,Bool.false_eq_true,if_false,RepV,V.len]
  refine⟨⟨_,_,by rw[hlen],by rw[hlen];exact hc,by simp,fun p hp=> ?_⟩,hlen⟩
  cases hp;rw[←hcs];exact hr
theorem zeros_flat (z:Array Value) (hz:z.size≠0) (n:Nat):((Array.range (n*z.size)).map (fun i=>z[i % z.size]!)).toList=(List.replicate n z.toList).flatten:=by
 apply List.ext_getElem?
 intro i
 have hlen:((List.replicate n z.toList).flatten).length=n*z.size:=by simp
 by_cases hi:i < n*z.size
 ·rw[show ((Array.range (n*z.size)).map (fun i=>z[i % z.size]!)).toList[i]? =some z[i % z.size]! by simp[hi]]
  have:∀n i,i < n*z.size→((List.replicate n z.toList).flatten)[i]? =some z[i % z.size]! :=by
   intro n
   induction n with
   |zero=>intro i hi;omega
   |succ n ih=>
    intro i hi
    rw[List.replicate_succ,List.flatten_cons]
    have hi':i < n*z.size+z.size:=by rw[Nat.add_mul,Nat.one_mul]at hi;exact hi
    by_cases hlt:i < z.size
    ·rw[List.getElem?_append_left (by simpa using hlt),Nat.mod_eq_of_lt hlt]
     simp[hlt]
    ·rw[List.getElem?_append_right (by simp;omega),Array.length_toList,ih (i-z.size) (by omega)]
     rw[Nat.mod_eq_sub_mod (a:=i) (by omega)]
  rw[this n i hi]
 ·rw[List.getElem?_eq_none (by simp;omega),List.getElem?_eq_none (by rw[hlen];omega)]
end Go.Abs
namespace Go.Abs
open Go Go.RowKit
set_option linter.unusedVariables false
set_option linter.unusedSimpArgs false
theorem sameL_sizes:∀{l m:List V},V.sameL l m=true→l.length=m.length∧∀sz,(∀x∈m,x.size=sz)→∀x∈l,x.size=sz
 |[],m,h=>by simp[V.sameL]at h;subst h;simp
 |x::l,[],h=>by simp[V.sameL]at h
 |x::l,y::m,h=>by
  simp[V.sameL]at h
  obtain⟨h1,h2⟩:=sameL_sizes h.2
  refine⟨by simp[h1],fun sz hs z hz=> ?_⟩
  rcases List.mem_cons.1 hz with rfl|hz
  ·rw[(V.same_size h.1).1];exact hs y (by simp)
  ·exact h2 sz (fun u hu=>hs u (by simp[hu])) z hz
section ops
variable {c:Ctx} {m:Mem} {σ:St} {a:Act} {w:World} {o:Oper} {t:AD} {p:Prop} {σ':St}
theorem fits_row {k:Option IntKind} {sz:Nat} {l:List V} {y:V} {cs:Array Value} {e:TypeId} (h:InvW c m σ a w) (hd:adOf σ.vs.length c.N o.dst=some t) (he:elemsV k sz l=some y) (hl:RepL w (MM c.Mc m.ow m.lo) l cs.toList) (hs:∀x∈l,x.size=sz)
  (hrun:(execOp a.eval o).run c.P w= .ok (.value (.slice (some ⟨w.heap.size,0,none⟩) l.length l.length)) (w.alloc (.cells cs e))):Fits c o a w (σ.put t (.own y)):=by
 obtain⟨h1,g⟩:=h.fresh none 0 (.cells cs e) (fun _ h=>by cases h) (fun h=>by cases h)
 have hr:Reads (w.alloc (.cells cs e)) (MM c.Mc (m.own1 w.heap.size none 0).ow (m.own1 w.heap.size none 0).lo) ⟨w.heap.size,0,none⟩ cs.toList:=by
  intro i v hv
  rw[addr_add,Nat.zero_add]
  refine⟨cell_new (by simpa using hv),?_⟩
  rintro (hM|⟨hM,_⟩)
  ·have:=h.callers _ _ hM;have:=h.grown;simp at*;omega
  ·simp[Mem.own1]at hM
 obtain⟨h2,h3⟩:=elems_rep he (hl.goes g) hs hr (Nat.le_refl _)
 exact Fits.val hrun (h1.put hd ⟨h2,_,l.length,by rw[h3],.inl h3.symm⟩)
theorem snd_buildS {ty e:TypeId} {len sz:Nat} {g:Bool} {ps:Array (Nat×Operand)} {as:List (Nat×AO)} {z:V} (h:InvW c m σ a w) (ho:o.op= .buildSlice ty len ps) (hu:c.P.underlying ty=some (.slice e)) (hz:zeroOk c.P e=some z) (hq:szAg c.P e=some (sz,g))
  (hlen:len*sz≤16777216) (hsz:sz≠0) (hzs:z.size=sz) (hps:aopsOf σ.vs.length ps.toList=some as) (hd:adOf σ.vs.length c.N o.dst=some t) {k:Option IntKind} (he:oBuildS k sz z len σ t (σ.parts as)=some (p,σ')):Fits c o a w σ':=by
 obtain⟨i,v,h1,h2,h3⟩:=zeroOk_spec hz
 obtain⟨i',d,q1,q2,q3,q4⟩:=szAg_spec hq
 rw[h1]at q1;cases q1
 cases hv:σ.parts as with
 |none=>simp[hv,oBuildS]at he
 |some vs=>
  rw[hv]at he;simp only[oBuildS]at he
  cases hf:fillV (some (.agg (List.replicate len z))) vs with
  |none=>simp[hf,oElems]at he
  |some z'=>
   rw[hf]at he
   cases z'<;>simp only[oElems]at he<;>try (cases he;done)
   rename_i l
   cases hE:elemsV k sz l with
   |none=>simp[hE,putO]at he
   |some y=>
    simp only[hE,Option.map_some,putO]at he;cases he
    obtain⟨h4,h5⟩:=parts_rep h hps hv
    have hzr:=(h3 w (MM c.Mc m.ow m.lo)).cells
    have hzl:v.cells.size=sz:=by have:=hzr.len;rw[hzs]at this;simpa using this
    have hz0:RepV w (MM c.Mc m.ow m.lo) (.agg (List.replicate len z)) ((Array.range (len*v.cells.size)).map (fun i=>v.cells[i % v.cells.size]!)).toList:=by
     simp only[RepV];rw[zeros_flat _ (by rw[hzl];exact hsz)];exact repL_replicate hzr len
    have hplace:∀i y,(V.agg (List.replicate len z)).sub [i]=some y→∃o,(V.agg (List.replicate len z)).off [i]=some o∧(fun i=>some (i*sz,sz)) i=some (o,y.size):=by
     intro i y hy
     simp only[V.sub]at hy
     cases hg:(List.replicate len z)[i]? with
     |none=>simp[hg]at hy
     |some y0=>
      simp[hg]at hy;subst hy
      have hlt:i < len:=by have:=(List.getElem?_eq_some_iff.1 hg).1;simpa using this
      have hyz:y0=z:=by rw[List.getElem?_replicate]at hg;simp[hlt]at hg;exact hg.symm
      subst hyz
      refine⟨i*sz,?_,by simp[hzs]⟩
      simp only[V.off,hg,Option.map_some,Nat.add_zero]
      rw[List.take_replicate,sizeL_replicate,Nat.min_eq_left (by omega),hzs]
    obtain⟨cells',h6,h7,h8⟩:=fill_rep hz0 hf hplace h4 h5
    simp only[V.same]at h8
    obtain⟨h9,h10⟩:=sameL_sizes h8
    have hl1:l.length=len:=by simpa using h9
    refine fits_row (e:=e) (cs:=cells') h hd hE (by simpa [RepV]using h7) (h10 sz (fun x hx=>by rw[List.eq_of_mem_replicate hx];exact hzs)) ?_
    unfold execOp;rw[ho];refine run_v ?_
    unfold Instr.buildSlice
    rw[run_bind (run_underlying hu)]
    simp only[]
    rw[run_bind (run_sizeOf h1),q3,if_neg (by omega)]
    have hA:∀f:Nat→Value,(Array.range 0).map f= #[]:=fun f=>by
     apply Array.toList_inj.1;simp
    have hB:(ps.map (fun (x:Nat×Operand)=>(x.1,a.eval x.2))).toList=ps.toList.map (fun (x:Nat×Operand)=>(x.1,a.eval x.2)):=Array.toList_map
    by_cases hl0:len=0
    ·have e0:len*sz=0:=by rw[hl0,Nat.zero_mul]
     rw[hl0,Nat.zero_mul,hA]at h6
     simp only[e0,if_true,Sem.run_bind,Sem.run_pure,Result.andThen_ok,hA]
     have:Instr.fill (fun i=>some (i*sz,sz)) #[] (ps.map (fun (x:Nat×Operand)=>(x.1,a.eval x.2))).toList=some cells':=by rw[hB];exact h6
     simp only[this,hl1]
     rfl
    ·have e0:len*sz≠0:=Nat.mul_ne_zero hl0 hsz
     simp only[e0,if_false,Sem.run_bind,run_zeroValue h1 h2,Sem.run_pure,Result.andThen_ok]
     rw[hzl]at h6
     have:Instr.fill (fun i=>some (i*sz,sz)) ((Array.range (len*sz)).map (fun i=>v.cells[i % sz]!)) (ps.map (fun (x:Nat×Operand)=>(x.1,a.eval x.2))).toList=some cells':=by rw[hB];exact h6
     simp only[hzl,this,hl1]
     rfl
theorem aops_nil {K:Nat}:∀{l:List (Nat×Operand)},aopsOf K l=some []→l=[]
 |[],_=>rfl
 |(i,x)::l,h=>by
  simp only[aopsOf]at h
  split at h<;>cases h
theorem snd_emp {ty e:TypeId} {sz:Nat} {g:Bool} {ps:Array (Nat×Operand)} {z:V} (h:InvW c m σ a w) (ho:o.op= .buildSlice ty 0 ps) (hu:c.P.underlying ty=some (.slice e)) (hz:zeroOk c.P e=some z) (hq:szAg c.P e=some (sz,g))
  (hps:aopsOf σ.vs.length ps.toList=some []) (hd:adOf σ.vs.length c.N o.dst=some t):Fits c o a w (σ.put t .e0):=by
 obtain⟨i,v,h1,h2,h3⟩:=zeroOk_spec hz
 obtain⟨i',d,q1,q2,q3,q4⟩:=szAg_spec hq
 rw[h1]at q1;cases q1
 have hp0:ps= #[]:=by
  have:=aops_nil hps
  apply Array.toList_inj.1;simpa using this
 subst hp0
 obtain⟨k1,g⟩:=h.fresh none 0 (.cells #[] e) (fun _ h=>by cases h) (fun h=>by cases h)
 refine Fits.val (v:= .slice (some ⟨w.heap.size,0,none⟩) 0 0) ?_ (k1.put hd (d:= .e0) ⟨_,rfl⟩)
 unfold execOp;rw[ho];refine run_v ?_
 unfold Instr.buildSlice
 rw[run_bind (run_underlying hu)]
 simp only[]
 rw[run_bind (run_sizeOf h1),q3,if_neg (by omega)]
 have hA:∀f:Nat→Value,(Array.range 0).map f= #[]:=fun f=>by
  apply Array.toList_inj.1;simp
 simp only[Nat.zero_mul,if_true,Sem.run_bind,Sem.run_pure,Result.andThen_ok,hA]
 have:Instr.fill (fun i=>some (i*sz,sz)) #[] ((#[]:Array (Nat×Operand)).map (fun (x:Nat×Operand)=>(x.1,a.eval x.2))).toList=some #[]:=by simp[Instr.fill]
 simp only[this]
 rfl
end ops
end Go.Abs
namespace Go.Abs
open Go Go.RowKit
set_option linter.unusedVariables false
set_option linter.unusedSimpArgs false
theorem strLen {α:Type} (s:ByteArray) (f:UInt8→α):(s.data.toList.map f).length=s.size:=by rw[List.length_map,Array.length_toList];rfl
def Elems (w:World) (M:Nat→Nat→Prop) (k:Option IntKind) (sz:Nat):V→List Value→Prop
 | .nils,cs=>cs=[]
 | .sli k' xs,cs=>k=some k'∧cs=xs.map (.int k')
 | .sle sz' l,cs=>k=none∧sz'=sz∧RepL w M l cs∧∀x∈l,x.size=sz
 | .str s,cs=>k=some .u8∧cs=s.data.toList.map fun b=> .int .u8 (b.toNat:Int)
 |_,_=>False
def V.lenS:V→Nat
 | .str s=>s.size
 |y=>y.len
theorem Elems.length {w M k sz y cs} (h:Elems w M k sz y cs) (hk:∀k',k=some k'→sz=1):cs.length=y.lenS*sz:=by
 cases y<;>simp only[Elems]at h
 ·obtain⟨h1,rfl⟩:=h;rw[hk _ h1,Nat.mul_one];exact strLen _ _
 ·obtain⟨h1,rfl⟩:=h;rw[hk _ h1];simp[V.lenS,V.len]
 ·obtain⟨h1,h2,h3,h4⟩:=h;rw[h3.len,sizeL_uniform h4];rfl
 ·subst h;simp[V.lenS,V.len]
theorem Elems.goes {w M w' M' k sz y cs} (g:Goes w M w' M') (h:Elems w M k sz y cs):Elems w' M' k sz y cs:=by
 cases y<;>simp only[Elems]at h⊢<;>first|exact h|skip
 exact⟨h.1,h.2.1,h.2.2.1.goes g,h.2.2.2⟩
theorem Elems.plain {w M k sz y cs} (h:Elems w M k sz y cs):∀v∈cs,plainV v=true:=by
 cases y<;>simp only[Elems]at h
 ·obtain⟨_,rfl⟩:=h;simp[plainV]
 ·obtain⟨_,rfl⟩:=h;simp[plainV]
 ·exact h.2.2.1.plain
 ·subst h;simp
theorem repL_of_repE {w M sz}:∀{l:List V} {q:Addr},RepE w M sz l q→∃cs,RepL w M l cs∧Reads w M q cs∧∀x∈l,x.size=sz
 |[],q,_=>⟨[],by simp[RepL],by intro i v hv;simp at hv,by simp⟩
 |x::l,q,h=>by
  simp only[RepE]at h;obtain⟨c,h0,h1,h2,h3⟩:=h
  obtain⟨cs,h4,h5,h6⟩:=repL_of_repE h3
  refine⟨c++cs,by simp only[RepL];exact⟨c,cs,rfl,h0,h4⟩,?_,?_⟩
  ·intro i v hv
   by_cases hi:i < c.length
   ·rw[List.getElem?_append_left hi]at hv;exact h2 i v hv
   ·rw[List.getElem?_append_right (by omega)]at hv
    have:=h5 _ v hv
    rw[Addr.add_add,Addr.add_block,Addr.add_off]at this
    rw[show i=sz+(i-c.length)by omega,←Nat.add_assoc];exact this
  ·intro y hy
   rcases List.mem_cons.1 hy with rfl|hy
   ·rw[←h0.len,h1]
   ·exact h6 y hy
theorem RepW.elems {w M y ad n cap k sz} (h:RepW w M y (.slice ad n cap)) (hk:∀k',k=some k'→sz=1) (hc:(∃k' xs,y= .sli k' xs∧k=some k')∨(∃l,y= .sle sz l∧k=none)∨y= .nils):
  ∃cs,Elems w M k sz y cs∧n=y.len∧n≤cap∧(ad=none→cap=0)∧∀q,ad=some q→Reads w M q cs:=by
 rcases hc with⟨k',xs,rfl,rfl⟩|⟨l,rfl,rfl⟩|rfl
 ·simp only[RepW,V.isAgg,Bool.false_eq_true,if_false,RepV]at h
  obtain⟨a',cap',e1,e2,e3,e4⟩:=h
  simp only[List.cons.injEq,Value.slice.injEq,and_true]at e1
  obtain⟨rfl,rfl,rfl⟩:=e1
  exact⟨_,⟨rfl,rfl⟩,rfl,e2,e3,e4⟩
 ·simp only[RepW,V.isAgg,Bool.false_eq_true,if_false,RepV]at h
  obtain⟨a',cap',e1,e2,e3,e4⟩:=h
  simp only[List.cons.injEq,Value.slice.injEq,and_true]at e1
  obtain⟨rfl,rfl,rfl⟩:=e1
  cases ad with
  |none=>
   have hl:l=[]:=by apply List.eq_nil_of_length_eq_zero;have:=e3 rfl;omega
   subst hl
   exact⟨[],⟨rfl,rfl,by simp[RepL],by simp⟩,rfl,e2,e3,fun q hq=>by cases hq⟩
  |some q=>
   obtain⟨cs,h1,h2,h3⟩:=repL_of_repE (e4 q rfl)
   exact⟨cs,⟨rfl,rfl,h1,h3⟩,rfl,e2,e3,fun q' hq'=>by cases hq';exact h2⟩
 ·simp only[RepW,V.isAgg,Bool.false_eq_true,if_false,RepV]at h
  simp only[List.cons.injEq,Value.slice.injEq,and_true]at h
  obtain⟨rfl,rfl,rfl⟩:=h
  exact⟨[],rfl,rfl,Nat.zero_le _,fun _=>rfl,fun q _=>by intro i v hv;simp at hv⟩
theorem Elems.row {w M k sz y cs q cap} (h:Elems w M k sz y cs) (hs:∀s,y≠.str s) (hnn:y≠.nils) (hr:Reads w M q cs) (hc:y.len≤cap):RepW w M y (.slice (some q) y.len cap):=by
 cases y<;>simp only[Elems]at h<;>try (cases h;done)
 ·exact absurd rfl (hs _)
 ·obtain⟨_,rfl⟩:=h
  simp only[RepW,V.isAgg,Bool.false_eq_true,if_false,RepV]
  exact⟨_,_,rfl,hc,by simp,fun p hp=>by cases hp;exact hr⟩
 ·obtain⟨_,rfl,h3,h4⟩:=h
  simp only[RepW,V.isAgg,Bool.false_eq_true,if_false,RepV]
  exact⟨_,_,rfl,hc,by simp,fun p hp=>by cases hp;exact repE_of h3 h4 hr⟩
 ·exact absurd rfl hnn
theorem catV_nils {k sz a b} (h:catV k sz a b=some .nils):a= .nils∧b= .nils:=by
 unfold catV at h
 split at h<;>first|(cases h;done)|exact⟨rfl,rfl⟩|(rw[Option.ite_none_right_eq_some]at h;obtain⟨_,h⟩:=h;cases h)
theorem Elems.rowNil {w M k sz y} (h:Elems w M k sz y []) (hs:∀s,y≠.str s) (hl:y.len=0):RepW w M y (.slice none 0 0):=by
 cases y<;>simp only[Elems]at h<;>try (cases h;done)
 ·exact absurd rfl (hs _)
 ·rename_i k' xs
  have:xs=[]:=List.eq_nil_of_length_eq_zero hl
  subst this
  simp only[RepW,V.isAgg,Bool.false_eq_true,if_false,RepV]
  exact⟨none,0,rfl,Nat.le_refl _,fun _=>rfl,fun p hp=>by cases hp⟩
 ·rename_i sz' l
  have:l=[]:=List.eq_nil_of_length_eq_zero hl
  subst this
  simp only[RepW,V.isAgg,Bool.false_eq_true,if_false,RepV]
  exact⟨none,0,rfl,Nat.le_refl _,fun _=>rfl,fun p hp=>by cases hp⟩
 ·simp only[RepW,V.isAgg,Bool.false_eq_true,if_false,RepV]
theorem catV_spec {w M k sz a b z} (h:catV k sz a b=some z) (hk:∀k',k=some k'→sz=1):
  ((∃k' xs,a= .sli k' xs∧k=some k')∨(∃l,a= .sle sz l∧k=none)∨a= .nils)∧((∃s,b= .str s)∨(∃k' xs,b= .sli k' xs∧k=some k')∨(∃l,b= .sle sz l∧k=none)∨b= .nils)∧
  (∀s,z≠.str s)∧z.len=a.len+b.lenS∧∀c1 c2,Elems w M k sz a c1→Elems w M k sz b c2→Elems w M k sz z (c1++c2):=by
 unfold catV at h
 split at h
 ·cases h
  refine⟨.inr (.inr rfl),.inr (.inr (.inr rfl)),by simp,rfl,fun c1 c2 h1 h2=> ?_⟩
  simp only[Elems]at h1 h2⊢;simp[h1,h2]
 ·rw[Option.ite_none_right_eq_some]at h;obtain⟨hc,h⟩:=h;cases h
  refine⟨.inr (.inr rfl),.inr (.inl ⟨_,_,rfl,hc⟩),by simp,by simp[V.len,V.lenS],fun c1 c2 h1 h2=> ?_⟩
  simp only[Elems]at h1 h2⊢;simp[h1,h2,hc]
 ·rw[Option.ite_none_right_eq_some]at h;obtain⟨hc,h⟩:=h;cases h
  obtain⟨hc1,hc2⟩:=hc;subst hc2
  refine⟨.inr (.inr rfl),.inr (.inr (.inl ⟨_,rfl,hc1⟩)),by simp,by simp[V.len,V.lenS],fun c1 c2 h1 h2=> ?_⟩
  simp only[Elems]at h1 h2⊢;subst h1;simpa using h2
 ·rw[Option.ite_none_right_eq_some]at h;obtain⟨hc,h⟩:=h;cases h
  refine⟨.inl ⟨_,_,rfl,hc⟩,.inr (.inr (.inr rfl)),by simp,by simp[V.len,V.lenS],fun c1 c2 h1 h2=> ?_⟩
  simp only[Elems]at h1 h2⊢;simp[h1,h2,hc]
 ·rw[Option.ite_none_right_eq_some]at h;obtain⟨hc,h⟩:=h;cases h
  obtain⟨hc1,hc2⟩:=hc;subst hc2
  refine⟨.inr (.inl ⟨_,rfl,hc1⟩),.inr (.inr (.inr rfl)),by simp,by simp[V.len,V.lenS],fun c1 c2 h1 h2=> ?_⟩
  simp only[Elems]at h1 h2⊢;subst h2;simpa using h1
 ·rw[Option.ite_none_right_eq_some]at h;obtain⟨hc,h⟩:=h;cases h
  obtain⟨hc1,hc2⟩:=hc;subst hc2
  refine⟨.inl ⟨_,_,rfl,hc1⟩,.inr (.inl ⟨_,_,rfl,hc1⟩),by simp,by simp[V.len,V.lenS],fun c1 c2 h1 h2=> ?_⟩
  simp only[Elems]at h1 h2⊢;simp[h1,h2,hc1]
 ·rw[Option.ite_none_right_eq_some]at h;obtain⟨hc,h⟩:=h;cases h
  obtain⟨hc1,hc2,hc3⟩:=hc;subst hc2;subst hc3
  refine⟨.inr (.inl ⟨_,rfl,hc1⟩),.inr (.inr (.inl ⟨_,rfl,hc1⟩)),by simp,by simp[V.len,V.lenS],fun c1 c2 h1 h2=> ?_⟩
  simp only[Elems]at h1 h2⊢
  refine⟨hc1,trivial,RepL.append.2 ⟨c1,c2,rfl,h1.2.2.1,h2.2.2.1⟩,?_⟩
  intro x hx
  rcases List.mem_append.1 hx with hx|hx
  ·exact h1.2.2.2 x hx
  ·exact h2.2.2.2 x hx
 ·rw[Option.ite_none_right_eq_some]at h;obtain⟨hc,h⟩:=h;cases h
  refine⟨.inr (.inr rfl),.inl ⟨_,rfl⟩,by simp,(by simp only[V.len,V.lenS,Nat.zero_add];exact strLen _ _),fun c1 c2 h1 h2=> ?_⟩
  simp only[Elems]at h1 h2⊢;simp[h1,h2,hc]
 ·rw[Option.ite_none_right_eq_some]at h;obtain⟨hc,h⟩:=h;cases h
  obtain⟨hc1,hc2⟩:=hc;subst hc2
  refine⟨.inl ⟨_,_,rfl,hc1⟩,.inl ⟨_,rfl⟩,by simp,(by simp only[V.len,V.lenS,List.length_append];rw[strLen]),fun c1 c2 h1 h2=> ?_⟩
  simp only[Elems]at h1 h2⊢;simp[h1,h2,hc1]
 ·cases h
end Go.Abs
namespace Go.Abs
open Go Go.RowKit
set_option linter.unusedVariables false
set_option linter.unusedSimpArgs false
structure Src (P:Program) (w:World) (sz:Nat) (v:Value) (n:Nat) (cs:List Value):Prop where
 len:(Builtin.lenOf v).run P w= .ok n w
 cells:∀w',(∀q u,w.cell? q=some u→w'.cell? q=some u)→(Builtin.firstCells sz n v).run P w'= .ok cs.toArray w'
theorem src_of {P:Program} {w:World} {M k sz y v} (hy:RepW w M y v) (hk:∀k',k=some k'→sz=1) (hc:(∃s,y= .str s∧k=some .u8)∨(∃k' xs,y= .sli k' xs∧k=some k')∨(∃l,y= .sle sz l∧k=none)∨y= .nils):
  ∃cs,Elems w M k sz y cs∧Src P w sz v y.lenS cs:=by
 have hsl:(∃k' xs,y= .sli k' xs∧k=some k')∨(∃l,y= .sle sz l∧k=none)∨y= .nils→∃cs,Elems w M k sz y cs∧Src P w sz v y.lenS cs:=by
  intro hc
  obtain⟨ad,cap,rfl,h2,h3,h4⟩:=hy.slice (by rcases hc with⟨k',xs,rfl,_⟩|⟨l,rfl,_⟩|rfl<;>exact⟨_,rfl⟩)
  obtain⟨cs,h5,h6,h7,h8,h9⟩:=hy.elems hk hc
  have hns:y.lenS=y.len:=by rcases hc with⟨k',xs,rfl,_⟩|⟨l,rfl,_⟩|rfl<;>rfl
  refine⟨cs,h5,⟨by rw[hns];rfl,fun w' hw=> ?_⟩⟩
  have hlen:=h5.length hk
  rw[hns]at hlen⊢
  cases ad with
  |none=>
   have h0:y.len=0:=by have:=h8 rfl;omega
   have:cs=[]:=by apply List.eq_nil_of_length_eq_zero;rw[hlen,h0,Nat.zero_mul]
   subst this;rfl
  |some q=>
   simp only[Builtin.firstCells]
   rw[←hlen]
   exact run_loadCells' (fun i v hv=>hw _ _ (h9 q rfl i v hv).1)
 rcases hc with⟨s,rfl,rfl⟩|hc
 ·refine⟨_,⟨rfl,rfl⟩,⟨?_,fun w' _=> ?_⟩⟩
  ·rw[hy.str];rfl
  ·rw[hy.str]
   simp only[Builtin.firstCells,V.lenS]
   have:s.extract 0 s.size=s:=by simp
   rw[this]
   show Result.ok _ w'=_
   congr 1
   apply Array.toList_inj.1;simp
 ·exact hsl hc
theorem cap_bound (need cap:Nat) (h:cap < need):Builtin.nextslicecap need cap≤2*need:=by
 unfold Builtin.nextslicecap
 split
 ·omega
 ·split
  ·omega
  ·have:∀r c,c < need→Builtin.growBy need r c≤2*need:=by
    intro r
    induction r with
    |zero=>intro c hc;simp only[Builtin.growBy];omega
    |succ r ih=>
     intro c hc
     simp only[Builtin.growBy]
     split
     ·omega
     ·by_cases h2:c+(c+768) / 4 < need
      ·exact ih _ h2
      ·cases r with
       |zero=>simp only[Builtin.growBy];omega
       |succ r=>simp only[Builtin.growBy];rw[if_pos (by omega)];omega
   exact this 4 cap h
theorem run_append_in {P:Program} {tys:Array TypeId} {ty e ty2 rt:TypeId} {d2:TypeDesc} {i:TypeInfo} {sz n sLen sCap:Nat} {base:Option Addr} {vy:Value} {cs:List Value} {w w1:World}
  (h0:tys[0]? =some ty) (h1:tys[1]? =some ty2) (hu:P.underlying ty=some (.slice e)) (hu2:P.underlying ty2=some d2) (hd2:∀k,d2≠.int k) (hi:P.info? e=some i) (hs:i.size=sz) (hy:Src P w sz vy n cs) (hn:sLen+n≤sCap)
  (hst:∀q,base=some q→(storeCells (q.add (sLen*sz)) cs).run P w= .ok () w1) (hw:base=none→w1=w):
  (Builtin.append_ tys rt #[.slice base sLen sCap,vy]).run P w= .ok (.slice base (sLen+n) sCap) w1:=by
 have hz:(match d2 with| .int _=>true|_=>false)=false:=by cases d2<;>first|rfl|exact absurd rfl (hd2 _)
 unfold Builtin.append_
 simp only[h0,h1,List.getElem?_toArray,List.getElem?_cons_zero,List.getElem?_cons_succ,Sem.run_bind,run_underlying hu,run_underlying hu2,Result.andThen_ok,Sem.run_pure,run_sizeOf hi,hs,hz,Bool.false_eq_true,if_false,hy.len,hn,if_true,Bool.not_false]
 rw[hy.cells w (fun _ _ h=>h)]
 simp only[Result.andThen_ok]
 cases base with
 |none=>rw[hw rfl];rfl
 |some q=>simp only[Sem.run_bind,hst q rfl,Result.andThen_ok];rfl
theorem run_append_new {P:Program} {tys:Array TypeId} {ty e ty2 rt:TypeId} {d2:TypeDesc} {i:TypeInfo} {sz n sLen sCap:Nat} {base:Option Addr} {vy zv:Value} {cs old:List Value} {w:World}
  (h0:tys[0]? =some ty) (h1:tys[1]? =some ty2) (hu:P.underlying ty=some (.slice e)) (hu2:P.underlying ty2=some d2) (hd2:(∃e2,d2= .slice e2)∨d2= .string) (hi:P.info? e=some i) (hs:i.size=sz) (hb:i.bytes≠0) (hz:i.zero=some zv) (hy:Src P w sz vy n cs) (hn:¬sLen+n≤sCap)
  (hroom:(sLen+n)*i.bytes≤140737488355328) (hold:∀q,base=some q→Cells w q old) (hol:old.length=sLen*sz) (hnone:base=none→sLen=0):
  ∃newCap,sLen+n≤newCap∧(Builtin.append_ tys rt #[.slice base sLen sCap,vy]).run P w=
   .ok (.slice (some ⟨w.heap.size,0,none⟩) (sLen+n) newCap) (World.alloc { w with drawn:=w.drawn+1 } (.cells (old.toArray++cs.toArray++Builtin.zeroCells zv.cells (newCap-(sLen+n))) e)):=by
 have hb1:1≤i.bytes:=by omega
 have hneed:sLen+n≤140737488355328:=Nat.le_trans (Nat.le_mul_of_pos_right _ hb1) hroom
 have hcap:Builtin.nextslicecap (sLen+n) sCap*i.bytes≤281474976710656:=by
  have h1:=cap_bound (sLen+n) sCap (by omega)
  have h2:Builtin.nextslicecap (sLen+n) sCap*i.bytes≤2*(sLen+n)*i.bytes:=Nat.mul_le_mul_right _ h1
  have h3:2*(sLen+n)*i.bytes=2*((sLen+n)*i.bytes):=by rw[Nat.mul_assoc]
  omega
 let q:Question:= .appendCap (sLen+n) sCap e
 have hq:sLen+n≤q.cut (w.tape w.drawn q):=by show sLen+n≤sLen+n+_;omega
 refine⟨q.cut (w.tape w.drawn q),hq,?_⟩
 have hmax:¬(((sLen+n:Nat):Int) > IntKind.i64.max):=by
  show ¬(_ > (9223372036854775807:Int));omega
 have hc2:¬(Builtin.nextslicecap (sLen+n) sCap*i.bytes > 2 ^ 48):=by
  have:(2:Nat) ^ 48=281474976710656:=by decide
  omega
 have hch:∀{α:Type} (f:Nat→Sem α),(choose q >>= f).run P w=(f (q.cut (w.tape w.drawn q))).run P { w with drawn:=w.drawn+1 }:=fun f=>rfl
 have hask:∀(b:Nat) (w':World),(askRoom b).run P w'= .ok () w':=by
  intro b w';unfold askRoom;split<;>rfl
 have hold':∀w':World,w'.heap=w.heap→(Builtin.firstCells sz sLen (.slice base sLen sCap)).run P w'= .ok old.toArray w':=by
  intro w' hw
  cases base with
  |none=>
   have:old=[]:=by apply List.eq_nil_of_length_eq_zero;rw[hol,hnone rfl,Nat.zero_mul]
   subst this;rfl
  |some q'=>
   simp only[Builtin.firstCells]
   rw[←hol]
   refine run_loadCells' (fun j v hv=> ?_)
   have:=hold q' rfl j v hv
   simpa [World.cell?,hw]using this
 have hnew:(Builtin.firstCells sz n vy).run P { w with drawn:=w.drawn+1 }= .ok cs.toArray { w with drawn:=w.drawn+1 }:=hy.cells _ (fun _ _ h=>h)
 have hzr:(zeroValue e).run P { w with drawn:=w.drawn+1 }= .ok zv { w with drawn:=w.drawn+1 }:=run_zeroValue hi hz
 have hch':(choose q).run P w= .ok (q.cut (w.tape w.drawn q)) { w with drawn:=w.drawn+1 }:=rfl
 have hch2:(choose (.appendCap (sLen+n) sCap e)).run P w= .ok (q.cut (w.tape w.drawn q)) { w with drawn:=w.drawn+1 }:=rfl
 have hmax':(((sLen+n:Nat):Int) > IntKind.i64.max)=False:=eq_false hmax
 have hc2':(Builtin.nextslicecap (sLen+n) sCap*i.bytes > 2 ^ 48)=False:=eq_false hc2
 have hold1:=hold' { w with drawn:=w.drawn+1 } rfl
 unfold Builtin.append_
 rcases hd2 with⟨e2,rfl⟩|rfl
 all_goals
  simp only[h0,h1,List.getElem?_toArray,List.getElem?_cons_zero,List.getElem?_cons_succ,Sem.run_bind,run_underlying hu,run_underlying hu2,Result.andThen_ok,Sem.run_pure,run_sizeOf hi,hs,Bool.false_eq_true,if_false,hy.len,hn,if_true,Bool.not_false,run_typeInfo hi,
   hmax',false_and,hc2',hch2,hask,hold1,hnew,hzr]
  rfl
end Go.Abs
namespace Go.Abs
open Go Go.RowKit
set_option linter.unusedVariables false
set_option linter.unusedSimpArgs false
theorem RepD.ofNoOwn {c m w L G m' w' L' G' ex} (T:Tr c m w L G m' w' L' G' ex) {t:Nat}:∀{d:D} {v:Value},(∀y,d≠.own y∧d≠.row y∧d≠.gro y)→RepD c m w L G t d v→RepD c m' w' L' G' t d v
 | .v x,v,_,h=>RepW.goes T.goes h
 | .own x,v,hn,_=>absurd rfl (hn _).1
 | .row x,v,hn,_=>absurd rfl (hn _).2.1
 | .gro x,v,hn,_=>absurd rfl (hn _).2.2
 | .jk,v,_,_=>trivial
 | .lp k p,v,_,⟨b,r,o,h1,h2,h3,h4⟩=>by
  obtain⟨r',h5,h6⟩:=T.locs k r b h1 h2
  exact⟨b,r',o,T.lam _ _ h1,h5,V.same_off h6 h3,h4⟩
 | .gp id p,v,_,⟨r,o,h2,h3,h4⟩=>by
  obtain⟨r',h5,h6⟩:=T.objs id r h2
  exact⟨r',o,h5,V.same_off h6 h3,h4⟩
 | .ep x,v,_,⟨q,cs,h1,h2,h3⟩=>⟨q,cs,h1,h2.goes T.goes,h3.goes T.goes⟩
 | .vw k p n,v,_,⟨b,r,o,kk,xs,h1,h2,h3,h4,h5⟩=>by
  obtain⟨r',h6,h7⟩:=T.locs k r b h1 h2
  obtain⟨ys,h8⟩:=V.same_sub_arr h7 h4
  exact⟨b,r',o,kk,ys,T.lam _ _ h1,h6,V.same_off h7 h3,h8,h5⟩
 | .tup l,v,_,⟨vs,h1,h2,h3⟩=>⟨vs,h1,h2,fun i x hx=>let ⟨u,hu,hr⟩:=h3 i x hx;⟨u,hu,hr.goes T.goes⟩⟩
 | .fn f,v,_,h=>h
 | .gl g,v,_,h=>h
 | .e0,v,_,h=>h
 | .un,v,_,h=>h
def NoOwn (σ:St) (i:Nat):Prop:=(∀y,σ.vs[i]?≠some (some (.own y))∧σ.vs[i]?≠some (some (.row y))∧σ.vs[i]?≠some (some (.gro y)))∧∀y,look σ.ts i≠some (.own y)∧look σ.ts i≠some (.row y)∧look σ.ts i≠some (.gro y)
theorem InvW.rename {c m σ a w} (h:InvW c m σ a w) {i:Nat} (s:Nat) (hn:NoOwn σ i):InvW c (m.give i s) σ a w:=by
 have T:Tr c m w σ.L σ.G (m.give i s) w σ.L σ.G (fun t=>t=i):=tr_give _ _
 have hM:=MM_give c.Mc m i s
 refine h.step T none (fun _ h=>by cases h) (fun _ _ _=>rfl) rfl rfl rfl (Nat.le_refl _) (fun b hb=> .inl (by rw[Mem.give_isSome]at hb;exact hb)) h.lamL ?_ ?_ rfl ?_ ?_ h.holes
 ·intro k r b hk hb
  obtain⟨h1,h2,h3,h4⟩:=h.boxes k r b hk hb
  rw[hM]
  refine⟨h1,h2,fun hf=> ?_,h4⟩
  obtain⟨h5,h6⟩:=h3 hf
  simp only[Mem.give];rw[if_neg (by rw[h5];simp)];exact⟨h5,h6⟩
 ·intro id x hx
  obtain⟨h1,h2,h3⟩:=h.objs id x hx
  rw[hM]
  refine⟨h1,?_,h3⟩
  simp only[Mem.give];rw[if_neg (by rw[h2];simp)];exact h2
 ·intro t d hd
  by_cases e:t=i
  ·subst e;exact (h.envV t d hd).ofNoOwn T (fun y=>⟨fun hy=>(hn.1 y).1 (by rw[hd,hy]),fun hy=>(hn.1 y).2.1 (by rw[hd,hy]),fun hy=>(hn.1 y).2.2 (by rw[hd,hy])⟩)
  ·exact (h.envV t d hd).tr T e
 ·intro t d hd
  obtain⟨h1,h2,h3⟩:=h.envT t d hd
  refine⟨h1,h2,?_⟩
  by_cases e:t=i
  ·subst e;exact h3.ofNoOwn T (fun y=>⟨fun hy=>(hn.2 y).1 (by rw[hd,hy]),fun hy=>(hn.2 y).2.1 (by rw[hd,hy]),fun hy=>(hn.2 y).2.2 (by rw[hd,hy])⟩)
  ·exact h3.tr T e
theorem noOwn_put {c m σ a w} (h:InvW c m σ a w) {ao:AO} {d0 d1:D} (hn:∀d,ao≠.c d) (he:σ.ev ao=some d0) (hd:∀y,d1≠.own y∧d1≠.row y∧d1≠.gro y):NoOwn (σ.put ao.ad d1) ao.slot:=by
 cases ao with
 |c d=>exact absurd rfl (hn d)
 |v i=>
  simp only[St.ev]at he
  have hlt:i < σ.vs.length:=(List.getElem?_eq_some_iff.1 (getv_get _ _ _ he)).1
  refine⟨fun z=>⟨fun hz=> ?_,fun hz=> ?_,fun hz=> ?_⟩,fun z=>⟨fun hz=> ?_,fun hz=> ?_,fun hz=> ?_⟩⟩
  ·simp only[St.put,St.putV,AO.ad,AO.slot]at hz
   rw[List.getElem?_set_self hlt]at hz;cases hz;exact (hd z).1 rfl
  ·simp only[St.put,St.putV,AO.ad,AO.slot]at hz
   rw[List.getElem?_set_self hlt]at hz;cases hz;exact (hd z).2.1 rfl
  ·simp only[St.put,St.putV,AO.ad,AO.slot]at hz
   rw[List.getElem?_set_self hlt]at hz;cases hz;exact (hd z).2.2 rfl
  ·have:=(h.envT i _ hz).1;omega
  ·have:=(h.envT i _ hz).1;omega
  ·have:=(h.envT i _ hz).1;omega
 |t i=>
  simp only[St.ev]at he
  have hK:σ.vs.length≤i:=(h.envT i _ he).1
  refine⟨fun z=>⟨fun hz=> ?_,fun hz=> ?_,fun hz=> ?_⟩,fun z=>⟨fun hz=> ?_,fun hz=> ?_,fun hz=> ?_⟩⟩
  ·have:=(List.getElem?_eq_some_iff.1 hz).1;simp only[St.put,St.putT,AO.ad,AO.slot]at this;omega
  ·have:=(List.getElem?_eq_some_iff.1 hz).1;simp only[St.put,St.putT,AO.ad,AO.slot]at this;omega
  ·have:=(List.getElem?_eq_some_iff.1 hz).1;simp only[St.put,St.putT,AO.ad,AO.slot]at this;omega
  ·simp only[St.put,St.putT,AO.ad,AO.slot,look_cons,if_true]at hz;cases hz;exact (hd z).1 rfl
  ·simp only[St.put,St.putT,AO.ad,AO.slot,look_cons,if_true]at hz;cases hz;exact (hd z).2.1 rfl
  ·simp only[St.put,St.putT,AO.ad,AO.slot,look_cons,if_true]at hz;cases hz;exact (hd z).2.2 rfl
theorem noOwn_drop {c m σ a w} (h:InvW c m σ a w) {ao:AO} {y:V} (hn:∀d,ao≠.c d) (he:σ.ev ao=some (.own y)∨σ.ev ao=some (.row y)):NoOwn (σ.put ao.ad (.v y)) ao.slot:=by
 rcases he with he|he
 ·exact noOwn_put h hn he (fun y=>⟨nofun,nofun,nofun⟩)
 ·exact noOwn_put h hn he (fun y=>⟨nofun,nofun,nofun⟩)
theorem InvW.extend {c m σ a w} (h : InvW c m σ a w) {s b o : Nat} {ls : List Value} (hn : NoOwn σ s) (ho : m.ow b = some (.slot s)) (hl : m.lo b = o)
    (hc : ∀ j, j < ls.length → ∃ u, w.cell? ((⟨b, o, none⟩ : Addr).add (0 + j)) = some u) :
    InvW c { m with lo := fun b' => if b' = b then o + ls.length else m.lo b' } σ a (World.setCells w ⟨b, o, none⟩ ls 0) ∧
      Goes w (MM c.Mc m.ow m.lo) (World.setCells w ⟨b, o, none⟩ ls 0) (MM c.Mc m.ow (fun b' => if b' = b then o + ls.length else m.lo b')) := by
  obtain ⟨k1, k2, k3, k4, k5, k6, k7, k8⟩ := setCells_spec ls w ⟨b, o, none⟩ 0 hc
  have hsub : ∀ x y, MM c.Mc m.ow (fun b' => if b' = b then o + ls.length else m.lo b') x y → MM c.Mc m.ow m.lo x y := by
    rintro x y (h1 | ⟨h1, h2⟩)
    · exact .inl h1
    · refine .inr ⟨h1, ?_⟩
      simp only at h2
      split at h2
      · rename_i e; subst e; omega
      · exact h2
  have g : Goes w (MM c.Mc m.ow m.lo) (World.setCells w ⟨b, o, none⟩ ls 0) (MM c.Mc m.ow (fun b' => if b' = b then o + ls.length else m.lo b')) := by
    intro q u hq hM
    refine ⟨?_, fun h1 => hM (hsub _ _ h1)⟩
    rw [k8 q u hq, if_neg]
    rintro ⟨e1, e2, _⟩
    simp only at e1 e2
    exact hM (.inr ⟨by rw [e1]; simp [ho], by rw [e1, hl]; omega⟩)
  have T : Tr c m w σ.L σ.G { m with lo := fun b' => if b' = b then o + ls.length else m.lo b' } (World.setCells w ⟨b, o, none⟩ ls 0) σ.L σ.G (fun t => t = s) :=
    { goes := g
      shape := fun b' st hs => by rw [k5]; exact hs
      frz := fun b' _ _ j => k6 _
      lam := fun _ _ h => h
      locs := fun _ r _ _ h => ⟨r, h, V.same_refl _⟩
      objs := fun _ r h => ⟨r, h, V.same_refl _⟩
      own := fun t ht b' hb' => by
        have hne : b' ≠ b := fun e => by subst e; rw [ho] at hb'; cases hb'; exact ht rfl
        refine ⟨hb', ?_⟩
        simp only; rw [if_neg hne]
      ob := fun b' hb' => by
        have hne : b' ≠ b := fun e => by subst e; rw [ho] at hb'; cases hb'
        refine ⟨hb', ?_⟩
        simp only; rw [if_neg hne]
      obN := fun _ h => .inl h }
  refine ⟨?_, g⟩
  refine h.step T (some b) (fun b' e => by cases e; simp [ho]) (fun b' hb' hne => k7 b' (fun e => hne (by rw [e]))) k1 k2 k3 (by rw [k4]; exact Nat.le_refl _) (fun _ h => .inl h) h.lamL ?_ ?_ rfl ?_ ?_ h.holes
  · intro k' r' b' hk' hb'
    obtain ⟨h1, h2, h3, h4⟩ := h.boxes k' r' b' hk' hb'
    have hne : b' ≠ b := by
      intro e'; subst e'
      cases hfz : r'.fz with
      | false => have := (h3 hfz).1; rw [ho] at this; cases this
      | true => exact h4 hfz (m.lo b') (.inr ⟨by simp [ho], Nat.le_refl _⟩)
    refine ⟨h1.tr g (fun s hs => by rw [k5]; exact hs) (fun j => k6 _) (fun i v hv => ?_), h2, fun hf => ?_, fun hf o' hM => h4 hf o' (hsub _ _ hM)⟩
    · rw [k8 _ _ hv, if_neg (by rintro ⟨e1, _⟩; exact hne e1)]
    · obtain ⟨h5, h6⟩ := h3 hf
      exact ⟨h5, by simp only; rw [if_neg hne]; exact h6⟩
  · intro id x hx
    obtain ⟨h1, h2, h3⟩ := h.objs id x hx
    have hne : id ≠ b := by intro e; subst e; rw [ho] at h2; cases h2
    refine ⟨h1.tr g (fun s hs => by rw [k5]; exact hs) (fun j => k6 _) (fun i v hv => ?_), h2, by simp only; rw [if_neg hne]; exact h3⟩
    rw [k8 _ _ hv, if_neg (by rintro ⟨e1, _⟩; exact hne e1)]
  · intro t d hd
    by_cases e : t = s
    · subst e; exact (h.envV t d hd).ofNoOwn T (fun y => ⟨fun hy => (hn.1 y).1 (by rw [hd, hy]), fun hy => (hn.1 y).2.1 (by rw [hd, hy]), fun hy => (hn.1 y).2.2 (by rw [hd, hy])⟩)
    · exact (h.envV t d hd).tr T e
  · intro t d hd
    obtain ⟨h1, h2, h3⟩ := h.envT t d hd
    refine ⟨h1, h2, ?_⟩
    by_cases e : t = s
    · subst e; exact h3.ofNoOwn T (fun y => ⟨fun hy => (hn.2 y).1 (by rw [hd, hy]), fun hy => (hn.2 y).2.1 (by rw [hd, hy]), fun hy => (hn.2 y).2.2 (by rw [hd, hy])⟩)
    · exact h3.tr T e
end Go.Abs
namespace Go.Abs
open Go Go.RowKit
set_option linter.unusedVariables false
set_option linter.unusedSimpArgs false
theorem zeroCells_length (z:Array Value) (n:Nat):(Builtin.zeroCells z n).size=n*z.size:=by simp[Builtin.zeroCells]
section ops
variable {c:Ctx} {m:Mem} {σ:St} {a:Act} {w:World} {o:Oper} {t:AD} {p:Prop} {σ':St}
theorem app_core {args:Array Operand} {tys:Array TypeId} {x:Operand} {vy:Value} {ax:AO} {ty e:TypeId} {k:Option IntKind} {sz:Nat} {g:Bool} {i:TypeInfo} {z A B Z:V} {cB:List Value} (h:InvW c m σ a w)
  (ho:o.op= .call { callee:= .builtin .append,args:=args,argTypes:=tys }) (hargs:args.map a.eval= #[a.eval x,vy]) (hu:c.P.underlying ty=some (.slice e))
  (hq:szAg c.P e=some (sz,g)) (hi:c.P.info? e=some i) (hz:zeroOk c.P e=some z) (hsz:sz≠0) (hzs:z.size=sz) (hb:i.bytes≠0) (hk:∀k',k=some k'→sz=1)
  (hx:aoOf σ.vs.length x=some ax) (hd:adOf σ.vs.length c.N o.dst=some t) (hEB:Elems w (MM c.Mc m.ow m.lo) k sz B cB)
  (hIn:∀(base:Option Addr) (sLen sCap:Nat) (w1:World),sLen+B.lenS≤sCap→(∀q,base=some q→(storeCells (q.add (sLen*sz)) cB).run c.P w= .ok () w1)→(base=none→w1=w)→(Builtin.append_ tys o.type #[.slice base sLen sCap,vy]).run c.P w= .ok (.slice base (sLen+B.lenS) sCap) w1)
  (hNew:∀(base:Option Addr) (sLen sCap:Nat) (old:List Value) (zv:Value),i.zero=some zv→¬sLen+B.lenS≤sCap→(sLen+B.lenS)*i.bytes≤140737488355328→(∀q,base=some q→Cells w q old)→old.length=sLen*sz→(base=none→sLen=0)→
   ∃newCap,sLen+B.lenS≤newCap∧(Builtin.append_ tys o.type #[.slice base sLen sCap,vy]).run c.P w= .ok (.slice (some ⟨w.heap.size,0,none⟩) (sLen+B.lenS) newCap) (World.alloc { w with drawn:=w.drawn+1 } (.cells (old.toArray++cB.toArray++Builtin.zeroCells zv.cells (newCap-(sLen+B.lenS))) e)))
  (hX:σ.ev ax=some (.own A)) (hC:catV k sz A B=some Z) (hp:(Z.len:Int)*(i.bytes:Int)≤140737488355328):Fits c o a w ((σ.put ax.ad (.v A)).put t (.own Z)):=by
 obtain⟨i',dd,q1,q2,q3,q4⟩:=szAg_spec hq
 rw[hi]at q1;cases q1
 obtain⟨i'',zv,z1,z2,z3⟩:=zeroOk_spec hz
 rw[hi]at z1;cases z1
 obtain⟨c1,c2,c3,c4,c5⟩:=catV_spec (w:=w) (M:=MM c.Mc m.ow m.lo) hC hk
 obtain⟨hrA,base,cap,hvA,hsp⟩:=h.rd hx hX
 rw[hvA]at hrA
 obtain⟨cA,hEA,_,hlc,hnil,hRA⟩:=hrA.elems hk c1
 have hlA:cA.length=A.len*sz:=by
  have:=hEA.length hk
  have e1:A.lenS=A.len:=by rcases c1 with⟨k',xs,rfl,_⟩|⟨l,rfl,_⟩|rfl<;>rfl
  rwa [e1]at this
 have hlB:cB.length=B.lenS*sz:=hEB.length hk
 have hEZ:=c5 cA cB hEA hEB
 have hnat:(A.len+B.lenS)*i.bytes≤140737488355328:=by
  have hp':(Z.len:Int)*(i.bytes:Int)≤140737488355328:=hp
  rw[←Int.natCast_mul,c4]at hp'
  generalize (A.len+B.lenS)*i.bytes=X at*
  omega
 have hrun:∀v w1,(Builtin.append_ tys o.type #[.slice base A.len cap,vy]).run c.P w= .ok v w1→(execOp a.eval o).run c.P w= .ok (.value v) w1:=by
  intro v w1 hv
  have hA:(args.map a.eval)= #[.slice base A.len cap,vy]:=by rw[hargs,hvA]
  unfold execOp;rw[ho]
  simp only[resolve,invoke,Sem.run_bind,Sem.run_pure,Result.andThen_ok,builtin,hA]
  rw[hv];rfl
 have hdrop:InvW c m (σ.put ax.ad (.v A)) a w:=h.drop hX
 have hst:A.stride=sz∨A= .nils:=by
  rcases c1 with⟨k',xs,rfl,hk'⟩|⟨l,rfl,_⟩|rfl
  ·exact .inl (hk _ hk').symm
  ·exact .inl rfl
  ·exact .inr rfl
 have hZst:A≠.nils→Z.stride=sz:=by
  intro hne
  cases A<;>cases B<;>simp only[catV]at hC<;>try (cases hC;done)
  all_goals first
   |(rw[Option.ite_none_right_eq_some]at hC;obtain⟨hc,hC⟩:=hC;cases hC;first|exact (hk _ hc).symm|exact (hk _ hc.1).symm|(rw[hc.2];rfl)|(rw[hc.2.1];rfl)|rfl)
   |exact absurd rfl hne
 by_cases hin:A.len+B.lenS≤cap
 ·rcases hsp with hcap|⟨b,of,e',hne,hbase,how,hlo,hshp,hfrz⟩
  ·have hB0:B.lenS=0:=by omega
   have hcB:cB=[]:=by apply List.eq_nil_of_length_eq_zero;rw[hlB,hB0,Nat.zero_mul]
   subst hcB
   have hZl:Z.len=A.len:=by rw[c4,hB0];rfl
   have hrunv:=hrun _ w (hIn base A.len cap w hin (fun q _=>rfl) (fun _=>rfl))
   rw[hB0,Nat.add_zero]at hrunv
   have hZrep:RepW w (MM c.Mc m.ow m.lo) Z (.slice base A.len cap):=by
    rw[List.append_nil]at hEZ
    cases base with
    |none=>
     have hc0:=hnil rfl
     have hA0:A.len=0:=by omega
     have:cA=[]:=by apply List.eq_nil_of_length_eq_zero;rw[hlA,hA0,Nat.zero_mul]
     subst this
     rw[hA0,hc0];exact hEZ.rowNil c3 (by rw[hZl,hA0])
    |some q=>rw[←hZl];exact hEZ.row c3 (by intro e;subst e;obtain⟨rfl,_⟩:=catV_nils hC;simp[RepW,V.isAgg,RepV]at hrA) (hRA q rfl) (by rw[hZl];exact hlc)
   refine Fits.val hrunv (InvW.put hdrop (by rw[St.put_len];exact hd) ?_)
   rw[St.put_L,St.put_G]
   exact⟨hZrep,base,cap,by rw[hZl],.inl (by rw[hZl];exact hcap)⟩
  ·have hAs:A.stride=sz:=hst.resolve_right (fun e=>by subst e;exact hne rfl)
   have hAne:A≠.nils:=fun e=>by subst e;exact hne rfl
   have hZs:=hZst hAne
   have hnc:∀d,ax≠.c d:=by
    intro d e
    subst e
    simp only[St.ev]at hX;cases hX
    cases x with
    |const v=>
     simp only[aoOf]at hx
     cases hcd:constD v with
     |none=>simp[hcd]at hx
     |some d'=>
      simp[hcd]at hx;subst hx
      unfold constD at hcd;split at hcd<;>cases hcd
      exact hAne rfl
    |tmp j=>simp only[aoOf]at hx;split at hx<;>simp at hx
    |global j=>simp[aoOf]at hx
    |func j=>simp[aoOf]at hx
   subst hbase
   rw[hAs]at hlo hshp hfrz
   have hle:of+A.len*sz+cB.length≤of+cap*sz:=by
    rw[hlB,Nat.add_assoc,←Nat.add_mul];exact Nat.add_le_add_left (Nat.mul_le_mul_right _ hin) _
   have hcells:∀j,j < cB.length→∃u,w.cell? ((⟨b,of+A.len*sz,none⟩:Addr).add (0+j))=some u:=by
    intro j hj
    rw[addr_add,Nat.zero_add]
    unfold World.shape? at hshp
    split at hshp
    ·rename_i cc ee ff hh
     simp only[Option.some.injEq,Prod.mk.injEq]at hshp
     refine⟨cc[of+A.len*sz+j]'(by omega),?_⟩
     simp only[World.cell?,hh,Option.isSome_none,Bool.false_eq_true,if_false]
     exact Array.getElem?_eq_getElem (by omega)
    ·cases hshp
   have hno:=noOwn_drop h hnc (.inl hX)
   have hslot:(σ.put ax.ad (.v A)).vs.length=σ.vs.length:=St.put_len _ _ _
   obtain⟨hext,gext⟩:=hdrop.extend hno how hlo hcells
   have hstore:(storeCells ((⟨b,of,none⟩:Addr).add (A.len*sz)) cB).run c.P w= .ok () (World.setCells w ⟨b,of+A.len*sz,none⟩ cB 0):=by
    rw[addr_add]
    refine run_storeCells cB w 0 hcells (fun j hj=> ?_) hEB.plain
    rw[frozen_addr,Addr.add_block,Addr.add_off,Nat.zero_add]
    exact hfrz _ (by simp only;omega)
   have hrunv:=hrun _ _ (hIn _ A.len cap (World.setCells w ⟨b,of+A.len*sz,none⟩ cB 0) hin (fun q hq=>by cases hq;exact hstore) (fun hq=>by cases hq))
   have hren:=hext.rename t.slot hno
   refine Fits.val hrunv (InvW.put hren (by rw[St.put_len];exact hd) ?_)
   rw[St.put_L,St.put_G]
   obtain⟨k1,k2,k3,k4,k5,k6,k7,k8⟩:=setCells_spec cB w ⟨b,of+A.len*sz,none⟩ 0 hcells
   refine⟨?_,some ⟨b,of,none⟩,cap,by rw[c4],.inr ⟨b,of,e',by rw[hZs];exact hsz,rfl,by simp[Mem.give,how],?_,by rw[k5,hZs];exact hshp,fun j hj=>by rw[k6];rw[hZs]at hj;exact hfrz j hj⟩⟩
   ·rw[MM_give]
    rw[←c4]
    refine (Elems.row (hEZ.goes gext) c3 (fun e=>by subst e;exact hAne (catV_nils hC).1) ?_ (by rw[c4];exact hin))
    intro j v hv
    by_cases hj:j < cA.length
    ·rw[List.getElem?_append_left hj]at hv
     exact (Reads.goes gext (hRA _ rfl)) j v hv
    ·rw[List.getElem?_append_right (by omega)]at hv
     have hjb:j-cA.length < cB.length:=(List.getElem?_eq_some_iff.1 hv).1
     obtain⟨u,hu'⟩:=hcells (j-cA.length) hjb
     rw[addr_add,Nat.zero_add]at hu'
     have he1:of+j=of+A.len*sz+(j-cA.length):=by omega
     rw[addr_add,he1]
     refine⟨?_,?_⟩
     ·rw[k8 _ _ hu',if_pos ⟨rfl,by simp only;omega,by simp only;omega⟩]
      simp only[Nat.add_zero,Nat.add_sub_cancel_left,List.getD_eq_getElem?_getD,hv,Option.getD_some]
     ·rintro (h5|⟨h5,h6⟩)
      ·exact (h.mine b (by simp[how])).2.2 _ h5
      ·simp only[if_true]at h6;omega
   ·show (if b=b then _ else _)=_
    rw[if_pos rfl,c4,hZs,Nat.add_mul,hlB];omega
 ·-- a new block
  have hroom:=hnat
  obtain⟨newCap,hnc,hrunN⟩:=hNew base A.len cap cA zv z2 hin hroom (fun q hq=>(hRA q hq).cells) hlA (fun hq=>by have:=hnil hq;omega)
  have hrunv:=hrun _ _ hrunN
  have hdr:=hdrop.drew 1
  have hzl:zv.cells.size=sz:=by have:=(z3 w (fun _ _=>False)).cells.len;rw[hzs]at this;simpa using this
  obtain⟨hfr,gfr⟩:=hdr.fresh (some (.slot t.slot)) ((A.len+B.lenS)*sz) (.cells (cA.toArray++cB.toArray++Builtin.zeroCells zv.cells (newCap-(A.len+B.lenS))) e) (fun _ h=>by cases h) (fun h=>by cases h)
  refine Fits.val hrunv (InvW.put hfr (by rw[St.put_len];exact hd) ?_)
  rw[St.put_L,St.put_G]
  have g0:Goes w (MM c.Mc m.ow m.lo) { w with drawn:=w.drawn+1 } (MM c.Mc m.ow m.lo):=fun _ _ h1 h2=>⟨h1,h2⟩
  have gall:=g0.trans gfr
  have hsize:(cA.toArray++cB.toArray++Builtin.zeroCells zv.cells (newCap-(A.len+B.lenS))).size=newCap*sz:=by
   simp only[Array.size_append,List.size_toArray,zeroCells_length,hzl,hlA,hlB]
   rw[←Nat.add_mul,←Nat.add_mul];congr 1;omega
  have hlen:(cA++cB).length=(A.len+B.lenS)*sz:=by rw[List.length_append,hlA,hlB,Nat.add_mul]
  refine⟨?_,some ⟨w.heap.size,0,none⟩,newCap,by rw[c4],?_⟩
  ·suffices hrow:Reads (World.alloc { w with drawn:=w.drawn+1 } (.cells (cA.toArray++cB.toArray++Builtin.zeroCells zv.cells (newCap-(A.len+B.lenS))) e)) (MM c.Mc (m.own1 w.heap.size (some (.slot t.slot)) ((A.len+B.lenS)*sz)).ow (m.own1 w.heap.size (some (.slot t.slot)) ((A.len+B.lenS)*sz)).lo) ⟨w.heap.size,0,none⟩ (cA++cB)by
    have:=Elems.row (hEZ.goes gall) c3 (fun e=>by subst e;simp only[V.len]at c4;omega) hrow (by rw[c4];exact hnc)
    rw[c4]at this;exact this
   intro j v hv
   rw[addr_add,Nat.zero_add]
   have hjl:j < (cA++cB).length:=(List.getElem?_eq_some_iff.1 hv).1
   refine⟨cell_new (w:={ w with drawn:=w.drawn+1 }) ?_,?_⟩
   ·rw[Array.getElem?_append_left (by simp only[Array.size_append,List.size_toArray];rw[List.length_append]at hjl;exact hjl)]
    simpa using hv
   ·rintro (h5|⟨_,h6⟩)
    ·have:=h.callers _ _ h5;have:=h.grown;simp only at*;omega
    ·simp only[Mem.own1,if_true]at h6;omega
  ·by_cases hA:A= .nils∧Z.stride=0
   ·-- both are empty
    exfalso
    obtain⟨rfl,hZ0⟩:=hA
    have:B.lenS=0:=by
     cases B<;>simp only[catV]at hC<;>try (cases hC;done)
     ·rw[Option.ite_none_right_eq_some]at hC;obtain⟨_,hC⟩:=hC;cases hC;simp[V.stride]at hZ0
     ·rw[Option.ite_none_right_eq_some]at hC;obtain⟨_,hC⟩:=hC;cases hC;simp[V.stride]at hZ0
     ·rw[Option.ite_none_right_eq_some]at hC;obtain⟨_,hC⟩:=hC;cases hC;exact absurd hZ0 hsz
     ·rfl
    rw[this]at hin
    simp only[V.len]at hin;omega
   ·have hZs:Z.stride=sz:=by
     by_cases hA':A= .nils
     ·subst hA'
      have hne:Z.stride≠0:=fun e=>hA ⟨rfl,e⟩
      cases B<;>simp only[catV]at hC<;>try (cases hC;done)
      ·rw[Option.ite_none_right_eq_some]at hC;obtain⟨hc,hC⟩:=hC;cases hC;exact (hk _ hc).symm
      ·rw[Option.ite_none_right_eq_some]at hC;obtain⟨hc,hC⟩:=hC;cases hC;exact (hk _ hc).symm
      ·rw[Option.ite_none_right_eq_some]at hC;obtain⟨hc,hC⟩:=hC;cases hC;rfl
      ·cases hC;simp[V.stride]at hne
     ·exact hZst hA'
    refine .inr ⟨w.heap.size,0,e,by rw[hZs];exact hsz,rfl,by simp[Mem.own1],?_,?_,fun j _=>frozen_new (w:={ w with drawn:=w.drawn+1 })⟩
    ·simp only[Mem.own1,if_true,Nat.zero_add,c4,hZs]
    ·rw[Nat.zero_add,hZs,←hsize];exact shape_new (w:={ w with drawn:=w.drawn+1 })
theorem snd_app {args:Array Operand} {tys:Array TypeId} {x y:Operand} {ax ay:AO} {ty ty2 e:TypeId} {d2:TypeDesc} {k:Option IntKind} {sz:Nat} {g:Bool} {i:TypeInfo} {z:V} (h:InvW c m σ a w)
  (ho:o.op= .call { callee:= .builtin .append,args:=args,argTypes:=tys }) (ha:args.toList=[x,y]) (h0:tys[0]? =some ty) (h1:tys[1]? =some ty2) (hu:c.P.underlying ty=some (.slice e)) (hu2:c.P.underlying ty2=some d2)
  (hd2:(∃e2,d2= .slice e2)∨d2= .string) (hq:szAg c.P e=some (sz,g)) (hi:c.P.info? e=some i) (hz:zeroOk c.P e=some z) (hsz:sz≠0) (hzs:z.size=sz) (hb:i.bytes≠0) (hk:∀k',k=some k'→sz=1)
  (hx:aoOf σ.vs.length x=some ax) (hy:aoOf σ.vs.length y=some ay) (hd:adOf σ.vs.length c.N o.dst=some t) (he:oApp k sz i.bytes ax σ t (σ.ev ax) (asV (σ.ev ay))=some (p,σ')) (hp:p):Fits c o a w σ':=by
 obtain⟨i',dd,q1,q2,q3,q4⟩:=szAg_spec hq
 rw[hi]at q1;cases q1
 have hargs:args= #[x,y]:=Array.toList_inj.1 ha
 cases hX:σ.ev ax with
 |none=>simp[hX,oApp]at he
 |some D0=>
  cases D0<;>simp only[hX,oApp]at he<;>try (cases he;done)
  rename_i A
  cases hY:asV (σ.ev ay)with
  |none=>simp[hY]at he
  |some B=>
   simp only[hY]at he
   cases hC:catV k sz A B with
   |none=>simp[hC,oApp2]at he
   |some Z=>
    simp only[hC,oApp2]at he;cases he
    obtain⟨c1,c2,c3,c4,c5⟩:=catV_spec (w:=w) (M:=MM c.Mc m.ow m.lo) hC hk
    have hrB:=h.rdV hy hY
    obtain⟨cB,hEB,hSB⟩:=src_of (P:=c.P) (k:=k) hrB hk (by
     rcases c2 with⟨s,rfl⟩|hh
     ·refine .inl ⟨s,rfl,?_⟩
      cases A<;>simp only[catV]at hC<;>try (cases hC;done)
      ·rw[Option.ite_none_right_eq_some]at hC;exact hC.1.1
      ·rw[Option.ite_none_right_eq_some]at hC;exact hC.1
     ·exact .inr hh)
    exact app_core h ho (by rw[hargs,List.map_toArray,List.map_cons,List.map_cons,List.map_nil]) hu hq hi hz hsz hzs hb hk hx hd hEB
     (fun base sLen sCap w1 hin hst hw=>run_append_in h0 h1 hu hu2 (by rcases hd2 with⟨e2,rfl⟩|rfl<;>simp) hi q3 hSB hin hst hw)
     (fun base sLen sCap old zv hzv hn hroom hold hol hnone=>run_append_new h0 h1 hu hu2 hd2 hi q3 hb hzv hSB hn hroom hold hol hnone) hX hC hp
end ops
end Go.Abs
namespace Go.Abs
open Go Go.RowKit
set_option linter.unusedVariables false
set_option linter.unusedSimpArgs false
section ops
variable {c:Ctx} {m:Mem} {σ:St} {a:Act} {w:World} {o:Oper} {t:AD} {p:Prop} {σ':St}
theorem snd_s2a {ty e:TypeId} {n:Nat} {g:Bool} {x:Operand} {ax:AO} (h:InvW c m σ a w) (ho:o.op= .sliceToArrayPointer ty x) (hu:c.P.underlying ty=some (.array n e)) (hn:n≠0)
  (hx:aoOf σ.vs.length x=some ax) (hd:adOf σ.vs.length c.N o.dst=some t) (he:oS2a n σ t (asV (σ.ev ax))=some (p,σ')) (hp:p):Fits c o a w σ':=by
 cases hX:asV (σ.ev ax)with
 |none=>simp[hX,oS2a]at he
 |some z=>
  have hr:=h.rdV hx hX
  rw[hX]at he
  cases z<;>simp only[oS2a]at he<;>try (cases he;done)
  cases he;rename_i k xs
  simp only[RepW,V.isAgg,Bool.false_eq_true,if_false,RepV]at hr
  obtain⟨ad,cap,h5,h6,h7,h8⟩:=hr
  have h5:a.eval x= .slice ad xs.length cap:=by simpa using h5
  have hnl:n≤xs.length:=by omega
  cases ad with
  |none=>have:=h7 rfl;omega
  |some q=>
   refine Fits.val (v:= .pointer (some q)) ?_ (h.put hd ?_)
   ·unfold execOp;rw[ho];refine run_v ?_
    unfold Instr.arrayAt
    rw[run_bind (run_underlying hu),h5]
    simp only[]
    rw[if_neg (by omega)];rfl
   ·refine⟨q,(xs.map (Value.int k)).take n,rfl,(h8 q rfl).take n,?_⟩
    simp only[RepV]
    exact⟨by simp;omega,by rw[List.map_take]⟩
theorem evs_spec (h:InvW c m σ a w) {K:Nat}:∀{xs:List Operand} {as:List AO} {vs:List V},aosOf K xs=some as→σ.evs as=some vs→(xs.map a.eval).length=vs.length∧∀(j:Nat) x,vs[j]? =some x→∃v,(xs.map a.eval)[j]? =some v∧RepW w (MM c.Mc m.ow m.lo) x v
 |[],as,vs,hp,he=>by
  simp only[aosOf]at hp;cases hp;simp only[St.evs]at he;cases he
  exact⟨rfl,fun j x hj=>by simp at hj⟩
 |x::xs,as,vs,hp,he=>by
  simp only[aosOf]at hp
  cases h1:aoOf K x with
  |none=>simp[h1,consO]at hp
  |some ax=>
   cases h2:aosOf K xs with
   |none=>simp[h1,h2,consO]at hp
   |some am=>
    simp only[h1,h2,consO]at hp;cases hp
    simp only[St.evs]at he
    cases hy:asV (σ.ev ax)with
    |none=>simp[hy,consO]at he
    |some y=>
     cases hl:σ.evs am with
     |none=>simp[hy,hl,consO]at he
     |some l=>
      simp only[hy,hl,consO]at he;cases he
      obtain⟨h3,h4⟩:=evs_spec h h2 hl
      refine⟨by simpa using h3,?_⟩
      intro j u hj
      cases j with
      |zero=>simp at hj;subst hj;exact⟨_,rfl,h.rdV h1 hy⟩
      |succ j=>simpa using h4 j u (by simpa using hj)
theorem fold_max {P:Program} {w:World} {M}:∀{l:List V} {vs:List Value} {k:IntKind} {n r:Int},vs.length=l.length→(∀(j:Nat) x,l[j]? =some x→∃v,vs[j]? =some v∧RepW w M x v)→foldMM true n l=some r→
  (vs.foldlM Builtin.max2 (.int k n)).run P w= .ok (.int k r) w
 |[],[],k,n,r,_,_,h=>by simp only[foldMM]at h;cases h;rfl
 |[],_::_,_,_,_,h,_,_=>by simp at h
 |_::_,[],_,_,_,h,_,_=>by simp at h
 |x::l,v::vs,k,n,r,hl,hr,h=>by
  obtain⟨v',h1,h2⟩:=hr 0 x rfl
  simp at h1;subst h1
  cases x<;>simp only[foldMM]at h<;>try (cases h;done)
  rw[h2.int,List.foldlM_cons]
  simp only[if_true]at h
  rename_i k' n'
  rw[run_bind (x:= .int k (if n' > n then n' else n)) (w1:=w) rfl]
  exact fold_max (by simpa using hl) (fun j x hj=>by simpa using hr (j+1) x (by simpa using hj)) h
theorem fold_min {P:Program} {w:World} {M}:∀{l:List V} {vs:List Value} {k:IntKind} {n r:Int},vs.length=l.length→(∀(j:Nat) x,l[j]? =some x→∃v,vs[j]? =some v∧RepW w M x v)→foldMM false n l=some r→
  (vs.foldlM Builtin.min2 (.int k n)).run P w= .ok (.int k r) w
 |[],[],k,n,r,_,_,h=>by simp only[foldMM]at h;cases h;rfl
 |[],_::_,_,_,_,h,_,_=>by simp at h
 |_::_,[],_,_,_,h,_,_=>by simp at h
 |x::l,v::vs,k,n,r,hl,hr,h=>by
  obtain⟨v',h1,h2⟩:=hr 0 x rfl
  simp at h1;subst h1
  cases x<;>simp only[foldMM]at h<;>try (cases h;done)
  rw[h2.int,List.foldlM_cons]
  simp only[Bool.false_eq_true,if_false]at h
  rename_i k' n'
  rw[run_bind (x:= .int k (if n' < n then n' else n)) (w1:=w) rfl]
  exact fold_min (by simpa using hl) (fun j x hj=>by simpa using hr (j+1) x (by simpa using hj)) h
theorem snd_mm {mx:Bool} {args:Array Operand} {tys:Array TypeId} {as:List AO} (h:InvW c m σ a w) (ho:o.op= .call { callee:= .builtin (if mx then .max else .min),args:=args,argTypes:=tys })
  (hx:aosOf σ.vs.length args.toList=some as) (hd:adOf σ.vs.length c.N o.dst=some t) (he:oMM mx σ t (σ.evs as)=some (p,σ')):Fits c o a w σ':=by
 cases hv:σ.evs as with
 |none=>simp[hv,oMM]at he
 |some vs=>
  rw[hv]at he
  cases vs with
  |nil=>simp[oMM]at he
  |cons y l=>
   cases y<;>simp only[oMM]at he<;>try (cases he;done)
   rename_i k n
   cases hf:foldMM mx n l with
   |none=>simp[hf,putVO]at he
   |some r=>
    simp only[hf,Option.map_some,putVO]at he;cases he
    obtain⟨h1,h2⟩:=evs_spec h hx hv
    have hA:(args.map a.eval).toList=args.toList.map a.eval:=Array.toList_map
    cases hal:args.toList.map a.eval with
    |nil=>rw[hal]at h1;simp at h1
    |cons u us=>
     rw[hal]at h1 h2
     obtain⟨u',h3,h4⟩:=h2 0 _ rfl
     simp at h3;subst h3
     refine fits_put h hd (v:= .int k r) ?_ repW_int
     unfold execOp;rw[ho]
     cases mx with
     |true=>
      simp only[resolve,invoke,Sem.run_bind,Sem.run_pure,Result.andThen_ok,builtin,if_true,Builtin.max_,hA,hal]
      rw[h4.int,fold_max (by simpa using h1) (fun j x hj=>by simpa using h2 (j+1) x (by simpa using hj)) hf];rfl
     |false=>
      simp only[resolve,invoke,Sem.run_bind,Sem.run_pure,Result.andThen_ok,builtin,Bool.false_eq_true,if_false,Builtin.min_,hA,hal]
      rw[h4.int,fold_min (by simpa using h1) (fun j x hj=>by simpa using h2 (j+1) x (by simpa using hj)) hf];rfl
theorem zerosV_elems {w:World} {M:Nat→Nat→Prop} {k:Option IntKind} {sz n:Nat} {z:V} {cs:List Value} (hz:RepV w M z cs) (hk:∀k',k=some k'→sz=1∧z= .int k' 0) (hs:z.size=sz):
  Elems w M k sz (zerosV k sz z n) (List.replicate n cs).flatten∧(zerosV k sz z n).len=n∧(∀s,zerosV k sz z n≠.str s)∧(zerosV k sz z n).stride=sz:=by
 cases k with
 |none=>
  simp only[zerosV,Elems,V.len,V.stride]
  exact⟨⟨trivial,trivial,repL_replicate hz n,fun x hx=>by rw[List.eq_of_mem_replicate hx];exact hs⟩,by simp,by simp,trivial⟩
 |some k'=>
  obtain⟨h1,h2⟩:=hk k' rfl
  subst h2
  simp only[RepV]at hz;subst hz
  simp only[zerosV,Elems,V.len,V.stride]
  refine⟨⟨trivial,?_⟩,by simp,by simp,h1.symm⟩
  rw[List.flatten_replicate_singleton];simp
theorem wrap_small {n:Int} (h:0≤n) (h2:n≤140737488355328):IntKind.i64.wrap n=n:=by
 simp only[IntKind.wrap,IntKind.bits,IntKind.signed,Bool.true_and]
 split
 ·rename_i hq
  have:=of_decide_eq_true hq;omega
 ·omega
theorem snd_mkS {ty e:TypeId} {sz:Nat} {g:Bool} {l r:Operand} {al ar:AO} {k:Option IntKind} {i:TypeInfo} {z:V} (h:InvW c m σ a w) (ho:o.op= .makeSlice ty l r) (hu:c.P.underlying ty=some (.slice e)) (hq:szAg c.P e=some (sz,g)) (hi:c.P.info? e=some i) (hz:zeroOk c.P e=some z)
  (hsz:sz≠0) (hzs:z.size=sz) (hb:i.bytes≠0) (hk:∀k',k=some k'→sz=1∧z= .int k' 0) (hl:aoOf σ.vs.length l=some al) (hr:aoOf σ.vs.length r=some ar) (hd:adOf σ.vs.length c.N o.dst=some t)
  (he:oMkS k sz i.bytes z σ t (asI (σ.ev al)) (asI (σ.ev ar))=some (p,σ')) (hp:p):Fits c o a w σ':=by
 obtain⟨i',dd,q1,q2,q3,q4⟩:=szAg_spec hq
 rw[hi]at q1;cases q1
 obtain⟨i'',zv,z1,z2,z3⟩:=zeroOk_spec hz
 rw[hi]at z1;cases z1
 cases hL:asI (σ.ev al)with
 |none=>simp[hL,oMkS]at he
 |some nl=>cases hR:asI (σ.ev ar)with
  |none=>simp[hL,hR,oMkS]at he
  |some nr=>
   simp only[hL,hR,oMkS]at he;cases he
   obtain⟨kl,hkl⟩:=h.rdI hl hL
   obtain⟨kr,hkr⟩:=h.rdI hr hR
   obtain⟨p1,p2,p3⟩:=hp
   have hzl:zv.cells.size=sz:=by have:=(z3 w (fun _ _=>False)).cells.len;rw[hzs]at this;simpa using this
   have hb1:(1:Int)≤i.bytes:=by omega
   have hnr:nr≤140737488355328:=by
    have:nr*1≤(i.bytes:Int)*nr:=by rw[Int.mul_comm (i.bytes:Int)];exact Int.mul_le_mul_of_nonneg_left hb1 (by omega)
    omega
   have hwl:IntKind.i64.wrap nl=nl:=by exact wrap_small (by omega) (by omega)
   have hwr:IntKind.i64.wrap nr=nr:=by exact wrap_small (by omega) (by omega)
   obtain⟨hfr,gfr⟩:=h.fresh (some (.slot t.slot)) (nl.toNat*sz) (.cells ((Array.range (nr.toNat*sz)).map (fun j=>zv.cells[j % sz]!)) e) (fun _ h=>by cases h) (fun h=>by cases h)
   obtain⟨hE,hEl,hEs,hEt⟩:=zerosV_elems (n:=nl.toNat) ((z3 w (MM c.Mc m.ow m.lo)).cells) hk hzs
   have hflat:=zeros_flat zv.cells (by rw[hzl];exact hsz) nr.toNat
   rw[hzl]at hflat
   refine Fits.val (v:= .slice (some ⟨w.heap.size,0,none⟩) nl.toNat nr.toNat) ?_ (InvW.put hfr hd ?_)
   ·unfold execOp;rw[ho];refine run_v ?_
    unfold Instr.makeSlice
    have hc1:(decide (nr < 0)||decide ((i.bytes:Int)*nr > 2 ^ 48)||decide (nl < 0)||decide (nl > nr))=false:=by
     simp only[Bool.or_eq_false_iff,decide_eq_false_iff_not]
     have:(2:Int) ^ 48=281474976710656:=by decide
     refine⟨⟨⟨by omega,by omega⟩,by omega⟩,by omega⟩
    have hask:∀(b:Nat) (w':World),(askRoom b).run c.P w'= .ok () w':=by
     intro b w';unfold askRoom;split<;>rfl
    simp only[hkl,hkr,Sem.run_bind,run_underlying hu,Result.andThen_ok,asInt,asIntOf,Sem.run_pure,run_typeInfo hi,hwl,hwr,hc1,Bool.false_eq_true,if_false,hask,run_sizeOf hi,q3]
    by_cases h0:nr.toNat*sz=0
    ·simp only[h0,if_true,Sem.run_pure,Result.andThen_ok]
     have e1:∀f:Nat→Value,(Array.range 0).map f= #[]:=fun f=>by apply Array.toList_inj.1;simp
     simp only[e1];rfl
    ·simp only[h0,if_false,Sem.run_bind,run_zeroValue hi z2,Result.andThen_ok,Sem.run_pure,hzl];rfl
   ·refine⟨?_,_,nr.toNat,by rw[hEl],.inr ⟨w.heap.size,0,e,by rw[hEt];exact hsz,rfl,by simp[Mem.own1],by simp[Mem.own1,hEl,hEt],?_,fun j _=>frozen_new⟩⟩
    ·suffices hrow:Reads (w.alloc (.cells ((Array.range (nr.toNat*sz)).map (fun j=>zv.cells[j % sz]!)) e)) (MM c.Mc (m.own1 w.heap.size (some (.slot t.slot)) (nl.toNat*sz)).ow (m.own1 w.heap.size (some (.slot t.slot)) (nl.toNat*sz)).lo) ⟨w.heap.size,0,none⟩ (List.replicate nl.toNat zv.cells.toList).flatten by
      have:=Elems.row (hE.goes gfr) hEs (by unfold zerosV;split<;>simp) hrow (by rw[hEl];omega:(zerosV k sz z nl.toNat).len≤nr.toNat)
      rw[hEl]at this;exact this
     intro j v hv
     rw[addr_add,Nat.zero_add]
     have hjl:j < nl.toNat*sz:=by have:=(List.getElem?_eq_some_iff.1 hv).1;simpa [hzl]using this
     refine⟨cell_new ?_,?_⟩
     ·have e2:nr.toNat=nl.toNat+(nr.toNat-nl.toNat):=by omega
      have:((Array.range (nr.toNat*sz)).map (fun j=>zv.cells[j % sz]!)).toList[j]? =some v:=by
       rw[hflat,e2,←List.replicate_append_replicate,List.flatten_append,List.getElem?_append_left (by simpa [hzl]using hjl)];exact hv
      rw[Array.getElem?_toList]at this;exact this
     ·rintro (h5|⟨_,h6⟩)
      ·have:=h.callers _ _ h5;have:=h.grown;simp only at*;omega
      ·simp only[Mem.own1,if_true]at h6;omega
    ·rw[Nat.zero_add,hEt,shape_new];simp
end ops
end Go.Abs
namespace Go.Abs
open Go Go.RowKit
set_option linter.unusedVariables false
set_option linter.unusedSimpArgs false
def EqFits (P:Program) (dd:Nat) (t:TypeId) (e:ET):Prop:=
 ∀(w:World) M (x y:V) (v u:Value) (b:Bool),eqT e x y=some b→RepW w M x v→RepW w M y u→(Op.equalIn dd t v u).run P w= .ok b w
theorem run_eqItems {P:Program} {d:Nat} {e:TypeId} {k:IntKind} {w:World} (hu:P.underlying e=some (.int k)) {xs ys:Array Value} {k':IntKind} {l m:List Int} (hx:xs.toList=l.map (.int k')) (hy:ys.toList=m.map (.int k')):
  ∀(n i:Nat),l.length=i+n→m.length=i+n→(Op.eqItems (d+1) e 1 xs ys (List.range' i n)).run P w= .ok (l.drop i==m.drop i) w
 |0,i,hl,hm=>by
  rw[List.drop_eq_nil_of_le (by omega),List.drop_eq_nil_of_le (by omega)];rfl
 |n+1,i,hl,hm=>by
  have h1:l[i]? =some l[i]:=List.getElem?_eq_getElem (by omega)
  have h2:m[i]? =some m[i]:=List.getElem?_eq_getElem (by omega)
  have hp:P.plainKey e=true:=by simp[Program.plainKey,hu]
  have e1:xs[i]? =some (.int k' l[i]):=by rw[←Array.getElem?_toList,hx,List.getElem?_map,h1];rfl
  have e2:ys[i]? =some (.int k' m[i]):=by rw[←Array.getElem?_toList,hy,List.getElem?_map,h2];rfl
  rw[List.range'_succ]
  simp only[Op.eqItems,Nat.mul_one]
  rw[run_bind (run_part_plain w hp e1),run_bind (run_part_plain w hp e2),run_bind (run_equalIn_int w d e k' k _ _ hu),Sem.run_ite]
  rw[run_eqItems hu hx hy n (i+1) (by omega) (by omega)]
  rw[List.drop_eq_getElem_cons (by omega:i < l.length),List.drop_eq_getElem_cons (by omega:i < m.length),List.cons_beq_cons]
  cases l[i]==m[i]<;>rfl
theorem eqL_cons {off n g e l o a b r} (h:eqL (.cons off n g e l) o a b=some r):∃x a' y b' r1 r2,a=x::a'∧b=y::b'∧o=off∧x.size=n∧y.size=n∧x.isAgg=g∧y.isAgg=g∧eqT e x y=some r1∧eqL l (o+n) a' b'=some r2∧r=(r1&&r2):=by
 cases a with
 |nil=>simp[eqL]at h
 |cons x a=>
  cases b with
  |nil=>simp[eqL]at h
  |cons y b=>
   simp only[eqL]at h
   split at h
   ·rename_i hc
    simp only[Bool.and_eq_true,beq_iff_eq]at hc
    obtain⟨⟨⟨⟨c1,c2⟩,c3⟩,c4⟩,c5⟩:=hc
    cases h1:eqT e x y with
    |none=>simp[h1,andO]at h
    |some r1=>
     cases h2:eqL l (o+n) a b with
     |none=>simp[h1,h2,andO]at h
     |some r2=>simp only[h1,h2,andO]at h;cases h;exact⟨x,a,y,b,r1,r2,rfl,rfl,c1,c2,c3,c4,c5,h1,h2,rfl⟩
   ·cases h
theorem run_eqFields {P:Program} {d:Nat} {f:TypeId→Option ET} {w:World} {M} {xs ys:Array Value} (ih:∀t e,f t=some e→EqFits P d t e):
  ∀(fs:List Field) (l:EL) (o:Nat) (a b:List V) (r:Bool),elOf P f fs=some l→eqL l o a b=some r→RepL w M a (xs.toList.drop o)→RepL w M b (ys.toList.drop o)→o≤xs.size→o≤ys.size→(Op.eqFields d xs ys fs).run P w= .ok r w
 |[],l,o,a,b,r,hl,he,ha,hb,oa,ob=>by
  simp only[elOf]at hl;cases hl
  cases a<;>cases b<;>simp[eqL]at he
  subst he;rfl
 |fd::fs,l,o,a,b,r,hl,he,ha,hb,oa,ob=>by
  simp only[elOf]at hl
  split at hl
  ·rename_i e n g l' h1 h2 h3
   split at hl
   ·cases hl
   ·rename_i hn
    cases hl
    obtain⟨x,a,y,b,r1,r2,rfl,rfl,ho,hx,hy,gx,gy,he1,he2,rfl⟩:=eqL_cons he
    subst ho
    obtain⟨i,dd,s1,s2,s3,s4⟩:=szAg_spec h2
    obtain⟨c1,c2,q1,q2,q3⟩:=ha
    obtain⟨d1,d2,p1,p2,p3⟩:=hb
    have hlx:fd.offset+x.size≤xs.size:=by have:=congrArg List.length q1;simp at this;have:=q2.len;omega
    have hly:fd.offset+y.size≤ys.size:=by have:=congrArg List.length p1;simp at this;have:=p2.len;omega
    obtain⟨v,v1,v2⟩:=run_part (P:=P) (cs:=xs) s1 s2 (s3.trans hx.symm) (s4.trans gx.symm) (by rw[q1,←q2.len,List.take_left];exact q2) hlx
    obtain⟨u,u1,u2⟩:=run_part (P:=P) (cs:=ys) s1 s2 (s3.trans hy.symm) (s4.trans gy.symm) (by rw[p1,←p2.len,List.take_left];exact p2) hly
    have hn':fd.name≠ "_" :=by intro h;rw[h]at hn;exact hn rfl
    simp only[Op.eqFields,ne_eq,hn',not_false_eq_true,if_true]
    rw[run_bind v1,run_bind u1,run_bind (ih _ _ h1 w M x y v u r1 he1 v2 u2),Sem.run_ite]
    have hrest:=run_eqFields (M:=M) ih fs l' (fd.offset+n) a b r2 h3 he2 (by rw[←hx,←q2.len,←List.drop_drop,q1,List.drop_left];exact q3) (by rw[←hy,←p2.len,←List.drop_drop,p1,List.drop_left];exact p3) (by omega) (by omega)
    rw[hrest]
    cases r1<;>rfl
  ·cases hl
theorem etOf_fits {P:Program} {d:Nat}:∀(n:Nat) (t:TypeId) (e:ET),etOf P n t=some e→EqFits P (d+1+n) t e
 |0,t,e,h=>by simp[etOf]at h
 |n+1,t,e,h=>by
  intro w M x y v u b he hx hy
  simp only[etOf]at h
  split at h
  ·rename_i hu;cases h
   simp only[eqT]at he
   cases x<;>simp only[eqB]at he<;>try (cases he;done)
   cases y<;>simp only[eqB]at he<;>try (cases he;done)
   cases he
   have e1:=hx;have e2:=hy
   simp only[RepW,V.isAgg,Bool.false_eq_true,if_false,RepV,List.cons.injEq,and_true]at e1 e2
   subst e1;subst e2
   exact run_equalIn_bool' w (d+1+n) t _ _ hu
  ·rename_i k hu;cases h
   simp only[eqT]at he
   cases x<;>simp only[eqI]at he<;>try (cases he;done)
   cases y<;>simp only[eqI]at he<;>try (cases he;done)
   split at he
   ·rename_i hk;cases he
    have hk:=beq_iff_eq.1 hk;subst hk
    have e1:=hx;have e2:=hy
    simp only[RepW,V.isAgg,Bool.false_eq_true,if_false,RepV,List.cons.injEq,and_true]at e1 e2
    subst e1;subst e2
    rw[show d+1+(n+1)=(d+1+n)+1 from rfl,run_equalIn_int w (d+1+n) t _ k _ _ hu];rfl
   ·cases he
  ·rename_i hu;cases h
   simp only[eqT]at he
   cases x<;>simp only[eqS]at he<;>try (cases he;done)
   cases y<;>simp only[eqS]at he<;>try (cases he;done)
   cases he
   have e1:=hx;have e2:=hy
   simp only[RepW,V.isAgg,Bool.false_eq_true,if_false,RepV,List.cons.injEq,and_true]at e1 e2
   subst e1;subst e2
   exact run_equalIn_string w (d+1+n) t _ _ hu
  ·rename_i fs hu
   split at h
   ·cases h
   ·rename_i hst
    obtain⟨l,hl,rfl⟩:=Option.map_eq_some_iff.1 h
    simp only[eqT]at he
    cases x<;>(try simp only[]at he)<;>try (cases he;done)
    cases y<;>(try simp only[]at he)<;>try (cases he;done)
    simp only[RepW,V.isAgg,if_true,RepV]at hx hy
    obtain⟨cx,rfl,hx⟩:=hx
    obtain⟨cy,rfl,hy⟩:=hy
    have hfs:P.fieldsOf t=fs:=by simp[Program.fieldsOf,hu]
    rw[show d+1+(n+1)=(d+1+n)+1 from rfl,run_equalIn_struct w (d+1+n) t cx cy (by rw[hfs];exact hu) (by simpa using hst),hfs]
    exact run_eqFields (M:=M) (fun t e=>etOf_fits n t e) fs.toList l 0 _ _ b hl he (by simpa using hx) (by simpa using hy) (by omega) (by omega)
  ·rename_i m el hu
   split at h
   ·rename_i k hk hs
    cases h
    obtain⟨i,dd,s1,s2,s3,s4⟩:=szAg_spec hs
    simp only[eqT]at he
    cases x<;>simp only[eqA]at he<;>try (cases he;done)
    cases y<;>simp only[eqA]at he<;>try (cases he;done)
    split at he
    ·rename_i hc;cases he
     simp only[Bool.and_eq_true,beq_iff_eq]at hc
     obtain⟨⟨rfl,rfl⟩,rfl⟩:=hc
     simp only[RepW,V.isAgg,if_true,RepV]at hx hy
     obtain⟨cx,rfl,hxl,hx⟩:=hx
     obtain⟨cy,rfl,hyl,hy⟩:=hy
     have hci:P.cellsOf el=1:=by simp[Program.cellsOf,s1,s3]
     rw[show d+1+(n+1)=(d+1+n)+1 from rfl,run_equalIn_array w (d+1+n) cx cy hu s1,hci,List.range_eq_range']
     rw[show d+1+n=(d+n)+1 by omega]
     exact run_eqItems (d:=d+n) hk hx hy _ 0 (by omega) (by omega)
    ·cases he
   ·cases h
  ·cases h
section ops
variable {c:Ctx} {m:Mem} {σ:St} {a:Act} {w:World} {o:Oper} {t:AD} {p:Prop} {σ':St}
theorem snd_eqa {neg:Bool} {e:ET} {ty ty':TypeId} {x y:Operand} {ax ay:AO} (h:InvW c m σ a w) (ho:o.op= .binOp (if neg then .neq else .eql) ty x y ty') (hu:∃fs,c.P.underlying ty=some (.struct fs)∨∃n el,c.P.underlying ty=some (.array n el))
  (hE:etOf c.P 12 ty=some e) (hg:c.P.eqGuardType c.P.depth ty=false)
  (hx:aoOf σ.vs.length x=some ax) (hy:aoOf σ.vs.length y=some ay) (hd:adOf σ.vs.length c.N o.dst=some t)
  (he:oEqa neg e σ t (asV (σ.ev ax)) (asV (σ.ev ay))=some (p,σ')):Fits c o a w σ':=by
 cases hX:asV (σ.ev ax)with
 |none=>simp[hX,oEqa]at he
 |some X=>
  cases hY:asV (σ.ev ay)with
  |none=>simp[hX,hY,oEqa]at he
  |some Y=>
   cases hb:eqT e X Y with
   |none=>simp[hX,hY,hb,oEqa,putVO]at he
   |some b=>
    simp only[hX,hY,hb,oEqa,putVO,Option.map_some]at he;cases he
    have rX:=h.rdV hx hX
    have rY:=h.rdV hy hY
    have key:(Op.equal ty (a.eval x) (a.eval y)).run c.P w= .ok b w:=by
     unfold Op.equal Op.maxDepth
     exact etOf_fits (d:=9987) 12 ty e hE w _ X Y _ _ b hb rX rY
    have hag:X.isAgg=true∧Y.isAgg=true:=by
     obtain⟨fs,hu⟩:=hu
     have hee:(∃l,e= .agg l)∨∃n,e= .arr n:=by
      rcases hu with hu|⟨n,el,hu⟩
      ·rw[show (12:Nat)=11+1 from rfl,etOf.eq_2,hu]at hE
       simp only[]at hE
       split at hE
       ·cases hE
       ·obtain⟨l,_,rfl⟩:=Option.map_eq_some_iff.1 hE;exact .inl ⟨l,rfl⟩
      ·rw[show (12:Nat)=11+1 from rfl,etOf.eq_2,hu]at hE
       simp only[]at hE
       split at hE
       ·cases hE;exact .inr ⟨_,rfl⟩
       ·cases hE
     rcases hee with⟨l,rfl⟩|⟨n,rfl⟩
     ·simp only[eqT]at hb
      cases X<;>(try simp only[]at hb)<;>try (cases hb;done)
      cases Y<;>(try simp only[]at hb)<;>try (cases hb;done)
      exact⟨rfl,rfl⟩
     ·simp only[eqT]at hb
      cases X<;>simp only[eqA]at hb<;>try (cases hb;done)
      cases Y<;>simp only[eqA]at hb<;>try (cases hb;done)
      exact⟨rfl,rfl⟩
    simp only[RepW,hag.1,hag.2,if_true]at rX rY
    obtain⟨cx,hcx,_⟩:=rX
    obtain⟨cy,hcy,_⟩:=rY
    refine fits_put h hd (v:= .bool (neg ^^ b)) ?_ repW_bool
    unfold execOp;rw[ho];refine run_v ?_
    rw[hcx,hcy]at key⊢
    have hgd:∀op,(eqGuard op ty x y (.agg cx) (.agg cy)).run c.P w= .ok () w:=by
     intro op;unfold eqGuard
     cases op<;>simp[hg,Sem.run_bind,run_program]
    rw[run_bind (hgd _)]
    cases neg
    ·simp only[Bool.false_eq_true,if_false,binOp];rw[run_bind key];simp
    ·simp only[if_true,binOp];rw[run_bind key];simp
end ops
end Go.Abs
namespace Go.Abs
open Go Go.RowKit
set_option linter.unusedVariables false
set_option linter.unusedSimpArgs false
theorem setCell_same {w:World} {a:Addr} {v:Value} (h:w.cell? a=some v):w.setCell a v=w:=by
 obtain⟨e,n,h1,h2,h3⟩:=cell_shape h
 have hh:(w.setCell a v).heap=w.heap:=by
  unfold World.cell? at h
  split at h
  ·rename_i c e' f hb
   split at h
   ·cases h
   ·apply Array.ext_getElem?
    intro i
    unfold World.setCell
    simp only[Array.getElem?_modify]
    by_cases hi:a.block=i
    ·subst hi
     rw[if_pos rfl,hb]
     simp only[Option.map_some,h3,Option.isSome_none,Bool.false_eq_true,if_false]
     congr 2
     apply Array.ext_getElem?
     intro j
     rw[Array.getElem?_setIfInBounds]
     by_cases hj:a.off=j
     ·subst hj
      have:=(Array.getElem?_eq_some_iff.1 h).1
      rw[if_pos rfl,if_pos this,h]
     ·rw[if_neg hj]
    ·rw[if_neg hi]
  ·cases h
 have:w.setCell a v={ w with heap:=(w.setCell a v).heap }:=rfl
 rw[this,hh]
theorem setCells_same {w:World} {a:Addr}:∀(l:List Value) (i:Nat),(∀(j:Nat) v,l[j]? =some v→w.cell? (a.add (i+j))=some v)→World.setCells w a l i=w
 |[],i,h=>rfl
 |v::l,i,h=>by
  simp only[World.setCells]
  rw[setCell_same (by simpa using h 0 v rfl)]
  exact setCells_same l (i+1) (fun j v hv=>by have:=h (j+1) v (by simpa using hv);rwa [show i+1+j=i+(j+1)by omega])
theorem setCells_append {a:Addr}:∀(l m:List Value) (w:World) (i:Nat),World.setCells w a (l++m) i=World.setCells (World.setCells w a l i) a m (i+l.length)
 |[],m,w,i=>by simp[World.setCells]
 |v::l,m,w,i=>by
  simp only[List.cons_append,World.setCells,List.length_cons]
  rw[setCells_append l m];congr 1;omega
section ops
variable {c:Ctx} {m:Mem} {σ:St} {a:Act} {w:World} {o:Oper} {t:AD} {p:Prop} {σ':St}
theorem snd_copy {args:Array Operand} {tys:Array TypeId} {x y:Operand} {ax ay:AO} {ty e:TypeId} {g:Bool} (h:InvW c m σ a w) (ho:o.op= .call { callee:= .builtin .copy,args:=args,argTypes:=tys }) (ha:args.toList=[x,y]) (h0:tys[0]? =some ty) (hu:c.P.underlying ty=some (.slice e)) (hq:szAg c.P e=some (1,g))
  (hx:aoOf σ.vs.length x=some ax) (hy:aoOf σ.vs.length y=some ay) (hd:adOf σ.vs.length c.N o.dst=some t) (he:oCopy σ t (σ.ev ax) (asV (σ.ev ay))=some (p,σ')):Fits c o a w σ':=by
 obtain⟨i,dd,q1,q2,q3,q4⟩:=szAg_spec hq
 have hargs:args.map a.eval= #[a.eval x,a.eval y]:=by
  apply Array.toList_inj.1;simp[Array.toList_map,ha]
 have hrun:∀{v:Value} {w1:World},(Builtin.copy_ tys o.type #[a.eval x,a.eval y]).run c.P w= .ok v w1→(execOp a.eval o).run c.P w= .ok (.value v) w1:=by
  intro v w1 hv
  unfold execOp;rw[ho]
  simp only[resolve,invoke,Sem.run_bind,Sem.run_pure,Result.andThen_ok,builtin,hargs]
  rw[hv];rfl
 cases hX:σ.ev ax with
 |none=>simp[hX,oCopy]at he
 |some X=>
  cases X with
  |vw k q n=>
   obtain⟨b,r,of,kk',xs0,h5,h6,h7,h8,h9⟩:=h.rd hx hX
   cases hY:asV (σ.ev ay)with
   |none=>simp[hX,hY,oCopy]at he
   |some Y=>
    have rY:=h.rdV hy hY
    rw[hX,hY]at he
    cases Y<;>simp only[oCopy]at he<;>try (cases he;done)
    ·rename_i kk ys
     rw[h6]at he;simp only[oCpy1]at he
     split at he
     ·cases he
     ·rename_i hfz
      rw[h8]at he;simp only[oCpy2]at he
      split at he
      ·rename_i hkk
       have hkk:=beq_iff_eq.1 hkk;subst hkk
       cases hup:r.x.upd q (.arr kk n (ys.take n++xs0.drop ys.length))with
       |none=>simp[hup,oCpy3]at he
       |some z=>
        simp only[hup,oCpy3]at he;cases he
        obtain⟨hB,_,hB3,_⟩:=h.boxes k r b h6 h5
        obtain⟨cs0,eb,b1,b2,b3,b4⟩:=hB
        obtain⟨b5,b6⟩:=b4.sub h8 h7
        simp only[RepV,V.size]at b5 b6
        obtain⟨hxl,hxc⟩:=b5
        let mm:=min ys.length n
        have hrep:RepV w (MM c.Mc m.ow m.lo) (.arr kk n (ys.take n++xs0.drop ys.length)) ((ys.take n++xs0.drop ys.length).map (.int kk)):=by
         simp only[RepV,and_true]
         simp only[List.length_append,List.length_take,List.length_drop];omega
        obtain⟨s1,s2,s3⟩:=h.storeL h6 (by simpa using hfz) h5 h7 hup hrep
        have hsplit:(ys.take n++xs0.drop ys.length).map (Value.int kk)=(ys.take n).map (.int kk)++(xs0.drop ys.length).map (.int kk):=List.map_append
        have hone:World.setCells w ⟨b,of,none⟩ ((ys.take n++xs0.drop ys.length).map (Value.int kk)) 0=World.setCells w ⟨b,of,none⟩ ((ys.take n).map (.int kk)) 0:=by
         rw[hsplit,setCells_append]
         apply setCells_same
         intro j v hv
         have hpre:∀j,j < ((ys.take n).map (Value.int kk)).length→∃u,w.cell? (({ block:=b,off:=of,spot:=none }:Addr).add (0+j))=some u:=by
          intro j hj;apply s2;simp only[hsplit,List.length_append];omega
         obtain⟨_,_,_,_,_,_,_,k8⟩:=setCells_spec ((ys.take n).map (Value.int kk)) w ⟨b,of,none⟩ 0 hpre
         have hjx:j < (xs0.drop ys.length).length:=by have:=(List.getElem?_eq_some_iff.1 hv).1;simpa using this
         have hjl:ys.length+j < n:=by simp at hjx;omega
         have hmin:(ys.take n).length=ys.length:=by rw[List.length_take];omega
         have hcell:w.cell? ⟨b,of+(ys.length+j),none⟩=some v:=by
          apply b2
          have e1:((cs0.drop of).take n)[ys.length+j]? =cs0[of+(ys.length+j)]? :=by
           rw[List.getElem?_take_of_lt hjl,List.getElem?_drop]
          rw[←e1,hxc,List.getElem?_map]
          rw[List.getElem?_map,List.getElem?_drop]at hv;exact hv
         rw[Nat.zero_add,addr_add,List.length_map,hmin,k8 _ _ hcell,if_neg]
         rintro⟨_,_,e3⟩;simp[hmin]at e3;omega
        obtain⟨ad,cap,r1,r2,r3,r4⟩:=rY.slice ⟨_,rfl⟩
        have hcells:ad=none∧ys.length=0∨∃q,ad=some q∧Reads w (MM c.Mc m.ow m.lo) q (ys.map (.int kk)):=by
         cases ad with
         |none=>left;refine⟨rfl,?_⟩;have:=r3 rfl;simp only[V.len]at r2;omega
         |some q=>
          right;refine⟨q,rfl,?_⟩
          simp only[RepW,V.isAgg,Bool.false_eq_true,if_false,RepV]at rY
          obtain⟨a',c',e1,_,_,e4⟩:=rY
          rw[r1]at e1;simp at e1
          exact e4 q e1.1.symm
        have hfirst:(Builtin.firstCells 1 (Nat.min ys.length n) (a.eval y)).run c.P w= .ok ((ys.take n).map (Value.int kk)).toArray w:=by
         rw[r1]
         rcases hcells with⟨rfl,h0⟩|⟨q',rfl,hrd⟩
         ·have:ys=[]:=List.eq_nil_of_length_eq_zero h0
          subst this;simp[Builtin.firstCells]
         ·simp only[Builtin.firstCells,Nat.mul_one]
          have:=run_loadCells (P:=c.P) (hrd.take n)
          rw[←List.map_take,List.length_map,List.length_take]at this
          rw[show Nat.min ys.length n=min n ys.length from Nat.min_comm _ _]
          exact this
        refine Fits.val (v:= .int .i64 ((min ys.length n:Nat):Int)) (w1:=World.setCells w ⟨b,of,none⟩ ((ys.take n).map (.int kk)) 0) (m':=m) (hrun ?_) ?_
        ·unfold Builtin.copy_
         rw[h9]
         simp only[h0,show ∀v u:Value,(#[v,u]:Array Value)[0]? =some v from fun _ _=>rfl,show ∀v u:Value,(#[v,u]:Array Value)[1]? =some u from fun _ _=>rfl]
         rw[run_bind (run_underlying hu)]
         simp only[]
         have hlen:(Builtin.lenOf (a.eval y)).run c.P w= .ok ys.length w:=by rw[r1];rfl
         rw[run_bind hlen,run_bind (run_sizeOf q1),q3]
         rw[run_bind hfirst]
         simp only[]
         rw[run_bind (run_storeCells _ w 0 (fun j hj=>s2 j (by rw[hsplit,List.length_append];omega)) (fun j hj=>by rw[Nat.zero_add];exact s3 j) (by
          intro v hv;obtain⟨z,_,rfl⟩:=List.mem_map.1 hv;rfl))]
         rfl
        ·rw[←hone];exact s1.put hd repW_int
      ·cases he
    ·cases he
     obtain⟨ad,cap,r1,r2,r3,r4⟩:=rY.slice ⟨_,rfl⟩
     refine fits_put h hd (v:= .int .i64 0) (hrun ?_) repW_int
     unfold Builtin.copy_
     rw[h9]
     simp only[h0,show ∀v u:Value,(#[v,u]:Array Value)[0]? =some v from fun _ _=>rfl,show ∀v u:Value,(#[v,u]:Array Value)[1]? =some u from fun _ _=>rfl]
     rw[run_bind (run_underlying hu)]
     simp only[]
     have hlen:(Builtin.lenOf (a.eval y)).run c.P w= .ok 0 w:=by rw[r1];rfl
     have hfirst:(Builtin.firstCells 1 (Nat.min 0 n) (a.eval y)).run c.P w= .ok #[] w:=by
      rw[r1,show Nat.min 0 n=0 from Nat.zero_min n]
      cases ad with
      |none=>rfl
      |some q=>simp[Builtin.firstCells];exact run_loadCells' (cs:=[]) (fun i v hv=>by simp at hv)
     rw[run_bind hlen,run_bind (run_sizeOf q1),q3]
     rw[run_bind hfirst]
     rfl
  |_=>rw[hX]at he;simp[oCopy]at he
end ops
end Go.Abs
namespace Go.Abs
open Go Go.RowKit
set_option linter.unusedVariables false
set_option linter.unusedSimpArgs false
section ops
variable {c:Ctx} {m:Mem} {σ:St} {a:Act} {w:World} {o:Oper} {t:AD} {p:Prop} {σ':St}
theorem snd_buildA {ty e:TypeId} {g:Bool} {ps:Array (Nat×Operand)} {as:List (Nat×AO)} {kk:IntKind} {n n':Nat} {xs:List Int} (h:InvW c m σ a w) (ho:o.op= .build ty ps) (hz:zeroOk c.P ty=some (.arr kk n xs)) (hu:c.P.underlying ty=some (.array n' e))
  (hs:szAg c.P e=some (1,g)) (hps:aopsOf σ.vs.length ps.toList=some as) (hd:adOf σ.vs.length c.N o.dst=some t) (he:oBuild (.arr kk n xs) σ t (σ.parts as)=some (p,σ')):Fits c o a w σ':=by
 obtain⟨i,v,h1,h2,h3⟩:=zeroOk_spec hz
 obtain⟨j,dd,s1,s2,s3,s4⟩:=szAg_spec hs
 cases hv:σ.parts as with
 |none=>simp[hv,oBuild]at he
 |some vs=>
  rw[hv]at he;simp only[oBuild]at he
  cases hf:fillV (some (.arr kk n xs)) vs with
  |none=>simp[hf,putVO]at he
  |some z'=>
   rw[hf]at he;simp only[putVO]at he;cases he
   obtain⟨h4,h5⟩:=parts_rep h hps hv
   have hplace:∀i y,(V.arr kk n xs).sub [i]=some y→∃o,(V.arr kk n xs).off [i]=some o∧(fun i=>some (i*1,1):Nat→Option (Nat×Nat)) i=some (o,y.size):=by
    intro i y hy
    simp only[V.sub]at hy
    split at hy
    ·rename_i hlt;cases hy;exact⟨i,by simp only[V.off,hlt,if_true],by simp[V.size]⟩
    ·cases hy
   have hz0:=(h3 w (MM c.Mc m.ow m.lo)).cells
   obtain⟨cells',h6,h7,h8⟩:=fill_rep (place:=fun i=>some (i*1,1)) hz0 hf hplace h4 h5
   have hagg:z'.isAgg=true:=by rw[(V.same_size h8).2];rfl
   refine fits_put h hd (v:= .agg cells') ?_ (by simp only[RepW,hagg,if_true];exact⟨_,rfl,h7⟩)
   unfold execOp;rw[ho];refine run_v ?_
   unfold Instr.build
   rw[run_bind (run_zeroValue h1 h2),run_bind (run_underlying hu)]
   simp only[]
   rw[run_bind (run_sizeOf s1),s3]
   simp only[Array.toList_map]
   rw[h6];rfl
theorem snd_pick {x y z:Operand} {ax ay az:AO} {K:St→Prop} (h:InvW c m σ a w) (ho:o.op= .pick x y z) (hx:aoOf σ.vs.length x=some ax) (hy:aoOf σ.vs.length y=some ay) (hz:aoOf σ.vs.length z=some az)
  (hd:adOf σ.vs.length c.N o.dst=some t) (he:pickO (asB (σ.ev ax)) (asV (σ.ev ay)) (asV (σ.ev az)) t K σ):∃σ',K σ'∧Fits c o a w σ':=by
 cases hb:asB (σ.ev ax)with
 |none=>rw[hb]at he;exact he.elim
 |some b=>
  have hB:=h.rdB hx hb
  rw[hb]at he
  have hr:(execOp a.eval o).run c.P w= .ok (.value (if b=true then a.eval y else a.eval z)) w:=by
   unfold execOp;rw[ho];simp only[hB];cases b<;>rfl
  cases b with
  |true=>
   simp only[pickO]at he
   split at he
   ·rename_i Y hY;exact⟨_,he,Fits.val hr (h.put hd (h.rdV hy hY))⟩
   ·exact he.elim
  |false=>
   simp only[pickO]at he
   split at he
   ·rename_i Z hZ;exact⟨_,he,Fits.val (by rw[hr];rfl) (h.put hd (h.rdV hz hZ))⟩
   ·exact he.elim
theorem snd_nil {neg:Bool} {ty ty' e:TypeId} {x:Operand} {ax:AO} {K:St→Prop} (h:InvW c m σ a w) (ho:o.op= .binOp (if neg then .neq else .eql) ty x (.const (.slice none 0 0)) ty') (hu:c.P.underlying ty=some (.slice e))
  (hx:aoOf σ.vs.length x=some ax) (hd:adOf σ.vs.length c.N o.dst=some t) (he:nilO neg (lenV (asV (σ.ev ax))) t K σ):∃σ',K σ'∧Fits c o a w σ':=by
 cases hX:asV (σ.ev ax)with
 |none=>rw[hX]at he;exact he.elim
 |some X=>
  rw[hX]at he;simp only[lenV]at he
  have rX:=h.rdV hx hX
  cases hsl:X.lenI with
  |none=>rw[hsl]at he;exact he.elim
  |some n=>
  rw[hsl]at he;simp only[nilO]at he
  obtain⟨ad,cap,r1,r2,r3,r4⟩:=rX.slice ⟨_,hsl⟩
  rw[hsl]at r4;cases r4
  refine⟨_,he ad.isNone (fun hn=> ?_),?_⟩
  ·have:ad=none:=by cases ad<;>simp at hn⊢
   have:=r3 this
   omega
  ·refine fits_put h hd ?_ repW_bool
   unfold execOp;rw[ho];refine run_v ?_
   rw[r1]
   have hev:a.eval (.const (.slice none 0 0))= .slice none 0 0:=rfl
   rw[hev]
   have hg:∀op,(eqGuard op ty x (.const (.slice none 0 0)) (.slice ad X.len cap) (.slice none 0 0)).run c.P w= .ok () w:=by
    intro op;unfold eqGuard;split<;>rfl
   rw[run_bind (hg _)]
   cases neg
   ·simp only[Bool.false_eq_true,if_false,binOp];rw[run_bind (run_equal_slice_nil w ty e ad X.len cap hu)];simp
   ·simp only[if_true,binOp];rw[run_bind (run_equal_slice_nil w ty e ad X.len cap hu)];simp
theorem run_callOp {args:Array Operand} {tys:Array TypeId} {g:Nat} (ho:o.op= .call { callee:= .value (.func g),args:=args,argTypes:=tys }) (hg:calleeOk c.P g=true):
  (execOp a.eval o).run c.P w= .ok (.enter g (args.map a.eval)) w:=by
 unfold calleeOk at hg
 split at hg
 ·rename_i fn hf
  rw[Bool.and_eq_true]at hg
  obtain⟨g1,g2⟩:=hg
  have g1:(fn.name== "runtime.NumGoroutine")=false:=by simpa using g1
  have g2:fn.body.isNone=false:=by cases hb:fn.body<;>simp[hb]at g2⊢
  unfold execOp;rw[ho]
  have hev:a.eval (.func g)= .func (.func g) #[] #[]:=rfl
  simp only[resolve,hev,Deferred.ofValue,Sem.run_bind,Sem.run_pure,Result.andThen_ok,invoke]
  have:(#[]++Array.map a.eval args++ #[]:Array Value)=args.map a.eval:=by simp
  rw[this]
  unfold callFunc
  simp only[Sem.run_bind,run_program,Result.andThen_ok,hf]
  simp only[g1,g2,Bool.false_eq_true,if_false];rfl
 ·cases hg
theorem run_callVOp {args:Array Operand} {tys:Array TypeId} {x:Operand} {f:Nat} {cs:Array Value} (ho:o.op= .call { callee:= .value x,args:=args,argTypes:=tys }) (hx:a.eval x= .func (.func f) #[] cs) (hg:calleeOk c.P f=true):
  (execOp a.eval o).run c.P w= .ok (.enter f (args.map a.eval++cs)) w:=by
 unfold calleeOk at hg
 split at hg
 ·rename_i fn hf
  rw[Bool.and_eq_true]at hg
  obtain⟨g1,g2⟩:=hg
  have g1:(fn.name== "runtime.NumGoroutine")=false:=by simpa using g1
  have g2:fn.body.isNone=false:=by cases hb:fn.body<;>simp[hb]at g2⊢
  unfold execOp;rw[ho]
  simp only[resolve,hx,Deferred.ofValue,Sem.run_bind,Sem.run_pure,Result.andThen_ok,invoke]
  have:(#[]++Array.map a.eval args++cs:Array Value)=args.map a.eval++cs:=by simp
  rw[this]
  unfold callFunc
  simp only[Sem.run_bind,run_program,Result.andThen_ok,hf]
  simp only[g1,g2,Bool.false_eq_true,if_false];rfl
 ·cases hg
end ops
end Go.Abs
