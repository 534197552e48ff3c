/- A function comes back where its text over plain values does. -/
import Derived.Test.YtjbglbhcbenhpaaPlain5
import Derived.ChangeArms
import Derived.OpenShut
import Derived.WalkKit
import Derived.ProofKit
import Derived.ChangeOld
import Derived.Handed
import Derived.Carry
import Derived.WideShapes
import Derived.Laws.BitsLemmas
import Derived.LaidMore
import Derived.MakeChecks
import Derived.FnData
import Derived.Stop.Joined
namespace Go.Abs
open Go Go.RowKit
set_option linter.unusedVariables false
set_option linter.unusedSimpArgs false
def chkV (n:Nat) (g:Bool):Option V→Option V
 |some y=>if y.size=n∧y.isAgg=g then some y else none
 |none=>none
def resV (tab:List (Nat×V)) (σ:St) (a:AO):Option (Nat×Bool)→Option V
 |none=>asV (σ.ev a)
 |some (n,g)=>chkV n g (subO (atO tab σ (σ.ev a)))
def resVs (tab:List (Nat×V)) (σ:St):List (AO×Option (Nat×Bool))→Option (List V)
 |[]=>some []
 |(a,q)::l=>consO (resV tab σ a q) (resVs tab σ l)
def rD:Option D→Option R
 |some (.v x)=>some (.v x)
 |some (.own x)=>some (.own x)
 |_=>none
def rV:Option V→Option R
 |some x=>some (.v x)
 |none=>none
def rT:Option (List V)→Option R
 |some l=>some (.tup l)
 |none=>none
def resR (tab:List (Nat×V)) (σ:St):List (AO×Option (Nat×Bool))→Option R
 |[]=>some (.tup [])
 |[(a,none)]=>rD (σ.ev a)
 |[(a,some q)]=>rV (resV tab σ a (some q))
 |x::y::l=>rT (resVs tab σ (x::y::l))
def resQ (Q:R→List (Nat×V)→Prop) (G:List (Nat×V)):Option R→Prop
 |some r=>Q r G
 |none=>False
def retQ (E:Env) (f:PF) (Q:R→List (Nat×V)→Prop) (e:Ex) (σ:St):Prop:=match e with
 | .exit _=>False
 | .normal=>resQ Q σ.G (resR E.tab σ f.res)
 | .ret=>resQ Q σ.G (resR E.tab σ f.res)
def initV (K:Nat) (vs:List V):List (Option D):=vs.map (fun x=>some (.v x))++List.replicate (K-vs.length) none
def Wf (E:Env) (C:Spec) (f:PF) (vs:List V) (G:List (Nat×V)) (Q:R→List (Nat×V)→Prop):Prop:=
 W E C f.body (retQ E f Q) ⟨initV f.K vs,[],[],G⟩
section
variable {E:Env} {C:Spec} {c:Ctx} {m:Mem} {σ:St} {a:Act} {w:World}
theorem resV_spec (h:InvW c m σ a w) (htab:c.tab=E.tab) {P:Program} (hP:c.P=P) {rv:ResultVar} {l:List ResultVar} {ar:AO×Option (Nat×Bool)} {l':List (AO×Option (Nat×Bool))} {y:V}
  (hp:prepRes P c.K (rv::l)=some (ar::l')) (hy:resV E.tab σ ar.1 ar.2=some y):
  ∃v,(match rv with
   | .tmp t=>(pure (a.tmps.getD t undef):Sem Value)
   | .cell q t=>do loadVar t (←asAddr (a.tmps.getD q undef))).run P w= .ok v w∧RepW w (MM c.Mc m.ow m.lo) y v:=by
 cases rv with
 |tmp t=>
  simp only[prepRes]at hp
  split at hp
  ·rename_i ax r h1 h2;cases hp
   simp only[resV]at hy
   exact⟨_,rfl,h.rdV h1 hy⟩
  ·cases hp
 |cell q t=>
  simp only[prepRes]at hp
  split at hp
  ·rename_i ax s r h1 h2 h3;cases hp
   obtain⟨n,g⟩:=s
   simp only[resV]at hy
   cases hz:subO (atO E.tab σ (σ.ev ax))with
   |none=>simp[hz,chkV]at hy
   |some z=>
    simp only[hz,chkV]at hy
    split at hy
    ·rename_i hc;cases hy
     obtain⟨i,d,s1,s2,s3,s4⟩:=szAg_spec h2
     rw[←htab]at hz
     obtain⟨q',cs,h5,h6,h7⟩:=h.place h1 hz
     obtain⟨v,h8,h9⟩:=run_loadVar (P:=P) s1 s2 (by rw[s3,hc.1]) (by rw[s4,hc.2]) h6 h7
     have h5:a.tmps.getD q undef= .pointer (some q'):=h5
     refine⟨v,?_,h9⟩
     simp only[h5]
     rw[run_bind (x:=q') (w1:=w) rfl];exact h8
    ·cases hy
  ·cases hp
def resRun (tmps:Array Value) (rv:ResultVar):Sem Value:=match rv with
 | .tmp t=>(pure (tmps.getD t undef):Sem Value)
 | .cell q t=>do loadVar t (←asAddr (tmps.getD q undef))
theorem prepRes_cons {P:Program} {K:Nat} {rv:ResultVar} {l:List ResultVar} {ars} (hp:prepRes P K (rv::l)=some ars):∃ar l',ars=ar::l'∧prepRes P K l=some l'∧(∀t,rv= .tmp t→aoOf K (.tmp t)=some ar.1∧ar.2=none)∧(∀q t,rv= .cell q t→∃s,ar.2=some s):=by
 cases rv with
 |tmp t=>
  simp only[prepRes]at hp
  split at hp
  ·rename_i ax r h1 h2;cases hp;exact⟨_,_,rfl,h2,fun t' e=>by cases e;exact⟨h1,rfl⟩,fun _ _ e=>by cases e⟩
  ·cases hp
 |cell q t=>
  simp only[prepRes]at hp
  split at hp
  ·rename_i ax s r h1 h2 h3;cases hp;exact⟨_,_,rfl,h3,fun t' e=>(by cases e),fun _ _ e=>⟨_,rfl⟩⟩
  ·cases hp
theorem run_resVs (h:InvW c m σ a w) (htab:c.tab=E.tab) {P:Program} (hP:c.P=P):∀{rvs:List ResultVar} {ars:List (AO×Option (Nat×Bool))} {ys:List V},prepRes P c.K rvs=some ars→resVs E.tab σ ars=some ys→
  ∃vs,(rvs.mapM (resRun a.tmps)).run P w= .ok vs w∧vs.length=ys.length∧∀(i:Nat) x,ys[i]? =some x→∃v,vs[i]? =some v∧RepW w (MM c.Mc m.ow m.lo) x v
 |[],ars,ys,hp,hy=>by
  simp only[prepRes]at hp;cases hp
  simp only[resVs]at hy;cases hy
  exact⟨[],rfl,rfl,fun i x hx=>by simp at hx⟩
 |rv::rvs,ars,ys,hp,hy=>by
  obtain⟨ar,l',rfl,hp',_⟩:=prepRes_cons hp
  obtain⟨ax,q⟩:=ar
  simp only[resVs]at hy
  cases h1:resV E.tab σ ax q with
  |none=>simp[h1,consO]at hy
  |some y=>
   cases h2:resVs E.tab σ l' with
   |none=>simp[h1,h2,consO]at hy
   |some ys'=>
    simp only[h1,h2,consO]at hy;cases hy
    obtain⟨v,h3,h4⟩:=resV_spec h htab hP hp h1
    obtain⟨vs,h5,h6,h7⟩:=run_resVs h htab hP hp' h2
    refine⟨v::vs,?_,by simp[h6],?_⟩
    ·have h3:(resRun a.tmps rv).run P w= .ok v w:=h3
     rw[List.mapM_cons,run_bind h3,run_bind h5];rfl
    ·intro i x hx
     cases i with
     |zero=>simp at hx;subst hx;exact⟨v,rfl,h4⟩
     |succ i=>simpa using h7 i x (by simpa using hx)
theorem results_eq (fn:Func) (tmps:Array Value):results fn tmps=(do let vs ←fn.results.mapM (resRun tmps);pure (if h:vs.size=1 then vs[0]else .tuple vs)):=by
 unfold results;congr 1
theorem run_resR (h:InvW c m σ a w) (htab:c.tab=E.tab) {P:Program} (hP:c.P=P) {fn:Func} {ars:List (AO×Option (Nat×Bool))} {r:R} (hp:prepRes P c.K fn.results.toList=some ars) (hr:resR E.tab σ ars=some r):
  ∃v,(results fn a.tmps).run P w= .ok v w∧RepR w (MM c.Mc m.ow m.lo) m.ow m.lo r v:=by
 have hone:∀{rv:ResultVar} {v:Value},fn.results.toList=[rv]→(resRun a.tmps rv).run P w= .ok v w→(results fn a.tmps).run P w= .ok v w:=by
  intro rv v hl hv
  rw[results_eq,Array.mapM_eq_mapM_toList,hl]
  simp only[List.mapM_cons,List.mapM_nil,Sem.run_bind,Sem.run_map,hv,Result.andThen_ok,Sem.run_pure]
  rfl
 have hmany:∀{ys:List V},resVs E.tab σ ars=some ys→ys.length≠1→∃v,(results fn a.tmps).run P w= .ok v w∧RepR w (MM c.Mc m.ow m.lo) m.ow m.lo (.tup ys) v:=by
  intro ys hy hn
  obtain⟨vs,h1,h2,h3⟩:=run_resVs h htab hP hp hy
  refine⟨.tuple vs.toArray,?_,vs.toArray,rfl,by simp[h2],fun i x hx=>by simpa using h3 i x hx⟩
  rw[results_eq,Array.mapM_eq_mapM_toList]
  simp only[Sem.run_bind,Sem.run_map,h1,Result.andThen_ok]
  have:¬vs.toArray.size=1:=by simp;omega
  rw[dif_neg this];rfl
 cases hl:fn.results.toList with
 |nil=>
  rw[hl]at hp;simp only[prepRes]at hp;cases hp
  simp only[resR]at hr;cases hr
  exact hmany rfl (by simp)
 |cons rv rvs=>
  have hp0:=hp
  rw[hl]at hp
  obtain⟨ar,l',rfl,hp',ht,hcell⟩:=prepRes_cons hp
  obtain⟨ax,q⟩:=ar
  cases rvs with
  |nil=>
   simp only[prepRes]at hp';cases hp'
   cases q with
   |none=>
    cases rv with
    |cell q t=>obtain⟨s,hs⟩:=hcell q t rfl;cases hs
    |tmp t=>
     obtain⟨h1,_⟩:=ht t rfl
     have hR:(resRun a.tmps (.tmp t)).run P w= .ok (a.tmps.getD t undef) w:=rfl
     refine⟨_,hone hl hR,?_⟩
     simp only[resR]at hr
     cases hev:σ.ev ax with
     |none=>simp[hev,rD]at hr
     |some d=>
      have hrd:=h.rd h1 hev
      have e1:a.eval (.tmp t)=a.tmps.getD t undef:=rfl
      rw[e1]at hrd
      rw[hev]at hr
      cases d<;>simp only[rD]at hr<;>try (cases hr;done)
      ·cases hr;exact hrd
      ·cases hr;exact⟨hrd.1,_,hrd.2⟩
   |some s=>
    simp only[resR]at hr
    cases hv:resV E.tab σ ax (some s)with
    |none=>simp[hv,rV]at hr
    |some y=>
     simp only[hv,rV]at hr;cases hr
     obtain⟨v,h3,h4⟩:=resV_spec h htab hP hp hv
     exact⟨v,hone hl h3,h4⟩
  |cons rv2 rvs=>
   obtain⟨ar2,l2,rfl,hp2,_⟩:=prepRes_cons hp'
   simp only[resR]at hr
   cases hv:resVs E.tab σ ((ax,q)::ar2::l2)with
   |none=>simp[hv,rT]at hr
   |some ys=>
    simp only[hv,rT]at hr;cases hr
    refine hmany hv ?_
    simp only[resVs]at hv
    cases e1:resV E.tab σ ax q with
    |none=>simp[e1,consO]at hv
    |some y1=>cases e2:resV E.tab σ ar2.1 ar2.2 with
     |none=>simp[e1,e2,consO]at hv
     |some y2=>cases e3:resVs E.tab σ l2 with
      |none=>simp[e1,e2,e3,consO]at hv
      |some y3=>simp only[e1,e2,e3,consO]at hv;cases hv;simp
end
theorem initV_get {K:Nat} {vs:List V} {t:Nat} {d:D} (h:(initV K vs)[t]? =some (some d)):∃x,vs[t]? =some x∧d= .v x:=by
 unfold initV at h
 by_cases ht:t < vs.length
 ·rw[List.getElem?_append_left (by simpa using ht),List.getElem?_map]at h
  obtain⟨x,h1,h2⟩:=Option.map_eq_some_iff.1 h
  cases h2;exact⟨x,h1,rfl⟩
 ·rw[List.getElem?_append_right (by simpa using ht)]at h
  obtain⟨h1,h2⟩:=List.getElem?_eq_some_iff.1 h
  simp at h2
theorem start_inv {E:Env} {Mc:Nat→Nat→Prop} {B:Nat→Bool} {w:World} {args:Array Value} {G:List (Nat×V)} {vs:List V} (hs:Start E Mc B w G) (ha:args.size=vs.length)
  (hv:∀(i:Nat) x,vs[i]? =some x→∃v,args[i]? =some v∧RepW w (MB Mc B) x v) {K N:Nat} (hK:vs.length≤K) (hN:K≤N):
  InvW { P:=E.P,N:=N,K:=K,Mc:=Mc,tab:=E.tab,w0:=w,B0:=fun b=>B b=true,G0:=G } { lam:=[],ow:=owB B,lo:=fun _=>0 } ⟨initV K vs,[],[],G⟩
   { tmps:=args++Array.replicate (N-args.size) undef,defers:=[] } w where
 defers:=rfl
 size:=by simp;omega
 os:=rfl
 tape:=rfl
 output:=rfl
 grown:=Nat.le_refl _
 old:=fun _ _ _=>rfl
 oldB:=fun _ _ _ hs=>⟨hs,fun _=>rfl⟩
 mine:=fun b hb=>by
  have hB:B b=true:=by
   cases e:B b with
   |true=>rfl
   |false=>simp[owB,e]at hb
  exact⟨hs.blk b hB,.inr hB,fun o ho=>by have:=hs.sep b o ho;rw[hB]at this;cases this⟩
 callers:=hs.callers
 lamL:=rfl
 holes:=fun k hk=>by simp at hk
 boxes:=fun k r b hk _=>by simp at hk
 objs:=fun id x hx=>by
  obtain⟨h1,h2⟩:=hs.objs id x hx
  exact⟨h1,by simp[owB,h2],rfl⟩
 blks:=fun b hb=>by simp only[owB];rw[if_pos hb]
 objlo:=fun _ _=>rfl
 objs0:=fun id r hr=>⟨r,hr,V.same_refl _⟩
 tabs:=hs.tabs
 vsN:=by simp[initV];omega
 vsK:=by simp[initV];omega
 envV:=fun t d hd=>by
  obtain⟨x,h1,rfl⟩:=initV_get hd
  obtain⟨v,h2,h3⟩:=hv t x h1
  have hlt:=(Array.getElem?_eq_some_iff.1 h2).1
  have:(args++Array.replicate (N-args.size) undef).getD t undef=v:=by
   rw[Array.getD_eq_getD_getElem?,Array.getElem?_append_left hlt,h2];rfl
  simp only[this];exact h3
 envT:=fun t d hd=>by simp[look]at hd
theorem Ret_of_W {E : Env} {C : Spec} (hC : C.Sound E) (hdet : C.Det) {g K : Nat} {ks : List (List Nat)} {es : List Nat} {f : PF} (hp : prepF E.P g K ks es = some f) {vs : List V} {G : List (Nat × V)} {Q : R → List (Nat × V) → Prop} (hn : vs.length = f.n)
    (hW : Wf E C f vs G Q) : Ret E g vs G Q := by
  intro Mc B w args hs ha hv
  unfold prepF at hp
  split at hp
  · rename_i fn hf
    split at hp
    · rename_i code hb
      split at hp
      · rename_i pb pr hc hr
        split at hp
        · rename_i hcond; cases hp
          simp only at hn hW
          obtain ⟨k1, k2, k3⟩ := hcond
          have hi := start_inv hs ha hv (K := K) (N := fn.ntmps) (by omega) k2
          refine calls_of_wp hf hb ?_
          refine W_sound (E := E) (c := { P := E.P, N := fn.ntmps, K := K, Mc := Mc, tab := E.tab, w0 := w, B0 := fun b => B b = true, G0 := G }) hC hdet rfl rfl code ks pb [] hc _ _ _ _ _ _ hi hW ?_
          intro e σ' m' a' w' h' hq
          have hres : resQ Q σ'.G (resR E.tab σ' pr) → a'.defers = [] ∧ ∃ v, (results fn a'.tmps).run E.P w' = .ok v w' ∧ ∃ v' r G' m', (Ending.returned v) = .returned v' ∧ Q r G' ∧ Ended Mc B w G m' w' G' ∧ RepR w' (MM Mc m'.ow m'.lo) m'.ow m'.lo r v' := by
            intro hq
            cases hrr : resR E.tab σ' pr with
            | none => rw [hrr] at hq; exact hq.elim
            | some r =>
              rw [hrr] at hq
              obtain ⟨v, h1, h2⟩ := run_resR h' rfl rfl hr hrr
              refine ⟨h'.defers, v, h1, v, r, σ'.G, m', rfl, hq, ?_, h2⟩
              exact { os := h'.os, tape := h'.tape, output := h'.output, grown := h'.grown
                      old := fun b hb hB => h'.old b hb (by simp [hB])
                      oldB := fun b s hB hs => h'.oldB b s hB hs
                      mine := fun b hb => ⟨(h'.mine b hb).1, (h'.mine b hb).2.1⟩
                      blks := h'.blks, objlo := h'.objlo
                      objs := fun id x hx => ⟨(h'.objs id x hx).1, (h'.objs id x hx).2.1⟩
                      objs0 := h'.objs0 }
          cases e with
          | normal => exact hres hq
          | ret => exact hres hq
          | exit id => exact hq.elim
        · cases hp
      · cases hp
    · cases hp
  · cases hp
end Go.Abs
namespace Go.Abs
open Go Go.RowKit
set_option linter.unusedVariables false
set_option linter.unusedSimpArgs false
def TyL (f:TypeId→V→Prop):List Field→List V→Prop
 |[],l=>l=[]
 |fd::fs,l=>∃x l',l=x::l'∧f fd.type x∧TyL f fs l'
def TyV (P:Program):Nat→TypeId→V→Prop
 |0,_,_=>False
 |n+1,t,x=>match P.underlying t with
  |some .bool=>∃b,x= .bool b
  |some (.int k)=>∃i,x= .int k i∧(Lit.int k i).wf=true
  |some .string=>∃s,x= .str s∧s.size≤maxLen
  |some (.slice e)=>match intK P e with
   |some k=>∃xs,x= .sli k xs∧(∀i∈xs,(Lit.int k i).wf=true)∧xs.length≤maxLen
   |none=>∃l,x= .sle (P.cellsOf e) l∧(∀y∈l,TyV P n e y)∧l.length≤maxLen
  |some (.struct fs)=>∃l,x= .agg l∧TyL (TyV P n) fs.toList l
  |some (.array m e)=>match intK P e with
   |some k=>∃xs,x= .arr k m xs∧xs.length=m∧∀i∈xs,(Lit.int k i).wf=true
   |none=>∃l,x= .agg l∧l.length=m∧∀y∈l,TyV P n e y
  |_=>False
def offsOk (P:Program):Nat→List Field→Nat→Bool
 |o,[],n=>o==n
 |o,f::l,n=>f.offset==o&&offsOk P (o+P.cellsOf f.type) l n
def TyOk (P:Program):Nat→TypeId→Bool
 |0,_=>false
 |n+1,t=>match P.underlying t with
  |some .bool=>true
  |some (.int _)=>true
  |some .string=>true
  |some (.slice e)=>TyOk P n e&&((intK P e).isNone ||P.cellsOf e==1)
  |some (.struct fs)=>fs.toList.all (fun f=>TyOk P n f.type)&&offsOk P 0 fs.toList (P.cellsOf t)
  |some (.array m e)=>TyOk P n e&&P.cellsOf t==m*P.cellsOf e&&((intK P e).isNone ||P.cellsOf e==1)
  |_=>false
section
variable {H:Type} {enc:TypeId×Value→H} {P:Program} {w:World} {sp:Nat→Bool} {held:Bool} {M:Nat→Nat→Prop}
theorem intK_spec {e:TypeId} {k:IntKind} (h:intK P e=some k):P.underlying e=some (.int k):=by
 unfold intK at h;split at h
 ·rename_i k' e';cases h;exact e'
 ·cases h
theorem cells_reads (hM:∀b o,¬M b o) {a:Addr} {n:Nat} {cs:List Value} (h:w.cells? 0 a n=some cs):Reads w M a cs∧cs.length=n:=by
 unfold World.cells? at h
 rw[if_pos (Nat.zero_le _)]at h
 have hl:=mapM_some_length h
 refine⟨fun i v hv=>⟨?_,hM _ _⟩,by simpa using hl⟩
 have hlt:=(List.getElem?_eq_some_iff.1 hv).1
 rw[hl]at hlt
 have hlt:i < n:=by simpa using hlt
 have:=mapM_some_get h i i (by simp[hlt])
 rw[this,hv]
theorem RepE_of (hM:∀b o,¬M b o) {f:V→Prop} {sz:Nat}:∀{n:Nat} {a:Addr},(∀i,i < n→∃cs x,w.cells? 0 (a.add (i*sz)) sz=some cs∧f x∧RepV w M x cs)→∃l:List V,l.length=n∧(∀y∈l,f y)∧RepE w M sz l a
 |0,a,h=>⟨[],rfl,fun y hy=>by simp at hy,trivial⟩
 |n+1,a,h=>by
  obtain⟨cs,x,h1,h2,h3⟩:=h 0 (by omega)
  have h0:a.add (0*sz)=a:=by simp[Addr.add]
  rw[h0]at h1
  obtain⟨h4,h5⟩:=cells_reads hM h1
  obtain⟨l,e1,e2,e3⟩:=RepE_of hM (n:=n) (a:=a.add sz) (fun i hi=>by
   obtain⟨cs,x,g1,g2,g3⟩:=h (i+1) (by omega)
   refine⟨cs,x,?_,g2,g3⟩
   rw[Addr.add_add,show sz+i*sz=(i+1)*sz by rw[Nat.add_mul];omega];exact g1)
  refine⟨x::l,by simp[e1],fun y hy=> ?_,cs,h3,h5,h4,e3⟩
  rcases List.mem_cons.1 hy with rfl|hy
  ·exact h2
  ·exact e2 y hy
theorem RepL_of {f:TypeId→V→Prop} {cs:List Value}:∀{fs:List Field} {o:Nat},offsOk P o fs cs.length=true→o≤cs.length→
  (∀fd∈fs,∃x,f fd.type x∧RepV w M x ((cs.drop fd.offset).take (P.cellsOf fd.type)))→∃l,TyL f fs l∧RepL w M l (cs.drop o)
 |[],o,h,ho,hf=>by
  simp only[offsOk,beq_iff_eq]at h
  exact⟨[],rfl,by simp[RepL,h]⟩
 |fd::fs,o,h,ho,hf=>by
  simp only[offsOk,Bool.and_eq_true,beq_iff_eq]at h
  obtain⟨x,h1,h2⟩:=hf fd (List.mem_cons_self ..)
  have hle:∀{fs:List Field} {o n:Nat},offsOk P o fs n=true→o≤n:=by
   intro fs
   induction fs with
   |nil=>intro o n h;simp only[offsOk,beq_iff_eq]at h;omega
   |cons g gs ih=>intro o n h;simp only[offsOk,Bool.and_eq_true,beq_iff_eq]at h;have:=ih h.2;omega
  have h3:=hle h.2
  obtain⟨l,h4,h5⟩:=RepL_of h.2 h3 (fun g hg=>hf g (List.mem_cons_of_mem _ hg))
  rw[h.1]at h2
  refine⟨x::l,⟨x,l,rfl,h1,h4⟩,(cs.drop o).take (P.cellsOf fd.type),cs.drop (o+P.cellsOf fd.type),?_,h2,h5⟩
  rw[←List.drop_drop,List.take_append_drop]
theorem RepA_of {f:V→Prop} {sz:Nat}:∀{n:Nat} {cs:List Value},cs.length=n*sz→(∀i,i < n→∃x,f x∧RepV w M x ((cs.drop (i*sz)).take sz))→∃l:List V,l.length=n∧(∀y∈l,f y)∧RepL w M l cs
 |0,cs,h,hf=>by
  have:cs=[]:=List.length_eq_zero_iff.1 (by omega)
  subst this;exact⟨[],rfl,fun y hy=>by simp at hy,rfl⟩
 |n+1,cs,h,hf=>by
  obtain⟨x,h1,h2⟩:=hf 0 (by omega)
  simp only[Nat.zero_mul,List.drop_zero]at h2
  obtain⟨l,e1,e2,e3⟩:=RepA_of (n:=n) (sz:=sz) (cs:=cs.drop sz) (by simp[h,Nat.add_mul]) (fun i hi=>by
   obtain⟨y,g1,g2⟩:=hf (i+1) (by omega)
   refine⟨y,g1,?_⟩
   rw[List.drop_drop,show sz+i*sz=(i+1)*sz by rw[Nat.add_mul];omega];exact g2)
  refine⟨x::l,by simp[e1],fun y hy=> ?_,cs.take sz,cs.drop sz,by simp,h2,e3⟩
  rcases List.mem_cons.1 hy with rfl|hy
  ·exact h1
  ·exact e2 y hy
theorem ints_of {k:IntKind} {l:List V}:∀{cs:List Value},(∀y∈l,∃i,y= .int k i∧(Lit.int k i).wf=true)→RepL w M l cs→∃xs:List Int,xs.length=l.length∧(∀i∈xs,(Lit.int k i).wf=true)∧cs=xs.map (.int k):=by
 induction l with
 |nil=>intro cs _ h;exact⟨[],rfl,fun i hi=>by simp at hi,h⟩
 |cons y l ih=>
  intro cs hy h
  obtain⟨i,rfl,hw⟩:=hy y (List.mem_cons_self ..)
  obtain⟨c1,c2,rfl,h1,h2⟩:=h
  simp only[RepV]at h1;subst h1
  obtain⟨xs,e1,e2,rfl⟩:=ih (fun z hz=>hy z (List.mem_cons_of_mem _ hz)) h2
  refine⟨i::xs,by simp[e1],fun j hj=> ?_,rfl⟩
  rcases List.mem_cons.1 hj with rfl|hj
  ·exact hw
  ·exact e2 j hj
theorem RepE_ints {k:IntKind}:∀{l:List V} {a:Addr},(∀y∈l,∃i,y= .int k i∧(Lit.int k i).wf=true)→RepE w M 1 l a→∃xs:List Int,xs.length=l.length∧(∀i∈xs,(Lit.int k i).wf=true)∧Reads w M a (xs.map (.int k))
 |[],a,hy,h=>⟨[],rfl,fun i hi=>by simp at hi,fun i v hv=>by simp at hv⟩
 |y::l,a,hy,h=>by
  obtain⟨i,rfl,hw⟩:=hy y (List.mem_cons_self ..)
  obtain⟨c,h1,h2,h3,h4⟩:=h
  simp only[RepV]at h1;subst h1
  obtain⟨xs,e1,e2,e3⟩:=RepE_ints (fun z hz=>hy z (List.mem_cons_of_mem _ hz)) h4
  refine⟨i::xs,by simp[e1],fun j hj=> ?_,fun j v hv=> ?_⟩
  ·rcases List.mem_cons.1 hj with rfl|hj
   ·exact hw
   ·exact e2 j hj
  ·cases j with
   |zero=>exact h3 0 v (by simpa using hv)
   |succ j=>
    have:=e3 j v (by simpa using hv)
    rw[Addr.add_add,Addr.add_block,Addr.add_off,show 1+j=j+1 by omega]at this
    rw[show a.off+(j+1)=a.off+1+j by omega]
    exact this
theorem open_V (hM : ∀ b o, ¬ M b o) : ∀ (n : Nat) {fuel : Nat} {t : TypeId} {cs : List Value} {x : DataW H × List MemPlace}, DataW.trod enc P w 0 sp held fuel t cs = some x → TyOk P n t = true → ∃ y, TyV P n t y ∧ RepV w M y cs
  | 0, _, _, _, _, _, hok => by cases hok
  | n + 1, fuel, t, cs, x, h, hok => by
    simp only [TyOk] at hok
    have int : ∀ {k : IntKind} {e : TypeId}, intK P e = some k → ∀ y, TyV P n e y → ∃ i, y = .int k i ∧ (Lit.int k i).wf = true := by
      intro k e hk y hy
      cases n with
      | zero => cases hy
      | succ n => simp only [TyV, intK_spec hk] at hy; exact hy
    split at hok
    · rename_i hu
      obtain ⟨b, rfl, _⟩ := DataW.trod_bool hu h
      exact ⟨.bool b, by simp only [TyV, hu]; exact ⟨b, rfl⟩, rfl⟩
    · rename_i k hu
      obtain ⟨i, rfl, _, hw⟩ := DataW.trod_int hu h
      exact ⟨.int k i, by simp only [TyV, hu]; exact ⟨i, rfl, hw⟩, rfl⟩
    · rename_i hu
      obtain ⟨s, rfl, _, hw⟩ := DataW.trod_string hu h
      exact ⟨.str s, by simp only [TyV, hu]; exact ⟨s, rfl, hw⟩, rfl⟩
    · rename_i e hu
      simp only [Bool.and_eq_true, Bool.or_eq_true, beq_iff_eq] at hok
      obtain ⟨hoke, hsz⟩ := hok
      rcases DataW.trod_slice hu h with ⟨rfl, _⟩ | ⟨a, len, cap, elems, rest, m, _, rfl, _, _, hl, hc, hlen, hel, _, _⟩
      · cases hk : intK P e with
        | some k => exact ⟨.sli k [], by simp only [TyV, hu, hk]; exact ⟨[], rfl, fun i hi => by simp at hi, by simp⟩, none, 0, rfl, by simp, fun _ => rfl, fun p hp => by cases hp⟩
        | none => exact ⟨.sle (P.cellsOf e) [], by simp only [TyV, hu, hk]; exact ⟨[], rfl, fun i hi => by simp at hi, by simp⟩, none, 0, rfl, by simp, fun _ => rfl, fun p hp => by cases hp⟩
      · have key : ∀ i, i < len → ∃ cs x, w.cells? 0 (a.add (i * P.cellsOf e)) (P.cellsOf e) = some cs ∧ TyV P n e x ∧ RepV w M x cs := by
          intro i hi
          have h1 := hel i hi
          rw [List.getElem?_eq_getElem (by omega)] at h1
          obtain ⟨cs', h2, h3⟩ := Option.bind_eq_some_iff.1 h1
          obtain ⟨y, h4, h5⟩ := open_V hM n h3 hoke
          exact ⟨cs', y, h2, h4, h5⟩
        obtain ⟨l, e1, e2, e3⟩ := RepE_of hM key
        cases hk : intK P e with
        | some k =>
          have hs1 : P.cellsOf e = 1 := by rcases hsz with h | h
                                           · rw [hk] at h; cases h
                                           · exact h
          rw [hs1] at e3
          obtain ⟨xs, g1, g2, g3⟩ := RepE_ints (fun y hy => int hk y (e2 y hy)) e3
          refine ⟨.sli k xs, by simp only [TyV, hu, hk]; exact ⟨xs, rfl, g2, by omega⟩, some a, cap, by rw [g1, e1], by omega, (fun h => by cases h), fun p hp => by cases hp; exact g3⟩
        | none =>
          refine ⟨.sle (P.cellsOf e) l, by simp only [TyV, hu, hk]; exact ⟨l, rfl, e2, by omega⟩, some a, cap, by rw [e1], by omega, fun h => (by cases h), fun p hp => by cases hp; exact e3⟩
    · rename_i fs hu
      simp only [Bool.and_eq_true, List.all_eq_true] at hok
      obtain ⟨xs, m, _, _, hcl, hxl, hf⟩ := DataW.trod_struct hu h
      rw [← hcl] at hok
      obtain ⟨l, e1, e2⟩ := RepL_of (P := P) (f := TyV P n) (M := M) (w := w) hok.2 (Nat.zero_le _) (fun fd hfd => by
        obtain ⟨i, hi⟩ := List.mem_iff_getElem?.1 hfd
        have hi' : fs[i]? = some fd := by rw [← Array.getElem?_toList]; exact hi
        have h1 := hf i fd hi'
        have hlt := (Array.getElem?_eq_some_iff.1 hi').1
        rw [List.getElem?_eq_getElem (by omega)] at h1
        exact open_V hM n h1 (hok.1 fd hfd))
      exact ⟨.agg l, by simp only [TyV, hu]; exact ⟨l, rfl, e1⟩, by simpa [RepV] using e2⟩
    · rename_i m e hu
      simp only [Bool.and_eq_true, Bool.or_eq_true, beq_iff_eq] at hok
      obtain ⟨⟨hoke, hct⟩, hsz⟩ := hok
      obtain ⟨xs, q, _, _, hcl, hxl, hf⟩ := DataW.trod_array hu h
      obtain ⟨l, e1, e2, e3⟩ := RepA_of (n := m) (sz := P.cellsOf e) (f := TyV P n e) (M := M) (w := w) (by rw [hcl, hct]) (fun i hi => by
        have h1 := hf i hi
        rw [List.getElem?_eq_getElem (by omega)] at h1
        exact open_V hM n h1 hoke)
      cases hk : intK P e with
      | some k =>
        obtain ⟨xs, g1, g2, rfl⟩ := ints_of (fun y hy => int hk y (e2 y hy)) e3
        exact ⟨.arr k m xs, by simp only [TyV, hu, hk]; exact ⟨xs, rfl, by omega, g2⟩, by simp only [RepV]; exact ⟨by omega, trivial⟩⟩
      | none => exact ⟨.agg l, by simp only [TyV, hu, hk]; exact ⟨l, rfl, e1, e2⟩, by simpa [RepV] using e3⟩
    · cases hok
end
end Go.Abs
namespace Go.Abs
open Go Go.RowKit Go.ChangeShapes Go.WideShapes Go.ChangeAt
set_option linter.unusedVariables false
set_option linter.unusedSimpArgs false
def TyAll (P:Program) (n:Nat):List TypeId→List V→Prop
 |[],l=>l=[]
 |t::ts,l=>∃x l',l=x::l'∧TyV P n t x∧TyAll P n ts l'
section
variable {H:Type} {enc:TypeId×Value→H} {P:Program} {w:World} {sp:Nat→Bool} {held:Bool} {M:Nat→Nat→Prop}
theorem open_W (hM:∀b o,¬M b o) {n:Nat} {r:Reach} {b0:Nat} {t:TypeId} {v:Value} {d:DataW H} {ps:List MemPlace} (hv:Value.okWide P w r b0 t v) (h:DataW.Trod enc P w 0 sp held t v d ps) (hok:TyOk P n t=true):
  ∃y,TyV P n t y∧RepW w M y v:=by
 obtain⟨fuel,hf⟩:=h
 obtain⟨y,h1,h2⟩:=open_V (M:=M) hM n hf hok
 refine⟨y,h1,?_⟩
 cases n with
 |zero=>cases hok
 |succ n=>
  simp only[TyV]at h1
  have plain:y.isAgg=false→v.cells.toList=[v]→RepW w M y v:=by
   intro ha hc
   unfold RepW;rw[if_neg (by rw[ha];exact Bool.false_ne_true),←hc];exact h2
  have agg:y.isAgg=true→(∃cs,v= .agg cs)→RepW w M y v:=by
   rintro ha ⟨cs,rfl⟩
   unfold RepW;rw[if_pos ha];exact⟨cs,rfl,h2⟩
  split at h1
  ·rename_i hu
   obtain⟨b,rfl⟩:=h1
   obtain⟨b',rfl⟩:=okWide_bool hu hv
   exact plain rfl rfl
  ·rename_i k hu
   obtain⟨i,rfl,_⟩:=h1
   obtain⟨i',rfl⟩:=okWide_int hu hv
   exact plain rfl rfl
  ·rename_i hu
   obtain⟨b,rfl,_⟩:=h1
   obtain⟨b',rfl⟩:=okWide_string hu hv
   exact plain rfl rfl
  ·rename_i e hu
   obtain⟨a,len,cap,rfl⟩:=okWide_slice hu hv
   split at h1
   ·obtain⟨xs,rfl,_⟩:=h1;exact plain rfl rfl
   ·obtain⟨xs,rfl,_⟩:=h1;exact plain rfl rfl
  ·rename_i fs hu
   obtain⟨l,rfl,_⟩:=h1
   obtain⟨cs,rfl,_⟩:=okWide_struct hu hv
   exact agg rfl ⟨cs,rfl⟩
  ·rename_i m e hu
   have:∃cs,v= .agg cs:=by
    unfold Value.okWide at hv;rw[hu]at hv
    obtain⟨cs,rfl,_⟩:=hv;exact⟨cs,rfl⟩
   split at h1
   ·obtain⟨xs,rfl,_⟩:=h1;exact agg rfl this
   ·obtain⟨xs,rfl,_⟩:=h1;exact agg rfl this
  ·exact h1.elim
theorem open_all (hM:∀b o,¬M b o) {n:Nat} {r:Reach} {b0:Nat}:∀{ts:List TypeId} {vs:List Value} {ds:List (DataW H)} {ps:List MemPlace},(∀(j:Nat) t v,ts[j]? =some t→vs[j]? =some v→Value.okWide P w r b0 t v)→
  DataW.TrodAll enc P w 0 sp held ts vs ds ps→(∀t∈ts,TyOk P n t=true)→∃xs,TyAll P n ts xs∧vs.length=xs.length∧ds.length=ts.length∧∀(i:Nat) x,xs[i]? =some x→∃v,vs[i]? =some v∧RepW w M x v
 |[],vs,ds,ps,hv,h,hok=>by
  obtain⟨rfl,rfl,rfl⟩:=trodAll_nil h
  exact⟨[],rfl,rfl,rfl,fun i x hx=>by simp at hx⟩
 |t::ts,vs,ds,ps,hv,h,hok=>by
  obtain⟨v,vs',d,ds',p,q,rfl,rfl,rfl,h1,h2⟩:=trodAll_cons h
  obtain⟨y,h3,h4⟩:=open_W (M:=M) hM (hv 0 t v rfl rfl) h1 (hok t (List.mem_cons_self ..))
  obtain⟨xs,h5,h6,h7,h8⟩:=open_all hM (fun j t v h1 h2=>hv (j+1) t v h1 h2) h2 (fun t ht=>hok t (List.mem_cons_of_mem _ ht))
  refine⟨y::xs,⟨y,xs,rfl,h3,h5⟩,by simp[h6],by simp[h7],fun i x hx=> ?_⟩
  cases i with
  |zero=>simp at hx;subst hx;exact⟨v,rfl,h4⟩
  |succ i=>exact h8 i x (by simpa using hx)
theorem stay_all (hl:laidOutB P=true) {W W':World} (hb:Below W.heap.size W W'):∀{ts:List TypeId} {vs:List Value} {ds:List (DataW H)} {ps:List MemPlace},(∀t∈ts,P.readableRec t=true∧t < P.types.size)→
  DataW.TrodAll enc P W 0 (fun _=>true) true ts vs ds ps→DataW.TrodAll enc P W' 0 (fun b=>decide (b < W.heap.size)) true ts vs ds ps
 |[],vs,ds,ps,hr,h=>by
  obtain⟨rfl,rfl,rfl⟩:=trodAll_nil h
  exact trodAll_mk0
 |t::ts,vs,ds,ps,hr,h=>by
  obtain⟨v,vs',d,ds',p,q,rfl,rfl,rfl,h1,h2⟩:=trodAll_cons h
  have lt:∀x∈p,x.block < W.heap.size:=by obtain⟨m,hm⟩:=h1;exact DataW.trod_lt m _ _ _ hm
  have:=hr t (List.mem_cons_self ..)
  exact trodAll_cons_mk (Below.trod hl this.1 this.2 h1 hb lt) (stay_all hl hb (fun t ht=>hr t (List.mem_cons_of_mem _ ht)) h2)
end
theorem noM (b o:Nat):¬MB (fun _ _=>False) (fun _=>false) b o:=by
 rintro (h|⟨h,_⟩)
 ·exact h
 ·simp[owB]at h
theorem law_lifted {C:Checked} {f:FuncId} {fn:Func} {s:ChangeSpec} {os:Os} {H:Type} {enc:TypeId×Value→H} {conds:List PathCond} {tb:TypeId} {n:Nat} {tab:List (Nat×V)}
  (own:ownKnob C.prog.godebug=none) (started:os.Started) (noInit:C.prog.inits.idxOf? f=none) (hfn:C.prog.funcs[f]? =some fn)
  (hwit:∃(w:World) (tape:Tape) (i:Input),w.os=os∧(w.forCall tape i).Shaped C.prog∧i.vars=[]∧Input.okWide C.prog (w.forCall tape i) .any w.heap.size f i∧
   s.pre6 enc C.prog fn conds false (w.forCall tape i).memory i.args∧({}:Assume).holds C.prog (lone (Frame.enter C.prog f i.args .normal) [] (w.forCall tape i)))
  (hl:laidOutB C.prog=true) (hvars:s.vars=[]) (hres:fn.resultTypes= #[tb]) (hb:C.prog.underlying tb=some .bool)
  (hspec:∀(H:Type) (ds:List (DataW H)),ds.length=fn.params.toList.length→s.fn H ds={ results:=[.lit (.bool true)],args:=ds })
  (hrow:∀t∈fn.params.toList,C.prog.readableRec t=true∧t < C.prog.types.size) (hok:∀t∈fn.params.toList,TyOk C.prog n t=true)
  (htab:∀W:World,∀g x,look tab g=some x→∃cs,Reads W (MB (fun _ _=>False) (fun _=>false)) ⟨g,0,none⟩ cs∧RepV W (MB (fun _ _=>False) (fun _=>false)) x cs)
  (hlaw:∀vs:List V,TyAll C.prog n fn.params.toList vs→Ret ⟨C.prog,tab⟩ f vs [] (fun r _=>r= .v (.bool true))):
  ReturnsInHanded {} C os f .any (s.pre6 enc C.prog fn conds false) (s.post enc C.prog fn false true false false):=by
 refine returnsInHanded_of_change own started noInit hfn hwit ?_
 intro W base args ds gs before hval hW hcnd _
 have hW':=hW
 obtain⟨p,q,hA,hV,rfl,hfz,hnd⟩:=hW
 rw[hvars]at hV
 obtain⟨rfl,rfl⟩:=trodVars_none hV
 obtain⟨xs,h1,h2,h3,h4⟩:=open_all (M:=MB (fun _ _=>False) (fun _=>false)) noM (n:=n) (fun j t v e1 e2=>hval j t v (by rw[←Array.getElem?_toList];exact e1) (by rw[←Array.getElem?_toList];exact e2)) hA hok
 have hR:=hlaw xs h1 (fun _ _=>False) (fun _=>false) W args
  { callers:=fun _ _ h=>h.elim,sep:=fun _ _ _=>rfl,blk:=fun _ h=>by simp at h,objs:=fun id x h=>by simp[look]at h,tabs:=htab W } (by simpa using h2)
  (fun i x hx=>by
   obtain⟨v,e1,e2⟩:=h4 i x hx
   exact⟨v,by rw[←Array.getElem?_toList];exact e1,e2⟩)
 refine Calls.mono hR ?_
 rintro e W' ⟨v,r,G',m',rfl,rfl,he,hrep⟩
 have hv:v= .bool true:=by
  have:RepW W' _ (.bool true) v:=hrep
  simp only[RepW,V.isAgg,Bool.false_eq_true,if_false,RepV,List.cons.injEq,and_true]at this
  exact this
 subst hv
 have bel:Below W.heap.size W W':=⟨he.os,he.tape,he.output,he.grown,fun k hk=>he.old k hk rfl⟩
 refine⟨_,rfl,ds,[],p++[],[],p,[],hW',?_,?_,?_,bel.frame _,fun h=>(by cases h)⟩
 ·rw[List.append_nil,hspec H ds h3,hres];exact trodAll_mk1 (shut_bool hb _)
 ·rw[List.append_nil,hspec H ds h3];exact stay_all hl bel hrow hA
 ·rw[hvars,List.append_nil,hspec H ds h3];exact rfl
end Go.Abs
namespace Go.Abs
open Go Go.RowKit
set_option linter.unusedVariables false
set_option linter.unusedSimpArgs false
abbrev Spec1:=List V→List (Nat×V)→(R→List (Nat×V)→Prop)→Prop
def Spec1.Det (s:Spec1):Prop:=∀vs G (Q:R→Prop),s vs G (fun r G'=>G'=G∧Q r)→∃r,Q r∧∀Q':R→List (Nat×V)→Prop,Q' r G→s vs G Q'
def runO (o:Option Spec1) (vs:List V) (G:List (Nat×V)) (Q:R→List (Nat×V)→Prop):Prop:=match o with
 |some s=>s vs G Q
 |none=>False
def specOf (l:List (Nat×Spec1)):Spec:=fun g vs G Q=>runO (look l g) vs G Q
theorem runO_some {s vs G Q}:runO (some s) vs G Q=s vs G Q:=rfl
theorem callK_of {l g vs K σ t}:callK (specOf l) g vs K σ t=runO (look l g) vs σ.G (fun r G'=>K (({ σ with G:=G' }:St).put t r.D)):=rfl
theorem callD_of {l g vs K σ t}:callD (specOf l) g vs K σ t=runO (look l g) vs σ.G (fun r G'=>G'=σ.G∧K (σ.put t r.D)):=rfl
structure Good (E:Env) (l:List (Nat×Spec1)):Prop where
 snd:(specOf l).Sound E
 det:(specOf l).Det
theorem Good.nil (E:Env):Good E []:=⟨fun _ _ _ _ h=>False.elim h,fun _ _ _ _ h=>False.elim h⟩
theorem Good.cons {E:Env} {l:List (Nat×Spec1)} {g:Nat} {s:Spec1} (h:Good E l) (hd:s.Det) (hs:∀vs G Q,s vs G Q→Ret E g vs G Q):Good E ((g,s)::l):=by
 refine⟨fun g' vs G Q hq=> ?_,fun g' vs G Q hq=> ?_⟩
 ·have hq:runO (look ((g,s)::l) g') vs G Q:=hq
  rw[look_cons]at hq
  by_cases e:g'=g
  ·subst e;rw[if_pos rfl]at hq;exact hs vs G Q hq
  ·rw[if_neg e]at hq;exact h.snd g' vs G Q hq
 ·have hq:runO (look ((g,s)::l) g') vs G (fun r G'=>G'=G∧Q r):=hq
  rw[look_cons]at hq
  by_cases e:g'=g
  ·subst e;rw[if_pos rfl]at hq
   obtain⟨r,h1,h2⟩:=hd vs G Q hq
   refine⟨r,h1,fun Q' hQ'=> ?_⟩
   show runO (look ((g',s)::l) g') vs G Q'
   rw[look_cons,if_pos rfl];exact h2 Q' hQ'
  ·rw[if_neg e]at hq
   obtain⟨r,h1,h2⟩:=h.det g' vs G Q hq
   refine⟨r,h1,fun Q' hQ'=> ?_⟩
   show runO (look ((g,s)::l) g') vs G Q'
   rw[look_cons,if_neg e];exact h2 Q' hQ'
theorem Good.ret {E:Env} {l:List (Nat×Spec1)} (h:Good E l) {g K:Nat} {ks:List (List Nat)} {es:List Nat} {f:PF} (hp:prepF E.P g K ks es=some f) {vs:List V} {G:List (Nat×V)} {Q:R→List (Nat×V)→Prop} (hn:vs.length=f.n)
  (hW:Wf E (specOf l) f vs G Q):Ret E g vs G Q:=Ret_of_W h.snd h.det hp hn hW
theorem fin {Q:R→List (Nat×V)→Prop} {r r':R} {G:List (Nat×V)} (h:Q r G) (e:r=r'):Q r' G:=e▸h
theorem fresh_id (G:List (Nat×V)):∃id,look G id=none:=by
 have:∀(G:List (Nat×V)),∃n,∀id,n≤id→look G id=none:=by
  intro G
  induction G with
  |nil=>exact⟨0,fun _ _=>rfl⟩
  |cons p G ih=>
   obtain⟨k,x⟩:=p
   obtain⟨n,hn⟩:=ih
   refine⟨n+k+1,fun id h=> ?_⟩
   rw[look_cons,if_neg (by omega)]
   exact hn id (by omega)
 obtain⟨n,hn⟩:=this G
 exact⟨n,hn n (Nat.le_refl _)⟩
theorem detN {α:Prop} {G:List (Nat×V)} {A:Nat→Prop} {x:Nat→V} (h:∀id,look G id=none→(((id,x id)::G)=G∧A id)):α:=by
 obtain⟨id,hid⟩:=fresh_id G
 have:=congrArg List.length (h id hid).1
 simp at this
theorem detA {α:Prop} {G:List (Nat×V)} {A:List (Nat×V)→Prop} (h:∀G',G'=G∧A G'):α:=by
 have:=congrArg List.length (h ((0,.nilp)::G)).1
 simp at this
theorem detIf {Q:R→Prop} {c:Prop} {a b:R} {G:List (Nat×V)} (h:(c→G=G∧Q a)∧(¬c→G=G∧Q b)):∃r,Q r∧∀Q':R→List (Nat×V)→Prop,Q' r G→(c→Q' a G)∧(¬c→Q' b G):=by
 by_cases hc:c
 ·exact⟨a,(h.1 hc).2,fun Q' h'=>⟨fun _=>h',fun n=>absurd hc n⟩⟩
 ·exact⟨b,(h.2 hc).2,fun Q' h'=>⟨fun n=>absurd n hc,fun _=>h'⟩⟩
theorem det00 {r:R} {G2 G:List (Nat×V)} {Q:R→Prop} (h:G2=G∧Q r):∃x,Q x∧∀Q':R→List (Nat×V)→Prop,Q' x G→Q' r G2:=⟨r,h.2,fun Q' h'=>by rw[h.1];exact h'⟩
theorem det0 {P:Prop} {r:R} {G2 G:List (Nat×V)} {Q:R→Prop} (h:P∧(G2=G∧Q r)):∃x,Q x∧∀Q':R→List (Nat×V)→Prop,Q' x G→P∧Q' r G2:=⟨r,h.2.2,fun Q' h'=>⟨h.1,by rw[h.2.1];exact h'⟩⟩
theorem detE1 {T1:Type} {P:T1→Prop} {r:T1→R} {G2:T1→List (Nat×V)} {G:List (Nat×V)} {Q:R→Prop} (h:∃b1,P b1∧(G2 b1=G∧Q (r b1))):∃x,Q x∧∀Q':R→List (Nat×V)→Prop,Q' x G→∃b1,P b1∧Q' (r b1) (G2 b1):=by
 obtain⟨b1,hp,e,hq⟩:=h;exact⟨_,hq,fun Q' h'=>⟨b1,hp,by rw[e];exact h'⟩⟩
theorem detE2 {T1:Type} {T2:Type} {P:T1→T2→Prop} {r:T1→T2→R} {G2:T1→T2→List (Nat×V)} {G:List (Nat×V)} {Q:R→Prop} (h:∃b1 b2,P b1 b2∧(G2 b1 b2=G∧Q (r b1 b2))):∃x,Q x∧∀Q':R→List (Nat×V)→Prop,Q' x G→∃b1 b2,P b1 b2∧Q' (r b1 b2) (G2 b1 b2):=by
 obtain⟨b1,b2,hp,e,hq⟩:=h;exact⟨_,hq,fun Q' h'=>⟨b1,b2,hp,by rw[e];exact h'⟩⟩
theorem detE3 {T1:Type} {T2:Type} {T3:Type} {P:T1→T2→T3→Prop} {r:T1→T2→T3→R} {G2:T1→T2→T3→List (Nat×V)} {G:List (Nat×V)} {Q:R→Prop} (h:∃b1 b2 b3,P b1 b2 b3∧(G2 b1 b2 b3=G∧Q (r b1 b2 b3))):∃x,Q x∧∀Q':R→List (Nat×V)→Prop,Q' x G→∃b1 b2 b3,P b1 b2 b3∧Q' (r b1 b2 b3) (G2 b1 b2 b3):=by
 obtain⟨b1,b2,b3,hp,e,hq⟩:=h;exact⟨_,hq,fun Q' h'=>⟨b1,b2,b3,hp,by rw[e];exact h'⟩⟩
theorem detE4 {T1:Type} {T2:Type} {T3:Type} {T4:Type} {P:T1→T2→T3→T4→Prop} {r:T1→T2→T3→T4→R} {G2:T1→T2→T3→T4→List (Nat×V)} {G:List (Nat×V)} {Q:R→Prop} (h:∃b1 b2 b3 b4,P b1 b2 b3 b4∧(G2 b1 b2 b3 b4=G∧Q (r b1 b2 b3 b4))):∃x,Q x∧∀Q':R→List (Nat×V)→Prop,Q' x G→∃b1 b2 b3 b4,P b1 b2 b3 b4∧Q' (r b1 b2 b3 b4) (G2 b1 b2 b3 b4):=by
 obtain⟨b1,b2,b3,b4,hp,e,hq⟩:=h;exact⟨_,hq,fun Q' h'=>⟨b1,b2,b3,b4,hp,by rw[e];exact h'⟩⟩
theorem detE5 {T1:Type} {T2:Type} {T3:Type} {T4:Type} {T5:Type} {P:T1→T2→T3→T4→T5→Prop} {r:T1→T2→T3→T4→T5→R} {G2:T1→T2→T3→T4→T5→List (Nat×V)} {G:List (Nat×V)} {Q:R→Prop} (h:∃b1 b2 b3 b4 b5,P b1 b2 b3 b4 b5∧(G2 b1 b2 b3 b4 b5=G∧Q (r b1 b2 b3 b4 b5))):∃x,Q x∧∀Q':R→List (Nat×V)→Prop,Q' x G→∃b1 b2 b3 b4 b5,P b1 b2 b3 b4 b5∧Q' (r b1 b2 b3 b4 b5) (G2 b1 b2 b3 b4 b5):=by
 obtain⟨b1,b2,b3,b4,b5,hp,e,hq⟩:=h;exact⟨_,hq,fun Q' h'=>⟨b1,b2,b3,b4,b5,hp,by rw[e];exact h'⟩⟩
theorem detE6 {T1:Type} {T2:Type} {T3:Type} {T4:Type} {T5:Type} {T6:Type} {P:T1→T2→T3→T4→T5→T6→Prop} {r:T1→T2→T3→T4→T5→T6→R} {G2:T1→T2→T3→T4→T5→T6→List (Nat×V)} {G:List (Nat×V)} {Q:R→Prop} (h:∃b1 b2 b3 b4 b5 b6,P b1 b2 b3 b4 b5 b6∧(G2 b1 b2 b3 b4 b5 b6=G∧Q (r b1 b2 b3 b4 b5 b6))):∃x,Q x∧∀Q':R→List (Nat×V)→Prop,Q' x G→∃b1 b2 b3 b4 b5 b6,P b1 b2 b3 b4 b5 b6∧Q' (r b1 b2 b3 b4 b5 b6) (G2 b1 b2 b3 b4 b5 b6):=by
 obtain⟨b1,b2,b3,b4,b5,b6,hp,e,hq⟩:=h;exact⟨_,hq,fun Q' h'=>⟨b1,b2,b3,b4,b5,b6,hp,by rw[e];exact h'⟩⟩
theorem detE7 {T1:Type} {T2:Type} {T3:Type} {T4:Type} {T5:Type} {T6:Type} {T7:Type} {P:T1→T2→T3→T4→T5→T6→T7→Prop} {r:T1→T2→T3→T4→T5→T6→T7→R} {G2:T1→T2→T3→T4→T5→T6→T7→List (Nat×V)} {G:List (Nat×V)} {Q:R→Prop} (h:∃b1 b2 b3 b4 b5 b6 b7,P b1 b2 b3 b4 b5 b6 b7∧(G2 b1 b2 b3 b4 b5 b6 b7=G∧Q (r b1 b2 b3 b4 b5 b6 b7))):∃x,Q x∧∀Q':R→List (Nat×V)→Prop,Q' x G→∃b1 b2 b3 b4 b5 b6 b7,P b1 b2 b3 b4 b5 b6 b7∧Q' (r b1 b2 b3 b4 b5 b6 b7) (G2 b1 b2 b3 b4 b5 b6 b7):=by
 obtain⟨b1,b2,b3,b4,b5,b6,b7,hp,e,hq⟩:=h;exact⟨_,hq,fun Q' h'=>⟨b1,b2,b3,b4,b5,b6,b7,hp,by rw[e];exact h'⟩⟩
theorem detN0 {α:Prop} {P:Prop} {G:List (Nat×V)} {A:Nat→Prop} {x:Nat→V} (h:P∧∀id,look G id=none→(((id,x id)::G)=G∧A id)):α:=by
 obtain⟨hp,h⟩:=h;exact detN h
theorem detA0 {α:Prop} {P:Prop} {G:List (Nat×V)} {A:List (Nat×V)→Prop} (h:P∧∀G',G'=G∧A G'):α:=by
 obtain⟨hp,h⟩:=h;exact detA h
theorem detN1 {α:Prop} {T1:Type} {P:T1→Prop} {G:List (Nat×V)} {A:T1→Nat→Prop} {x:T1→Nat→V} (h:∃b1,P b1∧∀id,look G id=none→(((id,x b1 id)::G)=G∧A b1 id)):α:=by
 obtain⟨b1,hp,h⟩:=h;exact detN h
theorem detA1 {α:Prop} {T1:Type} {P:T1→Prop} {G:List (Nat×V)} {A:T1→List (Nat×V)→Prop} (h:∃b1,P b1∧∀G',G'=G∧A b1 G'):α:=by
 obtain⟨b1,hp,h⟩:=h;exact detA h
theorem detN2 {α:Prop} {T1:Type} {T2:Type} {P:T1→T2→Prop} {G:List (Nat×V)} {A:T1→T2→Nat→Prop} {x:T1→T2→Nat→V} (h:∃b1 b2,P b1 b2∧∀id,look G id=none→(((id,x b1 b2 id)::G)=G∧A b1 b2 id)):α:=by
 obtain⟨b1,b2,hp,h⟩:=h;exact detN h
theorem detA2 {α:Prop} {T1:Type} {T2:Type} {P:T1→T2→Prop} {G:List (Nat×V)} {A:T1→T2→List (Nat×V)→Prop} (h:∃b1 b2,P b1 b2∧∀G',G'=G∧A b1 b2 G'):α:=by
 obtain⟨b1,b2,hp,h⟩:=h;exact detA h
theorem detN3 {α:Prop} {T1:Type} {T2:Type} {T3:Type} {P:T1→T2→T3→Prop} {G:List (Nat×V)} {A:T1→T2→T3→Nat→Prop} {x:T1→T2→T3→Nat→V} (h:∃b1 b2 b3,P b1 b2 b3∧∀id,look G id=none→(((id,x b1 b2 b3 id)::G)=G∧A b1 b2 b3 id)):α:=by
 obtain⟨b1,b2,b3,hp,h⟩:=h;exact detN h
theorem detA3 {α:Prop} {T1:Type} {T2:Type} {T3:Type} {P:T1→T2→T3→Prop} {G:List (Nat×V)} {A:T1→T2→T3→List (Nat×V)→Prop} (h:∃b1 b2 b3,P b1 b2 b3∧∀G',G'=G∧A b1 b2 b3 G'):α:=by
 obtain⟨b1,b2,b3,hp,h⟩:=h;exact detA h
theorem finB {Q:R→List (Nat×V)→Prop} {b b':Bool} {G:List (Nat×V)} (h:Q (.v (.bool b)) G) (e:b=b'):Q (.v (.bool b')) G:=e▸h
theorem w64 {x:Int} (h1: -9223372036854775808≤x) (h2:x≤9223372036854775807):IntKind.i64.wrap x=x:=by
 rw[IntKind.wrap_i64];omega
theorem wf64 {x:Int} (h:(Lit.int .i64 x).wf=true): -9223372036854775808≤x∧x≤9223372036854775807:=by
 simpa [Lit.wf,IntKind.min,IntKind.max,IntKind.bits,IntKind.signed]using h
theorem Wf_eq {E C f vs G Q}:Wf E C f vs G Q=W E C f.body (retQ E f Q) ⟨initV f.K vs,[],[],G⟩:=rfl
theorem retQ_n {E f Q σ}:retQ E f Q .normal σ=resQ Q σ.G (resR E.tab σ f.res):=rfl
theorem retQ_r {E f Q σ}:retQ E f Q .ret σ=resQ Q σ.G (resR E.tab σ f.res):=rfl
theorem retQ_e {E f Q i σ}:retQ E f Q (.exit i) σ=False:=rfl
theorem resQ_some {Q G r}:resQ Q G (some r)=Q r G:=rfl
theorem W_loop {E C ks c Q σ}:W E C (.loop ks c) Q σ=loopK (W E C c) ks Q σ:=rfl
def rndK (f:(Ex→St→Prop)→St→Prop) (ks:List Nat) (Q:Ex→St→Prop) (n:Nat) (e:Ex) (σ:St):Prop:=match e with
 | .normal=>WL f ks Q n (σ.keep ks)
 |e=>Q e σ
theorem WL_succ {f ks Q n σ}:WL f ks Q (n+1) σ=f (rndK f ks Q n) σ:=by
 have:(fun e σ'=>rndK f ks Q n e σ')=rndK f ks Q n:=rfl
 unfold WL
 congr 1
theorem WL_in {E C c c' ks Q n σ} (hc:c=c') (h:W E C c' (rndK (W E C c) ks Q n) σ):WL (W E C c) ks Q (n+1) σ:=by
 rw[WL_succ];subst hc;exact h
theorem rndK_n {f ks Q n σ}:rndK f ks Q n .normal σ=WL f ks Q n (σ.keep ks):=rfl
theorem rndK_r {f ks Q n σ}:rndK f ks Q n .ret σ=Q .ret σ:=rfl
theorem rndK_e {f ks Q n i σ}:rndK f ks Q n (.exit i) σ=Q (.exit i) σ:=rfl
theorem keep_mk {vs ts L G ks}:St.keep ⟨vs,ts,L,G⟩ ks=⟨keepL 0 ks vs,[],L,G⟩:=rfl
theorem keepL_cons {n ks o l}:keepL n ks (o::l)=(if ks.contains n=true then o else none)::keepL (n+1) ks l:=rfl
theorem keepL_nil {n ks}:keepL n ks []=[]:=rfl
theorem get_last {l:List Bx} {x:Bx}:(l++[x])[l.length]? =some x:=by simp
theorem set_last {l:List Bx} {x y:Bx}:(l++[x]).set l.length y=l++[y]:=by simp
theorem look_upd_same {α:Type} {G:List (Nat×α)} {id:Nat} {x z:α} (h:look G id=some x):look (upd G id z) id=some z:=by
 induction G with
 |nil=>simp[look]at h
 |cons p G ih=>
  obtain⟨k,d⟩:=p
  by_cases e:id=k
  ·subst e;simp[upd,look]
  ·have:(id==k)=false:=by simpa using e
   simp only[upd,look,this,cond_false]at h⊢
   exact ih h
theorem look_upd_ne {α:Type} {G:List (Nat×α)} {id j:Nat} {z:α} (h:j≠id):look (upd G id z) j=look G j:=by
 induction G with
 |nil=>rfl
 |cons p G ih=>
  obtain⟨k,d⟩:=p
  by_cases e:id=k
  ·subst e
   have:(j==id)=false:=by simpa using h
   simp[upd,look,this]
  ·have:(id==k)=false:=by simpa using e
   simp only[upd,this,cond_false,look,ih]
theorem upd_upd {α:Type} {G:List (Nat×α)} {id:Nat} {y z:α}:upd (upd G id y) id z=upd G id z:=by
 induction G with
 |nil=>rfl
 |cons p G ih=>
  obtain⟨k,d⟩:=p
  by_cases e:id=k
  ·subst e;simp[upd]
  ·have:(id==k)=false:=by simpa using e
   simp only[upd,this,cond_false,ih]
theorem upd_cons_same {α:Type} {G:List (Nat×α)} {id:Nat} {x z:α}:upd ((id,x)::G) id z=(id,z)::G:=by simp[upd]
attribute [go_sem] upd_cons_same upd_upd cond_true cond_false true_or or_true false_or or_false
attribute [go_sem] Option.isNone_none Option.isNone_some Option.isSome_none Option.isSome_some List.append_nil Nat.add_one_sub_one Nat.add_sub_cancel List.length_append Nat.zero_add get_last set_last runO_some callK_of callD_of Wf_eq retQ_n retQ_r retQ_e resQ_some rndK_n rndK_r rndK_e keep_mk keepL_cons keepL_nil W_loop initV chkV resV resVs rD rV rT resR
attribute [go_sem] eq_self not_true_eq_false not_false_eq_true false_implies true_implies forall_const and_false false_and Bool.true_beq Bool.false_beq beq_true beq_false Bool.not_true Bool.not_false decide_true decide_false Int.reduceToNat Int.reduceLT Int.reduceLE Int.cast_ofNat_Int List.getD_cons_zero List.getD_cons_succ Nat.reduceLT Int.reduceAdd Int.reduceSub Int.reduceMul Nat.reduceSub List.isEmpty_nil List.isEmpty_cons ne_eq not_false_eq_true Int.reduceEq Int.reduceNe Nat.reduceAdd Nat.reduceBEq List.contains_cons List.contains_nil Option.map_some Nat.reduceEqDiff reduceCtorEq List.getElem?_cons_zero List.getElem?_cons_succ List.length_nil List.nil_append List.cons_append List.take_succ_cons List.take_zero true_and List.length_cons and_self Bool.false_eq_true List.set_cons_zero List.set_cons_succ Bool.or_true Bool.false_or Bool.not_true beq_self_eq_true Bool.and_true Bool.true_and Bool.true_or Bool.or_false Bool.and_self Bool.or_self Bool.not_false Bool.false_and Bool.and_false List.map_cons List.map_nil List.replicate_succ List.replicate_zero and_true
end Go.Abs
namespace Go.Abs
open Go Go.RowKit Go.ChangeShapes Go.WideShapes Go.ChangeAt
set_option linter.unusedVariables false
set_option linter.unusedSimpArgs false
/-! ### what stands for nil stands for no elements -/
def Wk (x x':V):Prop:=x'=x∨(x= .nils∧((∃k,x'= .sli k [])∨∃sz,x'= .sle sz []))
theorem Wk.rep {w M x x' v} (h:Wk x x') (hr:RepW w M x v):RepW w M x' v:=by
 rcases h with rfl|⟨rfl,⟨k,rfl⟩|⟨sz,rfl⟩⟩
 ·exact hr
 ·have:v= .slice none 0 0:=by simpa [RepW,V.isAgg,RepV]using hr
  subst this
  simp only[RepW,V.isAgg,Bool.false_eq_true,if_false,RepV]
  exact⟨none,0,rfl,Nat.le_refl _,fun _=>rfl,fun p h=>by cases h⟩
 ·have:v= .slice none 0 0:=by simpa [RepW,V.isAgg,RepV]using hr
  subst this
  simp only[RepW,V.isAgg,Bool.false_eq_true,if_false,RepV]
  exact⟨none,0,rfl,Nat.le_refl _,fun _=>rfl,fun p h=>by cases h⟩
theorem Ret.args {E g vs vs' G Q} (hl:vs.length=vs'.length) (hw:∀(i:Nat) x',vs'[i]? =some x'→∃x,vs[i]? =some x∧Wk x x') (h:Ret E g vs' G Q):Ret E g vs G Q:=by
 intro Mc B w args hs ha hr
 refine h Mc B w args hs (by rw[ha,hl]) (fun i x' hx'=> ?_)
 obtain⟨x,h1,h2⟩:=hw i x' hx'
 obtain⟨v,h3,h4⟩:=hr i x h1
 exact⟨v,h3,h2.rep h4⟩
def wkV (k:IntKind):V→V
 | .nils=> .sli k []
 |x=>x
def wkR (k:IntKind):R→R
 | .v x=> .v (wkV k x)
 | .own x=> .own (wkV k x)
 |r=>r
theorem wkV_wk (k:IntKind) (x:V):Wk x (wkV k x):=by
 cases x<;>first|exact .inl rfl|exact .inr ⟨rfl,.inl ⟨k,rfl⟩⟩
theorem Ret.res {E g vs G Q} (k:IntKind) (h:Ret E g vs G (fun r G'=>Q (wkR k r) G')):Ret E g vs G Q:=by
 intro Mc B w args hs ha hr
 refine Calls.mono (h Mc B w args hs ha hr) ?_
 rintro e W' ⟨v,r,G',m',h1,h2,h3,h4⟩
 refine⟨v,wkR k r,G',m',h1,h2,h3,?_⟩
 cases r with
 |v x=>exact (wkV_wk k x).rep h4
 |own x=>
  obtain⟨h5,h6⟩:=h4
  refine⟨(wkV_wk k x).rep h5,?_⟩
  by_cases hx:x= .nils
  ·subst hx
   have hv:v= .slice none 0 0:=by simpa [RepW,V.isAgg,RepV]using h5
   subst hv
   exact⟨0,none,0,rfl,.inl rfl⟩
  ·have:wkV k x=x:=by cases x<;>first|rfl|exact absurd rfl hx
   rw[this];exact h6
 |tup l=>exact h4
end Go.Abs
namespace Go.Abs
open Go Go.RowKit
set_option linter.unusedVariables false
set_option linter.unusedSimpArgs false
mutual
/-- A value, and the value in which cuts of the row 'id' may be plain rows. -/
def V.Fz (id:Nat) (L:List V) (k:Option IntKind):V→V→Prop
 | .sob i sz off n c,y=>y= .sob i sz off n c∨(i=id∧n≤c∧off+n≤L.length∧(∀x∈L,V.size x=sz)∧elemsV k sz ((L.drop off).take n)=some y∧(∀k',k=some k'→sz=1))
 | .agg l,y=>∃m,y= .agg m∧V.FzL id L k l m
 | .sle sz l,y=>y= .sle sz l
 |x,y=>y=x
def V.FzL (id:Nat) (L:List V) (k:Option IntKind):List V→List V→Prop
 |[],m=>m=[]
 |x::l,m=>∃y m',m=y::m'∧V.Fz id L k x y∧V.FzL id L k l m'
end
mutual
theorem V.Fz.refl {id L k}:∀x:V,V.Fz id L k x x
 | .agg l=>by simp only[V.Fz];exact⟨l,rfl,V.FzL.refl l⟩
 | .sob .. =>by unfold V.Fz;exact .inl rfl
 | .int .. | .bool .. | .str .. | .arr .. | .sli .. | .sle .. | .nils| .ptr .. | .nilp| .nili| .fn .. =>by simp only[V.Fz]
theorem V.FzL.refl {id L k}:∀l:List V,V.FzL id L k l l
 |[]=>by simp only[V.FzL]
 |x::l=>by simp only[V.FzL];exact⟨x,l,rfl,V.Fz.refl x,V.FzL.refl l⟩
end
mutual
theorem V.Fz.agg {id L k}:∀{x y:V},V.Fz id L k x y→y.isAgg=x.isAgg∧y.size=x.size
 | .agg l,y,h=>by
  simp only[V.Fz]at h;obtain⟨m,rfl,h⟩:=h
  exact⟨rfl,by simp only[V.size];exact V.FzL.size h⟩
 | .sob ..,y,h=>by
  simp only[V.Fz]at h
  rcases h with rfl|⟨_,_,_,_,h,_⟩
  ·exact⟨rfl,rfl⟩
  ·unfold elemsV at h
   split at h
   ·cases h;exact⟨rfl,rfl⟩
   ·obtain⟨xs,_,rfl⟩:=Option.map_eq_some_iff.1 h;exact⟨rfl,rfl⟩
 | .int ..,y,h| .bool ..,y,h| .str ..,y,h| .arr ..,y,h| .sli ..,y,h| .sle ..,y,h| .nils,y,h| .ptr ..,y,h| .nilp,y,h| .nili,y,h| .fn ..,y,h=>by
  simp only[V.Fz]at h;subst h;exact⟨rfl,rfl⟩
theorem V.FzL.size {id L k}:∀{l m:List V},V.FzL id L k l m→V.sizeL m=V.sizeL l
 |[],m,h=>by simp only[V.FzL]at h;subst h;rfl
 |x::l,m,h=>by
  simp only[V.FzL]at h;obtain⟨y,m',rfl,h1,h2⟩:=h
  simp only[V.sizeL,V.Fz.agg h1,V.FzL.size h2]
end
theorem repE_of_repL {w:World} {M M':Nat→Nat→Prop} {sz:Nat} (hg:Goes w M w M'):∀{l:List V} {cs:List Value} {p:Addr},(∀x∈l,V.size x=sz)→RepL w M l cs→Reads w M' p cs→RepE w M' sz l p
 |[],_,_,_,_,_=>by simp[RepE]
 |x::l,cs,p,hs,h,hr=>by
  simp only[RepL]at h;obtain⟨c1,c2,rfl,h1,h2⟩:=h
  have hl:c1.length=sz:=by rw[h1.len];exact hs x (List.mem_cons_self ..)
  simp only[RepE]
  refine⟨c1,h1.goes hg,hl,fun i v hv=> ?_,repE_of_repL hg (fun y hy=>hs y (List.mem_cons_of_mem _ hy)) h2 (fun i v hv=> ?_)⟩
  ·have hlt:=(List.getElem?_eq_some_iff.1 hv).1
   exact hr i v (by rw[List.getElem?_append_left hlt];exact hv)
  ·have:=hr (sz+i) v (by rw[List.getElem?_append_right (by omega)];rw[hl,Nat.add_sub_cancel_left];exact hv)
   rw[Addr.add_add,Addr.add_block,Addr.add_off]
   rw[show p.off+sz+i=p.off+(sz+i)by omega];exact this
theorem repL_ints {w:World} {M:Nat→Nat→Prop} {k:IntKind}:∀{l:List V} {xs:List Int} {cs:List Value},intsV k l=some xs→RepL w M l cs→cs=xs.map (.int k)∧xs.length=l.length
 |[],xs,cs,h,hr=>by simp only[intsV]at h;cases h;simp only[RepL]at hr;subst hr;exact⟨rfl,rfl⟩
 | .int k' n::l,xs,cs,h,hr=>by
  simp only[intsV]at h
  split at h
  ·rename_i hk
   obtain⟨ys,h1,rfl⟩:=Option.map_eq_some_iff.1 h
   simp only[RepL,RepV]at hr;obtain⟨c1,c2,rfl,rfl,h2⟩:=hr
   obtain⟨h3,h4⟩:=repL_ints h1 h2
   have:k'=k:=by simpa using hk
   subst this;subst h3
   exact⟨rfl,by simp[h4]⟩
  ·cases h
 | .bool .. ::l,xs,cs,h,hr| .str .. ::l,xs,cs,h,hr| .arr .. ::l,xs,cs,h,hr| .sli .. ::l,xs,cs,h,hr| .sle .. ::l,xs,cs,h,hr| .nils::l,xs,cs,h,hr| .ptr .. ::l,xs,cs,h,hr| .nilp::l,xs,cs,h,hr| .nili::l,xs,cs,h,hr| .fn .. ::l,xs,cs,h,hr| .sob .. ::l,xs,cs,h,hr| .agg .. ::l,xs,cs,h,hr=>by simp[intsV]at h
structure Frz (w:World) (M M':Nat→Nat→Prop) (id:Nat) (L:List V):Prop where
 goes:Goes w M w M'
 box:BoxAt w M id (.agg L)
 out:∀o,¬M' id o
mutual
theorem Frz.repV {w:World} {M M':Nat→Nat→Prop} {id:Nat} {L:List V} {k:Option IntKind} (f:Frz w M M' id L):∀{x y:V} {cs:List Value},V.Fz id L k x y→RepV w M x cs→RepV w M' y cs
 | .agg l,y,cs,h,hr=>by
  simp only[V.Fz]at h;obtain⟨m,rfl,h⟩:=h
  simp only[RepV]at hr⊢;exact Frz.repL f h hr
 | .sob i sz off n c,y,cs,h,hr=>by
  simp only[V.Fz]at h
  rcases h with rfl|⟨rfl,h0,h1,h2,h3,h4⟩
  ·exact hr.goes f.goes
  ·simp only[RepV]at hr
   obtain⟨_,ad,rfl,h5⟩:=hr
   obtain⟨cl,e,b1,b2,b3,b4⟩:=f.box
   simp only[RepV]at b4
   have key:c≠0→∃cm,RepL w M ((L.drop off).take n) cm∧Reads w M' ⟨i,off*sz,none⟩ cm:=by
    intro hc
    have e1:L=L.take off++((L.drop off).take n++(L.drop off).drop n):=by rw[List.take_append_drop,List.take_append_drop]
    rw[e1]at b4
    obtain⟨ca,cb,rfl,r1,r2⟩:=RepL.append.1 b4
    obtain⟨cm,cz,rfl,r3,r4⟩:=RepL.append.1 r2
    refine⟨cm,r3,fun j v hv=> ?_⟩
    have la:ca.length=off*sz:=by
     rw[r1.len,sizeL_uniform (fun y hy=>h2 y (List.mem_of_mem_take hy)),List.length_take,Nat.min_eq_left (by omega)]
    have hlt:=(List.getElem?_eq_some_iff.1 hv).1
    have:=b2 (off*sz+j) v (by rw[List.getElem?_append_right (by omega),la,Nat.add_sub_cancel_left,List.getElem?_append_left hlt];exact hv)
    refine⟨?_,f.out _⟩
    have e2:(⟨i,off*sz,none⟩:Addr).add j=⟨i,off*sz+j,none⟩:=by
     unfold Addr.add;split
     ·subst_vars;rfl
     ·rfl
    rw[e2];exact this
   have hlen:((L.drop off).take n).length=n:=by rw[List.length_take,List.length_drop];omega
   unfold elemsV at h3
   split at h3
   ·cases h3
    simp only[RepV]
    refine⟨ad,c,by rw[hlen],by rw[hlen];exact h0,fun hn=> ?_,fun p hp=> ?_⟩
    ·by_cases hc:c=0
     ·exact hc
     ·rw[h5 hc]at hn;cases hn
    ·by_cases hc:c=0
     ·have:n=0:=by omega
      subst this;simp[RepE]
     ·rw[h5 hc]at hp;cases hp
      obtain⟨cm,r1,r2⟩:=key hc
      exact repE_of_repL f.goes (fun y hy=>h2 y (List.mem_of_mem_drop (List.mem_of_mem_take hy))) r1 r2
   ·rename_i kk
    obtain⟨xs,h6,rfl⟩:=Option.map_eq_some_iff.1 h3
    have hsz:sz=1:=h4 _ rfl
    have hxl:xs.length=n:=by
     obtain⟨cm,r1⟩:∃cm,RepL w M ((L.drop off).take n) cm:=by
      have e1:L=L.take off++((L.drop off).take n++(L.drop off).drop n):=by rw[List.take_append_drop,List.take_append_drop]
      rw[e1]at b4
      obtain⟨ca,cb,_,r1,r2⟩:=RepL.append.1 b4
      obtain⟨cm,cz,_,r3,r4⟩:=RepL.append.1 r2
      exact⟨cm,r3⟩
     rw[(repL_ints h6 r1).2,hlen]
    simp only[RepV]
    refine⟨ad,c,by rw[hxl],by rw[hxl];exact h0,fun hn=> ?_,fun p hp=> ?_⟩
    ·by_cases hc:c=0
     ·exact hc
     ·rw[h5 hc]at hn;cases hn
    ·by_cases hc:c=0
     ·have:xs=[]:=List.eq_nil_of_length_eq_zero (by omega)
      subst this;intro j v hv;simp at hv
     ·rw[h5 hc]at hp;cases hp
      obtain⟨cm,r1,r2⟩:=key hc
      rw[←(repL_ints h6 r1).1];exact r2
 | .int ..,y,cs,h,hr| .bool ..,y,cs,h,hr| .str ..,y,cs,h,hr| .arr ..,y,cs,h,hr| .sli ..,y,cs,h,hr| .sle ..,y,cs,h,hr| .nils,y,cs,h,hr| .ptr ..,y,cs,h,hr| .nilp,y,cs,h,hr| .nili,y,cs,h,hr| .fn ..,y,cs,h,hr=>by
  simp only[V.Fz]at h;subst h;exact hr.goes f.goes
theorem Frz.repL {w:World} {M M':Nat→Nat→Prop} {id:Nat} {L:List V} {k:Option IntKind} (f:Frz w M M' id L):∀{l m:List V} {cs:List Value},V.FzL id L k l m→RepL w M l cs→RepL w M' m cs
 |[],m,cs,h,hr=>by simp only[V.FzL]at h;subst h;simpa only[RepL]using hr
 |x::l,m,cs,h,hr=>by
  simp only[V.FzL]at h;obtain⟨y,m',rfl,h1,h2⟩:=h
  simp only[RepL]at hr⊢;obtain⟨c1,c2,rfl,h3,h4⟩:=hr
  exact⟨c1,c2,rfl,Frz.repV f h1 h3,Frz.repL f h2 h4⟩
end
theorem Frz.repW {w:World} {M M':Nat→Nat→Prop} {id:Nat} {L:List V} {k:Option IntKind} (f:Frz w M M' id L) {x y:V} {v:Value} (h:V.Fz id L k x y) (hr:RepW w M x v):RepW w M' y v:=by
 unfold RepW at hr⊢
 rw[(V.Fz.agg h).1]
 split at hr<;>rename_i hx
 ·rw[if_pos hx];obtain⟨cs,rfl,h1⟩:=hr;exact⟨cs,rfl,f.repV h h1⟩
 ·rw[if_neg hx];exact f.repV h hr
def R.Fz (id:Nat) (L:List V) (k:Option IntKind):R→R→Prop
 | .v x,r=>∃y,r= .v y∧V.Fz id L k x y
 | .own x,r=>r= .own x∨r= .v x
 | .tup l,r=>∃m,r= .tup m∧V.FzL id L k l m
theorem V.FzL.get {id L k}:∀{l m:List V},V.FzL id L k l m→m.length=l.length∧∀(i:Nat) y,m[i]? =some y→∃x,l[i]? =some x∧V.Fz id L k x y
 |[],m,h=>by simp only[V.FzL]at h;subst h;exact⟨rfl,fun i y hy=>by simp at hy⟩
 |x::l,m,h=>by
  simp only[V.FzL]at h;obtain⟨y,m',rfl,h1,h2⟩:=h
  obtain⟨h3,h4⟩:=V.FzL.get h2
  refine⟨by simp[h3],fun i z hz=> ?_⟩
  cases i with
  |zero=>simp at hz;subst hz;exact⟨x,rfl,h1⟩
  |succ i=>exact h4 i z (by simpa using hz)
def Ret0 (E:Env) (g:Nat) (vs:List V) (G:List (Nat×V)) (Q:R→List (Nat×V)→Prop):Prop:=
 ∀(Mc:Nat→Nat→Prop) (B:Nat→Bool) (w:World) (args:Array Value),Start E Mc B w G→(∀b,B b=true→∃x,look G b=some x)→args.size=vs.length→
  (∀(i:Nat) x,vs[i]? =some x→∃v,args[i]? =some v∧RepW w (MB Mc B) x v)→
  Calls E.P g args w (fun e w'=>∃v r G' m',e= .returned v∧Q r G'∧Ended Mc B w G m' w' G'∧RepR w' (MM Mc m'.ow m'.lo) m'.ow m'.lo r v)
theorem Ret0.ret {E : Env} {g : Nat} {vs : List V} {G : List (Nat × V)} {Q : R → List (Nat × V) → Prop} (h : Ret0 E g vs G Q) : Ret E g vs G Q := by
  intro Mc B w args hs hn hv
  have hB0 : ∀ b, (B b && (look G b).isSome) = true ↔ ∃ x, look G b = some x := by
    intro b
    constructor
    · intro hb
      rw [Bool.and_eq_true] at hb
      exact Option.isSome_iff_exists.1 hb.2
    · rintro ⟨x, hx⟩
      rw [(hs.objs b x hx).2, hx]; rfl
  have hM : MB (fun b o => Mc b o ∨ (B b = true ∧ look G b = none)) (fun b => B b && (look G b).isSome) = MB Mc B := by
    funext b o
    simp only [MB, MM, owB, Nat.zero_le, and_true, eq_iff_iff]
    by_cases hb : B b = true
    · by_cases hg : look G b = none
      · simp [hb, hg]
      · have : (look G b).isSome = true := by
          cases h : look G b with
          | none => exact absurd h hg
          | some x => rfl
        simp [hb, hg, this]
    · simp [hb]
  have hs0 : Start E (fun b o => Mc b o ∨ (B b = true ∧ look G b = none)) (fun b => B b && (look G b).isSome) w G :=
    { callers := fun b o hq => by
        rcases hq with hq | hq
        · exact hs.callers b o hq
        · exact hs.blk b hq.1
      sep := fun b o hq => by
        rcases hq with hq | hq
        · rw [hs.sep b o hq]; rfl
        · rw [hq.2]; simp
      blk := fun b hb => by rw [Bool.and_eq_true] at hb; exact hs.blk b hb.1
      objs := fun id x hx => by
        obtain ⟨h1, h2⟩ := hs.objs id x hx
        exact ⟨by rw [hM]; exact h1, (hB0 id).2 ⟨x, hx⟩⟩
      tabs := fun g x hx => by rw [hM]; exact hs.tabs g x hx }
  refine Calls.mono (h _ _ w args hs0 (fun b hb => (hB0 b).1 hb) hn (fun i x hx => by rw [hM]; exact hv i x hx)) ?_
  rintro e w' ⟨v, r, G', m', rfl, hq, he, hr⟩
  let m2 : Mem := { lam := m'.lam, ow := fun b => if B b = true then some .obj else m'.ow b, lo := fun b => if B b = true then 0 else m'.lo b }
  have hno : ∀ b, B b = true → m'.ow b = none ∨ (m'.ow b = some .obj ∧ m'.lo b = 0) := by
    intro b hb
    cases hg : look G b with
    | some x =>
      have := he.blks b ((hB0 b).2 ⟨x, hg⟩)
      exact .inr ⟨this, he.objlo b this⟩
    | none =>
      left
      cases ho : m'.ow b with
      | none => rfl
      | some p =>
        obtain ⟨h1, h2⟩ := he.mine b (by rw [ho]; rfl)
        rcases h2 with h2 | h2
        · have := hs.blk b hb; omega
        · rw [hg] at h2; simp at h2
  have hM2 : MM Mc m2.ow m2.lo = MM (fun b o => Mc b o ∨ (B b = true ∧ look G b = none)) m'.ow m'.lo := by
    funext b o
    simp only [MM, m2, eq_iff_iff]
    by_cases hb : B b = true
    · rw [if_pos hb, if_pos hb]
      simp only [Option.isSome_some, Nat.zero_le, and_self, or_true, true_iff]
      cases hg : look G b with
      | none => exact .inl (.inr ⟨hb, rfl⟩)
      | some x =>
        have h1 := he.blks b ((hB0 b).2 ⟨x, hg⟩)
        exact .inr ⟨by rw [h1]; rfl, by rw [he.objlo b h1]; exact Nat.zero_le _⟩
    · rw [if_neg hb, if_neg hb]
      constructor
      · rintro (h1 | h1)
        · exact .inl (.inl h1)
        · exact .inr h1
      · rintro ((h1 | h1) | h1)
        · exact .inl h1
        · exact absurd h1.1 hb
        · exact .inr h1
  have hfr : ∀ b, b < w.heap.size → (B b && (look G b).isSome) = false → w'.heap[b]? = w.heap[b]? := he.old
  refine ⟨v, r, G', m2, rfl, hq, ?_, ?_⟩
  · exact
      { os := he.os, tape := he.tape, output := he.output, grown := he.grown
        old := fun b hb hB => he.old b hb (by rw [hB]; rfl)
        oldB := fun b s hb hsh => by
          cases hg : look G b with
          | some x => exact he.oldB b s (by rw [hb, hg]; rfl) hsh
          | none =>
            have := he.old b (hs.blk b hb) (by rw [hg]; simp)
            exact ⟨by rw [shape_of_heap this]; exact hsh, fun j => by simp [World.frozen?, this]⟩
        mine := fun b hb => by
          by_cases hB : B b = true
          · exact ⟨Nat.lt_of_lt_of_le (hs.blk b hB) he.grown, .inr hB⟩
          · simp only [m2, if_neg hB] at hb
            obtain ⟨h1, h2⟩ := he.mine b hb
            refine ⟨h1, ?_⟩
            rcases h2 with h2 | h2
            · exact .inl h2
            · rw [Bool.and_eq_true] at h2; exact absurd h2.1 hB
        blks := fun b hb => by simp only [m2, if_pos hb]
        objlo := fun b hb => by
          simp only [m2] at hb ⊢
          split at hb <;> rename_i hB
          · rw [if_pos hB]
          · rw [if_neg hB]; exact he.objlo b hb
        objs := fun id x hx => by
          obtain ⟨h1, h2⟩ := he.objs id x hx
          refine ⟨by rw [hM2]; exact h1, ?_⟩
          simp only [m2]
          split
          · rfl
          · exact h2
        objs0 := he.objs0 }
  · rw [hM2]
    cases r with
    | v x => exact hr
    | tup l => exact hr
    | own x =>
      obtain ⟨h1, t, a, cap, h2, h3⟩ := hr
      refine ⟨h1, t, a, cap, h2, ?_⟩
      rcases h3 with h3 | ⟨b, o, e, k0, k1, k2, k3, k4, k5⟩
      · exact .inl h3
      · have hb : ¬ B b = true := by
          intro hb
          rcases hno b hb with h4 | h4
          · rw [k2] at h4; cases h4
          · rw [k2] at h4; cases h4.1
        exact .inr ⟨b, o, e, k0, k1, by simp only [m2, if_neg hb]; exact k2, by simp only [m2, if_neg hb]; exact k3, k4, k5⟩
theorem Ended.fz {E : Env} {Mc : Nat → Nat → Prop} {B : Nat → Bool} {w : World} {G : List (Nat × V)} (hs : Start E Mc B w G) (hd : ∀ b, B b = true → ∃ x, look G b = some x) {m' : Mem} {w' : World} {G' : List (Nat × V)} {r : R} {v : Value}
    (he : Ended Mc B w G m' w' G') (hr : RepR w' (MM Mc m'.ow m'.lo) m'.ow m'.lo r v) {id : Nat} {L : List V} {k : Option IntKind} {r2 : R} {G2 : List (Nat × V)} (g1 : look G id = none) (g2 : look G' id = some (.agg L)) (g3 : R.Fz id L k r r2)
    (g4 : ∀ j x, look G2 j = some x → j ≠ id ∧ ∃ x', look G' j = some x' ∧ V.Fz id L k x' x) (g5 : ∀ j r, look G j = some r → ∃ r', look G2 j = some r' ∧ r.same r' = true) :
    ∃ m2, Ended Mc B w G m2 w' G2 ∧ RepR w' (MM Mc m2.ow m2.lo) m2.ow m2.lo r2 v := by
  obtain ⟨b1, b2⟩ := he.objs id _ g2
  have hnew : w.heap.size ≤ id := by
    rcases (he.mine id (by rw [b2]; rfl)).2 with h1 | h1
    · exact h1
    · obtain ⟨x, hx⟩ := hd id h1; rw [g1] at hx; cases hx
  have hBid : B id = false := by
    cases hb : B id with
    | false => rfl
    | true => obtain ⟨x, hx⟩ := hd id hb; rw [g1] at hx; cases hx
  let m2 : Mem := { lam := m'.lam, ow := fun b => if b = id then none else m'.ow b, lo := m'.lo }
  have hsub : ∀ b o, MM Mc m2.ow m2.lo b o → MM Mc m'.ow m'.lo b o := by
    rintro b o (h1 | ⟨h1, h2⟩)
    · exact .inl h1
    · simp only [m2] at h1
      split at h1
      · cases h1
      · exact .inr ⟨h1, h2⟩
  have gs : Goes w' (MM Mc m'.ow m'.lo) w' (MM Mc m2.ow m2.lo) := fun q v h1 h2 => ⟨h1, fun h3 => h2 (hsub _ _ h3)⟩
  have fr : Frz w' (MM Mc m'.ow m'.lo) (MM Mc m2.ow m2.lo) id L :=
    { goes := gs, box := b1, out := fun o => by
        rintro (h1 | ⟨h1, _⟩)
        · have := hs.callers id o h1; omega
        · simp [m2] at h1 }
  refine ⟨m2, ?_, ?_⟩
  · exact
      { os := he.os, tape := he.tape, output := he.output, grown := he.grown, old := he.old, oldB := he.oldB
        mine := fun b hb => by
          simp only [m2] at hb
          split at hb
          · cases hb
          · exact he.mine b hb
        blks := fun b hb => by
          have : b ≠ id := by rintro rfl; rw [hBid] at hb; cases hb
          simp only [m2, if_neg this]; exact he.blks b hb
        objlo := fun b hb => by
          simp only [m2] at hb ⊢
          split at hb
          · cases hb
          · exact he.objlo b hb
        objs := fun j x hx => by
          obtain ⟨h1, x', h2, h3⟩ := g4 j x hx
          obtain ⟨⟨cs, e, c1, c2, c3, c4⟩, h5⟩ := he.objs j x' h2
          exact ⟨⟨cs, e, c1, c2, c3, fr.repV h3 c4⟩, by simp only [m2, if_neg h1]; exact h5⟩
        objs0 := g5 }
  · cases r with
    | v x =>
      simp only [R.Fz] at g3; obtain ⟨y, rfl, g3⟩ := g3
      exact fr.repW g3 hr
    | own x =>
      simp only [R.Fz] at g3
      rcases g3 with rfl | rfl
      · obtain ⟨h1, t, a, cap, h2, h3⟩ := hr
        refine ⟨h1.goes gs, t, a, cap, h2, ?_⟩
        rcases h3 with h3 | ⟨b, o, e, k0, k1, k2, k3, k4, k5⟩
        · exact .inl h3
        · have hb : b ≠ id := by rintro rfl; rw [b2] at k2; cases k2
          exact .inr ⟨b, o, e, k0, k1, by simp only [m2, if_neg hb]; exact k2, k3, k4, k5⟩
      · exact RepW.goes gs hr.1
    | tup l =>
      simp only [R.Fz] at g3; obtain ⟨mm, rfl, g3⟩ := g3
      obtain ⟨vs', e1, e2, e3⟩ := hr
      obtain ⟨k1, k2⟩ := g3.get
      refine ⟨vs', e1, by rw [e2, k1], fun i y hy => ?_⟩
      obtain ⟨x, hx, hxy⟩ := k2 i y hy
      obtain ⟨u, hu, hru⟩ := e3 i x hx
      exact ⟨u, hu, fr.repW hxy hru⟩
theorem Ret.fz {E:Env} {g:Nat} {vs:List V} {G:List (Nat×V)} {Q:R→List (Nat×V)→Prop}
  (h:Ret E g vs G (fun r G'=>∃id L k r2 G2,look G id=none∧look G' id=some (.agg L)∧R.Fz id L k r r2∧(∀j x,look G2 j=some x→j≠id∧∃x',look G' j=some x'∧V.Fz id L k x' x)∧
   (∀j r,look G j=some r→∃r',look G2 j=some r'∧r.same r'=true)∧Q r2 G2)):Ret E g vs G Q:=by
 apply Ret0.ret
 intro Mc B w args hs hd hn hv
 refine Calls.mono (h Mc B w args hs hn hv) ?_
 rintro e w' ⟨v,r,G',m',rfl,⟨id,L,k,r2,G2,g1,g2,g3,g4,g5,hq⟩,he,hr⟩
 obtain⟨m2,h1,h2⟩:=Ended.fz hs hd he hr g1 g2 g3 g4 g5
 exact⟨v,r2,G2,m2,rfl,hq,h1,h2⟩
end Go.Abs
namespace Go.Abs
open Go Go.RowKit
set_option linter.unusedVariables false
set_option linter.unusedSimpArgs false
mutual
/-- A value, and the value in which rows of no elements may stand for nil. -/
def V.Wk:V→V→Prop
 | .agg l,y=>∃m,y= .agg m∧V.WkL l m
 | .sle sz l,y=>∃m,y= .sle sz m∧V.WkL l m
 | .nils,y=>y= .nils∨(∃k,y= .sli k [])∨∃sz,y= .sle sz []
 | .sob id sz off n c,y=>y= .sob id sz off n c∨(n=0∧((∃k,y= .sli k [])∨∃s,y= .sle s []))
 |x,y=>y=x
def V.WkL:List V→List V→Prop
 |[],m=>m=[]
 |x::l,m=>∃y m',m=y::m'∧V.Wk x y∧V.WkL l m'
end
mutual
theorem V.Wk.refl:∀x:V,V.Wk x x
 | .agg l=>by simp only[V.Wk];exact⟨l,rfl,V.WkL.refl l⟩
 | .sle sz l=>by simp only[V.Wk];exact⟨l,rfl,V.WkL.refl l⟩
 | .nils=>by unfold V.Wk;exact .inl rfl
 | .sob .. =>by unfold V.Wk;exact .inl rfl
 | .int .. | .bool .. | .str .. | .arr .. | .sli .. | .ptr .. | .nilp| .nili| .fn .. =>by simp only[V.Wk]
theorem V.WkL.refl:∀l:List V,V.WkL l l
 |[]=>by simp only[V.WkL]
 |x::l=>by simp only[V.WkL];exact⟨x,l,rfl,V.Wk.refl x,V.WkL.refl l⟩
end
mutual
theorem V.Wk.shape:∀{x y:V},V.Wk x y→y.isAgg=x.isAgg∧y.size=x.size∧x.same y=true
 | .agg l,y,h=>by
  simp only[V.Wk]at h;obtain⟨m,rfl,h⟩:=h
  obtain⟨h1,h2,_⟩:=V.WkL.shape h
  exact⟨rfl,by simp only[V.size];exact h1,by simp only[V.same];exact h2⟩
 | .sle sz l,y,h=>by simp only[V.Wk]at h;obtain⟨m,rfl,h⟩:=h;exact⟨rfl,rfl,rfl⟩
 | .nils,y,h=>by
  simp only[V.Wk]at h
  rcases h with rfl|⟨k,rfl⟩|⟨sz,rfl⟩<;>exact⟨rfl,rfl,rfl⟩
 | .sob ..,y,h=>by
  simp only[V.Wk]at h
  rcases h with rfl|⟨_,⟨k,rfl⟩|⟨s,rfl⟩⟩<;>exact⟨rfl,rfl,rfl⟩
 | .int ..,y,h| .bool ..,y,h| .str ..,y,h| .sli ..,y,h| .ptr ..,y,h| .nilp,y,h| .nili,y,h| .fn ..,y,h=>by
  simp only[V.Wk]at h;subst h;exact⟨rfl,rfl,rfl⟩
 | .arr ..,y,h=>by simp only[V.Wk]at h;subst h;exact⟨rfl,rfl,V.same_refl _⟩
theorem V.WkL.shape:∀{l m:List V},V.WkL l m→V.sizeL m=V.sizeL l∧V.sameL l m=true∧m.length=l.length
 |[],m,h=>by simp only[V.WkL]at h;subst h;exact⟨rfl,rfl,rfl⟩
 |x::l,m,h=>by
  simp only[V.WkL]at h;obtain⟨y,m',rfl,h1,h2⟩:=h
  obtain⟨_,a1,a2⟩:=V.Wk.shape h1
  obtain⟨b1,b2,b3⟩:=V.WkL.shape h2
  exact⟨by simp only[V.sizeL,a1,b1],by simp only[V.sameL,a2,b2,Bool.and_self],by simp[b3]⟩
end
mutual
theorem V.Wk.repV {w:World} {M:Nat→Nat→Prop}:∀{x y:V} {cs:List Value},V.Wk x y→RepV w M x cs→RepV w M y cs
 | .agg l,y,cs,h,hr=>by
  simp only[V.Wk]at h;obtain⟨m,rfl,h⟩:=h
  simp only[RepV]at hr⊢;exact V.WkL.repL h hr
 | .sle sz l,y,cs,h,hr=>by
  simp only[V.Wk]at h;obtain⟨m,rfl,h⟩:=h
  simp only[RepV]at hr⊢;obtain⟨a,cap,h1,h2,h3,h4⟩:=hr
  have hl:=(V.WkL.shape h).2.2
  exact⟨a,cap,by rw[hl];exact h1,by rw[hl];exact h2,h3,fun p hp=>V.WkL.repE h (h4 p hp)⟩
 | .nils,y,cs,h,hr=>by
  simp only[V.Wk]at h
  simp only[RepV]at hr;subst hr
  rcases h with rfl|⟨k,rfl⟩|⟨sz,rfl⟩
  ·rfl
  ·simp only[RepV];exact⟨none,0,rfl,Nat.le_refl _,fun _=>rfl,fun p h=>by cases h⟩
  ·simp only[RepV];exact⟨none,0,rfl,Nat.le_refl _,fun _=>rfl,fun p h=>by cases h⟩
 | .int ..,y,cs,h,hr| .bool ..,y,cs,h,hr| .str ..,y,cs,h,hr| .arr ..,y,cs,h,hr| .sli ..,y,cs,h,hr| .ptr ..,y,cs,h,hr| .nilp,y,cs,h,hr| .nili,y,cs,h,hr| .fn ..,y,cs,h,hr=>by
  simp only[V.Wk]at h;subst h;exact hr
 | .sob ..,y,cs,h,hr=>by
  simp only[V.Wk]at h
  rcases h with rfl|⟨hn,h⟩
  ·exact hr
  ·simp only[RepV]at hr;obtain⟨h1,ad,rfl,h2⟩:=hr;subst hn
   have hz:ad=none→∀(c:Nat) (q:Addr),(c≠0→ad=some q)→c=0:=fun e c q h=>by
    rcases Nat.eq_zero_or_pos c with hc|hc
    ·exact hc
    ·rw[e]at h;exact absurd (h (by omega)) (by simp)
   rcases h with⟨k,rfl⟩|⟨s,rfl⟩
   ·simp only[RepV];exact⟨ad,_,rfl,Nat.zero_le _,fun e=>hz e _ _ h2,fun p hp i v hv=>by simp at hv⟩
   ·simp only[RepV];exact⟨ad,_,rfl,Nat.zero_le _,fun e=>hz e _ _ h2,fun p hp=>by simp only[RepE]⟩
theorem V.WkL.repL {w:World} {M:Nat→Nat→Prop}:∀{l m:List V} {cs:List Value},V.WkL l m→RepL w M l cs→RepL w M m cs
 |[],m,cs,h,hr=>by simp only[V.WkL]at h;subst h;exact hr
 |x::l,m,cs,h,hr=>by
  simp only[V.WkL]at h;obtain⟨y,m',rfl,h1,h2⟩:=h
  simp only[RepL]at hr⊢;obtain⟨c1,c2,rfl,h3,h4⟩:=hr
  exact⟨c1,c2,rfl,V.Wk.repV h1 h3,V.WkL.repL h2 h4⟩
theorem V.WkL.repE {w:World} {M:Nat→Nat→Prop} {sz:Nat}:∀{l m:List V} {p:Addr},V.WkL l m→RepE w M sz l p→RepE w M sz m p
 |[],m,p,h,hr=>by simp only[V.WkL]at h;subst h;exact hr
 |x::l,m,p,h,hr=>by
  simp only[V.WkL]at h;obtain⟨y,m',rfl,h1,h2⟩:=h
  simp only[RepE]at hr⊢;obtain⟨c,h3,h4,h5,h6⟩:=hr
  exact⟨c,V.Wk.repV h1 h3,h4,h5,V.WkL.repE h2 h6⟩
end
theorem V.Wk.repW {w:World} {M:Nat→Nat→Prop} {x y:V} {v:Value} (h:V.Wk x y) (hr:RepW w M x v):RepW w M y v:=by
 unfold RepW at hr⊢
 rw[h.shape.1]
 split at hr<;>rename_i hx
 ·rw[if_pos hx];obtain⟨cs,rfl,h1⟩:=hr;exact⟨cs,rfl,h.repV h1⟩
 ·rw[if_neg hx];exact h.repV hr
theorem V.WkL.get:∀{l m:List V},V.WkL l m→∀(i:Nat) y,m[i]? =some y→∃x,l[i]? =some x∧V.Wk x y
 |[],m,h=>by simp only[V.WkL]at h;subst h;exact fun i y hy=>by simp at hy
 |x::l,m,h=>by
  simp only[V.WkL]at h;obtain⟨y,m',rfl,h1,h2⟩:=h
  intro i z hz
  cases i with
  |zero=>simp at hz;subst hz;exact⟨x,rfl,h1⟩
  |succ i=>exact V.WkL.get h2 i z (by simpa using hz)
def WkG (G G2:List (Nat×V)):Prop:=(∀j x,look G2 j=some x→∃x',look G j=some x'∧V.Wk x' x)∧(∀j x,look G j=some x→∃x',look G2 j=some x'∧x.same x'=true)
theorem WkG.refl (G:List (Nat×V)):WkG G G:=⟨fun j x h=>⟨x,h,V.Wk.refl x⟩,fun j x h=>⟨x,h,V.same_refl x⟩⟩
theorem BoxAt.wk {w M b x y} (h:V.Wk x y) (hb:BoxAt w M b x):BoxAt w M b y:=by
 obtain⟨cs,e,h1,h2,h3,h4⟩:=hb
 exact⟨cs,e,h1,h2,h3,h.repV h4⟩
def R.Wk:R→R→Prop
 | .v x,r=>∃y,r= .v y∧V.Wk x y
 | .own x,r=>(∃y,r= .v y∧V.Wk x y)∨r= .own x∨(x= .nils∧∃y,r= .own y∧V.Wk x y)
 | .tup l,r=>∃m,r= .tup m∧V.WkL l m
theorem Ended.wk {Mc:Nat→Nat→Prop} {B:Nat→Bool} {w:World} {G:List (Nat×V)} {m':Mem} {w':World} {G':List (Nat×V)} {r:R} {v:Value} (h3:Ended Mc B w G m' w' G') (h4:RepR w' (MM Mc m'.ow m'.lo) m'.ow m'.lo r v) {r2:R} {G2:List (Nat×V)} (k1:R.Wk r r2) (k2:WkG G' G2):
  Ended Mc B w G m' w' G2∧RepR w' (MM Mc m'.ow m'.lo) m'.ow m'.lo r2 v:=by
 refine⟨{ h3 with objs:=fun id x hx=> ?_,objs0:=fun id r hr=> ?_ },?_⟩
 ·obtain⟨x',e1,e2⟩:=k2.1 id x hx
  obtain⟨e3,e4⟩:=h3.objs id x' e1
  exact⟨e3.wk e2,e4⟩
 ·obtain⟨r',e3,e4⟩:=h3.objs0 id r hr
  obtain⟨x',e1,e2⟩:=k2.2 id r' e3
  exact⟨x',e1,V.same_trans' e4 e2⟩
 ·cases r with
  |v x=>
   simp only[R.Wk]at k1;obtain⟨y,rfl,k1⟩:=k1
   exact k1.repW h4
  |own x=>
   simp only[R.Wk]at k1
   rcases k1 with⟨y,rfl,k1⟩|rfl|⟨rfl,y,rfl,k1⟩
   ·exact k1.repW h4.1
   ·exact h4
   ·have hv:v= .slice none 0 0:=by simpa [RepW,V.isAgg,RepV]using h4.1
    refine⟨k1.repW h4.1,0,none,0,?_,.inl ?_⟩
    ·subst hv
     simp only[V.Wk]at k1
     rcases k1 with rfl|⟨k,rfl⟩|⟨sz,rfl⟩<;>rfl
    ·simp only[V.Wk]at k1
     rcases k1 with rfl|⟨k,rfl⟩|⟨sz,rfl⟩<;>rfl
  |tup l=>
   simp only[R.Wk]at k1;obtain⟨mm,rfl,k1⟩:=k1
   obtain⟨vs',e1,e2,e3⟩:=h4
   refine⟨vs',e1,by rw[e2,k1.shape.2.2],fun i y hy=> ?_⟩
   obtain⟨x,hx,hxy⟩:=k1.get i y hy
   obtain⟨u,hu,hru⟩:=e3 i x hx
   exact⟨u,hu,hxy.repW hru⟩
theorem Ret.drop {E g vs G Q} (h:Ret E g vs G (fun r G'=>∃G2,(∀j x,look G2 j=some x→look G' j=some x)∧(∀j r,look G j=some r→∃r',look G2 j=some r'∧r.same r'=true)∧Q r G2)):Ret E g vs G Q:=by
 intro Mc B w args hs ha hr
 refine Calls.mono (h Mc B w args hs ha hr) ?_
 rintro e w' ⟨v,r,G',m',rfl,⟨G2,k1,k2,hq⟩,h3,h4⟩
 exact⟨v,r,G2,m',rfl,hq,{ h3 with objs:=fun id x hx=>h3.objs id x (k1 id x hx),objs0:=k2 },h4⟩
end Go.Abs
namespace Go.Abs
open Go Go.RowKit
set_option linter.unusedVariables false
set_option linter.unusedSimpArgs false
inductive Low (G:List (Nat×V)):R→List (Nat×V)→R→List (Nat×V)→Prop
 |refl (r G'):Low G r G' r G'
 |fz {r G' r1 G1 r2 G2} (id:Nat) (L:List V) (k:Option IntKind) (h0:look G id=none) (h1:look G' id=some (.agg L)) (h2:R.Fz id L k r r1) (h3:∀j x,look G1 j=some x→j≠id∧∃x',look G' j=some x'∧V.Fz id L k x' x)
   (h4:∀j r,look G j=some r→∃r',look G1 j=some r'∧r.same r'=true) (h:Low G r1 G1 r2 G2):Low G r G' r2 G2
 |wk {r G' r1 G1 r2 G2} (h1:R.Wk r r1) (h2:WkG G' G1) (h:Low G r1 G1 r2 G2):Low G r G' r2 G2
 |drop {r G' G1 r2 G2} (h1:∀j x,look G1 j=some x→look G' j=some x) (h2:∀j r,look G j=some r→∃r',look G1 j=some r'∧r.same r'=true) (h:Low G r G1 r2 G2):Low G r G' r2 G2
theorem Low.ended {E:Env} {Mc:Nat→Nat→Prop} {B:Nat→Bool} {w:World} {G:List (Nat×V)} (hs:Start E Mc B w G) (hd:∀b,B b=true→∃x,look G b=some x) {w':World} {v:Value} {r r2:R} {G' G2:List (Nat×V)} (h:Low G r G' r2 G2):
  ∀m',Ended Mc B w G m' w' G'→RepR w' (MM Mc m'.ow m'.lo) m'.ow m'.lo r v→∃m2,Ended Mc B w G m2 w' G2∧RepR w' (MM Mc m2.ow m2.lo) m2.ow m2.lo r2 v:=by
 induction h with
 |refl r G'=>exact fun m' h1 h2=>⟨m',h1,h2⟩
 |fz id L k h0 h1 h2 h3 h4 h ih=>
  intro m' he hr
  obtain⟨m2,e1,e2⟩:=Ended.fz hs hd he hr h0 h1 h2 h3 h4
  exact ih m2 e1 e2
 |wk h1 h2 h ih=>
  intro m' he hr
  obtain⟨e1,e2⟩:=Ended.wk he hr h1 h2
  exact ih m' e1 e2
 |drop h1 h2 h ih=>
  intro m' he hr
  exact ih m' { he with objs:=fun id x hx=>he.objs id x (h1 id x hx),objs0:=h2 } hr
theorem Ret.low {E:Env} {g:Nat} {vs:List V} {G:List (Nat×V)} {Q:R→List (Nat×V)→Prop} (h:Ret E g vs G (fun r G'=>∃r2 G2,Low G r G' r2 G2∧Q r2 G2)):Ret E g vs G Q:=by
 apply Ret0.ret
 intro Mc B w args hs hd hn hv
 refine Calls.mono (h Mc B w args hs hn hv) ?_
 rintro e w' ⟨v,r,G',m',rfl,⟨r2,G2,hl,hq⟩,he,hr⟩
 obtain⟨m2,h1,h2⟩:=hl.ended hs hd m' he hr
 exact⟨v,r2,G2,m2,rfl,hq,h1,h2⟩
def Ext (G G':List (Nat×V)):Prop:=∀j x,look G j=some x→look G' j=some x
theorem Ext.refl (G:List (Nat×V)):Ext G G:=fun _ _ h=>h
theorem Ext.trans {G G' G'':List (Nat×V)} (h:Ext G G') (h':Ext G' G''):Ext G G'':=fun j x hx=>h' j x (h j x hx)
theorem Ext.cons {G:List (Nat×V)} {id:Nat} {x:V} (h:look G id=none):Ext G ((id,x)::G):=fun j y hj=>by
 have hne:j≠id:=by rintro rfl;rw[h]at hj;cases hj
 rw[look_cons,if_neg hne];exact hj
theorem Ext.cons' {G G':List (Nat×V)} {id:Nat} {x:V} (h:Ext G G') (h2:look G id=none):Ext G ((id,x)::G'):=fun j y hj=>by
 have hne:j≠id:=by rintro rfl;rw[h2]at hj;cases hj
 rw[look_cons,if_neg hne];exact h j y hj
theorem Ext.upd {G G':List (Nat×V)} {id:Nat} {x:V} (h:Ext G G') (h2:look G id=none):Ext G (upd G' id x):=fun j y hj=>by
 have hne:j≠id:=by rintro rfl;rw[h2]at hj;cases hj
 rw[look_upd_ne hne];exact h j y hj
theorem Ext.none {G G':List (Nat×V)} (h:Ext G G') {id:Nat} (h2:look G' id=none):look G id=none:=by
 cases e:look G id with
 |none=>rfl
 |some x=>rw[h id x e]at h2;cases h2
theorem Low.dropAll {G:List (Nat×V)} {r:R} {G':List (Nat×V)} (h:Ext G G'):Low G r G' r G:=
 .drop (fun j x hj=>h j x hj) (fun j r hj=>⟨r,hj,V.same_refl r⟩) (.refl _ _)
def Row (G0 G:List (Nat×V)) (sz:Nat) (z:V) (x:V) (els:List V):Prop:=
 Ext G0 G∧((x= .nils∧els=[])∨∃id c L,x= .sob id sz 0 els.length c∧look G0 id=none∧look G id=some (.agg L)∧els.length≤c∧c≤L.length∧L.take els.length=els∧∀y∈L,V.size y=sz∧y.same z=true)
theorem Row.nil {G0 G:List (Nat×V)} {sz:Nat} {z:V} (h:Ext G0 G):Row G0 G sz z .nils []:=⟨h,.inl ⟨rfl,rfl⟩⟩
theorem Row.fz {G0 G:List (Nat×V)} {sz:Nat} {z x:V} {els:List V} (h:Row G0 G sz z x els) (ctx:V→R) (hf:∀id L k y,V.Fz id L k x y→R.Fz id L k (ctx x) (ctx y)) (hw:∀y,V.Wk x y→R.Wk (ctx x) (ctx y)):Low G0 (ctx x) G (ctx (.sle sz els)) G0:=by
 obtain⟨he,⟨rfl,rfl⟩|⟨id,c,L,rfl,h1,h2,h3,h4,h5,h6⟩⟩:=h
 ·refine .wk (r1:=ctx (.sle sz [])) (hw _ ?_) (WkG.refl _) (.dropAll he)
  unfold V.Wk;exact .inr (.inr ⟨_,rfl⟩)
 ·refine .fz id L none h1 h2 (hf id L none _ ?_) (fun j y hj=> ?_) (fun j r hj=>⟨r,hj,V.same_refl r⟩) (.refl _ _)
  ·unfold V.Fz
   refine .inr ⟨rfl,h3,by omega,fun y hy=>(h6 y hy).1,?_,fun k e=>by cases e⟩
   unfold elemsV;rw[List.drop_zero,h5]
  ·have hne:j≠id:=by rintro rfl;rw[h1]at hj;cases hj
   exact⟨hne,y,he j y hj,V.Fz.refl y⟩
theorem Row.lenI {G0 G:List (Nat×V)} {sz:Nat} {z x:V} {els:List V} (h:Row G0 G sz z x els):x.lenI=some (els.length:Int):=by
 obtain⟨he,⟨rfl,rfl⟩|⟨id,c,L,rfl,_⟩⟩:=h<;>rfl
theorem Row.app {G0:List (Nat×V)} {sz bytes:Nat} {z:V} {x:V} {els:List V} {y:V} {K:St→Prop} {σ:St} {dst:AD} (h:Row G0 σ.G sz z x els) (hb:((els.length+1:Nat):Int)*bytes≤140737488355328) (hy:V.size y=sz∧y.same z=true) (hz:V.size z=sz) (hsm:∀u∈els,V.size u=sz∧u.same z=true)
  (hK:∀x' G',Row G0 G' sz z x' (els++[y])→K (({ σ with G:=G' }:St).put dst (.v x'))):appRK sz bytes z K σ dst (some (.v x)) (some [y]):=by
 have new:∀el:List V,el=els++[y]→appNew sz z el K σ dst:=by
  rintro el rfl id c hid hc
  refine hK _ _ ⟨Ext.cons' h.1 (h.1.none hid),.inr ⟨id,c,_,rfl,h.1.none hid,by rw[look_cons,if_pos rfl],hc,by simp;omega,by rw[List.take_left],fun u hu=> ?_⟩⟩
  rcases List.mem_append.1 hu with hu|hu
  ·rcases List.mem_append.1 hu with hu|hu
   ·exact hsm u hu
   ·rw[List.mem_singleton.1 hu];exact hy
  ·rw[List.eq_of_mem_replicate hu];exact⟨hz,V.same_refl z⟩
 have h':=h
 obtain⟨he,⟨rfl,rfl⟩|⟨id,c,L,rfl,h1,h2,h3,h4,h5,h6⟩⟩:=h
 ·exact⟨⟨by simpa using hb,fun u hu=>by rw[List.mem_singleton.1 hu];exact hy.1⟩,(fun e=>by cases e),fun _=>new _ rfl⟩
 ·refine⟨rfl,?_⟩
  rw[h2]
  refine⟨⟨by simpa using hb,h3,by omega,fun u hu=>(h6 u hu).1,fun u hu=>by rw[List.mem_singleton.1 hu];exact hy.1⟩,fun hc=> ?_,fun hc=> ?_⟩
  ·have hc:els.length+1≤c:=by simpa using hc
   have hp:putL L (0+els.length) [y]=L.take els.length++(y::L.drop (els.length+1)):=by unfold putL;simp
   have hlt:els.length < L.length:=by omega
   have hs:V.sameL (putL L (0+els.length) [y]) L=true:=by
    rw[hp]
    have:=V.sameL_set (l:=L) (i:=els.length) (x:=L[els.length]) (y:=y) (List.getElem?_eq_getElem hlt) (V.same_trans' hy.2 (V.same_symm (h6 _ (List.getElem_mem hlt)).2))
    rw[List.set_eq_take_append_cons_drop,if_pos hlt]at this
    exact this
   refine⟨hs,hK _ _ ⟨Ext.upd he h1,.inr ⟨id,c,_,by simp,h1,look_upd_same h2,by simpa using hc,?_,?_,?_⟩⟩⟩
   ·rw[hp];simp;omega
   ·rw[hp,List.length_append,List.length_singleton,h5]
    rw[List.take_append,List.take_of_length_le (by omega)]
    simp
   ·intro u hu
    rw[hp]at hu
    rcases List.mem_append.1 hu with hu|hu
    ·exact h6 u (List.mem_of_mem_take hu)
    ·rcases List.mem_cons.1 hu with rfl|hu
     ·exact hy
     ·exact h6 u (List.mem_of_mem_drop hu)
  ·exact new _ (by rw[List.drop_zero,h5])
end Go.Abs
